/-
  Walks: each Go function, called with what reads as plain data, returns what its plain program computes.
  Conditions: None beyond the given statement.
-/
import Derived.Test.YtjdcdcipilhmeaaW0
namespace Go.Proofs.Ytjdcdcipilhmeaa
open Go
attribute [local irreducible] setL setB opA fineI idleI fineB evB okB markB markBs readyB readyBs chainB lk rho pickL dropSlot tailOK
set_option maxRecDepth 100000 in
set_option maxHeartbeats 4000000 in
theorem w_impl_matrixBy_F_impl_multiply_1 (h : Heap) (m_ : Int) (n_ : Int) (entry0 : List (List Int)) (aentry0 : Option Addr) (centry0 : Nat) (rentry0 : Rd cd23 h (Lt h) aentry0 centry0 entry0) (bentry0 : Nat) (ventry0 : VarAt h bentry0 22 [.slice aentry0 entry0.length centry0]) (entry1 : List (List Int)) (aentry1 : Option Addr) (centry1 : Nat) (rentry1 : Rd cd23 h (Lt h) aentry1 centry1 entry1) (bentry1 : Nat) (ventry1 : VarAt h bentry1 22 [.slice aentry1 entry1.length centry1]) (n : Nat) (r : (List (List Int))) (hF : impl_matrixBy_F_impl_multiply_1 m_ n_ entry0 entry1 n = some r) :
    Fn Try.prog 137 #[.int .i64 m_, .int .i64 n_, .func (.func 140) #[] #[.pointer (some ⟨bentry0, 0, none⟩), .pointer (some ⟨bentry1, 0, none⟩)]] h fun v h' => ∃ (a0 : Option Addr) (c0 : Nat), v = .slice a0 r.length c0 ∧ Hold h h' [own cd23 a0 r.length c0 r] := by
  unfold impl_matrixBy_F_impl_multiply_1 at hF
  refine Fn_enter (args := [.int .i64 m_, .int .i64 n_, .func (.func 140) #[] #[.pointer (some ⟨bentry0, 0, none⟩), .pointer (some ⟨bentry1, 0, none⟩)]]) Try.func137 rfl (by kernel_rfl) (by kernel_rfl) (fun w0 _ => ?_)
  have H0 := Hold.init h
  refine Run_seq ?_
  refine Run_reg 1 (by kernel_rfl) (L' := [(0, .int .i64 m_), (1, .int .i64 n_), (2, .func (.func 140) #[] #[.pointer (some ⟨bentry0, 0, none⟩), .pointer (some ⟨bentry1, 0, none⟩)])]) ?_ ?_
  · refine QRun_b [.slice none 0 0] 0 _ (by kernel_rfl) (fun w => by kernel_rfl) ?_
    exact QRun_done [0, 1, 2] (by kernel_rfl) (by kernel_rfl)
  refine Run_seq ?_
  refine Run_ops ?_
  refine Run_b [.int .i64 m_] 0 _ (by kernel_rfl) (fun w => by kernel_rfl) ?_
  obtain ⟨l1, hl1, hF⟩ := M.bind_some hF
  have hl1 := M.make_some hl1
  refine Run_E (by kernel_rfl) ?_
  refine E_make cd23 [] (kl := .i64) (kc := .i64) H0 cd23_ti Try.underlying22 (by decide) cd23_zero (by kernel_rfl) hl1 (fun a1 h1 H1 => ?_)
  refine Run_b [.slice a1 l1.length l1.length] 2 _ (by kernel_rfl) (fun w => by kernel_rfl) ?_
  refine Run_nil (by kernel_rfl) ?_
  refine Run_keep [1, 2, 7] (L' := [(1, .int .i64 n_), (2, .func (.func 140) #[] #[.pointer (some ⟨bentry0, 0, none⟩), .pointer (some ⟨bentry1, 0, none⟩)]), (7, .slice a1 l1.length l1.length)]) (by kernel_rfl) ?_
  refine Run_seq ?_
  refine Run_seq ?_
  refine Run_reg 3 (by kernel_rfl) (L' := [(1, .int .i64 n_), (2, .func (.func 140) #[] #[.pointer (some ⟨bentry0, 0, none⟩), .pointer (some ⟨bentry1, 0, none⟩)]), (7, .slice a1 l1.length l1.length), (13, .int .i64 (l1.length : Int)), (14, .int .i64 0)]) ?_ ?_
  · refine QRun_b [.slice a1 l1.length l1.length, .int .i64 (l1.length : Int), .int .i64 0] 0 _ (by kernel_rfl) (fun w => by kernel_rfl) ?_
    exact QRun_done [1, 2, 7, 13, 14] (by kernel_rfl) (by kernel_rfl)
  obtain ⟨x1, gx1, hF⟩ := M.bind_some hF
  obtain ⟨hloy1, hhiy1, gx1⟩ := M.for_start gx1
  refine Run_join (fun L' h' => L' = [(7, .slice a1 l1.length l1.length)] ∧ Hold h h' [own cd23 a1 l1.length l1.length x1]) ?_ ?_
  · rintro _ h3 ⟨rfl, H3⟩
    refine Run_seq ?_
    refine Run_reg 2 (by kernel_rfl) (L' := [(6, .slice a1 l1.length l1.length)]) ?_ ?_
    · refine QRun_b [.slice a1 l1.length l1.length, .slice a1 l1.length l1.length] 0 _ (by kernel_rfl) (fun w => by kernel_rfl) ?_
      exact QRun_done [6] (by kernel_rfl) (by kernel_rfl)
    have hF := M.ret_some hF
    subst hF
    have H20 := H3.norm
    exact Run_ret1 rfl (ResV_tmp (v := .slice a1 l1.length l1.length) (by kernel_rfl)) ⟨a1, l1.length, (by simp only [(H3.len 0 rfl)]), H20⟩
  · refine Run_block ?_
    refine Run_keep [1, 2, 7, 13, 14] (L' := [(1, .int .i64 n_), (2, .func (.func 140) #[] #[.pointer (some ⟨bentry0, 0, none⟩), .pointer (some ⟨bentry1, 0, none⟩)]), (7, .slice a1 l1.length l1.length), (13, .int .i64 (l1.length : Int)), (14, .int .i64 0)]) (by kernel_rfl) ?_
    refine Run_loop (fun m L' h' => ∃ (i1 : Int) (s1 : (List (List Int))), 0 ≤ i1 ∧ M.forN (l1.length : Int) _ _ n m i1 s1 = some x1 ∧ L' = [(1, .int .i64 n_), (2, .func (.func 140) #[] #[.pointer (some ⟨bentry0, 0, none⟩), .pointer (some ⟨bentry1, 0, none⟩)]), (7, .slice a1 l1.length l1.length), (13, .int .i64 (l1.length : Int)), (14, .int .i64 i1)] ∧ Hold h h' [own cd23 a1 l1.length l1.length s1]) ((l1.length : Int) - 0 : Int).toNat ⟨0, l1, Int.le_refl _, gx1, rfl, H1⟩ ?_
    rintro my1 _ h2 ⟨i1, s1, hloy1', gx1, rfl, H2⟩
    refine Run_seq ?_
    refine Run_reg 1 (by kernel_rfl) (L' := [(1, .int .i64 n_), (2, .func (.func 140) #[] #[.pointer (some ⟨bentry0, 0, none⟩), .pointer (some ⟨bentry1, 0, none⟩)]), (7, .slice a1 l1.length l1.length), (13, .int .i64 (l1.length : Int)), (14, .int .i64 i1), (15, .bool (decide (i1 < (l1.length : Int))))]) ?_ ?_
    · refine QRun_b [.bool (decide (i1 < (l1.length : Int)))] 0 _ (by kernel_rfl) (fun w => by kernel_rfl) ?_
      exact QRun_done [1, 2, 7, 13, 14, 15] (by kernel_rfl) (by kernel_rfl)
    refine Run_seq ?_
    refine Run_cond (b := decide (i1 < (l1.length : Int))) (by kernel_rfl) (fun hb1 => ?_) (fun hb1 => ?_)
    · obtain ⟨my1, y1, rfl, hB1, hgoy1, houty1⟩ := M.for_go gx1 hb1
      have hlty1 := of_decide_eq_true hb1
      refine Run_skip ?_
      refine Run_seq ?_
      refine Run_block ?_
      refine Run_seq ?_
      refine Run_reg 2 (by kernel_rfl) (L' := [(1, .int .i64 n_), (2, .func (.func 140) #[] #[.pointer (some ⟨bentry0, 0, none⟩), .pointer (some ⟨bentry1, 0, none⟩)]), (7, .slice a1 l1.length l1.length), (8, .int .i64 i1), (13, .int .i64 (l1.length : Int)), (14, .int .i64 i1)]) ?_ ?_
      · refine QRun_b [.int .i64 i1, .int .i64 i1] 0 _ (by kernel_rfl) (fun w => by kernel_rfl) ?_
        exact QRun_done [1, 2, 7, 8, 13, 14] (by kernel_rfl) (by kernel_rfl)
      refine Run_seq ?_
      refine Run_ops ?_
      refine Run_b [.slice a1 l1.length l1.length, .int .i64 i1, .int .i64 n_] 0 _ (by kernel_rfl) (fun w => by kernel_rfl) ?_
      obtain ⟨l2, hl2, hB1⟩ := M.bind_some hB1
      have hl2 := M.make_some hl2
      refine Run_E (by kernel_rfl) ?_
      refine E_make cd2 0 (kl := .i64) (kc := .i64) H2 cd2_ti Try.underlying23 (by decide) cd2_zero (by kernel_rfl) hl2 (fun a2 h4 H4 => ?_)
      obtain ⟨x2, hx1, hB1⟩ := M.bind_some hB1
      obtain ⟨hx1l, hx1u, hx1⟩ := M.idx_some hx1
      refine Run_y (.pointer (some (adr a1 (i1.toNat * 1)))) (by kernel_rfl) (Y_idx (t := 22) (e := 23) (sz := 1) (a := a1) (n := l1.length) (cap := l1.length) (kk := .i64) (i := i1) (by kernel_rfl) Try.underlying22 (by kernel_rfl) ((H4.rd 1 rfl).cell hx1).1 hx1l (by rw [← (H4.len 1 rfl)]; exact hx1u)) ?_
      obtain ⟨l3, hu1, hB1⟩ := M.bind_some hB1
      have hu1 := M.upd_some hu1
      have H6 : Hold h h4 [own cd23 a1 l1.length l1.length s1, own cd2 a2 l2.length l2.length l2] := H4.pick [1, 0] (by kernel_rfl)
      have H7 : Hold h h4 [own cd2 a2 l2.length l2.length l2, own cd23 a1 l1.length l1.length s1] := H6.pick [1, 0] (by kernel_rfl)
      have H8 : Hold h h4 [own cd23 a1 l1.length l1.length s1, own cd2 a2 l2.length l2.length l2] := H7.pick [1, 0] (by kernel_rfl)
      refine Run_E (by kernel_rfl) ?_
      refine E_putRow (t := 23) (j := i1) H8 (by kernel_rfl) (by kernel_rfl) hu1 (fun h5 H5 => ?_)
      refine Run_nil (by kernel_rfl) ?_
      refine Run_keep [1, 2, 7, 8, 13, 14] (L' := [(1, .int .i64 n_), (2, .func (.func 140) #[] #[.pointer (some ⟨bentry0, 0, none⟩), .pointer (some ⟨bentry1, 0, none⟩)]), (7, .slice a1 l1.length l1.length), (8, .int .i64 i1), (13, .int .i64 (l1.length : Int)), (14, .int .i64 i1)]) (by kernel_rfl) ?_
      refine Run_seq ?_
      obtain ⟨x3, hx2, hB1⟩ := M.bind_some hB1
      obtain ⟨hx2l, hx2u, hx2⟩ := M.idx_some hx2
      have H9 := H5.toRows
      obtain ⟨a3, c1, H10⟩ := H9.pinRow hx2
      refine Run_reg 6 (by kernel_rfl) (L' := [(1, .int .i64 n_), (2, .func (.func 140) #[] #[.pointer (some ⟨bentry0, 0, none⟩), .pointer (some ⟨bentry1, 0, none⟩)]), (7, .slice a1 l1.length l1.length), (8, .int .i64 i1), (13, .int .i64 (l1.length : Int)), (14, .int .i64 i1), (26, .int .i64 (x3.length : Int)), (27, .int .i64 0)]) ?_ ?_
      · refine QRun_b [.slice a1 l1.length l1.length, .int .i64 i1] 0 _ (by kernel_rfl) (fun w => by kernel_rfl) ?_
        refine QRun_y (.pointer (some (adr a1 (i1.toNat * 1)))) (by kernel_rfl) (Y_idx (t := 22) (e := 23) (sz := 1) (a := a1) (n := l1.length) (cap := l1.length) (kk := .i64) (i := i1) (by kernel_rfl) Try.underlying22 (by kernel_rfl) ((H5.rd 0 rfl).cell hx2).1 hx2l (by rw [← (H5.len 0 rfl)]; exact hx2u)) ?_
        refine QRun_y (.slice a3 x3.length c1) (by kernel_rfl) (Y_load1 (t := 23) (p := adr a1 (i1.toNat * 1)) (v := .slice a3 x3.length c1) (by kernel_rfl) (fun w => by kernel_rfl) (H10.cellPin 0 rfl 0 rfl)) ?_
        refine QRun_b [.int .i64 (x3.length : Int), .int .i64 0] 4 _ (by kernel_rfl) (fun w => by kernel_rfl) ?_
        exact QRun_done [1, 2, 7, 8, 13, 14, 26, 27] (by kernel_rfl) (by kernel_rfl)
      obtain ⟨x4, gx4, hB1⟩ := M.bind_some hB1
      obtain ⟨hloy2, hhiy2, gx4⟩ := M.for_start gx4
      refine Run_join (fun L' h' => L' = [(1, .int .i64 n_), (2, .func (.func 140) #[] #[.pointer (some ⟨bentry0, 0, none⟩), .pointer (some ⟨bentry1, 0, none⟩)]), (7, .slice a1 l1.length l1.length), (13, .int .i64 (l1.length : Int)), (14, .int .i64 i1)] ∧ Hold h h' [own cd23 a1 l1.length l1.length x4]) ?_ ?_
      · rintro _ h7 ⟨rfl, H12⟩
        refine Run_blk ?_
        refine Run_reg 2 (by kernel_rfl) (L' := [(1, .int .i64 n_), (2, .func (.func 140) #[] #[.pointer (some ⟨bentry0, 0, none⟩), .pointer (some ⟨bentry1, 0, none⟩)]), (7, .slice a1 l1.length l1.length), (13, .int .i64 (l1.length : Int)), (14, .int .i64 (i1 + 1))]) ?_ ?_
        · refine QRun_y (.int .i64 (i1 + 1)) (by kernel_rfl) (Y_eq (v := .int .i64 (w64 (i1 + 1))) (Y_pure (fun w => by kernel_rfl)) (by rw [w64_eq _ (by omega)])) ?_
          refine QRun_b [.int .i64 (i1 + 1)] 1 _ (by kernel_rfl) (fun w => by kernel_rfl) ?_
          exact QRun_done [1, 2, 7, 13, 14] (by kernel_rfl) (by kernel_rfl)
        have hB1 := M.ret_some hB1
        have gx1 := hgoy1 _ hB1.symm
        exact Run_again [1, 2, 7, 13, 14] (by kernel_rfl) my1 (Nat.lt_succ_self _) ⟨i1 + 1, x4, by omega, gx1, rfl, H12⟩
      · refine Run_block ?_
        have H19 := H10.ofRows
        refine Run_keep [1, 2, 7, 8, 13, 14, 26, 27] (L' := [(1, .int .i64 n_), (2, .func (.func 140) #[] #[.pointer (some ⟨bentry0, 0, none⟩), .pointer (some ⟨bentry1, 0, none⟩)]), (7, .slice a1 l1.length l1.length), (8, .int .i64 i1), (13, .int .i64 (l1.length : Int)), (14, .int .i64 i1), (26, .int .i64 (x3.length : Int)), (27, .int .i64 0)]) (by kernel_rfl) ?_
        refine Run_loop (fun m L' h' => ∃ (i2 : Int) (s2 : (List (List Int))), 0 ≤ i2 ∧ M.forN (x3.length : Int) _ _ n m i2 s2 = some x4 ∧ L' = [(1, .int .i64 n_), (2, .func (.func 140) #[] #[.pointer (some ⟨bentry0, 0, none⟩), .pointer (some ⟨bentry1, 0, none⟩)]), (7, .slice a1 l1.length l1.length), (8, .int .i64 i1), (13, .int .i64 (l1.length : Int)), (14, .int .i64 i1), (26, .int .i64 (x3.length : Int)), (27, .int .i64 i2)] ∧ Hold h h' [own cd23 a1 l1.length l1.length s2]) ((x3.length : Int) - 0 : Int).toNat ⟨0, l3, Int.le_refl _, gx4, rfl, H19⟩ ?_
        rintro my2 _ h6 ⟨i2, s2, hloy2', gx4, rfl, H11⟩
        refine Run_seq ?_
        refine Run_reg 1 (by kernel_rfl) (L' := [(1, .int .i64 n_), (2, .func (.func 140) #[] #[.pointer (some ⟨bentry0, 0, none⟩), .pointer (some ⟨bentry1, 0, none⟩)]), (7, .slice a1 l1.length l1.length), (8, .int .i64 i1), (13, .int .i64 (l1.length : Int)), (14, .int .i64 i1), (26, .int .i64 (x3.length : Int)), (27, .int .i64 i2), (28, .bool (decide (i2 < (x3.length : Int))))]) ?_ ?_
        · refine QRun_b [.bool (decide (i2 < (x3.length : Int)))] 0 _ (by kernel_rfl) (fun w => by kernel_rfl) ?_
          exact QRun_done [1, 2, 7, 8, 13, 14, 26, 27, 28] (by kernel_rfl) (by kernel_rfl)
        refine Run_seq ?_
        refine Run_cond (b := decide (i2 < (x3.length : Int))) (by kernel_rfl) (fun hb2 => ?_) (fun hb2 => ?_)
        · obtain ⟨my2, y2, rfl, hB2, hgoy2, houty2⟩ := M.for_go gx4 hb2
          have hlty2 := of_decide_eq_true hb2
          refine Run_skip ?_
          refine Run_seq ?_
          refine Run_block ?_
          refine Run_seq ?_
          refine Run_reg 2 (by kernel_rfl) (L' := [(1, .int .i64 n_), (2, .func (.func 140) #[] #[.pointer (some ⟨bentry0, 0, none⟩), .pointer (some ⟨bentry1, 0, none⟩)]), (7, .slice a1 l1.length l1.length), (8, .int .i64 i1), (9, .int .i64 i2), (13, .int .i64 (l1.length : Int)), (14, .int .i64 i1), (26, .int .i64 (x3.length : Int)), (27, .int .i64 i2)]) ?_ ?_
          · refine QRun_b [.int .i64 i2, .int .i64 i2] 0 _ (by kernel_rfl) (fun w => by kernel_rfl) ?_
            exact QRun_done [1, 2, 7, 8, 9, 13, 14, 26, 27] (by kernel_rfl) (by kernel_rfl)
          obtain ⟨x5, hx3, hB2⟩ := M.bind_some hB2
          obtain ⟨hx3l, hx3u, hx3⟩ := M.idx_some hx3
          have H13 := H11.toRows
          obtain ⟨a4, c2, H14⟩ := H13.pinRow hx3
          obtain ⟨x6, hx4, hB2⟩ := M.bind_some hB2
          obtain ⟨x7, hx5, hB2⟩ := M.bind_some hB2
          obtain ⟨hx5l, hx5u, hx5⟩ := M.idx_some hx5
          refine Run_D (fun x => Hold h x [rowsP cd2 23 a1 l1.length l1.length s2 [(i1.toNat, a4, x5.length, c2, x5)]]) (fun x => Hold h x [rowsP cd2 23 a1 l1.length l1.length s2 [(i1.toNat, a4, x5.length, c2, x5)]]) mixed (by kernel_rfl) H14 Hold.stable (fun x Hy => (show Hold h x [rowsP cd2 23 a1 l1.length l1.length s2 [(i1.toNat, a4, x5.length, c2, x5)]] from Hy).pick [0] (by kernel_rfl)) ?_
          refine DR_b 9 [.slice a1 l1.length l1.length, .int .i64 i1] 0 (by kernel_rfl) (by kernel_rfl) (by kernel_rfl) (fun w => by kernel_rfl) ?_
          refine DR_y 8 (i := 2) (.pointer (some (adr a1 (i1.toNat * 1)))) (by kernel_rfl) (by kernel_rfl) (by kernel_rfl) (fun hx Hx => (YE.of (Y_idx (t := 22) (e := 23) (sz := 1) (a := a1) (n := l1.length) (cap := l1.length) (kk := .i64) (i := i1) (by kernel_rfl) Try.underlying22 (by kernel_rfl) ((H11.rd 0 rfl).cell hx3).1 hx3l (by rw [← (H11.len 0 rfl)]; exact hx3u)))) ?_
          refine DR_y 7 (i := 3) (.slice a4 x5.length c2) (by kernel_rfl) (by kernel_rfl) (by kernel_rfl) (fun hx Hx => (YE.of (Y_load1 (t := 23) (p := adr a1 (i1.toNat * 1)) (v := .slice a4 x5.length c2) (by kernel_rfl) (fun w => by kernel_rfl) (Hx.cellPin 0 rfl 0 rfl)))) ?_
          refine DR_b 3 [.int .i64 i2, .func (.func 140) #[] #[.pointer (some ⟨bentry0, 0, none⟩), .pointer (some ⟨bentry1, 0, none⟩)], .int .i64 i1, .int .i64 i2] 4 (by kernel_rfl) (by kernel_rfl) (by kernel_rfl) (fun w => by kernel_rfl) ?_
          refine DR_y 2 (i := 8) (.int .i64 x6) (by kernel_rfl) (by kernel_rfl) (by kernel_rfl) (fun hx Hx => (YE.of (Y_callq (f := 140) (args := #[.int .i64 i1, .int .i64 i2, .pointer (some ⟨bentry0, 0, none⟩), .pointer (some ⟨bentry1, 0, none⟩)]) (v := .int .i64 x6) (by kernel_rfl) (w_impl_multiply_1 hx i1 i2 entry0 aentry0 centry0 (rentry0.at Hx.ext) bentry0 (ventry0.at Hx.ext) entry1 aentry1 centry1 (rentry1.at Hx.ext) bentry1 (ventry1.at Hx.ext) _ _ hx4)))) ?_
          refine DR_y 1 (i := 9) (.pointer (some (adr a4 (i2.toNat * 1)))) (by kernel_rfl) (by kernel_rfl) (by kernel_rfl) (fun hx Hx => (YE.of (Y_idx (t := 23) (e := 2) (sz := 1) (a := a4) (n := x5.length) (cap := c2) (kk := .i64) (i := i2) (by kernel_rfl) Try.underlying23 (by kernel_rfl) ((H14.rdPin 0 rfl 0 rfl).cell hx5).1 hx5l hx5u))) ?_
          refine DR_tail (i := 10) (by kernel_rfl) (by kernel_rfl) (by kernel_rfl) (fun h8 H15 => ?_)
          have H16 : Hold h h8 [rowsP cd2 23 a1 l1.length l1.length s2 [(i1.toNat, a4, x5.length, c2, x5)]] := H15
          obtain ⟨l4, hu2, hB2⟩ := M.bind_some hB2
          have hu2 := M.upd_some hu2
          refine Run_E (by kernel_rfl) ?_
          refine E_put2 (C := cd2) (t := 2) (sz := 1) (j := i2) (x := x6) (v := .int .i64 x6) (m2 := s2.set i1.toNat l4) H16 cd2_flat 0 rfl (by kernel_rfl) rfl (cd2_own _) (by kernel_rfl) hu2 rfl (fun h9 H17 => ?_)
          refine Run_nil (by kernel_rfl) ?_
          refine Run_keep [1, 2, 7, 8, 13, 14, 26, 27] (L' := [(1, .int .i64 n_), (2, .func (.func 140) #[] #[.pointer (some ⟨bentry0, 0, none⟩), .pointer (some ⟨bentry1, 0, none⟩)]), (7, .slice a1 l1.length l1.length), (8, .int .i64 i1), (13, .int .i64 (l1.length : Int)), (14, .int .i64 i1), (26, .int .i64 (x3.length : Int)), (27, .int .i64 i2)]) (by kernel_rfl) ?_
          refine Run_blk ?_
          refine Run_reg 2 (by kernel_rfl) (L' := [(1, .int .i64 n_), (2, .func (.func 140) #[] #[.pointer (some ⟨bentry0, 0, none⟩), .pointer (some ⟨bentry1, 0, none⟩)]), (7, .slice a1 l1.length l1.length), (8, .int .i64 i1), (13, .int .i64 (l1.length : Int)), (14, .int .i64 i1), (26, .int .i64 (x3.length : Int)), (27, .int .i64 (i2 + 1))]) ?_ ?_
          · refine QRun_y (.int .i64 (i2 + 1)) (by kernel_rfl) (Y_eq (v := .int .i64 (w64 (i2 + 1))) (Y_pure (fun w => by kernel_rfl)) (by rw [w64_eq _ (by omega)])) ?_
            refine QRun_b [.int .i64 (i2 + 1)] 1 _ (by kernel_rfl) (fun w => by kernel_rfl) ?_
            exact QRun_done [1, 2, 7, 8, 13, 14, 26, 27] (by kernel_rfl) (by kernel_rfl)
          have H18 := H17.ofRows
          have hB2 := M.ret_some hB2
          have gx4 := hgoy2 _ hB2.symm
          exact Run_again [1, 2, 7, 8, 13, 14, 26, 27] (by kernel_rfl) my2 (Nat.lt_succ_self _) ⟨i2 + 1, (s2.set i1.toNat l4), by omega, gx4, rfl, H18⟩
        · have gx4 := M.for_end gx4 hb2
          subst gx4
          refine Run_exit (k' := _) rfl ?_
          exact Run_fall [1, 2, 7, 13, 14] (by kernel_rfl) ⟨rfl, H11⟩
    · have gx1 := M.for_end gx1 hb1
      subst gx1
      refine Run_exit (k' := _) rfl ?_
      exact Run_fall [7] (by kernel_rfl) ⟨rfl, H2⟩

set_option maxRecDepth 100000 in
set_option maxHeartbeats 4000000 in
theorem w_impl_multiply (h : Heap) (a_ : List (List Int)) (aa_ : Option Addr) (ca_ : Nat) (ra_ : Rd cd23 h (Lt h) aa_ ca_ a_) (b : List (List Int)) (ab : Option Addr) (cb : Nat) (rb : Rd cd23 h (Lt h) ab cb b) (n : Nat) (r : (List (List Int))) (hF : impl_multiply a_ b n = some r) :
    Fn Try.prog 85 #[.slice aa_ a_.length ca_, .slice ab b.length cb] h fun v h' => ∃ (a0 : Option Addr) (c0 : Nat), v = .slice a0 r.length c0 ∧ Hold h h' [own cd23 a0 r.length c0 r] := by
  unfold impl_multiply at hF
  refine Fn_enter (args := [.slice aa_ a_.length ca_, .slice ab b.length cb]) Try.func85 rfl (by kernel_rfl) (by kernel_rfl) (fun w0 _ => ?_)
  have H0 := Hold.init h
  refine Run_seq ?_
  refine Run_ops ?_
  refine Run_E (by kernel_rfl) ?_
  refine E_box (ty := 22) (cs := [.slice aa_ a_.length ca_]) H0 (fun w => by kernel_rfl) (fun b1 h1 H1 => ?_)
  refine Run_E (by kernel_rfl) ?_
  refine E_box (ty := 22) (cs := [.slice ab b.length cb]) H1 (fun w => by kernel_rfl) (fun b2 h2 H2 => ?_)
  refine Run_b [.slice none 0 0] 2 _ (by kernel_rfl) (fun w => by kernel_rfl) ?_
  refine Run_nil (by kernel_rfl) ?_
  refine Run_keep [2, 3] (L' := [(2, .pointer (some ⟨b1, 0, none⟩)), (3, .pointer (some ⟨b2, 0, none⟩))]) (by kernel_rfl) ?_
  refine Run_seq ?_
  obtain ⟨x1, hx1, hF⟩ := M.bind_some hF
  obtain ⟨hx1l, hx1u, hx1⟩ := M.idx_some hx1
  obtain ⟨a1, c1, hc1, r1⟩ := rb.row hx1
  refine Run_D (fun x => Hold h x [box b2 22 [.slice ab b.length cb], box b1 22 [.slice aa_ a_.length ca_]]) (fun x => Hold h x [box b2 22 [.slice ab b.length cb], box b1 22 [.slice aa_ a_.length ca_]]) mixed (by kernel_rfl) H2 Hold.stable (fun x Hy => (show Hold h x [box b2 22 [.slice ab b.length cb], box b1 22 [.slice aa_ a_.length ca_]] from Hy).pick [0, 1] (by kernel_rfl)) ?_
  refine DR_y 8 (i := 0) (.slice aa_ a_.length ca_) (by kernel_rfl) (by kernel_rfl) (by kernel_rfl) (fun hx Hx => (YE.of (Y_load1 (t := 22) (p := ⟨b1, 0, none⟩) (v := .slice aa_ a_.length ca_) (by kernel_rfl) (fun w => by kernel_rfl) (Hx.cell 1 rfl rfl)))) ?_
  refine DR_b 7 [.int .i64 (a_.length : Int)] 1 (by kernel_rfl) (by kernel_rfl) (by kernel_rfl) (fun w => by kernel_rfl) ?_
  refine DR_y 6 (i := 2) (.slice ab b.length cb) (by kernel_rfl) (by kernel_rfl) (by kernel_rfl) (fun hx Hx => (YE.of (Y_load1 (t := 22) (p := ⟨b2, 0, none⟩) (v := .slice ab b.length cb) (by kernel_rfl) (fun w => by kernel_rfl) (Hx.cell 0 rfl rfl)))) ?_
  refine DR_y 5 (i := 3) (.pointer (some (adr ab (0 * 1)))) (by kernel_rfl) (by kernel_rfl) (by kernel_rfl) (fun hx Hx => (YE.of (Y_idx (t := 22) (e := 23) (sz := 1) (a := ab) (n := b.length) (cap := cb) (kk := .i64) (i := 0) (by kernel_rfl) Try.underlying22 (by kernel_rfl) ((rb.at H2.ext).cell hx1).1 hx1l hx1u))) ?_
  refine DR_y 4 (i := 4) (.slice a1 x1.length c1) (by kernel_rfl) (by kernel_rfl) (by kernel_rfl) (fun hx Hx => (YE.of (Y_load1 (t := 23) (p := adr ab (0 * 1)) (v := .slice a1 x1.length c1) (by kernel_rfl) (fun w => by kernel_rfl) (cell_at Hx.ext hc1)))) ?_
  refine DR_b 2 [.int .i64 (x1.length : Int), .func (.func 140) #[] #[.pointer (some ⟨b1, 0, none⟩), .pointer (some ⟨b2, 0, none⟩)]] 5 (by kernel_rfl) (by kernel_rfl) (by kernel_rfl) (fun w => by kernel_rfl) ?_
  refine DR_tail (i := 7) (by kernel_rfl) (by kernel_rfl) (by kernel_rfl) (fun h3 H3 => ?_)
  have H4 : Hold h h3 [box b2 22 [.slice ab b.length cb], box b1 22 [.slice aa_ a_.length ca_]] := H3
  obtain ⟨x2, hx2, hF⟩ := M.bind_some hF
  refine Run_E (by kernel_rfl) ?_
  refine E_call (f := 137) (args := #[.int .i64 (a_.length : Int), .int .i64 (x1.length : Int), .func (.func 140) #[] #[.pointer (some ⟨b1, 0, none⟩), .pointer (some ⟨b2, 0, none⟩)]]) (w_impl_matrixBy_F_impl_multiply_1 h3 (a_.length : Int) (x1.length : Int) a_ aa_ ca_ (ra_.at H4.ext) b1 (H4.var 1 rfl) b ab cb (rb.at H4.ext) b2 (H4.var 0 rfl) _ _ hx2) (by kernel_rfl) (fun v1 h4 hp1 => ?_)
  obtain ⟨a2, c2, rfl, H5⟩ := hp1
  have H6 : Hold h h4 [own cd23 a2 x2.length c2 x2, box b2 22 [.slice ab b.length cb], box b1 22 [.slice aa_ a_.length ca_]] := H4.call H5 rfl
  refine Run_b [.slice a2 x2.length c2] 8 _ (by kernel_rfl) (fun w => by kernel_rfl) ?_
  refine Run_nil (by kernel_rfl) ?_
  refine Run_keep [4] (L' := [(4, .slice a2 x2.length c2)]) (by kernel_rfl) ?_
  have hF := M.ret_some hF
  subst hF
  have H7 : Hold h h4 [own cd23 a2 x2.length c2 x2] := H6.pick [0] (by kernel_rfl)
  exact Run_ret1 rfl (ResV_tmp (v := .slice a2 x2.length c2) (by kernel_rfl)) ⟨a2, c2, rfl, H7⟩

set_option maxRecDepth 100000 in
set_option maxHeartbeats 4000000 in
theorem w_impl_checkedMatrix_1 (h : Heap) (row : List Int) {Srow : Bs} (arow : Option Addr) (crow : Nat) (rrow : Rd cd2 h Srow arow crow row) (n : Nat) (r : Bool) (hF : impl_checkedMatrix_1 row n = some r) :
    Fn Try.prog 139 #[.slice arow row.length crow] h fun v h' => v = .bool r ∧ h' = h := by
  unfold impl_checkedMatrix_1 at hF
  refine Fn_enter (args := [.slice arow row.length crow]) Try.func139 rfl (by kernel_rfl) (by kernel_rfl) (fun w0 _ => ?_)
  refine Run_seq ?_
  refine Run_reg 1 (by kernel_rfl) (L' := [(0, .slice arow row.length crow)]) ?_ ?_
  · refine QRun_b [.bool false] 0 _ (by kernel_rfl) (fun w => by kernel_rfl) ?_
    exact QRun_done [0] (by kernel_rfl) (by kernel_rfl)
  refine Run_seq ?_
  obtain ⟨x1, hx1, hF⟩ := M.bind_some hF
  refine Run_reg 4 (by kernel_rfl) (L' := [(2, .bool (!x1))]) ?_ ?_
  · refine QRun_b [.slice arow row.length crow] 0 _ (by kernel_rfl) (fun w => by kernel_rfl) ?_
    refine QRun_y (.bool x1) (by kernel_rfl) (Y_callq (f := 102) (args := #[.slice arow row.length crow]) (v := .bool x1) (by kernel_rfl) (w_impl_areValues h row arow crow rrow _ _ hx1)) ?_
    refine QRun_b [.bool (!x1), .bool (!x1)] 2 _ (by kernel_rfl) (fun w => by kernel_rfl) ?_
    exact QRun_done [2] (by kernel_rfl) (by kernel_rfl)
  have hF := M.ret_some hF
  subst hF
  exact Run_ret1 rfl (ResV_tmp (v := .bool (!x1)) (by kernel_rfl)) ⟨rfl, rfl⟩

set_option maxRecDepth 100000 in
set_option maxHeartbeats 4000000 in
theorem w_slices_IndexFunc_row_F_impl_checkedMatrix_1 (h : Heap) (s_ : List (List Int)) {Ss_ : Bs} (as_ : Option Addr) (cs_ : Nat) (rs_ : Rd cd23 h Ss_ as_ cs_ s_) (n : Nat) (r : Int) (hF : slices_IndexFunc_row_F_impl_checkedMatrix_1 s_ n = some r) :
    Fn Try.prog 154 #[.slice as_ s_.length cs_, .func (.func 139) #[] #[]] h fun v h' => v = .int .i64 r ∧ h' = h := by
  unfold slices_IndexFunc_row_F_impl_checkedMatrix_1 at hF
  refine Fn_enter (args := [.slice as_ s_.length cs_, .func (.func 139) #[] #[]]) Try.func154 rfl (by kernel_rfl) (by kernel_rfl) (fun w0 _ => ?_)
  refine Run_seq ?_
  refine Run_reg 1 (by kernel_rfl) (L' := [(0, .slice as_ s_.length cs_), (1, .func (.func 139) #[] #[])]) ?_ ?_
  · refine QRun_b [.int .i64 0] 0 _ (by kernel_rfl) (fun w => by kernel_rfl) ?_
    exact QRun_done [0, 1] (by kernel_rfl) (by kernel_rfl)
  refine Run_seq ?_
  refine Run_seq ?_
  refine Run_reg 3 (by kernel_rfl) (L' := [(0, .slice as_ s_.length cs_), (1, .func (.func 139) #[] #[]), (7, .int .i64 (s_.length : Int)), (8, .int .i64 0)]) ?_ ?_
  · refine QRun_b [.slice as_ s_.length cs_, .int .i64 (s_.length : Int), .int .i64 0] 0 _ (by kernel_rfl) (fun w => by kernel_rfl) ?_
    exact QRun_done [0, 1, 7, 8] (by kernel_rfl) (by kernel_rfl)
  obtain ⟨x1, gx1, hF⟩ := M.bind_some hF
  obtain ⟨hloy1, hhiy1, gx1⟩ := M.for_start gx1
  refine Run_join (fun L' h' => ∃ (s2 : Unit), x1 = .inl s2 ∧ L' = [] ∧ h = h') ?_ ?_
  · rintro _ _ ⟨s2, es2, rfl, rfl⟩
    have hF := M.cont_inl' hF es2
    refine Run_seq ?_
    refine Run_reg 1 (by kernel_rfl) (L' := [(4, .int .i64 (-1))]) ?_ ?_
    · refine QRun_b [.int .i64 (-1)] 0 _ (by kernel_rfl) (fun w => by kernel_rfl) ?_
      exact QRun_done [4] (by kernel_rfl) (by kernel_rfl)
    have hF := M.ret_some hF
    subst hF
    exact Run_ret1 rfl (ResV_tmp (v := .int .i64 (-1)) (by kernel_rfl)) ⟨rfl, rfl⟩
  · refine Run_block ?_
    refine Run_keep [0, 1, 7, 8] (L' := [(0, .slice as_ s_.length cs_), (1, .func (.func 139) #[] #[]), (7, .int .i64 (s_.length : Int)), (8, .int .i64 0)]) (by kernel_rfl) ?_
    refine Run_loop (fun m L' h' => ∃ (i1 : Int) (s1 : Unit), 0 ≤ i1 ∧ M.forN (s_.length : Int) _ _ n m i1 s1 = some x1 ∧ L' = [(0, .slice as_ s_.length cs_), (1, .func (.func 139) #[] #[]), (7, .int .i64 (s_.length : Int)), (8, .int .i64 i1)] ∧ h = h') ((s_.length : Int) - 0 : Int).toNat ⟨0, (), Int.le_refl _, gx1, rfl, rfl⟩ ?_
    rintro my1 _ _ ⟨i1, s1, hloy1', gx1, rfl, rfl⟩
    refine Run_seq ?_
    refine Run_reg 1 (by kernel_rfl) (L' := [(0, .slice as_ s_.length cs_), (1, .func (.func 139) #[] #[]), (7, .int .i64 (s_.length : Int)), (8, .int .i64 i1), (9, .bool (decide (i1 < (s_.length : Int))))]) ?_ ?_
    · refine QRun_b [.bool (decide (i1 < (s_.length : Int)))] 0 _ (by kernel_rfl) (fun w => by kernel_rfl) ?_
      exact QRun_done [0, 1, 7, 8, 9] (by kernel_rfl) (by kernel_rfl)
    refine Run_seq ?_
    refine Run_cond (b := decide (i1 < (s_.length : Int))) (by kernel_rfl) (fun hb1 => ?_) (fun hb1 => ?_)
    · obtain ⟨my1, y1, rfl, hB1, hgoy1, houty1⟩ := M.for_go gx1 hb1
      have hlty1 := of_decide_eq_true hb1
      refine Run_skip ?_
      refine Run_seq ?_
      refine Run_block ?_
      refine Run_seq ?_
      refine Run_reg 2 (by kernel_rfl) (L' := [(0, .slice as_ s_.length cs_), (1, .func (.func 139) #[] #[]), (5, .int .i64 i1), (7, .int .i64 (s_.length : Int)), (8, .int .i64 i1)]) ?_ ?_
      · refine QRun_b [.int .i64 i1, .int .i64 i1] 0 _ (by kernel_rfl) (fun w => by kernel_rfl) ?_
        exact QRun_done [0, 1, 5, 7, 8] (by kernel_rfl) (by kernel_rfl)
      refine Run_seq ?_
      obtain ⟨x2, hx1, hB1⟩ := M.bind_some hB1
      obtain ⟨hx1l, hx1u, hx1⟩ := M.idx_some hx1
      obtain ⟨a1, c1, hc1, r1⟩ := rs_.row hx1
      obtain ⟨x3, hx2, hB1⟩ := M.bind_some hB1
      refine Run_reg 6 (by kernel_rfl) (L' := [(0, .slice as_ s_.length cs_), (1, .func (.func 139) #[] #[]), (5, .int .i64 i1), (7, .int .i64 (s_.length : Int)), (8, .int .i64 i1), (16, .bool x3)]) ?_ ?_
      · refine QRun_b [.func (.func 139) #[] #[], .slice as_ s_.length cs_, .int .i64 i1] 0 _ (by kernel_rfl) (fun w => by kernel_rfl) ?_
        refine QRun_y (.pointer (some (adr as_ (i1.toNat * 1)))) (by kernel_rfl) (Y_idx (t := 22) (e := 23) (sz := 1) (a := as_) (n := s_.length) (cap := cs_) (kk := .i64) (i := i1) (by kernel_rfl) Try.underlying22 (by kernel_rfl) (rs_.cell hx1).1 hx1l hx1u) ?_
        refine QRun_y (.slice a1 x2.length c1) (by kernel_rfl) (Y_load1 (t := 23) (p := adr as_ (i1.toNat * 1)) (v := .slice a1 x2.length c1) (by kernel_rfl) (fun w => by kernel_rfl) hc1) ?_
        refine QRun_y (.bool x3) (by kernel_rfl) (Y_callq (f := 139) (args := #[.slice a1 x2.length c1]) (v := .bool x3) (by kernel_rfl) (w_impl_checkedMatrix_1 h x2 a1 c1 r1 _ _ hx2)) ?_
        exact QRun_done [0, 1, 5, 7, 8, 16] (by kernel_rfl) (by kernel_rfl)
      refine Run_cond (b := x3) (by kernel_rfl) (fun hb2 => ?_) (fun hb2 => ?_)
      · have hB1 := (M.ite_some hB1).1 hb2
        refine Run_seq ?_
        refine Run_reg 2 (by kernel_rfl) (L' := [(4, .int .i64 i1)]) ?_ ?_
        · refine QRun_b [.int .i64 i1, .int .i64 i1] 0 _ (by kernel_rfl) (fun w => by kernel_rfl) ?_
          exact QRun_done [4] (by kernel_rfl) (by kernel_rfl)
        have hB1 := M.ret_some hB1
        have gx1 := houty1 _ hB1.symm
        have hF := M.cont_inr' hF gx1
        have hF := M.ret_some hF
        subst hF
        exact Run_ret1 rfl (ResV_tmp (v := .int .i64 i1) (by kernel_rfl)) ⟨rfl, rfl⟩
      · have hB1 := (M.ite_some hB1).2 hb2
        refine Run_skip ?_
        refine Run_blk ?_
        refine Run_reg 2 (by kernel_rfl) (L' := [(0, .slice as_ s_.length cs_), (1, .func (.func 139) #[] #[]), (7, .int .i64 (s_.length : Int)), (8, .int .i64 (i1 + 1))]) ?_ ?_
        · refine QRun_y (.int .i64 (i1 + 1)) (by kernel_rfl) (Y_eq (v := .int .i64 (w64 (i1 + 1))) (Y_pure (fun w => by kernel_rfl)) (by rw [w64_eq _ (by omega)])) ?_
          refine QRun_b [.int .i64 (i1 + 1)] 1 _ (by kernel_rfl) (fun w => by kernel_rfl) ?_
          exact QRun_done [0, 1, 7, 8] (by kernel_rfl) (by kernel_rfl)
        have hB1 := M.ret_some hB1
        have gx1 := hgoy1 _ hB1.symm
        exact Run_again [0, 1, 7, 8] (by kernel_rfl) my1 (Nat.lt_succ_self _) ⟨i1 + 1, (), by omega, gx1, rfl, rfl⟩
    · have gx1 := M.for_end gx1 hb1
      subst gx1
      refine Run_exit (k' := _) rfl ?_
      exact Run_fall [] (by kernel_rfl) ⟨(), rfl, rfl, rfl⟩

set_option maxRecDepth 100000 in
set_option maxHeartbeats 4000000 in
theorem w_slices_ContainsFunc_row_F_impl_checkedMatrix_1 (h : Heap) (s_ : List (List Int)) {Ss_ : Bs} (as_ : Option Addr) (cs_ : Nat) (rs_ : Rd cd23 h Ss_ as_ cs_ s_) (n : Nat) (r : Bool) (hF : slices_ContainsFunc_row_F_impl_checkedMatrix_1 s_ n = some r) :
    Fn Try.prog 135 #[.slice as_ s_.length cs_, .func (.func 139) #[] #[]] h fun v h' => v = .bool r ∧ h' = h := by
  unfold slices_ContainsFunc_row_F_impl_checkedMatrix_1 at hF
  refine Fn_enter (args := [.slice as_ s_.length cs_, .func (.func 139) #[] #[]]) Try.func135 rfl (by kernel_rfl) (by kernel_rfl) (fun w0 _ => ?_)
  refine Run_seq ?_
  refine Run_reg 1 (by kernel_rfl) (L' := [(0, .slice as_ s_.length cs_), (1, .func (.func 139) #[] #[])]) ?_ ?_
  · refine QRun_b [.bool false] 0 _ (by kernel_rfl) (fun w => by kernel_rfl) ?_
    exact QRun_done [0, 1] (by kernel_rfl) (by kernel_rfl)
  refine Run_seq ?_
  obtain ⟨x1, hx1, hF⟩ := M.bind_some hF
  refine Run_reg 5 (by kernel_rfl) (L' := [(4, .bool (decide (0 ≤ x1)))]) ?_ ?_
  · refine QRun_b [.slice as_ s_.length cs_, .func (.func 139) #[] #[]] 0 _ (by kernel_rfl) (fun w => by kernel_rfl) ?_
    refine QRun_y (.int .i64 x1) (by kernel_rfl) (Y_callq (f := 154) (args := #[.slice as_ s_.length cs_, .func (.func 139) #[] #[]]) (v := .int .i64 x1) (by kernel_rfl) (w_slices_IndexFunc_row_F_impl_checkedMatrix_1 h s_ as_ cs_ rs_ _ _ hx1)) ?_
    refine QRun_b [.bool (decide (0 ≤ x1)), .bool (decide (0 ≤ x1))] 3 _ (by kernel_rfl) (fun w => by kernel_rfl) ?_
    exact QRun_done [4] (by kernel_rfl) (by kernel_rfl)
  have hF := M.ret_some hF
  subst hF
  exact Run_ret1 rfl (ResV_tmp (v := .bool (decide (0 ≤ x1))) (by kernel_rfl)) ⟨rfl, rfl⟩

set_option maxRecDepth 100000 in
set_option maxHeartbeats 4000000 in
theorem w_impl_checkedMatrix (h : Heap) (a_ : List (List Int)) (aa_ : Option Addr) (ca_ : Nat) (ra_ : Rd cd23 h (Lt h) aa_ ca_ a_) (n : Nat) (r : (List (List Int)) × Int) (hF : impl_checkedMatrix a_ n = some r) :
    Fn Try.prog 84 #[.slice aa_ a_.length ca_] h fun v h' => ∃ (a0 : Option Addr) (c0 : Nat), v = .tuple #[.slice a0 r.1.length c0, .int .i64 r.2] ∧ Ali a0 aa_ c0 ca_ r.1 a_ ∧ Hold h h' [] := by
  unfold impl_checkedMatrix at hF
  refine Fn_enter (args := [.slice aa_ a_.length ca_]) Try.func84 rfl (by kernel_rfl) (by kernel_rfl) (fun w0 _ => ?_)
  have H0 := Hold.init h
  refine Run_seq ?_
  refine Run_reg 2 (by kernel_rfl) (L' := [(0, .slice aa_ a_.length ca_)]) ?_ ?_
  · refine QRun_b [.slice none 0 0, .int .i64 0] 0 _ (by kernel_rfl) (fun w => by kernel_rfl) ?_
    exact QRun_done [0] (by kernel_rfl) (by kernel_rfl)
  refine Run_seq ?_
  refine Run_seq ?_
  obtain ⟨x1, hx1, hF⟩ := M.bind_some hF
  refine Run_reg 2 (by kernel_rfl) (L' := [(0, .slice aa_ a_.length ca_), (5, .bool x1)]) ?_ ?_
  · refine QRun_b [.slice aa_ a_.length ca_] 0 _ (by kernel_rfl) (fun w => by kernel_rfl) ?_
    refine QRun_y (.bool x1) (by kernel_rfl) (Y_callq (f := 135) (args := #[.slice aa_ a_.length ca_, .func (.func 139) #[] #[]]) (v := .bool x1) (by kernel_rfl) (w_slices_ContainsFunc_row_F_impl_checkedMatrix_1 h a_ aa_ ca_ ra_ _ _ hx1)) ?_
    exact QRun_done [0, 5] (by kernel_rfl) (by kernel_rfl)
  refine Run_cond (b := x1) (by kernel_rfl) (fun hb1 => ?_) (fun hb1 => ?_)
  · have hF := (M.ite_some hF).1 hb1
    refine Run_seq ?_
    refine Run_reg 2 (by kernel_rfl) (L' := [(2, .slice none 0 0), (3, .int .i64 3)]) ?_ ?_
    · refine QRun_b [.slice none 0 0, .int .i64 3] 0 _ (by kernel_rfl) (fun w => by kernel_rfl) ?_
      exact QRun_done [2, 3] (by kernel_rfl) (by kernel_rfl)
    have hF := M.ret_some hF
    subst hF
    exact Run_ret2 rfl (ResV_tmp (v := .slice none 0 0) (by kernel_rfl)) (ResV_tmp (v := .int .i64 3) (by kernel_rfl)) ⟨none, 0, rfl, .inr ⟨rfl, rfl, rfl⟩, H0⟩
  · have hF := (M.ite_some hF).2 hb1
    refine Run_skip ?_
    refine Run_seq ?_
    refine Run_reg 3 (by kernel_rfl) (L' := [(2, .slice aa_ a_.length ca_), (3, .int .i64 0)]) ?_ ?_
    · refine QRun_b [.slice aa_ a_.length ca_, .slice aa_ a_.length ca_, .int .i64 0] 0 _ (by kernel_rfl) (fun w => by kernel_rfl) ?_
      exact QRun_done [2, 3] (by kernel_rfl) (by kernel_rfl)
    have hF := M.ret_some hF
    subst hF
    exact Run_ret2 rfl (ResV_tmp (v := .slice aa_ a_.length ca_) (by kernel_rfl)) (ResV_tmp (v := .int .i64 0) (by kernel_rfl)) ⟨aa_, ca_, rfl, .inl ⟨rfl, rfl, rfl⟩, H0⟩

set_option maxRecDepth 100000 in
set_option maxHeartbeats 4000000 in
theorem w_impl_growthBetween (h : Heap) (a_ : List (List Int)) {Sa_ : Bs} (aa_ : Option Addr) (ca_ : Nat) (ra_ : Rd cd23 h Sa_ aa_ ca_ a_) (b : List (List Int)) {Sb : Bs} (ab : Option Addr) (cb : Nat) (rb : Rd cd23 h Sb ab cb b) (n : Nat) (r : Int × Bool) (hF : impl_growthBetween a_ b n = some r) :
    Fn Try.prog 104 #[.slice aa_ a_.length ca_, .slice ab b.length cb] h fun v h' => v = .tuple #[.int .i64 r.1, .bool r.2] ∧ h' = h := by
  unfold impl_growthBetween at hF
  refine Fn_enter (args := [.slice aa_ a_.length ca_, .slice ab b.length cb]) Try.func104 rfl (by kernel_rfl) (by kernel_rfl) (fun w0 _ => ?_)
  refine Run_seq ?_
  refine Run_reg 2 (by kernel_rfl) (L' := [(0, .slice aa_ a_.length ca_), (1, .slice ab b.length cb)]) ?_ ?_
  · refine QRun_b [.int .i64 0, .bool false] 0 _ (by kernel_rfl) (fun w => by kernel_rfl) ?_
    exact QRun_done [0, 1] (by kernel_rfl) (by kernel_rfl)
  refine Run_seq ?_
  refine Run_reg 1 (by kernel_rfl) (L' := [(0, .slice aa_ a_.length ca_), (1, .slice ab b.length cb), (6, .int .i64 0)]) ?_ ?_
  · refine QRun_b [.int .i64 0] 0 _ (by kernel_rfl) (fun w => by kernel_rfl) ?_
    exact QRun_done [0, 1, 6] (by kernel_rfl) (by kernel_rfl)
  refine Run_seq ?_
  refine Run_reg 1 (by kernel_rfl) (L' := [(0, .slice aa_ a_.length ca_), (1, .slice ab b.length cb), (6, .int .i64 0), (7, .bool false)]) ?_ ?_
  · refine QRun_b [.bool false] 0 _ (by kernel_rfl) (fun w => by kernel_rfl) ?_
    exact QRun_done [0, 1, 6, 7] (by kernel_rfl) (by kernel_rfl)
  refine Run_seq ?_
  refine Run_seq ?_
  refine Run_reg 3 (by kernel_rfl) (L' := [(1, .slice ab b.length cb), (6, .int .i64 0), (7, .bool false), (13, .slice aa_ a_.length ca_), (14, .int .i64 (a_.length : Int)), (15, .int .i64 0)]) ?_ ?_
  · refine QRun_b [.slice aa_ a_.length ca_, .int .i64 (a_.length : Int), .int .i64 0] 0 _ (by kernel_rfl) (fun w => by kernel_rfl) ?_
    exact QRun_done [1, 6, 7, 13, 14, 15] (by kernel_rfl) (by kernel_rfl)
  obtain ⟨x1, gx1, hF⟩ := M.bind_some hF
  obtain ⟨hloy1, hhiy1, gx1⟩ := M.for_start gx1
  refine Run_join (fun L' h' => ∃ (s2 : Int × Bool), x1 = .inl s2 ∧ L' = [(6, .int .i64 s2.1)] ∧ h = h') ?_ ?_
  · rintro _ _ ⟨s2, es2, rfl, rfl⟩
    have hF := M.cont_inl' hF es2
    refine Run_seq ?_
    refine Run_reg 3 (by kernel_rfl) (L' := [(4, .int .i64 s2.1), (5, .bool true)]) ?_ ?_
    · refine QRun_b [.int .i64 s2.1, .int .i64 s2.1, .bool true] 0 _ (by kernel_rfl) (fun w => by kernel_rfl) ?_
      exact QRun_done [4, 5] (by kernel_rfl) (by kernel_rfl)
    have hF := M.ret_some hF
    subst hF
    exact Run_ret2 rfl (ResV_tmp (v := .int .i64 s2.1) (by kernel_rfl)) (ResV_tmp (v := .bool true) (by kernel_rfl)) ⟨rfl, rfl⟩
  · refine Run_block ?_
    refine Run_keep [1, 6, 7, 13, 14, 15] (L' := [(1, .slice ab b.length cb), (6, .int .i64 0), (7, .bool false), (13, .slice aa_ a_.length ca_), (14, .int .i64 (a_.length : Int)), (15, .int .i64 0)]) (by kernel_rfl) ?_
    refine Run_loop (fun m L' h' => ∃ (i1 : Int) (s1 : Int × Bool), 0 ≤ i1 ∧ M.forN (a_.length : Int) _ _ n m i1 s1 = some x1 ∧ L' = [(1, .slice ab b.length cb), (6, .int .i64 s1.1), (7, .bool s1.2), (13, .slice aa_ a_.length ca_), (14, .int .i64 (a_.length : Int)), (15, .int .i64 i1)] ∧ h = h') ((a_.length : Int) - 0 : Int).toNat ⟨0, (0, false), Int.le_refl _, gx1, rfl, rfl⟩ ?_
    rintro my1 _ _ ⟨i1, s1, hloy1', gx1, rfl, rfl⟩
    refine Run_seq ?_
    refine Run_reg 1 (by kernel_rfl) (L' := [(1, .slice ab b.length cb), (6, .int .i64 s1.1), (7, .bool s1.2), (13, .slice aa_ a_.length ca_), (14, .int .i64 (a_.length : Int)), (15, .int .i64 i1), (16, .bool (decide (i1 < (a_.length : Int))))]) ?_ ?_
    · refine QRun_b [.bool (decide (i1 < (a_.length : Int)))] 0 _ (by kernel_rfl) (fun w => by kernel_rfl) ?_
      exact QRun_done [1, 6, 7, 13, 14, 15, 16] (by kernel_rfl) (by kernel_rfl)
    refine Run_seq ?_
    refine Run_cond (b := decide (i1 < (a_.length : Int))) (by kernel_rfl) (fun hb1 => ?_) (fun hb1 => ?_)
    · obtain ⟨my1, y1, rfl, hB1, hgoy1, houty1⟩ := M.for_go gx1 hb1
      have hlty1 := of_decide_eq_true hb1
      refine Run_skip ?_
      refine Run_seq ?_
      refine Run_block ?_
      refine Run_seq ?_
      obtain ⟨x2, hx1, hB1⟩ := M.bind_some hB1
      obtain ⟨hx1l, hx1u, hx1⟩ := M.idx_some hx1
      obtain ⟨a1, c1, hc1, r1⟩ := ra_.row hx1
      refine Run_reg 5 (by kernel_rfl) (L' := [(1, .slice ab b.length cb), (6, .int .i64 s1.1), (7, .bool s1.2), (8, .int .i64 i1), (9, .slice a1 x2.length c1), (13, .slice aa_ a_.length ca_), (14, .int .i64 (a_.length : Int)), (15, .int .i64 i1)]) ?_ ?_
      · refine QRun_b [.int .i64 i1] 0 _ (by kernel_rfl) (fun w => by kernel_rfl) ?_
        refine QRun_y (.pointer (some (adr aa_ (i1.toNat * 1)))) (by kernel_rfl) (Y_idx (t := 22) (e := 23) (sz := 1) (a := aa_) (n := a_.length) (cap := ca_) (kk := .i64) (i := i1) (by kernel_rfl) Try.underlying22 (by kernel_rfl) (ra_.cell hx1).1 hx1l hx1u) ?_
        refine QRun_y (.slice a1 x2.length c1) (by kernel_rfl) (Y_load1 (t := 23) (p := adr aa_ (i1.toNat * 1)) (v := .slice a1 x2.length c1) (by kernel_rfl) (fun w => by kernel_rfl) hc1) ?_
        refine QRun_b [.int .i64 i1, .slice a1 x2.length c1] 3 _ (by kernel_rfl) (fun w => by kernel_rfl) ?_
        exact QRun_done [1, 6, 7, 8, 9, 13, 14, 15] (by kernel_rfl) (by kernel_rfl)
      refine Run_seq ?_
      refine Run_reg 3 (by kernel_rfl) (L' := [(1, .slice ab b.length cb), (6, .int .i64 s1.1), (7, .bool s1.2), (8, .int .i64 i1), (13, .slice aa_ a_.length ca_), (14, .int .i64 (a_.length : Int)), (15, .int .i64 i1), (20, .slice a1 x2.length c1), (21, .int .i64 (x2.length : Int)), (22, .int .i64 0)]) ?_ ?_
      · refine QRun_b [.slice a1 x2.length c1, .int .i64 (x2.length : Int), .int .i64 0] 0 _ (by kernel_rfl) (fun w => by kernel_rfl) ?_
        exact QRun_done [1, 6, 7, 8, 13, 14, 15, 20, 21, 22] (by kernel_rfl) (by kernel_rfl)
      obtain ⟨x3, gx3, hB1⟩ := M.bind_some hB1
      obtain ⟨hloy2, hhiy2, gx3⟩ := M.for_start gx3
      refine Run_join (fun L' h' => ∃ (s4 : Int × Bool), x3 = .inl s4 ∧ L' = [(1, .slice ab b.length cb), (6, .int .i64 s4.1), (7, .bool s4.2), (13, .slice aa_ a_.length ca_), (14, .int .i64 (a_.length : Int)), (15, .int .i64 i1)] ∧ h = h') ?_ ?_
      · rintro _ _ ⟨s4, es4, rfl, rfl⟩
        have hB1 := M.cont_inl' hB1 es4
        refine Run_blk ?_
        refine Run_reg 2 (by kernel_rfl) (L' := [(1, .slice ab b.length cb), (6, .int .i64 s4.1), (7, .bool s4.2), (13, .slice aa_ a_.length ca_), (14, .int .i64 (a_.length : Int)), (15, .int .i64 (i1 + 1))]) ?_ ?_
        · refine QRun_y (.int .i64 (i1 + 1)) (by kernel_rfl) (Y_eq (v := .int .i64 (w64 (i1 + 1))) (Y_pure (fun w => by kernel_rfl)) (by rw [w64_eq _ (by omega)])) ?_
          refine QRun_b [.int .i64 (i1 + 1)] 1 _ (by kernel_rfl) (fun w => by kernel_rfl) ?_
          exact QRun_done [1, 6, 7, 13, 14, 15] (by kernel_rfl) (by kernel_rfl)
        have hB1 := M.ret_some hB1
        have gx1 := hgoy1 _ hB1.symm
        exact Run_again [1, 6, 7, 13, 14, 15] (by kernel_rfl) my1 (Nat.lt_succ_self _) ⟨i1 + 1, (s4.1, s4.2), by omega, gx1, rfl, rfl⟩
      · refine Run_block ?_
        refine Run_keep [1, 6, 7, 8, 13, 14, 15, 20, 21, 22] (L' := [(1, .slice ab b.length cb), (6, .int .i64 s1.1), (7, .bool s1.2), (8, .int .i64 i1), (13, .slice aa_ a_.length ca_), (14, .int .i64 (a_.length : Int)), (15, .int .i64 i1), (20, .slice a1 x2.length c1), (21, .int .i64 (x2.length : Int)), (22, .int .i64 0)]) (by kernel_rfl) ?_
        refine Run_loop (fun m L' h' => ∃ (i2 : Int) (s3 : Int × Bool), 0 ≤ i2 ∧ M.forN (x2.length : Int) _ _ n m i2 s3 = some x3 ∧ L' = [(1, .slice ab b.length cb), (6, .int .i64 s3.1), (7, .bool s3.2), (8, .int .i64 i1), (13, .slice aa_ a_.length ca_), (14, .int .i64 (a_.length : Int)), (15, .int .i64 i1), (20, .slice a1 x2.length c1), (21, .int .i64 (x2.length : Int)), (22, .int .i64 i2)] ∧ h = h') ((x2.length : Int) - 0 : Int).toNat ⟨0, (s1.1, s1.2), Int.le_refl _, gx3, rfl, rfl⟩ ?_
        rintro my2 _ _ ⟨i2, s3, hloy2', gx3, rfl, rfl⟩
        refine Run_seq ?_
        refine Run_reg 1 (by kernel_rfl) (L' := [(1, .slice ab b.length cb), (6, .int .i64 s3.1), (7, .bool s3.2), (8, .int .i64 i1), (13, .slice aa_ a_.length ca_), (14, .int .i64 (a_.length : Int)), (15, .int .i64 i1), (20, .slice a1 x2.length c1), (21, .int .i64 (x2.length : Int)), (22, .int .i64 i2), (23, .bool (decide (i2 < (x2.length : Int))))]) ?_ ?_
        · refine QRun_b [.bool (decide (i2 < (x2.length : Int)))] 0 _ (by kernel_rfl) (fun w => by kernel_rfl) ?_
          exact QRun_done [1, 6, 7, 8, 13, 14, 15, 20, 21, 22, 23] (by kernel_rfl) (by kernel_rfl)
        refine Run_seq ?_
        refine Run_cond (b := decide (i2 < (x2.length : Int))) (by kernel_rfl) (fun hb2 => ?_) (fun hb2 => ?_)
        · obtain ⟨my2, y2, rfl, hB2, hgoy2, houty2⟩ := M.for_go gx3 hb2
          have hlty2 := of_decide_eq_true hb2
          refine Run_skip ?_
          refine Run_seq ?_
          refine Run_block ?_
          refine Run_seq ?_
          obtain ⟨x4, hx2, hB2⟩ := M.bind_some hB2
          obtain ⟨hx2l, hx2u, hx2⟩ := M.idx_some hx2
          refine Run_reg 5 (by kernel_rfl) (L' := [(1, .slice ab b.length cb), (6, .int .i64 s3.1), (7, .bool s3.2), (8, .int .i64 i1), (10, .int .i64 i2), (11, .int .i64 x4), (13, .slice aa_ a_.length ca_), (14, .int .i64 (a_.length : Int)), (15, .int .i64 i1), (20, .slice a1 x2.length c1), (21, .int .i64 (x2.length : Int)), (22, .int .i64 i2)]) ?_ ?_
          · refine QRun_b [.int .i64 i2] 0 _ (by kernel_rfl) (fun w => by kernel_rfl) ?_
            refine QRun_y (.pointer (some (adr a1 (i2.toNat * 1)))) (by kernel_rfl) (Y_idx (t := 23) (e := 2) (sz := 1) (a := a1) (n := x2.length) (cap := c1) (kk := .i64) (i := i2) (by kernel_rfl) Try.underlying23 (by kernel_rfl) (r1.cell hx2).1 hx2l hx2u) ?_
            refine QRun_y (.int .i64 x4) (by kernel_rfl) (Y_load1 (t := 2) (p := adr a1 (i2.toNat * 1)) (v := .int .i64 x4) (by kernel_rfl) (fun w => by kernel_rfl) (cd2_cell r1 hx2)) ?_
            refine QRun_b [.int .i64 i2, .int .i64 x4] 3 _ (by kernel_rfl) (fun w => by kernel_rfl) ?_
            exact QRun_done [1, 6, 7, 8, 10, 11, 13, 14, 15, 20, 21, 22] (by kernel_rfl) (by kernel_rfl)
          refine Run_seq ?_
          obtain ⟨x5, hx3, hB2⟩ := M.bind_some hB2
          obtain ⟨hx3l, hx3u, hx3⟩ := M.idx_some hx3
          obtain ⟨a2, c2, hc2, r2⟩ := rb.row hx3
          obtain ⟨x6, hx4, hB2⟩ := M.bind_some hB2
          obtain ⟨hx4l, hx4u, hx4⟩ := M.idx_some hx4
          refine Run_reg 8 (by kernel_rfl) (L' := [(1, .slice ab b.length cb), (6, .int .i64 s3.1), (7, .bool s3.2), (8, .int .i64 i1), (11, .int .i64 x4), (12, .int .i64 x6), (13, .slice aa_ a_.length ca_), (14, .int .i64 (a_.length : Int)), (15, .int .i64 i1), (20, .slice a1 x2.length c1), (21, .int .i64 (x2.length : Int)), (22, .int .i64 i2)]) ?_ ?_
          · refine QRun_b [.slice ab b.length cb, .int .i64 i1] 0 _ (by kernel_rfl) (fun w => by kernel_rfl) ?_
            refine QRun_y (.pointer (some (adr ab (i1.toNat * 1)))) (by kernel_rfl) (Y_idx (t := 22) (e := 23) (sz := 1) (a := ab) (n := b.length) (cap := cb) (kk := .i64) (i := i1) (by kernel_rfl) Try.underlying22 (by kernel_rfl) (rb.cell hx3).1 hx3l hx3u) ?_
            refine QRun_y (.slice a2 x5.length c2) (by kernel_rfl) (Y_load1 (t := 23) (p := adr ab (i1.toNat * 1)) (v := .slice a2 x5.length c2) (by kernel_rfl) (fun w => by kernel_rfl) hc2) ?_
            refine QRun_b [.int .i64 i2] 4 _ (by kernel_rfl) (fun w => by kernel_rfl) ?_
            refine QRun_y (.pointer (some (adr a2 (i2.toNat * 1)))) (by kernel_rfl) (Y_idx (t := 23) (e := 2) (sz := 1) (a := a2) (n := x5.length) (cap := c2) (kk := .i64) (i := i2) (by kernel_rfl) Try.underlying23 (by kernel_rfl) (r2.cell hx4).1 hx4l hx4u) ?_
            refine QRun_y (.int .i64 x6) (by kernel_rfl) (Y_load1 (t := 2) (p := adr a2 (i2.toNat * 1)) (v := .int .i64 x6) (by kernel_rfl) (fun w => by kernel_rfl) (cd2_cell r2 hx4)) ?_
            refine QRun_b [.int .i64 x6] 7 _ (by kernel_rfl) (fun w => by kernel_rfl) ?_
            exact QRun_done [1, 6, 7, 8, 11, 12, 13, 14, 15, 20, 21, 22] (by kernel_rfl) (by kernel_rfl)
          refine Run_block ?_
          refine Run_seq ?_
          refine Run_reg 7 (by kernel_rfl) (L' := [(1, .slice ab b.length cb), (6, .int .i64 s3.1), (7, .bool s3.2), (8, .int .i64 i1), (11, .int .i64 x4), (12, .int .i64 x6), (13, .slice aa_ a_.length ca_), (14, .int .i64 (a_.length : Int)), (15, .int .i64 i1), (20, .slice a1 x2.length c1), (21, .int .i64 (x2.length : Int)), (22, .int .i64 i2), (37, .bool ((x4 == (-1000000000000000)) && (x6 == (-1000000000000000))))]) ?_ ?_
          · refine QRun_b [.int .i64 x4, .bool (x4 == (-1000000000000000))] 0 _ (by kernel_rfl) (fun w => by kernel_rfl) ?_
            refine QRun_seq 6 [(1, .slice ab b.length cb), (6, .int .i64 s3.1), (7, .bool s3.2), (8, .int .i64 i1), (11, .int .i64 x4), (12, .int .i64 x6), (13, .slice aa_ a_.length ca_), (14, .int .i64 (a_.length : Int)), (15, .int .i64 i1), (20, .slice a1 x2.length c1), (21, .int .i64 (x2.length : Int)), (22, .int .i64 i2), (43, .bool ((x4 == (-1000000000000000)) && (x6 == (-1000000000000000))))] ?_ ?_
            · rcases Bool.eq_false_or_eq_true (x4 == (-1000000000000000)) with hb3 | hb3
              · refine QRun_bool (x4 == (-1000000000000000)) true (by kernel_rfl) (fun w => by kernel_rfl) hb3 ?_
                refine QRun_b [.int .i64 x6, .bool (x6 == (-1000000000000000))] 3 _ (by kernel_rfl) (fun w => by kernel_rfl) ?_
                refine QRun_bool (x6 == (-1000000000000000)) ((x4 == (-1000000000000000)) && (x6 == (-1000000000000000))) (by kernel_rfl) (fun w => by kernel_rfl) (by rw [hb3]; rfl) ?_
                exact QRun_done [1, 6, 7, 8, 11, 12, 13, 14, 15, 20, 21, 22, 43] (by kernel_rfl) (by kernel_rfl)
              · refine QRun_bool (x4 == (-1000000000000000)) false (by kernel_rfl) (fun w => by kernel_rfl) hb3 ?_
                refine QRun_n (by kernel_rfl) ?_
                refine QRun_n (by kernel_rfl) ?_
                refine QRun_bool false ((x4 == (-1000000000000000)) && (x6 == (-1000000000000000))) (by kernel_rfl) (fun w => by kernel_rfl) (by rw [hb3]; rfl) ?_
                exact QRun_done [1, 6, 7, 8, 11, 12, 13, 14, 15, 20, 21, 22, 43] (by kernel_rfl) (by kernel_rfl)
            refine QRun_b [.bool ((x4 == (-1000000000000000)) && (x6 == (-1000000000000000)))] 6 _ (by kernel_rfl) (fun w => by kernel_rfl) ?_
            exact QRun_done [1, 6, 7, 8, 11, 12, 13, 14, 15, 20, 21, 22, 37] (by kernel_rfl) (by kernel_rfl)
          refine Run_cond (b := (x4 == (-1000000000000000)) && (x6 == (-1000000000000000))) (by kernel_rfl) (fun hb4 => ?_) (fun hb4 => ?_)
          · have hB2 := (M.ite_some hB2).1 hb4
            refine Run_skip ?_
            refine Run_blk ?_
            refine Run_blk ?_
            refine Run_reg 2 (by kernel_rfl) (L' := [(1, .slice ab b.length cb), (6, .int .i64 s3.1), (7, .bool s3.2), (8, .int .i64 i1), (13, .slice aa_ a_.length ca_), (14, .int .i64 (a_.length : Int)), (15, .int .i64 i1), (20, .slice a1 x2.length c1), (21, .int .i64 (x2.length : Int)), (22, .int .i64 (i2 + 1))]) ?_ ?_
            · refine QRun_y (.int .i64 (i2 + 1)) (by kernel_rfl) (Y_eq (v := .int .i64 (w64 (i2 + 1))) (Y_pure (fun w => by kernel_rfl)) (by rw [w64_eq _ (by omega)])) ?_
              refine QRun_b [.int .i64 (i2 + 1)] 1 _ (by kernel_rfl) (fun w => by kernel_rfl) ?_
              exact QRun_done [1, 6, 7, 8, 13, 14, 15, 20, 21, 22] (by kernel_rfl) (by kernel_rfl)
            have hB2 := M.ret_some hB2
            have gx3 := hgoy2 _ hB2.symm
            exact Run_again [1, 6, 7, 8, 13, 14, 15, 20, 21, 22] (by kernel_rfl) my2 (Nat.lt_succ_self _) ⟨i2 + 1, (s3.1, s3.2), by omega, gx3, rfl, rfl⟩
          · have hB2 := (M.ite_some hB2).2 hb4
            refine Run_seq ?_
            refine Run_reg 17 (by kernel_rfl) (L' := [(1, .slice ab b.length cb), (8, .int .i64 i1), (11, .int .i64 x4), (12, .int .i64 x6), (13, .slice aa_ a_.length ca_), (14, .int .i64 (a_.length : Int)), (15, .int .i64 i1), (20, .slice a1 x2.length c1), (21, .int .i64 (x2.length : Int)), (22, .int .i64 i2), (44, .bool (((x4 == (-1000000000000000)) || (x6 == (-1000000000000000))) || (s3.2 && ((w64 (x6 - x4)) != s3.1))))]) ?_ ?_
            · refine QRun_b [.int .i64 x4, .bool (x4 == (-1000000000000000))] 0 _ (by kernel_rfl) (fun w => by kernel_rfl) ?_
              refine QRun_seq 6 [(1, .slice ab b.length cb), (6, .int .i64 s3.1), (7, .bool s3.2), (8, .int .i64 i1), (11, .int .i64 x4), (12, .int .i64 x6), (13, .slice aa_ a_.length ca_), (14, .int .i64 (a_.length : Int)), (15, .int .i64 i1), (20, .slice a1 x2.length c1), (21, .int .i64 (x2.length : Int)), (22, .int .i64 i2), (50, .bool ((x4 == (-1000000000000000)) || (x6 == (-1000000000000000))))] ?_ ?_
              · rcases Bool.eq_false_or_eq_true (x4 == (-1000000000000000)) with hb5 | hb5
                · refine QRun_bool (x4 == (-1000000000000000)) true (by kernel_rfl) (fun w => by kernel_rfl) hb5 ?_
                  refine QRun_n (by kernel_rfl) ?_
                  refine QRun_n (by kernel_rfl) ?_
                  refine QRun_bool true ((x4 == (-1000000000000000)) || (x6 == (-1000000000000000))) (by kernel_rfl) (fun w => by kernel_rfl) (by rw [hb5]; rfl) ?_
                  exact QRun_done [1, 6, 7, 8, 11, 12, 13, 14, 15, 20, 21, 22, 50] (by kernel_rfl) (by kernel_rfl)
                · refine QRun_bool (x4 == (-1000000000000000)) false (by kernel_rfl) (fun w => by kernel_rfl) hb5 ?_
                  refine QRun_b [.int .i64 x6, .bool (x6 == (-1000000000000000))] 3 _ (by kernel_rfl) (fun w => by kernel_rfl) ?_
                  refine QRun_bool (x6 == (-1000000000000000)) ((x4 == (-1000000000000000)) || (x6 == (-1000000000000000))) (by kernel_rfl) (fun w => by kernel_rfl) (by rw [hb5]; rfl) ?_
                  exact QRun_done [1, 6, 7, 8, 11, 12, 13, 14, 15, 20, 21, 22, 50] (by kernel_rfl) (by kernel_rfl)
              refine QRun_seq 16 [(1, .slice ab b.length cb), (8, .int .i64 i1), (11, .int .i64 x4), (12, .int .i64 x6), (13, .slice aa_ a_.length ca_), (14, .int .i64 (a_.length : Int)), (15, .int .i64 i1), (20, .slice a1 x2.length c1), (21, .int .i64 (x2.length : Int)), (22, .int .i64 i2), (60, .bool (((x4 == (-1000000000000000)) || (x6 == (-1000000000000000))) || (s3.2 && ((w64 (x6 - x4)) != s3.1))))] ?_ ?_
              · rcases Bool.eq_false_or_eq_true ((x4 == (-1000000000000000)) || (x6 == (-1000000000000000))) with hb6 | hb6
                · refine QRun_bool ((x4 == (-1000000000000000)) || (x6 == (-1000000000000000))) true (by kernel_rfl) (fun w => by kernel_rfl) hb6 ?_
                  refine QRun_n (by kernel_rfl) ?_
                  refine QRun_n (by kernel_rfl) ?_
                  refine QRun_n (by kernel_rfl) ?_
                  refine QRun_n (by kernel_rfl) ?_
                  refine QRun_n (by kernel_rfl) ?_
                  refine QRun_n (by kernel_rfl) ?_
                  refine QRun_n (by kernel_rfl) ?_
                  refine QRun_n (by kernel_rfl) ?_
                  refine QRun_bool true (((x4 == (-1000000000000000)) || (x6 == (-1000000000000000))) || (s3.2 && ((w64 (x6 - x4)) != s3.1))) (by kernel_rfl) (fun w => by kernel_rfl) (by rw [hb6]; rfl) ?_
                  exact QRun_done [1, 8, 11, 12, 13, 14, 15, 20, 21, 22, 60] (by kernel_rfl) (by kernel_rfl)
                · refine QRun_bool ((x4 == (-1000000000000000)) || (x6 == (-1000000000000000))) false (by kernel_rfl) (fun w => by kernel_rfl) hb6 ?_
                  refine QRun_b [.bool s3.2] 7 _ (by kernel_rfl) (fun w => by kernel_rfl) ?_
                  refine QRun_seq 15 [(1, .slice ab b.length cb), (8, .int .i64 i1), (11, .int .i64 x4), (12, .int .i64 x6), (13, .slice aa_ a_.length ca_), (14, .int .i64 (a_.length : Int)), (15, .int .i64 i1), (20, .slice a1 x2.length c1), (21, .int .i64 (x2.length : Int)), (22, .int .i64 i2), (51, .bool false), (59, .bool (s3.2 && ((w64 (x6 - x4)) != s3.1)))] ?_ ?_
                  · rcases Bool.eq_false_or_eq_true s3.2 with hb7 | hb7
                    · refine QRun_bool s3.2 true (by kernel_rfl) (fun w => by kernel_rfl) hb7 ?_
                      refine QRun_b [.int .i64 x6, .int .i64 x4, .int .i64 (w64 (x6 - x4)), .int .i64 s3.1, .bool ((w64 (x6 - x4)) != s3.1)] 9 _ (by kernel_rfl) (fun w => by kernel_rfl) ?_
                      refine QRun_bool ((w64 (x6 - x4)) != s3.1) (s3.2 && ((w64 (x6 - x4)) != s3.1)) (by kernel_rfl) (fun w => by kernel_rfl) (by rw [hb7]; rfl) ?_
                      exact QRun_done [1, 8, 11, 12, 13, 14, 15, 20, 21, 22, 51, 59] (by kernel_rfl) (by kernel_rfl)
                    · refine QRun_bool s3.2 false (by kernel_rfl) (fun w => by kernel_rfl) hb7 ?_
                      refine QRun_n (by kernel_rfl) ?_
                      refine QRun_n (by kernel_rfl) ?_
                      refine QRun_n (by kernel_rfl) ?_
                      refine QRun_n (by kernel_rfl) ?_
                      refine QRun_n (by kernel_rfl) ?_
                      refine QRun_bool false (s3.2 && ((w64 (x6 - x4)) != s3.1)) (by kernel_rfl) (fun w => by kernel_rfl) (by rw [hb7]; rfl) ?_
                      exact QRun_done [1, 8, 11, 12, 13, 14, 15, 20, 21, 22, 51, 59] (by kernel_rfl) (by kernel_rfl)
                  refine QRun_bool (s3.2 && ((w64 (x6 - x4)) != s3.1)) (((x4 == (-1000000000000000)) || (x6 == (-1000000000000000))) || (s3.2 && ((w64 (x6 - x4)) != s3.1))) (by kernel_rfl) (fun w => by kernel_rfl) (by rw [hb6]; rfl) ?_
                  exact QRun_done [1, 8, 11, 12, 13, 14, 15, 20, 21, 22, 60] (by kernel_rfl) (by kernel_rfl)
              refine QRun_b [.bool (((x4 == (-1000000000000000)) || (x6 == (-1000000000000000))) || (s3.2 && ((w64 (x6 - x4)) != s3.1)))] 16 _ (by kernel_rfl) (fun w => by kernel_rfl) ?_
              exact QRun_done [1, 8, 11, 12, 13, 14, 15, 20, 21, 22, 44] (by kernel_rfl) (by kernel_rfl)
            refine Run_cond (b := ((x4 == (-1000000000000000)) || (x6 == (-1000000000000000))) || (s3.2 && ((w64 (x6 - x4)) != s3.1))) (by kernel_rfl) (fun hb8 => ?_) (fun hb8 => ?_)
            · have hB2 := (M.ite_some hB2).1 hb8
              refine Run_seq ?_
              refine Run_reg 2 (by kernel_rfl) (L' := [(4, .int .i64 0), (5, .bool false)]) ?_ ?_
              · refine QRun_b [.int .i64 0, .bool false] 0 _ (by kernel_rfl) (fun w => by kernel_rfl) ?_
                exact QRun_done [4, 5] (by kernel_rfl) (by kernel_rfl)
              have hB2 := M.ret_some hB2
              have gx3 := houty2 _ hB2.symm
              have hB1 := M.cont_inr' hB1 gx3
              have hB1 := M.ret_some hB1
              have gx1 := houty1 _ hB1.symm
              have hF := M.cont_inr' hF gx1
              have hF := M.ret_some hF
              subst hF
              exact Run_ret2 rfl (ResV_tmp (v := .int .i64 0) (by kernel_rfl)) (ResV_tmp (v := .bool false) (by kernel_rfl)) ⟨rfl, rfl⟩
            · have hB2 := (M.ite_some hB2).2 hb8
              refine Run_reg 5 (by kernel_rfl) (L' := [(1, .slice ab b.length cb), (6, .int .i64 (w64 (x6 - x4))), (7, .bool true), (8, .int .i64 i1), (13, .slice aa_ a_.length ca_), (14, .int .i64 (a_.length : Int)), (15, .int .i64 i1), (20, .slice a1 x2.length c1), (21, .int .i64 (x2.length : Int)), (22, .int .i64 i2)]) ?_ ?_
              · refine QRun_b [.int .i64 x6, .int .i64 x4, .int .i64 (w64 (x6 - x4)), .int .i64 (w64 (x6 - x4)), .bool true] 0 _ (by kernel_rfl) (fun w => by kernel_rfl) ?_
                exact QRun_done [1, 6, 7, 8, 13, 14, 15, 20, 21, 22] (by kernel_rfl) (by kernel_rfl)
              refine Run_blk ?_
              refine Run_blk ?_
              refine Run_reg 2 (by kernel_rfl) (L' := [(1, .slice ab b.length cb), (6, .int .i64 (w64 (x6 - x4))), (7, .bool true), (8, .int .i64 i1), (13, .slice aa_ a_.length ca_), (14, .int .i64 (a_.length : Int)), (15, .int .i64 i1), (20, .slice a1 x2.length c1), (21, .int .i64 (x2.length : Int)), (22, .int .i64 (i2 + 1))]) ?_ ?_
              · refine QRun_y (.int .i64 (i2 + 1)) (by kernel_rfl) (Y_eq (v := .int .i64 (w64 (i2 + 1))) (Y_pure (fun w => by kernel_rfl)) (by rw [w64_eq _ (by omega)])) ?_
                refine QRun_b [.int .i64 (i2 + 1)] 1 _ (by kernel_rfl) (fun w => by kernel_rfl) ?_
                exact QRun_done [1, 6, 7, 8, 13, 14, 15, 20, 21, 22] (by kernel_rfl) (by kernel_rfl)
              have hB2 := M.ret_some hB2
              have gx3 := hgoy2 _ hB2.symm
              exact Run_again [1, 6, 7, 8, 13, 14, 15, 20, 21, 22] (by kernel_rfl) my2 (Nat.lt_succ_self _) ⟨i2 + 1, ((w64 (x6 - x4)), true), by omega, gx3, rfl, rfl⟩
        · have gx3 := M.for_end gx3 hb2
          subst gx3
          refine Run_exit (k' := _) rfl ?_
          exact Run_fall [1, 6, 7, 13, 14, 15] (by kernel_rfl) ⟨(s3.1, s3.2), rfl, rfl, rfl⟩
    · have gx1 := M.for_end gx1 hb1
      subst gx1
      refine Run_exit (k' := _) rfl ?_
      exact Run_fall [6] (by kernel_rfl) ⟨(s1.1, s1.2), rfl, rfl, rfl⟩

set_option maxRecDepth 100000 in
set_option maxHeartbeats 4000000 in
theorem w_impl_orbit_grow_B (h hE : Heap) (it : Item) (o : TOrbit) (bo : Nat) (aomatrix : Option Addr) (comatrix : Nat) (romatrix : Rd cd23 h (Lt h) aomatrix comatrix o.matrix) (aolist : Option Addr) (colist : Nat) (index : Int) (HM : Hold h hE [box bo 88 [.slice aomatrix o.matrix.length comatrix, .slice aolist o.list.length colist], own cd22 aolist o.list.length colist o.list, it]) (n : Nat) (r : Bool × TOrbit) (hF : impl_orbit_grow_B o index n = some r) :
    Fn Try.prog 89 #[.pointer (some ⟨bo, 0, none⟩), .int .i64 index] hE fun v h' => ∃ (a0 : Option Addr) (c0 : Nat), v = .bool r.1 ∧ Hold h h' [box bo 88 [.slice aomatrix o.matrix.length comatrix, .slice a0 r.2.list.length c0], own cd22 a0 r.2.list.length c0 r.2.list, it] := by
  unfold impl_orbit_grow_B at hF
  refine Fn_enter (args := [.pointer (some ⟨bo, 0, none⟩), .int .i64 index]) Try.func89 rfl (by kernel_rfl) (by kernel_rfl) (fun w0 _ => ?_)
  refine Run_seq ?_
  refine Run_reg 1 (by kernel_rfl) (L' := [(0, .pointer (some ⟨bo, 0, none⟩)), (1, .int .i64 index)]) ?_ ?_
  · refine QRun_b [.bool false] 0 _ (by kernel_rfl) (fun w => by kernel_rfl) ?_
    exact QRun_done [0, 1] (by kernel_rfl) (by kernel_rfl)
  refine Run_seq ?_
  obtain ⟨x1, gx1, hF⟩ := M.bind_some hF
  refine Run_join (fun L' h' => ∃ (s2 : (List (List (List Int)))) (a2 : Option Addr) (c2 : Nat), x1 = .inl s2 ∧ L' = [] ∧ Hold h h' [box bo 88 [.slice aomatrix o.matrix.length comatrix, .slice a2 s2.length c2], own cd22 a2 s2.length c2 s2, it]) ?_ ?_
  · rintro _ h2 ⟨s2, a2, c2, es2, rfl, H2⟩
    have hF := M.cont_inl' hF es2
    refine Run_seq ?_
    refine Run_reg 1 (by kernel_rfl) (L' := [(4, .bool true)]) ?_ ?_
    · refine QRun_b [.bool true] 0 _ (by kernel_rfl) (fun w => by kernel_rfl) ?_
      exact QRun_done [4] (by kernel_rfl) (by kernel_rfl)
    have hF := M.ret_some hF
    subst hF
    have H33 : Hold h h2 [own cd22 a2 s2.length c2 s2, box bo 88 [.slice aomatrix o.matrix.length comatrix, .slice a2 s2.length c2], it] := H2.pick [1, 0, 2] (by kernel_rfl)
    have H34 : Hold h h2 [box bo 88 [.slice aomatrix o.matrix.length comatrix, .slice a2 s2.length c2], own cd22 a2 s2.length c2 s2, it] := H33.pick [1, 0, 2] (by kernel_rfl)
    exact Run_ret1 rfl (ResV_tmp (v := .bool true) (by kernel_rfl)) ⟨a2, c2, rfl, H34⟩
  · refine Run_block ?_
    have H35 : Hold h hE [own cd22 aolist o.list.length colist o.list, box bo 88 [.slice aomatrix o.matrix.length comatrix, .slice aolist o.list.length colist], it] := HM.pick [1, 0, 2] (by kernel_rfl)
    have H36 : Hold h hE [box bo 88 [.slice aomatrix o.matrix.length comatrix, .slice aolist o.list.length colist], own cd22 aolist o.list.length colist o.list, it] := H35.pick [1, 0, 2] (by kernel_rfl)
    refine Run_keep [0, 1] (L' := [(0, .pointer (some ⟨bo, 0, none⟩)), (1, .int .i64 index)]) (by kernel_rfl) ?_
    refine Run_loop (fun m L' h' => ∃ (s1 : (List (List (List Int)))) (a1 : Option Addr) (c1 : Nat), M.loopN _ n m s1 = some x1 ∧ L' = [(0, .pointer (some ⟨bo, 0, none⟩)), (1, .int .i64 index)] ∧ Hold h h' [box bo 88 [.slice aomatrix o.matrix.length comatrix, .slice a1 s1.length c1], own cd22 a1 s1.length c1 s1, it]) n ⟨o.list, aolist, colist, gx1, rfl, H36⟩ ?_
    rintro my1 _ h1 ⟨s1, a1, c1, gx1, rfl, H1⟩
    obtain ⟨my1, y1, rfl, hB1, hgoy1, houty1⟩ := M.loop_some gx1
    refine Run_seq ?_
    refine Run_seq ?_
    refine Run_reg 7 (by kernel_rfl) (L' := [(0, .pointer (some ⟨bo, 0, none⟩)), (1, .int .i64 index), (13, .bool (decide ((s1.length : Int) ≤ index)))]) ?_ ?_
    · refine QRun_b [.pointer (some ⟨bo, 0, none⟩), .pointer (some ⟨bo, 0, none⟩), .pointer (some ⟨bo, 1, none⟩)] 0 _ (by kernel_rfl) (fun w => by kernel_rfl) ?_
      refine QRun_y (.slice a1 s1.length c1) (by kernel_rfl) (Y_load1 (t := 86) (p := ⟨bo, 1, none⟩) (v := .slice a1 s1.length c1) (by kernel_rfl) (fun w => by kernel_rfl) (H1.cell 0 rfl rfl)) ?_
      refine QRun_b [.int .i64 (s1.length : Int), .int .i64 index, .bool (decide ((s1.length : Int) ≤ index))] 4 _ (by kernel_rfl) (fun w => by kernel_rfl) ?_
      exact QRun_done [0, 1, 13] (by kernel_rfl) (by kernel_rfl)
    refine Run_cond (b := decide ((s1.length : Int) ≤ index)) (by kernel_rfl) (fun hb1 => ?_) (fun hb1 => ?_)
    · have hB1 := (M.ite_some hB1).1 hb1
      refine Run_skip ?_
      refine Run_block ?_
      refine Run_seq ?_
      obtain ⟨x2, hx1, hB1⟩ := M.bind_some hB1
      obtain ⟨hx1l, hx1u, hx1⟩ := M.idx_some hx1
      have H3 : Hold h h1 [own cd22 a1 s1.length c1 s1, box bo 88 [.slice aomatrix o.matrix.length comatrix, .slice a1 s1.length c1], it] := H1.pick [1, 0, 2] (by kernel_rfl)
      have H4 := H3.toRows
      obtain ⟨a3, c3, H5⟩ := H4.pinRow hx1
      have H6 : Hold h h1 [box bo 88 [.slice aomatrix o.matrix.length comatrix, .slice a1 s1.length c1], rowsP cd23 22 a1 s1.length c1 s1 [((w64 ((s1.length : Int) - 1)).toNat, a3, x2.length, c3, x2)], it] := H5.pick [1, 0, 2] (by kernel_rfl)
      refine Run_D (fun x => Hold h x [box bo 88 [.slice aomatrix o.matrix.length comatrix, .slice a1 s1.length c1], rowsP cd23 22 a1 s1.length c1 s1 [((w64 ((s1.length : Int) - 1)).toNat, a3, x2.length, c3, x2)], it]) (fun x => Hold h x [box bo 88 [.slice aomatrix o.matrix.length comatrix, .slice a1 s1.length c1], rowsP cd23 22 a1 s1.length c1 s1 [((w64 ((s1.length : Int) - 1)).toNat, a3, x2.length, c3, x2)], it]) mixed (by kernel_rfl) H6 Hold.stable (fun x Hy => (show Hold h x [box bo 88 [.slice aomatrix o.matrix.length comatrix, .slice a1 s1.length c1], rowsP cd23 22 a1 s1.length c1 s1 [((w64 ((s1.length : Int) - 1)).toNat, a3, x2.length, c3, x2)], it] from Hy).pick [0, 1, 2] (by kernel_rfl)) ?_
      refine DR_b 20 [.pointer (some ⟨bo, 0, none⟩), .pointer (some ⟨bo, 0, none⟩), .pointer (some ⟨bo, 0, none⟩)] 0 (by kernel_rfl) (by kernel_rfl) (by kernel_rfl) (fun w => by kernel_rfl) ?_
      refine DR_y 19 (i := 3) (.slice aomatrix o.matrix.length comatrix) (by kernel_rfl) (by kernel_rfl) (by kernel_rfl) (fun hx Hx => (YE.of (Y_load1 (t := 22) (p := ⟨bo, 0, none⟩) (v := .slice aomatrix o.matrix.length comatrix) (by kernel_rfl) (fun w => by kernel_rfl) (Hx.cell 0 rfl rfl)))) ?_
      refine DR_b 16 [.pointer (some ⟨bo, 0, none⟩), .pointer (some ⟨bo, 0, none⟩), .pointer (some ⟨bo, 1, none⟩)] 4 (by kernel_rfl) (by kernel_rfl) (by kernel_rfl) (fun w => by kernel_rfl) ?_
      refine DR_y 15 (i := 7) (.slice a1 s1.length c1) (by kernel_rfl) (by kernel_rfl) (by kernel_rfl) (fun hx Hx => (YE.of (Y_load1 (t := 86) (p := ⟨bo, 1, none⟩) (v := .slice a1 s1.length c1) (by kernel_rfl) (fun w => by kernel_rfl) (Hx.cell 0 rfl rfl)))) ?_
      refine DR_b 12 [.pointer (some ⟨bo, 0, none⟩), .pointer (some ⟨bo, 0, none⟩), .pointer (some ⟨bo, 1, none⟩)] 8 (by kernel_rfl) (by kernel_rfl) (by kernel_rfl) (fun w => by kernel_rfl) ?_
      refine DR_y 11 (i := 11) (.slice a1 s1.length c1) (by kernel_rfl) (by kernel_rfl) (by kernel_rfl) (fun hx Hx => (YE.of (Y_load1 (t := 86) (p := ⟨bo, 1, none⟩) (v := .slice a1 s1.length c1) (by kernel_rfl) (fun w => by kernel_rfl) (Hx.cell 0 rfl rfl)))) ?_
      refine DR_b 9 [.int .i64 (s1.length : Int), .int .i64 (w64 ((s1.length : Int) - 1))] 12 (by kernel_rfl) (by kernel_rfl) (by kernel_rfl) (fun w => by kernel_rfl) ?_
      refine DR_y 8 (i := 14) (.pointer (some (adr a1 ((w64 ((s1.length : Int) - 1)).toNat * 1)))) (by kernel_rfl) (by kernel_rfl) (by kernel_rfl) (fun hx Hx => (YE.of (Y_idx (t := 86) (e := 22) (sz := 1) (a := a1) (n := s1.length) (cap := c1) (kk := .i64) (i := w64 ((s1.length : Int) - 1)) (by kernel_rfl) Try.underlying86 (by kernel_rfl) ((H1.rd 1 rfl).cell hx1).1 hx1l hx1u))) ?_
      refine DR_y 7 (i := 15) (.slice a3 x2.length c3) (by kernel_rfl) (by kernel_rfl) (by kernel_rfl) (fun hx Hx => (YE.of (Y_load1 (t := 22) (p := adr a1 ((w64 ((s1.length : Int) - 1)).toNat * 1)) (v := .slice a3 x2.length c3) (by kernel_rfl) (fun w => by kernel_rfl) (Hx.cellPin 1 rfl 0 rfl)))) ?_
      refine DR_e 6 16 (by kernel_rfl) (by kernel_rfl) (by kernel_rfl) (fun h3 H7 => ?_)
      have H8 : Hold h h3 [box bo 88 [.slice aomatrix o.matrix.length comatrix, .slice a1 s1.length c1], rowsP cd23 22 a1 s1.length c1 s1 [((w64 ((s1.length : Int) - 1)).toNat, a3, x2.length, c3, x2)], it] := H7
      obtain ⟨x3, hx2, hB1⟩ := M.bind_some hB1
      refine E_call (f := 85) (args := #[.slice aomatrix o.matrix.length comatrix, .slice a3 x2.length c3]) (w_impl_multiply h3 o.matrix aomatrix comatrix (romatrix.at H8.ext) x2 a3 c3 (H8.rdPin 1 rfl 0 rfl) _ _ hx2) (by kernel_rfl) (fun v1 h4 hp1 => ?_)
      obtain ⟨a4, c4, rfl, H9⟩ := hp1
      have H10 : Hold h h4 [own cd23 a4 x3.length c4 x3, box bo 88 [.slice aomatrix o.matrix.length comatrix, .slice a1 s1.length c1], rowsP cd23 22 a1 s1.length c1 s1 [((w64 ((s1.length : Int) - 1)).toNat, a3, x2.length, c3, x2)], it] := H8.call H9 rfl
      refine ⟨fun x => Hold h x [box bo 88 [.slice aomatrix o.matrix.length comatrix, .slice a1 s1.length c1], rowsP cd23 22 a1 s1.length c1 s1 [((w64 ((s1.length : Int) - 1)).toNat, a3, x2.length, c3, x2)], it], fun x => Hold h x [own cd23 a4 x3.length c4 x3, box bo 88 [.slice aomatrix o.matrix.length comatrix, .slice a1 s1.length c1], rowsP cd23 22 a1 s1.length c1 s1 [((w64 ((s1.length : Int) - 1)).toNat, a3, x2.length, c3, x2)], it], H10, Hold.stable, fun x Hy => (show Hold h x [own cd23 a4 x3.length c4 x3, box bo 88 [.slice aomatrix o.matrix.length comatrix, .slice a1 s1.length c1], rowsP cd23 22 a1 s1.length c1 s1 [((w64 ((s1.length : Int) - 1)).toNat, a3, x2.length, c3, x2)], it] from Hy).pick [1, 2, 3] (by kernel_rfl), fun x Hy => (show Hold h x [box bo 88 [.slice aomatrix o.matrix.length comatrix, .slice a1 s1.length c1], rowsP cd23 22 a1 s1.length c1 s1 [((w64 ((s1.length : Int) - 1)).toNat, a3, x2.length, c3, x2)], it] from Hy).pick [0, 1, 2] (by kernel_rfl), ?_⟩
      refine DR_e 5 17 (by kernel_rfl) (by kernel_rfl) (by kernel_rfl) (fun h5 H11 => ?_)
      have H12 : Hold h h5 [own cd23 a4 x3.length c4 x3, box bo 88 [.slice aomatrix o.matrix.length comatrix, .slice a1 s1.length c1], rowsP cd23 22 a1 s1.length c1 s1 [((w64 ((s1.length : Int) - 1)).toNat, a3, x2.length, c3, x2)], it] := H11
      obtain ⟨x4, hx3, hB1⟩ := M.bind_some hB1
      refine E_call (f := 84) (args := #[.slice a4 x3.length c4]) (w_impl_checkedMatrix h5 x3 a4 c4 (H12.rd 0 rfl) _ _ hx3) (by kernel_rfl) (fun v2 h6 hp2 => ?_)
      obtain ⟨a5, c5, rfl, hd1, H13⟩ := hp2
      have H14 : Hold h h6 [own cd23 a4 x3.length c4 x3, box bo 88 [.slice aomatrix o.matrix.length comatrix, .slice a1 s1.length c1], rowsP cd23 22 a1 s1.length c1 s1 [((w64 ((s1.length : Int) - 1)).toNat, a3, x2.length, c3, x2)], it] := H12.call H13 rfl
      have H15 := H14.alias hd1
      refine ⟨fun x => Hold h x [box bo 88 [.slice aomatrix o.matrix.length comatrix, .slice a1 s1.length c1], rowsP cd23 22 a1 s1.length c1 s1 [((w64 ((s1.length : Int) - 1)).toNat, a3, x2.length, c3, x2)], it], fun x => Hold h x [own cd23 a5 x4.1.length c5 x4.1, box bo 88 [.slice aomatrix o.matrix.length comatrix, .slice a1 s1.length c1], rowsP cd23 22 a1 s1.length c1 s1 [((w64 ((s1.length : Int) - 1)).toNat, a3, x2.length, c3, x2)], it], H15, Hold.stable, fun x Hy => (show Hold h x [own cd23 a5 x4.1.length c5 x4.1, box bo 88 [.slice aomatrix o.matrix.length comatrix, .slice a1 s1.length c1], rowsP cd23 22 a1 s1.length c1 s1 [((w64 ((s1.length : Int) - 1)).toNat, a3, x2.length, c3, x2)], it] from Hy).pick [1, 2, 3] (by kernel_rfl), fun x Hy => (show Hold h x [box bo 88 [.slice aomatrix o.matrix.length comatrix, .slice a1 s1.length c1], rowsP cd23 22 a1 s1.length c1 s1 [((w64 ((s1.length : Int) - 1)).toNat, a3, x2.length, c3, x2)], it] from Hy).pick [0, 1, 2] (by kernel_rfl), ?_⟩
      refine DR_b 0 [.tuple #[.slice a5 x4.1.length c5, .int .i64 x4.2], .slice a5 x4.1.length c5, .int .i64 x4.2, .slice a5 x4.1.length c5, .int .i64 x4.2] 18 (by kernel_rfl) (by kernel_rfl) (by kernel_rfl) (fun w => by kernel_rfl) ?_
      refine DR_tail (i := 23) (by kernel_rfl) (by kernel_rfl) (by kernel_rfl) (fun h7 H16 => ?_)
      have H17 : Hold h h7 [own cd23 a5 x4.1.length c5 x4.1, box bo 88 [.slice aomatrix o.matrix.length comatrix, .slice a1 s1.length c1], rowsP cd23 22 a1 s1.length c1 s1 [((w64 ((s1.length : Int) - 1)).toNat, a3, x2.length, c3, x2)], it] := H16
      refine Run_nil (by kernel_rfl) ?_
      refine Run_keep [0, 1, 5, 6] (L' := [(0, .pointer (some ⟨bo, 0, none⟩)), (1, .int .i64 index), (5, .slice a5 x4.1.length c5), (6, .int .i64 x4.2)]) (by kernel_rfl) ?_
      refine Run_seq ?_
      refine Run_seq ?_
      refine Run_reg 2 (by kernel_rfl) (L' := [(0, .pointer (some ⟨bo, 0, none⟩)), (1, .int .i64 index), (5, .slice a5 x4.1.length c5), (36, .bool (x4.2 != 0))]) ?_ ?_
      · refine QRun_b [.int .i64 x4.2, .bool (x4.2 != 0)] 0 _ (by kernel_rfl) (fun w => by kernel_rfl) ?_
        exact QRun_done [0, 1, 5, 36] (by kernel_rfl) (by kernel_rfl)
      refine Run_cond (b := x4.2 != 0) (by kernel_rfl) (fun hb2 => ?_) (fun hb2 => ?_)
      · have hB1 := (M.ite_some hB1).1 hb2
        refine Run_seq ?_
        refine Run_reg 1 (by kernel_rfl) (L' := [(4, .bool false)]) ?_ ?_
        · refine QRun_b [.bool false] 0 _ (by kernel_rfl) (fun w => by kernel_rfl) ?_
          exact QRun_done [4] (by kernel_rfl) (by kernel_rfl)
        have hB1 := M.ret_some hB1
        have gx1 := houty1 _ hB1.symm
        have hF := M.cont_inr' hF gx1
        have hF := M.ret_some hF
        subst hF
        have H18 : Hold h h7 [rowsP cd23 22 a1 s1.length c1 s1 [((w64 ((s1.length : Int) - 1)).toNat, a3, x2.length, c3, x2)], own cd23 a5 x4.1.length c5 x4.1, box bo 88 [.slice aomatrix o.matrix.length comatrix, .slice a1 s1.length c1], it] := H17.pick [2, 0, 1, 3] (by kernel_rfl)
        have H19 := H18.ofRows
        have H20 : Hold h h7 [box bo 88 [.slice aomatrix o.matrix.length comatrix, .slice a1 s1.length c1], own cd22 a1 s1.length c1 s1, it] := H19.pick [2, 0, 3] (by kernel_rfl)
        exact Run_ret1 rfl (ResV_tmp (v := .bool false) (by kernel_rfl)) ⟨a1, c1, rfl, H20⟩
      · have hB1 := (M.ite_some hB1).2 hb2
        refine Run_skip ?_
        refine Run_ops ?_
        refine Run_b [.pointer (some ⟨bo, 0, none⟩), .pointer (some ⟨bo, 0, none⟩), .pointer (some ⟨bo, 0, none⟩), .pointer (some ⟨bo, 1, none⟩)] 0 _ (by kernel_rfl) (fun w => by kernel_rfl) ?_
        refine Run_y (.slice a1 s1.length c1) (by kernel_rfl) (Y_load1 (t := 86) (p := ⟨bo, 1, none⟩) (v := .slice a1 s1.length c1) (by kernel_rfl) (fun w => by kernel_rfl) (H17.cell 1 rfl rfl)) ?_
        refine Run_b [.slice a5 x4.1.length c5] 5 _ (by kernel_rfl) (fun w => by kernel_rfl) ?_
        refine Run_E (by kernel_rfl) ?_
        refine E_lit1 (ey := 22) (n := x4.1.length) H17 (fun w => by kernel_rfl) rfl (fun a6 h8 H21 => ?_)
        obtain ⟨l1, hl1, hB1⟩ := M.bind_some hB1
        have hl1 := M.app_some hl1
        have H22 : Hold h h8 [rowsP cd23 22 a1 s1.length c1 s1 [((w64 ((s1.length : Int) - 1)).toNat, a3, x2.length, c3, x2)], own cd22 a6 1 1 [x4.1], box bo 88 [.slice aomatrix o.matrix.length comatrix, .slice a1 s1.length c1], it] := H21.pick [2, 0, 1, 3] (by kernel_rfl)
        have H23 := H22.ofRows
        have H24 : Hold h h8 [own cd22 a6 1 1 [x4.1], own cd22 a1 s1.length c1 s1, box bo 88 [.slice aomatrix o.matrix.length comatrix, .slice a1 s1.length c1], it] := H23.pick [1, 0, 2, 3] (by kernel_rfl)
        have H25 : Hold h h8 [own cd22 a1 s1.length c1 s1, own cd22 a6 1 1 [x4.1], box bo 88 [.slice aomatrix o.matrix.length comatrix, .slice a1 s1.length c1], it] := H24.pick [1, 0, 2, 3] (by kernel_rfl)
        refine Run_E (by kernel_rfl) ?_
        refine E_app (C := cd22) (t := 86) (ty := 86) (n := s1.length) (m := 1) H25 cd22_ti rfl Try.underlying86 (by decide) (by kernel_rfl) hl1 (fun a7 c6 h9 H26 => ?_)
        refine Run_b [.pointer (some ⟨bo, 0, none⟩), .pointer (some ⟨bo, 1, none⟩)] 8 _ (by kernel_rfl) (fun w => by kernel_rfl) ?_
        have H28 : Hold h h9 [box bo 88 [.slice aomatrix o.matrix.length comatrix, .slice a1 s1.length c1], own cd22 a7 l1.length c6 l1, it] := H26.pick [1, 0, 2] (by kernel_rfl)
        refine Run_E (by kernel_rfl) ?_
        refine E_bput (t := 86) (off := 1) (us := [.slice aomatrix o.matrix.length comatrix, .slice a7 l1.length c6]) (v := .slice a7 l1.length c6) H28 (by kernel_rfl) (by kernel_rfl) rfl (by kernel_rfl) rfl (fun h10 H27 => ?_)
        refine Run_nil (by kernel_rfl) ?_
        refine Run_keep [0, 1] (L' := [(0, .pointer (some ⟨bo, 0, none⟩)), (1, .int .i64 index)]) (by kernel_rfl) ?_
        refine Run_blk ?_
        have H29 : Hold h h10 [own cd22 a7 l1.length c6 l1, box bo 88 [.slice aomatrix o.matrix.length comatrix, .slice a7 l1.length c6], it] := H27.pick [1, 0, 2] (by kernel_rfl)
        have H30 : Hold h h10 [box bo 88 [.slice aomatrix o.matrix.length comatrix, .slice a7 l1.length c6], own cd22 a7 l1.length c6 l1, it] := H29.pick [1, 0, 2] (by kernel_rfl)
        have hB1 := M.ret_some hB1
        have gx1 := hgoy1 _ hB1.symm
        exact Run_again [0, 1] (by kernel_rfl) my1 (Nat.lt_succ_self _) ⟨l1, a7, c6, gx1, rfl, H30⟩
    · have hB1 := (M.ite_some hB1).2 hb1
      refine Run_exit (k' := _) rfl ?_
      have H31 : Hold h h1 [own cd22 a1 s1.length c1 s1, box bo 88 [.slice aomatrix o.matrix.length comatrix, .slice a1 s1.length c1], it] := H1.pick [1, 0, 2] (by kernel_rfl)
      have H32 : Hold h h1 [box bo 88 [.slice aomatrix o.matrix.length comatrix, .slice a1 s1.length c1], own cd22 a1 s1.length c1 s1, it] := H31.pick [1, 0, 2] (by kernel_rfl)
      have hB1 := M.ret_some hB1
      have gx1 := houty1 _ hB1.symm
      subst gx1
      exact Run_fall [] (by kernel_rfl) ⟨s1, a1, c1, rfl, rfl, H32⟩

set_option maxRecDepth 100000 in
set_option maxHeartbeats 4000000 in
theorem w_impl_orbit_firstRepeat_B (h hE : Heap) (it : Item) (o : TOrbit) (bo : Nat) (aomatrix : Option Addr) (comatrix : Nat) (romatrix : Rd cd23 h (Lt h) aomatrix comatrix o.matrix) (aolist : Option Addr) (colist : Nat) (HM : Hold h hE [box bo 88 [.slice aomatrix o.matrix.length comatrix, .slice aolist o.list.length colist], own cd22 aolist o.list.length colist o.list, it]) (n : Nat) (r : TRepeat × Int × TOrbit) (hF : impl_orbit_firstRepeat_B o n = some r) :
    Fn Try.prog 61 #[.pointer (some ⟨bo, 0, none⟩)] hE fun v h' => ∃ (a0 : Option Addr) (c0 : Nat), v = .tuple #[.agg #[.int .i64 r.1.at_, .int .i64 r.1.period, .int .i64 r.1.growth], .int .i64 r.2.1] ∧ Hold h h' [box bo 88 [.slice aomatrix o.matrix.length comatrix, .slice a0 r.2.2.list.length c0], own cd22 a0 r.2.2.list.length c0 r.2.2.list, it] := by
  unfold impl_orbit_firstRepeat_B at hF
  refine Fn_enter (args := [.pointer (some ⟨bo, 0, none⟩)]) Try.func61 rfl (by kernel_rfl) (by kernel_rfl) (fun w0 _ => ?_)
  refine Run_seq ?_
  refine Run_ops ?_
  refine Run_E (by kernel_rfl) ?_
  refine E_box (ty := 74) (cs := [.int .i64 0, .int .i64 0, .int .i64 0]) HM (fun w => by kernel_rfl) (fun b1 h1 H1 => ?_)
  refine Run_b [.int .i64 0] 1 _ (by kernel_rfl) (fun w => by kernel_rfl) ?_
  refine Run_nil (by kernel_rfl) ?_
  refine Run_keep [0, 2] (L' := [(0, .pointer (some ⟨bo, 0, none⟩)), (2, .pointer (some ⟨b1, 0, none⟩))]) (by kernel_rfl) ?_
  refine Run_seq ?_
  refine Run_seq ?_
  refine Run_reg 1 (by kernel_rfl) (L' := [(0, .pointer (some ⟨bo, 0, none⟩)), (2, .pointer (some ⟨b1, 0, none⟩)), (8, .int .i64 0)]) ?_ ?_
  · refine QRun_b [.int .i64 0] 0 _ (by kernel_rfl) (fun w => by kernel_rfl) ?_
    exact QRun_done [0, 2, 8] (by kernel_rfl) (by kernel_rfl)
  obtain ⟨x1, gx1, hF⟩ := M.bind_some hF
  obtain ⟨hloy1, hhiy1, gx1⟩ := M.for_start gx1
  refine Run_join (fun L' h' => ∃ (s2 : (List (List (List Int)))) (a2 : Option Addr) (c2 : Nat), x1 = .inl s2 ∧ L' = [(2, .pointer (some ⟨b1, 0, none⟩))] ∧ Hold h h' [box bo 88 [.slice aomatrix o.matrix.length comatrix, .slice a2 s2.length c2], own cd22 a2 s2.length c2 s2, box b1 74 [.int .i64 0, .int .i64 0, .int .i64 0], it]) ?_ ?_
  · rintro _ h3 ⟨s2, a2, c2, es2, rfl, H3⟩
    have hF := M.cont_inl' hF es2
    refine Run_seq ?_
    refine Run_ops ?_
    refine Run_b [.agg #[.int .i64 0, .int .i64 0, .int .i64 0]] 0 _ (by kernel_rfl) (fun w => by kernel_rfl) ?_
    have H39 : Hold h h3 [box b1 74 [.int .i64 0, .int .i64 0, .int .i64 0], box bo 88 [.slice aomatrix o.matrix.length comatrix, .slice a2 s2.length c2], own cd22 a2 s2.length c2 s2, it] := H3.pick [2, 0, 1, 3] (by kernel_rfl)
    refine Run_E (by kernel_rfl) ?_
    refine E_bput (t := 74) (off := 0) (us := [.int .i64 0, .int .i64 0, .int .i64 0]) (v := .agg #[.int .i64 0, .int .i64 0, .int .i64 0]) H39 (by kernel_rfl) (by kernel_rfl) rfl (by kernel_rfl) rfl (fun h9 H38 => ?_)
    refine Run_b [.int .i64 4] 2 _ (by kernel_rfl) (fun w => by kernel_rfl) ?_
    refine Run_nil (by kernel_rfl) ?_
    refine Run_keep [2, 3] (L' := [(2, .pointer (some ⟨b1, 0, none⟩)), (3, .int .i64 4)]) (by kernel_rfl) ?_
    have hF := M.ret_some hF
    subst hF
    have H40 : Hold h h9 [own cd22 a2 s2.length c2 s2, box b1 74 [.int .i64 0, .int .i64 0, .int .i64 0], box bo 88 [.slice aomatrix o.matrix.length comatrix, .slice a2 s2.length c2], it] := H38.pick [2, 0, 1, 3] (by kernel_rfl)
    have H41 : Hold h h9 [box bo 88 [.slice aomatrix o.matrix.length comatrix, .slice a2 s2.length c2], own cd22 a2 s2.length c2 s2, it] := H40.pick [2, 0, 3] (by kernel_rfl)
    exact Run_ret2 rfl (ResV_cell (n := 3) (cs := [.int .i64 0, .int .i64 0, .int .i64 0]) (by kernel_rfl) (fun w => by kernel_rfl) (by kernel_rfl) rfl (H38.cells (n := 3) (off := 0) 0 rfl rfl)) (ResV_tmp (v := .int .i64 4) (by kernel_rfl)) ⟨a2, c2, rfl, H41⟩
  · refine Run_block ?_
    have H42 : Hold h h1 [own cd22 aolist o.list.length colist o.list, box b1 74 [.int .i64 0, .int .i64 0, .int .i64 0], box bo 88 [.slice aomatrix o.matrix.length comatrix, .slice aolist o.list.length colist], it] := H1.pick [2, 0, 1, 3] (by kernel_rfl)
    have H43 : Hold h h1 [box bo 88 [.slice aomatrix o.matrix.length comatrix, .slice aolist o.list.length colist], own cd22 aolist o.list.length colist o.list, box b1 74 [.int .i64 0, .int .i64 0, .int .i64 0], it] := H42.pick [2, 0, 1, 3] (by kernel_rfl)
    refine Run_keep [0, 2, 8] (L' := [(0, .pointer (some ⟨bo, 0, none⟩)), (2, .pointer (some ⟨b1, 0, none⟩)), (8, .int .i64 0)]) (by kernel_rfl) ?_
    refine Run_loop (fun m L' h' => ∃ (i1 : Int) (s1 : (List (List (List Int)))) (a1 : Option Addr) (c1 : Nat), 0 ≤ i1 ∧ M.forN 100 _ _ n m i1 s1 = some x1 ∧ L' = [(0, .pointer (some ⟨bo, 0, none⟩)), (2, .pointer (some ⟨b1, 0, none⟩)), (8, .int .i64 i1)] ∧ Hold h h' [box bo 88 [.slice aomatrix o.matrix.length comatrix, .slice a1 s1.length c1], own cd22 a1 s1.length c1 s1, box b1 74 [.int .i64 0, .int .i64 0, .int .i64 0], it]) (100 - 0 : Int).toNat ⟨0, o.list, aolist, colist, Int.le_refl _, gx1, rfl, H43⟩ ?_
    rintro my1 _ h2 ⟨i1, s1, a1, c1, hloy1', gx1, rfl, H2⟩
    refine Run_seq ?_
    refine Run_reg 1 (by kernel_rfl) (L' := [(0, .pointer (some ⟨bo, 0, none⟩)), (2, .pointer (some ⟨b1, 0, none⟩)), (8, .int .i64 i1), (9, .bool (decide (i1 < 100)))]) ?_ ?_
    · refine QRun_b [.bool (decide (i1 < 100))] 0 _ (by kernel_rfl) (fun w => by kernel_rfl) ?_
      exact QRun_done [0, 2, 8, 9] (by kernel_rfl) (by kernel_rfl)
    refine Run_seq ?_
    refine Run_cond (b := decide (i1 < 100)) (by kernel_rfl) (fun hb1 => ?_) (fun hb1 => ?_)
    · obtain ⟨my1, y1, rfl, hB1, hgoy1, houty1⟩ := M.for_go gx1 hb1
      have hlty1 := of_decide_eq_true hb1
      refine Run_skip ?_
      refine Run_seq ?_
      refine Run_block ?_
      refine Run_seq ?_
      refine Run_reg 2 (by kernel_rfl) (L' := [(0, .pointer (some ⟨bo, 0, none⟩)), (2, .pointer (some ⟨b1, 0, none⟩)), (4, .int .i64 i1), (8, .int .i64 i1)]) ?_ ?_
      · refine QRun_b [.int .i64 i1, .int .i64 i1] 0 _ (by kernel_rfl) (fun w => by kernel_rfl) ?_
        exact QRun_done [0, 2, 4, 8] (by kernel_rfl) (by kernel_rfl)
      refine Run_seq ?_
      refine Run_reg 1 (by kernel_rfl) (L' := [(0, .pointer (some ⟨bo, 0, none⟩)), (2, .pointer (some ⟨b1, 0, none⟩)), (4, .int .i64 i1), (5, .int .i64 1), (8, .int .i64 i1)]) ?_ ?_
      · refine QRun_b [.int .i64 1] 0 _ (by kernel_rfl) (fun w => by kernel_rfl) ?_
        exact QRun_done [0, 2, 4, 5, 8] (by kernel_rfl) (by kernel_rfl)
      obtain ⟨x2, gx2, hB1⟩ := M.bind_some hB1
      refine Run_join (fun L' h' => ∃ (s4 : (List (List (List Int))) × Int) (a4 : Option Addr) (c4 : Nat), x2 = .inl s4 ∧ L' = [(0, .pointer (some ⟨bo, 0, none⟩)), (2, .pointer (some ⟨b1, 0, none⟩)), (8, .int .i64 i1)] ∧ Hold h h' [box bo 88 [.slice aomatrix o.matrix.length comatrix, .slice a4 s4.1.length c4], own cd22 a4 s4.1.length c4 s4.1, box b1 74 [.int .i64 0, .int .i64 0, .int .i64 0], it]) ?_ ?_
      · rintro _ h5 ⟨s4, a4, c4, es4, rfl, H5⟩
        have hB1 := M.cont_inl' hB1 es4
        refine Run_blk ?_
        refine Run_reg 2 (by kernel_rfl) (L' := [(0, .pointer (some ⟨bo, 0, none⟩)), (2, .pointer (some ⟨b1, 0, none⟩)), (8, .int .i64 (i1 + 1))]) ?_ ?_
        · refine QRun_y (.int .i64 (i1 + 1)) (by kernel_rfl) (Y_eq (v := .int .i64 (w64 (i1 + 1))) (Y_pure (fun w => by kernel_rfl)) (by rw [w64_eq _ (by omega)])) ?_
          refine QRun_b [.int .i64 (i1 + 1)] 1 _ (by kernel_rfl) (fun w => by kernel_rfl) ?_
          exact QRun_done [0, 2, 8] (by kernel_rfl) (by kernel_rfl)
        have H32 : Hold h h5 [own cd22 a4 s4.1.length c4 s4.1, box bo 88 [.slice aomatrix o.matrix.length comatrix, .slice a4 s4.1.length c4], box b1 74 [.int .i64 0, .int .i64 0, .int .i64 0], it] := H5.pick [1, 0, 2, 3] (by kernel_rfl)
        have H33 : Hold h h5 [box bo 88 [.slice aomatrix o.matrix.length comatrix, .slice a4 s4.1.length c4], own cd22 a4 s4.1.length c4 s4.1, box b1 74 [.int .i64 0, .int .i64 0, .int .i64 0], it] := H32.pick [1, 0, 2, 3] (by kernel_rfl)
        have hB1 := M.ret_some hB1
        have gx1 := hgoy1 _ hB1.symm
        exact Run_again [0, 2, 8] (by kernel_rfl) my1 (Nat.lt_succ_self _) ⟨i1 + 1, s4.1, a4, c4, by omega, gx1, rfl, H33⟩
      · refine Run_block ?_
        have H34 : Hold h h2 [own cd22 a1 s1.length c1 s1, box bo 88 [.slice aomatrix o.matrix.length comatrix, .slice a1 s1.length c1], box b1 74 [.int .i64 0, .int .i64 0, .int .i64 0], it] := H2.pick [1, 0, 2, 3] (by kernel_rfl)
        have H35 : Hold h h2 [box bo 88 [.slice aomatrix o.matrix.length comatrix, .slice a1 s1.length c1], own cd22 a1 s1.length c1 s1, box b1 74 [.int .i64 0, .int .i64 0, .int .i64 0], it] := H34.pick [1, 0, 2, 3] (by kernel_rfl)
        refine Run_keep [0, 2, 4, 5, 8] (L' := [(0, .pointer (some ⟨bo, 0, none⟩)), (2, .pointer (some ⟨b1, 0, none⟩)), (4, .int .i64 i1), (5, .int .i64 1), (8, .int .i64 i1)]) (by kernel_rfl) ?_
        refine Run_loop (fun m L' h' => ∃ (s3 : (List (List (List Int))) × Int) (a3 : Option Addr) (c3 : Nat), M.loopN _ n m s3 = some x2 ∧ L' = [(0, .pointer (some ⟨bo, 0, none⟩)), (2, .pointer (some ⟨b1, 0, none⟩)), (4, .int .i64 i1), (5, .int .i64 s3.2), (8, .int .i64 i1)] ∧ Hold h h' [box bo 88 [.slice aomatrix o.matrix.length comatrix, .slice a3 s3.1.length c3], own cd22 a3 s3.1.length c3 s3.1, box b1 74 [.int .i64 0, .int .i64 0, .int .i64 0], it]) n ⟨(s1, 1), a1, c1, gx2, rfl, H35⟩ ?_
        rintro my2 _ h4 ⟨s3, a3, c3, gx2, rfl, H4⟩
        obtain ⟨my2, y2, rfl, hB2, hgoy2, houty2⟩ := M.loop_some gx2
        refine Run_seq ?_
        refine Run_seq ?_
        refine Run_reg 4 (by kernel_rfl) (L' := [(0, .pointer (some ⟨bo, 0, none⟩)), (2, .pointer (some ⟨b1, 0, none⟩)), (4, .int .i64 i1), (5, .int .i64 s3.2), (8, .int .i64 i1), (14, .bool (decide ((w64 (i1 + s3.2)) ≤ 100)))]) ?_ ?_
        · refine QRun_b [.int .i64 i1, .int .i64 s3.2, .int .i64 (w64 (i1 + s3.2)), .bool (decide ((w64 (i1 + s3.2)) ≤ 100))] 0 _ (by kernel_rfl) (fun w => by kernel_rfl) ?_
          exact QRun_done [0, 2, 4, 5, 8, 14] (by kernel_rfl) (by kernel_rfl)
        refine Run_cond (b := decide ((w64 (i1 + s3.2)) ≤ 100)) (by kernel_rfl) (fun hb2 => ?_) (fun hb2 => ?_)
        · have hB2 := (M.ite_some hB2).1 hb2
          refine Run_skip ?_
          refine Run_seq ?_
          refine Run_block ?_
          refine Run_seq ?_
          refine Run_seq ?_
          refine Run_ops ?_
          refine Run_b [.pointer (some ⟨bo, 0, none⟩), .int .i64 i1, .int .i64 s3.2, .int .i64 (w64 (i1 + s3.2))] 0 _ (by kernel_rfl) (fun w => by kernel_rfl) ?_
          obtain ⟨x3, hx1, hB2⟩ := M.bind_some hB2
          have H6 : Hold h h4 [own cd22 a3 s3.1.length c3 s3.1, box bo 88 [.slice aomatrix o.matrix.length comatrix, .slice a3 s3.1.length c3], box b1 74 [.int .i64 0, .int .i64 0, .int .i64 0], it] := H4.pick [1, 0, 2, 3] (by kernel_rfl)
          have H7 : Hold h h4 [box bo 88 [.slice aomatrix o.matrix.length comatrix, .slice a3 s3.1.length c3], own cd22 a3 s3.1.length c3 s3.1, box b1 74 [.int .i64 0, .int .i64 0, .int .i64 0], it] := H6.pick [1, 0, 2, 3] (by kernel_rfl)
          have H8 : Hold h h4 [box bo 88 [.slice aomatrix o.matrix.length comatrix, .slice a3 s3.1.length c3], own cd22 a3 s3.1.length c3 s3.1, bun [box b1 74 [.int .i64 0, .int .i64 0, .int .i64 0], it]] := Hold.bundle (S := [box bo 88 [.slice aomatrix o.matrix.length comatrix, .slice a3 s3.1.length c3], own cd22 a3 s3.1.length c3 s3.1]) (R := [box b1 74 [.int .i64 0, .int .i64 0, .int .i64 0], it]) H7
          refine Run_E (by kernel_rfl) ?_
          refine E_call (f := 89) (args := #[.pointer (some ⟨bo, 0, none⟩), .int .i64 (w64 (i1 + s3.2))]) (w_impl_orbit_grow_B h h4 _ (⟨o.matrix, s3.1⟩ : TOrbit) bo aomatrix comatrix romatrix a3 c3 (w64 (i1 + s3.2)) H8 _ _ hx1) (by kernel_rfl) (fun v1 h6 hp1 => ?_)
          obtain ⟨a5, c5, rfl, H9⟩ := hp1
          have H10 : Hold h h6 [box bo 88 [.slice aomatrix o.matrix.length comatrix, .slice a5 x3.2.list.length c5], own cd22 a5 x3.2.list.length c5 x3.2.list, box b1 74 [.int .i64 0, .int .i64 0, .int .i64 0], it] := Hold.unbundle (S := [box bo 88 [.slice aomatrix o.matrix.length comatrix, .slice a5 x3.2.list.length c5], own cd22 a5 x3.2.list.length c5 x3.2.list]) (R := [box b1 74 [.int .i64 0, .int .i64 0, .int .i64 0], it]) H9 (Hold.tailBase (S := [box bo 88 [.slice aomatrix o.matrix.length comatrix, .slice a3 s3.1.length c3], own cd22 a3 s3.1.length c3 s3.1]) (R := [box b1 74 [.int .i64 0, .int .i64 0, .int .i64 0], it]) H7)
          refine Run_b [.bool (!x3.1)] 5 _ (by kernel_rfl) (fun w => by kernel_rfl) ?_
          refine Run_nil (by kernel_rfl) ?_
          refine Run_keep [0, 2, 4, 5, 8, 22] (L' := [(0, .pointer (some ⟨bo, 0, none⟩)), (2, .pointer (some ⟨b1, 0, none⟩)), (4, .int .i64 i1), (5, .int .i64 s3.2), (8, .int .i64 i1), (22, .bool (!x3.1))]) (by kernel_rfl) ?_
          refine Run_cond (b := !x3.1) (by kernel_rfl) (fun hb3 => ?_) (fun hb3 => ?_)
          · have hB2 := (M.ite_some hB2).1 hb3
            refine Run_seq ?_
            refine Run_ops ?_
            refine Run_b [.agg #[.int .i64 0, .int .i64 0, .int .i64 0]] 0 _ (by kernel_rfl) (fun w => by kernel_rfl) ?_
            have H12 : Hold h h6 [box b1 74 [.int .i64 0, .int .i64 0, .int .i64 0], box bo 88 [.slice aomatrix o.matrix.length comatrix, .slice a5 x3.2.list.length c5], own cd22 a5 x3.2.list.length c5 x3.2.list, it] := H10.pick [2, 0, 1, 3] (by kernel_rfl)
            refine Run_E (by kernel_rfl) ?_
            refine E_bput (t := 74) (off := 0) (us := [.int .i64 0, .int .i64 0, .int .i64 0]) (v := .agg #[.int .i64 0, .int .i64 0, .int .i64 0]) H12 (by kernel_rfl) (by kernel_rfl) rfl (by kernel_rfl) rfl (fun h7 H11 => ?_)
            refine Run_b [.int .i64 3] 2 _ (by kernel_rfl) (fun w => by kernel_rfl) ?_
            refine Run_nil (by kernel_rfl) ?_
            refine Run_keep [2, 3] (L' := [(2, .pointer (some ⟨b1, 0, none⟩)), (3, .int .i64 3)]) (by kernel_rfl) ?_
            have hB2 := M.ret_some hB2
            have gx2 := houty2 _ hB2.symm
            have hB1 := M.cont_inr' hB1 gx2
            have hB1 := M.ret_some hB1
            have gx1 := houty1 _ hB1.symm
            have hF := M.cont_inr' hF gx1
            have hF := M.ret_some hF
            subst hF
            have H13 : Hold h h7 [own cd22 a5 x3.2.list.length c5 x3.2.list, box b1 74 [.int .i64 0, .int .i64 0, .int .i64 0], box bo 88 [.slice aomatrix o.matrix.length comatrix, .slice a5 x3.2.list.length c5], it] := H11.pick [2, 0, 1, 3] (by kernel_rfl)
            have H14 : Hold h h7 [box bo 88 [.slice aomatrix o.matrix.length comatrix, .slice a5 x3.2.list.length c5], own cd22 a5 x3.2.list.length c5 x3.2.list, it] := H13.pick [2, 0, 3] (by kernel_rfl)
            exact Run_ret2 rfl (ResV_cell (n := 3) (cs := [.int .i64 0, .int .i64 0, .int .i64 0]) (by kernel_rfl) (fun w => by kernel_rfl) (by kernel_rfl) rfl (H11.cells (n := 3) (off := 0) 0 rfl rfl)) (ResV_tmp (v := .int .i64 3) (by kernel_rfl)) ⟨a5, c5, rfl, H14⟩
          · have hB2 := (M.ite_some hB2).2 hb3
            refine Run_skip ?_
            refine Run_seq ?_
            obtain ⟨x4, hx2, hB2⟩ := M.bind_some hB2
            obtain ⟨hx2l, hx2u, hx2⟩ := M.idx_some hx2
            have H15 : Hold h h6 [own cd22 a5 x3.2.list.length c5 x3.2.list, box bo 88 [.slice aomatrix o.matrix.length comatrix, .slice a5 x3.2.list.length c5], box b1 74 [.int .i64 0, .int .i64 0, .int .i64 0], it] := H10.pick [1, 0, 2, 3] (by kernel_rfl)
            have H16 := H15.toRows
            obtain ⟨a6, c6, H17⟩ := H16.pinRow hx2
            have H18 : Hold h h6 [box bo 88 [.slice aomatrix o.matrix.length comatrix, .slice a5 x3.2.list.length c5], rowsP cd23 22 a5 x3.2.list.length c5 x3.2.list [(i1.toNat, a6, x4.length, c6, x4)], box b1 74 [.int .i64 0, .int .i64 0, .int .i64 0], it] := H17.pick [1, 0, 2, 3] (by kernel_rfl)
            obtain ⟨x5, hx3, hB2⟩ := M.bind_some hB2
            obtain ⟨hx3l, hx3u, hx3⟩ := M.idx_some hx3
            have H19 : Hold h h6 [rowsP cd23 22 a5 x3.2.list.length c5 x3.2.list [(i1.toNat, a6, x4.length, c6, x4)], box bo 88 [.slice aomatrix o.matrix.length comatrix, .slice a5 x3.2.list.length c5], box b1 74 [.int .i64 0, .int .i64 0, .int .i64 0], it] := H18.pick [1, 0, 2, 3] (by kernel_rfl)
            obtain ⟨a7, c7, H20⟩ := H19.pinRow hx3
            have H21 : Hold h h6 [box bo 88 [.slice aomatrix o.matrix.length comatrix, .slice a5 x3.2.list.length c5], rowsP cd23 22 a5 x3.2.list.length c5 x3.2.list [((w64 (i1 + s3.2)).toNat, a7, x5.length, c7, x5), (i1.toNat, a6, x4.length, c6, x4)], box b1 74 [.int .i64 0, .int .i64 0, .int .i64 0], it] := H20.pick [1, 0, 2, 3] (by kernel_rfl)
            obtain ⟨x6, hx4, hB2⟩ := M.bind_some hB2
            refine Run_draw 22 mixed (by kernel_rfl) (by kernel_rfl) (L' := [(0, .pointer (some ⟨bo, 0, none⟩)), (2, .pointer (some ⟨b1, 0, none⟩)), (4, .int .i64 i1), (5, .int .i64 s3.2), (6, .int .i64 x6.1), (7, .bool x6.2), (8, .int .i64 i1)]) ?_ ?_
            · refine QRun_b [.pointer (some ⟨bo, 0, none⟩), .pointer (some ⟨bo, 0, none⟩), .pointer (some ⟨bo, 1, none⟩)] 0 _ (by kernel_rfl) (fun w => by kernel_rfl) ?_
              refine QRun_y (.slice a5 x3.2.list.length c5) (by kernel_rfl) (Y_load1 (t := 86) (p := ⟨bo, 1, none⟩) (v := .slice a5 x3.2.list.length c5) (by kernel_rfl) (fun w => by kernel_rfl) (H10.cell 0 rfl rfl)) ?_
              refine QRun_b [.int .i64 i1] 4 _ (by kernel_rfl) (fun w => by kernel_rfl) ?_
              refine QRun_y (.pointer (some (adr a5 (i1.toNat * 1)))) (by kernel_rfl) (Y_idx (t := 86) (e := 22) (sz := 1) (a := a5) (n := x3.2.list.length) (cap := c5) (kk := .i64) (i := i1) (by kernel_rfl) Try.underlying86 (by kernel_rfl) ((H10.rd 1 rfl).cell hx2).1 hx2l hx2u) ?_
              refine QRun_y (.slice a6 x4.length c6) (by kernel_rfl) (Y_load1 (t := 22) (p := adr a5 (i1.toNat * 1)) (v := .slice a6 x4.length c6) (by kernel_rfl) (fun w => by kernel_rfl) (H18.cellPin 1 rfl 0 rfl)) ?_
              refine QRun_b [.pointer (some ⟨bo, 0, none⟩), .pointer (some ⟨bo, 0, none⟩), .pointer (some ⟨bo, 1, none⟩)] 7 _ (by kernel_rfl) (fun w => by kernel_rfl) ?_
              refine QRun_y (.slice a5 x3.2.list.length c5) (by kernel_rfl) (Y_load1 (t := 86) (p := ⟨bo, 1, none⟩) (v := .slice a5 x3.2.list.length c5) (by kernel_rfl) (fun w => by kernel_rfl) (H18.cell 0 rfl rfl)) ?_
              refine QRun_b [.int .i64 i1, .int .i64 s3.2, .int .i64 (w64 (i1 + s3.2))] 11 _ (by kernel_rfl) (fun w => by kernel_rfl) ?_
              refine QRun_y (.pointer (some (adr a5 ((w64 (i1 + s3.2)).toNat * 1)))) (by kernel_rfl) (Y_idx (t := 86) (e := 22) (sz := 1) (a := a5) (n := x3.2.list.length) (cap := c5) (kk := .i64) (i := w64 (i1 + s3.2)) (by kernel_rfl) Try.underlying86 (by kernel_rfl) ((H18.rdRows 1 rfl).cell hx3).1 hx3l hx3u) ?_
              refine QRun_y (.slice a7 x5.length c7) (by kernel_rfl) (Y_load1 (t := 22) (p := adr a5 ((w64 (i1 + s3.2)).toNat * 1)) (v := .slice a7 x5.length c7) (by kernel_rfl) (fun w => by kernel_rfl) (H21.cellPin 1 rfl 0 rfl)) ?_
              refine QRun_y (.tuple #[.int .i64 x6.1, .bool x6.2]) (by kernel_rfl) (Y_callq (f := 104) (args := #[.slice a6 x4.length c6, .slice a7 x5.length c7]) (v := .tuple #[.int .i64 x6.1, .bool x6.2]) (by kernel_rfl) (w_impl_growthBetween h6 x4 a6 c6 (H21.rdPin 1 rfl 1 rfl) x5 a7 c7 (H21.rdPin 1 rfl 0 rfl) _ _ hx4)) ?_
              refine QRun_b [.tuple #[.int .i64 x6.1, .bool x6.2], .int .i64 x6.1, .bool x6.2, .int .i64 x6.1, .bool x6.2] 17 _ (by kernel_rfl) (fun w => by kernel_rfl) ?_
              exact QRun_done [0, 2, 4, 5, 6, 7, 8] (by kernel_rfl) (by kernel_rfl)
            refine Run_seq ?_
            refine Run_reg 1 (by kernel_rfl) (L' := [(0, .pointer (some ⟨bo, 0, none⟩)), (2, .pointer (some ⟨b1, 0, none⟩)), (4, .int .i64 i1), (5, .int .i64 s3.2), (6, .int .i64 x6.1), (8, .int .i64 i1), (44, .bool x6.2)]) ?_ ?_
            · refine QRun_b [.bool x6.2] 0 _ (by kernel_rfl) (fun w => by kernel_rfl) ?_
              exact QRun_done [0, 2, 4, 5, 6, 8, 44] (by kernel_rfl) (by kernel_rfl)
            refine Run_cond (b := x6.2) (by kernel_rfl) (fun hb4 => ?_) (fun hb4 => ?_)
            · have hB2 := (M.ite_some hB2).1 hb4
              refine Run_seq ?_
              refine Run_ops ?_
              refine Run_b [.int .i64 i1, .int .i64 s3.2, .int .i64 x6.1, .agg #[.int .i64 i1, .int .i64 s3.2, .int .i64 x6.1]] 0 _ (by kernel_rfl) (fun w => by kernel_rfl) ?_
              have H23 : Hold h h6 [box b1 74 [.int .i64 0, .int .i64 0, .int .i64 0], box bo 88 [.slice aomatrix o.matrix.length comatrix, .slice a5 x3.2.list.length c5], rowsP cd23 22 a5 x3.2.list.length c5 x3.2.list [((w64 (i1 + s3.2)).toNat, a7, x5.length, c7, x5), (i1.toNat, a6, x4.length, c6, x4)], it] := H21.pick [2, 0, 1, 3] (by kernel_rfl)
              refine Run_E (by kernel_rfl) ?_
              refine E_bput (t := 74) (off := 0) (us := [.int .i64 i1, .int .i64 s3.2, .int .i64 x6.1]) (v := .agg #[.int .i64 i1, .int .i64 s3.2, .int .i64 x6.1]) H23 (by kernel_rfl) (by kernel_rfl) rfl (by kernel_rfl) rfl (fun h8 H22 => ?_)
              refine Run_b [.int .i64 0] 5 _ (by kernel_rfl) (fun w => by kernel_rfl) ?_
              refine Run_nil (by kernel_rfl) ?_
              refine Run_keep [2, 3] (L' := [(2, .pointer (some ⟨b1, 0, none⟩)), (3, .int .i64 0)]) (by kernel_rfl) ?_
              have hB2 := M.ret_some hB2
              have gx2 := houty2 _ hB2.symm
              have hB1 := M.cont_inr' hB1 gx2
              have hB1 := M.ret_some hB1
              have gx1 := houty1 _ hB1.symm
              have hF := M.cont_inr' hF gx1
              have hF := M.ret_some hF
              subst hF
              have H24 : Hold h h8 [rowsP cd23 22 a5 x3.2.list.length c5 x3.2.list [((w64 (i1 + s3.2)).toNat, a7, x5.length, c7, x5), (i1.toNat, a6, x4.length, c6, x4)], box b1 74 [.int .i64 i1, .int .i64 s3.2, .int .i64 x6.1], box bo 88 [.slice aomatrix o.matrix.length comatrix, .slice a5 x3.2.list.length c5], it] := H22.pick [2, 0, 1, 3] (by kernel_rfl)
              have H25 := H24.ofRows
              have H26 : Hold h h8 [box bo 88 [.slice aomatrix o.matrix.length comatrix, .slice a5 x3.2.list.length c5], own cd22 a5 x3.2.list.length c5 x3.2.list, it] := H25.pick [2, 0, 3] (by kernel_rfl)
              exact Run_ret2 rfl (ResV_cell (n := 3) (cs := [.int .i64 i1, .int .i64 s3.2, .int .i64 x6.1]) (by kernel_rfl) (fun w => by kernel_rfl) (by kernel_rfl) rfl (H22.cells (n := 3) (off := 0) 0 rfl rfl)) (ResV_tmp (v := .int .i64 0) (by kernel_rfl)) ⟨a5, c5, rfl, H26⟩
            · have hB2 := (M.ite_some hB2).2 hb4
              refine Run_skip ?_
              refine Run_blk ?_
              refine Run_reg 3 (by kernel_rfl) (L' := [(0, .pointer (some ⟨bo, 0, none⟩)), (2, .pointer (some ⟨b1, 0, none⟩)), (4, .int .i64 i1), (5, .int .i64 (w64 (s3.2 + 1))), (8, .int .i64 i1)]) ?_ ?_
              · refine QRun_b [.int .i64 s3.2, .int .i64 (w64 (s3.2 + 1)), .int .i64 (w64 (s3.2 + 1))] 0 _ (by kernel_rfl) (fun w => by kernel_rfl) ?_
                exact QRun_done [0, 2, 4, 5, 8] (by kernel_rfl) (by kernel_rfl)
              have H27 : Hold h h6 [rowsP cd23 22 a5 x3.2.list.length c5 x3.2.list [((w64 (i1 + s3.2)).toNat, a7, x5.length, c7, x5), (i1.toNat, a6, x4.length, c6, x4)], box bo 88 [.slice aomatrix o.matrix.length comatrix, .slice a5 x3.2.list.length c5], box b1 74 [.int .i64 0, .int .i64 0, .int .i64 0], it] := H21.pick [1, 0, 2, 3] (by kernel_rfl)
              have H28 := H27.ofRows
              have H29 : Hold h h6 [box bo 88 [.slice aomatrix o.matrix.length comatrix, .slice a5 x3.2.list.length c5], own cd22 a5 x3.2.list.length c5 x3.2.list, box b1 74 [.int .i64 0, .int .i64 0, .int .i64 0], it] := H28.pick [1, 0, 2, 3] (by kernel_rfl)
              have hB2 := M.ret_some hB2
              have gx2 := hgoy2 _ hB2.symm
              exact Run_again [0, 2, 4, 5, 8] (by kernel_rfl) my2 (Nat.lt_succ_self _) ⟨(x3.2.list, (w64 (s3.2 + 1))), a5, c5, gx2, rfl, H29⟩
        · have hB2 := (M.ite_some hB2).2 hb2
          refine Run_exit (k' := _) rfl ?_
          have H30 : Hold h h4 [own cd22 a3 s3.1.length c3 s3.1, box bo 88 [.slice aomatrix o.matrix.length comatrix, .slice a3 s3.1.length c3], box b1 74 [.int .i64 0, .int .i64 0, .int .i64 0], it] := H4.pick [1, 0, 2, 3] (by kernel_rfl)
          have H31 : Hold h h4 [box bo 88 [.slice aomatrix o.matrix.length comatrix, .slice a3 s3.1.length c3], own cd22 a3 s3.1.length c3 s3.1, box b1 74 [.int .i64 0, .int .i64 0, .int .i64 0], it] := H30.pick [1, 0, 2, 3] (by kernel_rfl)
          have hB2 := M.ret_some hB2
          have gx2 := houty2 _ hB2.symm
          subst gx2
          exact Run_fall [0, 2, 8] (by kernel_rfl) ⟨(s3.1, s3.2), a3, c3, rfl, rfl, H31⟩
    · have gx1 := M.for_end gx1 hb1
      subst gx1
      refine Run_exit (k' := _) rfl ?_
      have H36 : Hold h h2 [own cd22 a1 s1.length c1 s1, box bo 88 [.slice aomatrix o.matrix.length comatrix, .slice a1 s1.length c1], box b1 74 [.int .i64 0, .int .i64 0, .int .i64 0], it] := H2.pick [1, 0, 2, 3] (by kernel_rfl)
      have H37 : Hold h h2 [box bo 88 [.slice aomatrix o.matrix.length comatrix, .slice a1 s1.length c1], own cd22 a1 s1.length c1 s1, box b1 74 [.int .i64 0, .int .i64 0, .int .i64 0], it] := H36.pick [1, 0, 2, 3] (by kernel_rfl)
      exact Run_fall [2] (by kernel_rfl) ⟨s1, a1, c1, rfl, rfl, H37⟩

set_option maxRecDepth 100000 in
set_option maxHeartbeats 4000000 in
theorem w_impl_OrbitRepeats (h : Heap) (a_ : List (List Int)) (aa_ : Option Addr) (ca_ : Nat) (ra_ : Rd cd23 h (Lt h) aa_ ca_ a_) (x_ : List Int) (ax_ : Option Addr) (cx_ : Nat) (rx_ : Rd cd2 h (Lt h) ax_ cx_ x_) (n : Nat) (r : Int × Int × Int × Int) (hF : impl_OrbitRepeats a_ x_ n = some r) :
    Fn Try.prog 23 #[.slice aa_ a_.length ca_, .slice ax_ x_.length cx_] h fun v h' => v = .tuple #[.int .i64 r.1, .int .i64 r.2.1, .int .i64 r.2.2.1, .int .i64 r.2.2.2] ∧ Hold h h' [] := by
  unfold impl_OrbitRepeats at hF
  refine Fn_enter (args := [.slice aa_ a_.length ca_, .slice ax_ x_.length cx_]) Try.func23 rfl (by kernel_rfl) (by kernel_rfl) (fun w0 _ => ?_)
  have H0 := Hold.init h
  refine Run_seq ?_
  refine Run_reg 4 (by kernel_rfl) (L' := [(0, .slice aa_ a_.length ca_), (1, .slice ax_ x_.length cx_)]) ?_ ?_
  · refine QRun_b [.int .i64 0, .int .i64 0, .int .i64 0, .int .i64 0] 0 _ (by kernel_rfl) (fun w => by kernel_rfl) ?_
    exact QRun_done [0, 1] (by kernel_rfl) (by kernel_rfl)
  refine Run_seq ?_
  refine Run_seq ?_
  obtain ⟨x1, hx1, hF⟩ := M.bind_some hF
  refine Run_regC (j := 4) (C := fun x => Hold h x []) (by kernel_rfl) H0 (L' := [(0, .slice aa_ a_.length ca_), (1, .slice ax_ x_.length cx_), (8, .int .i64 x1)]) ?_ (fun h1 H1 => ?_)
  · refine QRun_b [.slice aa_ a_.length ca_, .slice ax_ x_.length cx_] 0 _ (by kernel_rfl) (fun w => by kernel_rfl) ?_
    refine QRun_y (.int .i64 x1) (by kernel_rfl) (Y_call (f := 59) (args := #[.slice aa_ a_.length ca_, .slice ax_ x_.length cx_]) (v := .int .i64 x1) (by kernel_rfl) fun hx Hx => (w_impl_checkOrbit hx a_ aa_ ca_ (ra_.at Hx.ext) x_ ax_ cx_ (rx_.at Hx.ext) _ _ hx1).mono fun _ _ ⟨e, H'⟩ => ⟨e, Hx.call H' rfl⟩) ?_
    refine QRun_b [.int .i64 x1] 3 _ (by kernel_rfl) (fun w => by kernel_rfl) ?_
    exact QRun_done [0, 1, 8] (by kernel_rfl) (by kernel_rfl)
  have H2 : Hold h h1 [] := H1
  refine Run_seq ?_
  refine Run_reg 2 (by kernel_rfl) (L' := [(0, .slice aa_ a_.length ca_), (1, .slice ax_ x_.length cx_), (8, .int .i64 x1), (16, .bool (x1 != 0))]) ?_ ?_
  · refine QRun_b [.int .i64 x1, .bool (x1 != 0)] 0 _ (by kernel_rfl) (fun w => by kernel_rfl) ?_
    exact QRun_done [0, 1, 8, 16] (by kernel_rfl) (by kernel_rfl)
  refine Run_cond (b := x1 != 0) (by kernel_rfl) (fun hb1 => ?_) (fun hb1 => ?_)
  · have hF := (M.ite_some hF).1 hb1
    refine Run_seq ?_
    refine Run_reg 5 (by kernel_rfl) (L' := [(4, .int .i64 0), (5, .int .i64 0), (6, .int .i64 0), (7, .int .i64 x1)]) ?_ ?_
    · refine QRun_b [.int .i64 x1, .int .i64 0, .int .i64 0, .int .i64 0, .int .i64 x1] 0 _ (by kernel_rfl) (fun w => by kernel_rfl) ?_
      exact QRun_done [4, 5, 6, 7] (by kernel_rfl) (by kernel_rfl)
    have hF := M.ret_some hF
    subst hF
    exact Run_ret4 rfl (ResV_tmp (v := .int .i64 0) (by kernel_rfl)) (ResV_tmp (v := .int .i64 0) (by kernel_rfl)) (ResV_tmp (v := .int .i64 0) (by kernel_rfl)) (ResV_tmp (v := .int .i64 x1) (by kernel_rfl)) ⟨rfl, H2⟩
  · have hF := (M.ite_some hF).2 hb1
    refine Run_skip ?_
    refine Run_seq ?_
    refine Run_ops ?_
    refine Run_b [.slice aa_ a_.length ca_, .slice ax_ x_.length cx_] 0 _ (by kernel_rfl) (fun w => by kernel_rfl) ?_
    obtain ⟨x2, hx2, hF⟩ := M.bind_some hF
    refine Run_E (by kernel_rfl) ?_
    refine E_call (f := 60) (args := #[.slice aa_ a_.length ca_, .slice ax_ x_.length cx_]) (w_impl_vectorOrbit h1 a_ aa_ ca_ (ra_.at H2.ext) x_ ax_ cx_ (rx_.at H2.ext) _ _ hx2) (by kernel_rfl) (fun v1 h2 hp1 => ?_)
    obtain ⟨b1, a1, c1, a2, c2, rfl, hd1, H3⟩ := hp1
    have H4 : Hold h h2 [box b1 88 [.slice a1 x2.matrix.length c1, .slice a2 x2.list.length c2], own cd22 a2 x2.list.length c2 x2.list] := H2.call H3 rfl
    have r1 := ra_.alias hd1
    refine Run_b [.pointer (some ⟨b1, 0, none⟩)] 3 _ (by kernel_rfl) (fun w => by kernel_rfl) ?_
    refine Run_nil (by kernel_rfl) ?_
    refine Run_keep [9] (L' := [(9, .pointer (some ⟨b1, 0, none⟩))]) (by kernel_rfl) ?_
    refine Run_seq ?_
    refine Run_ops ?_
    refine Run_b [.pointer (some ⟨b1, 0, none⟩)] 0 _ (by kernel_rfl) (fun w => by kernel_rfl) ?_
    obtain ⟨x3, hx3, hF⟩ := M.bind_some hF
    have H5 : Hold h h2 [own cd22 a2 x2.list.length c2 x2.list, box b1 88 [.slice a1 x2.matrix.length c1, .slice a2 x2.list.length c2]] := H4.pick [1, 0] (by kernel_rfl)
    have H6 : Hold h h2 [box b1 88 [.slice a1 x2.matrix.length c1, .slice a2 x2.list.length c2], own cd22 a2 x2.list.length c2 x2.list] := H5.pick [1, 0] (by kernel_rfl)
    have H7 : Hold h h2 [box b1 88 [.slice a1 x2.matrix.length c1, .slice a2 x2.list.length c2], own cd22 a2 x2.list.length c2 x2.list, bun []] := Hold.bundle (S := [box b1 88 [.slice a1 x2.matrix.length c1, .slice a2 x2.list.length c2], own cd22 a2 x2.list.length c2 x2.list]) (R := []) H6
    refine Run_E (by kernel_rfl) ?_
    refine E_call (f := 61) (args := #[.pointer (some ⟨b1, 0, none⟩)]) (w_impl_orbit_firstRepeat_B h h2 _ x2 b1 a1 c1 r1 a2 c2 H7 _ _ hx3) (by kernel_rfl) (fun v2 h3 hp2 => ?_)
    obtain ⟨a3, c3, rfl, H8⟩ := hp2
    have H9 : Hold h h3 [box b1 88 [.slice a1 x2.matrix.length c1, .slice a3 x3.2.2.list.length c3], own cd22 a3 x3.2.2.list.length c3 x3.2.2.list] := Hold.unbundle (S := [box b1 88 [.slice a1 x2.matrix.length c1, .slice a3 x3.2.2.list.length c3], own cd22 a3 x3.2.2.list.length c3 x3.2.2.list]) (R := []) H8 (Hold.tailBase (S := [box b1 88 [.slice a1 x2.matrix.length c1, .slice a2 x2.list.length c2], own cd22 a2 x2.list.length c2 x2.list]) (R := []) H6)
    refine Run_b [.tuple #[.agg #[.int .i64 x3.1.at_, .int .i64 x3.1.period, .int .i64 x3.1.growth], .int .i64 x3.2.1], .agg #[.int .i64 x3.1.at_, .int .i64 x3.1.period, .int .i64 x3.1.growth], .int .i64 x3.2.1] 2 _ (by kernel_rfl) (fun w => by kernel_rfl) ?_
    refine Run_E (by kernel_rfl) ?_
    refine E_box (ty := 74) (cs := [.int .i64 0, .int .i64 0, .int .i64 0]) H9 (fun w => by kernel_rfl) (fun b2 h4 H10 => ?_)
    refine Run_E (by kernel_rfl) ?_
    refine E_bput (t := 74) (off := 0) (us := [.int .i64 x3.1.at_, .int .i64 x3.1.period, .int .i64 x3.1.growth]) (v := .agg #[.int .i64 x3.1.at_, .int .i64 x3.1.period, .int .i64 x3.1.growth]) H10 (by kernel_rfl) (by kernel_rfl) rfl (by kernel_rfl) rfl (fun h5 H11 => ?_)
    refine Run_b [.int .i64 x3.2.1] 7 _ (by kernel_rfl) (fun w => by kernel_rfl) ?_
    refine Run_nil (by kernel_rfl) ?_
    refine Run_keep [10, 11] (L' := [(10, .pointer (some ⟨b2, 0, none⟩)), (11, .int .i64 x3.2.1)]) (by kernel_rfl) ?_
    refine Run_seq ?_
    refine Run_draw 11 mixed (by kernel_rfl) (by kernel_rfl) (L' := [(4, .int .i64 x3.1.at_), (5, .int .i64 x3.1.period), (6, .int .i64 x3.1.growth), (7, .int .i64 x3.2.1)]) ?_ ?_
    · refine QRun_b [.pointer (some ⟨b2, 0, none⟩)] 0 _ (by kernel_rfl) (fun w => by kernel_rfl) ?_
      refine QRun_y (.int .i64 x3.1.at_) (by kernel_rfl) (Y_load1 (t := 2) (p := ⟨b2, 0, none⟩) (v := .int .i64 x3.1.at_) (by kernel_rfl) (fun w => by kernel_rfl) (H11.cell 0 rfl rfl)) ?_
      refine QRun_b [.pointer (some ⟨b2, 1, none⟩)] 2 _ (by kernel_rfl) (fun w => by kernel_rfl) ?_
      refine QRun_y (.int .i64 x3.1.period) (by kernel_rfl) (Y_load1 (t := 2) (p := ⟨b2, 1, none⟩) (v := .int .i64 x3.1.period) (by kernel_rfl) (fun w => by kernel_rfl) (H11.cell 0 rfl rfl)) ?_
      refine QRun_b [.pointer (some ⟨b2, 2, none⟩)] 4 _ (by kernel_rfl) (fun w => by kernel_rfl) ?_
      refine QRun_y (.int .i64 x3.1.growth) (by kernel_rfl) (Y_load1 (t := 2) (p := ⟨b2, 2, none⟩) (v := .int .i64 x3.1.growth) (by kernel_rfl) (fun w => by kernel_rfl) (H11.cell 0 rfl rfl)) ?_
      refine QRun_b [.int .i64 x3.2.1, .int .i64 x3.1.at_, .int .i64 x3.1.period, .int .i64 x3.1.growth, .int .i64 x3.2.1] 6 _ (by kernel_rfl) (fun w => by kernel_rfl) ?_
      exact QRun_done [4, 5, 6, 7] (by kernel_rfl) (by kernel_rfl)
    have hF := M.ret_some hF
    subst hF
    have H12 : Hold h h5 [] := H11.pick [] (by kernel_rfl)
    exact Run_ret4 rfl (ResV_tmp (v := .int .i64 x3.1.at_) (by kernel_rfl)) (ResV_tmp (v := .int .i64 x3.1.period) (by kernel_rfl)) (ResV_tmp (v := .int .i64 x3.1.growth) (by kernel_rfl)) (ResV_tmp (v := .int .i64 x3.2.1) (by kernel_rfl)) ⟨rfl, H12⟩

set_option maxRecDepth 100000 in
set_option maxHeartbeats 4000000 in
theorem w_spec_l01In (h : Heap) (n_ : Int) (low : Int) (high : Int) (n : Nat) (r : Bool) (hF : spec_l01In n_ low high n = some r) :
    Fn Try.prog 75 #[.int .i64 n_, .int .i64 low, .int .i64 high] h fun v h' => v = .bool r ∧ h' = h := by
  unfold spec_l01In at hF
  refine Fn_enter (args := [.int .i64 n_, .int .i64 low, .int .i64 high]) Try.func75 rfl (by kernel_rfl) (by kernel_rfl) (fun w0 _ => ?_)
  refine Run_seq ?_
  refine Run_reg 1 (by kernel_rfl) (L' := [(0, .int .i64 n_), (1, .int .i64 low), (2, .int .i64 high)]) ?_ ?_
  · refine QRun_b [.bool false] 0 _ (by kernel_rfl) (fun w => by kernel_rfl) ?_
    exact QRun_done [0, 1, 2] (by kernel_rfl) (by kernel_rfl)
  refine Run_seq ?_
  refine Run_reg 9 (by kernel_rfl) (L' := [(6, .bool ((decide (low ≤ n_)) && (decide (n_ ≤ high))))]) ?_ ?_
  · refine QRun_b [.int .i64 n_, .int .i64 low, .bool (decide (low ≤ n_))] 0 _ (by kernel_rfl) (fun w => by kernel_rfl) ?_
    refine QRun_seq 8 [(14, .bool ((decide (low ≤ n_)) && (decide (n_ ≤ high))))] ?_ ?_
    · rcases Bool.eq_false_or_eq_true (decide (low ≤ n_)) with hb1 | hb1
      · refine QRun_bool (decide (low ≤ n_)) true (by kernel_rfl) (fun w => by kernel_rfl) hb1 ?_
        refine QRun_b [.int .i64 n_, .int .i64 high, .bool (decide (n_ ≤ high))] 4 _ (by kernel_rfl) (fun w => by kernel_rfl) ?_
        refine QRun_bool (decide (n_ ≤ high)) ((decide (low ≤ n_)) && (decide (n_ ≤ high))) (by kernel_rfl) (fun w => by kernel_rfl) (by rw [hb1]; rfl) ?_
        exact QRun_done [14] (by kernel_rfl) (by kernel_rfl)
      · refine QRun_bool (decide (low ≤ n_)) false (by kernel_rfl) (fun w => by kernel_rfl) hb1 ?_
        refine QRun_n (by kernel_rfl) ?_
        refine QRun_n (by kernel_rfl) ?_
        refine QRun_n (by kernel_rfl) ?_
        refine QRun_bool false ((decide (low ≤ n_)) && (decide (n_ ≤ high))) (by kernel_rfl) (fun w => by kernel_rfl) (by rw [hb1]; rfl) ?_
        exact QRun_done [14] (by kernel_rfl) (by kernel_rfl)
    refine QRun_b [.bool ((decide (low ≤ n_)) && (decide (n_ ≤ high)))] 8 _ (by kernel_rfl) (fun w => by kernel_rfl) ?_
    exact QRun_done [6] (by kernel_rfl) (by kernel_rfl)
  have hF := M.ret_some hF
  subst hF
  exact Run_ret1 rfl (ResV_tmp (v := .bool ((decide (low ≤ n_)) && (decide (n_ ≤ high)))) (by kernel_rfl)) ⟨rfl, rfl⟩

set_option maxRecDepth 100000 in
set_option maxHeartbeats 4000000 in
theorem w_spec_l01Finite (h : Heap) (a_ : Int) (n : Nat) (r : Bool) (hF : spec_l01Finite a_ n = some r) :
    Fn Try.prog 101 #[.int .i64 a_] h fun v h' => v = .bool r ∧ h' = h := by
  unfold spec_l01Finite at hF
  refine Fn_enter (args := [.int .i64 a_]) Try.func101 rfl (by kernel_rfl) (by kernel_rfl) (fun w0 _ => ?_)
  refine Run_seq ?_
  refine Run_reg 1 (by kernel_rfl) (L' := [(0, .int .i64 a_)]) ?_ ?_
  · refine QRun_b [.bool false] 0 _ (by kernel_rfl) (fun w => by kernel_rfl) ?_
    exact QRun_done [0] (by kernel_rfl) (by kernel_rfl)
  refine Run_seq ?_
  obtain ⟨x1, hx1, hF⟩ := M.bind_some hF
  refine Run_reg 3 (by kernel_rfl) (L' := [(2, .bool x1)]) ?_ ?_
  · refine QRun_b [.int .i64 a_] 0 _ (by kernel_rfl) (fun w => by kernel_rfl) ?_
    refine QRun_y (.bool x1) (by kernel_rfl) (Y_callq (f := 75) (args := #[.int .i64 a_, .int .i64 (-1000000), .int .i64 1000000]) (v := .bool x1) (by kernel_rfl) (w_spec_l01In h a_ (-1000000) 1000000 _ _ hx1)) ?_
    refine QRun_b [.bool x1] 2 _ (by kernel_rfl) (fun w => by kernel_rfl) ?_
    exact QRun_done [2] (by kernel_rfl) (by kernel_rfl)
  have hF := M.ret_some hF
  subst hF
  exact Run_ret1 rfl (ResV_tmp (v := .bool x1) (by kernel_rfl)) ⟨rfl, rfl⟩

set_option maxRecDepth 100000 in
set_option maxHeartbeats 4000000 in
theorem w_spec_IsValue (h : Heap) (a_ : Int) (n : Nat) (r : Bool) (hF : spec_IsValue a_ n = some r) :
    Fn Try.prog 134 #[.int .i64 a_] h fun v h' => v = .bool r ∧ h' = h := by
  unfold spec_IsValue at hF
  refine Fn_enter (args := [.int .i64 a_]) Try.func134 rfl (by kernel_rfl) (by kernel_rfl) (fun w0 _ => ?_)
  refine Run_seq ?_
  refine Run_reg 1 (by kernel_rfl) (L' := [(0, .int .i64 a_)]) ?_ ?_
  · refine QRun_b [.bool false] 0 _ (by kernel_rfl) (fun w => by kernel_rfl) ?_
    exact QRun_done [0] (by kernel_rfl) (by kernel_rfl)
  refine Run_seq ?_
  obtain ⟨x1, gx1, hF⟩ := M.bind_some hF
  refine Run_reg 7 (by kernel_rfl) (L' := [(2, .bool x1)]) ?_ ?_
  · refine QRun_b [.int .i64 a_, .bool (a_ == (-1000000000000000))] 0 _ (by kernel_rfl) (fun w => by kernel_rfl) ?_
    refine QRun_seq 6 [(8, .bool x1)] ?_ ?_
    · rcases Bool.eq_false_or_eq_true (a_ == (-1000000000000000)) with hb1 | hb1
      · refine QRun_bool (a_ == (-1000000000000000)) true (by kernel_rfl) (fun w => by kernel_rfl) hb1 ?_
        have gx1 := M.ret_some ((M.ite_some gx1).1 hb1)
        refine QRun_n (by kernel_rfl) ?_
        refine QRun_n (by kernel_rfl) ?_
        refine QRun_bool true x1 (by kernel_rfl) (fun w => by kernel_rfl) gx1 ?_
        exact QRun_done [8] (by kernel_rfl) (by kernel_rfl)
      · refine QRun_bool (a_ == (-1000000000000000)) false (by kernel_rfl) (fun w => by kernel_rfl) hb1 ?_
        have gx1 := (M.ite_some gx1).2 hb1
        obtain ⟨x2, hx1, gx1⟩ := M.bind_some gx1
        have gx1 := M.ret_some gx1
        refine QRun_b [.int .i64 a_] 3 _ (by kernel_rfl) (fun w => by kernel_rfl) ?_
        refine QRun_y (.bool x2) (by kernel_rfl) (Y_callq (f := 101) (args := #[.int .i64 a_]) (v := .bool x2) (by kernel_rfl) (w_spec_l01Finite h a_ _ _ hx1)) ?_
        refine QRun_bool x2 x1 (by kernel_rfl) (fun w => by kernel_rfl) gx1 ?_
        exact QRun_done [8] (by kernel_rfl) (by kernel_rfl)
    refine QRun_b [.bool x1] 6 _ (by kernel_rfl) (fun w => by kernel_rfl) ?_
    exact QRun_done [2] (by kernel_rfl) (by kernel_rfl)
  have hF := M.ret_some hF
  subst hF
  exact Run_ret1 rfl (ResV_tmp (v := .bool x1) (by kernel_rfl)) ⟨rfl, rfl⟩

set_option maxRecDepth 100000 in
set_option maxHeartbeats 4000000 in
theorem w_spec_l01All (h : Heap) (list : List Int) {Slist : Bs} (alist : Option Addr) (clist : Nat) (rlist : Rd cd2 h Slist alist clist list) (finite : Bool) (n : Nat) (r : Bool) (hF : spec_l01All list finite n = some r) :
    Fn Try.prog 144 #[.slice alist list.length clist, .bool finite] h fun v h' => v = .bool r ∧ h' = h := by
  unfold spec_l01All at hF
  refine Fn_enter (args := [.slice alist list.length clist, .bool finite]) Try.func144 rfl (by kernel_rfl) (by kernel_rfl) (fun w0 _ => ?_)
  refine Run_seq ?_
  refine Run_reg 1 (by kernel_rfl) (L' := [(0, .slice alist list.length clist), (1, .bool finite)]) ?_ ?_
  · refine QRun_b [.bool false] 0 _ (by kernel_rfl) (fun w => by kernel_rfl) ?_
    exact QRun_done [0, 1] (by kernel_rfl) (by kernel_rfl)
  refine Run_seq ?_
  refine Run_seq ?_
  refine Run_reg 1 (by kernel_rfl) (L' := [(0, .slice alist list.length clist), (1, .bool finite), (5, .int .i64 0)]) ?_ ?_
  · refine QRun_b [.int .i64 0] 0 _ (by kernel_rfl) (fun w => by kernel_rfl) ?_
    exact QRun_done [0, 1, 5] (by kernel_rfl) (by kernel_rfl)
  obtain ⟨x1, gx1, hF⟩ := M.bind_some hF
  obtain ⟨hloy1, hhiy1, gx1⟩ := M.for_start gx1
  refine Run_join (fun L' h' => ∃ (s2 : Unit), x1 = .inl s2 ∧ L' = [] ∧ h = h') ?_ ?_
  · rintro _ _ ⟨s2, es2, rfl, rfl⟩
    have hF := M.cont_inl' hF es2
    refine Run_seq ?_
    refine Run_reg 1 (by kernel_rfl) (L' := [(4, .bool true)]) ?_ ?_
    · refine QRun_b [.bool true] 0 _ (by kernel_rfl) (fun w => by kernel_rfl) ?_
      exact QRun_done [4] (by kernel_rfl) (by kernel_rfl)
    have hF := M.ret_some hF
    subst hF
    exact Run_ret1 rfl (ResV_tmp (v := .bool true) (by kernel_rfl)) ⟨rfl, rfl⟩
  · refine Run_block ?_
    refine Run_keep [0, 1, 5] (L' := [(0, .slice alist list.length clist), (1, .bool finite), (5, .int .i64 0)]) (by kernel_rfl) ?_
    refine Run_loop (fun m L' h' => ∃ (i1 : Int) (s1 : Unit), 0 ≤ i1 ∧ M.forN (list.length : Int) _ _ n m i1 s1 = some x1 ∧ L' = [(0, .slice alist list.length clist), (1, .bool finite), (5, .int .i64 i1)] ∧ h = h') ((list.length : Int) - 0 : Int).toNat ⟨0, (), Int.le_refl _, gx1, rfl, rfl⟩ ?_
    rintro my1 _ _ ⟨i1, s1, hloy1', gx1, rfl, rfl⟩
    refine Run_seq ?_
    refine Run_seq ?_
    refine Run_reg 4 (by kernel_rfl) (L' := [(0, .slice alist list.length clist), (1, .bool finite), (5, .int .i64 i1), (9, .bool (decide (i1 < (list.length : Int))))]) ?_ ?_
    · refine QRun_b [.int .i64 i1, .slice alist list.length clist, .int .i64 (list.length : Int), .bool (decide (i1 < (list.length : Int)))] 0 _ (by kernel_rfl) (fun w => by kernel_rfl) ?_
      exact QRun_done [0, 1, 5, 9] (by kernel_rfl) (by kernel_rfl)
    refine Run_cond (b := decide (i1 < (list.length : Int))) (by kernel_rfl) (fun hb1 => ?_) (fun hb1 => ?_)
    · obtain ⟨my1, y1, rfl, hB1, hgoy1, houty1⟩ := M.for_go gx1 hb1
      have hlty1 := of_decide_eq_true hb1
      refine Run_skip ?_
      refine Run_seq ?_
      refine Run_block ?_
      refine Run_seq ?_
      obtain ⟨x2, hx1, hB1⟩ := M.bind_some hB1
      obtain ⟨hx1l, hx1u, hx1⟩ := M.idx_some hx1
      obtain ⟨x3, hx2, hB1⟩ := M.bind_some hB1
      obtain ⟨x4, gx4, hB1⟩ := M.bind_some hB1
      refine Run_reg 16 (by kernel_rfl) (L' := [(0, .slice alist list.length clist), (1, .bool finite), (5, .int .i64 i1), (27, .bool x4)]) ?_ ?_
      · refine QRun_b [.slice alist list.length clist, .int .i64 i1] 0 _ (by kernel_rfl) (fun w => by kernel_rfl) ?_
        refine QRun_y (.pointer (some (adr alist (i1.toNat * 1)))) (by kernel_rfl) (Y_idx (t := 23) (e := 2) (sz := 1) (a := alist) (n := list.length) (cap := clist) (kk := .i64) (i := i1) (by kernel_rfl) Try.underlying23 (by kernel_rfl) (rlist.cell hx1).1 hx1l hx1u) ?_
        refine QRun_y (.int .i64 x2) (by kernel_rfl) (Y_load1 (t := 2) (p := adr alist (i1.toNat * 1)) (v := .int .i64 x2) (by kernel_rfl) (fun w => by kernel_rfl) (cd2_cell rlist hx1)) ?_
        refine QRun_y (.bool x3) (by kernel_rfl) (Y_callq (f := 134) (args := #[.int .i64 x2]) (v := .bool x3) (by kernel_rfl) (w_spec_IsValue h x2 _ _ hx2)) ?_
        refine QRun_b [.bool (!x3)] 5 _ (by kernel_rfl) (fun w => by kernel_rfl) ?_
        refine QRun_seq 16 [(0, .slice alist list.length clist), (1, .bool finite), (5, .int .i64 i1), (27, .bool x4)] ?_ ?_
        · rcases Bool.eq_false_or_eq_true (!x3) with hb2 | hb2
          · refine QRun_bool (!x3) true (by kernel_rfl) (fun w => by kernel_rfl) hb2 ?_
            have gx4 := M.ret_some ((M.ite_some gx4).1 hb2)
            refine QRun_n (by kernel_rfl) ?_
            refine QRun_n (by kernel_rfl) ?_
            refine QRun_n (by kernel_rfl) ?_
            refine QRun_n (by kernel_rfl) ?_
            refine QRun_n (by kernel_rfl) ?_
            refine QRun_n (by kernel_rfl) ?_
            refine QRun_n (by kernel_rfl) ?_
            refine QRun_n (by kernel_rfl) ?_
            refine QRun_bool true x4 (by kernel_rfl) (fun w => by kernel_rfl) gx4 ?_
            exact QRun_done [0, 1, 5, 27] (by kernel_rfl) (by kernel_rfl)
          · refine QRun_bool (!x3) false (by kernel_rfl) (fun w => by kernel_rfl) hb2 ?_
            have gx4 := (M.ite_some gx4).2 hb2
            obtain ⟨x5, gx5, gx4⟩ := M.bind_some gx4
            have gx4 := M.ret_some gx4
            refine QRun_b [.bool finite] 7 _ (by kernel_rfl) (fun w => by kernel_rfl) ?_
            refine QRun_seq 15 [(0, .slice alist list.length clist), (1, .bool finite), (5, .int .i64 i1), (18, .bool false), (26, .bool x5)] ?_ ?_
            · rcases Bool.eq_false_or_eq_true finite with hb3 | hb3
              · refine QRun_bool finite true (by kernel_rfl) (fun w => by kernel_rfl) hb3 ?_
                have gx5 := (M.ite_some gx5).1 hb3
                obtain ⟨x6, hx3, gx5⟩ := M.bind_some gx5
                obtain ⟨hx3l, hx3u, hx3⟩ := M.idx_some hx3
                have gx5 := M.ret_some gx5
                refine QRun_b [.slice alist list.length clist, .int .i64 i1] 9 _ (by kernel_rfl) (fun w => by kernel_rfl) ?_
                refine QRun_y (.pointer (some (adr alist (i1.toNat * 1)))) (by kernel_rfl) (Y_idx (t := 23) (e := 2) (sz := 1) (a := alist) (n := list.length) (cap := clist) (kk := .i64) (i := i1) (by kernel_rfl) Try.underlying23 (by kernel_rfl) (rlist.cell hx3).1 hx3l hx3u) ?_
                refine QRun_y (.int .i64 x6) (by kernel_rfl) (Y_load1 (t := 2) (p := adr alist (i1.toNat * 1)) (v := .int .i64 x6) (by kernel_rfl) (fun w => by kernel_rfl) (cd2_cell rlist hx3)) ?_
                refine QRun_b [.bool (x6 == (-1000000000000000))] 13 _ (by kernel_rfl) (fun w => by kernel_rfl) ?_
                refine QRun_bool (x6 == (-1000000000000000)) x5 (by kernel_rfl) (fun w => by kernel_rfl) gx5 ?_
                exact QRun_done [0, 1, 5, 18, 26] (by kernel_rfl) (by kernel_rfl)
              · refine QRun_bool finite false (by kernel_rfl) (fun w => by kernel_rfl) hb3 ?_
                have gx5 := M.ret_some ((M.ite_some gx5).2 hb3)
                refine QRun_n (by kernel_rfl) ?_
                refine QRun_n (by kernel_rfl) ?_
                refine QRun_n (by kernel_rfl) ?_
                refine QRun_n (by kernel_rfl) ?_
                refine QRun_n (by kernel_rfl) ?_
                refine QRun_bool false x5 (by kernel_rfl) (fun w => by kernel_rfl) gx5 ?_
                exact QRun_done [0, 1, 5, 18, 26] (by kernel_rfl) (by kernel_rfl)
            refine QRun_bool x5 x4 (by kernel_rfl) (fun w => by kernel_rfl) gx4 ?_
            exact QRun_done [0, 1, 5, 27] (by kernel_rfl) (by kernel_rfl)
        exact QRun_done [0, 1, 5, 27] (by kernel_rfl) (by kernel_rfl)
      refine Run_cond (b := x4) (by kernel_rfl) (fun hb4 => ?_) (fun hb4 => ?_)
      · have hB1 := (M.ite_some hB1).1 hb4
        refine Run_seq ?_
        refine Run_reg 1 (by kernel_rfl) (L' := [(4, .bool false)]) ?_ ?_
        · refine QRun_b [.bool false] 0 _ (by kernel_rfl) (fun w => by kernel_rfl) ?_
          exact QRun_done [4] (by kernel_rfl) (by kernel_rfl)
        have hB1 := M.ret_some hB1
        have gx1 := houty1 _ hB1.symm
        have hF := M.cont_inr' hF gx1
        have hF := M.ret_some hF
        subst hF
        exact Run_ret1 rfl (ResV_tmp (v := .bool false) (by kernel_rfl)) ⟨rfl, rfl⟩
      · have hB1 := (M.ite_some hB1).2 hb4
        refine Run_skip ?_
        refine Run_blk ?_
        refine Run_reg 3 (by kernel_rfl) (L' := [(0, .slice alist list.length clist), (1, .bool finite), (5, .int .i64 (i1 + 1))]) ?_ ?_
        · refine QRun_b [.int .i64 i1] 0 _ (by kernel_rfl) (fun w => by kernel_rfl) ?_
          refine QRun_y (.int .i64 (i1 + 1)) (by kernel_rfl) (Y_eq (v := .int .i64 (w64 (i1 + 1))) (Y_pure (fun w => by kernel_rfl)) (by rw [w64_eq _ (by omega)])) ?_
          refine QRun_b [.int .i64 (i1 + 1)] 2 _ (by kernel_rfl) (fun w => by kernel_rfl) ?_
          exact QRun_done [0, 1, 5] (by kernel_rfl) (by kernel_rfl)
        have hB1 := M.ret_some hB1
        have gx1 := hgoy1 _ hB1.symm
        exact Run_again [0, 1, 5] (by kernel_rfl) my1 (Nat.lt_succ_self _) ⟨i1 + 1, (), by omega, gx1, rfl, rfl⟩
    · have gx1 := M.for_end gx1 hb1
      subst gx1
      refine Run_exit (k' := _) rfl ?_
      exact Run_fall [] (by kernel_rfl) ⟨(), rfl, rfl, rfl⟩

set_option maxRecDepth 100000 in
set_option maxHeartbeats 4000000 in
theorem w_spec_l02Vector (h : Heap) (x_ : List Int) {Sx_ : Bs} (ax_ : Option Addr) (cx_ : Nat) (rx_ : Rd cd2 h Sx_ ax_ cx_ x_) (n : Nat) (r : Bool) (hF : spec_l02Vector x_ n = some r) :
    Fn Try.prog 99 #[.slice ax_ x_.length cx_] h fun v h' => v = .bool r ∧ h' = h := by
  unfold spec_l02Vector at hF
  refine Fn_enter (args := [.slice ax_ x_.length cx_]) Try.func99 rfl (by kernel_rfl) (by kernel_rfl) (fun w0 _ => ?_)
  refine Run_seq ?_
  refine Run_reg 1 (by kernel_rfl) (L' := [(0, .slice ax_ x_.length cx_)]) ?_ ?_
  · refine QRun_b [.bool false] 0 _ (by kernel_rfl) (fun w => by kernel_rfl) ?_
    exact QRun_done [0] (by kernel_rfl) (by kernel_rfl)
  refine Run_seq ?_
  obtain ⟨x1, hx1, hF⟩ := M.bind_some hF
  obtain ⟨x2, gx2, hF⟩ := M.bind_some hF
  refine Run_reg 8 (by kernel_rfl) (L' := [(2, .bool x2)]) ?_ ?_
  · refine QRun_b [.slice ax_ x_.length cx_, .int .i64 (x_.length : Int)] 0 _ (by kernel_rfl) (fun w => by kernel_rfl) ?_
    refine QRun_y (.bool x1) (by kernel_rfl) (Y_callq (f := 75) (args := #[.int .i64 (x_.length : Int), .int .i64 1, .int .i64 10]) (v := .bool x1) (by kernel_rfl) (w_spec_l01In h (x_.length : Int) 1 10 _ _ hx1)) ?_
    refine QRun_seq 7 [(9, .bool x2)] ?_ ?_
    · rcases Bool.eq_false_or_eq_true x1 with hb1 | hb1
      · refine QRun_bool x1 true (by kernel_rfl) (fun w => by kernel_rfl) hb1 ?_
        have gx2 := (M.ite_some gx2).1 hb1
        obtain ⟨x3, hx2, gx2⟩ := M.bind_some gx2
        have gx2 := M.ret_some gx2
        refine QRun_b [.slice ax_ x_.length cx_] 4 _ (by kernel_rfl) (fun w => by kernel_rfl) ?_
        refine QRun_y (.bool x3) (by kernel_rfl) (Y_callq (f := 144) (args := #[.slice ax_ x_.length cx_, .bool false]) (v := .bool x3) (by kernel_rfl) (w_spec_l01All h x_ ax_ cx_ rx_ false _ _ hx2)) ?_
        refine QRun_bool x3 x2 (by kernel_rfl) (fun w => by kernel_rfl) gx2 ?_
        exact QRun_done [9] (by kernel_rfl) (by kernel_rfl)
      · refine QRun_bool x1 false (by kernel_rfl) (fun w => by kernel_rfl) hb1 ?_
        have gx2 := M.ret_some ((M.ite_some gx2).2 hb1)
        refine QRun_n (by kernel_rfl) ?_
        refine QRun_n (by kernel_rfl) ?_
        refine QRun_bool false x2 (by kernel_rfl) (fun w => by kernel_rfl) gx2 ?_
        exact QRun_done [9] (by kernel_rfl) (by kernel_rfl)
    refine QRun_b [.bool x2] 7 _ (by kernel_rfl) (fun w => by kernel_rfl) ?_
    exact QRun_done [2] (by kernel_rfl) (by kernel_rfl)
  have hF := M.ret_some hF
  subst hF
  exact Run_ret1 rfl (ResV_tmp (v := .bool x2) (by kernel_rfl)) ⟨rfl, rfl⟩

set_option maxRecDepth 100000 in
set_option maxHeartbeats 4000000 in
theorem w_spec_IsMatrix (h : Heap) (a_ : List (List Int)) {Sa_ : Bs} (aa_ : Option Addr) (ca_ : Nat) (ra_ : Rd cd23 h Sa_ aa_ ca_ a_) (n : Nat) (r : Bool) (hF : spec_IsMatrix a_ n = some r) :
    Fn Try.prog 131 #[.slice aa_ a_.length ca_] h fun v h' => v = .bool r ∧ h' = h := by
  unfold spec_IsMatrix at hF
  refine Fn_enter (args := [.slice aa_ a_.length ca_]) Try.func131 rfl (by kernel_rfl) (by kernel_rfl) (fun w0 _ => ?_)
  refine Run_seq ?_
  refine Run_reg 1 (by kernel_rfl) (L' := [(0, .slice aa_ a_.length ca_)]) ?_ ?_
  · refine QRun_b [.bool false] 0 _ (by kernel_rfl) (fun w => by kernel_rfl) ?_
    exact QRun_done [0] (by kernel_rfl) (by kernel_rfl)
  refine Run_seq ?_
  refine Run_seq ?_
  refine Run_reg 8 (by kernel_rfl) (L' := [(0, .slice aa_ a_.length ca_), (11, .bool ((decide ((a_.length : Int) < 1)) || (decide (10 < (a_.length : Int)))))]) ?_ ?_
  · refine QRun_b [.slice aa_ a_.length ca_, .int .i64 (a_.length : Int), .bool (decide ((a_.length : Int) < 1))] 0 _ (by kernel_rfl) (fun w => by kernel_rfl) ?_
    refine QRun_seq 8 [(0, .slice aa_ a_.length ca_), (11, .bool ((decide ((a_.length : Int) < 1)) || (decide (10 < (a_.length : Int)))))] ?_ ?_
    · rcases Bool.eq_false_or_eq_true (decide ((a_.length : Int) < 1)) with hb1 | hb1
      · refine QRun_bool (decide ((a_.length : Int) < 1)) true (by kernel_rfl) (fun w => by kernel_rfl) hb1 ?_
        refine QRun_n (by kernel_rfl) ?_
        refine QRun_n (by kernel_rfl) ?_
        refine QRun_n (by kernel_rfl) ?_
        refine QRun_bool true ((decide ((a_.length : Int) < 1)) || (decide (10 < (a_.length : Int)))) (by kernel_rfl) (fun w => by kernel_rfl) (by rw [hb1]; rfl) ?_
        exact QRun_done [0, 11] (by kernel_rfl) (by kernel_rfl)
      · refine QRun_bool (decide ((a_.length : Int) < 1)) false (by kernel_rfl) (fun w => by kernel_rfl) hb1 ?_
        refine QRun_b [.slice aa_ a_.length ca_, .int .i64 (a_.length : Int), .bool (decide (10 < (a_.length : Int)))] 4 _ (by kernel_rfl) (fun w => by kernel_rfl) ?_
        refine QRun_bool (decide (10 < (a_.length : Int))) ((decide ((a_.length : Int) < 1)) || (decide (10 < (a_.length : Int)))) (by kernel_rfl) (fun w => by kernel_rfl) (by rw [hb1]; rfl) ?_
        exact QRun_done [0, 11] (by kernel_rfl) (by kernel_rfl)
    exact QRun_done [0, 11] (by kernel_rfl) (by kernel_rfl)
  refine Run_cond (b := (decide ((a_.length : Int) < 1)) || (decide (10 < (a_.length : Int)))) (by kernel_rfl) (fun hb2 => ?_) (fun hb2 => ?_)
  · have hF := (M.ite_some hF).1 hb2
    refine Run_seq ?_
    refine Run_reg 1 (by kernel_rfl) (L' := [(2, .bool false)]) ?_ ?_
    · refine QRun_b [.bool false] 0 _ (by kernel_rfl) (fun w => by kernel_rfl) ?_
      exact QRun_done [2] (by kernel_rfl) (by kernel_rfl)
    have hF := M.ret_some hF
    subst hF
    exact Run_ret1 rfl (ResV_tmp (v := .bool false) (by kernel_rfl)) ⟨rfl, rfl⟩
  · have hF := (M.ite_some hF).2 hb2
    refine Run_skip ?_
    refine Run_seq ?_
    refine Run_seq ?_
    refine Run_reg 1 (by kernel_rfl) (L' := [(0, .slice aa_ a_.length ca_), (3, .int .i64 0)]) ?_ ?_
    · refine QRun_b [.int .i64 0] 0 _ (by kernel_rfl) (fun w => by kernel_rfl) ?_
      exact QRun_done [0, 3] (by kernel_rfl) (by kernel_rfl)
    obtain ⟨x2, gx2, hF⟩ := M.bind_some hF
    obtain ⟨hloy1, hhiy1, gx2⟩ := M.for_start gx2
    refine Run_join (fun L' h' => ∃ (s2 : Unit), x2 = .inl s2 ∧ L' = [] ∧ h = h') ?_ ?_
    · rintro _ _ ⟨s2, es2, rfl, rfl⟩
      have hF := M.cont_inl' hF es2
      refine Run_seq ?_
      refine Run_reg 1 (by kernel_rfl) (L' := [(2, .bool true)]) ?_ ?_
      · refine QRun_b [.bool true] 0 _ (by kernel_rfl) (fun w => by kernel_rfl) ?_
        exact QRun_done [2] (by kernel_rfl) (by kernel_rfl)
      have hF := M.ret_some hF
      subst hF
      exact Run_ret1 rfl (ResV_tmp (v := .bool true) (by kernel_rfl)) ⟨rfl, rfl⟩
    · refine Run_block ?_
      refine Run_keep [0, 3] (L' := [(0, .slice aa_ a_.length ca_), (3, .int .i64 0)]) (by kernel_rfl) ?_
      refine Run_loop (fun m L' h' => ∃ (i1 : Int) (s1 : Unit), 0 ≤ i1 ∧ M.forN (a_.length : Int) _ _ n m i1 s1 = some x2 ∧ L' = [(0, .slice aa_ a_.length ca_), (3, .int .i64 i1)] ∧ h = h') ((a_.length : Int) - 0 : Int).toNat ⟨0, (), Int.le_refl _, gx2, rfl, rfl⟩ ?_
      rintro my1 _ _ ⟨i1, s1, hloy1', gx2, rfl, rfl⟩
      refine Run_seq ?_
      refine Run_seq ?_
      refine Run_reg 4 (by kernel_rfl) (L' := [(0, .slice aa_ a_.length ca_), (3, .int .i64 i1), (15, .bool (decide (i1 < (a_.length : Int))))]) ?_ ?_
      · refine QRun_b [.int .i64 i1, .slice aa_ a_.length ca_, .int .i64 (a_.length : Int), .bool (decide (i1 < (a_.length : Int)))] 0 _ (by kernel_rfl) (fun w => by kernel_rfl) ?_
        exact QRun_done [0, 3, 15] (by kernel_rfl) (by kernel_rfl)
      refine Run_cond (b := decide (i1 < (a_.length : Int))) (by kernel_rfl) (fun hb3 => ?_) (fun hb3 => ?_)
      · obtain ⟨my1, y1, rfl, hB1, hgoy1, houty1⟩ := M.for_go gx2 hb3
        have hlty1 := of_decide_eq_true hb3
        refine Run_skip ?_
        refine Run_seq ?_
        refine Run_block ?_
        refine Run_seq ?_
        obtain ⟨x3, hx1, hB1⟩ := M.bind_some hB1
        obtain ⟨hx1l, hx1u, hx1⟩ := M.idx_some hx1
        obtain ⟨a1, c1, hc1, r1⟩ := ra_.row hx1
        obtain ⟨x4, hx2, hB1⟩ := M.bind_some hB1
        obtain ⟨x5, gx5, hB1⟩ := M.bind_some hB1
        refine Run_draw 18 mixed (by kernel_rfl) (by kernel_rfl) (L' := [(0, .slice aa_ a_.length ca_), (3, .int .i64 i1), (35, .bool x5)]) ?_ ?_
        · refine QRun_b [.slice aa_ a_.length ca_, .int .i64 i1] 0 _ (by kernel_rfl) (fun w => by kernel_rfl) ?_
          refine QRun_y (.pointer (some (adr aa_ (i1.toNat * 1)))) (by kernel_rfl) (Y_idx (t := 22) (e := 23) (sz := 1) (a := aa_) (n := a_.length) (cap := ca_) (kk := .i64) (i := i1) (by kernel_rfl) Try.underlying22 (by kernel_rfl) (ra_.cell hx1).1 hx1l hx1u) ?_
          refine QRun_y (.slice a1 x3.length c1) (by kernel_rfl) (Y_load1 (t := 23) (p := adr aa_ (i1.toNat * 1)) (v := .slice a1 x3.length c1) (by kernel_rfl) (fun w => by kernel_rfl) hc1) ?_
          refine QRun_y (.bool x4) (by kernel_rfl) (Y_callq (f := 99) (args := #[.slice a1 x3.length c1]) (v := .bool x4) (by kernel_rfl) (w_spec_l02Vector h x3 a1 c1 r1 _ _ hx2)) ?_
          refine QRun_b [.bool (!x4)] 5 _ (by kernel_rfl) (fun w => by kernel_rfl) ?_
          refine QRun_seq 18 [(0, .slice aa_ a_.length ca_), (3, .int .i64 i1), (35, .bool x5)] ?_ ?_
          · rcases Bool.eq_false_or_eq_true (!x4) with hb4 | hb4
            · refine QRun_bool (!x4) true (by kernel_rfl) (fun w => by kernel_rfl) hb4 ?_
              have gx5 := M.ret_some ((M.ite_some gx5).1 hb4)
              refine QRun_n (by kernel_rfl) ?_
              refine QRun_n (by kernel_rfl) ?_
              refine QRun_n (by kernel_rfl) ?_
              refine QRun_n (by kernel_rfl) ?_
              refine QRun_n (by kernel_rfl) ?_
              refine QRun_n (by kernel_rfl) ?_
              refine QRun_n (by kernel_rfl) ?_
              refine QRun_n (by kernel_rfl) ?_
              refine QRun_n (by kernel_rfl) ?_
              refine QRun_n (by kernel_rfl) ?_
              refine QRun_bool true x5 (by kernel_rfl) (fun w => by kernel_rfl) gx5 ?_
              exact QRun_done [0, 3, 35] (by kernel_rfl) (by kernel_rfl)
            · refine QRun_bool (!x4) false (by kernel_rfl) (fun w => by kernel_rfl) hb4 ?_
              have gx5 := (M.ite_some gx5).2 hb4
              obtain ⟨x6, hx3, gx5⟩ := M.bind_some gx5
              obtain ⟨hx3l, hx3u, hx3⟩ := M.idx_some hx3
              obtain ⟨a2, c2, hc2, r2⟩ := ra_.row hx3
              obtain ⟨x7, hx4, gx5⟩ := M.bind_some gx5
              obtain ⟨hx4l, hx4u, hx4⟩ := M.idx_some hx4
              obtain ⟨a3, c3, hc3, r3⟩ := ra_.row hx4
              have gx5 := M.ret_some gx5
              refine QRun_b [.slice aa_ a_.length ca_, .int .i64 i1] 7 _ (by kernel_rfl) (fun w => by kernel_rfl) ?_
              refine QRun_y (.pointer (some (adr aa_ (i1.toNat * 1)))) (by kernel_rfl) (Y_idx (t := 22) (e := 23) (sz := 1) (a := aa_) (n := a_.length) (cap := ca_) (kk := .i64) (i := i1) (by kernel_rfl) Try.underlying22 (by kernel_rfl) (ra_.cell hx3).1 hx3l hx3u) ?_
              refine QRun_y (.slice a2 x6.length c2) (by kernel_rfl) (Y_load1 (t := 23) (p := adr aa_ (i1.toNat * 1)) (v := .slice a2 x6.length c2) (by kernel_rfl) (fun w => by kernel_rfl) hc2) ?_
              refine QRun_b [.int .i64 (x6.length : Int), .slice aa_ a_.length ca_] 11 _ (by kernel_rfl) (fun w => by kernel_rfl) ?_
              refine QRun_y (.pointer (some (adr aa_ (0 * 1)))) (by kernel_rfl) (Y_idx (t := 22) (e := 23) (sz := 1) (a := aa_) (n := a_.length) (cap := ca_) (kk := .i64) (i := 0) (by kernel_rfl) Try.underlying22 (by kernel_rfl) (ra_.cell hx4).1 hx4l hx4u) ?_
              refine QRun_y (.slice a3 x7.length c3) (by kernel_rfl) (Y_load1 (t := 23) (p := adr aa_ (0 * 1)) (v := .slice a3 x7.length c3) (by kernel_rfl) (fun w => by kernel_rfl) hc3) ?_
              refine QRun_b [.int .i64 (x7.length : Int), .bool ((x6.length : Int) != (x7.length : Int))] 15 _ (by kernel_rfl) (fun w => by kernel_rfl) ?_
              refine QRun_bool ((x6.length : Int) != (x7.length : Int)) x5 (by kernel_rfl) (fun w => by kernel_rfl) gx5 ?_
              exact QRun_done [0, 3, 35] (by kernel_rfl) (by kernel_rfl)
          exact QRun_done [0, 3, 35] (by kernel_rfl) (by kernel_rfl)
        refine Run_cond (b := x5) (by kernel_rfl) (fun hb5 => ?_) (fun hb5 => ?_)
        · have hB1 := (M.ite_some hB1).1 hb5
          refine Run_seq ?_
          refine Run_reg 1 (by kernel_rfl) (L' := [(2, .bool false)]) ?_ ?_
          · refine QRun_b [.bool false] 0 _ (by kernel_rfl) (fun w => by kernel_rfl) ?_
            exact QRun_done [2] (by kernel_rfl) (by kernel_rfl)
          have hB1 := M.ret_some hB1
          have gx2 := houty1 _ hB1.symm
          have hF := M.cont_inr' hF gx2
          have hF := M.ret_some hF
          subst hF
          exact Run_ret1 rfl (ResV_tmp (v := .bool false) (by kernel_rfl)) ⟨rfl, rfl⟩
        · have hB1 := (M.ite_some hB1).2 hb5
          refine Run_skip ?_
          refine Run_blk ?_
          refine Run_reg 3 (by kernel_rfl) (L' := [(0, .slice aa_ a_.length ca_), (3, .int .i64 (i1 + 1))]) ?_ ?_
          · refine QRun_b [.int .i64 i1] 0 _ (by kernel_rfl) (fun w => by kernel_rfl) ?_
            refine QRun_y (.int .i64 (i1 + 1)) (by kernel_rfl) (Y_eq (v := .int .i64 (w64 (i1 + 1))) (Y_pure (fun w => by kernel_rfl)) (by rw [w64_eq _ (by omega)])) ?_
            refine QRun_b [.int .i64 (i1 + 1)] 2 _ (by kernel_rfl) (fun w => by kernel_rfl) ?_
            exact QRun_done [0, 3] (by kernel_rfl) (by kernel_rfl)
          have hB1 := M.ret_some hB1
          have gx2 := hgoy1 _ hB1.symm
          exact Run_again [0, 3] (by kernel_rfl) my1 (Nat.lt_succ_self _) ⟨i1 + 1, (), by omega, gx2, rfl, rfl⟩
      · have gx2 := M.for_end gx2 hb3
        subst gx2
        refine Run_exit (k' := _) rfl ?_
        exact Run_fall [] (by kernel_rfl) ⟨(), rfl, rfl, rfl⟩

set_option maxRecDepth 100000 in
set_option maxHeartbeats 4000000 in
theorem w_spec_l02Square (h : Heap) (a_ : List (List Int)) {Sa_ : Bs} (aa_ : Option Addr) (ca_ : Nat) (ra_ : Rd cd23 h Sa_ aa_ ca_ a_) (n : Nat) (r : Bool) (hF : spec_l02Square a_ n = some r) :
    Fn Try.prog 74 #[.slice aa_ a_.length ca_] h fun v h' => v = .bool r ∧ h' = h := by
  unfold spec_l02Square at hF
  refine Fn_enter (args := [.slice aa_ a_.length ca_]) Try.func74 rfl (by kernel_rfl) (by kernel_rfl) (fun w0 _ => ?_)
  refine Run_seq ?_
  refine Run_reg 1 (by kernel_rfl) (L' := [(0, .slice aa_ a_.length ca_)]) ?_ ?_
  · refine QRun_b [.bool false] 0 _ (by kernel_rfl) (fun w => by kernel_rfl) ?_
    exact QRun_done [0] (by kernel_rfl) (by kernel_rfl)
  refine Run_seq ?_
  obtain ⟨x1, hx1, hF⟩ := M.bind_some hF
  obtain ⟨x2, gx2, hF⟩ := M.bind_some hF
  refine Run_reg 12 (by kernel_rfl) (L' := [(2, .bool x2)]) ?_ ?_
  · refine QRun_b [.slice aa_ a_.length ca_] 0 _ (by kernel_rfl) (fun w => by kernel_rfl) ?_
    refine QRun_y (.bool x1) (by kernel_rfl) (Y_callq (f := 131) (args := #[.slice aa_ a_.length ca_]) (v := .bool x1) (by kernel_rfl) (w_spec_IsMatrix h a_ aa_ ca_ ra_ _ _ hx1)) ?_
    refine QRun_seq 11 [(13, .bool x2)] ?_ ?_
    · rcases Bool.eq_false_or_eq_true x1 with hb1 | hb1
      · refine QRun_bool x1 true (by kernel_rfl) (fun w => by kernel_rfl) hb1 ?_
        have gx2 := (M.ite_some gx2).1 hb1
        obtain ⟨x3, hx2, gx2⟩ := M.bind_some gx2
        obtain ⟨hx2l, hx2u, hx2⟩ := M.idx_some hx2
        obtain ⟨a1, c1, hc1, r1⟩ := ra_.row hx2
        have gx2 := M.ret_some gx2
        refine QRun_b [.slice aa_ a_.length ca_, .int .i64 (a_.length : Int), .slice aa_ a_.length ca_] 3 _ (by kernel_rfl) (fun w => by kernel_rfl) ?_
        refine QRun_y (.pointer (some (adr aa_ (0 * 1)))) (by kernel_rfl) (Y_idx (t := 22) (e := 23) (sz := 1) (a := aa_) (n := a_.length) (cap := ca_) (kk := .i64) (i := 0) (by kernel_rfl) Try.underlying22 (by kernel_rfl) (ra_.cell hx2).1 hx2l hx2u) ?_
        refine QRun_y (.slice a1 x3.length c1) (by kernel_rfl) (Y_load1 (t := 23) (p := adr aa_ (0 * 1)) (v := .slice a1 x3.length c1) (by kernel_rfl) (fun w => by kernel_rfl) hc1) ?_
        refine QRun_b [.int .i64 (x3.length : Int), .bool ((a_.length : Int) == (x3.length : Int))] 8 _ (by kernel_rfl) (fun w => by kernel_rfl) ?_
        refine QRun_bool ((a_.length : Int) == (x3.length : Int)) x2 (by kernel_rfl) (fun w => by kernel_rfl) gx2 ?_
        exact QRun_done [13] (by kernel_rfl) (by kernel_rfl)
      · refine QRun_bool x1 false (by kernel_rfl) (fun w => by kernel_rfl) hb1 ?_
        have gx2 := M.ret_some ((M.ite_some gx2).2 hb1)
        refine QRun_n (by kernel_rfl) ?_
        refine QRun_n (by kernel_rfl) ?_
        refine QRun_n (by kernel_rfl) ?_
        refine QRun_n (by kernel_rfl) ?_
        refine QRun_n (by kernel_rfl) ?_
        refine QRun_n (by kernel_rfl) ?_
        refine QRun_n (by kernel_rfl) ?_
        refine QRun_bool false x2 (by kernel_rfl) (fun w => by kernel_rfl) gx2 ?_
        exact QRun_done [13] (by kernel_rfl) (by kernel_rfl)
    refine QRun_b [.bool x2] 11 _ (by kernel_rfl) (fun w => by kernel_rfl) ?_
    exact QRun_done [2] (by kernel_rfl) (by kernel_rfl)
  have hF := M.ret_some hF
  subst hF
  exact Run_ret1 rfl (ResV_tmp (v := .bool x2) (by kernel_rfl)) ⟨rfl, rfl⟩

set_option maxRecDepth 100000 in
set_option maxHeartbeats 4000000 in
theorem w_spec_l07Code (h : Heap) (a_ : List (List Int)) {Sa_ : Bs} (aa_ : Option Addr) (ca_ : Nat) (ra_ : Rd cd23 h Sa_ aa_ ca_ a_) (x_ : List Int) {Sx_ : Bs} (ax_ : Option Addr) (cx_ : Nat) (rx_ : Rd cd2 h Sx_ ax_ cx_ x_) (n : Nat) (r : Int) (hF : spec_l07Code a_ x_ n = some r) :
    Fn Try.prog 87 #[.slice aa_ a_.length ca_, .slice ax_ x_.length cx_] h fun v h' => v = .int .i64 r ∧ h' = h := by
  unfold spec_l07Code at hF
  refine Fn_enter (args := [.slice aa_ a_.length ca_, .slice ax_ x_.length cx_]) Try.func87 rfl (by kernel_rfl) (by kernel_rfl) (fun w0 _ => ?_)
  refine Run_seq ?_
  refine Run_reg 1 (by kernel_rfl) (L' := [(0, .slice aa_ a_.length ca_), (1, .slice ax_ x_.length cx_)]) ?_ ?_
  · refine QRun_b [.int .i64 0] 0 _ (by kernel_rfl) (fun w => by kernel_rfl) ?_
    exact QRun_done [0, 1] (by kernel_rfl) (by kernel_rfl)
  refine Run_seq ?_
  refine Run_block ?_
  refine Run_seq ?_
  obtain ⟨x1, hx1, hF⟩ := M.bind_some hF
  obtain ⟨x2, gx2, hF⟩ := M.bind_some hF
  refine Run_reg 9 (by kernel_rfl) (L' := [(0, .slice aa_ a_.length ca_), (1, .slice ax_ x_.length cx_), (5, .bool x2)]) ?_ ?_
  · refine QRun_b [.slice aa_ a_.length ca_] 0 _ (by kernel_rfl) (fun w => by kernel_rfl) ?_
    refine QRun_y (.bool x1) (by kernel_rfl) (Y_callq (f := 74) (args := #[.slice aa_ a_.length ca_]) (v := .bool x1) (by kernel_rfl) (w_spec_l02Square h a_ aa_ ca_ ra_ _ _ hx1)) ?_
    refine QRun_b [.bool (!x1)] 2 _ (by kernel_rfl) (fun w => by kernel_rfl) ?_
    refine QRun_seq 8 [(0, .slice aa_ a_.length ca_), (1, .slice ax_ x_.length cx_), (13, .bool x2)] ?_ ?_
    · rcases Bool.eq_false_or_eq_true (!x1) with hb1 | hb1
      · refine QRun_bool (!x1) true (by kernel_rfl) (fun w => by kernel_rfl) hb1 ?_
        have gx2 := M.ret_some ((M.ite_some gx2).1 hb1)
        refine QRun_n (by kernel_rfl) ?_
        refine QRun_n (by kernel_rfl) ?_
        refine QRun_n (by kernel_rfl) ?_
        refine QRun_bool true x2 (by kernel_rfl) (fun w => by kernel_rfl) gx2 ?_
        exact QRun_done [0, 1, 13] (by kernel_rfl) (by kernel_rfl)
      · refine QRun_bool (!x1) false (by kernel_rfl) (fun w => by kernel_rfl) hb1 ?_
        have gx2 := (M.ite_some gx2).2 hb1
        obtain ⟨x3, hx2, gx2⟩ := M.bind_some gx2
        have gx2 := M.ret_some gx2
        refine QRun_b [.slice ax_ x_.length cx_] 4 _ (by kernel_rfl) (fun w => by kernel_rfl) ?_
        refine QRun_y (.bool x3) (by kernel_rfl) (Y_callq (f := 99) (args := #[.slice ax_ x_.length cx_]) (v := .bool x3) (by kernel_rfl) (w_spec_l02Vector h x_ ax_ cx_ rx_ _ _ hx2)) ?_
        refine QRun_b [.bool (!x3)] 6 _ (by kernel_rfl) (fun w => by kernel_rfl) ?_
        refine QRun_bool (!x3) x2 (by kernel_rfl) (fun w => by kernel_rfl) gx2 ?_
        exact QRun_done [0, 1, 13] (by kernel_rfl) (by kernel_rfl)
    refine QRun_b [.bool x2] 8 _ (by kernel_rfl) (fun w => by kernel_rfl) ?_
    exact QRun_done [0, 1, 5] (by kernel_rfl) (by kernel_rfl)
  refine Run_cond (b := x2) (by kernel_rfl) (fun hb2 => ?_) (fun hb2 => ?_)
  · have hF := (M.ite_some hF).1 hb2
    refine Run_seq ?_
    refine Run_reg 1 (by kernel_rfl) (L' := [(4, .int .i64 1)]) ?_ ?_
    · refine QRun_b [.int .i64 1] 0 _ (by kernel_rfl) (fun w => by kernel_rfl) ?_
      exact QRun_done [4] (by kernel_rfl) (by kernel_rfl)
    have hF := M.ret_some hF
    subst hF
    exact Run_ret1 rfl (ResV_tmp (v := .int .i64 1) (by kernel_rfl)) ⟨rfl, rfl⟩
  · have hF := (M.ite_some hF).2 hb2
    refine Run_seq ?_
    refine Run_reg 6 (by kernel_rfl) (L' := [(14, .bool ((x_.length : Int) != (a_.length : Int)))]) ?_ ?_
    · refine QRun_b [.slice ax_ x_.length cx_, .int .i64 (x_.length : Int), .slice aa_ a_.length ca_, .int .i64 (a_.length : Int), .bool ((x_.length : Int) != (a_.length : Int)), .bool ((x_.length : Int) != (a_.length : Int))] 0 _ (by kernel_rfl) (fun w => by kernel_rfl) ?_
      exact QRun_done [14] (by kernel_rfl) (by kernel_rfl)
    refine Run_cond (b := (x_.length : Int) != (a_.length : Int)) (by kernel_rfl) (fun hb3 => ?_) (fun hb3 => ?_)
    · have hF := (M.ite_some hF).1 hb3
      refine Run_seq ?_
      refine Run_reg 1 (by kernel_rfl) (L' := [(4, .int .i64 5)]) ?_ ?_
      · refine QRun_b [.int .i64 5] 0 _ (by kernel_rfl) (fun w => by kernel_rfl) ?_
        exact QRun_done [4] (by kernel_rfl) (by kernel_rfl)
      have hF := M.ret_some hF
      subst hF
      exact Run_ret1 rfl (ResV_tmp (v := .int .i64 5) (by kernel_rfl)) ⟨rfl, rfl⟩
    · have hF := (M.ite_some hF).2 hb3
      refine Run_skip ?_
      refine Run_blk ?_
      refine Run_seq ?_
      refine Run_reg 1 (by kernel_rfl) (L' := [(4, .int .i64 0)]) ?_ ?_
      · refine QRun_b [.int .i64 0] 0 _ (by kernel_rfl) (fun w => by kernel_rfl) ?_
        exact QRun_done [4] (by kernel_rfl) (by kernel_rfl)
      have hF := M.ret_some hF
      subst hF
      exact Run_ret1 rfl (ResV_tmp (v := .int .i64 0) (by kernel_rfl)) ⟨rfl, rfl⟩

set_option maxRecDepth 100000 in
set_option maxHeartbeats 4000000 in
theorem w_spec_l02Turn (h : Heap) (a_ : List (List Int)) (aa_ : Option Addr) (ca_ : Nat) (ra_ : Rd cd23 h (Lt h) aa_ ca_ a_) (n : Nat) (r : (List (List Int))) (hF : spec_l02Turn a_ n = some r) :
    Fn Try.prog 141 #[.slice aa_ a_.length ca_] h fun v h' => ∃ (a0 : Option Addr) (c0 : Nat), v = .slice a0 r.length c0 ∧ Hold h h' [own cd23 a0 r.length c0 r] := by
  unfold spec_l02Turn at hF
  refine Fn_enter (args := [.slice aa_ a_.length ca_]) Try.func141 rfl (by kernel_rfl) (by kernel_rfl) (fun w0 _ => ?_)
  have H0 := Hold.init h
  refine Run_seq ?_
  refine Run_reg 1 (by kernel_rfl) (L' := [(0, .slice aa_ a_.length ca_)]) ?_ ?_
  · refine QRun_b [.slice none 0 0] 0 _ (by kernel_rfl) (fun w => by kernel_rfl) ?_
    exact QRun_done [0] (by kernel_rfl) (by kernel_rfl)
  refine Run_seq ?_
  refine Run_ops ?_
  obtain ⟨x1, hx1, hF⟩ := M.bind_some hF
  obtain ⟨hx1l, hx1u, hx1⟩ := M.idx_some hx1
  obtain ⟨a1, c1, hc1, r1⟩ := ra_.row hx1
  refine Run_b [.slice aa_ a_.length ca_] 0 _ (by kernel_rfl) (fun w => by kernel_rfl) ?_
  refine Run_y (.pointer (some (adr aa_ (0 * 1)))) (by kernel_rfl) (Y_idx (t := 22) (e := 23) (sz := 1) (a := aa_) (n := a_.length) (cap := ca_) (kk := .i64) (i := 0) (by kernel_rfl) Try.underlying22 (by kernel_rfl) (ra_.cell hx1).1 hx1l hx1u) ?_
  refine Run_y (.slice a1 x1.length c1) (by kernel_rfl) (Y_load1 (t := 23) (p := adr aa_ (0 * 1)) (v := .slice a1 x1.length c1) (by kernel_rfl) (fun w => by kernel_rfl) hc1) ?_
  refine Run_b [.int .i64 (x1.length : Int), .slice aa_ a_.length ca_, .int .i64 (a_.length : Int)] 3 _ (by kernel_rfl) (fun w => by kernel_rfl) ?_
  obtain ⟨x2, hx2, hF⟩ := M.bind_some hF
  refine Run_E (by kernel_rfl) ?_
  refine E_call (f := 119) (args := #[.int .i64 (x1.length : Int), .int .i64 (a_.length : Int)]) (w_spec_l02Bottom h (x1.length : Int) (a_.length : Int) _ _ hx2) (by kernel_rfl) (fun v1 h1 hp1 => ?_)
  obtain ⟨a2, c2, rfl, H1⟩ := hp1
  have H2 : Hold h h1 [own cd23 a2 x2.length c2 x2] := H0.call H1 rfl
  refine Run_b [.slice a2 x2.length c2] 7 _ (by kernel_rfl) (fun w => by kernel_rfl) ?_
  refine Run_nil (by kernel_rfl) ?_
  refine Run_keep [0, 3] (L' := [(0, .slice aa_ a_.length ca_), (3, .slice a2 x2.length c2)]) (by kernel_rfl) ?_
  refine Run_seq ?_
  refine Run_seq ?_
  refine Run_reg 1 (by kernel_rfl) (L' := [(0, .slice aa_ a_.length ca_), (3, .slice a2 x2.length c2), (4, .int .i64 0)]) ?_ ?_
  · refine QRun_b [.int .i64 0] 0 _ (by kernel_rfl) (fun w => by kernel_rfl) ?_
    exact QRun_done [0, 3, 4] (by kernel_rfl) (by kernel_rfl)
  obtain ⟨x3, gx3, hF⟩ := M.bind_some hF
  obtain ⟨hloy1, hhiy1, gx3⟩ := M.for_start gx3
  refine Run_join (fun L' h' => L' = [(3, .slice a2 x2.length c2)] ∧ Hold h h' [own cd23 a2 x2.length c2 x3]) ?_ ?_
  · rintro _ h3 ⟨rfl, H4⟩
    refine Run_seq ?_
    refine Run_reg 2 (by kernel_rfl) (L' := [(2, .slice a2 x2.length c2)]) ?_ ?_
    · refine QRun_b [.slice a2 x2.length c2, .slice a2 x2.length c2] 0 _ (by kernel_rfl) (fun w => by kernel_rfl) ?_
      exact QRun_done [2] (by kernel_rfl) (by kernel_rfl)
    have hF := M.ret_some hF
    subst hF
    have H13 := H4.norm
    exact Run_ret1 rfl (ResV_tmp (v := .slice a2 x2.length c2) (by kernel_rfl)) ⟨a2, c2, (by simp only [(H4.len 0 rfl)]), H13⟩
  · refine Run_block ?_
    refine Run_keep [0, 3, 4] (L' := [(0, .slice aa_ a_.length ca_), (3, .slice a2 x2.length c2), (4, .int .i64 0)]) (by kernel_rfl) ?_
    refine Run_loop (fun m L' h' => ∃ (i1 : Int) (s1 : (List (List Int))), 0 ≤ i1 ∧ M.forN (a_.length : Int) _ _ n m i1 s1 = some x3 ∧ L' = [(0, .slice aa_ a_.length ca_), (3, .slice a2 x2.length c2), (4, .int .i64 i1)] ∧ Hold h h' [own cd23 a2 x2.length c2 s1]) ((a_.length : Int) - 0 : Int).toNat ⟨0, x2, Int.le_refl _, gx3, rfl, H2⟩ ?_
    rintro my1 _ h2 ⟨i1, s1, hloy1', gx3, rfl, H3⟩
    refine Run_seq ?_
    refine Run_seq ?_
    refine Run_reg 4 (by kernel_rfl) (L' := [(0, .slice aa_ a_.length ca_), (3, .slice a2 x2.length c2), (4, .int .i64 i1), (16, .bool (decide (i1 < (a_.length : Int))))]) ?_ ?_
    · refine QRun_b [.int .i64 i1, .slice aa_ a_.length ca_, .int .i64 (a_.length : Int), .bool (decide (i1 < (a_.length : Int)))] 0 _ (by kernel_rfl) (fun w => by kernel_rfl) ?_
      exact QRun_done [0, 3, 4, 16] (by kernel_rfl) (by kernel_rfl)
    refine Run_cond (b := decide (i1 < (a_.length : Int))) (by kernel_rfl) (fun hb1 => ?_) (fun hb1 => ?_)
    · obtain ⟨my1, y1, rfl, hB1, hgoy1, houty1⟩ := M.for_go gx3 hb1
      have hlty1 := of_decide_eq_true hb1
      refine Run_skip ?_
      refine Run_seq ?_
      refine Run_block ?_
      refine Run_seq ?_
      refine Run_reg 1 (by kernel_rfl) (L' := [(0, .slice aa_ a_.length ca_), (3, .slice a2 x2.length c2), (4, .int .i64 i1), (5, .int .i64 0)]) ?_ ?_
      · refine QRun_b [.int .i64 0] 0 _ (by kernel_rfl) (fun w => by kernel_rfl) ?_
        exact QRun_done [0, 3, 4, 5] (by kernel_rfl) (by kernel_rfl)
      obtain ⟨x4, gx4, hB1⟩ := M.bind_some hB1
      refine Run_join (fun L' h' => L' = [(0, .slice aa_ a_.length ca_), (3, .slice a2 x2.length c2), (4, .int .i64 i1)] ∧ Hold h h' [own cd23 a2 x2.length c2 x4.1]) ?_ ?_
      · rintro _ h5 ⟨rfl, H6⟩
        refine Run_blk ?_
        refine Run_reg 3 (by kernel_rfl) (L' := [(0, .slice aa_ a_.length ca_), (3, .slice a2 x2.length c2), (4, .int .i64 (i1 + 1))]) ?_ ?_
        · refine QRun_b [.int .i64 i1] 0 _ (by kernel_rfl) (fun w => by kernel_rfl) ?_
          refine QRun_y (.int .i64 (i1 + 1)) (by kernel_rfl) (Y_eq (v := .int .i64 (w64 (i1 + 1))) (Y_pure (fun w => by kernel_rfl)) (by rw [w64_eq _ (by omega)])) ?_
          refine QRun_b [.int .i64 (i1 + 1)] 2 _ (by kernel_rfl) (fun w => by kernel_rfl) ?_
          exact QRun_done [0, 3, 4] (by kernel_rfl) (by kernel_rfl)
        have hB1 := M.ret_some hB1
        have gx3 := hgoy1 _ hB1.symm
        exact Run_again [0, 3, 4] (by kernel_rfl) my1 (Nat.lt_succ_self _) ⟨i1 + 1, x4.1, by omega, gx3, rfl, H6⟩
      · refine Run_block ?_
        refine Run_keep [0, 3, 4, 5] (L' := [(0, .slice aa_ a_.length ca_), (3, .slice a2 x2.length c2), (4, .int .i64 i1), (5, .int .i64 0)]) (by kernel_rfl) ?_
        refine Run_loop (fun m L' h' => ∃ (s2 : (List (List Int)) × Int), M.loopN _ n m s2 = some x4 ∧ L' = [(0, .slice aa_ a_.length ca_), (3, .slice a2 x2.length c2), (4, .int .i64 i1), (5, .int .i64 s2.2)] ∧ Hold h h' [own cd23 a2 x2.length c2 s2.1]) n ⟨(s1, 0), gx4, rfl, H3⟩ ?_
        rintro my2 _ h4 ⟨s2, gx4, rfl, H5⟩
        obtain ⟨my2, y2, rfl, hB2, hgoy2, houty2⟩ := M.loop_some gx4
        refine Run_seq ?_
        refine Run_seq ?_
        obtain ⟨x5, hx3, hB2⟩ := M.bind_some hB2
        obtain ⟨hx3l, hx3u, hx3⟩ := M.idx_some hx3
        obtain ⟨a3, c3, hc2, r2⟩ := ra_.row hx3
        refine Run_reg 7 (by kernel_rfl) (L' := [(0, .slice aa_ a_.length ca_), (3, .slice a2 x2.length c2), (4, .int .i64 i1), (5, .int .i64 s2.2), (25, .bool (decide (s2.2 < (x5.length : Int))))]) ?_ ?_
        · refine QRun_b [.int .i64 s2.2, .slice aa_ a_.length ca_, .int .i64 i1] 0 _ (by kernel_rfl) (fun w => by kernel_rfl) ?_
          refine QRun_y (.pointer (some (adr aa_ (i1.toNat * 1)))) (by kernel_rfl) (Y_idx (t := 22) (e := 23) (sz := 1) (a := aa_) (n := a_.length) (cap := ca_) (kk := .i64) (i := i1) (by kernel_rfl) Try.underlying22 (by kernel_rfl) ((ra_.at H5.ext).cell hx3).1 hx3l hx3u) ?_
          refine QRun_y (.slice a3 x5.length c3) (by kernel_rfl) (Y_load1 (t := 23) (p := adr aa_ (i1.toNat * 1)) (v := .slice a3 x5.length c3) (by kernel_rfl) (fun w => by kernel_rfl) (cell_at H5.ext hc2)) ?_
          refine QRun_b [.int .i64 (x5.length : Int), .bool (decide (s2.2 < (x5.length : Int)))] 5 _ (by kernel_rfl) (fun w => by kernel_rfl) ?_
          exact QRun_done [0, 3, 4, 5, 25] (by kernel_rfl) (by kernel_rfl)
        refine Run_cond (b := decide (s2.2 < (x5.length : Int))) (by kernel_rfl) (fun hb2 => ?_) (fun hb2 => ?_)
        · have hB2 := (M.ite_some hB2).1 hb2
          refine Run_skip ?_
          refine Run_seq ?_
          refine Run_block ?_
          obtain ⟨x6, hx4, hB2⟩ := M.bind_some hB2
          obtain ⟨hx4l, hx4u, hx4⟩ := M.idx_some hx4
          have H7 := H5.toRows
          obtain ⟨a4, c4, H8⟩ := H7.pinRow hx4
          obtain ⟨x7, hx5, hB2⟩ := M.bind_some hB2
          obtain ⟨hx5l, hx5u, hx5⟩ := M.idx_some hx5
          obtain ⟨a5, c5, hc3, r3⟩ := ra_.row hx5
          obtain ⟨x8, hx6, hB2⟩ := M.bind_some hB2
          obtain ⟨hx6l, hx6u, hx6⟩ := M.idx_some hx6
          obtain ⟨x9, hx7, hB2⟩ := M.bind_some hB2
          obtain ⟨hx7l, hx7u, hx7⟩ := M.idx_some hx7
          refine Run_D (fun x => Hold h x [rowsP cd2 23 a2 x2.length c2 s2.1 [(s2.2.toNat, a4, x6.length, c4, x6)]]) (fun x => Hold h x [rowsP cd2 23 a2 x2.length c2 s2.1 [(s2.2.toNat, a4, x6.length, c4, x6)]]) mixed (by kernel_rfl) H8 Hold.stable (fun x Hy => (show Hold h x [rowsP cd2 23 a2 x2.length c2 s2.1 [(s2.2.toNat, a4, x6.length, c4, x6)]] from Hy).pick [0] (by kernel_rfl)) ?_
          refine DR_b 12 [.slice a2 x2.length c2, .int .i64 s2.2] 0 (by kernel_rfl) (by kernel_rfl) (by kernel_rfl) (fun w => by kernel_rfl) ?_
          refine DR_y 11 (i := 2) (.pointer (some (adr a2 (s2.2.toNat * 1)))) (by kernel_rfl) (by kernel_rfl) (by kernel_rfl) (fun hx Hx => (YE.of (Y_idx (t := 22) (e := 23) (sz := 1) (a := a2) (n := x2.length) (cap := c2) (kk := .i64) (i := s2.2) (by kernel_rfl) Try.underlying22 (by kernel_rfl) ((H5.rd 0 rfl).cell hx4).1 hx4l (by rw [← (H5.len 0 rfl)]; exact hx4u)))) ?_
          refine DR_y 10 (i := 3) (.slice a4 x6.length c4) (by kernel_rfl) (by kernel_rfl) (by kernel_rfl) (fun hx Hx => (YE.of (Y_load1 (t := 23) (p := adr a2 (s2.2.toNat * 1)) (v := .slice a4 x6.length c4) (by kernel_rfl) (fun w => by kernel_rfl) (Hx.cellPin 0 rfl 0 rfl)))) ?_
          refine DR_b 7 [.int .i64 i1, .slice aa_ a_.length ca_, .int .i64 i1] 4 (by kernel_rfl) (by kernel_rfl) (by kernel_rfl) (fun w => by kernel_rfl) ?_
          refine DR_y 6 (i := 7) (.pointer (some (adr aa_ (i1.toNat * 1)))) (by kernel_rfl) (by kernel_rfl) (by kernel_rfl) (fun hx Hx => (YE.of (Y_idx (t := 22) (e := 23) (sz := 1) (a := aa_) (n := a_.length) (cap := ca_) (kk := .i64) (i := i1) (by kernel_rfl) Try.underlying22 (by kernel_rfl) ((ra_.at H8.ext).cell hx5).1 hx5l hx5u))) ?_
          refine DR_y 5 (i := 8) (.slice a5 x7.length c5) (by kernel_rfl) (by kernel_rfl) (by kernel_rfl) (fun hx Hx => (YE.of (Y_load1 (t := 23) (p := adr aa_ (i1.toNat * 1)) (v := .slice a5 x7.length c5) (by kernel_rfl) (fun w => by kernel_rfl) (cell_at Hx.ext hc3)))) ?_
          refine DR_b 4 [.int .i64 s2.2] 9 (by kernel_rfl) (by kernel_rfl) (by kernel_rfl) (fun w => by kernel_rfl) ?_
          refine DR_y 3 (i := 10) (.pointer (some (adr a5 (s2.2.toNat * 1)))) (by kernel_rfl) (by kernel_rfl) (by kernel_rfl) (fun hx Hx => (YE.of (Y_idx (t := 23) (e := 2) (sz := 1) (a := a5) (n := x7.length) (cap := c5) (kk := .i64) (i := s2.2) (by kernel_rfl) Try.underlying23 (by kernel_rfl) ((r3.at H8.ext).cell hx6).1 hx6l hx6u))) ?_
          refine DR_y 2 (i := 11) (.int .i64 x8) (by kernel_rfl) (by kernel_rfl) (by kernel_rfl) (fun hx Hx => (YE.of (Y_load1 (t := 2) (p := adr a5 (s2.2.toNat * 1)) (v := .int .i64 x8) (by kernel_rfl) (fun w => by kernel_rfl) (cd2_cell (r3.at Hx.ext) hx6)))) ?_
          refine DR_y 1 (i := 12) (.pointer (some (adr a4 (i1.toNat * 1)))) (by kernel_rfl) (by kernel_rfl) (by kernel_rfl) (fun hx Hx => (YE.of (Y_idx (t := 23) (e := 2) (sz := 1) (a := a4) (n := x6.length) (cap := c4) (kk := .i64) (i := i1) (by kernel_rfl) Try.underlying23 (by kernel_rfl) ((H8.rdPin 0 rfl 0 rfl).cell hx7).1 hx7l hx7u))) ?_
          refine DR_tail (i := 13) (by kernel_rfl) (by kernel_rfl) (by kernel_rfl) (fun h6 H9 => ?_)
          have H10 : Hold h h6 [rowsP cd2 23 a2 x2.length c2 s2.1 [(s2.2.toNat, a4, x6.length, c4, x6)]] := H9
          obtain ⟨l1, hu1, hB2⟩ := M.bind_some hB2
          have hu1 := M.upd_some hu1
          refine Run_E (by kernel_rfl) ?_
          refine E_put2 (C := cd2) (t := 2) (sz := 1) (j := i1) (x := x8) (v := .int .i64 x8) (m2 := s2.1.set s2.2.toNat l1) H10 cd2_flat 0 rfl (by kernel_rfl) rfl (cd2_own _) (by kernel_rfl) hu1 rfl (fun h7 H11 => ?_)
          refine Run_nil (by kernel_rfl) ?_
          refine Run_keep [0, 3, 4, 5] (L' := [(0, .slice aa_ a_.length ca_), (3, .slice a2 x2.length c2), (4, .int .i64 i1), (5, .int .i64 s2.2)]) (by kernel_rfl) ?_
          refine Run_blk ?_
          refine Run_reg 3 (by kernel_rfl) (L' := [(0, .slice aa_ a_.length ca_), (3, .slice a2 x2.length c2), (4, .int .i64 i1), (5, .int .i64 (w64 (s2.2 + 1)))]) ?_ ?_
          · refine QRun_b [.int .i64 s2.2, .int .i64 (w64 (s2.2 + 1)), .int .i64 (w64 (s2.2 + 1))] 0 _ (by kernel_rfl) (fun w => by kernel_rfl) ?_
            exact QRun_done [0, 3, 4, 5] (by kernel_rfl) (by kernel_rfl)
          have H12 := H11.ofRows
          have hB2 := M.ret_some hB2
          have gx4 := hgoy2 _ hB2.symm
          exact Run_again [0, 3, 4, 5] (by kernel_rfl) my2 (Nat.lt_succ_self _) ⟨((s2.1.set s2.2.toNat l1), (w64 (s2.2 + 1))), gx4, rfl, H12⟩
        · have hB2 := (M.ite_some hB2).2 hb2
          refine Run_exit (k' := _) rfl ?_
          have hB2 := M.ret_some hB2
          have gx4 := houty2 _ hB2.symm
          subst gx4
          exact Run_fall [0, 3, 4] (by kernel_rfl) ⟨rfl, H5⟩
    · have gx3 := M.for_end gx3 hb1
      subst gx3
      refine Run_exit (k' := _) rfl ?_
      exact Run_fall [3] (by kernel_rfl) ⟨rfl, H3⟩

set_option maxRecDepth 100000 in
set_option maxHeartbeats 4000000 in
theorem w_spec_l07Column (h : Heap) (x_ : List Int) (ax_ : Option Addr) (cx_ : Nat) (rx_ : Rd cd2 h (Lt h) ax_ cx_ x_) (n : Nat) (r : (List (List Int))) (hF : spec_l07Column x_ n = some r) :
    Fn Try.prog 88 #[.slice ax_ x_.length cx_] h fun v h' => ∃ (a0 : Option Addr) (c0 : Nat), v = .slice a0 r.length c0 ∧ Hold h h' [own cd23 a0 r.length c0 r] := by
  unfold spec_l07Column at hF
  refine Fn_enter (args := [.slice ax_ x_.length cx_]) Try.func88 rfl (by kernel_rfl) (by kernel_rfl) (fun w0 _ => ?_)
  have H0 := Hold.init h
  refine Run_seq ?_
  refine Run_reg 1 (by kernel_rfl) (L' := [(0, .slice ax_ x_.length cx_)]) ?_ ?_
  · refine QRun_b [.slice none 0 0] 0 _ (by kernel_rfl) (fun w => by kernel_rfl) ?_
    exact QRun_done [0] (by kernel_rfl) (by kernel_rfl)
  refine Run_seq ?_
  refine Run_ops ?_
  refine Run_b [.slice ax_ x_.length cx_] 0 _ (by kernel_rfl) (fun w => by kernel_rfl) ?_
  refine Run_E (by kernel_rfl) ?_
  refine E_litV (ey := 23) (n := x_.length) H0 rx_ rfl (fun w => by kernel_rfl) rfl (fun a1 h1 H1 => ?_)
  obtain ⟨x1, hx1, hF⟩ := M.bind_some hF
  refine Run_E (by kernel_rfl) ?_
  refine E_call (f := 141) (args := #[.slice a1 1 1]) (Fn.arg (w_spec_l02Turn h1 [x_] a1 1 (H1.rdV 0 rfl) _ _ hx1) (by simp only [(H1.lenV 0 rfl)])) (by kernel_rfl) (fun v1 h2 hp1 => ?_)
  obtain ⟨a2, c1, rfl, H2⟩ := hp1
  have H3 : Hold h h2 [own cd23 a2 x1.length c1 x1, view h.size cd23 a1 1 1 [x_]] := H1.call H2 rfl
  refine Run_b [.slice a2 x1.length c1] 3 _ (by kernel_rfl) (fun w => by kernel_rfl) ?_
  refine Run_nil (by kernel_rfl) ?_
  refine Run_keep [2] (L' := [(2, .slice a2 x1.length c1)]) (by kernel_rfl) ?_
  have hF := M.ret_some hF
  subst hF
  have H4 : Hold h h2 [own cd23 a2 x1.length c1 x1] := H3.pick [0] (by kernel_rfl)
  exact Run_ret1 rfl (ResV_tmp (v := .slice a2 x1.length c1) (by kernel_rfl)) ⟨a2, c1, rfl, H4⟩

set_option maxRecDepth 100000 in
set_option maxHeartbeats 4000000 in
theorem w_spec_l07Flat (h : Heap) (a_ : List (List Int)) (aa_ : Option Addr) (ca_ : Nat) (ra_ : Rd cd23 h (Lt h) aa_ ca_ a_) (n : Nat) (r : (List Int)) (hF : spec_l07Flat a_ n = some r) :
    Fn Try.prog 132 #[.slice aa_ a_.length ca_] h fun v h' => ∃ (a0 : Option Addr) (c0 : Nat), v = .slice a0 r.length c0 ∧ Hold h h' [own cd2 a0 r.length c0 r] := by
  unfold spec_l07Flat at hF
  refine Fn_enter (args := [.slice aa_ a_.length ca_]) Try.func132 rfl (by kernel_rfl) (by kernel_rfl) (fun w0 _ => ?_)
  have H0 := Hold.init h
  refine Run_seq ?_
  refine Run_reg 1 (by kernel_rfl) (L' := [(0, .slice aa_ a_.length ca_)]) ?_ ?_
  · refine QRun_b [.slice none 0 0] 0 _ (by kernel_rfl) (fun w => by kernel_rfl) ?_
    exact QRun_done [0] (by kernel_rfl) (by kernel_rfl)
  refine Run_seq ?_
  refine Run_ops ?_
  refine Run_E (by kernel_rfl) ?_
  refine E_lit (C := cd2) (n := 0) (l := ([] : List Int)) (cs := []) H0 (fun w => by kernel_rfl) (Enc.nil _ _) rfl (by decide) (fun a1 h1 H1 => ?_)
  refine Run_b [.slice a1 0 0] 1 _ (by kernel_rfl) (fun w => by kernel_rfl) ?_
  refine Run_nil (by kernel_rfl) ?_
  refine Run_keep [0, 3] (L' := [(0, .slice aa_ a_.length ca_), (3, .slice a1 0 0)]) (by kernel_rfl) ?_
  refine Run_seq ?_
  refine Run_seq ?_
  refine Run_reg 1 (by kernel_rfl) (L' := [(0, .slice aa_ a_.length ca_), (3, .slice a1 0 0), (4, .int .i64 0)]) ?_ ?_
  · refine QRun_b [.int .i64 0] 0 _ (by kernel_rfl) (fun w => by kernel_rfl) ?_
    exact QRun_done [0, 3, 4] (by kernel_rfl) (by kernel_rfl)
  obtain ⟨x1, gx1, hF⟩ := M.bind_some hF
  obtain ⟨hloy1, hhiy1, gx1⟩ := M.for_start gx1
  refine Run_join (fun L' h' => ∃ (a3 : Option Addr) (c2 : Nat), L' = [(3, .slice a3 x1.length c2)] ∧ Hold h h' [own cd2 a3 x1.length c2 x1]) ?_ ?_
  · rintro _ h3 ⟨a3, c2, rfl, H3⟩
    refine Run_seq ?_
    refine Run_reg 2 (by kernel_rfl) (L' := [(2, .slice a3 x1.length c2)]) ?_ ?_
    · refine QRun_b [.slice a3 x1.length c2, .slice a3 x1.length c2] 0 _ (by kernel_rfl) (fun w => by kernel_rfl) ?_
      exact QRun_done [2] (by kernel_rfl) (by kernel_rfl)
    have hF := M.ret_some hF
    subst hF
    exact Run_ret1 rfl (ResV_tmp (v := .slice a3 x1.length c2) (by kernel_rfl)) ⟨a3, c2, rfl, H3⟩
  · refine Run_block ?_
    have hn1 := (H1.len 0 rfl)
    have H5 : Hold h h1 [own cd2 a1 (([] : List Int).length) 0 ([] : List Int)] := by rw [hn1]; exact H1
    refine Run_keep [0, 3, 4] (L' := [(0, .slice aa_ a_.length ca_), (3, .slice a1 (([] : List Int).length) 0), (4, .int .i64 0)]) (by first | (rw [hn1]; kernel_rfl) | (simp only [hn1]; kernel_rfl) | kernel_rfl) ?_
    refine Run_loop (fun m L' h' => ∃ (i1 : Int) (s1 : (List Int)) (a2 : Option Addr) (c1 : Nat), 0 ≤ i1 ∧ M.forN (a_.length : Int) _ _ n m i1 s1 = some x1 ∧ L' = [(0, .slice aa_ a_.length ca_), (3, .slice a2 s1.length c1), (4, .int .i64 i1)] ∧ Hold h h' [own cd2 a2 s1.length c1 s1]) ((a_.length : Int) - 0 : Int).toNat ⟨0, ([] : List Int), a1, 0, Int.le_refl _, gx1, rfl, H5⟩ ?_
    rintro my1 _ h2 ⟨i1, s1, a2, c1, hloy1', gx1, rfl, H2⟩
    refine Run_seq ?_
    refine Run_seq ?_
    refine Run_reg 4 (by kernel_rfl) (L' := [(0, .slice aa_ a_.length ca_), (3, .slice a2 s1.length c1), (4, .int .i64 i1), (9, .bool (decide (i1 < (a_.length : Int))))]) ?_ ?_
    · refine QRun_b [.int .i64 i1, .slice aa_ a_.length ca_, .int .i64 (a_.length : Int), .bool (decide (i1 < (a_.length : Int)))] 0 _ (by kernel_rfl) (fun w => by kernel_rfl) ?_
      exact QRun_done [0, 3, 4, 9] (by kernel_rfl) (by kernel_rfl)
    refine Run_cond (b := decide (i1 < (a_.length : Int))) (by kernel_rfl) (fun hb1 => ?_) (fun hb1 => ?_)
    · obtain ⟨my1, y1, rfl, hB1, hgoy1, houty1⟩ := M.for_go gx1 hb1
      have hlty1 := of_decide_eq_true hb1
      refine Run_skip ?_
      refine Run_seq ?_
      refine Run_block ?_
      refine Run_ops ?_
      obtain ⟨x2, hx1, hB1⟩ := M.bind_some hB1
      obtain ⟨hx1l, hx1u, hx1⟩ := M.idx_some hx1
      obtain ⟨a4, c3, hc1, r1⟩ := ra_.row hx1
      refine Run_b [.slice a2 s1.length c1, .slice aa_ a_.length ca_, .int .i64 i1] 0 _ (by kernel_rfl) (fun w => by kernel_rfl) ?_
      refine Run_y (.pointer (some (adr aa_ (i1.toNat * 1)))) (by kernel_rfl) (Y_idx (t := 22) (e := 23) (sz := 1) (a := aa_) (n := a_.length) (cap := ca_) (kk := .i64) (i := i1) (by kernel_rfl) Try.underlying22 (by kernel_rfl) ((ra_.at H2.ext).cell hx1).1 hx1l hx1u) ?_
      refine Run_y (.slice a4 x2.length c3) (by kernel_rfl) (Y_load1 (t := 23) (p := adr aa_ (i1.toNat * 1)) (v := .slice a4 x2.length c3) (by kernel_rfl) (fun w => by kernel_rfl) (cell_at H2.ext hc1)) ?_
      obtain ⟨l1, hl1, hB1⟩ := M.bind_some hB1
      have hl1 := M.app_some hl1
      refine Run_E (by kernel_rfl) ?_
      refine E_appR (C := cd2) (t := 23) (ty := 23) (n := s1.length) (m := x2.length) H2 cd2_copies (r1.at H2.ext) rfl cd2_ti rfl Try.underlying23 (by decide) (by kernel_rfl) hl1 (fun a5 c4 h4 H4 => ?_)
      refine Run_b [.slice a5 l1.length c4] 6 _ (by kernel_rfl) (fun w => by kernel_rfl) ?_
      refine Run_nil (by kernel_rfl) ?_
      refine Run_keep [0, 3, 4] (L' := [(0, .slice aa_ a_.length ca_), (3, .slice a5 l1.length c4), (4, .int .i64 i1)]) (by kernel_rfl) ?_
      refine Run_blk ?_
      refine Run_reg 3 (by kernel_rfl) (L' := [(0, .slice aa_ a_.length ca_), (3, .slice a5 l1.length c4), (4, .int .i64 (i1 + 1))]) ?_ ?_
      · refine QRun_b [.int .i64 i1] 0 _ (by kernel_rfl) (fun w => by kernel_rfl) ?_
        refine QRun_y (.int .i64 (i1 + 1)) (by kernel_rfl) (Y_eq (v := .int .i64 (w64 (i1 + 1))) (Y_pure (fun w => by kernel_rfl)) (by rw [w64_eq _ (by omega)])) ?_
        refine QRun_b [.int .i64 (i1 + 1)] 2 _ (by kernel_rfl) (fun w => by kernel_rfl) ?_
        exact QRun_done [0, 3, 4] (by kernel_rfl) (by kernel_rfl)
      have hB1 := M.ret_some hB1
      have gx1 := hgoy1 _ hB1.symm
      exact Run_again [0, 3, 4] (by kernel_rfl) my1 (Nat.lt_succ_self _) ⟨i1 + 1, l1, a5, c4, by omega, gx1, rfl, H4⟩
    · have gx1 := M.for_end gx1 hb1
      subst gx1
      refine Run_exit (k' := _) rfl ?_
      exact Run_fall [3] (by kernel_rfl) ⟨a2, c1, rfl, H2⟩

set_option maxRecDepth 100000 in
set_option maxHeartbeats 4000000 in
theorem w_spec_l07Start (h : Heap) (a_ : List (List Int)) (aa_ : Option Addr) (ca_ : Nat) (ra_ : Rd cd23 h (Lt h) aa_ ca_ a_) (first : List (List Int)) (afirst : Option Addr) (cfirst : Nat) (rfirst : Rd cd23 h (Lt h) afirst cfirst first) (n : Nat) (r : TL07series) (hF : spec_l07Start a_ first n = some r) :
    Fn Try.prog 77 #[.slice aa_ a_.length ca_, .slice afirst first.length cfirst] h fun v h' => ∃ (b0 : Nat), ∃ (a0 : Option Addr) (c0 : Nat), ∃ (a1 : Option Addr) (c1 : Nat), ∃ (a2 : Option Addr) (c2 : Nat), v = .pointer (some ⟨b0, 0, none⟩) ∧ Ali a0 aa_ c0 ca_ r.a a_ ∧ Ali a1 afirst c1 cfirst r.last first ∧ Hold h h' [box b0 96 [.slice a0 r.a.length c0, .slice a1 r.last.length c1, .slice a2 r.lists.length c2], own cd23 a2 r.lists.length c2 r.lists] := by
  unfold spec_l07Start at hF
  refine Fn_enter (args := [.slice aa_ a_.length ca_, .slice afirst first.length cfirst]) Try.func77 rfl (by kernel_rfl) (by kernel_rfl) (fun w0 _ => ?_)
  have H0 := Hold.init h
  refine Run_seq ?_
  refine Run_reg 1 (by kernel_rfl) (L' := [(0, .slice aa_ a_.length ca_), (1, .slice afirst first.length cfirst)]) ?_ ?_
  · refine QRun_b [.pointer none] 0 _ (by kernel_rfl) (fun w => by kernel_rfl) ?_
    exact QRun_done [0, 1] (by kernel_rfl) (by kernel_rfl)
  refine Run_seq ?_
  refine Run_ops ?_
  refine Run_b [.slice aa_ a_.length ca_, .slice afirst first.length cfirst, .slice afirst first.length cfirst] 0 _ (by kernel_rfl) (fun w => by kernel_rfl) ?_
  obtain ⟨x1, hx1, hF⟩ := M.bind_some hF
  refine Run_E (by kernel_rfl) ?_
  refine E_call (f := 132) (args := #[.slice afirst first.length cfirst]) (w_spec_l07Flat h first afirst cfirst rfirst _ _ hx1) (by kernel_rfl) (fun v1 h1 hp1 => ?_)
  obtain ⟨a1, c1, rfl, H1⟩ := hp1
  have H2 : Hold h h1 [own cd2 a1 x1.length c1 x1] := H0.call H1 rfl
  refine Run_E (by kernel_rfl) ?_
  refine E_lit1 (ey := 23) (n := x1.length) H2 (fun w => by kernel_rfl) rfl (fun a2 h2 H3 => ?_)
  refine Run_b [.agg #[.slice aa_ a_.length ca_, .slice afirst first.length cfirst, .slice a2 1 1]] 5 _ (by kernel_rfl) (fun w => by kernel_rfl) ?_
  refine Run_E (by kernel_rfl) ?_
  refine E_box (ty := 96) (cs := [.slice aa_ a_.length ca_, .slice afirst first.length cfirst, .slice a2 1 1]) H3 (fun w => by kernel_rfl) (fun b1 h3 H4 => ?_)
  refine Run_b [.pointer (some ⟨b1, 0, none⟩)] 7 _ (by kernel_rfl) (fun w => by kernel_rfl) ?_
  refine Run_nil (by kernel_rfl) ?_
  refine Run_keep [4] (L' := [(4, .pointer (some ⟨b1, 0, none⟩))]) (by kernel_rfl) ?_
  have hF := M.ret_some hF
  subst hF
  have H5 : Hold h h3 [own cd23 a2 1 1 [x1], box b1 96 [.slice aa_ a_.length ca_, .slice afirst first.length cfirst, .slice a2 1 1]] := H4.pick [1, 0] (by kernel_rfl)
  have H6 := H5.norm
  have H7 : Hold h h3 [box b1 96 [.slice aa_ a_.length ca_, .slice afirst first.length cfirst, .slice a2 1 1], own cd23 a2 ([x1].length) 1 [x1]] := H6.pick [1, 0] (by kernel_rfl)
  exact Run_ret1 rfl (ResV_tmp (v := .pointer (some ⟨b1, 0, none⟩)) (by kernel_rfl)) ⟨b1, aa_, ca_, afirst, cfirst, a2, 1, (by simp only [(H5.len 0 rfl)]), .inl ⟨rfl, rfl, rfl⟩, .inl ⟨rfl, rfl, rfl⟩, H7⟩

set_option maxRecDepth 100000 in
set_option maxHeartbeats 4000000 in
theorem w_spec_l01Times (h : Heap) (a_ : Int) (b : Int) (n : Nat) (r : Int) (hF : spec_l01Times a_ b n = some r) :
    Fn Try.prog 81 #[.int .i64 a_, .int .i64 b] h fun v h' => v = .int .i64 r ∧ h' = h := by
  unfold spec_l01Times at hF
  refine Fn_enter (args := [.int .i64 a_, .int .i64 b]) Try.func81 rfl (by kernel_rfl) (by kernel_rfl) (fun w0 _ => ?_)
  refine Run_seq ?_
  refine Run_reg 1 (by kernel_rfl) (L' := [(0, .int .i64 a_), (1, .int .i64 b)]) ?_ ?_
  · refine QRun_b [.int .i64 0] 0 _ (by kernel_rfl) (fun w => by kernel_rfl) ?_
    exact QRun_done [0, 1] (by kernel_rfl) (by kernel_rfl)
  refine Run_seq ?_
  refine Run_seq ?_
  refine Run_reg 6 (by kernel_rfl) (L' := [(0, .int .i64 a_), (1, .int .i64 b), (10, .bool ((a_ == (-1000000000000000)) || (b == (-1000000000000000))))]) ?_ ?_
  · refine QRun_b [.int .i64 a_, .bool (a_ == (-1000000000000000))] 0 _ (by kernel_rfl) (fun w => by kernel_rfl) ?_
    refine QRun_seq 6 [(0, .int .i64 a_), (1, .int .i64 b), (10, .bool ((a_ == (-1000000000000000)) || (b == (-1000000000000000))))] ?_ ?_
    · rcases Bool.eq_false_or_eq_true (a_ == (-1000000000000000)) with hb1 | hb1
      · refine QRun_bool (a_ == (-1000000000000000)) true (by kernel_rfl) (fun w => by kernel_rfl) hb1 ?_
        refine QRun_n (by kernel_rfl) ?_
        refine QRun_n (by kernel_rfl) ?_
        refine QRun_bool true ((a_ == (-1000000000000000)) || (b == (-1000000000000000))) (by kernel_rfl) (fun w => by kernel_rfl) (by rw [hb1]; rfl) ?_
        exact QRun_done [0, 1, 10] (by kernel_rfl) (by kernel_rfl)
      · refine QRun_bool (a_ == (-1000000000000000)) false (by kernel_rfl) (fun w => by kernel_rfl) hb1 ?_
        refine QRun_b [.int .i64 b, .bool (b == (-1000000000000000))] 3 _ (by kernel_rfl) (fun w => by kernel_rfl) ?_
        refine QRun_bool (b == (-1000000000000000)) ((a_ == (-1000000000000000)) || (b == (-1000000000000000))) (by kernel_rfl) (fun w => by kernel_rfl) (by rw [hb1]; rfl) ?_
        exact QRun_done [0, 1, 10] (by kernel_rfl) (by kernel_rfl)
    exact QRun_done [0, 1, 10] (by kernel_rfl) (by kernel_rfl)
  refine Run_cond (b := (a_ == (-1000000000000000)) || (b == (-1000000000000000))) (by kernel_rfl) (fun hb2 => ?_) (fun hb2 => ?_)
  · have hF := (M.ite_some hF).1 hb2
    refine Run_seq ?_
    refine Run_reg 1 (by kernel_rfl) (L' := [(4, .int .i64 (-1000000000000000))]) ?_ ?_
    · refine QRun_b [.int .i64 (-1000000000000000)] 0 _ (by kernel_rfl) (fun w => by kernel_rfl) ?_
      exact QRun_done [4] (by kernel_rfl) (by kernel_rfl)
    have hF := M.ret_some hF
    subst hF
    exact Run_ret1 rfl (ResV_tmp (v := .int .i64 (-1000000000000000)) (by kernel_rfl)) ⟨rfl, rfl⟩
  · have hF := (M.ite_some hF).2 hb2
    refine Run_skip ?_
    refine Run_seq ?_
    refine Run_reg 4 (by kernel_rfl) (L' := [(4, .int .i64 (w64 (a_ + b)))]) ?_ ?_
    · refine QRun_b [.int .i64 a_, .int .i64 b, .int .i64 (w64 (a_ + b)), .int .i64 (w64 (a_ + b))] 0 _ (by kernel_rfl) (fun w => by kernel_rfl) ?_
      exact QRun_done [4] (by kernel_rfl) (by kernel_rfl)
    have hF := M.ret_some hF
    subst hF
    exact Run_ret1 rfl (ResV_tmp (v := .int .i64 (w64 (a_ + b))) (by kernel_rfl)) ⟨rfl, rfl⟩

set_option maxRecDepth 100000 in
set_option maxHeartbeats 4000000 in
theorem w_spec_l02Multiply (h : Heap) (a_ : List (List Int)) (aa_ : Option Addr) (ca_ : Nat) (ra_ : Rd cd23 h (Lt h) aa_ ca_ a_) (b : List (List Int)) (ab : Option Addr) (cb : Nat) (rb : Rd cd23 h (Lt h) ab cb b) (n : Nat) (r : (List (List Int))) (hF : spec_l02Multiply a_ b n = some r) :
    Fn Try.prog 143 #[.slice aa_ a_.length ca_, .slice ab b.length cb] h fun v h' => ∃ (a0 : Option Addr) (c0 : Nat), v = .slice a0 r.length c0 ∧ Hold h h' [own cd23 a0 r.length c0 r] := by
  unfold spec_l02Multiply at hF
  refine Fn_enter (args := [.slice aa_ a_.length ca_, .slice ab b.length cb]) Try.func143 rfl (by kernel_rfl) (by kernel_rfl) (fun w0 _ => ?_)
  have H0 := Hold.init h
  refine Run_seq ?_
  refine Run_reg 1 (by kernel_rfl) (L' := [(0, .slice aa_ a_.length ca_), (1, .slice ab b.length cb)]) ?_ ?_
  · refine QRun_b [.slice none 0 0] 0 _ (by kernel_rfl) (fun w => by kernel_rfl) ?_
    exact QRun_done [0, 1] (by kernel_rfl) (by kernel_rfl)
  refine Run_seq ?_
  refine Run_ops ?_
  obtain ⟨x1, hx1, hF⟩ := M.bind_some hF
  obtain ⟨hx1l, hx1u, hx1⟩ := M.idx_some hx1
  obtain ⟨a1, c1, hc1, r1⟩ := rb.row hx1
  refine Run_b [.slice aa_ a_.length ca_, .int .i64 (a_.length : Int), .slice ab b.length cb] 0 _ (by kernel_rfl) (fun w => by kernel_rfl) ?_
  refine Run_y (.pointer (some (adr ab (0 * 1)))) (by kernel_rfl) (Y_idx (t := 22) (e := 23) (sz := 1) (a := ab) (n := b.length) (cap := cb) (kk := .i64) (i := 0) (by kernel_rfl) Try.underlying22 (by kernel_rfl) (rb.cell hx1).1 hx1l hx1u) ?_
  refine Run_y (.slice a1 x1.length c1) (by kernel_rfl) (Y_load1 (t := 23) (p := adr ab (0 * 1)) (v := .slice a1 x1.length c1) (by kernel_rfl) (fun w => by kernel_rfl) hc1) ?_
  refine Run_b [.int .i64 (x1.length : Int)] 5 _ (by kernel_rfl) (fun w => by kernel_rfl) ?_
  obtain ⟨x2, hx2, hF⟩ := M.bind_some hF
  refine Run_E (by kernel_rfl) ?_
  refine E_call (f := 119) (args := #[.int .i64 (a_.length : Int), .int .i64 (x1.length : Int)]) (w_spec_l02Bottom h (a_.length : Int) (x1.length : Int) _ _ hx2) (by kernel_rfl) (fun v1 h1 hp1 => ?_)
  obtain ⟨a2, c2, rfl, H1⟩ := hp1
  have H2 : Hold h h1 [own cd23 a2 x2.length c2 x2] := H0.call H1 rfl
  refine Run_b [.slice a2 x2.length c2] 7 _ (by kernel_rfl) (fun w => by kernel_rfl) ?_
  refine Run_nil (by kernel_rfl) ?_
  refine Run_keep [0, 1, 5] (L' := [(0, .slice aa_ a_.length ca_), (1, .slice ab b.length cb), (5, .slice a2 x2.length c2)]) (by kernel_rfl) ?_
  refine Run_seq ?_
  refine Run_seq ?_
  refine Run_reg 1 (by kernel_rfl) (L' := [(0, .slice aa_ a_.length ca_), (1, .slice ab b.length cb), (5, .slice a2 x2.length c2), (6, .int .i64 0)]) ?_ ?_
  · refine QRun_b [.int .i64 0] 0 _ (by kernel_rfl) (fun w => by kernel_rfl) ?_
    exact QRun_done [0, 1, 5, 6] (by kernel_rfl) (by kernel_rfl)
  obtain ⟨x3, gx3, hF⟩ := M.bind_some hF
  obtain ⟨hloy1, hhiy1, gx3⟩ := M.for_start gx3
  refine Run_join (fun L' h' => L' = [(5, .slice a2 x2.length c2)] ∧ Hold h h' [own cd23 a2 x2.length c2 x3]) ?_ ?_
  · rintro _ h3 ⟨rfl, H4⟩
    refine Run_seq ?_
    refine Run_reg 2 (by kernel_rfl) (L' := [(4, .slice a2 x2.length c2)]) ?_ ?_
    · refine QRun_b [.slice a2 x2.length c2, .slice a2 x2.length c2] 0 _ (by kernel_rfl) (fun w => by kernel_rfl) ?_
      exact QRun_done [4] (by kernel_rfl) (by kernel_rfl)
    have hF := M.ret_some hF
    subst hF
    have H16 := H4.norm
    exact Run_ret1 rfl (ResV_tmp (v := .slice a2 x2.length c2) (by kernel_rfl)) ⟨a2, c2, (by simp only [(H4.len 0 rfl)]), H16⟩
  · refine Run_block ?_
    refine Run_keep [0, 1, 5, 6] (L' := [(0, .slice aa_ a_.length ca_), (1, .slice ab b.length cb), (5, .slice a2 x2.length c2), (6, .int .i64 0)]) (by kernel_rfl) ?_
    refine Run_loop (fun m L' h' => ∃ (i1 : Int) (s1 : (List (List Int))), 0 ≤ i1 ∧ M.forN (a_.length : Int) _ _ n m i1 s1 = some x3 ∧ L' = [(0, .slice aa_ a_.length ca_), (1, .slice ab b.length cb), (5, .slice a2 x2.length c2), (6, .int .i64 i1)] ∧ Hold h h' [own cd23 a2 x2.length c2 s1]) ((a_.length : Int) - 0 : Int).toNat ⟨0, x2, Int.le_refl _, gx3, rfl, H2⟩ ?_
    rintro my1 _ h2 ⟨i1, s1, hloy1', gx3, rfl, H3⟩
    refine Run_seq ?_
    refine Run_seq ?_
    refine Run_reg 4 (by kernel_rfl) (L' := [(0, .slice aa_ a_.length ca_), (1, .slice ab b.length cb), (5, .slice a2 x2.length c2), (6, .int .i64 i1), (19, .bool (decide (i1 < (a_.length : Int))))]) ?_ ?_
    · refine QRun_b [.int .i64 i1, .slice aa_ a_.length ca_, .int .i64 (a_.length : Int), .bool (decide (i1 < (a_.length : Int)))] 0 _ (by kernel_rfl) (fun w => by kernel_rfl) ?_
      exact QRun_done [0, 1, 5, 6, 19] (by kernel_rfl) (by kernel_rfl)
    refine Run_cond (b := decide (i1 < (a_.length : Int))) (by kernel_rfl) (fun hb1 => ?_) (fun hb1 => ?_)
    · obtain ⟨my1, y1, rfl, hB1, hgoy1, houty1⟩ := M.for_go gx3 hb1
      have hlty1 := of_decide_eq_true hb1
      refine Run_skip ?_
      refine Run_seq ?_
      refine Run_block ?_
      refine Run_seq ?_
      refine Run_reg 1 (by kernel_rfl) (L' := [(0, .slice aa_ a_.length ca_), (1, .slice ab b.length cb), (5, .slice a2 x2.length c2), (6, .int .i64 i1), (7, .int .i64 0)]) ?_ ?_
      · refine QRun_b [.int .i64 0] 0 _ (by kernel_rfl) (fun w => by kernel_rfl) ?_
        exact QRun_done [0, 1, 5, 6, 7] (by kernel_rfl) (by kernel_rfl)
      obtain ⟨x4, gx4, hB1⟩ := M.bind_some hB1
      refine Run_join (fun L' h' => L' = [(0, .slice aa_ a_.length ca_), (1, .slice ab b.length cb), (5, .slice a2 x2.length c2), (6, .int .i64 i1)] ∧ Hold h h' [own cd23 a2 x2.length c2 x4.1]) ?_ ?_
      · rintro _ h5 ⟨rfl, H6⟩
        refine Run_blk ?_
        refine Run_reg 3 (by kernel_rfl) (L' := [(0, .slice aa_ a_.length ca_), (1, .slice ab b.length cb), (5, .slice a2 x2.length c2), (6, .int .i64 (i1 + 1))]) ?_ ?_
        · refine QRun_b [.int .i64 i1] 0 _ (by kernel_rfl) (fun w => by kernel_rfl) ?_
          refine QRun_y (.int .i64 (i1 + 1)) (by kernel_rfl) (Y_eq (v := .int .i64 (w64 (i1 + 1))) (Y_pure (fun w => by kernel_rfl)) (by rw [w64_eq _ (by omega)])) ?_
          refine QRun_b [.int .i64 (i1 + 1)] 2 _ (by kernel_rfl) (fun w => by kernel_rfl) ?_
          exact QRun_done [0, 1, 5, 6] (by kernel_rfl) (by kernel_rfl)
        have hB1 := M.ret_some hB1
        have gx3 := hgoy1 _ hB1.symm
        exact Run_again [0, 1, 5, 6] (by kernel_rfl) my1 (Nat.lt_succ_self _) ⟨i1 + 1, x4.1, by omega, gx3, rfl, H6⟩
      · refine Run_block ?_
        refine Run_keep [0, 1, 5, 6, 7] (L' := [(0, .slice aa_ a_.length ca_), (1, .slice ab b.length cb), (5, .slice a2 x2.length c2), (6, .int .i64 i1), (7, .int .i64 0)]) (by kernel_rfl) ?_
        refine Run_loop (fun m L' h' => ∃ (s2 : (List (List Int)) × Int), M.loopN _ n m s2 = some x4 ∧ L' = [(0, .slice aa_ a_.length ca_), (1, .slice ab b.length cb), (5, .slice a2 x2.length c2), (6, .int .i64 i1), (7, .int .i64 s2.2)] ∧ Hold h h' [own cd23 a2 x2.length c2 s2.1]) n ⟨(s1, 0), gx4, rfl, H3⟩ ?_
        rintro my2 _ h4 ⟨s2, gx4, rfl, H5⟩
        obtain ⟨my2, y2, rfl, hB2, hgoy2, houty2⟩ := M.loop_some gx4
        refine Run_seq ?_
        refine Run_seq ?_
        obtain ⟨x5, hx3, hB2⟩ := M.bind_some hB2
        obtain ⟨hx3l, hx3u, hx3⟩ := M.idx_some hx3
        obtain ⟨a3, c3, hc2, r2⟩ := rb.row hx3
        refine Run_reg 6 (by kernel_rfl) (L' := [(0, .slice aa_ a_.length ca_), (1, .slice ab b.length cb), (5, .slice a2 x2.length c2), (6, .int .i64 i1), (7, .int .i64 s2.2), (27, .bool (decide (s2.2 < (x5.length : Int))))]) ?_ ?_
        · refine QRun_b [.int .i64 s2.2, .slice ab b.length cb] 0 _ (by kernel_rfl) (fun w => by kernel_rfl) ?_
          refine QRun_y (.pointer (some (adr ab (0 * 1)))) (by kernel_rfl) (Y_idx (t := 22) (e := 23) (sz := 1) (a := ab) (n := b.length) (cap := cb) (kk := .i64) (i := 0) (by kernel_rfl) Try.underlying22 (by kernel_rfl) ((rb.at H5.ext).cell hx3).1 hx3l hx3u) ?_
          refine QRun_y (.slice a3 x5.length c3) (by kernel_rfl) (Y_load1 (t := 23) (p := adr ab (0 * 1)) (v := .slice a3 x5.length c3) (by kernel_rfl) (fun w => by kernel_rfl) (cell_at H5.ext hc2)) ?_
          refine QRun_b [.int .i64 (x5.length : Int), .bool (decide (s2.2 < (x5.length : Int)))] 4 _ (by kernel_rfl) (fun w => by kernel_rfl) ?_
          exact QRun_done [0, 1, 5, 6, 7, 27] (by kernel_rfl) (by kernel_rfl)
        refine Run_cond (b := decide (s2.2 < (x5.length : Int))) (by kernel_rfl) (fun hb2 => ?_) (fun hb2 => ?_)
        · have hB2 := (M.ite_some hB2).1 hb2
          refine Run_skip ?_
          refine Run_seq ?_
          refine Run_block ?_
          refine Run_seq ?_
          refine Run_reg 1 (by kernel_rfl) (L' := [(0, .slice aa_ a_.length ca_), (1, .slice ab b.length cb), (5, .slice a2 x2.length c2), (6, .int .i64 i1), (7, .int .i64 s2.2), (8, .int .i64 0)]) ?_ ?_
          · refine QRun_b [.int .i64 0] 0 _ (by kernel_rfl) (fun w => by kernel_rfl) ?_
            exact QRun_done [0, 1, 5, 6, 7, 8] (by kernel_rfl) (by kernel_rfl)
          obtain ⟨x6, gx6, hB2⟩ := M.bind_some hB2
          obtain ⟨hloy3, hhiy3, gx6⟩ := M.for_start gx6
          refine Run_join (fun L' h' => L' = [(0, .slice aa_ a_.length ca_), (1, .slice ab b.length cb), (5, .slice a2 x2.length c2), (6, .int .i64 i1), (7, .int .i64 s2.2)] ∧ Hold h h' [own cd23 a2 x2.length c2 x6]) ?_ ?_
          · rintro _ h7 ⟨rfl, H8⟩
            refine Run_blk ?_
            refine Run_reg 3 (by kernel_rfl) (L' := [(0, .slice aa_ a_.length ca_), (1, .slice ab b.length cb), (5, .slice a2 x2.length c2), (6, .int .i64 i1), (7, .int .i64 (w64 (s2.2 + 1)))]) ?_ ?_
            · refine QRun_b [.int .i64 s2.2, .int .i64 (w64 (s2.2 + 1)), .int .i64 (w64 (s2.2 + 1))] 0 _ (by kernel_rfl) (fun w => by kernel_rfl) ?_
              exact QRun_done [0, 1, 5, 6, 7] (by kernel_rfl) (by kernel_rfl)
            have hB2 := M.ret_some hB2
            have gx4 := hgoy2 _ hB2.symm
            exact Run_again [0, 1, 5, 6, 7] (by kernel_rfl) my2 (Nat.lt_succ_self _) ⟨(x6, (w64 (s2.2 + 1))), gx4, rfl, H8⟩
          · refine Run_block ?_
            refine Run_keep [0, 1, 5, 6, 7, 8] (L' := [(0, .slice aa_ a_.length ca_), (1, .slice ab b.length cb), (5, .slice a2 x2.length c2), (6, .int .i64 i1), (7, .int .i64 s2.2), (8, .int .i64 0)]) (by kernel_rfl) ?_
            refine Run_loop (fun m L' h' => ∃ (i2 : Int) (s3 : (List (List Int))), 0 ≤ i2 ∧ M.forN (b.length : Int) _ _ n m i2 s3 = some x6 ∧ L' = [(0, .slice aa_ a_.length ca_), (1, .slice ab b.length cb), (5, .slice a2 x2.length c2), (6, .int .i64 i1), (7, .int .i64 s2.2), (8, .int .i64 i2)] ∧ Hold h h' [own cd23 a2 x2.length c2 s3]) ((b.length : Int) - 0 : Int).toNat ⟨0, s2.1, Int.le_refl _, gx6, rfl, H5⟩ ?_
            rintro my3 _ h6 ⟨i2, s3, hloy3', gx6, rfl, H7⟩
            refine Run_seq ?_
            refine Run_seq ?_
            refine Run_reg 4 (by kernel_rfl) (L' := [(0, .slice aa_ a_.length ca_), (1, .slice ab b.length cb), (5, .slice a2 x2.length c2), (6, .int .i64 i1), (7, .int .i64 s2.2), (8, .int .i64 i2), (33, .bool (decide (i2 < (b.length : Int))))]) ?_ ?_
            · refine QRun_b [.int .i64 i2, .slice ab b.length cb, .int .i64 (b.length : Int), .bool (decide (i2 < (b.length : Int)))] 0 _ (by kernel_rfl) (fun w => by kernel_rfl) ?_
              exact QRun_done [0, 1, 5, 6, 7, 8, 33] (by kernel_rfl) (by kernel_rfl)
            refine Run_cond (b := decide (i2 < (b.length : Int))) (by kernel_rfl) (fun hb3 => ?_) (fun hb3 => ?_)
            · obtain ⟨my3, y3, rfl, hB3, hgoy3, houty3⟩ := M.for_go gx6 hb3
              have hlty3 := of_decide_eq_true hb3
              refine Run_skip ?_
              refine Run_seq ?_
              refine Run_block ?_
              obtain ⟨x7, hx4, hB3⟩ := M.bind_some hB3
              obtain ⟨hx4l, hx4u, hx4⟩ := M.idx_some hx4
              have H9 := H7.toRows
              obtain ⟨a4, c4, H10⟩ := H9.pinRow hx4
              obtain ⟨x8, hx5, hB3⟩ := M.bind_some hB3
              obtain ⟨hx5l, hx5u, hx5⟩ := M.idx_some hx5
              obtain ⟨a5, c5, H11⟩ := H10.pinRow hx5
              obtain ⟨x9, hx6, hB3⟩ := M.bind_some hB3
              obtain ⟨hx6l, hx6u, hx6⟩ := M.idx_some hx6
              obtain ⟨x10, hx7, hB3⟩ := M.bind_some hB3
              obtain ⟨hx7l, hx7u, hx7⟩ := M.idx_some hx7
              obtain ⟨a6, c6, hc3, r3⟩ := ra_.row hx7
              obtain ⟨x11, hx8, hB3⟩ := M.bind_some hB3
              obtain ⟨hx8l, hx8u, hx8⟩ := M.idx_some hx8
              obtain ⟨x12, hx9, hB3⟩ := M.bind_some hB3
              obtain ⟨hx9l, hx9u, hx9⟩ := M.idx_some hx9
              obtain ⟨a7, c7, hc4, r4⟩ := rb.row hx9
              obtain ⟨x13, hx10, hB3⟩ := M.bind_some hB3
              obtain ⟨hx10l, hx10u, hx10⟩ := M.idx_some hx10
              obtain ⟨x14, hx11, hB3⟩ := M.bind_some hB3
              obtain ⟨x15, hx12, hB3⟩ := M.bind_some hB3
              obtain ⟨hx12l, hx12u, hx12⟩ := M.idx_some hx12
              refine Run_D (fun x => Hold h x [rowsP cd2 23 a2 x2.length c2 s3 [(i1.toNat, a5, x8.length, c5, x8), (i1.toNat, a4, x7.length, c4, x7)]]) (fun x => Hold h x [rowsP cd2 23 a2 x2.length c2 s3 [(i1.toNat, a5, x8.length, c5, x8), (i1.toNat, a4, x7.length, c4, x7)]]) mixed (by kernel_rfl) H11 Hold.stable (fun x Hy => (show Hold h x [rowsP cd2 23 a2 x2.length c2 s3 [(i1.toNat, a5, x8.length, c5, x8), (i1.toNat, a4, x7.length, c4, x7)]] from Hy).pick [0] (by kernel_rfl)) ?_
              refine DR_b 28 [.slice a2 x2.length c2, .int .i64 i1] 0 (by kernel_rfl) (by kernel_rfl) (by kernel_rfl) (fun w => by kernel_rfl) ?_
              refine DR_y 27 (i := 2) (.pointer (some (adr a2 (i1.toNat * 1)))) (by kernel_rfl) (by kernel_rfl) (by kernel_rfl) (fun hx Hx => (YE.of (Y_idx (t := 22) (e := 23) (sz := 1) (a := a2) (n := x2.length) (cap := c2) (kk := .i64) (i := i1) (by kernel_rfl) Try.underlying22 (by kernel_rfl) ((H7.rd 0 rfl).cell hx4).1 hx4l (by rw [← (H7.len 0 rfl)]; exact hx4u)))) ?_
              refine DR_y 26 (i := 3) (.slice a4 x7.length c4) (by kernel_rfl) (by kernel_rfl) (by kernel_rfl) (fun hx Hx => (YE.of (Y_load1 (t := 23) (p := adr a2 (i1.toNat * 1)) (v := .slice a4 x7.length c4) (by kernel_rfl) (fun w => by kernel_rfl) (Hx.cellPin 0 rfl 1 rfl)))) ?_
              refine DR_b 23 [.int .i64 s2.2, .slice a2 x2.length c2, .int .i64 i1] 4 (by kernel_rfl) (by kernel_rfl) (by kernel_rfl) (fun w => by kernel_rfl) ?_
              refine DR_y 22 (i := 7) (.pointer (some (adr a2 (i1.toNat * 1)))) (by kernel_rfl) (by kernel_rfl) (by kernel_rfl) (fun hx Hx => (YE.of (Y_idx (t := 22) (e := 23) (sz := 1) (a := a2) (n := x2.length) (cap := c2) (kk := .i64) (i := i1) (by kernel_rfl) Try.underlying22 (by kernel_rfl) ((H10.rdRows 0 rfl).cell hx5).1 hx5l (by rw [← (H10.lenRows 0 rfl)]; exact hx5u)))) ?_
              refine DR_y 21 (i := 8) (.slice a5 x8.length c5) (by kernel_rfl) (by kernel_rfl) (by kernel_rfl) (fun hx Hx => (YE.of (Y_load1 (t := 23) (p := adr a2 (i1.toNat * 1)) (v := .slice a5 x8.length c5) (by kernel_rfl) (fun w => by kernel_rfl) (Hx.cellPin 0 rfl 0 rfl)))) ?_
              refine DR_b 20 [.int .i64 s2.2] 9 (by kernel_rfl) (by kernel_rfl) (by kernel_rfl) (fun w => by kernel_rfl) ?_
              refine DR_y 19 (i := 10) (.pointer (some (adr a5 (s2.2.toNat * 1)))) (by kernel_rfl) (by kernel_rfl) (by kernel_rfl) (fun hx Hx => (YE.of (Y_idx (t := 23) (e := 2) (sz := 1) (a := a5) (n := x8.length) (cap := c5) (kk := .i64) (i := s2.2) (by kernel_rfl) Try.underlying23 (by kernel_rfl) ((H11.rdPin 0 rfl 0 rfl).cell hx6).1 hx6l hx6u))) ?_
              refine DR_y 18 (i := 11) (.int .i64 x9) (by kernel_rfl) (by kernel_rfl) (by kernel_rfl) (fun hx Hx => (YE.of (Y_load1 (t := 2) (p := adr a5 (s2.2.toNat * 1)) (v := .int .i64 x9) (by kernel_rfl) (fun w => by kernel_rfl) (cd2_cell (Hx.rdPin 0 rfl 0 rfl) hx6)))) ?_
              refine DR_b 16 [.slice aa_ a_.length ca_, .int .i64 i1] 12 (by kernel_rfl) (by kernel_rfl) (by kernel_rfl) (fun w => by kernel_rfl) ?_
              refine DR_y 15 (i := 14) (.pointer (some (adr aa_ (i1.toNat * 1)))) (by kernel_rfl) (by kernel_rfl) (by kernel_rfl) (fun hx Hx => (YE.of (Y_idx (t := 22) (e := 23) (sz := 1) (a := aa_) (n := a_.length) (cap := ca_) (kk := .i64) (i := i1) (by kernel_rfl) Try.underlying22 (by kernel_rfl) ((ra_.at H11.ext).cell hx7).1 hx7l hx7u))) ?_
              refine DR_y 14 (i := 15) (.slice a6 x10.length c6) (by kernel_rfl) (by kernel_rfl) (by kernel_rfl) (fun hx Hx => (YE.of (Y_load1 (t := 23) (p := adr aa_ (i1.toNat * 1)) (v := .slice a6 x10.length c6) (by kernel_rfl) (fun w => by kernel_rfl) (cell_at Hx.ext hc3)))) ?_
              refine DR_b 13 [.int .i64 i2] 16 (by kernel_rfl) (by kernel_rfl) (by kernel_rfl) (fun w => by kernel_rfl) ?_
              refine DR_y 12 (i := 17) (.pointer (some (adr a6 (i2.toNat * 1)))) (by kernel_rfl) (by kernel_rfl) (by kernel_rfl) (fun hx Hx => (YE.of (Y_idx (t := 23) (e := 2) (sz := 1) (a := a6) (n := x10.length) (cap := c6) (kk := .i64) (i := i2) (by kernel_rfl) Try.underlying23 (by kernel_rfl) ((r3.at H11.ext).cell hx8).1 hx8l hx8u))) ?_
              refine DR_y 11 (i := 18) (.int .i64 x11) (by kernel_rfl) (by kernel_rfl) (by kernel_rfl) (fun hx Hx => (YE.of (Y_load1 (t := 2) (p := adr a6 (i2.toNat * 1)) (v := .int .i64 x11) (by kernel_rfl) (fun w => by kernel_rfl) (cd2_cell (r3.at Hx.ext) hx8)))) ?_
              refine DR_b 9 [.slice ab b.length cb, .int .i64 i2] 19 (by kernel_rfl) (by kernel_rfl) (by kernel_rfl) (fun w => by kernel_rfl) ?_
              refine DR_y 8 (i := 21) (.pointer (some (adr ab (i2.toNat * 1)))) (by kernel_rfl) (by kernel_rfl) (by kernel_rfl) (fun hx Hx => (YE.of (Y_idx (t := 22) (e := 23) (sz := 1) (a := ab) (n := b.length) (cap := cb) (kk := .i64) (i := i2) (by kernel_rfl) Try.underlying22 (by kernel_rfl) ((rb.at H11.ext).cell hx9).1 hx9l hx9u))) ?_
              refine DR_y 7 (i := 22) (.slice a7 x12.length c7) (by kernel_rfl) (by kernel_rfl) (by kernel_rfl) (fun hx Hx => (YE.of (Y_load1 (t := 23) (p := adr ab (i2.toNat * 1)) (v := .slice a7 x12.length c7) (by kernel_rfl) (fun w => by kernel_rfl) (cell_at Hx.ext hc4)))) ?_
              refine DR_b 6 [.int .i64 s2.2] 23 (by kernel_rfl) (by kernel_rfl) (by kernel_rfl) (fun w => by kernel_rfl) ?_
              refine DR_y 5 (i := 24) (.pointer (some (adr a7 (s2.2.toNat * 1)))) (by kernel_rfl) (by kernel_rfl) (by kernel_rfl) (fun hx Hx => (YE.of (Y_idx (t := 23) (e := 2) (sz := 1) (a := a7) (n := x12.length) (cap := c7) (kk := .i64) (i := s2.2) (by kernel_rfl) Try.underlying23 (by kernel_rfl) ((r4.at H11.ext).cell hx10).1 hx10l hx10u))) ?_
              refine DR_y 4 (i := 25) (.int .i64 x13) (by kernel_rfl) (by kernel_rfl) (by kernel_rfl) (fun hx Hx => (YE.of (Y_load1 (t := 2) (p := adr a7 (s2.2.toNat * 1)) (v := .int .i64 x13) (by kernel_rfl) (fun w => by kernel_rfl) (cd2_cell (r4.at Hx.ext) hx10)))) ?_
              refine DR_y 3 (i := 26) (.int .i64 x14) (by kernel_rfl) (by kernel_rfl) (by kernel_rfl) (fun hx Hx => (YE.of (Y_callq (f := 81) (args := #[.int .i64 x11, .int .i64 x13]) (v := .int .i64 x14) (by kernel_rfl) (w_spec_l01Times hx x11 x13 _ _ hx11)))) ?_
              refine DR_b 2 [.int .i64 (mx x9 x14)] 27 (by kernel_rfl) (by kernel_rfl) (by kernel_rfl) (fun w => by kernel_rfl) ?_
              refine DR_y 1 (i := 28) (.pointer (some (adr a4 (s2.2.toNat * 1)))) (by kernel_rfl) (by kernel_rfl) (by kernel_rfl) (fun hx Hx => (YE.of (Y_idx (t := 23) (e := 2) (sz := 1) (a := a4) (n := x7.length) (cap := c4) (kk := .i64) (i := s2.2) (by kernel_rfl) Try.underlying23 (by kernel_rfl) ((H11.rdPin 0 rfl 1 rfl).cell hx12).1 hx12l hx12u))) ?_
              refine DR_tail (i := 29) (by kernel_rfl) (by kernel_rfl) (by kernel_rfl) (fun h8 H12 => ?_)
              have H13 : Hold h h8 [rowsP cd2 23 a2 x2.length c2 s3 [(i1.toNat, a5, x8.length, c5, x8), (i1.toNat, a4, x7.length, c4, x7)]] := H12
              obtain ⟨l1, hu1, hB3⟩ := M.bind_some hB3
              have hu1 := M.upd_some hu1
              refine Run_E (by kernel_rfl) ?_
              refine E_put2 (C := cd2) (t := 2) (sz := 1) (j := s2.2) (x := (mx x9 x14)) (v := .int .i64 (mx x9 x14)) (m2 := s3.set i1.toNat l1) H13 cd2_flat 1 rfl (by kernel_rfl) rfl (cd2_own _) (by kernel_rfl) hu1 rfl (fun h9 H14 => ?_)
              refine Run_nil (by kernel_rfl) ?_
              refine Run_keep [0, 1, 5, 6, 7, 8] (L' := [(0, .slice aa_ a_.length ca_), (1, .slice ab b.length cb), (5, .slice a2 x2.length c2), (6, .int .i64 i1), (7, .int .i64 s2.2), (8, .int .i64 i2)]) (by kernel_rfl) ?_
              refine Run_blk ?_
              refine Run_reg 3 (by kernel_rfl) (L' := [(0, .slice aa_ a_.length ca_), (1, .slice ab b.length cb), (5, .slice a2 x2.length c2), (6, .int .i64 i1), (7, .int .i64 s2.2), (8, .int .i64 (i2 + 1))]) ?_ ?_
              · refine QRun_b [.int .i64 i2] 0 _ (by kernel_rfl) (fun w => by kernel_rfl) ?_
                refine QRun_y (.int .i64 (i2 + 1)) (by kernel_rfl) (Y_eq (v := .int .i64 (w64 (i2 + 1))) (Y_pure (fun w => by kernel_rfl)) (by rw [w64_eq _ (by omega)])) ?_
                refine QRun_b [.int .i64 (i2 + 1)] 2 _ (by kernel_rfl) (fun w => by kernel_rfl) ?_
                exact QRun_done [0, 1, 5, 6, 7, 8] (by kernel_rfl) (by kernel_rfl)
              have H15 := H14.ofRows
              have hB3 := M.ret_some hB3
              have gx6 := hgoy3 _ hB3.symm
              exact Run_again [0, 1, 5, 6, 7, 8] (by kernel_rfl) my3 (Nat.lt_succ_self _) ⟨i2 + 1, (s3.set i1.toNat l1), by omega, gx6, rfl, H15⟩
            · have gx6 := M.for_end gx6 hb3
              subst gx6
              refine Run_exit (k' := _) rfl ?_
              exact Run_fall [0, 1, 5, 6, 7] (by kernel_rfl) ⟨rfl, H7⟩
        · have hB2 := (M.ite_some hB2).2 hb2
          refine Run_exit (k' := _) rfl ?_
          have hB2 := M.ret_some hB2
          have gx4 := houty2 _ hB2.symm
          subst gx4
          exact Run_fall [0, 1, 5, 6] (by kernel_rfl) ⟨rfl, H5⟩
    · have gx3 := M.for_end gx3 hb1
      subst gx3
      refine Run_exit (k' := _) rfl ?_
      exact Run_fall [5] (by kernel_rfl) ⟨rfl, H3⟩

set_option maxRecDepth 100000 in
set_option maxHeartbeats 4000000 in
theorem w_spec_l07Shift (h : Heap) (x_ : List Int) (ax_ : Option Addr) (cx_ : Nat) (rx_ : Rd cd2 h (Lt h) ax_ cx_ x_) (g : Int) (n : Nat) (r : (List Int)) (hF : spec_l07Shift x_ g n = some r) :
    Fn Try.prog 98 #[.slice ax_ x_.length cx_, .int .i64 g] h fun v h' => ∃ (a0 : Option Addr) (c0 : Nat), v = .slice a0 r.length c0 ∧ Hold h h' [own cd2 a0 r.length c0 r] := by
  unfold spec_l07Shift at hF
  refine Fn_enter (args := [.slice ax_ x_.length cx_, .int .i64 g]) Try.func98 rfl (by kernel_rfl) (by kernel_rfl) (fun w0 _ => ?_)
  have H0 := Hold.init h
  refine Run_seq ?_
  refine Run_reg 1 (by kernel_rfl) (L' := [(0, .slice ax_ x_.length cx_), (1, .int .i64 g)]) ?_ ?_
  · refine QRun_b [.slice none 0 0] 0 _ (by kernel_rfl) (fun w => by kernel_rfl) ?_
    exact QRun_done [0, 1] (by kernel_rfl) (by kernel_rfl)
  refine Run_seq ?_
  refine Run_ops ?_
  refine Run_E (by kernel_rfl) ?_
  refine E_lit (C := cd2) (n := 0) (l := ([] : List Int)) (cs := []) H0 (fun w => by kernel_rfl) (Enc.nil _ _) rfl (by decide) (fun a1 h1 H1 => ?_)
  refine Run_b [.slice a1 0 0] 1 _ (by kernel_rfl) (fun w => by kernel_rfl) ?_
  refine Run_nil (by kernel_rfl) ?_
  refine Run_keep [0, 1, 5] (L' := [(0, .slice ax_ x_.length cx_), (1, .int .i64 g), (5, .slice a1 0 0)]) (by kernel_rfl) ?_
  refine Run_seq ?_
  refine Run_seq ?_
  refine Run_reg 1 (by kernel_rfl) (L' := [(0, .slice ax_ x_.length cx_), (1, .int .i64 g), (5, .slice a1 0 0), (6, .int .i64 0)]) ?_ ?_
  · refine QRun_b [.int .i64 0] 0 _ (by kernel_rfl) (fun w => by kernel_rfl) ?_
    exact QRun_done [0, 1, 5, 6] (by kernel_rfl) (by kernel_rfl)
  obtain ⟨x1, gx1, hF⟩ := M.bind_some hF
  obtain ⟨hloy1, hhiy1, gx1⟩ := M.for_start gx1
  refine Run_join (fun L' h' => ∃ (a3 : Option Addr) (c2 : Nat), L' = [(5, .slice a3 x1.length c2)] ∧ Hold h h' [own cd2 a3 x1.length c2 x1]) ?_ ?_
  · rintro _ h3 ⟨a3, c2, rfl, H3⟩
    refine Run_seq ?_
    refine Run_reg 2 (by kernel_rfl) (L' := [(4, .slice a3 x1.length c2)]) ?_ ?_
    · refine QRun_b [.slice a3 x1.length c2, .slice a3 x1.length c2] 0 _ (by kernel_rfl) (fun w => by kernel_rfl) ?_
      exact QRun_done [4] (by kernel_rfl) (by kernel_rfl)
    have hF := M.ret_some hF
    subst hF
    exact Run_ret1 rfl (ResV_tmp (v := .slice a3 x1.length c2) (by kernel_rfl)) ⟨a3, c2, rfl, H3⟩
  · refine Run_block ?_
    have hn1 := (H1.len 0 rfl)
    have H9 : Hold h h1 [own cd2 a1 (([] : List Int).length) 0 ([] : List Int)] := by rw [hn1]; exact H1
    refine Run_keep [0, 1, 5, 6] (L' := [(0, .slice ax_ x_.length cx_), (1, .int .i64 g), (5, .slice a1 (([] : List Int).length) 0), (6, .int .i64 0)]) (by first | (rw [hn1]; kernel_rfl) | (simp only [hn1]; kernel_rfl) | kernel_rfl) ?_
    refine Run_loop (fun m L' h' => ∃ (i1 : Int) (s1 : (List Int)) (a2 : Option Addr) (c1 : Nat), 0 ≤ i1 ∧ M.forN (x_.length : Int) _ _ n m i1 s1 = some x1 ∧ L' = [(0, .slice ax_ x_.length cx_), (1, .int .i64 g), (5, .slice a2 s1.length c1), (6, .int .i64 i1)] ∧ Hold h h' [own cd2 a2 s1.length c1 s1]) ((x_.length : Int) - 0 : Int).toNat ⟨0, ([] : List Int), a1, 0, Int.le_refl _, gx1, rfl, H9⟩ ?_
    rintro my1 _ h2 ⟨i1, s1, a2, c1, hloy1', gx1, rfl, H2⟩
    refine Run_seq ?_
    refine Run_seq ?_
    refine Run_reg 4 (by kernel_rfl) (L' := [(0, .slice ax_ x_.length cx_), (1, .int .i64 g), (5, .slice a2 s1.length c1), (6, .int .i64 i1), (11, .bool (decide (i1 < (x_.length : Int))))]) ?_ ?_
    · refine QRun_b [.int .i64 i1, .slice ax_ x_.length cx_, .int .i64 (x_.length : Int), .bool (decide (i1 < (x_.length : Int)))] 0 _ (by kernel_rfl) (fun w => by kernel_rfl) ?_
      exact QRun_done [0, 1, 5, 6, 11] (by kernel_rfl) (by kernel_rfl)
    refine Run_cond (b := decide (i1 < (x_.length : Int))) (by kernel_rfl) (fun hb1 => ?_) (fun hb1 => ?_)
    · obtain ⟨my1, y1, rfl, hB1, hgoy1, houty1⟩ := M.for_go gx1 hb1
      have hlty1 := of_decide_eq_true hb1
      refine Run_skip ?_
      refine Run_seq ?_
      refine Run_block ?_
      refine Run_ops ?_
      obtain ⟨x2, hx1, hB1⟩ := M.bind_some hB1
      obtain ⟨hx1l, hx1u, hx1⟩ := M.idx_some hx1
      obtain ⟨x3, hx2, hB1⟩ := M.bind_some hB1
      refine Run_b [.slice a2 s1.length c1, .slice ax_ x_.length cx_, .int .i64 i1] 0 _ (by kernel_rfl) (fun w => by kernel_rfl) ?_
      refine Run_y (.pointer (some (adr ax_ (i1.toNat * 1)))) (by kernel_rfl) (Y_idx (t := 23) (e := 2) (sz := 1) (a := ax_) (n := x_.length) (cap := cx_) (kk := .i64) (i := i1) (by kernel_rfl) Try.underlying23 (by kernel_rfl) ((rx_.at H2.ext).cell hx1).1 hx1l hx1u) ?_
      refine Run_y (.int .i64 x2) (by kernel_rfl) (Y_load1 (t := 2) (p := adr ax_ (i1.toNat * 1)) (v := .int .i64 x2) (by kernel_rfl) (fun w => by kernel_rfl) (cd2_cell (rx_.at H2.ext) hx1)) ?_
      refine Run_b [.int .i64 g] 5 _ (by kernel_rfl) (fun w => by kernel_rfl) ?_
      refine Run_y (.int .i64 x3) (by kernel_rfl) (Y_callq (f := 81) (args := #[.int .i64 x2, .int .i64 g]) (v := .int .i64 x3) (by kernel_rfl) (w_spec_l01Times h2 x2 g _ _ hx2)) ?_
      refine Run_E (by kernel_rfl) ?_
      refine E_lit (C := cd2) (n := 1) (l := ([x3] : List Int)) (cs := [.int .i64 x3]) H2 (fun w => by kernel_rfl) (Enc.consE (cd2_own x3 _) (Enc.nil _ _) rfl) rfl (by decide) (fun a4 h4 H4 => ?_)
      obtain ⟨l1, hl1, hB1⟩ := M.bind_some hB1
      have hl1 := M.app_some hl1
      have H5 : Hold h h4 [own cd2 a2 s1.length c1 s1, own cd2 a4 1 1 ([x3] : List Int)] := H4.pick [1, 0] (by kernel_rfl)
      have H6 : Hold h h4 [own cd2 a4 1 1 ([x3] : List Int), own cd2 a2 s1.length c1 s1] := H5.pick [1, 0] (by kernel_rfl)
      have H7 : Hold h h4 [own cd2 a2 s1.length c1 s1, own cd2 a4 1 1 ([x3] : List Int)] := H6.pick [1, 0] (by kernel_rfl)
      refine Run_E (by kernel_rfl) ?_
      refine E_app (C := cd2) (t := 23) (ty := 23) (n := s1.length) (m := 1) H7 cd2_ti rfl Try.underlying23 (by decide) (by kernel_rfl) hl1 (fun a5 c3 h5 H8 => ?_)
      refine Run_b [.slice a5 l1.length c3] 9 _ (by kernel_rfl) (fun w => by kernel_rfl) ?_
      refine Run_nil (by kernel_rfl) ?_
      refine Run_keep [0, 1, 5, 6] (L' := [(0, .slice ax_ x_.length cx_), (1, .int .i64 g), (5, .slice a5 l1.length c3), (6, .int .i64 i1)]) (by kernel_rfl) ?_
      refine Run_blk ?_
      refine Run_reg 3 (by kernel_rfl) (L' := [(0, .slice ax_ x_.length cx_), (1, .int .i64 g), (5, .slice a5 l1.length c3), (6, .int .i64 (i1 + 1))]) ?_ ?_
      · refine QRun_b [.int .i64 i1] 0 _ (by kernel_rfl) (fun w => by kernel_rfl) ?_
        refine QRun_y (.int .i64 (i1 + 1)) (by kernel_rfl) (Y_eq (v := .int .i64 (w64 (i1 + 1))) (Y_pure (fun w => by kernel_rfl)) (by rw [w64_eq _ (by omega)])) ?_
        refine QRun_b [.int .i64 (i1 + 1)] 2 _ (by kernel_rfl) (fun w => by kernel_rfl) ?_
        exact QRun_done [0, 1, 5, 6] (by kernel_rfl) (by kernel_rfl)
      have hB1 := M.ret_some hB1
      have gx1 := hgoy1 _ hB1.symm
      exact Run_again [0, 1, 5, 6] (by kernel_rfl) my1 (Nat.lt_succ_self _) ⟨i1 + 1, l1, a5, c3, by omega, gx1, rfl, H8⟩
    · have gx1 := M.for_end gx1 hb1
      subst gx1
      refine Run_exit (k' := _) rfl ?_
      exact Run_fall [5] (by kernel_rfl) ⟨a2, c1, rfl, H2⟩

set_option maxRecDepth 100000 in
set_option maxHeartbeats 4000000 in
theorem w_spec_l01Same (h : Heap) (a_ : List Int) {Sa_ : Bs} (aa_ : Option Addr) (ca_ : Nat) (ra_ : Rd cd2 h Sa_ aa_ ca_ a_) (b : List Int) {Sb : Bs} (ab : Option Addr) (cb : Nat) (rb : Rd cd2 h Sb ab cb b) (n : Nat) (r : Bool) (hF : spec_l01Same a_ b n = some r) :
    Fn Try.prog 106 #[.slice aa_ a_.length ca_, .slice ab b.length cb] h fun v h' => v = .bool r ∧ h' = h := by
  unfold spec_l01Same at hF
  refine Fn_enter (args := [.slice aa_ a_.length ca_, .slice ab b.length cb]) Try.func106 rfl (by kernel_rfl) (by kernel_rfl) (fun w0 _ => ?_)
  refine Run_seq ?_
  refine Run_reg 1 (by kernel_rfl) (L' := [(0, .slice aa_ a_.length ca_), (1, .slice ab b.length cb)]) ?_ ?_
  · refine QRun_b [.bool false] 0 _ (by kernel_rfl) (fun w => by kernel_rfl) ?_
    exact QRun_done [0, 1] (by kernel_rfl) (by kernel_rfl)
  refine Run_seq ?_
  refine Run_seq ?_
  refine Run_reg 5 (by kernel_rfl) (L' := [(0, .slice aa_ a_.length ca_), (1, .slice ab b.length cb), (10, .bool ((a_.length : Int) != (b.length : Int)))]) ?_ ?_
  · refine QRun_b [.slice aa_ a_.length ca_, .int .i64 (a_.length : Int), .slice ab b.length cb, .int .i64 (b.length : Int), .bool ((a_.length : Int) != (b.length : Int))] 0 _ (by kernel_rfl) (fun w => by kernel_rfl) ?_
    exact QRun_done [0, 1, 10] (by kernel_rfl) (by kernel_rfl)
  refine Run_cond (b := (a_.length : Int) != (b.length : Int)) (by kernel_rfl) (fun hb1 => ?_) (fun hb1 => ?_)
  · have hF := (M.ite_some hF).1 hb1
    refine Run_seq ?_
    refine Run_reg 1 (by kernel_rfl) (L' := [(4, .bool false)]) ?_ ?_
    · refine QRun_b [.bool false] 0 _ (by kernel_rfl) (fun w => by kernel_rfl) ?_
      exact QRun_done [4] (by kernel_rfl) (by kernel_rfl)
    have hF := M.ret_some hF
    subst hF
    exact Run_ret1 rfl (ResV_tmp (v := .bool false) (by kernel_rfl)) ⟨rfl, rfl⟩
  · have hF := (M.ite_some hF).2 hb1
    refine Run_skip ?_
    refine Run_seq ?_
    refine Run_seq ?_
    refine Run_reg 1 (by kernel_rfl) (L' := [(0, .slice aa_ a_.length ca_), (1, .slice ab b.length cb), (5, .int .i64 0)]) ?_ ?_
    · refine QRun_b [.int .i64 0] 0 _ (by kernel_rfl) (fun w => by kernel_rfl) ?_
      exact QRun_done [0, 1, 5] (by kernel_rfl) (by kernel_rfl)
    obtain ⟨x1, gx1, hF⟩ := M.bind_some hF
    obtain ⟨hloy1, hhiy1, gx1⟩ := M.for_start gx1
    refine Run_join (fun L' h' => ∃ (s2 : Unit), x1 = .inl s2 ∧ L' = [] ∧ h = h') ?_ ?_
    · rintro _ _ ⟨s2, es2, rfl, rfl⟩
      have hF := M.cont_inl' hF es2
      refine Run_seq ?_
      refine Run_reg 1 (by kernel_rfl) (L' := [(4, .bool true)]) ?_ ?_
      · refine QRun_b [.bool true] 0 _ (by kernel_rfl) (fun w => by kernel_rfl) ?_
        exact QRun_done [4] (by kernel_rfl) (by kernel_rfl)
      have hF := M.ret_some hF
      subst hF
      exact Run_ret1 rfl (ResV_tmp (v := .bool true) (by kernel_rfl)) ⟨rfl, rfl⟩
    · refine Run_block ?_
      refine Run_keep [0, 1, 5] (L' := [(0, .slice aa_ a_.length ca_), (1, .slice ab b.length cb), (5, .int .i64 0)]) (by kernel_rfl) ?_
      refine Run_loop (fun m L' h' => ∃ (i1 : Int) (s1 : Unit), 0 ≤ i1 ∧ M.forN (a_.length : Int) _ _ n m i1 s1 = some x1 ∧ L' = [(0, .slice aa_ a_.length ca_), (1, .slice ab b.length cb), (5, .int .i64 i1)] ∧ h = h') ((a_.length : Int) - 0 : Int).toNat ⟨0, (), Int.le_refl _, gx1, rfl, rfl⟩ ?_
      rintro my1 _ _ ⟨i1, s1, hloy1', gx1, rfl, rfl⟩
      refine Run_seq ?_
      refine Run_seq ?_
      refine Run_reg 4 (by kernel_rfl) (L' := [(0, .slice aa_ a_.length ca_), (1, .slice ab b.length cb), (5, .int .i64 i1), (14, .bool (decide (i1 < (a_.length : Int))))]) ?_ ?_
      · refine QRun_b [.int .i64 i1, .slice aa_ a_.length ca_, .int .i64 (a_.length : Int), .bool (decide (i1 < (a_.length : Int)))] 0 _ (by kernel_rfl) (fun w => by kernel_rfl) ?_
        exact QRun_done [0, 1, 5, 14] (by kernel_rfl) (by kernel_rfl)
      refine Run_cond (b := decide (i1 < (a_.length : Int))) (by kernel_rfl) (fun hb2 => ?_) (fun hb2 => ?_)
      · obtain ⟨my1, y1, rfl, hB1, hgoy1, houty1⟩ := M.for_go gx1 hb2
        have hlty1 := of_decide_eq_true hb2
        refine Run_skip ?_
        refine Run_seq ?_
        refine Run_block ?_
        refine Run_seq ?_
        obtain ⟨x2, hx1, hB1⟩ := M.bind_some hB1
        obtain ⟨hx1l, hx1u, hx1⟩ := M.idx_some hx1
        obtain ⟨x3, hx2, hB1⟩ := M.bind_some hB1
        obtain ⟨hx2l, hx2u, hx2⟩ := M.idx_some hx2
        refine Run_draw 9 mixed (by kernel_rfl) (by kernel_rfl) (L' := [(0, .slice aa_ a_.length ca_), (1, .slice ab b.length cb), (5, .int .i64 i1), (25, .bool (x2 != x3))]) ?_ ?_
        · refine QRun_b [.slice aa_ a_.length ca_, .int .i64 i1] 0 _ (by kernel_rfl) (fun w => by kernel_rfl) ?_
          refine QRun_y (.pointer (some (adr aa_ (i1.toNat * 1)))) (by kernel_rfl) (Y_idx (t := 23) (e := 2) (sz := 1) (a := aa_) (n := a_.length) (cap := ca_) (kk := .i64) (i := i1) (by kernel_rfl) Try.underlying23 (by kernel_rfl) (ra_.cell hx1).1 hx1l hx1u) ?_
          refine QRun_y (.int .i64 x2) (by kernel_rfl) (Y_load1 (t := 2) (p := adr aa_ (i1.toNat * 1)) (v := .int .i64 x2) (by kernel_rfl) (fun w => by kernel_rfl) (cd2_cell ra_ hx1)) ?_
          refine QRun_b [.slice ab b.length cb, .int .i64 i1] 4 _ (by kernel_rfl) (fun w => by kernel_rfl) ?_
          refine QRun_y (.pointer (some (adr ab (i1.toNat * 1)))) (by kernel_rfl) (Y_idx (t := 23) (e := 2) (sz := 1) (a := ab) (n := b.length) (cap := cb) (kk := .i64) (i := i1) (by kernel_rfl) Try.underlying23 (by kernel_rfl) (rb.cell hx2).1 hx2l hx2u) ?_
          refine QRun_y (.int .i64 x3) (by kernel_rfl) (Y_load1 (t := 2) (p := adr ab (i1.toNat * 1)) (v := .int .i64 x3) (by kernel_rfl) (fun w => by kernel_rfl) (cd2_cell rb hx2)) ?_
          refine QRun_b [.bool (x2 != x3)] 8 _ (by kernel_rfl) (fun w => by kernel_rfl) ?_
          exact QRun_done [0, 1, 5, 25] (by kernel_rfl) (by kernel_rfl)
        refine Run_cond (b := x2 != x3) (by kernel_rfl) (fun hb3 => ?_) (fun hb3 => ?_)
        · have hB1 := (M.ite_some hB1).1 hb3
          refine Run_seq ?_
          refine Run_reg 1 (by kernel_rfl) (L' := [(4, .bool false)]) ?_ ?_
          · refine QRun_b [.bool false] 0 _ (by kernel_rfl) (fun w => by kernel_rfl) ?_
            exact QRun_done [4] (by kernel_rfl) (by kernel_rfl)
          have hB1 := M.ret_some hB1
          have gx1 := houty1 _ hB1.symm
          have hF := M.cont_inr' hF gx1
          have hF := M.ret_some hF
          subst hF
          exact Run_ret1 rfl (ResV_tmp (v := .bool false) (by kernel_rfl)) ⟨rfl, rfl⟩
        · have hB1 := (M.ite_some hB1).2 hb3
          refine Run_skip ?_
          refine Run_blk ?_
          refine Run_reg 3 (by kernel_rfl) (L' := [(0, .slice aa_ a_.length ca_), (1, .slice ab b.length cb), (5, .int .i64 (i1 + 1))]) ?_ ?_
          · refine QRun_b [.int .i64 i1] 0 _ (by kernel_rfl) (fun w => by kernel_rfl) ?_
            refine QRun_y (.int .i64 (i1 + 1)) (by kernel_rfl) (Y_eq (v := .int .i64 (w64 (i1 + 1))) (Y_pure (fun w => by kernel_rfl)) (by rw [w64_eq _ (by omega)])) ?_
            refine QRun_b [.int .i64 (i1 + 1)] 2 _ (by kernel_rfl) (fun w => by kernel_rfl) ?_
            exact QRun_done [0, 1, 5] (by kernel_rfl) (by kernel_rfl)
          have hB1 := M.ret_some hB1
          have gx1 := hgoy1 _ hB1.symm
          exact Run_again [0, 1, 5] (by kernel_rfl) my1 (Nat.lt_succ_self _) ⟨i1 + 1, (), by omega, gx1, rfl, rfl⟩
      · have gx1 := M.for_end gx1 hb2
        subst gx1
        refine Run_exit (k' := _) rfl ?_
        exact Run_fall [] (by kernel_rfl) ⟨(), rfl, rfl, rfl⟩

set_option maxRecDepth 100000 in
set_option maxHeartbeats 4000000 in
theorem w_spec_l07Gap (h : Heap) (x_ : List Int) (ax_ : Option Addr) (cx_ : Nat) (rx_ : Rd cd2 h (Lt h) ax_ cx_ x_) (y_ : List Int) (ay_ : Option Addr) (cy_ : Nat) (ry_ : Rd cd2 h (Lt h) ay_ cy_ y_) (n : Nat) (r : Int × Bool) (hF : spec_l07Gap x_ y_ n = some r) :
    Fn Try.prog 133 #[.slice ax_ x_.length cx_, .slice ay_ y_.length cy_] h fun v h' => v = .tuple #[.int .i64 r.1, .bool r.2] ∧ Hold h h' [] := by
  unfold spec_l07Gap at hF
  refine Fn_enter (args := [.slice ax_ x_.length cx_, .slice ay_ y_.length cy_]) Try.func133 rfl (by kernel_rfl) (by kernel_rfl) (fun w0 _ => ?_)
  have H0 := Hold.init h
  refine Run_seq ?_
  refine Run_reg 2 (by kernel_rfl) (L' := [(0, .slice ax_ x_.length cx_), (1, .slice ay_ y_.length cy_)]) ?_ ?_
  · refine QRun_b [.int .i64 0, .bool false] 0 _ (by kernel_rfl) (fun w => by kernel_rfl) ?_
    exact QRun_done [0, 1] (by kernel_rfl) (by kernel_rfl)
  refine Run_seq ?_
  refine Run_reg 1 (by kernel_rfl) (L' := [(0, .slice ax_ x_.length cx_), (1, .slice ay_ y_.length cy_), (6, .int .i64 0)]) ?_ ?_
  · refine QRun_b [.int .i64 0] 0 _ (by kernel_rfl) (fun w => by kernel_rfl) ?_
    exact QRun_done [0, 1, 6] (by kernel_rfl) (by kernel_rfl)
  refine Run_seq ?_
  refine Run_seq ?_
  refine Run_reg 1 (by kernel_rfl) (L' := [(0, .slice ax_ x_.length cx_), (1, .slice ay_ y_.length cy_), (6, .int .i64 0), (7, .int .i64 0)]) ?_ ?_
  · refine QRun_b [.int .i64 0] 0 _ (by kernel_rfl) (fun w => by kernel_rfl) ?_
    exact QRun_done [0, 1, 6, 7] (by kernel_rfl) (by kernel_rfl)
  obtain ⟨x1, gx1, hF⟩ := M.bind_some hF
  obtain ⟨hloy1, hhiy1, gx1⟩ := M.for_start gx1
  refine Run_join (fun L' h' => L' = [(0, .slice ax_ x_.length cx_), (1, .slice ay_ y_.length cy_), (6, .int .i64 x1)] ∧ Hold h h' []) ?_ ?_
  · rintro _ h2 ⟨rfl, H2⟩
    refine Run_seq ?_
    refine Run_ops ?_
    refine Run_b [.int .i64 x1, .slice ax_ x_.length cx_, .int .i64 x1] 0 _ (by kernel_rfl) (fun w => by kernel_rfl) ?_
    obtain ⟨x7, hx5, hF⟩ := M.bind_some hF
    refine Run_E (by kernel_rfl) ?_
    refine E_call (f := 98) (args := #[.slice ax_ x_.length cx_, .int .i64 x1]) (w_spec_l07Shift h2 x_ ax_ cx_ (rx_.at H2.ext) x1 _ _ hx5) (by kernel_rfl) (fun v1 h3 hp1 => ?_)
    obtain ⟨a1, c1, rfl, H3⟩ := hp1
    have H4 : Hold h h3 [own cd2 a1 x7.length c1 x7] := H2.call H3 rfl
    obtain ⟨x8, hx6, hF⟩ := M.bind_some hF
    refine Run_b [.slice ay_ y_.length cy_] 4 _ (by kernel_rfl) (fun w => by kernel_rfl) ?_
    refine Run_y (.bool x8) (by kernel_rfl) (Y_callq (f := 106) (args := #[.slice a1 x7.length c1, .slice ay_ y_.length cy_]) (v := .bool x8) (by kernel_rfl) (w_spec_l01Same h3 x7 a1 c1 (H4.rd 0 rfl) y_ ay_ cy_ (ry_.at H4.ext) _ _ hx6)) ?_
    refine Run_b [.int .i64 x1, .bool x8] 6 _ (by kernel_rfl) (fun w => by kernel_rfl) ?_
    refine Run_nil (by kernel_rfl) ?_
    refine Run_keep [4, 5] (L' := [(4, .int .i64 x1), (5, .bool x8)]) (by kernel_rfl) ?_
    have hF := M.ret_some hF
    subst hF
    have H5 : Hold h h3 [] := H4.pick [] (by kernel_rfl)
    exact Run_ret2 rfl (ResV_tmp (v := .int .i64 x1) (by kernel_rfl)) (ResV_tmp (v := .bool x8) (by kernel_rfl)) ⟨rfl, H5⟩
  · refine Run_block ?_
    refine Run_keep [0, 1, 6, 7] (L' := [(0, .slice ax_ x_.length cx_), (1, .slice ay_ y_.length cy_), (6, .int .i64 0), (7, .int .i64 0)]) (by kernel_rfl) ?_
    refine Run_loop (fun m L' h' => ∃ (i1 : Int) (s1 : Int), 0 ≤ i1 ∧ M.forN (x_.length : Int) _ _ n m i1 s1 = some x1 ∧ L' = [(0, .slice ax_ x_.length cx_), (1, .slice ay_ y_.length cy_), (6, .int .i64 s1), (7, .int .i64 i1)] ∧ Hold h h' []) ((x_.length : Int) - 0 : Int).toNat ⟨0, 0, Int.le_refl _, gx1, rfl, H0⟩ ?_
    rintro my1 _ h1 ⟨i1, s1, hloy1', gx1, rfl, H1⟩
    refine Run_seq ?_
    refine Run_seq ?_
    refine Run_reg 4 (by kernel_rfl) (L' := [(0, .slice ax_ x_.length cx_), (1, .slice ay_ y_.length cy_), (6, .int .i64 s1), (7, .int .i64 i1), (11, .bool (decide (i1 < (x_.length : Int))))]) ?_ ?_
    · refine QRun_b [.int .i64 i1, .slice ax_ x_.length cx_, .int .i64 (x_.length : Int), .bool (decide (i1 < (x_.length : Int)))] 0 _ (by kernel_rfl) (fun w => by kernel_rfl) ?_
      exact QRun_done [0, 1, 6, 7, 11] (by kernel_rfl) (by kernel_rfl)
    refine Run_cond (b := decide (i1 < (x_.length : Int))) (by kernel_rfl) (fun hb1 => ?_) (fun hb1 => ?_)
    · obtain ⟨my1, y1, rfl, hB1, hgoy1, houty1⟩ := M.for_go gx1 hb1
      have hlty1 := of_decide_eq_true hb1
      refine Run_skip ?_
      refine Run_seq ?_
      refine Run_block ?_
      refine Run_seq ?_
      obtain ⟨x2, hx1, hB1⟩ := M.bind_some hB1
      obtain ⟨hx1l, hx1u, hx1⟩ := M.idx_some hx1
      obtain ⟨x3, gx3, hB1⟩ := M.bind_some hB1
      refine Run_reg 12 (by kernel_rfl) (L' := [(0, .slice ax_ x_.length cx_), (1, .slice ay_ y_.length cy_), (6, .int .i64 s1), (7, .int .i64 i1), (25, .bool x3)]) ?_ ?_
      · refine QRun_b [.slice ax_ x_.length cx_, .int .i64 i1] 0 _ (by kernel_rfl) (fun w => by kernel_rfl) ?_
        refine QRun_y (.pointer (some (adr ax_ (i1.toNat * 1)))) (by kernel_rfl) (Y_idx (t := 23) (e := 2) (sz := 1) (a := ax_) (n := x_.length) (cap := cx_) (kk := .i64) (i := i1) (by kernel_rfl) Try.underlying23 (by kernel_rfl) ((rx_.at H1.ext).cell hx1).1 hx1l hx1u) ?_
        refine QRun_y (.int .i64 x2) (by kernel_rfl) (Y_load1 (t := 2) (p := adr ax_ (i1.toNat * 1)) (v := .int .i64 x2) (by kernel_rfl) (fun w => by kernel_rfl) (cd2_cell (rx_.at H1.ext) hx1)) ?_
        refine QRun_b [.bool (x2 != (-1000000000000000))] 4 _ (by kernel_rfl) (fun w => by kernel_rfl) ?_
        refine QRun_seq 12 [(0, .slice ax_ x_.length cx_), (1, .slice ay_ y_.length cy_), (6, .int .i64 s1), (7, .int .i64 i1), (25, .bool x3)] ?_ ?_
        · rcases Bool.eq_false_or_eq_true (x2 != (-1000000000000000)) with hb2 | hb2
          · refine QRun_bool (x2 != (-1000000000000000)) true (by kernel_rfl) (fun w => by kernel_rfl) hb2 ?_
            have gx3 := (M.ite_some gx3).1 hb2
            obtain ⟨x4, hx2, gx3⟩ := M.bind_some gx3
            obtain ⟨hx2l, hx2u, hx2⟩ := M.idx_some hx2
            have gx3 := M.ret_some gx3
            refine QRun_b [.slice ay_ y_.length cy_, .int .i64 i1] 6 _ (by kernel_rfl) (fun w => by kernel_rfl) ?_
            refine QRun_y (.pointer (some (adr ay_ (i1.toNat * 1)))) (by kernel_rfl) (Y_idx (t := 23) (e := 2) (sz := 1) (a := ay_) (n := y_.length) (cap := cy_) (kk := .i64) (i := i1) (by kernel_rfl) Try.underlying23 (by kernel_rfl) ((ry_.at H1.ext).cell hx2).1 hx2l hx2u) ?_
            refine QRun_y (.int .i64 x4) (by kernel_rfl) (Y_load1 (t := 2) (p := adr ay_ (i1.toNat * 1)) (v := .int .i64 x4) (by kernel_rfl) (fun w => by kernel_rfl) (cd2_cell (ry_.at H1.ext) hx2)) ?_
            refine QRun_b [.bool (x4 != (-1000000000000000))] 10 _ (by kernel_rfl) (fun w => by kernel_rfl) ?_
            refine QRun_bool (x4 != (-1000000000000000)) x3 (by kernel_rfl) (fun w => by kernel_rfl) gx3 ?_
            exact QRun_done [0, 1, 6, 7, 25] (by kernel_rfl) (by kernel_rfl)
          · refine QRun_bool (x2 != (-1000000000000000)) false (by kernel_rfl) (fun w => by kernel_rfl) hb2 ?_
            have gx3 := M.ret_some ((M.ite_some gx3).2 hb2)
            refine QRun_n (by kernel_rfl) ?_
            refine QRun_n (by kernel_rfl) ?_
            refine QRun_n (by kernel_rfl) ?_
            refine QRun_n (by kernel_rfl) ?_
            refine QRun_n (by kernel_rfl) ?_
            refine QRun_bool false x3 (by kernel_rfl) (fun w => by kernel_rfl) gx3 ?_
            exact QRun_done [0, 1, 6, 7, 25] (by kernel_rfl) (by kernel_rfl)
        exact QRun_done [0, 1, 6, 7, 25] (by kernel_rfl) (by kernel_rfl)
      refine Run_cond (b := x3) (by kernel_rfl) (fun hb3 => ?_) (fun hb3 => ?_)
      · have hB1 := (M.ite_some hB1).1 hb3
        refine Run_seq ?_
        obtain ⟨x5, hx3, hB1⟩ := M.bind_some hB1
        obtain ⟨hx3l, hx3u, hx3⟩ := M.idx_some hx3
        obtain ⟨x6, hx4, hB1⟩ := M.bind_some hB1
        obtain ⟨hx4l, hx4u, hx4⟩ := M.idx_some hx4
        refine Run_draw 10 mixed (by kernel_rfl) (by kernel_rfl) (L' := [(0, .slice ax_ x_.length cx_), (1, .slice ay_ y_.length cy_), (6, .int .i64 (w64 (x5 - x6)))]) ?_ ?_
        · refine QRun_b [.slice ay_ y_.length cy_, .int .i64 i1] 0 _ (by kernel_rfl) (fun w => by kernel_rfl) ?_
          refine QRun_y (.pointer (some (adr ay_ (i1.toNat * 1)))) (by kernel_rfl) (Y_idx (t := 23) (e := 2) (sz := 1) (a := ay_) (n := y_.length) (cap := cy_) (kk := .i64) (i := i1) (by kernel_rfl) Try.underlying23 (by kernel_rfl) ((ry_.at H1.ext).cell hx3).1 hx3l hx3u) ?_
          refine QRun_y (.int .i64 x5) (by kernel_rfl) (Y_load1 (t := 2) (p := adr ay_ (i1.toNat * 1)) (v := .int .i64 x5) (by kernel_rfl) (fun w => by kernel_rfl) (cd2_cell (ry_.at H1.ext) hx3)) ?_
          refine QRun_b [.slice ax_ x_.length cx_, .int .i64 i1] 4 _ (by kernel_rfl) (fun w => by kernel_rfl) ?_
          refine QRun_y (.pointer (some (adr ax_ (i1.toNat * 1)))) (by kernel_rfl) (Y_idx (t := 23) (e := 2) (sz := 1) (a := ax_) (n := x_.length) (cap := cx_) (kk := .i64) (i := i1) (by kernel_rfl) Try.underlying23 (by kernel_rfl) ((rx_.at H1.ext).cell hx4).1 hx4l hx4u) ?_
          refine QRun_y (.int .i64 x6) (by kernel_rfl) (Y_load1 (t := 2) (p := adr ax_ (i1.toNat * 1)) (v := .int .i64 x6) (by kernel_rfl) (fun w => by kernel_rfl) (cd2_cell (rx_.at H1.ext) hx4)) ?_
          refine QRun_b [.int .i64 (w64 (x5 - x6)), .int .i64 (w64 (x5 - x6))] 8 _ (by kernel_rfl) (fun w => by kernel_rfl) ?_
          exact QRun_done [0, 1, 6] (by kernel_rfl) (by kernel_rfl)
        refine Run_exit (k' := _) rfl ?_
        have hB1 := M.ret_some hB1
        have gx1 := houty1 _ hB1.symm
        subst gx1
        exact Run_fall [0, 1, 6] (by kernel_rfl) ⟨rfl, H1⟩
      · have hB1 := (M.ite_some hB1).2 hb3
        refine Run_skip ?_
        refine Run_blk ?_
        refine Run_reg 3 (by kernel_rfl) (L' := [(0, .slice ax_ x_.length cx_), (1, .slice ay_ y_.length cy_), (6, .int .i64 s1), (7, .int .i64 (i1 + 1))]) ?_ ?_
        · refine QRun_b [.int .i64 i1] 0 _ (by kernel_rfl) (fun w => by kernel_rfl) ?_
          refine QRun_y (.int .i64 (i1 + 1)) (by kernel_rfl) (Y_eq (v := .int .i64 (w64 (i1 + 1))) (Y_pure (fun w => by kernel_rfl)) (by rw [w64_eq _ (by omega)])) ?_
          refine QRun_b [.int .i64 (i1 + 1)] 2 _ (by kernel_rfl) (fun w => by kernel_rfl) ?_
          exact QRun_done [0, 1, 6, 7] (by kernel_rfl) (by kernel_rfl)
        have hB1 := M.ret_some hB1
        have gx1 := hgoy1 _ hB1.symm
        exact Run_again [0, 1, 6, 7] (by kernel_rfl) my1 (Nat.lt_succ_self _) ⟨i1 + 1, s1, by omega, gx1, rfl, H1⟩
    · have gx1 := M.for_end gx1 hb1
      subst gx1
      refine Run_exit (k' := _) rfl ?_
      exact Run_fall [0, 1, 6] (by kernel_rfl) ⟨rfl, H1⟩

end Go.Proofs.Ytjdcdcipilhmeaa
