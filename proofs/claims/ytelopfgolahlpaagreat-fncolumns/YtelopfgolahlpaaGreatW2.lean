/-
  Walks: each Go function, called with what reads as plain data, returns what its plain program computes.
  Conditions: None beyond the given statement.
-/
import Derived.Test.YtelopfgolahlpaaGreatW1
namespace Go.Proofs.YtelopfgolahlpaaGreat
open Go
attribute [local irreducible] setL setB opA fineI idleI fineB evB okB markB markBs readyB readyBs chainB lk rho pickL dropSlot tailOK
set_option maxRecDepth 100000
set_option maxHeartbeats 4000000
theorem w_impl_matrixBy_F_impl_transposed_1 (h : Heap) (m_ : Int) (n_ : Int) (entry0 : List (List Int)) (aentry0 : Option Addr) (centry0 : Nat) (rentry0 : Rd cd24 h (Lt h) aentry0 centry0 entry0) (bentry0 : Nat) (ventry0 : VarAt h bentry0 22 [.slice aentry0 entry0.length centry0]) (n : Nat) (r : (List (List Int))) (hF : impl_matrixBy_F_impl_transposed_1 m_ n_ entry0 n = some r) :
  Fn Tryz.prog 109 #[.int .i64 m_, .int .i64 n_, .func (.func 138) #[] #[pV bentry0]] h fun v h' => ∃ (a0 : Option Addr) (c0 : Nat), v = .slice a0 r.length c0 ∧ Hold h h' [own cd24 a0 r.length c0 r] := by
 unfold impl_matrixBy_F_impl_transposed_1 at hF
 refine Zo [.int .i64 m_, .int .i64 n_, .func (.func 138) #[] #[pV bentry0]] Tryz.func109 rfl (fun w0 _ => ?_)
 have H0 := Hold.init h
 refine Zs ?_
 refine Zq [.slice none 0 0] [0, 1, 2] [(0, .int .i64 m_), (1, .int .i64 n_), (2, .func (.func 138) #[] #[pV bentry0])] ?_
 refine Zs ?_
 refine Run_ops ?_
 refine Zr [.int .i64 m_] 0 ?_
 obtain ⟨l1, hl1, hF⟩ := M.bind_some hF
 have hl1 := M.make_some hl1
 refine Ze ?_
 refine E_make cd24 [] (kl := .i64) (kc := .i64) H0 cd24_ti Tryz.underlying22 (by decide) cd24_zero (by kernel_rfl) hl1 (fun a1 h1 H1 => ?_)
 refine Zr [.slice a1 l1.length l1.length] 2 ?_
 refine Zx ?_
 refine Zk [1, 2, 7] [(1, .int .i64 n_), (2, .func (.func 138) #[] #[pV bentry0]), (7, .slice a1 l1.length l1.length)] ?_
 refine Zs ?_
 refine Zs ?_
 refine Zq [.slice a1 l1.length l1.length, .int .i64 (l1.length : Int), .int .i64 0] [1, 2, 7, 13, 14] [(1, .int .i64 n_), (2, .func (.func 138) #[] #[pV bentry0]), (7, .slice a1 l1.length l1.length), (13, .int .i64 (l1.length : Int)), (14, .int .i64 0)] ?_
 obtain ⟨x1, gx1, hF⟩ := M.bind_some hF
 obtain ⟨hloy1, hhiy1, gx1⟩ := M.for_start gx1
 refine Run_join (fun L' h' => L' = [(7, .slice a1 l1.length l1.length)] ∧ Hold h h' [own cd24 a1 l1.length l1.length x1]) ?_ ?_
 ·rintro _ h3 ⟨rfl, H3⟩
  refine Zs ?_
  refine Zq [.slice a1 l1.length l1.length, .slice a1 l1.length l1.length] [6] [(6, .slice a1 l1.length l1.length)] ?_
  have hF := M.ret_some hF
  subst hF
  have H20 := H3.norm
  exact Run_ret1 rfl (Zt (.slice a1 l1.length l1.length)) ⟨a1, l1.length, (by simp only [(H3.len 0 rfl)]), H20⟩
 ·refine Run_block ?_
  refine Zk [1, 2, 7, 13, 14] [(1, .int .i64 n_), (2, .func (.func 138) #[] #[pV bentry0]), (7, .slice a1 l1.length l1.length), (13, .int .i64 (l1.length : Int)), (14, .int .i64 0)] ?_
  refine Run_loop (fun m L' h' => ∃ (i1 : Int) (s1 : (List (List Int))), 0 ≤ i1 ∧ M.forN (l1.length : Int) _ _ n m i1 s1 = some x1 ∧ L' = [(1, .int .i64 n_), (2, .func (.func 138) #[] #[pV bentry0]), (7, .slice a1 l1.length l1.length), (13, .int .i64 (l1.length : Int)), (14, .int .i64 i1)] ∧ Hold h h' [own cd24 a1 l1.length l1.length s1]) ((l1.length : Int) - 0 : Int).toNat ⟨0, l1, Int.le_refl _, gx1, rfl, H1⟩ ?_
  rintro my1 _ h2 ⟨i1, s1, hloy1', gx1, rfl, H2⟩
  refine Zs ?_
  refine Zq [.bool (decide (i1 < (l1.length : Int)))] [1, 2, 7, 13, 14, 15] [(1, .int .i64 n_), (2, .func (.func 138) #[] #[pV bentry0]), (7, .slice a1 l1.length l1.length), (13, .int .i64 (l1.length : Int)), (14, .int .i64 i1), (15, .bool (decide (i1 < (l1.length : Int))))] ?_
  refine Zs ?_
  refine Zc (decide (i1 < (l1.length : Int))) (fun hb1 => ?_) (fun hb1 => ?_)
  ·obtain ⟨my1, y1, rfl, hB1, hgoy1, houty1⟩ := M.for_go gx1 hb1
   have hlty1 := of_decide_eq_true hb1
   refine Run_skip ?_
   refine Zs ?_
   refine Run_block ?_
   refine Zs ?_
   refine Zq [.int .i64 i1, .int .i64 i1] [1, 2, 7, 8, 13, 14] [(1, .int .i64 n_), (2, .func (.func 138) #[] #[pV bentry0]), (7, .slice a1 l1.length l1.length), (8, .int .i64 i1), (13, .int .i64 (l1.length : Int)), (14, .int .i64 i1)] ?_
   refine Zs ?_
   refine Run_ops ?_
   refine Zr [.slice a1 l1.length l1.length, .int .i64 i1, .int .i64 n_] 0 ?_
   obtain ⟨l2, hl2, hB1⟩ := M.bind_some hB1
   have hl2 := M.make_some hl2
   refine Ze ?_
   refine E_make cd2 0 (kl := .i64) (kc := .i64) H2 cd2_ti Tryz.underlying24 (by decide) cd2_zero (by kernel_rfl) hl2 (fun a2 h4 H4 => ?_)
   obtain ⟨x2, hx1, hB1⟩ := M.bind_some hB1
   obtain ⟨hx1l, hx1u, hx1⟩ := M.idx_some hx1
   refine Zz (.pointer (some (adr a1 (i1.toNat * 1)))) (Zi 22 24 1 (a1) (l1.length) (l1.length) .i64 (i1) Tryz.underlying22 ((H4.rd 1 rfl).cell hx1).1 hx1l (by rw [← (H4.len 1 rfl)]; exact hx1u)) ?_
   obtain ⟨l3, hu1, hB1⟩ := M.bind_some hB1
   have hu1 := M.upd_some hu1
   have H6 : Hold h h4 [own cd24 a1 l1.length l1.length s1, own cd2 a2 l2.length l2.length l2] := H4.pk [1, 0]
   have H7 : Hold h h4 [own cd2 a2 l2.length l2.length l2, own cd24 a1 l1.length l1.length s1] := H6.pk [1, 0]
   have H8 : Hold h h4 [own cd24 a1 l1.length l1.length s1, own cd2 a2 l2.length l2.length l2] := H7.pk [1, 0]
   refine Ze ?_
   refine E_putRow (t := 24) (j := i1) H8 (by kernel_rfl) (by kernel_rfl) hu1 (fun h5 H5 => ?_)
   refine Zx ?_
   refine Zk [1, 2, 7, 8, 13, 14] [(1, .int .i64 n_), (2, .func (.func 138) #[] #[pV bentry0]), (7, .slice a1 l1.length l1.length), (8, .int .i64 i1), (13, .int .i64 (l1.length : Int)), (14, .int .i64 i1)] ?_
   refine Zs ?_
   obtain ⟨x3, hx2, hB1⟩ := M.bind_some hB1
   obtain ⟨hx2l, hx2u, hx2⟩ := M.idx_some hx2
   have H9 := H5.toRows
   obtain ⟨a3, c1, H10⟩ := H9.pinRow hx2
   refine Zg 6 [(1, .int .i64 n_), (2, .func (.func 138) #[] #[pV bentry0]), (7, .slice a1 l1.length l1.length), (8, .int .i64 i1), (13, .int .i64 (l1.length : Int)), (14, .int .i64 i1), (26, .int .i64 (x3.length : Int)), (27, .int .i64 0)] ?_ ?_
   ·refine Zb [.slice a1 l1.length l1.length, .int .i64 i1] 0 ?_
    refine Zy (.pointer (some (adr a1 (i1.toNat * 1)))) (Zi 22 24 1 (a1) (l1.length) (l1.length) .i64 (i1) Tryz.underlying22 ((H5.rd 0 rfl).cell hx2).1 hx2l (by rw [← (H5.len 0 rfl)]; exact hx2u)) ?_
    refine Zy (.slice a3 x3.length c1) (Zl 24 (adr a1 (i1.toNat * 1)) (.slice a3 x3.length c1) (H10.cellPin 0 rfl 0 rfl)) ?_
    refine Zb [.int .i64 (x3.length : Int), .int .i64 0] 4 ?_
    exact Zd [1, 2, 7, 8, 13, 14, 26, 27]
   obtain ⟨x4, gx4, hB1⟩ := M.bind_some hB1
   obtain ⟨hloy2, hhiy2, gx4⟩ := M.for_start gx4
   refine Run_join (fun L' h' => L' = [(1, .int .i64 n_), (2, .func (.func 138) #[] #[pV bentry0]), (7, .slice a1 l1.length l1.length), (13, .int .i64 (l1.length : Int)), (14, .int .i64 i1)] ∧ Hold h h' [own cd24 a1 l1.length l1.length x4]) ?_ ?_
   ·rintro _ h7 ⟨rfl, H12⟩
    refine Run_blk ?_
    refine Zg 2 [(1, .int .i64 n_), (2, .func (.func 138) #[] #[pV bentry0]), (7, .slice a1 l1.length l1.length), (13, .int .i64 (l1.length : Int)), (14, .int .i64 (i1 + 1))] ?_ ?_
    ·refine Zy (.int .i64 (i1 + 1)) (Y_eq (v := .int .i64 (w64 (i1 + 1))) (Y_pure (fun w => by kernel_rfl)) (by rw [w64_eq _ (by omega)])) ?_
     refine Zb [.int .i64 (i1 + 1)] 1 ?_
     exact Zd [1, 2, 7, 13, 14]
    have hB1 := M.ret_some hB1
    have gx1 := hgoy1 _ hB1.symm
    exact Za [1, 2, 7, 13, 14] my1 ⟨i1 + 1, x4, by omega, gx1, rfl, H12⟩
   ·refine Run_block ?_
    have H19 := H10.ofRows
    refine Zk [1, 2, 7, 8, 13, 14, 26, 27] [(1, .int .i64 n_), (2, .func (.func 138) #[] #[pV bentry0]), (7, .slice a1 l1.length l1.length), (8, .int .i64 i1), (13, .int .i64 (l1.length : Int)), (14, .int .i64 i1), (26, .int .i64 (x3.length : Int)), (27, .int .i64 0)] ?_
    refine Run_loop (fun m L' h' => ∃ (i2 : Int) (s2 : (List (List Int))), 0 ≤ i2 ∧ M.forN (x3.length : Int) _ _ n m i2 s2 = some x4 ∧ L' = [(1, .int .i64 n_), (2, .func (.func 138) #[] #[pV bentry0]), (7, .slice a1 l1.length l1.length), (8, .int .i64 i1), (13, .int .i64 (l1.length : Int)), (14, .int .i64 i1), (26, .int .i64 (x3.length : Int)), (27, .int .i64 i2)] ∧ Hold h h' [own cd24 a1 l1.length l1.length s2]) ((x3.length : Int) - 0 : Int).toNat ⟨0, l3, Int.le_refl _, gx4, rfl, H19⟩ ?_
    rintro my2 _ h6 ⟨i2, s2, hloy2', gx4, rfl, H11⟩
    refine Zs ?_
    refine Zq [.bool (decide (i2 < (x3.length : Int)))] [1, 2, 7, 8, 13, 14, 26, 27, 28] [(1, .int .i64 n_), (2, .func (.func 138) #[] #[pV bentry0]), (7, .slice a1 l1.length l1.length), (8, .int .i64 i1), (13, .int .i64 (l1.length : Int)), (14, .int .i64 i1), (26, .int .i64 (x3.length : Int)), (27, .int .i64 i2), (28, .bool (decide (i2 < (x3.length : Int))))] ?_
    refine Zs ?_
    refine Zc (decide (i2 < (x3.length : Int))) (fun hb2 => ?_) (fun hb2 => ?_)
    ·obtain ⟨my2, y2, rfl, hB2, hgoy2, houty2⟩ := M.for_go gx4 hb2
     have hlty2 := of_decide_eq_true hb2
     refine Run_skip ?_
     refine Zs ?_
     refine Run_block ?_
     refine Zs ?_
     refine Zq [.int .i64 i2, .int .i64 i2] [1, 2, 7, 8, 9, 13, 14, 26, 27] [(1, .int .i64 n_), (2, .func (.func 138) #[] #[pV bentry0]), (7, .slice a1 l1.length l1.length), (8, .int .i64 i1), (9, .int .i64 i2), (13, .int .i64 (l1.length : Int)), (14, .int .i64 i1), (26, .int .i64 (x3.length : Int)), (27, .int .i64 i2)] ?_
     obtain ⟨x5, hx3, hB2⟩ := M.bind_some hB2
     obtain ⟨hx3l, hx3u, hx3⟩ := M.idx_some hx3
     have H13 := H11.toRows
     obtain ⟨a4, c2, H14⟩ := H13.pinRow hx3
     obtain ⟨x6, hx4, hB2⟩ := M.bind_some hB2
     obtain ⟨x7, hx5, hB2⟩ := M.bind_some hB2
     obtain ⟨hx5l, hx5u, hx5⟩ := M.idx_some hx5
     refine Run_D (fun x => Hold h x [rowsP cd2 24 a1 l1.length l1.length s2 [(i1.toNat, a4, x5.length, c2, x5)]]) (fun x => Hold h x [rowsP cd2 24 a1 l1.length l1.length s2 [(i1.toNat, a4, x5.length, c2, x5)]]) mixed (by kernel_rfl) H14 Hold.stable (fun x Hy => (show Hold h x [rowsP cd2 24 a1 l1.length l1.length s2 [(i1.toNat, a4, x5.length, c2, x5)]] from Hy).pk [0]) ?_
     refine ZB 9 [.slice a1 l1.length l1.length, .int .i64 i1] 0 ?_
     refine ZY 8 2 (.pointer (some (adr a1 (i1.toNat * 1)))) (fun hx Hx => (YE.of (Zi 22 24 1 (a1) (l1.length) (l1.length) .i64 (i1) Tryz.underlying22 ((H11.rd 0 rfl).cell hx3).1 hx3l (by rw [← (H11.len 0 rfl)]; exact hx3u)))) ?_
     refine ZY 7 3 (.slice a4 x5.length c2) (fun hx Hx => (YE.of (Zl 24 (adr a1 (i1.toNat * 1)) (.slice a4 x5.length c2) (Hx.cellPin 0 rfl 0 rfl)))) ?_
     refine ZB 3 [.int .i64 i2, .func (.func 138) #[] #[pV bentry0], .int .i64 i1, .int .i64 i2] 4 ?_
     refine ZY 2 8 (.int .i64 x6) (fun hx Hx => (YE.of (ZQ 138 #[.int .i64 i1, .int .i64 i2, pV bentry0] (w_impl_transposed_1 hx i1 i2 entry0 aentry0 centry0 (rentry0.at Hx.ext) bentry0 (ventry0.at Hx.ext) _ _ hx4)))) ?_
     refine ZY 1 9 (.pointer (some (adr a4 (i2.toNat * 1)))) (fun hx Hx => (YE.of (Zi 24 2 1 (a4) (x5.length) (c2) .i64 (i2) Tryz.underlying24 ((H14.rdPin 0 rfl 0 rfl).cell hx5).1 hx5l hx5u))) ?_
     refine ZT 10 (fun h8 H15 => ?_)
     have H16 : Hold h h8 [rowsP cd2 24 a1 l1.length l1.length s2 [(i1.toNat, a4, x5.length, c2, x5)]] := H15
     obtain ⟨l4, hu2, hB2⟩ := M.bind_some hB2
     have hu2 := M.upd_some hu2
     refine Ze ?_
     refine E_put2 (C := cd2) (t := 2) (sz := 1) (j := i2) (x := x6) (v := .int .i64 x6) (m2 := s2.set i1.toNat l4) H16 cd2_flat 0 rfl (by kernel_rfl) rfl (cd2_own _) (by kernel_rfl) hu2 rfl (fun h9 H17 => ?_)
     refine Zx ?_
     refine Zk [1, 2, 7, 8, 13, 14, 26, 27] [(1, .int .i64 n_), (2, .func (.func 138) #[] #[pV bentry0]), (7, .slice a1 l1.length l1.length), (8, .int .i64 i1), (13, .int .i64 (l1.length : Int)), (14, .int .i64 i1), (26, .int .i64 (x3.length : Int)), (27, .int .i64 i2)] ?_
     refine Run_blk ?_
     refine Zg 2 [(1, .int .i64 n_), (2, .func (.func 138) #[] #[pV bentry0]), (7, .slice a1 l1.length l1.length), (8, .int .i64 i1), (13, .int .i64 (l1.length : Int)), (14, .int .i64 i1), (26, .int .i64 (x3.length : Int)), (27, .int .i64 (i2 + 1))] ?_ ?_
     ·refine Zy (.int .i64 (i2 + 1)) (Y_eq (v := .int .i64 (w64 (i2 + 1))) (Y_pure (fun w => by kernel_rfl)) (by rw [w64_eq _ (by omega)])) ?_
      refine Zb [.int .i64 (i2 + 1)] 1 ?_
      exact Zd [1, 2, 7, 8, 13, 14, 26, 27]
     have H18 := H17.ofRows
     have hB2 := M.ret_some hB2
     have gx4 := hgoy2 _ hB2.symm
     exact Za [1, 2, 7, 8, 13, 14, 26, 27] my2 ⟨i2 + 1, (s2.set i1.toNat l4), by omega, gx4, rfl, H18⟩
    ·have gx4 := M.for_end gx4 hb2
     subst gx4
     refine Run_exit (k' := _) rfl ?_
     exact Zf [1, 2, 7, 13, 14] ⟨rfl, H11⟩
  ·have gx1 := M.for_end gx1 hb1
   subst gx1
   refine Run_exit (k' := _) rfl ?_
   exact Zf [7] ⟨rfl, H2⟩

theorem w_impl_transposed (h : Heap) (a_ : List (List Int)) (aa_ : Option Addr) (ca_ : Nat) (ra_ : Rd cd24 h (Lt h) aa_ ca_ a_) (n : Nat) (r : (List (List Int))) (hF : impl_transposed a_ n = some r) :
  Fn Tryz.prog 95 #[.slice aa_ a_.length ca_] h fun v h' => ∃ (a0 : Option Addr) (c0 : Nat), v = .slice a0 r.length c0 ∧ Hold h h' [own cd24 a0 r.length c0 r] := by
 unfold impl_transposed at hF
 refine Zo [.slice aa_ a_.length ca_] Tryz.func95 rfl (fun w0 _ => ?_)
 have H0 := Hold.init h
 refine Zs ?_
 refine Run_ops ?_
 refine Ze ?_
 refine E_box (ty := 22) (cs := [.slice aa_ a_.length ca_]) H0 (fun w => by kernel_rfl) (fun b1 h1 H1 => ?_)
 refine Zr [.slice none 0 0] 1 ?_
 refine Zx ?_
 refine Zk [1] [(1, pV b1)] ?_
 refine Zs ?_
 obtain ⟨x1, hx1, hF⟩ := M.bind_some hF
 obtain ⟨hx1l, hx1u, hx1⟩ := M.idx_some hx1
 obtain ⟨a1, c1, hc1, r1⟩ := ra_.row hx1
 refine Run_D (fun x => Hold h x [box b1 22 [.slice aa_ a_.length ca_]]) (fun x => Hold h x [box b1 22 [.slice aa_ a_.length ca_]]) mixed (by kernel_rfl) H1 Hold.stable (fun x Hy => (show Hold h x [box b1 22 [.slice aa_ a_.length ca_]] from Hy).pk [0]) ?_
 refine ZY 8 0 (.slice aa_ a_.length ca_) (fun hx Hx => (YE.of (Zl 22 (⟨b1, 0, none⟩) (.slice aa_ a_.length ca_) (Hx.cell 0 rfl rfl)))) ?_
 refine ZY 7 1 (.pointer (some (adr aa_ (0 * 1)))) (fun hx Hx => (YE.of (Zi 22 24 1 (aa_) (a_.length) (ca_) .i64 (0) Tryz.underlying22 ((ra_.at H1.ext).cell hx1).1 hx1l hx1u))) ?_
 refine ZY 6 2 (.slice a1 x1.length c1) (fun hx Hx => (YE.of (Zl 24 (adr aa_ (0 * 1)) (.slice a1 x1.length c1) (cell_at Hx.ext hc1)))) ?_
 refine ZB 5 [.int .i64 (x1.length : Int)] 3 ?_
 refine ZY 4 4 (.slice aa_ a_.length ca_) (fun hx Hx => (YE.of (Zl 22 (⟨b1, 0, none⟩) (.slice aa_ a_.length ca_) (Hx.cell 0 rfl rfl)))) ?_
 refine ZB 2 [.int .i64 (a_.length : Int), .func (.func 138) #[] #[pV b1]] 5 ?_
 refine ZT 7 (fun h2 H2 => ?_)
 have H3 : Hold h h2 [box b1 22 [.slice aa_ a_.length ca_]] := H2
 obtain ⟨x2, hx2, hF⟩ := M.bind_some hF
 refine Ze ?_
 refine ZC 109 #[.int .i64 (x1.length : Int), .int .i64 (a_.length : Int), .func (.func 138) #[] #[pV b1]] (w_impl_matrixBy_F_impl_transposed_1 h2 (x1.length : Int) (a_.length : Int) a_ aa_ ca_ (ra_.at H3.ext) b1 (H3.var 0 rfl) _ _ hx2) (fun v1 h3 hp1 => ?_)
 obtain ⟨a2, c2, rfl, H4⟩ := hp1
 have H5 : Hold h h3 [own cd24 a2 x2.length c2 x2, box b1 22 [.slice aa_ a_.length ca_]] := H3.call H4 rfl
 refine Zr [.slice a2 x2.length c2] 8 ?_
 refine Zx ?_
 refine Zk [2] [(2, .slice a2 x2.length c2)] ?_
 have hF := M.ret_some hF
 subst hF
 have H6 : Hold h h3 [own cd24 a2 x2.length c2 x2] := H5.pk [0]
 exact Run_ret1 rfl (Zt (.slice a2 x2.length c2)) ⟨a2, c2, rfl, H6⟩

theorem w_impl_starColumn (h : Heap) (a_ : List (List Int)) (aa_ : Option Addr) (ca_ : Nat) (ra_ : Rd cd24 h (Lt h) aa_ ca_ a_) (mean : TRatio) (node : Int) (n : Nat) (r : (List Int)) (hF : impl_starColumn a_ mean node n = some r) :
  Fn Tryz.prog 56 #[.slice aa_ a_.length ca_, .agg #[.int .i64 mean.Num, .int .i64 mean.Den], .int .i64 node] h fun v h' => ∃ (a0 : Option Addr) (c0 : Nat), v = .slice a0 r.length c0 ∧ Hold h h' [own cd2 a0 r.length c0 r] := by
 unfold impl_starColumn at hF
 refine Zo [.slice aa_ a_.length ca_, .agg #[.int .i64 mean.Num, .int .i64 mean.Den], .int .i64 node] Tryz.func56 rfl (fun w0 _ => ?_)
 have H0 := Hold.init h
 refine Zs ?_
 refine Run_ops ?_
 refine Ze ?_
 refine E_box (ty := 44) (cs := [.int .i64 mean.Num, .int .i64 mean.Den]) H0 (fun w => by kernel_rfl) (fun b1 h1 H1 => ?_)
 refine Zr [.slice none 0 0] 1 ?_
 refine Zx ?_
 refine Zk [0, 2, 4] [(0, .slice aa_ a_.length ca_), (2, .int .i64 node), (4, pV b1)] ?_
 refine Zs ?_
 refine Run_ops ?_
 refine Zr [.slice aa_ a_.length ca_] 0 ?_
 refine Zz (.agg #[.int .i64 mean.Num, .int .i64 mean.Den]) (Y_loadA (t := 44) (n := 2) (p := ⟨b1, 0, none⟩) (cs := [.int .i64 mean.Num, .int .i64 mean.Den]) (by kernel_rfl) (fun w => by kernel_rfl) (by kernel_rfl) rfl (H1.cells (n := 2) (off := 0) 0 rfl rfl)) ?_
 obtain ⟨x1, hx1, hF⟩ := M.bind_some hF
 refine Ze ?_
 refine ZC 94 #[.slice aa_ a_.length ca_, .agg #[.int .i64 mean.Num, .int .i64 mean.Den]] (w_impl_shifted h1 a_ aa_ ca_ (ra_.at H1.ext) mean _ _ hx1) (fun v1 h2 hp1 => ?_)
 obtain ⟨a1, c1, rfl, H2⟩ := hp1
 have H3 : Hold h h2 [own cd24 a1 x1.length c1 x1, box b1 44 [.int .i64 mean.Num, .int .i64 mean.Den]] := H1.call H2 rfl
 obtain ⟨x2, hx2, hF⟩ := M.bind_some hF
 refine Ze ?_
 refine ZC 93 #[.slice a1 x1.length c1] (w_impl_starOf h2 x1 a1 c1 (H3.rd 0 rfl) _ _ hx2) (fun v2 h3 hp2 => ?_)
 obtain ⟨a2, c2, rfl, H4⟩ := hp2
 have H5 : Hold h h3 [own cd24 a2 x2.1.length c2 x2.1, own cd24 a1 x1.length c1 x1, box b1 44 [.int .i64 mean.Num, .int .i64 mean.Den]] := H3.call H4 rfl
 refine Zr [.tuple #[.slice a2 x2.1.length c2, .bool x2.2], .slice a2 x2.1.length c2, .bool x2.2, .slice a2 x2.1.length c2, .bool x2.2] 4 ?_
 refine Zx ?_
 refine Zk [2, 7] [(2, .int .i64 node), (7, .slice a2 x2.1.length c2)] ?_
 refine Zs ?_
 refine Run_ops ?_
 refine Zr [.slice a2 x2.1.length c2] 0 ?_
 obtain ⟨x3, hx3, hF⟩ := M.bind_some hF
 refine Ze ?_
 refine ZC 95 #[.slice a2 x2.1.length c2] (w_impl_transposed h3 x2.1 a2 c2 (H5.rd 0 rfl) _ _ hx3) (fun v3 h4 hp3 => ?_)
 obtain ⟨a3, c3, rfl, H6⟩ := hp3
 have H7 : Hold h h4 [own cd24 a3 x3.length c3 x3, own cd24 a2 x2.1.length c2 x2.1, own cd24 a1 x1.length c1 x1, box b1 44 [.int .i64 mean.Num, .int .i64 mean.Den]] := H5.call H6 rfl
 obtain ⟨x4, hx4, hF⟩ := M.bind_some hF
 obtain ⟨hx4l, hx4u, hx4⟩ := M.idx_some hx4
 obtain ⟨a4, c4, hc1, H8⟩ := H7.takeRow hx4
 refine Zr [.int .i64 node] 2 ?_
 refine Zz (.pointer (some (adr a3 (node.toNat * 1)))) (Zi 22 24 1 (a3) (x3.length) (c3) .i64 (node) Tryz.underlying22 ((H7.rd 0 rfl).cell hx4).1 hx4l hx4u) ?_
 refine Zz (.slice a4 x4.length c4) (Zl 24 (adr a3 (node.toNat * 1)) (.slice a4 x4.length c4) hc1) ?_
 refine Zr [.slice a4 x4.length c4] 5 ?_
 refine Zx ?_
 refine Zk [6] [(6, .slice a4 x4.length c4)] ?_
 have hF := M.ret_some hF
 subst hF
 have H9 : Hold h h4 [own cd2 a4 x4.length c4 x4] := H8.pk [0]
 exact Run_ret1 rfl (Zt (.slice a4 x4.length c4)) ⟨a4, c4, rfl, H9⟩

theorem w_impl_checkedMatrix_1 (h : Heap) (row : List Int) {Srow : Bs} (arow : Option Addr) (crow : Nat) (rrow : Rd cd2 h Srow arow crow row) (n : Nat) (r : Bool) (hF : impl_checkedMatrix_1 row n = some r) :
  Fn Tryz.prog 97 #[.slice arow row.length crow] h fun v h' => v = .bool r ∧ h' = h := by
 unfold impl_checkedMatrix_1 at hF
 refine Zo [.slice arow row.length crow] Tryz.func97 rfl (fun w0 _ => ?_)
 refine Zs ?_
 refine Zq [.bool false] [0] [(0, .slice arow row.length crow)] ?_
 refine Zs ?_
 obtain ⟨x1, hx1, hF⟩ := M.bind_some hF
 refine Zg 4 [(2, .bool (!x1))] ?_ ?_
 ·refine Zb [.slice arow row.length crow] 0 ?_
  refine Zy (.bool x1) (ZQ 98 #[.slice arow row.length crow] (w_impl_areValues h row arow crow rrow _ _ hx1)) ?_
  refine Zb [.bool (!x1), .bool (!x1)] 2 ?_
  exact Zd [2]
 have hF := M.ret_some hF
 subst hF
 exact Run_ret1 rfl (Zt (.bool (!x1))) ⟨rfl, rfl⟩

theorem w_slices_IndexFunc_row_F_impl_checkedMatrix_1 (h : Heap) (s_ : List (List Int)) {Ss_ : Bs} (as_ : Option Addr) (cs_ : Nat) (rs_ : Rd cd24 h Ss_ as_ cs_ s_) (n : Nat) (r : Int) (hF : slices_IndexFunc_row_F_impl_checkedMatrix_1 s_ n = some r) :
  Fn Tryz.prog 113 #[.slice as_ s_.length cs_, .func (.func 97) #[] #[]] h fun v h' => v = .int .i64 r ∧ h' = h := by
 unfold slices_IndexFunc_row_F_impl_checkedMatrix_1 at hF
 refine Zo [.slice as_ s_.length cs_, .func (.func 97) #[] #[]] Tryz.func113 rfl (fun w0 _ => ?_)
 refine Zs ?_
 refine Zq [.int .i64 0] [0, 1] [(0, .slice as_ s_.length cs_), (1, .func (.func 97) #[] #[])] ?_
 refine Zs ?_
 refine Zs ?_
 refine Zq [.slice as_ s_.length cs_, .int .i64 (s_.length : Int), .int .i64 0] [0, 1, 7, 8] [(0, .slice as_ s_.length cs_), (1, .func (.func 97) #[] #[]), (7, .int .i64 (s_.length : Int)), (8, .int .i64 0)] ?_
 obtain ⟨x1, gx1, hF⟩ := M.bind_some hF
 obtain ⟨hloy1, hhiy1, gx1⟩ := M.for_start gx1
 refine Run_join (fun L' h' => ∃ (s2 : Unit), x1 = .inl s2 ∧ L' = [] ∧ h = h') ?_ ?_
 ·rintro _ _ ⟨s2, es2, rfl, rfl⟩
  have hF := M.cont_inl' hF es2
  refine Zs ?_
  refine Zq [.int .i64 (-1)] [4] [(4, .int .i64 (-1))] ?_
  have hF := M.ret_some hF
  subst hF
  exact Run_ret1 rfl (Zt (.int .i64 (-1))) ⟨rfl, rfl⟩
 ·refine Run_block ?_
  refine Zk [0, 1, 7, 8] [(0, .slice as_ s_.length cs_), (1, .func (.func 97) #[] #[]), (7, .int .i64 (s_.length : Int)), (8, .int .i64 0)] ?_
  refine Run_loop (fun m L' h' => ∃ (i1 : Int) (s1 : Unit), 0 ≤ i1 ∧ M.forN (s_.length : Int) _ _ n m i1 s1 = some x1 ∧ L' = [(0, .slice as_ s_.length cs_), (1, .func (.func 97) #[] #[]), (7, .int .i64 (s_.length : Int)), (8, .int .i64 i1)] ∧ h = h') ((s_.length : Int) - 0 : Int).toNat ⟨0, (), Int.le_refl _, gx1, rfl, rfl⟩ ?_
  rintro my1 _ _ ⟨i1, s1, hloy1', gx1, rfl, rfl⟩
  refine Zs ?_
  refine Zq [.bool (decide (i1 < (s_.length : Int)))] [0, 1, 7, 8, 9] [(0, .slice as_ s_.length cs_), (1, .func (.func 97) #[] #[]), (7, .int .i64 (s_.length : Int)), (8, .int .i64 i1), (9, .bool (decide (i1 < (s_.length : Int))))] ?_
  refine Zs ?_
  refine Zc (decide (i1 < (s_.length : Int))) (fun hb1 => ?_) (fun hb1 => ?_)
  ·obtain ⟨my1, y1, rfl, hB1, hgoy1, houty1⟩ := M.for_go gx1 hb1
   have hlty1 := of_decide_eq_true hb1
   refine Run_skip ?_
   refine Zs ?_
   refine Run_block ?_
   refine Zs ?_
   refine Zq [.int .i64 i1, .int .i64 i1] [0, 1, 5, 7, 8] [(0, .slice as_ s_.length cs_), (1, .func (.func 97) #[] #[]), (5, .int .i64 i1), (7, .int .i64 (s_.length : Int)), (8, .int .i64 i1)] ?_
   refine Zs ?_
   obtain ⟨x2, hx1, hB1⟩ := M.bind_some hB1
   obtain ⟨hx1l, hx1u, hx1⟩ := M.idx_some hx1
   obtain ⟨a1, c1, hc1, r1⟩ := rs_.row hx1
   obtain ⟨x3, hx2, hB1⟩ := M.bind_some hB1
   refine Zg 6 [(0, .slice as_ s_.length cs_), (1, .func (.func 97) #[] #[]), (5, .int .i64 i1), (7, .int .i64 (s_.length : Int)), (8, .int .i64 i1), (16, .bool x3)] ?_ ?_
   ·refine Zb [.func (.func 97) #[] #[], .slice as_ s_.length cs_, .int .i64 i1] 0 ?_
    refine Zy (.pointer (some (adr as_ (i1.toNat * 1)))) (Zi 22 24 1 (as_) (s_.length) (cs_) .i64 (i1) Tryz.underlying22 (rs_.cell hx1).1 hx1l hx1u) ?_
    refine Zy (.slice a1 x2.length c1) (Zl 24 (adr as_ (i1.toNat * 1)) (.slice a1 x2.length c1) hc1) ?_
    refine Zy (.bool x3) (ZQ 97 #[.slice a1 x2.length c1] (w_impl_checkedMatrix_1 h x2 a1 c1 r1 _ _ hx2)) ?_
    exact Zd [0, 1, 5, 7, 8, 16]
   refine Zc (x3) (fun hb2 => ?_) (fun hb2 => ?_)
   ·have hB1 := (M.ite_some hB1).1 hb2
    refine Zs ?_
    refine Zq [.int .i64 i1, .int .i64 i1] [4] [(4, .int .i64 i1)] ?_
    have hB1 := M.ret_some hB1
    have gx1 := houty1 _ hB1.symm
    have hF := M.cont_inr' hF gx1
    have hF := M.ret_some hF
    subst hF
    exact Run_ret1 rfl (Zt (.int .i64 i1)) ⟨rfl, rfl⟩
   ·have hB1 := (M.ite_some hB1).2 hb2
    refine Run_skip ?_
    refine Run_blk ?_
    refine Zg 2 [(0, .slice as_ s_.length cs_), (1, .func (.func 97) #[] #[]), (7, .int .i64 (s_.length : Int)), (8, .int .i64 (i1 + 1))] ?_ ?_
    ·refine Zy (.int .i64 (i1 + 1)) (Y_eq (v := .int .i64 (w64 (i1 + 1))) (Y_pure (fun w => by kernel_rfl)) (by rw [w64_eq _ (by omega)])) ?_
     refine Zb [.int .i64 (i1 + 1)] 1 ?_
     exact Zd [0, 1, 7, 8]
    have hB1 := M.ret_some hB1
    have gx1 := hgoy1 _ hB1.symm
    exact Za [0, 1, 7, 8] my1 ⟨i1 + 1, (), by omega, gx1, rfl, rfl⟩
  ·have gx1 := M.for_end gx1 hb1
   subst gx1
   refine Run_exit (k' := _) rfl ?_
   exact Zf [] ⟨(), rfl, rfl, rfl⟩

theorem w_slices_ContainsFunc_row_F_impl_checkedMatrix_1 (h : Heap) (s_ : List (List Int)) {Ss_ : Bs} (as_ : Option Addr) (cs_ : Nat) (rs_ : Rd cd24 h Ss_ as_ cs_ s_) (n : Nat) (r : Bool) (hF : slices_ContainsFunc_row_F_impl_checkedMatrix_1 s_ n = some r) :
  Fn Tryz.prog 96 #[.slice as_ s_.length cs_, .func (.func 97) #[] #[]] h fun v h' => v = .bool r ∧ h' = h := by
 unfold slices_ContainsFunc_row_F_impl_checkedMatrix_1 at hF
 refine Zo [.slice as_ s_.length cs_, .func (.func 97) #[] #[]] Tryz.func96 rfl (fun w0 _ => ?_)
 refine Zs ?_
 refine Zq [.bool false] [0, 1] [(0, .slice as_ s_.length cs_), (1, .func (.func 97) #[] #[])] ?_
 refine Zs ?_
 obtain ⟨x1, hx1, hF⟩ := M.bind_some hF
 refine Zg 5 [(4, .bool (decide (0 ≤ x1)))] ?_ ?_
 ·refine Zb [.slice as_ s_.length cs_, .func (.func 97) #[] #[]] 0 ?_
  refine Zy (.int .i64 x1) (ZQ 113 #[.slice as_ s_.length cs_, .func (.func 97) #[] #[]] (w_slices_IndexFunc_row_F_impl_checkedMatrix_1 h s_ as_ cs_ rs_ _ _ hx1)) ?_
  refine Zb [.bool (decide (0 ≤ x1)), .bool (decide (0 ≤ x1))] 3 ?_
  exact Zd [4]
 have hF := M.ret_some hF
 subst hF
 exact Run_ret1 rfl (Zt (.bool (decide (0 ≤ x1)))) ⟨rfl, rfl⟩

theorem w_impl_checkedMatrix (h : Heap) (a_ : List (List Int)) (aa_ : Option Addr) (ca_ : Nat) (ra_ : Rd cd24 h (Lt h) aa_ ca_ a_) (n : Nat) (r : (List (List Int)) × Int) (hF : impl_checkedMatrix a_ n = some r) :
  Fn Tryz.prog 57 #[.slice aa_ a_.length ca_] h fun v h' => ∃ (a0 : Option Addr) (c0 : Nat), v = .tuple #[.slice a0 r.1.length c0, .int .i64 r.2] ∧ Ali a0 aa_ c0 ca_ r.1 a_ ∧ Hold h h' [] := by
 unfold impl_checkedMatrix at hF
 refine Zo [.slice aa_ a_.length ca_] Tryz.func57 rfl (fun w0 _ => ?_)
 have H0 := Hold.init h
 refine Zs ?_
 refine Zq [.slice none 0 0, .int .i64 0] [0] [(0, .slice aa_ a_.length ca_)] ?_
 refine Zs ?_
 refine Zs ?_
 obtain ⟨x1, hx1, hF⟩ := M.bind_some hF
 refine Zg 2 [(0, .slice aa_ a_.length ca_), (5, .bool x1)] ?_ ?_
 ·refine Zb [.slice aa_ a_.length ca_] 0 ?_
  refine Zy (.bool x1) (ZQ 96 #[.slice aa_ a_.length ca_, .func (.func 97) #[] #[]] (w_slices_ContainsFunc_row_F_impl_checkedMatrix_1 h a_ aa_ ca_ ra_ _ _ hx1)) ?_
  exact Zd [0, 5]
 refine Zc (x1) (fun hb1 => ?_) (fun hb1 => ?_)
 ·have hF := (M.ite_some hF).1 hb1
  refine Zs ?_
  refine Zq [.slice none 0 0, .int .i64 3] [2, 3] [(2, .slice none 0 0), (3, .int .i64 3)] ?_
  have hF := M.ret_some hF
  subst hF
  exact Run_ret2 rfl (Zt (.slice none 0 0)) (Zt (.int .i64 3)) ⟨none, 0, rfl, .inr ⟨rfl, rfl, rfl⟩, H0⟩
 ·have hF := (M.ite_some hF).2 hb1
  refine Run_skip ?_
  refine Zs ?_
  refine Zq [.slice aa_ a_.length ca_, .slice aa_ a_.length ca_, .int .i64 0] [2, 3] [(2, .slice aa_ a_.length ca_), (3, .int .i64 0)] ?_
  have hF := M.ret_some hF
  subst hF
  exact Run_ret2 rfl (Zt (.slice aa_ a_.length ca_)) (Zt (.int .i64 0)) ⟨aa_, ca_, rfl, .inl ⟨rfl, rfl, rfl⟩, H0⟩

theorem w_impl_EigenColumns (h : Heap) (a_ : List (List Int)) (aa_ : Option Addr) (ca_ : Nat) (ra_ : Rd cd24 h (Lt h) aa_ ca_ a_) (n : Nat) (r : (List (List Int)) × Int) (hF : impl_EigenColumns a_ n = some r) :
  Fn Tryz.prog 29 #[.slice aa_ a_.length ca_] h fun v h' => ∃ (a0 : Option Addr) (c0 : Nat), v = .tuple #[.slice a0 r.1.length c0, .int .i64 r.2] ∧ Hold h h' [own cd24 a0 r.1.length c0 r.1] := by
 unfold impl_EigenColumns at hF
 refine Zo [.slice aa_ a_.length ca_] Tryz.func29 rfl (fun w0 _ => ?_)
 have H0 := Hold.init h
 refine Zs ?_
 refine Zq [.slice none 0 0, .int .i64 0] [0] [(0, .slice aa_ a_.length ca_)] ?_
 refine Zs ?_
 refine Run_ops ?_
 refine Zr [.slice aa_ a_.length ca_] 0 ?_
 obtain ⟨x1, hx1, hF⟩ := M.bind_some hF
 refine Ze ?_
 refine ZC 38 #[.slice aa_ a_.length ca_] (w_impl_criticalOf h a_ aa_ ca_ ra_ _ _ hx1) (fun v1 h1 hp1 => ?_)
 obtain ⟨a1, c1, rfl, H1⟩ := hp1
 have H2 : Hold h h1 [own cd24 a1 x1.1.length c1 x1.1] := H0.call H1 rfl
 refine Zr [.tuple #[.slice a1 x1.1.length c1, .int .i64 x1.2], .slice a1 x1.1.length c1, .int .i64 x1.2, .slice a1 x1.1.length c1, .int .i64 x1.2] 2 ?_
 refine Zx ?_
 refine Zk [0, 4, 5] [(0, .slice aa_ a_.length ca_), (4, .slice a1 x1.1.length c1), (5, .int .i64 x1.2)] ?_
 refine Zs ?_
 refine Zs ?_
 refine Zq [.int .i64 x1.2, .bool (x1.2 != 0)] [0, 4, 5, 17] [(0, .slice aa_ a_.length ca_), (4, .slice a1 x1.1.length c1), (5, .int .i64 x1.2), (17, .bool (x1.2 != 0))] ?_
 refine Zc (x1.2 != 0) (fun hb1 => ?_) (fun hb1 => ?_)
 ·have hF := (M.ite_some hF).1 hb1
  refine Zs ?_
  refine Zq [.int .i64 x1.2, .slice none 0 0, .int .i64 x1.2] [2, 3] [(2, .slice none 0 0), (3, .int .i64 x1.2)] ?_
  have hF := M.ret_some hF
  subst hF
  have H3 := H2.empty cd24
  have H4 : Hold h h1 [own cd24 none 0 0 []] := H3.pk [0]
  exact Run_ret2 rfl (Zt (.slice none 0 0)) (Zt (.int .i64 x1.2)) ⟨none, 0, rfl, H4⟩
 ·have hF := (M.ite_some hF).2 hb1
  refine Run_skip ?_
  refine Zs ?_
  refine Run_ops ?_
  refine Zr [.slice aa_ a_.length ca_] 0 ?_
  obtain ⟨x2, hx2, hF⟩ := M.bind_some hF
  refine Ze ?_
  refine ZC 51 #[.slice aa_ a_.length ca_] (w_impl_cycleMean h1 a_ aa_ ca_ (ra_.at H2.ext) _ _ hx2) (fun v2 h2 hp2 => ?_)
  obtain ⟨rfl, H5⟩ := hp2
  have H6 : Hold h h2 [own cd24 a1 x1.1.length c1 x1.1] := H2.call H5 rfl
  refine Zr [.tuple #[.agg #[.int .i64 x2.1.Num, .int .i64 x2.1.Den], .bool x2.2], .agg #[.int .i64 x2.1.Num, .int .i64 x2.1.Den], .bool x2.2] 2 ?_
  refine Ze ?_
  refine E_box (ty := 44) (cs := [.int .i64 0, .int .i64 0]) H6 (fun w => by kernel_rfl) (fun b1 h3 H7 => ?_)
  refine Ze ?_
  refine ZP 44 0 [.int .i64 x2.1.Num, .int .i64 x2.1.Den] (.agg #[.int .i64 x2.1.Num, .int .i64 x2.1.Den]) H7 (fun h4 H8 => ?_)
  refine Zr [.bool x2.2] 7 ?_
  refine Zx ?_
  refine Zk [0, 4, 6] [(0, .slice aa_ a_.length ca_), (4, .slice a1 x1.1.length c1), (6, pV b1)] ?_
  refine Zs ?_
  refine Zq [.slice none 0 0] [0, 4, 6, 8] [(0, .slice aa_ a_.length ca_), (4, .slice a1 x1.1.length c1), (6, pV b1), (8, .slice none 0 0)] ?_
  refine Zs ?_
  refine Zs ?_
  refine Run_ops ?_
  refine Zr [.slice a1 x1.1.length c1] 0 ?_
  obtain ⟨x3, hx3, hF⟩ := M.bind_some hF
  refine Ze ?_
  refine ZC 40 #[.slice a1 x1.1.length c1] (w_impl_criticalComponents h4 x1.1 a1 c1 (H8.rd 1 rfl) _ _ hx3) (fun v3 h5 hp3 => ?_)
  obtain ⟨a2, c2, rfl, rV1, H9⟩ := hp3
  have H10 : Hold h h5 [box b1 44 [.int .i64 x2.1.Num, .int .i64 x2.1.Den], own cd24 a1 x1.1.length c1 x1.1] := H8.call H9 rfl
  refine Zr [.int .i64 (x3.length : Int), .int .i64 0] 2 ?_
  refine Zx ?_
  refine Zk [0, 6, 8, 25, 26, 27] [(0, .slice aa_ a_.length ca_), (6, pV b1), (8, .slice none 0 0), (25, .slice a2 x3.length c2), (26, .int .i64 (x3.length : Int)), (27, .int .i64 0)] ?_
  have rB1 := (ra_.at H10.ext)
  have vB1 := H10.var 0 rfl
  have rB2 := rV1
  have HB1 : Hold h h5 [] := H10.pk []
  obtain ⟨h, hEq⟩ : ∃ q : Heap, q = h5 := ⟨_, rfl⟩
  subst hEq
  have H11 := Hold.init h
  obtain ⟨x4, gx4, hF⟩ := M.bind_some hF
  obtain ⟨hloy1, hhiy1, gx4⟩ := M.for_start gx4
  refine Run_join (fun L' h' => ∃ (a4 : Option Addr) (c4 : Nat), L' = [(8, .slice a4 x4.length c4)] ∧ Hold h h' [own cd24 a4 x4.length c4 x4]) ?_ ?_
  ·rintro _ h7 ⟨a4, c4, rfl, H13⟩
   refine Zs ?_
   refine Run_ops ?_
   refine Zr [.slice a4 x4.length c4] 0 ?_
   obtain ⟨x8, hx7, hF⟩ := M.bind_some hF
   refine Ze ?_
   refine ZC 57 #[.slice a4 x4.length c4] (w_impl_checkedMatrix h7 x4 a4 c4 (H13.rd 0 rfl) _ _ hx7) (fun v5 h14 hp5 => ?_)
   obtain ⟨a9, c8, rfl, hd1, H27⟩ := hp5
   have H28 : Hold h h14 [own cd24 a4 x4.length c4 x4] := H13.call H27 rfl
   have H29 := H28.alias hd1
   refine Zr [.slice a9 x8.1.length c8, .int .i64 x8.2, .slice a9 x8.1.length c8, .int .i64 x8.2] 2 ?_
   refine Zx ?_
   refine Zk [2, 3] [(2, .slice a9 x8.1.length c8), (3, .int .i64 x8.2)] ?_
   have hF := M.ret_some hF
   subst hF
   exact Run_ret2 rfl (Zt (.slice a9 x8.1.length c8)) (Zt (.int .i64 x8.2)) ⟨a9, c8, rfl, (HB1.transN H29 rfl)⟩
  ·refine Run_block ?_
   have H30 := H11.empty cd24
   refine Zk [0, 6, 8, 25, 26, 27] [(0, .slice aa_ a_.length ca_), (6, pV b1), (8, .slice none 0 0), (25, .slice a2 x3.length c2), (26, .int .i64 (x3.length : Int)), (27, .int .i64 0)] ?_
   refine Run_loop (fun m L' h' => ∃ (i1 : Int) (s1 : (List (List Int))) (a3 : Option Addr) (c3 : Nat), 0 ≤ i1 ∧ M.forN (x3.length : Int) _ _ n m i1 s1 = some x4 ∧ L' = [(0, .slice aa_ a_.length ca_), (6, pV b1), (8, .slice a3 s1.length c3), (25, .slice a2 x3.length c2), (26, .int .i64 (x3.length : Int)), (27, .int .i64 i1)] ∧ Hold h h' [own cd24 a3 s1.length c3 s1]) ((x3.length : Int) - 0 : Int).toNat ⟨0, [], none, 0, Int.le_refl _, gx4, rfl, H30⟩ ?_
   rintro my1 _ h6 ⟨i1, s1, a3, c3, hloy1', gx4, rfl, H12⟩
   refine Zs ?_
   refine Zq [.bool (decide (i1 < (x3.length : Int)))] [0, 6, 8, 25, 26, 27, 28] [(0, .slice aa_ a_.length ca_), (6, pV b1), (8, .slice a3 s1.length c3), (25, .slice a2 x3.length c2), (26, .int .i64 (x3.length : Int)), (27, .int .i64 i1), (28, .bool (decide (i1 < (x3.length : Int))))] ?_
   refine Zs ?_
   refine Zc (decide (i1 < (x3.length : Int))) (fun hb2 => ?_) (fun hb2 => ?_)
   ·obtain ⟨my1, y1, rfl, hB1, hgoy1, houty1⟩ := M.for_go gx4 hb2
    have hlty1 := of_decide_eq_true hb2
    refine Run_skip ?_
    refine Zs ?_
    refine Run_block ?_
    refine Zs ?_
    obtain ⟨x5, hx4, hB1⟩ := M.bind_some hB1
    obtain ⟨hx4l, hx4u, hx4⟩ := M.idx_some hx4
    obtain ⟨a5, c5, hc1, r1⟩ := rB2.row hx4
    refine Zg 3 [(0, .slice aa_ a_.length ca_), (6, pV b1), (8, .slice a3 s1.length c3), (10, .slice a5 x5.length c5), (25, .slice a2 x3.length c2), (26, .int .i64 (x3.length : Int)), (27, .int .i64 i1)] ?_ ?_
    ·refine Zy (.pointer (some (adr a2 (i1.toNat * 1)))) (Zi 22 24 1 (a2) (x3.length) (c2) .i64 (i1) Tryz.underlying22 ((rB2.at H12.ext).cell hx4).1 hx4l hx4u) ?_
     refine Zy (.slice a5 x5.length c5) (Zl 24 (adr a2 (i1.toNat * 1)) (.slice a5 x5.length c5) (cell_at H12.ext hc1)) ?_
     refine Zb [.slice a5 x5.length c5] 2 ?_
     exact Zd [0, 6, 8, 10, 25, 26, 27]
    obtain ⟨x6, hx5, hB1⟩ := M.bind_some hB1
    obtain ⟨hx5l, hx5u, hx5⟩ := M.idx_some hx5
    refine Run_D (fun x => Hold h x [own cd24 a3 s1.length c3 s1]) (fun x => Hold h x [own cd24 a3 s1.length c3 s1]) mixed (by kernel_rfl) H12 Hold.stable (fun x Hy => (show Hold h x [own cd24 a3 s1.length c3 s1] from Hy).pk [0]) ?_
    refine ZB 8 [.slice a3 s1.length c3, .slice aa_ a_.length ca_] 0 ?_
    refine ZY 7 2 (.agg #[.int .i64 x2.1.Num, .int .i64 x2.1.Den]) (fun hx Hx => (YE.of (Y_loadA (t := 44) (n := 2) (p := ⟨b1, 0, none⟩) (cs := [.int .i64 x2.1.Num, .int .i64 x2.1.Den]) (by kernel_rfl) (fun w => by kernel_rfl) (by kernel_rfl) rfl (VarAt.cells (n := 2) (off := 0) (vB1.at Hx.ext) rfl)))) ?_
    refine ZB 6 [.slice a5 x5.length c5] 3 ?_
    refine ZY 5 4 (.pointer (some (adr a5 (0 * 1)))) (fun hx Hx => (YE.of (Zi 24 2 1 (a5) (x5.length) (c5) .i64 (0) Tryz.underlying24 ((r1.at H12.ext).cell hx5).1 hx5l hx5u))) ?_
    refine ZY 4 5 (.int .i64 x6) (fun hx Hx => (YE.of (Zl 2 (adr a5 (0 * 1)) (.int .i64 x6) (cd2_cell (r1.at Hx.ext) hx5)))) ?_
    refine ZE 3 6 (fun h8 H14 => ?_)
    have H15 : Hold h h8 [own cd24 a3 s1.length c3 s1] := H14
    obtain ⟨x7, hx6, hB1⟩ := M.bind_some hB1
    refine ZC 56 #[.slice aa_ a_.length ca_, .agg #[.int .i64 x2.1.Num, .int .i64 x2.1.Den], .int .i64 x6] (w_impl_starColumn h8 a_ aa_ ca_ (rB1.at H15.ext) x2.1 x6 _ _ hx6) (fun v4 h9 hp4 => ?_)
    obtain ⟨a6, c6, rfl, H16⟩ := hp4
    have H17 : Hold h h9 [own cd2 a6 x7.length c6 x7, own cd24 a3 s1.length c3 s1] := H15.call H16 rfl
    refine ⟨fun x => Hold h x [own cd24 a3 s1.length c3 s1], fun x => Hold h x [own cd2 a6 x7.length c6 x7, own cd24 a3 s1.length c3 s1], H17, Hold.stable, fun x Hy => (show Hold h x [own cd2 a6 x7.length c6 x7, own cd24 a3 s1.length c3 s1] from Hy).pk [1], fun x Hy => (show Hold h x [own cd24 a3 s1.length c3 s1] from Hy).pk [0], ?_⟩
    refine ZE 2 7 (fun h10 H18 => ?_)
    have H19 : Hold h h10 [own cd2 a6 x7.length c6 x7, own cd24 a3 s1.length c3 s1] := H18
    refine E_lit1 (ey := 24) (n := x7.length) H19 (fun w => by kernel_rfl) rfl (fun a7 h11 H20 => ?_)
    refine ⟨fun x => Hold h x [own cd24 a3 s1.length c3 s1, own cd24 a7 1 1 [x7]], fun x => Hold h x [own cd24 a7 1 1 [x7], own cd24 a3 s1.length c3 s1], H20, Hold.stable, fun x Hy => (show Hold h x [own cd24 a7 1 1 [x7], own cd24 a3 s1.length c3 s1] from Hy).pk [1, 0], fun x Hy => (show Hold h x [own cd24 a3 s1.length c3 s1, own cd24 a7 1 1 [x7]] from Hy).pk [0], ?_⟩
    refine ZT 8 (fun h12 H21 => ?_)
    have H22 : Hold h h12 [own cd24 a7 1 1 [x7], own cd24 a3 s1.length c3 s1] := H21
    obtain ⟨l1, hl1, hB1⟩ := M.bind_some hB1
    have hl1 := M.app_some hl1
    have H23 : Hold h h12 [own cd24 a3 s1.length c3 s1, own cd24 a7 1 1 [x7]] := H22.pk [1, 0]
    have H24 : Hold h h12 [own cd24 a7 1 1 [x7], own cd24 a3 s1.length c3 s1] := H23.pk [1, 0]
    have H25 : Hold h h12 [own cd24 a3 s1.length c3 s1, own cd24 a7 1 1 [x7]] := H24.pk [1, 0]
    refine Ze ?_
    refine E_app (C := cd24) (t := 22) (ty := 22) (n := s1.length) (m := 1) H25 cd24_ti rfl Tryz.underlying22 (by decide) (by kernel_rfl) hl1 (fun a8 c7 h13 H26 => ?_)
    refine Zr [.slice a8 l1.length c7] 9 ?_
    refine Zx ?_
    refine Zk [0, 6, 8, 25, 26, 27] [(0, .slice aa_ a_.length ca_), (6, pV b1), (8, .slice a8 l1.length c7), (25, .slice a2 x3.length c2), (26, .int .i64 (x3.length : Int)), (27, .int .i64 i1)] ?_
    refine Run_blk ?_
    refine Zg 2 [(0, .slice aa_ a_.length ca_), (6, pV b1), (8, .slice a8 l1.length c7), (25, .slice a2 x3.length c2), (26, .int .i64 (x3.length : Int)), (27, .int .i64 (i1 + 1))] ?_ ?_
    ·refine Zy (.int .i64 (i1 + 1)) (Y_eq (v := .int .i64 (w64 (i1 + 1))) (Y_pure (fun w => by kernel_rfl)) (by rw [w64_eq _ (by omega)])) ?_
     refine Zb [.int .i64 (i1 + 1)] 1 ?_
     exact Zd [0, 6, 8, 25, 26, 27]
    have hB1 := M.ret_some hB1
    have gx4 := hgoy1 _ hB1.symm
    exact Za [0, 6, 8, 25, 26, 27] my1 ⟨i1 + 1, l1, a8, c7, by omega, gx4, rfl, H26⟩
   ·have gx4 := M.for_end gx4 hb2
    subst gx4
    refine Run_exit (k' := _) rfl ?_
    exact Zf [8] ⟨a3, c3, rfl, H12⟩

theorem w_spec_l01Has (h : Heap) (list : List Int) {Slist : Bs} (alist : Option Addr) (clist : Nat) (rlist : Rd cd2 h Slist alist clist list) (x_ : Int) (n : Nat) (r : Bool) (hF : spec_l01Has list x_ n = some r) :
  Fn Tryz.prog 69 #[.slice alist list.length clist, .int .i64 x_] h fun v h' => v = .bool r ∧ h' = h := by
 unfold spec_l01Has at hF
 refine Zo [.slice alist list.length clist, .int .i64 x_] Tryz.func69 rfl (fun w0 _ => ?_)
 refine Zs ?_
 refine Zq [.bool false] [0, 1] [(0, .slice alist list.length clist), (1, .int .i64 x_)] ?_
 refine Zs ?_
 refine Zs ?_
 refine Zq [.int .i64 0] [0, 1, 5] [(0, .slice alist list.length clist), (1, .int .i64 x_), (5, .int .i64 0)] ?_
 obtain ⟨x1, gx1, hF⟩ := M.bind_some hF
 obtain ⟨hloy1, hhiy1, gx1⟩ := M.for_start gx1
 refine Run_join (fun L' h' => ∃ (s2 : Unit), x1 = .inl s2 ∧ L' = [] ∧ h = h') ?_ ?_
 ·rintro _ _ ⟨s2, es2, rfl, rfl⟩
  have hF := M.cont_inl' hF es2
  refine Zs ?_
  refine Zq [.bool false] [4] [(4, .bool false)] ?_
  have hF := M.ret_some hF
  subst hF
  exact Run_ret1 rfl (Zt (.bool false)) ⟨rfl, rfl⟩
 ·refine Run_block ?_
  refine Zk [0, 1, 5] [(0, .slice alist list.length clist), (1, .int .i64 x_), (5, .int .i64 0)] ?_
  refine Run_loop (fun m L' h' => ∃ (i1 : Int) (s1 : Unit), 0 ≤ i1 ∧ M.forN (list.length : Int) _ _ n m i1 s1 = some x1 ∧ L' = [(0, .slice alist list.length clist), (1, .int .i64 x_), (5, .int .i64 i1)] ∧ h = h') ((list.length : Int) - 0 : Int).toNat ⟨0, (), Int.le_refl _, gx1, rfl, rfl⟩ ?_
  rintro my1 _ _ ⟨i1, s1, hloy1', gx1, rfl, rfl⟩
  refine Zs ?_
  refine Zs ?_
  refine Zq [.int .i64 i1, .slice alist list.length clist, .int .i64 (list.length : Int), .bool (decide (i1 < (list.length : Int)))] [0, 1, 5, 9] [(0, .slice alist list.length clist), (1, .int .i64 x_), (5, .int .i64 i1), (9, .bool (decide (i1 < (list.length : Int))))] ?_
  refine Zc (decide (i1 < (list.length : Int))) (fun hb1 => ?_) (fun hb1 => ?_)
  ·obtain ⟨my1, y1, rfl, hB1, hgoy1, houty1⟩ := M.for_go gx1 hb1
   have hlty1 := of_decide_eq_true hb1
   refine Run_skip ?_
   refine Zs ?_
   refine Run_block ?_
   refine Zs ?_
   obtain ⟨x2, hx1, hB1⟩ := M.bind_some hB1
   obtain ⟨hx1l, hx1u, hx1⟩ := M.idx_some hx1
   refine Zg 6 [(0, .slice alist list.length clist), (1, .int .i64 x_), (5, .int .i64 i1), (17, .bool (x2 == x_))] ?_ ?_
   ·refine Zb [.slice alist list.length clist, .int .i64 i1] 0 ?_
    refine Zy (.pointer (some (adr alist (i1.toNat * 1)))) (Zi 24 2 1 (alist) (list.length) (clist) .i64 (i1) Tryz.underlying24 (rlist.cell hx1).1 hx1l hx1u) ?_
    refine Zy (.int .i64 x2) (Zl 2 (adr alist (i1.toNat * 1)) (.int .i64 x2) (cd2_cell rlist hx1)) ?_
    refine Zb [.int .i64 x_, .bool (x2 == x_)] 4 ?_
    exact Zd [0, 1, 5, 17]
   refine Zc (x2 == x_) (fun hb2 => ?_) (fun hb2 => ?_)
   ·have hB1 := (M.ite_some hB1).1 hb2
    refine Zs ?_
    refine Zq [.bool true] [4] [(4, .bool true)] ?_
    have hB1 := M.ret_some hB1
    have gx1 := houty1 _ hB1.symm
    have hF := M.cont_inr' hF gx1
    have hF := M.ret_some hF
    subst hF
    exact Run_ret1 rfl (Zt (.bool true)) ⟨rfl, rfl⟩
   ·have hB1 := (M.ite_some hB1).2 hb2
    refine Run_skip ?_
    refine Run_blk ?_
    refine Zg 3 [(0, .slice alist list.length clist), (1, .int .i64 x_), (5, .int .i64 (i1 + 1))] ?_ ?_
    ·refine Zb [.int .i64 i1] 0 ?_
     refine Zy (.int .i64 (i1 + 1)) (Y_eq (v := .int .i64 (w64 (i1 + 1))) (Y_pure (fun w => by kernel_rfl)) (by rw [w64_eq _ (by omega)])) ?_
     refine Zb [.int .i64 (i1 + 1)] 2 ?_
     exact Zd [0, 1, 5]
    have hB1 := M.ret_some hB1
    have gx1 := hgoy1 _ hB1.symm
    exact Za [0, 1, 5] my1 ⟨i1 + 1, (), by omega, gx1, rfl, rfl⟩
  ·have gx1 := M.for_end gx1 hb1
   subst gx1
   refine Run_exit (k' := _) rfl ?_
   exact Zf [] ⟨(), rfl, rfl, rfl⟩

theorem w_spec_l01Own (h : Heap) (list : List Int) (alist : Option Addr) (clist : Nat) (rlist : Rd cd2 h (Lt h) alist clist list) (n : Nat) (r : (List Int)) (hF : spec_l01Own list n = some r) :
  Fn Tryz.prog 49 #[.slice alist list.length clist] h fun v h' => ∃ (a0 : Option Addr) (c0 : Nat), v = .slice a0 r.length c0 ∧ Hold h h' [own cd2 a0 r.length c0 r] := by
 unfold spec_l01Own at hF
 refine Zo [.slice alist list.length clist] Tryz.func49 rfl (fun w0 _ => ?_)
 have H0 := Hold.init h
 refine Zs ?_
 refine Zq [.slice none 0 0] [0] [(0, .slice alist list.length clist)] ?_
 refine Zs ?_
 refine Run_ops ?_
 refine Ze ?_
 refine E_lit (C := cd2) (n := 0) (l := ([] : List Int)) (cs := []) H0 (fun w => by kernel_rfl) (Enc.nil _ _) rfl (by decide) (fun a1 h1 H1 => ?_)
 refine Zr [.slice alist list.length clist] 1 ?_
 obtain ⟨l1, hl1, hF⟩ := M.bind_some hF
 have hl1 := M.app_some hl1
 refine Ze ?_
 refine E_appR (C := cd2) (t := 24) (ty := 24) (n := 0) (m := list.length) H1 cd2_copies (rlist.at H1.ext) rfl cd2_ti rfl Tryz.underlying24 (by decide) (by kernel_rfl) hl1 (fun a2 c1 h2 H2 => ?_)
 refine Zr [.slice a2 l1.length c1] 3 ?_
 refine Zx ?_
 refine Zk [2] [(2, .slice a2 l1.length c1)] ?_
 have hF := M.ret_some hF
 subst hF
 exact Run_ret1 rfl (Zt (.slice a2 l1.length c1)) ⟨a2, c1, rfl, H2⟩

theorem w_spec_l03Grow_R (kR : Nat) : ∀ (h hE : Heap) (it : Item) (a_ : List (List Int)) (aa_ : Option Addr) (ca_ : Nat) (ra_ : Rd cd24 h (Lt h) aa_ ca_ a_) (path : List Int) (apath : Option Addr) (cpath : Nat) (weight : Int) (over : Int) (HM : Hold h hE [own cd2 apath path.length cpath path, it]) (n : Nat) (r : (List Int)) (hF : spec_l03Grow_R kR a_ path weight over n = some r),
  Fn Tryz.prog 127 #[.slice aa_ a_.length ca_, .slice apath path.length cpath, .int .i64 weight, .int .i64 over] hE fun v h' => ∃ (a0 : Option Addr) (c0 : Nat), v = .slice a0 r.length c0 ∧ Hold h h' [own cd2 a0 r.length c0 r, it] := by
 induction kR with
 | zero => intros; rename_i hF; cases hF
 | succ kR ih =>
  intro h hE it a_ aa_ ca_ ra_ path apath cpath weight over HM n r hF
  rw [show spec_l03Grow_R (kR + 1) a_ path weight over = (M.bind (M.idx path 0) (fun x1 => M.bind (M.idx path (w64 ((path.length : Int) - 1))) (fun x2 => M.bind (M.idx a_ x1) (fun x3 => M.bind (M.idx x3 x2) (fun x4 => M.bind (M.ite (x4 != (-1000000000000000)) (M.bind (M.idx a_ x1) (fun x6 => M.bind (M.idx x6 x2) (fun x7 => M.ret (decide (over < (w64 (weight + x7))))))) (M.ret false)) (fun x5 => M.ite x5 (M.ret path) (M.bind (M.forI (w64 (x1 + 1)) (a_.length : Int) (fun s => .inl s) (fun i1 => (fun (_ : Unit) => M.bind (M.idx a_ i1) (fun x9 => M.bind (M.idx x9 x2) (fun x10 => M.bind (M.ite (x10 == (-1000000000000000)) (M.ret true) (M.bind (spec_l01Has path i1) (fun x12 => M.ret x12))) (fun x11 => M.ite x11 (M.ret (.inl ())) (M.bind (M.bind (M.idx a_ i1) (fun x15 => M.bind (M.idx x15 x2) (fun x16 => M.bind (spec_l01Own path) (fun x17 => M.bind (M.app x17 ([i1] : List Int)) (fun l1 => M.bind (spec_l03Grow_R kR a_ l1 (w64 (weight + x16)) over) (fun x18 => M.ret x18)))))) (fun (s3 : (List Int)) => M.ite (decide (0 < (s3.length : Int))) (M.ret (.inr (.inr s3))) (M.ret (.inl ()))))))))) ()) (fun x8 => M.cont x8 (fun _ => M.ret ([] : List Int)) (fun r => M.ret r))))))))) from rfl] at hF
  refine Zo [.slice aa_ a_.length ca_, .slice apath path.length cpath, .int .i64 weight, .int .i64 over] Tryz.func127 rfl (fun w0 _ => ?_)
  refine Zs ?_
  refine Zq [.slice none 0 0] [0, 1, 2, 3] [(0, .slice aa_ a_.length ca_), (1, .slice apath path.length cpath), (2, .int .i64 weight), (3, .int .i64 over)] ?_
  refine Zs ?_
  obtain ⟨x1, hx1, hF⟩ := M.bind_some hF
  obtain ⟨hx1l, hx1u, hx1⟩ := M.idx_some hx1
  obtain ⟨x2, hx2, hF⟩ := M.bind_some hF
  obtain ⟨hx2l, hx2u, hx2⟩ := M.idx_some hx2
  refine Run_draw 11 mixed (by kernel_rfl) (by kernel_rfl) (L' := [(0, .slice aa_ a_.length ca_), (1, .slice apath path.length cpath), (2, .int .i64 weight), (3, .int .i64 over), (9, .int .i64 x1), (10, .int .i64 x2)]) ?_ ?_
  ·refine Zb [.slice apath path.length cpath] 0 ?_
   refine Zy (.pointer (some (adr apath (0 * 1)))) (Zi 24 2 1 (apath) (path.length) (cpath) .i64 (0) Tryz.underlying24 ((HM.rd 0 rfl).cell hx1).1 hx1l hx1u) ?_
   refine Zy (.int .i64 x1) (Zl 2 (adr apath (0 * 1)) (.int .i64 x1) (cd2_cell (HM.rd 0 rfl) hx1)) ?_
   refine Zb [.slice apath path.length cpath, .slice apath path.length cpath, .int .i64 (path.length : Int), .int .i64 (w64 ((path.length : Int) - 1))] 3 ?_
   refine Zy (.pointer (some (adr apath ((w64 ((path.length : Int) - 1)).toNat * 1)))) (Zi 24 2 1 (apath) (path.length) (cpath) .i64 (w64 ((path.length : Int) - 1)) Tryz.underlying24 ((HM.rd 0 rfl).cell hx2).1 hx2l hx2u) ?_
   refine Zy (.int .i64 x2) (Zl 2 (adr apath ((w64 ((path.length : Int) - 1)).toNat * 1)) (.int .i64 x2) (cd2_cell (HM.rd 0 rfl) hx2)) ?_
   refine Zb [.int .i64 x1, .int .i64 x2] 9 ?_
   exact Zd [0, 1, 2, 3, 9, 10]
  refine Zs ?_
  refine Zs ?_
  obtain ⟨x3, hx3, hF⟩ := M.bind_some hF
  obtain ⟨hx3l, hx3u, hx3⟩ := M.idx_some hx3
  obtain ⟨a1, c1, hc1, r1⟩ := ra_.row hx3
  obtain ⟨x4, hx4, hF⟩ := M.bind_some hF
  obtain ⟨hx4l, hx4u, hx4⟩ := M.idx_some hx4
  obtain ⟨x5, gx5, hF⟩ := M.bind_some hF
  refine Zg 21 [(0, .slice aa_ a_.length ca_), (1, .slice apath path.length cpath), (2, .int .i64 weight), (3, .int .i64 over), (9, .int .i64 x1), (10, .int .i64 x2), (42, .bool x5)] ?_ ?_
  ·refine Zb [.slice aa_ a_.length ca_, .int .i64 x1] 0 ?_
   refine Zy (.pointer (some (adr aa_ (x1.toNat * 1)))) (Zi 22 24 1 (aa_) (a_.length) (ca_) .i64 (x1) Tryz.underlying22 ((ra_.at HM.ext).cell hx3).1 hx3l hx3u) ?_
   refine Zy (.slice a1 x3.length c1) (Zl 24 (adr aa_ (x1.toNat * 1)) (.slice a1 x3.length c1) (cell_at HM.ext hc1)) ?_
   refine Zb [.int .i64 x2] 4 ?_
   refine Zy (.pointer (some (adr a1 (x2.toNat * 1)))) (Zi 24 2 1 (a1) (x3.length) (c1) .i64 (x2) Tryz.underlying24 ((r1.at HM.ext).cell hx4).1 hx4l hx4u) ?_
   refine Zy (.int .i64 x4) (Zl 2 (adr a1 (x2.toNat * 1)) (.int .i64 x4) (cd2_cell (r1.at HM.ext) hx4)) ?_
   refine Zb [.bool (x4 != (-1000000000000000))] 7 ?_
   refine QRun_seq 21 [(0, .slice aa_ a_.length ca_), (1, .slice apath path.length cpath), (2, .int .i64 weight), (3, .int .i64 over), (9, .int .i64 x1), (10, .int .i64 x2), (42, .bool x5)] ?_ ?_
   ·rcases Bool.eq_false_or_eq_true (x4 != (-1000000000000000)) with hb1 | hb1
    ·refine Zv (x4 != (-1000000000000000)) true hb1 ?_
     have gx5 := (M.ite_some gx5).1 hb1
     obtain ⟨x6, hx5, gx5⟩ := M.bind_some gx5
     obtain ⟨hx5l, hx5u, hx5⟩ := M.idx_some hx5
     obtain ⟨a2, c2, hc2, r2⟩ := ra_.row hx5
     obtain ⟨x7, hx6, gx5⟩ := M.bind_some gx5
     obtain ⟨hx6l, hx6u, hx6⟩ := M.idx_some hx6
     have gx5 := M.ret_some gx5
     refine Zb [.int .i64 weight, .slice aa_ a_.length ca_, .int .i64 x1] 9 ?_
     refine Zy (.pointer (some (adr aa_ (x1.toNat * 1)))) (Zi 22 24 1 (aa_) (a_.length) (ca_) .i64 (x1) Tryz.underlying22 ((ra_.at HM.ext).cell hx5).1 hx5l hx5u) ?_
     refine Zy (.slice a2 x6.length c2) (Zl 24 (adr aa_ (x1.toNat * 1)) (.slice a2 x6.length c2) (cell_at HM.ext hc2)) ?_
     refine Zb [.int .i64 x2] 14 ?_
     refine Zy (.pointer (some (adr a2 (x2.toNat * 1)))) (Zi 24 2 1 (a2) (x6.length) (c2) .i64 (x2) Tryz.underlying24 ((r2.at HM.ext).cell hx6).1 hx6l hx6u) ?_
     refine Zy (.int .i64 x7) (Zl 2 (adr a2 (x2.toNat * 1)) (.int .i64 x7) (cd2_cell (r2.at HM.ext) hx6)) ?_
     refine Zb [.int .i64 (w64 (weight + x7)), .int .i64 over, .bool (decide (over < (w64 (weight + x7))))] 17 ?_
     refine Zv (decide (over < (w64 (weight + x7)))) x5 gx5 ?_
     exact Zd [0, 1, 2, 3, 9, 10, 42]
    ·refine Zv (x4 != (-1000000000000000)) false hb1 ?_
     have gx5 := M.ret_some ((M.ite_some gx5).2 hb1)
     refine Zn ?_
     refine Zn ?_
     refine Zn ?_
     refine Zn ?_
     refine Zn ?_
     refine Zn ?_
     refine Zn ?_
     refine Zn ?_
     refine Zn ?_
     refine Zn ?_
     refine Zn ?_
     refine Zv false x5 gx5 ?_
     exact Zd [0, 1, 2, 3, 9, 10, 42]
   exact Zd [0, 1, 2, 3, 9, 10, 42]
  refine Zc (x5) (fun hb2 => ?_) (fun hb2 => ?_)
  ·have hF := (M.ite_some hF).1 hb2
   refine Zs ?_
   refine Zq [.slice apath path.length cpath, .slice apath path.length cpath] [8] [(8, .slice apath path.length cpath)] ?_
   have hF := M.ret_some hF
   subst hF
   exact Run_ret1 rfl (Zt (.slice apath path.length cpath)) ⟨apath, cpath, rfl, HM⟩
  ·have hF := (M.ite_some hF).2 hb2
   refine Run_skip ?_
   refine Zs ?_
   refine Zs ?_
   refine Zq [.int .i64 x1, .int .i64 (w64 (x1 + 1)), .int .i64 (w64 (x1 + 1))] [0, 1, 2, 3, 10, 11] [(0, .slice aa_ a_.length ca_), (1, .slice apath path.length cpath), (2, .int .i64 weight), (3, .int .i64 over), (10, .int .i64 x2), (11, .int .i64 (w64 (x1 + 1)))] ?_
   obtain ⟨x8, gx8, hF⟩ := M.bind_some hF
   obtain ⟨hloy1, hhiy1, gx8⟩ := M.for_start gx8
   refine Run_join (fun L' h' => ∃ (s2 : Unit), x8 = .inl s2 ∧ L' = [] ∧ Hold h h' [it]) ?_ ?_
   ·rintro _ h2 ⟨s2, es2, rfl, H2⟩
    have hF := M.cont_inl' hF es2
    refine Zs ?_
    refine Zq [.slice none 0 0] [8] [(8, .slice none 0 0)] ?_
    have hF := M.ret_some hF
    subst hF
    have H49 := H2.empty cd2
    exact Run_ret1 rfl (Zt (.slice none 0 0)) ⟨none, 0, rfl, H49⟩
   ·refine Run_block ?_
    refine Zk [0, 1, 2, 3, 10, 11] [(0, .slice aa_ a_.length ca_), (1, .slice apath path.length cpath), (2, .int .i64 weight), (3, .int .i64 over), (10, .int .i64 x2), (11, .int .i64 (w64 (x1 + 1)))] ?_
    refine Run_loop (fun m L' h' => ∃ (i1 : Int) (s1 : Unit), w64 (x1 + 1) ≤ i1 ∧ M.forN (a_.length : Int) _ _ n m i1 s1 = some x8 ∧ L' = [(0, .slice aa_ a_.length ca_), (1, .slice apath path.length cpath), (2, .int .i64 weight), (3, .int .i64 over), (10, .int .i64 x2), (11, .int .i64 i1)] ∧ Hold h h' [own cd2 apath path.length cpath path, it]) ((a_.length : Int) - (w64 (x1 + 1)) : Int).toNat ⟨w64 (x1 + 1), (), Int.le_refl _, gx8, rfl, HM⟩ ?_
    rintro my1 _ h1 ⟨i1, s1, hloy1', gx8, rfl, H1⟩
    refine Zs ?_
    refine Zs ?_
    refine Zq [.int .i64 i1, .slice aa_ a_.length ca_, .int .i64 (a_.length : Int), .bool (decide (i1 < (a_.length : Int)))] [0, 1, 2, 3, 10, 11, 49] [(0, .slice aa_ a_.length ca_), (1, .slice apath path.length cpath), (2, .int .i64 weight), (3, .int .i64 over), (10, .int .i64 x2), (11, .int .i64 i1), (49, .bool (decide (i1 < (a_.length : Int))))] ?_
    refine Zc (decide (i1 < (a_.length : Int))) (fun hb3 => ?_) (fun hb3 => ?_)
    ·obtain ⟨my1, y1, rfl, hB1, hgoy1, houty1⟩ := M.for_go gx8 hb3
     have hlty1 := of_decide_eq_true hb3
     refine Run_skip ?_
     refine Zs ?_
     refine Run_block ?_
     refine Zs ?_
     refine Zs ?_
     obtain ⟨x9, hx7, hB1⟩ := M.bind_some hB1
     obtain ⟨hx7l, hx7u, hx7⟩ := M.idx_some hx7
     obtain ⟨a3, c3, hc3, r3⟩ := ra_.row hx7
     obtain ⟨x10, hx8, hB1⟩ := M.bind_some hB1
     obtain ⟨hx8l, hx8u, hx8⟩ := M.idx_some hx8
     obtain ⟨x11, gx11, hB1⟩ := M.bind_some hB1
     refine Zg 13 [(0, .slice aa_ a_.length ca_), (1, .slice apath path.length cpath), (2, .int .i64 weight), (3, .int .i64 over), (10, .int .i64 x2), (11, .int .i64 i1), (64, .bool x11)] ?_ ?_
     ·refine Zb [.slice aa_ a_.length ca_, .int .i64 i1] 0 ?_
      refine Zy (.pointer (some (adr aa_ (i1.toNat * 1)))) (Zi 22 24 1 (aa_) (a_.length) (ca_) .i64 (i1) Tryz.underlying22 ((ra_.at H1.ext).cell hx7).1 hx7l hx7u) ?_
      refine Zy (.slice a3 x9.length c3) (Zl 24 (adr aa_ (i1.toNat * 1)) (.slice a3 x9.length c3) (cell_at H1.ext hc3)) ?_
      refine Zb [.int .i64 x2] 4 ?_
      refine Zy (.pointer (some (adr a3 (x2.toNat * 1)))) (Zi 24 2 1 (a3) (x9.length) (c3) .i64 (x2) Tryz.underlying24 ((r3.at H1.ext).cell hx8).1 hx8l hx8u) ?_
      refine Zy (.int .i64 x10) (Zl 2 (adr a3 (x2.toNat * 1)) (.int .i64 x10) (cd2_cell (r3.at H1.ext) hx8)) ?_
      refine Zb [.bool (x10 == (-1000000000000000))] 7 ?_
      refine QRun_seq 13 [(0, .slice aa_ a_.length ca_), (1, .slice apath path.length cpath), (2, .int .i64 weight), (3, .int .i64 over), (10, .int .i64 x2), (11, .int .i64 i1), (64, .bool x11)] ?_ ?_
      ·rcases Bool.eq_false_or_eq_true (x10 == (-1000000000000000)) with hb4 | hb4
       ·refine Zv (x10 == (-1000000000000000)) true hb4 ?_
        have gx11 := M.ret_some ((M.ite_some gx11).1 hb4)
        refine Zn ?_
        refine Zn ?_
        refine Zn ?_
        refine Zv true x11 gx11 ?_
        exact Zd [0, 1, 2, 3, 10, 11, 64]
       ·refine Zv (x10 == (-1000000000000000)) false hb4 ?_
        have gx11 := (M.ite_some gx11).2 hb4
        obtain ⟨x12, hx9, gx11⟩ := M.bind_some gx11
        have gx11 := M.ret_some gx11
        refine Zb [.slice apath path.length cpath, .int .i64 i1] 9 ?_
        refine Zy (.bool x12) (ZQ 69 #[.slice apath path.length cpath, .int .i64 i1] (w_spec_l01Has h1 path apath cpath (H1.rd 0 rfl) i1 _ _ hx9)) ?_
        refine Zv x12 x11 gx11 ?_
        exact Zd [0, 1, 2, 3, 10, 11, 64]
      exact Zd [0, 1, 2, 3, 10, 11, 64]
     refine Zc (x11) (fun hb5 => ?_) (fun hb5 => ?_)
     ·have hB1 := (M.ite_some hB1).1 hb5
      refine Run_exit (k' := _) rfl ?_
      refine Zg 3 [(0, .slice aa_ a_.length ca_), (1, .slice apath path.length cpath), (2, .int .i64 weight), (3, .int .i64 over), (10, .int .i64 x2), (11, .int .i64 (i1 + 1))] ?_ ?_
      ·refine Zb [.int .i64 i1] 0 ?_
       refine Zy (.int .i64 (i1 + 1)) (Y_eq (v := .int .i64 (w64 (i1 + 1))) (Y_pure (fun w => by kernel_rfl)) (by rw [w64_eq _ (by omega)])) ?_
       refine Zb [.int .i64 (i1 + 1)] 2 ?_
       exact Zd [0, 1, 2, 3, 10, 11]
      have hB1 := M.ret_some hB1
      have gx8 := hgoy1 _ hB1.symm
      exact Za [0, 1, 2, 3, 10, 11] my1 ⟨i1 + 1, (), by omega, gx8, rfl, H1⟩
     ·have hB1 := (M.ite_some hB1).2 hb5
      refine Run_skip ?_
      refine Zs ?_
      obtain ⟨s3, gs3, hB1⟩ := M.bind_some hB1
      refine Run_join (fun L' h' => ∃ (a14 : Option Addr), ∃ (c12 : Nat), L' = [(0, .slice aa_ a_.length ca_), (1, .slice apath path.length cpath), (2, .int .i64 weight), (3, .int .i64 over), (10, .int .i64 x2), (11, .int .i64 i1), (12, .slice a14 s3.length c12)] ∧ Hold h h' [own cd2 apath path.length cpath path, own cd2 a14 s3.length c12 s3, it]) ?_ ?_
      ·rintro _ h19 ⟨a14, c12, rfl, H38⟩
       refine Zs ?_
       refine Zq [.slice a14 s3.length c12, .int .i64 (s3.length : Int), .bool (decide (0 < (s3.length : Int)))] [0, 1, 2, 3, 10, 11, 12, 84] [(0, .slice aa_ a_.length ca_), (1, .slice apath path.length cpath), (2, .int .i64 weight), (3, .int .i64 over), (10, .int .i64 x2), (11, .int .i64 i1), (12, .slice a14 s3.length c12), (84, .bool (decide (0 < (s3.length : Int))))] ?_
       refine Zc (decide (0 < (s3.length : Int))) (fun hb6 => ?_) (fun hb6 => ?_)
       ·have hB1 := (M.ite_some hB1).1 hb6
        refine Zs ?_
        refine Zq [.slice a14 s3.length c12, .slice a14 s3.length c12] [8] [(8, .slice a14 s3.length c12)] ?_
        have hB1 := M.ret_some hB1
        have gx8 := houty1 _ hB1.symm
        have hF := M.cont_inr' hF gx8
        have hF := M.ret_some hF
        subst hF
        have H45 : Hold h h19 [own cd2 a14 s3.length c12 s3, own cd2 apath path.length cpath path, it] := H38.pk [1, 0, 2]
        have H46 : Hold h h19 [own cd2 a14 s3.length c12 s3, it] := H45.pk [0, 2]
        exact Run_ret1 rfl (Zt (.slice a14 s3.length c12)) ⟨a14, c12, rfl, H46⟩
       ·have hB1 := (M.ite_some hB1).2 hb6
        refine Run_skip ?_
        refine Run_blk ?_
        refine Zg 3 [(0, .slice aa_ a_.length ca_), (1, .slice apath path.length cpath), (2, .int .i64 weight), (3, .int .i64 over), (10, .int .i64 x2), (11, .int .i64 (i1 + 1))] ?_ ?_
        ·refine Zb [.int .i64 i1] 0 ?_
         refine Zy (.int .i64 (i1 + 1)) (Y_eq (v := .int .i64 (w64 (i1 + 1))) (Y_pure (fun w => by kernel_rfl)) (by rw [w64_eq _ (by omega)])) ?_
         refine Zb [.int .i64 (i1 + 1)] 2 ?_
         exact Zd [0, 1, 2, 3, 10, 11]
        have H47 : Hold h h19 [own cd2 apath path.length cpath path, it] := H38.pk [0, 2]
        have hB1 := M.ret_some hB1
        have gx8 := hgoy1 _ hB1.symm
        exact Za [0, 1, 2, 3, 10, 11] my1 ⟨i1 + 1, (), by omega, gx8, rfl, H47⟩
      ·obtain ⟨x15, hx12, gs3⟩ := M.bind_some gs3
       obtain ⟨hx12l, hx12u, hx12⟩ := M.idx_some hx12
       obtain ⟨a5, c5, hc5, r5⟩ := ra_.row hx12
       obtain ⟨x16, hx13, gs3⟩ := M.bind_some gs3
       obtain ⟨hx13l, hx13u, hx13⟩ := M.idx_some hx13
       refine Run_D (fun x => Hold h x [own cd2 apath path.length cpath path, it]) (fun x => Hold h x [own cd2 apath path.length cpath path, it]) mixed (by kernel_rfl) H1 Hold.stable (fun x Hy => (show Hold h x [own cd2 apath path.length cpath path, it] from Hy).pk [0, 1]) ?_
       refine ZB 16 [.slice aa_ a_.length ca_, .slice apath path.length cpath] 0 ?_
       refine ZB 15 [.int .i64 i1] 3 ?_
       refine ZB 12 [.int .i64 weight, .slice aa_ a_.length ca_, .int .i64 i1] 6 ?_
       refine ZY 11 9 (.pointer (some (adr aa_ (i1.toNat * 1)))) (fun hx Hx => (YE.of (Zi 22 24 1 (aa_) (a_.length) (ca_) .i64 (i1) Tryz.underlying22 ((ra_.at H1.ext).cell hx12).1 hx12l hx12u))) ?_
       refine ZY 10 10 (.slice a5 x15.length c5) (fun hx Hx => (YE.of (Zl 24 (adr aa_ (i1.toNat * 1)) (.slice a5 x15.length c5) (cell_at Hx.ext hc5)))) ?_
       refine ZB 9 [.int .i64 x2] 11 ?_
       refine ZY 8 12 (.pointer (some (adr a5 (x2.toNat * 1)))) (fun hx Hx => (YE.of (Zi 24 2 1 (a5) (x15.length) (c5) .i64 (x2) Tryz.underlying24 ((r5.at H1.ext).cell hx13).1 hx13l hx13u))) ?_
       refine ZY 7 13 (.int .i64 x16) (fun hx Hx => (YE.of (Zl 2 (adr a5 (x2.toNat * 1)) (.int .i64 x16) (cd2_cell (r5.at Hx.ext) hx13)))) ?_
       refine ZB 5 [.int .i64 (w64 (weight + x16)), .int .i64 over] 14 ?_
       refine DR_e2 4 2 4 (by kernel_rfl) (by kernel_rfl) (by kernel_rfl) (by kernel_rfl) ?_ ?_
       ·intro h3 H3
        have H4 : Hold h h3 [own cd2 apath path.length cpath path, it] := H3
        obtain ⟨x17, hx14, gs3⟩ := M.bind_some gs3
        refine ZC 49 #[.slice apath path.length cpath] (w_spec_l01Own h3 path apath cpath (H4.rd 0 rfl) _ _ hx14) (fun v1 h4 hp1 => ?_)
        obtain ⟨a6, c6, rfl, H5⟩ := hp1
        have H6 : Hold h h4 [own cd2 a6 x17.length c6 x17, own cd2 apath path.length cpath path, it] := H4.call H5 rfl
        refine ⟨fun x => Hold h x [own cd2 apath path.length cpath path, it], fun x => Hold h x [own cd2 a6 x17.length c6 x17, own cd2 apath path.length cpath path, it], H6, Hold.stable, fun x Hy => (show Hold h x [own cd2 a6 x17.length c6 x17, own cd2 apath path.length cpath path, it] from Hy).pk [1, 2], fun x Hy => (show Hold h x [own cd2 apath path.length cpath path, it] from Hy).pk [0, 1], ?_⟩
        refine ZE 3 4 (fun h5 H7 => ?_)
        have H8 : Hold h h5 [own cd2 a6 x17.length c6 x17, own cd2 apath path.length cpath path, it] := H7
        refine E_lit (C := cd2) (n := 1) (l := ([i1] : List Int)) (cs := [.int .i64 i1]) H8 (fun w => by kernel_rfl) (Enc.consE (cd2_own i1 _) (Enc.nil _ _) rfl) rfl (by decide) (fun a7 h6 H9 => ?_)
        refine ⟨fun x => Hold h x [own cd2 apath path.length cpath path, it], fun x => Hold h x [own cd2 a7 1 1 ([i1] : List Int), own cd2 a6 x17.length c6 x17, own cd2 apath path.length cpath path, it], H9, Hold.stable, fun x Hy => (show Hold h x [own cd2 a7 1 1 ([i1] : List Int), own cd2 a6 x17.length c6 x17, own cd2 apath path.length cpath path, it] from Hy).pk [2, 3], fun x Hy => (show Hold h x [own cd2 apath path.length cpath path, it] from Hy).pk [0, 1], ?_⟩
        refine ZE 2 5 (fun h7 H10 => ?_)
        have H11 : Hold h h7 [own cd2 a7 1 1 ([i1] : List Int), own cd2 a6 x17.length c6 x17, own cd2 apath path.length cpath path, it] := H10
        obtain ⟨l1, hl1, gs3⟩ := M.bind_some gs3
        have hl1 := M.app_some hl1
        have H12 : Hold h h7 [own cd2 a6 x17.length c6 x17, own cd2 a7 1 1 ([i1] : List Int), own cd2 apath path.length cpath path, it] := H11.pk [1, 0, 2, 3]
        have H13 : Hold h h7 [own cd2 a7 1 1 ([i1] : List Int), own cd2 a6 x17.length c6 x17, own cd2 apath path.length cpath path, it] := H12.pk [1, 0, 2, 3]
        have H14 : Hold h h7 [own cd2 a6 x17.length c6 x17, own cd2 a7 1 1 ([i1] : List Int), own cd2 apath path.length cpath path, it] := H13.pk [1, 0, 2, 3]
        refine E_app (C := cd2) (t := 24) (ty := 24) (n := x17.length) (m := 1) H14 cd2_ti rfl Tryz.underlying24 (by decide) (by kernel_rfl) hl1 (fun a8 c7 h8 H15 => ?_)
        refine ⟨fun x => Hold h x [own cd2 apath path.length cpath path, it, own cd2 a8 l1.length c7 l1], fun x => Hold h x [own cd2 a8 l1.length c7 l1, own cd2 apath path.length cpath path, it], H15, Hold.stable, fun x Hy => (show Hold h x [own cd2 a8 l1.length c7 l1, own cd2 apath path.length cpath path, it] from Hy).pk [1, 2, 0], fun x Hy => (show Hold h x [own cd2 apath path.length cpath path, it, own cd2 a8 l1.length c7 l1] from Hy).pk [0, 1], ?_⟩
        refine ZT 16 (fun h9 H16 => ?_)
        have H17 : Hold h h9 [own cd2 a8 l1.length c7 l1, own cd2 apath path.length cpath path, it] := H16
        obtain ⟨x18, hx15, gs3⟩ := M.bind_some gs3
        have H18 : Hold h h9 [own cd2 a8 l1.length c7 l1, bun [own cd2 apath path.length cpath path, it]] := Hold.bundle (S := [own cd2 a8 l1.length c7 l1]) (R := [own cd2 apath path.length cpath path, it]) H17
        refine Ze ?_
        refine ZC 127 #[.slice aa_ a_.length ca_, .slice a8 l1.length c7, .int .i64 (w64 (weight + x16)), .int .i64 over] (ih h h9 _ a_ aa_ ca_ ra_ l1 a8 c7 (w64 (weight + x16)) over H18 _ _ hx15) (fun v2 h10 hp2 => ?_)
        obtain ⟨a9, c8, rfl, H19⟩ := hp2
        have H20 : Hold h h10 [own cd2 a9 x18.length c8 x18, own cd2 apath path.length cpath path, it] := Hold.unbundle (S := [own cd2 a9 x18.length c8 x18]) (R := [own cd2 apath path.length cpath path, it]) H19 (Hold.tailBase (S := [own cd2 a8 l1.length c7 l1]) (R := [own cd2 apath path.length cpath path, it]) H17)
        refine Zr [.slice a9 x18.length c8] 17 ?_
        refine Zx ?_
        refine Zk [0, 1, 2, 3, 10, 11, 12] [(0, .slice aa_ a_.length ca_), (1, .slice apath path.length cpath), (2, .int .i64 weight), (3, .int .i64 over), (10, .int .i64 x2), (11, .int .i64 i1), (12, .slice a9 x18.length c8)] ?_
        have H43 : Hold h h10 [own cd2 apath path.length cpath path, own cd2 a9 x18.length c8 x18, it] := H20.pk [1, 0, 2]
        have gs3 := M.ret_some gs3
        subst gs3
        exact Zf [0, 1, 2, 3, 10, 11, 12] ⟨a9, c8, rfl, H43⟩
       ·intro h11 H21
        have H22 : Hold h h11 [own cd2 apath path.length cpath path, it] := H21
        refine E_lit (C := cd2) (n := 1) (l := ([i1] : List Int)) (cs := [.int .i64 i1]) H22 (fun w => by kernel_rfl) (Enc.consE (cd2_own i1 _) (Enc.nil _ _) rfl) rfl (by decide) (fun a10 h12 H23 => ?_)
        refine ⟨fun x => Hold h x [own cd2 apath path.length cpath path, it], fun x => Hold h x [own cd2 a10 1 1 ([i1] : List Int), own cd2 apath path.length cpath path, it], H23, Hold.stable, fun x Hy => (show Hold h x [own cd2 a10 1 1 ([i1] : List Int), own cd2 apath path.length cpath path, it] from Hy).pk [1, 2], fun x Hy => (show Hold h x [own cd2 apath path.length cpath path, it] from Hy).pk [0, 1], ?_⟩
        refine ZE 3 2 (fun h13 H24 => ?_)
        have H25 : Hold h h13 [own cd2 a10 1 1 ([i1] : List Int), own cd2 apath path.length cpath path, it] := H24
        obtain ⟨x19, hx16, gs3⟩ := M.bind_some gs3
        refine ZC 49 #[.slice apath path.length cpath] (w_spec_l01Own h13 path apath cpath (H25.rd 1 rfl) _ _ hx16) (fun v3 h14 hp3 => ?_)
        obtain ⟨a11, c9, rfl, H26⟩ := hp3
        have H27 : Hold h h14 [own cd2 a11 x19.length c9 x19, own cd2 a10 1 1 ([i1] : List Int), own cd2 apath path.length cpath path, it] := H25.call H26 rfl
        refine ⟨fun x => Hold h x [own cd2 apath path.length cpath path, it], fun x => Hold h x [own cd2 a11 x19.length c9 x19, own cd2 a10 1 1 ([i1] : List Int), own cd2 apath path.length cpath path, it], H27, Hold.stable, fun x Hy => (show Hold h x [own cd2 a11 x19.length c9 x19, own cd2 a10 1 1 ([i1] : List Int), own cd2 apath path.length cpath path, it] from Hy).pk [2, 3], fun x Hy => (show Hold h x [own cd2 apath path.length cpath path, it] from Hy).pk [0, 1], ?_⟩
        refine ZE 2 5 (fun h15 H28 => ?_)
        have H29 : Hold h h15 [own cd2 a11 x19.length c9 x19, own cd2 a10 1 1 ([i1] : List Int), own cd2 apath path.length cpath path, it] := H28
        obtain ⟨l2, hl2, gs3⟩ := M.bind_some gs3
        have hl2 := M.app_some hl2
        have H30 : Hold h h15 [own cd2 a10 1 1 ([i1] : List Int), own cd2 a11 x19.length c9 x19, own cd2 apath path.length cpath path, it] := H29.pk [1, 0, 2, 3]
        have H31 : Hold h h15 [own cd2 a11 x19.length c9 x19, own cd2 a10 1 1 ([i1] : List Int), own cd2 apath path.length cpath path, it] := H30.pk [1, 0, 2, 3]
        refine E_app (C := cd2) (t := 24) (ty := 24) (n := x19.length) (m := 1) H31 cd2_ti rfl Tryz.underlying24 (by decide) (by kernel_rfl) hl2 (fun a12 c10 h16 H32 => ?_)
        refine ⟨fun x => Hold h x [own cd2 apath path.length cpath path, it, own cd2 a12 l2.length c10 l2], fun x => Hold h x [own cd2 a12 l2.length c10 l2, own cd2 apath path.length cpath path, it], H32, Hold.stable, fun x Hy => (show Hold h x [own cd2 a12 l2.length c10 l2, own cd2 apath path.length cpath path, it] from Hy).pk [1, 2, 0], fun x Hy => (show Hold h x [own cd2 apath path.length cpath path, it, own cd2 a12 l2.length c10 l2] from Hy).pk [0, 1], ?_⟩
        refine ZT 16 (fun h17 H33 => ?_)
        have H34 : Hold h h17 [own cd2 a12 l2.length c10 l2, own cd2 apath path.length cpath path, it] := H33
        obtain ⟨x20, hx17, gs3⟩ := M.bind_some gs3
        have H35 : Hold h h17 [own cd2 a12 l2.length c10 l2, bun [own cd2 apath path.length cpath path, it]] := Hold.bundle (S := [own cd2 a12 l2.length c10 l2]) (R := [own cd2 apath path.length cpath path, it]) H34
        refine Ze ?_
        refine ZC 127 #[.slice aa_ a_.length ca_, .slice a12 l2.length c10, .int .i64 (w64 (weight + x16)), .int .i64 over] (ih h h17 _ a_ aa_ ca_ ra_ l2 a12 c10 (w64 (weight + x16)) over H35 _ _ hx17) (fun v4 h18 hp4 => ?_)
        obtain ⟨a13, c11, rfl, H36⟩ := hp4
        have H37 : Hold h h18 [own cd2 a13 x20.length c11 x20, own cd2 apath path.length cpath path, it] := Hold.unbundle (S := [own cd2 a13 x20.length c11 x20]) (R := [own cd2 apath path.length cpath path, it]) H36 (Hold.tailBase (S := [own cd2 a12 l2.length c10 l2]) (R := [own cd2 apath path.length cpath path, it]) H34)
        refine Zr [.slice a13 x20.length c11] 17 ?_
        refine Zx ?_
        refine Zk [0, 1, 2, 3, 10, 11, 12] [(0, .slice aa_ a_.length ca_), (1, .slice apath path.length cpath), (2, .int .i64 weight), (3, .int .i64 over), (10, .int .i64 x2), (11, .int .i64 i1), (12, .slice a13 x20.length c11)] ?_
        have H44 : Hold h h18 [own cd2 apath path.length cpath path, own cd2 a13 x20.length c11 x20, it] := H37.pk [1, 0, 2]
        have gs3 := M.ret_some gs3
        subst gs3
        exact Zf [0, 1, 2, 3, 10, 11, 12] ⟨a13, c11, rfl, H44⟩
    ·have gx8 := M.for_end gx8 hb3
     subst gx8
     refine Run_exit (k' := _) rfl ?_
     have H48 : Hold h h1 [it] := H1.pk [1]
     exact Zf [] ⟨(), rfl, rfl, H48⟩

theorem w_spec_l03Grow (h hE : Heap) (it : Item) (a_ : List (List Int)) (aa_ : Option Addr) (ca_ : Nat) (ra_ : Rd cd24 h (Lt h) aa_ ca_ a_) (path : List Int) (apath : Option Addr) (cpath : Nat) (weight : Int) (over : Int) (HM : Hold h hE [own cd2 apath path.length cpath path, it]) (n : Nat) (r : (List Int)) (hF : spec_l03Grow a_ path weight over n = some r) :
  Fn Tryz.prog 127 #[.slice aa_ a_.length ca_, .slice apath path.length cpath, .int .i64 weight, .int .i64 over] hE fun v h' => ∃ (a0 : Option Addr) (c0 : Nat), v = .slice a0 r.length c0 ∧ Hold h h' [own cd2 a0 r.length c0 r, it] := by
 exact w_spec_l03Grow_R n h hE it a_ aa_ ca_ ra_ path apath cpath weight over HM n r hF

theorem w_spec_l03Over (h : Heap) (a_ : List (List Int)) (aa_ : Option Addr) (ca_ : Nat) (ra_ : Rd cd24 h (Lt h) aa_ ca_ a_) (over : Int) (n : Nat) (r : (List Int)) (hF : spec_l03Over a_ over n = some r) :
  Fn Tryz.prog 82 #[.slice aa_ a_.length ca_, .int .i64 over] h fun v h' => ∃ (a0 : Option Addr) (c0 : Nat), v = .slice a0 r.length c0 ∧ Hold h h' [own cd2 a0 r.length c0 r] := by
 unfold spec_l03Over at hF
 refine Zo [.slice aa_ a_.length ca_, .int .i64 over] Tryz.func82 rfl (fun w0 _ => ?_)
 have H0 := Hold.init h
 refine Zs ?_
 refine Zq [.slice none 0 0] [0, 1] [(0, .slice aa_ a_.length ca_), (1, .int .i64 over)] ?_
 refine Zs ?_
 refine Zs ?_
 refine Zq [.int .i64 0] [0, 1, 5] [(0, .slice aa_ a_.length ca_), (1, .int .i64 over), (5, .int .i64 0)] ?_
 obtain ⟨x1, gx1, hF⟩ := M.bind_some hF
 obtain ⟨hloy1, hhiy1, gx1⟩ := M.for_start gx1
 refine Run_join (fun L' h' => ∃ (s2 : Unit), x1 = .inl s2 ∧ L' = [] ∧ Hold h h' []) ?_ ?_
 ·rintro _ h2 ⟨s2, es2, rfl, H2⟩
  have hF := M.cont_inl' hF es2
  refine Zs ?_
  refine Zq [.slice none 0 0] [4] [(4, .slice none 0 0)] ?_
  have hF := M.ret_some hF
  subst hF
  have H9 := H2.empty cd2
  exact Run_ret1 rfl (Zt (.slice none 0 0)) ⟨none, 0, rfl, H9⟩
 ·refine Run_block ?_
  refine Zk [0, 1, 5] [(0, .slice aa_ a_.length ca_), (1, .int .i64 over), (5, .int .i64 0)] ?_
  refine Run_loop (fun m L' h' => ∃ (i1 : Int) (s1 : Unit), 0 ≤ i1 ∧ M.forN (a_.length : Int) _ _ n m i1 s1 = some x1 ∧ L' = [(0, .slice aa_ a_.length ca_), (1, .int .i64 over), (5, .int .i64 i1)] ∧ Hold h h' []) ((a_.length : Int) - 0 : Int).toNat ⟨0, (), Int.le_refl _, gx1, rfl, H0⟩ ?_
  rintro my1 _ h1 ⟨i1, s1, hloy1', gx1, rfl, H1⟩
  refine Zs ?_
  refine Zs ?_
  refine Zq [.int .i64 i1, .slice aa_ a_.length ca_, .int .i64 (a_.length : Int), .bool (decide (i1 < (a_.length : Int)))] [0, 1, 5, 10] [(0, .slice aa_ a_.length ca_), (1, .int .i64 over), (5, .int .i64 i1), (10, .bool (decide (i1 < (a_.length : Int))))] ?_
  refine Zc (decide (i1 < (a_.length : Int))) (fun hb1 => ?_) (fun hb1 => ?_)
  ·obtain ⟨my1, y1, rfl, hB1, hgoy1, houty1⟩ := M.for_go gx1 hb1
   have hlty1 := of_decide_eq_true hb1
   refine Run_skip ?_
   refine Zs ?_
   refine Run_block ?_
   refine Zs ?_
   refine Run_ops ?_
   refine Zr [.slice aa_ a_.length ca_, .int .i64 i1] 0 ?_
   refine Ze ?_
   refine E_lit (C := cd2) (n := 1) (l := ([i1] : List Int)) (cs := [.int .i64 i1]) H1 (fun w => by kernel_rfl) (Enc.consE (cd2_own i1 _) (Enc.nil _ _) rfl) rfl (by decide) (fun a1 h3 H3 => ?_)
   refine Zr [.int .i64 over] 3 ?_
   obtain ⟨x2, hx1, hB1⟩ := M.bind_some hB1
   have hn1 := (H3.len 0 rfl)
   have H4 : Hold h h3 [own cd2 a1 (([i1] : List Int).length) 1 ([i1] : List Int)] := by rw [hn1]; exact H3
   have H5 : Hold h h3 [own cd2 a1 (([i1] : List Int).length) 1 ([i1] : List Int), bun []] := Hold.bundle (S := [own cd2 a1 (([i1] : List Int).length) 1 ([i1] : List Int)]) (R := []) H4
   refine Ze ?_
   refine ZC 127 #[.slice aa_ a_.length ca_, .slice a1 1 1, .int .i64 0, .int .i64 over] (Fn.arg (w_spec_l03Grow h h3 _ a_ aa_ ca_ ra_ ([i1] : List Int) a1 1 0 over H5 _ _ hx1) (by simp only [hn1])) (fun v1 h4 hp1 => ?_)
   obtain ⟨a2, c1, rfl, H6⟩ := hp1
   have H7 : Hold h h4 [own cd2 a2 x2.length c1 x2] := Hold.unbundle (S := [own cd2 a2 x2.length c1 x2]) (R := []) H6 (Hold.tailBase (S := [own cd2 a1 (([i1] : List Int).length) 1 ([i1] : List Int)]) (R := []) H4)
   refine Zr [.slice a2 x2.length c1] 5 ?_
   refine Zx ?_
   refine Zk [0, 1, 5, 6] [(0, .slice aa_ a_.length ca_), (1, .int .i64 over), (5, .int .i64 i1), (6, .slice a2 x2.length c1)] ?_
   refine Zs ?_
   refine Zq [.slice a2 x2.length c1, .int .i64 (x2.length : Int), .bool (decide (0 < (x2.length : Int)))] [0, 1, 5, 6, 20] [(0, .slice aa_ a_.length ca_), (1, .int .i64 over), (5, .int .i64 i1), (6, .slice a2 x2.length c1), (20, .bool (decide (0 < (x2.length : Int))))] ?_
   refine Zc (decide (0 < (x2.length : Int))) (fun hb2 => ?_) (fun hb2 => ?_)
   ·have hB1 := (M.ite_some hB1).1 hb2
    refine Zs ?_
    refine Zq [.slice a2 x2.length c1, .slice a2 x2.length c1] [4] [(4, .slice a2 x2.length c1)] ?_
    have hB1 := M.ret_some hB1
    have gx1 := houty1 _ hB1.symm
    have hF := M.cont_inr' hF gx1
    have hF := M.ret_some hF
    subst hF
    exact Run_ret1 rfl (Zt (.slice a2 x2.length c1)) ⟨a2, c1, rfl, H7⟩
   ·have hB1 := (M.ite_some hB1).2 hb2
    refine Run_skip ?_
    refine Run_blk ?_
    refine Zg 3 [(0, .slice aa_ a_.length ca_), (1, .int .i64 over), (5, .int .i64 (i1 + 1))] ?_ ?_
    ·refine Zb [.int .i64 i1] 0 ?_
     refine Zy (.int .i64 (i1 + 1)) (Y_eq (v := .int .i64 (w64 (i1 + 1))) (Y_pure (fun w => by kernel_rfl)) (by rw [w64_eq _ (by omega)])) ?_
     refine Zb [.int .i64 (i1 + 1)] 2 ?_
     exact Zd [0, 1, 5]
    have H8 : Hold h h4 [] := H7.pk []
    have hB1 := M.ret_some hB1
    have gx1 := hgoy1 _ hB1.symm
    exact Za [0, 1, 5] my1 ⟨i1 + 1, (), by omega, gx1, rfl, H8⟩
  ·have gx1 := M.for_end gx1 hb1
   subst gx1
   refine Run_exit (k' := _) rfl ?_
   exact Zf [] ⟨(), rfl, rfl, H1⟩

theorem w_spec_l01Within (h : Heap) (list : List Int) {Slist : Bs} (alist : Option Addr) (clist : Nat) (rlist : Rd cd2 h Slist alist clist list) (most : Int) (low : Int) (high : Int) (n : Nat) (r : Bool) (hF : spec_l01Within list most low high n = some r) :
  Fn Tryz.prog 153 #[.slice alist list.length clist, .int .i64 most, .int .i64 low, .int .i64 high] h fun v h' => v = .bool r ∧ h' = h := by
 unfold spec_l01Within at hF
 refine Zo [.slice alist list.length clist, .int .i64 most, .int .i64 low, .int .i64 high] Tryz.func153 rfl (fun w0 _ => ?_)
 refine Zs ?_
 refine Zq [.bool false] [0, 1, 2, 3] [(0, .slice alist list.length clist), (1, .int .i64 most), (2, .int .i64 low), (3, .int .i64 high)] ?_
 refine Zs ?_
 refine Zs ?_
 refine Zq [.int .i64 0] [0, 1, 2, 3, 9] [(0, .slice alist list.length clist), (1, .int .i64 most), (2, .int .i64 low), (3, .int .i64 high), (9, .int .i64 0)] ?_
 obtain ⟨x1, gx1, hF⟩ := M.bind_some hF
 obtain ⟨hloy1, hhiy1, gx1⟩ := M.for_start gx1
 refine Run_join (fun L' h' => ∃ (s2 : Unit), x1 = .inl s2 ∧ L' = [(0, .slice alist list.length clist), (1, .int .i64 most)] ∧ h = h') ?_ ?_
 ·rintro _ _ ⟨s2, es2, rfl, rfl⟩
  have hF := M.cont_inl' hF es2
  refine Zs ?_
  refine Zq [.slice alist list.length clist, .int .i64 (list.length : Int), .int .i64 most, .bool (decide ((list.length : Int) ≤ most)), .bool (decide ((list.length : Int) ≤ most))] [8] [(8, .bool (decide ((list.length : Int) ≤ most)))] ?_
  have hF := M.ret_some hF
  subst hF
  exact Run_ret1 rfl (Zt (.bool (decide ((list.length : Int) ≤ most)))) ⟨rfl, rfl⟩
 ·refine Run_block ?_
  refine Zk [0, 1, 2, 3, 9] [(0, .slice alist list.length clist), (1, .int .i64 most), (2, .int .i64 low), (3, .int .i64 high), (9, .int .i64 0)] ?_
  refine Run_loop (fun m L' h' => ∃ (i1 : Int) (s1 : Unit), 0 ≤ i1 ∧ M.forN (list.length : Int) _ _ n m i1 s1 = some x1 ∧ L' = [(0, .slice alist list.length clist), (1, .int .i64 most), (2, .int .i64 low), (3, .int .i64 high), (9, .int .i64 i1)] ∧ h = h') ((list.length : Int) - 0 : Int).toNat ⟨0, (), Int.le_refl _, gx1, rfl, rfl⟩ ?_
  rintro my1 _ _ ⟨i1, s1, hloy1', gx1, rfl, rfl⟩
  refine Zs ?_
  refine Zs ?_
  refine Zq [.int .i64 i1, .slice alist list.length clist, .int .i64 (list.length : Int), .bool (decide (i1 < (list.length : Int)))] [0, 1, 2, 3, 9, 13] [(0, .slice alist list.length clist), (1, .int .i64 most), (2, .int .i64 low), (3, .int .i64 high), (9, .int .i64 i1), (13, .bool (decide (i1 < (list.length : Int))))] ?_
  refine Zc (decide (i1 < (list.length : Int))) (fun hb1 => ?_) (fun hb1 => ?_)
  ·obtain ⟨my1, y1, rfl, hB1, hgoy1, houty1⟩ := M.for_go gx1 hb1
   have hlty1 := of_decide_eq_true hb1
   refine Run_skip ?_
   refine Zs ?_
   refine Run_block ?_
   refine Zs ?_
   obtain ⟨x2, hx1, hB1⟩ := M.bind_some hB1
   obtain ⟨hx1l, hx1u, hx1⟩ := M.idx_some hx1
   obtain ⟨x3, hx2, hB1⟩ := M.bind_some hB1
   refine Zg 8 [(0, .slice alist list.length clist), (1, .int .i64 most), (2, .int .i64 low), (3, .int .i64 high), (9, .int .i64 i1), (23, .bool (!x3))] ?_ ?_
   ·refine Zb [.slice alist list.length clist, .int .i64 i1] 0 ?_
    refine Zy (.pointer (some (adr alist (i1.toNat * 1)))) (Zi 24 2 1 (alist) (list.length) (clist) .i64 (i1) Tryz.underlying24 (rlist.cell hx1).1 hx1l hx1u) ?_
    refine Zy (.int .i64 x2) (Zl 2 (adr alist (i1.toNat * 1)) (.int .i64 x2) (cd2_cell rlist hx1)) ?_
    refine Zb [.int .i64 low, .int .i64 high] 4 ?_
    refine Zy (.bool x3) (ZQ 79 #[.int .i64 x2, .int .i64 low, .int .i64 high] (w_spec_l01In h x2 low high _ _ hx2)) ?_
    refine Zb [.bool (!x3)] 7 ?_
    exact Zd [0, 1, 2, 3, 9, 23]
   refine Zc (!x3) (fun hb2 => ?_) (fun hb2 => ?_)
   ·have hB1 := (M.ite_some hB1).1 hb2
    refine Zs ?_
    refine Zq [.bool false] [8] [(8, .bool false)] ?_
    have hB1 := M.ret_some hB1
    have gx1 := houty1 _ hB1.symm
    have hF := M.cont_inr' hF gx1
    have hF := M.ret_some hF
    subst hF
    exact Run_ret1 rfl (Zt (.bool false)) ⟨rfl, rfl⟩
   ·have hB1 := (M.ite_some hB1).2 hb2
    refine Run_skip ?_
    refine Run_blk ?_
    refine Zg 3 [(0, .slice alist list.length clist), (1, .int .i64 most), (2, .int .i64 low), (3, .int .i64 high), (9, .int .i64 (i1 + 1))] ?_ ?_
    ·refine Zb [.int .i64 i1] 0 ?_
     refine Zy (.int .i64 (i1 + 1)) (Y_eq (v := .int .i64 (w64 (i1 + 1))) (Y_pure (fun w => by kernel_rfl)) (by rw [w64_eq _ (by omega)])) ?_
     refine Zb [.int .i64 (i1 + 1)] 2 ?_
     exact Zd [0, 1, 2, 3, 9]
    have hB1 := M.ret_some hB1
    have gx1 := hgoy1 _ hB1.symm
    exact Za [0, 1, 2, 3, 9] my1 ⟨i1 + 1, (), by omega, gx1, rfl, rfl⟩
  ·have gx1 := M.for_end gx1 hb1
   subst gx1
   refine Run_exit (k' := _) rfl ?_
   exact Zf [0, 1] ⟨(), rfl, rfl, rfl⟩

theorem w_spec_l03Nodes (h : Heap) (a_ : List (List Int)) {Sa_ : Bs} (aa_ : Option Addr) (ca_ : Nat) (ra_ : Rd cd24 h Sa_ aa_ ca_ a_) (list : List Int) {Slist : Bs} (alist : Option Addr) (clist : Nat) (rlist : Rd cd2 h Slist alist clist list) (n : Nat) (r : Bool) (hF : spec_l03Nodes a_ list n = some r) :
  Fn Tryz.prog 132 #[.slice aa_ a_.length ca_, .slice alist list.length clist] h fun v h' => v = .bool r ∧ h' = h := by
 unfold spec_l03Nodes at hF
 refine Zo [.slice aa_ a_.length ca_, .slice alist list.length clist] Tryz.func132 rfl (fun w0 _ => ?_)
 refine Zs ?_
 refine Zq [.bool false] [0, 1] [(0, .slice aa_ a_.length ca_), (1, .slice alist list.length clist)] ?_
 refine Zs ?_
 obtain ⟨x1, hx1, hF⟩ := M.bind_some hF
 refine Zg 8 [(4, .bool x1)] ?_ ?_
 ·refine Zb [.slice alist list.length clist, .slice alist list.length clist, .int .i64 (list.length : Int), .slice aa_ a_.length ca_, .int .i64 (a_.length : Int), .int .i64 (w64 ((a_.length : Int) - 1))] 0 ?_
  refine Zy (.bool x1) (ZQ 153 #[.slice alist list.length clist, .int .i64 (list.length : Int), .int .i64 0, .int .i64 (w64 ((a_.length : Int) - 1))] (w_spec_l01Within h list alist clist rlist (list.length : Int) 0 (w64 ((a_.length : Int) - 1)) _ _ hx1)) ?_
  refine Zb [.bool x1] 7 ?_
  exact Zd [4]
 have hF := M.ret_some hF
 subst hF
 exact Run_ret1 rfl (Zt (.bool x1)) ⟨rfl, rfl⟩

theorem w_spec_l03Walk (h : Heap) (a_ : List (List Int)) {Sa_ : Bs} (aa_ : Option Addr) (ca_ : Nat) (ra_ : Rd cd24 h Sa_ aa_ ca_ a_) (list : List Int) {Slist : Bs} (alist : Option Addr) (clist : Nat) (rlist : Rd cd2 h Slist alist clist list) (n : Nat) (r : Int × Bool) (hF : spec_l03Walk a_ list n = some r) :
  Fn Tryz.prog 133 #[.slice aa_ a_.length ca_, .slice alist list.length clist] h fun v h' => v = .tuple #[.int .i64 r.1, .bool r.2] ∧ h' = h := by
 unfold spec_l03Walk at hF
 refine Zo [.slice aa_ a_.length ca_, .slice alist list.length clist] Tryz.func133 rfl (fun w0 _ => ?_)
 refine Zs ?_
 refine Zq [.int .i64 0, .bool false] [0, 1] [(0, .slice aa_ a_.length ca_), (1, .slice alist list.length clist)] ?_
 refine Zs ?_
 refine Zq [.int .i64 0] [0, 1, 6] [(0, .slice aa_ a_.length ca_), (1, .slice alist list.length clist), (6, .int .i64 0)] ?_
 refine Zs ?_
 refine Zs ?_
 refine Zq [.int .i64 1] [0, 1, 6, 7] [(0, .slice aa_ a_.length ca_), (1, .slice alist list.length clist), (6, .int .i64 0), (7, .int .i64 1)] ?_
 obtain ⟨x1, gx1, hF⟩ := M.bind_some hF
 obtain ⟨hloy1, hhiy1, gx1⟩ := M.for_start gx1
 refine Run_join (fun L' h' => ∃ (s2 : Int), x1 = .inl s2 ∧ L' = [(6, .int .i64 s2)] ∧ h = h') ?_ ?_
 ·rintro _ _ ⟨s2, es2, rfl, rfl⟩
  have hF := M.cont_inl' hF es2
  refine Zs ?_
  refine Zq [.int .i64 s2, .int .i64 s2, .bool true] [4, 5] [(4, .int .i64 s2), (5, .bool true)] ?_
  have hF := M.ret_some hF
  subst hF
  exact Run_ret2 rfl (Zt (.int .i64 s2)) (Zt (.bool true)) ⟨rfl, rfl⟩
 ·refine Run_block ?_
  refine Zk [0, 1, 6, 7] [(0, .slice aa_ a_.length ca_), (1, .slice alist list.length clist), (6, .int .i64 0), (7, .int .i64 1)] ?_
  refine Run_loop (fun m L' h' => ∃ (i1 : Int) (s1 : Int), 1 ≤ i1 ∧ M.forN (list.length : Int) _ _ n m i1 s1 = some x1 ∧ L' = [(0, .slice aa_ a_.length ca_), (1, .slice alist list.length clist), (6, .int .i64 s1), (7, .int .i64 i1)] ∧ h = h') ((list.length : Int) - 1 : Int).toNat ⟨1, 0, Int.le_refl _, gx1, rfl, rfl⟩ ?_
  rintro my1 _ _ ⟨i1, s1, hloy1', gx1, rfl, rfl⟩
  refine Zs ?_
  refine Zs ?_
  refine Zq [.int .i64 i1, .slice alist list.length clist, .int .i64 (list.length : Int), .bool (decide (i1 < (list.length : Int)))] [0, 1, 6, 7, 12] [(0, .slice aa_ a_.length ca_), (1, .slice alist list.length clist), (6, .int .i64 s1), (7, .int .i64 i1), (12, .bool (decide (i1 < (list.length : Int))))] ?_
  refine Zc (decide (i1 < (list.length : Int))) (fun hb1 => ?_) (fun hb1 => ?_)
  ·obtain ⟨my1, y1, rfl, hB1, hgoy1, houty1⟩ := M.for_go gx1 hb1
   have hlty1 := of_decide_eq_true hb1
   refine Run_skip ?_
   refine Zs ?_
   refine Run_block ?_
   refine Zs ?_
   obtain ⟨x2, hx1, hB1⟩ := M.bind_some hB1
   obtain ⟨hx1l, hx1u, hx1⟩ := M.idx_some hx1
   obtain ⟨x3, hx2, hB1⟩ := M.bind_some hB1
   obtain ⟨hx2l, hx2u, hx2⟩ := M.idx_some hx2
   obtain ⟨a1, c1, hc1, r1⟩ := ra_.row hx2
   obtain ⟨x4, hx3, hB1⟩ := M.bind_some hB1
   obtain ⟨hx3l, hx3u, hx3⟩ := M.idx_some hx3
   obtain ⟨x5, hx4, hB1⟩ := M.bind_some hB1
   obtain ⟨hx4l, hx4u, hx4⟩ := M.idx_some hx4
   refine Run_draw 15 mixed (by kernel_rfl) (by kernel_rfl) (L' := [(0, .slice aa_ a_.length ca_), (1, .slice alist list.length clist), (6, .int .i64 s1), (7, .int .i64 i1), (8, .int .i64 x5)]) ?_ ?_
   ·refine Zb [.slice aa_ a_.length ca_, .slice alist list.length clist, .int .i64 i1] 0 ?_
    refine Zy (.pointer (some (adr alist (i1.toNat * 1)))) (Zi 24 2 1 (alist) (list.length) (clist) .i64 (i1) Tryz.underlying24 (rlist.cell hx1).1 hx1l hx1u) ?_
    refine Zy (.int .i64 x2) (Zl 2 (adr alist (i1.toNat * 1)) (.int .i64 x2) (cd2_cell rlist hx1)) ?_
    refine Zy (.pointer (some (adr aa_ (x2.toNat * 1)))) (Zi 22 24 1 (aa_) (a_.length) (ca_) .i64 (x2) Tryz.underlying22 (ra_.cell hx2).1 hx2l hx2u) ?_
    refine Zy (.slice a1 x3.length c1) (Zl 24 (adr aa_ (x2.toNat * 1)) (.slice a1 x3.length c1) hc1) ?_
    refine Zb [.slice alist list.length clist, .int .i64 i1, .int .i64 (w64 (i1 - 1))] 7 ?_
    refine Zy (.pointer (some (adr alist ((w64 (i1 - 1)).toNat * 1)))) (Zi 24 2 1 (alist) (list.length) (clist) .i64 (w64 (i1 - 1)) Tryz.underlying24 (rlist.cell hx3).1 hx3l hx3u) ?_
    refine Zy (.int .i64 x4) (Zl 2 (adr alist ((w64 (i1 - 1)).toNat * 1)) (.int .i64 x4) (cd2_cell rlist hx3)) ?_
    refine Zy (.pointer (some (adr a1 (x4.toNat * 1)))) (Zi 24 2 1 (a1) (x3.length) (c1) .i64 (x4) Tryz.underlying24 (r1.cell hx4).1 hx4l hx4u) ?_
    refine Zy (.int .i64 x5) (Zl 2 (adr a1 (x4.toNat * 1)) (.int .i64 x5) (cd2_cell r1 hx4)) ?_
    refine Zb [.int .i64 x5] 14 ?_
    exact Zd [0, 1, 6, 7, 8]
   refine Zs ?_
   refine Zs ?_
   refine Zq [.int .i64 x5, .bool (x5 == (-1000000000000000))] [0, 1, 6, 7, 8, 30] [(0, .slice aa_ a_.length ca_), (1, .slice alist list.length clist), (6, .int .i64 s1), (7, .int .i64 i1), (8, .int .i64 x5), (30, .bool (x5 == (-1000000000000000)))] ?_
   refine Zc (x5 == (-1000000000000000)) (fun hb2 => ?_) (fun hb2 => ?_)
   ·have hB1 := (M.ite_some hB1).1 hb2
    refine Zs ?_
    refine Zq [.int .i64 0, .bool false] [4, 5] [(4, .int .i64 0), (5, .bool false)] ?_
    have hB1 := M.ret_some hB1
    have gx1 := houty1 _ hB1.symm
    have hF := M.cont_inr' hF gx1
    have hF := M.ret_some hF
    subst hF
    exact Run_ret2 rfl (Zt (.int .i64 0)) (Zt (.bool false)) ⟨rfl, rfl⟩
   ·have hB1 := (M.ite_some hB1).2 hb2
    refine Run_skip ?_
    refine Zq [.int .i64 s1, .int .i64 x5, .int .i64 (w64 (s1 + x5)), .int .i64 (w64 (s1 + x5))] [0, 1, 6, 7] [(0, .slice aa_ a_.length ca_), (1, .slice alist list.length clist), (6, .int .i64 (w64 (s1 + x5))), (7, .int .i64 i1)] ?_
    refine Run_blk ?_
    refine Zg 3 [(0, .slice aa_ a_.length ca_), (1, .slice alist list.length clist), (6, .int .i64 (w64 (s1 + x5))), (7, .int .i64 (i1 + 1))] ?_ ?_
    ·refine Zb [.int .i64 i1] 0 ?_
     refine Zy (.int .i64 (i1 + 1)) (Y_eq (v := .int .i64 (w64 (i1 + 1))) (Y_pure (fun w => by kernel_rfl)) (by rw [w64_eq _ (by omega)])) ?_
     refine Zb [.int .i64 (i1 + 1)] 2 ?_
     exact Zd [0, 1, 6, 7]
    have hB1 := M.ret_some hB1
    have gx1 := hgoy1 _ hB1.symm
    exact Za [0, 1, 6, 7] my1 ⟨i1 + 1, (w64 (s1 + x5)), by omega, gx1, rfl, rfl⟩
  ·have gx1 := M.for_end gx1 hb1
   subst gx1
   refine Run_exit (k' := _) rfl ?_
   exact Zf [6] ⟨s1, rfl, rfl, rfl⟩

theorem w_spec_l03Cycle (h : Heap) (a_ : List (List Int)) (aa_ : Option Addr) (ca_ : Nat) (ra_ : Rd cd24 h (Lt h) aa_ ca_ a_) (cycle : List Int) (acycle : Option Addr) (ccycle : Nat) (rcycle : Rd cd2 h (Lt h) acycle ccycle cycle) (n : Nat) (r : Int × Bool) (hF : spec_l03Cycle a_ cycle n = some r) :
  Fn Tryz.prog 91 #[.slice aa_ a_.length ca_, .slice acycle cycle.length ccycle] h fun v h' => v = .tuple #[.int .i64 r.1, .bool r.2] ∧ Hold h h' [] := by
 unfold spec_l03Cycle at hF
 refine Zo [.slice aa_ a_.length ca_, .slice acycle cycle.length ccycle] Tryz.func91 rfl (fun w0 _ => ?_)
 have H0 := Hold.init h
 refine Zs ?_
 refine Zq [.int .i64 0, .bool false] [0, 1] [(0, .slice aa_ a_.length ca_), (1, .slice acycle cycle.length ccycle)] ?_
 refine Zs ?_
 refine Zs ?_
 obtain ⟨x1, gx1, hF⟩ := M.bind_some hF
 refine Zg 9 [(0, .slice aa_ a_.length ca_), (1, .slice acycle cycle.length ccycle), (15, .bool x1)] ?_ ?_
 ·refine Zb [.slice acycle cycle.length ccycle, .int .i64 (cycle.length : Int), .bool ((cycle.length : Int) == 0)] 0 ?_
  refine QRun_seq 9 [(0, .slice aa_ a_.length ca_), (1, .slice acycle cycle.length ccycle), (15, .bool x1)] ?_ ?_
  ·rcases Bool.eq_false_or_eq_true ((cycle.length : Int) == 0) with hb1 | hb1
   ·refine Zv ((cycle.length : Int) == 0) true hb1 ?_
    have gx1 := M.ret_some ((M.ite_some gx1).1 hb1)
    refine Zn ?_
    refine Zn ?_
    refine Zn ?_
    refine Zn ?_
    refine Zv true x1 gx1 ?_
    exact Zd [0, 1, 15]
   ·refine Zv ((cycle.length : Int) == 0) false hb1 ?_
    have gx1 := (M.ite_some gx1).2 hb1
    obtain ⟨x2, hx1, gx1⟩ := M.bind_some gx1
    have gx1 := M.ret_some gx1
    refine Zb [.slice aa_ a_.length ca_, .slice acycle cycle.length ccycle] 4 ?_
    refine Zy (.bool x2) (ZQ 132 #[.slice aa_ a_.length ca_, .slice acycle cycle.length ccycle] (w_spec_l03Nodes h a_ aa_ ca_ ra_ cycle acycle ccycle rcycle _ _ hx1)) ?_
    refine Zb [.bool (!x2)] 7 ?_
    refine Zv (!x2) x1 gx1 ?_
    exact Zd [0, 1, 15]
  exact Zd [0, 1, 15]
 refine Zc (x1) (fun hb2 => ?_) (fun hb2 => ?_)
 ·have hF := (M.ite_some hF).1 hb2
  refine Zs ?_
  refine Zq [.int .i64 0, .bool false] [4, 5] [(4, .int .i64 0), (5, .bool false)] ?_
  have hF := M.ret_some hF
  subst hF
  exact Run_ret2 rfl (Zt (.int .i64 0)) (Zt (.bool false)) ⟨rfl, H0⟩
 ·have hF := (M.ite_some hF).2 hb2
  refine Run_skip ?_
  refine Zs ?_
  refine Zs ?_
  refine Zq [.int .i64 0] [0, 1, 6] [(0, .slice aa_ a_.length ca_), (1, .slice acycle cycle.length ccycle), (6, .int .i64 0)] ?_
  obtain ⟨x3, gx3, hF⟩ := M.bind_some hF
  obtain ⟨hloy1, hhiy1, gx3⟩ := M.for_start gx3
  refine Run_join (fun L' h' => ∃ (s2 : Unit), x3 = .inl s2 ∧ L' = [(0, .slice aa_ a_.length ca_), (1, .slice acycle cycle.length ccycle)] ∧ Hold h h' []) ?_ ?_
  ·rintro _ h2 ⟨s2, es2, rfl, H2⟩
   have hF := M.cont_inl' hF es2
   refine Zs ?_
   obtain ⟨s3, gs3, hF⟩ := M.bind_some hF
   refine Run_join (fun L' h' => L' = [(4, .int .i64 s3.1), (5, .bool s3.2)] ∧ Hold h h' []) ?_ ?_
   ·rintro _ h17 ⟨rfl, H32⟩
    have hF := M.ret_some hF
    subst hF
    exact Run_ret2 rfl (Zt (.int .i64 s3.1)) (Zt (.bool s3.2)) ⟨rfl, H32⟩
   ·obtain ⟨x8, hx6, gs3⟩ := M.bind_some gs3
    obtain ⟨hx6l, hx6u, hx6⟩ := M.idx_some hx6
    refine Run_D (fun x => Hold h x []) (fun x => Hold h x []) mixed (by kernel_rfl) H2 Hold.stable (fun x Hy => (show Hold h x [] from Hy).pk []) ?_
    refine ZB 11 [.slice aa_ a_.length ca_, .slice acycle cycle.length ccycle] 0 ?_
    refine ZB 10 [.slice acycle cycle.length ccycle] 3 ?_
    refine ZY 9 4 (.pointer (some (adr acycle (0 * 1)))) (fun hx Hx => (YE.of (Zi 24 2 1 (acycle) (cycle.length) (ccycle) .i64 (0) Tryz.underlying24 ((rcycle.at H2.ext).cell hx6).1 hx6l hx6u))) ?_
    refine ZY 8 5 (.int .i64 x8) (fun hx Hx => (YE.of (Zl 2 (adr acycle (0 * 1)) (.int .i64 x8) (cd2_cell (rcycle.at Hx.ext) hx6)))) ?_
    refine DR_e2 7 2 6 (by kernel_rfl) (by kernel_rfl) (by kernel_rfl) (by kernel_rfl) ?_ ?_
    ·intro h3 H3
     have H4 : Hold h h3 [] := H3
     obtain ⟨x9, hx7, gs3⟩ := M.bind_some gs3
     refine ZC 49 #[.slice acycle cycle.length ccycle] (w_spec_l01Own h3 cycle acycle ccycle (rcycle.at H4.ext) _ _ hx7) (fun v1 h4 hp1 => ?_)
     obtain ⟨a1, c1, rfl, H5⟩ := hp1
     have H6 : Hold h h4 [own cd2 a1 x9.length c1 x9] := H4.call H5 rfl
     refine ⟨fun x => Hold h x [], fun x => Hold h x [own cd2 a1 x9.length c1 x9], H6, Hold.stable, fun x Hy => (show Hold h x [own cd2 a1 x9.length c1 x9] from Hy).pk [], fun x Hy => (show Hold h x [] from Hy).pk [], ?_⟩
     refine ZE 6 6 (fun h5 H7 => ?_)
     have H8 : Hold h h5 [own cd2 a1 x9.length c1 x9] := H7
     refine E_lit (C := cd2) (n := 1) (l := ([x8] : List Int)) (cs := [.int .i64 x8]) H8 (fun w => by kernel_rfl) (Enc.consE (cd2_own x8 _) (Enc.nil _ _) rfl) rfl (by decide) (fun a2 h6 H9 => ?_)
     refine ⟨fun x => Hold h x [], fun x => Hold h x [own cd2 a2 1 1 ([x8] : List Int), own cd2 a1 x9.length c1 x9], H9, Hold.stable, fun x Hy => (show Hold h x [own cd2 a2 1 1 ([x8] : List Int), own cd2 a1 x9.length c1 x9] from Hy).pk [], fun x Hy => (show Hold h x [] from Hy).pk [], ?_⟩
     refine ZE 5 7 (fun h7 H10 => ?_)
     have H11 : Hold h h7 [own cd2 a2 1 1 ([x8] : List Int), own cd2 a1 x9.length c1 x9] := H10
     obtain ⟨l1, hl1, gs3⟩ := M.bind_some gs3
     have hl1 := M.app_some hl1
     have H12 : Hold h h7 [own cd2 a1 x9.length c1 x9, own cd2 a2 1 1 ([x8] : List Int)] := H11.pk [1, 0]
     have H13 : Hold h h7 [own cd2 a2 1 1 ([x8] : List Int), own cd2 a1 x9.length c1 x9] := H12.pk [1, 0]
     have H14 : Hold h h7 [own cd2 a1 x9.length c1 x9, own cd2 a2 1 1 ([x8] : List Int)] := H13.pk [1, 0]
     refine E_app (C := cd2) (t := 24) (ty := 24) (n := x9.length) (m := 1) H14 cd2_ti rfl Tryz.underlying24 (by decide) (by kernel_rfl) hl1 (fun a3 c2 h8 H15 => ?_)
     refine ⟨fun x => Hold h x [own cd2 a3 l1.length c2 l1], fun x => Hold h x [own cd2 a3 l1.length c2 l1], H15, Hold.stable, fun x Hy => (show Hold h x [own cd2 a3 l1.length c2 l1] from Hy).pk [0], fun x Hy => (show Hold h x [own cd2 a3 l1.length c2 l1] from Hy).pk [], ?_⟩
     obtain ⟨x10, hx8, gs3⟩ := M.bind_some gs3
     refine ZY 4 8 (.tuple #[.int .i64 x10.1, .bool x10.2]) (fun hx Hx => (YE.of (ZQ 133 #[.slice aa_ a_.length ca_, .slice a3 l1.length c2] (w_spec_l03Walk hx a_ aa_ ca_ (ra_.at Hx.ext) l1 a3 c2 (Hx.rd 0 rfl) _ _ hx8)))) ?_
     refine ZB 0 [.int .i64 x10.1, .bool x10.2, .int .i64 x10.1, .bool x10.2] 9 ?_
     refine ZT 13 (fun h9 H16 => ?_)
     have H17 : Hold h h9 [own cd2 a3 l1.length c2 l1] := H16
     refine Zx ?_
     refine Zk [4, 5] [(4, .int .i64 x10.1), (5, .bool x10.2)] ?_
     have H37 : Hold h h9 [] := H17.pk []
     have gs3 := M.ret_some gs3
     subst gs3
     exact Zf [4, 5] ⟨rfl, H37⟩
    ·intro h10 H18
     have H19 : Hold h h10 [] := H18
     refine E_lit (C := cd2) (n := 1) (l := ([x8] : List Int)) (cs := [.int .i64 x8]) H19 (fun w => by kernel_rfl) (Enc.consE (cd2_own x8 _) (Enc.nil _ _) rfl) rfl (by decide) (fun a4 h11 H20 => ?_)
     refine ⟨fun x => Hold h x [], fun x => Hold h x [own cd2 a4 1 1 ([x8] : List Int)], H20, Hold.stable, fun x Hy => (show Hold h x [own cd2 a4 1 1 ([x8] : List Int)] from Hy).pk [], fun x Hy => (show Hold h x [] from Hy).pk [], ?_⟩
     refine ZE 6 2 (fun h12 H21 => ?_)
     have H22 : Hold h h12 [own cd2 a4 1 1 ([x8] : List Int)] := H21
     obtain ⟨x11, hx9, gs3⟩ := M.bind_some gs3
     refine ZC 49 #[.slice acycle cycle.length ccycle] (w_spec_l01Own h12 cycle acycle ccycle (rcycle.at H22.ext) _ _ hx9) (fun v2 h13 hp2 => ?_)
     obtain ⟨a5, c3, rfl, H23⟩ := hp2
     have H24 : Hold h h13 [own cd2 a5 x11.length c3 x11, own cd2 a4 1 1 ([x8] : List Int)] := H22.call H23 rfl
     refine ⟨fun x => Hold h x [], fun x => Hold h x [own cd2 a5 x11.length c3 x11, own cd2 a4 1 1 ([x8] : List Int)], H24, Hold.stable, fun x Hy => (show Hold h x [own cd2 a5 x11.length c3 x11, own cd2 a4 1 1 ([x8] : List Int)] from Hy).pk [], fun x Hy => (show Hold h x [] from Hy).pk [], ?_⟩
     refine ZE 5 7 (fun h14 H25 => ?_)
     have H26 : Hold h h14 [own cd2 a5 x11.length c3 x11, own cd2 a4 1 1 ([x8] : List Int)] := H25
     obtain ⟨l2, hl2, gs3⟩ := M.bind_some gs3
     have hl2 := M.app_some hl2
     have H27 : Hold h h14 [own cd2 a4 1 1 ([x8] : List Int), own cd2 a5 x11.length c3 x11] := H26.pk [1, 0]
     have H28 : Hold h h14 [own cd2 a5 x11.length c3 x11, own cd2 a4 1 1 ([x8] : List Int)] := H27.pk [1, 0]
     refine E_app (C := cd2) (t := 24) (ty := 24) (n := x11.length) (m := 1) H28 cd2_ti rfl Tryz.underlying24 (by decide) (by kernel_rfl) hl2 (fun a6 c4 h15 H29 => ?_)
     refine ⟨fun x => Hold h x [own cd2 a6 l2.length c4 l2], fun x => Hold h x [own cd2 a6 l2.length c4 l2], H29, Hold.stable, fun x Hy => (show Hold h x [own cd2 a6 l2.length c4 l2] from Hy).pk [0], fun x Hy => (show Hold h x [own cd2 a6 l2.length c4 l2] from Hy).pk [], ?_⟩
     obtain ⟨x12, hx10, gs3⟩ := M.bind_some gs3
     refine ZY 4 8 (.tuple #[.int .i64 x12.1, .bool x12.2]) (fun hx Hx => (YE.of (ZQ 133 #[.slice aa_ a_.length ca_, .slice a6 l2.length c4] (w_spec_l03Walk hx a_ aa_ ca_ (ra_.at Hx.ext) l2 a6 c4 (Hx.rd 0 rfl) _ _ hx10)))) ?_
     refine ZB 0 [.int .i64 x12.1, .bool x12.2, .int .i64 x12.1, .bool x12.2] 9 ?_
     refine ZT 13 (fun h16 H30 => ?_)
     have H31 : Hold h h16 [own cd2 a6 l2.length c4 l2] := H30
     refine Zx ?_
     refine Zk [4, 5] [(4, .int .i64 x12.1), (5, .bool x12.2)] ?_
     have H38 : Hold h h16 [] := H31.pk []
     have gs3 := M.ret_some gs3
     subst gs3
     exact Zf [4, 5] ⟨rfl, H38⟩
  ·refine Run_block ?_
   refine Zk [0, 1, 6] [(0, .slice aa_ a_.length ca_), (1, .slice acycle cycle.length ccycle), (6, .int .i64 0)] ?_
   refine Run_loop (fun m L' h' => ∃ (i1 : Int) (s1 : Unit), 0 ≤ i1 ∧ M.forN (cycle.length : Int) _ _ n m i1 s1 = some x3 ∧ L' = [(0, .slice aa_ a_.length ca_), (1, .slice acycle cycle.length ccycle), (6, .int .i64 i1)] ∧ Hold h h' []) ((cycle.length : Int) - 0 : Int).toNat ⟨0, (), Int.le_refl _, gx3, rfl, H0⟩ ?_
   rintro my1 _ h1 ⟨i1, s1, hloy1', gx3, rfl, H1⟩
   refine Zs ?_
   refine Zs ?_
   refine Zq [.int .i64 i1, .slice acycle cycle.length ccycle, .int .i64 (cycle.length : Int), .bool (decide (i1 < (cycle.length : Int)))] [0, 1, 6, 19] [(0, .slice aa_ a_.length ca_), (1, .slice acycle cycle.length ccycle), (6, .int .i64 i1), (19, .bool (decide (i1 < (cycle.length : Int))))] ?_
   refine Zc (decide (i1 < (cycle.length : Int))) (fun hb3 => ?_) (fun hb3 => ?_)
   ·obtain ⟨my1, y1, rfl, hB1, hgoy1, houty1⟩ := M.for_go gx3 hb3
    have hlty1 := of_decide_eq_true hb3
    refine Run_skip ?_
    refine Zs ?_
    refine Run_block ?_
    refine Zs ?_
    obtain ⟨x4, hx2, hB1⟩ := M.bind_some hB1
    obtain ⟨hx2a, hx2b, hx2c, hx2d⟩ := M.sub_some hx2
    have hn1 : x4.length = i1.toNat - (0 : Int).toNat := by rw [hx2d, List.length_take, List.length_drop]; omega
    obtain ⟨x5, hx3, hB1⟩ := M.bind_some hB1
    obtain ⟨hx3l, hx3u, hx3⟩ := M.idx_some hx3
    obtain ⟨x6, hx4, hB1⟩ := M.bind_some hB1
    refine Run_draw 8 mixed (by kernel_rfl) (by kernel_rfl) (L' := [(0, .slice aa_ a_.length ca_), (1, .slice acycle cycle.length ccycle), (6, .int .i64 i1), (29, .bool x6)]) ?_ ?_
    ·refine Zb [.slice acycle cycle.length ccycle, .int .i64 i1] 0 ?_
     refine Zy (.slice (sliceA acycle ccycle 0 1) (i1.toNat - (0 : Int).toNat) (ccycle - 0)) (Y_slice (t := 24) (e := 2) (sz := 1) (a := acycle) (n := cycle.length) (cap := ccycle) (lo := none) (hi := (some (.i64, i1))) (x := 0) (y := i1) (by kernel_rfl) Tryz.underlying24 (by kernel_rfl) (rcycle.at H1.ext).fits rfl rfl hx2a hx2b hx2c) ?_
     refine Zb [.slice acycle cycle.length ccycle, .int .i64 i1] 3 ?_
     refine Zy (.pointer (some (adr acycle (i1.toNat * 1)))) (Zi 24 2 1 (acycle) (cycle.length) (ccycle) .i64 (i1) Tryz.underlying24 ((rcycle.at H1.ext).cell hx3).1 hx3l hx3u) ?_
     refine Zy (.int .i64 x5) (Zl 2 (adr acycle (i1.toNat * 1)) (.int .i64 x5) (cd2_cell (rcycle.at H1.ext) hx3)) ?_
     refine Zy (.bool x6) (ZQ 69 #[.slice (sliceA acycle ccycle 0 1) (i1.toNat - (0 : Int).toNat) (ccycle - 0), .int .i64 x5] (Fn.arg (w_spec_l01Has h1 x4 (sliceA acycle ccycle 0 1) (ccycle - 0) (show Rd _ _ _ _ _ x4 from hx2d ▸ ((rcycle.at H1.ext)).sub (by omega) (by omega)) x5 _ _ hx4) (by simp only [hn1]))) ?_
     exact Zd [0, 1, 6, 29]
    refine Zc (x6) (fun hb4 => ?_) (fun hb4 => ?_)
    ·have hB1 := (M.ite_some hB1).1 hb4
     refine Zs ?_
     refine Zq [.int .i64 0, .bool false] [4, 5] [(4, .int .i64 0), (5, .bool false)] ?_
     have hB1 := M.ret_some hB1
     have gx3 := houty1 _ hB1.symm
     have hF := M.cont_inr' hF gx3
     have hF := M.ret_some hF
     subst hF
     exact Run_ret2 rfl (Zt (.int .i64 0)) (Zt (.bool false)) ⟨rfl, H1⟩
    ·have hB1 := (M.ite_some hB1).2 hb4
     refine Run_skip ?_
     refine Run_blk ?_
     refine Zg 3 [(0, .slice aa_ a_.length ca_), (1, .slice acycle cycle.length ccycle), (6, .int .i64 (i1 + 1))] ?_ ?_
     ·refine Zb [.int .i64 i1] 0 ?_
      refine Zy (.int .i64 (i1 + 1)) (Y_eq (v := .int .i64 (w64 (i1 + 1))) (Y_pure (fun w => by kernel_rfl)) (by rw [w64_eq _ (by omega)])) ?_
      refine Zb [.int .i64 (i1 + 1)] 2 ?_
      exact Zd [0, 1, 6]
     have hB1 := M.ret_some hB1
     have gx3 := hgoy1 _ hB1.symm
     exact Za [0, 1, 6] my1 ⟨i1 + 1, (), by omega, gx3, rfl, H1⟩
   ·have gx3 := M.for_end gx3 hb3
    subst gx3
    refine Run_exit (k' := _) rfl ?_
    exact Zf [0, 1] ⟨(), rfl, rfl, H1⟩

theorem w_spec_l01Divisor (h : Heap) (a_ : Int) (b : Int) (n : Nat) (r : Int) (hF : spec_l01Divisor a_ b n = some r) :
  Fn Tryz.prog 134 #[.int .i64 a_, .int .i64 b] h fun v h' => v = .int .i64 r ∧ h' = h := by
 unfold spec_l01Divisor at hF
 refine Zo [.int .i64 a_, .int .i64 b] Tryz.func134 rfl (fun w0 _ => ?_)
 refine Zs ?_
 refine Zq [.int .i64 0] [0, 1] [(0, .int .i64 a_), (1, .int .i64 b)] ?_
 refine Zs ?_
 refine Zq [.int .i64 a_, .int .i64 a_, .int .i64 (w64 (0 - a_)), .int .i64 (mx a_ (w64 (0 - a_))), .int .i64 b, .int .i64 b, .int .i64 (w64 (0 - b)), .int .i64 (mx b (w64 (0 - b))), .int .i64 (mx a_ (w64 (0 - a_))), .int .i64 (mx b (w64 (0 - b)))] [0, 1] [(0, .int .i64 (mx a_ (w64 (0 - a_)))), (1, .int .i64 (mx b (w64 (0 - b))))] ?_
 refine Zs ?_
 obtain ⟨x1, gx1, hF⟩ := M.bind_some hF
 refine Run_join (fun L' h' => L' = [(0, .int .i64 x1.1)] ∧ h = h') ?_ ?_
 ·rintro _ _ ⟨rfl, rfl⟩
  refine Zs ?_
  refine Zq [.int .i64 x1.1, .int .i64 x1.1] [4] [(4, .int .i64 x1.1)] ?_
  have hF := M.ret_some hF
  subst hF
  exact Run_ret1 rfl (Zt (.int .i64 x1.1)) ⟨rfl, rfl⟩
 ·refine Run_block ?_
  refine Zk [0, 1] [(0, .int .i64 (mx a_ (w64 (0 - a_)))), (1, .int .i64 (mx b (w64 (0 - b))))] ?_
  refine Run_loop (fun m L' h' => ∃ (s1 : Int × Int), M.loopN _ n m s1 = some x1 ∧ L' = [(0, .int .i64 s1.1), (1, .int .i64 s1.2)] ∧ h = h') n ⟨((mx a_ (w64 (0 - a_))), (mx b (w64 (0 - b)))), gx1, rfl, rfl⟩ ?_
  rintro my1 _ _ ⟨s1, gx1, rfl, rfl⟩
  obtain ⟨my1, y1, rfl, hB1, hgoy1, houty1⟩ := M.loop_some gx1
  refine Zs ?_
  refine Zs ?_
  refine Zq [.int .i64 s1.2, .bool (decide (0 < s1.2))] [0, 1, 14] [(0, .int .i64 s1.1), (1, .int .i64 s1.2), (14, .bool (decide (0 < s1.2)))] ?_
  refine Zc (decide (0 < s1.2)) (fun hb1 => ?_) (fun hb1 => ?_)
  ·have hB1 := (M.ite_some hB1).1 hb1
   refine Run_skip ?_
   refine Run_block ?_
   obtain ⟨u1, hz1, hB1⟩ := M.bind_some hB1
   have hz1 := M.guard_some hz1
   refine Run_draw 6 mixed (by kernel_rfl) (by kernel_rfl) (L' := [(0, .int .i64 s1.2), (1, .int .i64 (s1.1.tmod s1.2))]) ?_ ?_
   ·refine Zb [.int .i64 s1.2, .int .i64 s1.1, .int .i64 s1.2] 0 ?_
    refine Zy (.int .i64 (s1.1.tmod s1.2)) (Y_rem (op := .rem) (k := .i64) (x := s1.1) (y := s1.2) (by kernel_rfl) hz1) ?_
    refine Zb [.int .i64 s1.2, .int .i64 (s1.1.tmod s1.2)] 4 ?_
    exact Zd [0, 1]
   refine Run_blk ?_
   have hB1 := M.ret_some hB1
   have gx1 := hgoy1 _ hB1.symm
   exact Za [0, 1] my1 ⟨(s1.2, (s1.1.tmod s1.2)), gx1, rfl, rfl⟩
  ·have hB1 := (M.ite_some hB1).2 hb1
   refine Run_exit (k' := _) rfl ?_
   have hB1 := M.ret_some hB1
   have gx1 := houty1 _ hB1.symm
   subst gx1
   exact Zf [0] ⟨rfl, rfl⟩

theorem w_spec_l01Ratio (h : Heap) (num : Int) (den : Int) (n : Nat) (r : TRatio) (hF : spec_l01Ratio num den n = some r) :
  Fn Tryz.prog 92 #[.int .i64 num, .int .i64 den] h fun v h' => v = .agg #[.int .i64 r.Num, .int .i64 r.Den] ∧ Hold h h' [] := by
 unfold spec_l01Ratio at hF
 refine Zo [.int .i64 num, .int .i64 den] Tryz.func92 rfl (fun w0 _ => ?_)
 have H0 := Hold.init h
 refine Zs ?_
 refine Run_ops ?_
 refine Ze ?_
 refine E_box (ty := 44) (cs := [.int .i64 0, .int .i64 0]) H0 (fun w => by kernel_rfl) (fun b1 h1 H1 => ?_)
 refine Zx ?_
 refine Zk [0, 1, 4] [(0, .int .i64 num), (1, .int .i64 den), (4, pV b1)] ?_
 refine Zs ?_
 refine Zs ?_
 refine Zq [.int .i64 den, .bool (decide (den < 0))] [0, 1, 4, 7] [(0, .int .i64 num), (1, .int .i64 den), (4, pV b1), (7, .bool (decide (den < 0)))] ?_
 obtain ⟨s1, gs1, hF⟩ := M.bind_some hF
 refine Run_join (fun L' h' => L' = [(0, .int .i64 s1.1), (1, .int .i64 s1.2), (4, pV b1)] ∧ Hold h h' [box b1 44 [.int .i64 0, .int .i64 0]]) ?_ ?_
 ·rintro _ h2 ⟨rfl, H2⟩
  refine Zs ?_
  obtain ⟨x1, hx1, hF⟩ := M.bind_some hF
  refine Zg 4 [(0, .int .i64 s1.1), (1, .int .i64 s1.2), (4, pV b1), (5, .int .i64 x1)] ?_ ?_
  ·refine Zb [.int .i64 s1.1, .int .i64 s1.2] 0 ?_
   refine Zy (.int .i64 x1) (ZQ 134 #[.int .i64 s1.1, .int .i64 s1.2] (w_spec_l01Divisor h2 s1.1 s1.2 _ _ hx1)) ?_
   refine Zb [.int .i64 x1] 3 ?_
   exact Zd [0, 1, 4, 5]
  refine Zs ?_
  obtain ⟨u1, hz1, hF⟩ := M.bind_some hF
  have hz1 := M.guard_some hz1
  obtain ⟨u2, hz2, hF⟩ := M.bind_some hF
  have hz2 := M.guard_some hz2
  refine Run_D (fun x => Hold h x [box b1 44 [.int .i64 0, .int .i64 0]]) (fun x => Hold h x [box b1 44 [.int .i64 0, .int .i64 0]]) mixed (by kernel_rfl) H2 Hold.stable (fun x Hy => (show Hold h x [box b1 44 [.int .i64 0, .int .i64 0]] from Hy).pk [0]) ?_
  refine ZB 6 [.int .i64 s1.1, .int .i64 x1] 0 ?_
  refine ZY 5 2 (.int .i64 (w64 (s1.1.tdiv x1))) (fun hx Hx => (YE.of (Y_quo (op := .quo) (k := .i64) (x := s1.1) (y := x1) (by kernel_rfl) hz1))) ?_
  refine ZB 3 [.int .i64 s1.2, .int .i64 x1] 3 ?_
  refine ZY 2 5 (.int .i64 (w64 (s1.2.tdiv x1))) (fun hx Hx => (YE.of (Y_quo (op := .quo) (k := .i64) (x := s1.2) (y := x1) (by kernel_rfl) hz2))) ?_
  refine ZB 1 [.agg #[.int .i64 (w64 (s1.1.tdiv x1)), .int .i64 (w64 (s1.2.tdiv x1))]] 6 ?_
  refine ZT 7 (fun h3 H3 => ?_)
  have H4 : Hold h h3 [box b1 44 [.int .i64 0, .int .i64 0]] := H3
  refine Ze ?_
  refine ZP 44 0 [.int .i64 (w64 (s1.1.tdiv x1)), .int .i64 (w64 (s1.2.tdiv x1))] (.agg #[.int .i64 (w64 (s1.1.tdiv x1)), .int .i64 (w64 (s1.2.tdiv x1))]) H4 (fun h4 H5 => ?_)
  refine Zx ?_
  refine Zk [4] [(4, pV b1)] ?_
  have hF := M.ret_some hF
  subst hF
  have H6 : Hold h h4 [] := H5.pk []
  exact Run_ret1 rfl (ResV_cell (n := 2) (cs := [.int .i64 (w64 (s1.1.tdiv x1)), .int .i64 (w64 (s1.2.tdiv x1))]) (by kernel_rfl) (fun w => by kernel_rfl) (by kernel_rfl) rfl (H5.cells (n := 2) (off := 0) 0 rfl rfl)) ⟨rfl, H6⟩
 ·refine Zc (decide (den < 0)) (fun hb1 => ?_) (fun hb1 => ?_)
  ·have gs1 := (M.ite_some gs1).1 hb1
   refine Zq [.int .i64 num, .int .i64 (w64 (0 - num)), .int .i64 den, .int .i64 (w64 (0 - den)), .int .i64 (w64 (0 - num)), .int .i64 (w64 (0 - den))] [0, 1, 4] [(0, .int .i64 (w64 (0 - num))), (1, .int .i64 (w64 (0 - den))), (4, pV b1)] ?_
   have gs1 := M.ret_some gs1
   subst gs1
   exact Zf [0, 1, 4] ⟨rfl, H1⟩
  ·have gs1 := (M.ite_some gs1).2 hb1
   refine Run_skip ?_
   have gs1 := M.ret_some gs1
   subst gs1
   exact Zf [0, 1, 4] ⟨rfl, H1⟩

theorem w_spec_l04Mean (h : Heap) (a_ : List (List Int)) (aa_ : Option Addr) (ca_ : Nat) (ra_ : Rd cd24 h (Lt h) aa_ ca_ a_) (cycle : List Int) (acycle : Option Addr) (ccycle : Nat) (rcycle : Rd cd2 h (Lt h) acycle ccycle cycle) (n : Nat) (r : TRatio × Bool) (hF : spec_l04Mean a_ cycle n = some r) :
  Fn Tryz.prog 55 #[.slice aa_ a_.length ca_, .slice acycle cycle.length ccycle] h fun v h' => v = .tuple #[.agg #[.int .i64 r.1.Num, .int .i64 r.1.Den], .bool r.2] ∧ Hold h h' [] := by
 unfold spec_l04Mean at hF
 refine Zo [.slice aa_ a_.length ca_, .slice acycle cycle.length ccycle] Tryz.func55 rfl (fun w0 _ => ?_)
 have H0 := Hold.init h
 refine Zs ?_
 refine Run_ops ?_
 refine Ze ?_
 refine E_box (ty := 44) (cs := [.int .i64 0, .int .i64 0]) H0 (fun w => by kernel_rfl) (fun b1 h1 H1 => ?_)
 refine Zr [.bool false] 1 ?_
 refine Zx ?_
 refine Zk [0, 1, 4] [(0, .slice aa_ a_.length ca_), (1, .slice acycle cycle.length ccycle), (4, pV b1)] ?_
 refine Zs ?_
 obtain ⟨x1, hx1, hF⟩ := M.bind_some hF
 refine Run_regC (j := 8) (C := fun x => Hold h x [box b1 44 [.int .i64 0, .int .i64 0]]) (by kernel_rfl) H1 (L' := [(1, .slice acycle cycle.length ccycle), (4, pV b1), (6, .int .i64 x1.1), (7, .bool x1.2)]) ?_ (fun h2 H2 => ?_)
 ·refine Zb [.slice aa_ a_.length ca_, .slice acycle cycle.length ccycle] 0 ?_
  refine Zy (.tuple #[.int .i64 x1.1, .bool x1.2]) (Y_call (f := 91) (args := #[.slice aa_ a_.length ca_, .slice acycle cycle.length ccycle]) (v := .tuple #[.int .i64 x1.1, .bool x1.2]) (by kernel_rfl) fun hx Hx => (w_spec_l03Cycle hx a_ aa_ ca_ (ra_.at Hx.ext) cycle acycle ccycle (rcycle.at Hx.ext) _ _ hx1).mono fun _ _ ⟨e, H'⟩ => ⟨e, Hx.call H' rfl⟩) ?_
  refine Zb [.tuple #[.int .i64 x1.1, .bool x1.2], .int .i64 x1.1, .bool x1.2, .int .i64 x1.1, .bool x1.2] 3 ?_
  exact Zd [1, 4, 6, 7]
 have H3 : Hold h h2 [box b1 44 [.int .i64 0, .int .i64 0]] := H2
 refine Zs ?_
 refine Zs ?_
 refine Zq [.bool x1.2, .bool (!x1.2)] [1, 4, 6, 15] [(1, .slice acycle cycle.length ccycle), (4, pV b1), (6, .int .i64 x1.1), (15, .bool (!x1.2))] ?_
 refine Zc (!x1.2) (fun hb1 => ?_) (fun hb1 => ?_)
 ·have hF := (M.ite_some hF).1 hb1
  refine Zs ?_
  refine Run_ops ?_
  refine Zr [.agg #[.int .i64 0, .int .i64 0]] 0 ?_
  refine Ze ?_
  refine ZP 44 0 [.int .i64 0, .int .i64 0] (.agg #[.int .i64 0, .int .i64 0]) H3 (fun h3 H4 => ?_)
  refine Zr [.bool false] 2 ?_
  refine Zx ?_
  refine Zk [4, 5] [(4, pV b1), (5, .bool false)] ?_
  have hF := M.ret_some hF
  subst hF
  have H5 : Hold h h3 [] := H4.pk []
  exact Run_ret2 rfl (ResV_cell (n := 2) (cs := [.int .i64 0, .int .i64 0]) (by kernel_rfl) (fun w => by kernel_rfl) (by kernel_rfl) rfl (H4.cells (n := 2) (off := 0) 0 rfl rfl)) (Zt (.bool false)) ⟨rfl, H5⟩
 ·have hF := (M.ite_some hF).2 hb1
  refine Run_skip ?_
  refine Zs ?_
  refine Run_ops ?_
  refine Zr [.int .i64 x1.1, .slice acycle cycle.length ccycle, .int .i64 (cycle.length : Int)] 0 ?_
  obtain ⟨x2, hx2, hF⟩ := M.bind_some hF
  refine Ze ?_
  refine ZC 92 #[.int .i64 x1.1, .int .i64 (cycle.length : Int)] (w_spec_l01Ratio h2 x1.1 (cycle.length : Int) _ _ hx2) (fun v1 h4 hp1 => ?_)
  obtain ⟨rfl, H6⟩ := hp1
  have H7 : Hold h h4 [box b1 44 [.int .i64 0, .int .i64 0]] := H3.call H6 rfl
  refine Ze ?_
  refine ZP 44 0 [.int .i64 x2.Num, .int .i64 x2.Den] (.agg #[.int .i64 x2.Num, .int .i64 x2.Den]) H7 (fun h5 H8 => ?_)
  refine Zr [.bool true] 5 ?_
  refine Zx ?_
  refine Zk [4, 5] [(4, pV b1), (5, .bool true)] ?_
  have hF := M.ret_some hF
  subst hF
  have H9 : Hold h h5 [] := H8.pk []
  exact Run_ret2 rfl (ResV_cell (n := 2) (cs := [.int .i64 x2.Num, .int .i64 x2.Den]) (by kernel_rfl) (fun w => by kernel_rfl) (by kernel_rfl) rfl (H8.cells (n := 2) (off := 0) 0 rfl rfl)) (Zt (.bool true)) ⟨rfl, H9⟩

theorem w_spec_l02Own (h : Heap) (a_ : List (List Int)) (aa_ : Option Addr) (ca_ : Nat) (ra_ : Rd cd24 h (Lt h) aa_ ca_ a_) (n : Nat) (r : (List (List Int))) (hF : spec_l02Own a_ n = some r) :
  Fn Tryz.prog 103 #[.slice aa_ a_.length ca_] h fun v h' => ∃ (a0 : Option Addr) (c0 : Nat), v = .slice a0 r.length c0 ∧ Hold h h' [own cd24 a0 r.length c0 r] := by
 unfold spec_l02Own at hF
 refine Zo [.slice aa_ a_.length ca_] Tryz.func103 rfl (fun w0 _ => ?_)
 have H0 := Hold.init h
 refine Zs ?_
 refine Zq [.slice none 0 0] [0] [(0, .slice aa_ a_.length ca_)] ?_
 refine Zs ?_
 refine Run_ops ?_
 refine Ze ?_
 refine E_lit (C := cd24) (n := 0) (l := []) (cs := []) H0 (fun w => by kernel_rfl) (Enc.nil _ _) rfl (by decide) (fun a1 h1 H1 => ?_)
 refine Zr [.slice a1 0 0] 1 ?_
 refine Zx ?_
 refine Zk [0, 3] [(0, .slice aa_ a_.length ca_), (3, .slice a1 0 0)] ?_
 refine Zs ?_
 refine Zs ?_
 refine Zq [.int .i64 0] [0, 3, 4] [(0, .slice aa_ a_.length ca_), (3, .slice a1 0 0), (4, .int .i64 0)] ?_
 obtain ⟨x1, gx1, hF⟩ := M.bind_some hF
 obtain ⟨hloy1, hhiy1, gx1⟩ := M.for_start gx1
 refine Run_join (fun L' h' => ∃ (a3 : Option Addr) (c2 : Nat), L' = [(3, .slice a3 x1.length c2)] ∧ Hold h h' [own cd24 a3 x1.length c2 x1]) ?_ ?_
 ·rintro _ h3 ⟨a3, c2, rfl, H3⟩
  refine Zs ?_
  refine Zq [.slice a3 x1.length c2, .slice a3 x1.length c2] [2] [(2, .slice a3 x1.length c2)] ?_
  have hF := M.ret_some hF
  subst hF
  exact Run_ret1 rfl (Zt (.slice a3 x1.length c2)) ⟨a3, c2, rfl, H3⟩
 ·refine Run_block ?_
  have hn1 := (H1.len 0 rfl)
  have H11 : Hold h h1 [own cd24 a1 (([] : List (List Int)).length) 0 ([] : List (List Int))] := by rw [hn1]; exact H1
  refine Run_keep [0, 3, 4] (L' := [(0, .slice aa_ a_.length ca_), (3, .slice a1 (([] : List (List Int)).length) 0), (4, .int .i64 0)]) (by first | (rw [hn1]; kernel_rfl) | (simp only [hn1]; kernel_rfl) | kernel_rfl) ?_
  refine Run_loop (fun m L' h' => ∃ (i1 : Int) (s1 : (List (List Int))) (a2 : Option Addr) (c1 : Nat), 0 ≤ i1 ∧ M.forN (a_.length : Int) _ _ n m i1 s1 = some x1 ∧ L' = [(0, .slice aa_ a_.length ca_), (3, .slice a2 s1.length c1), (4, .int .i64 i1)] ∧ Hold h h' [own cd24 a2 s1.length c1 s1]) ((a_.length : Int) - 0 : Int).toNat ⟨0, ([] : List (List Int)), a1, 0, Int.le_refl _, gx1, rfl, H11⟩ ?_
  rintro my1 _ h2 ⟨i1, s1, a2, c1, hloy1', gx1, rfl, H2⟩
  refine Zs ?_
  refine Zs ?_
  refine Zq [.int .i64 i1, .slice aa_ a_.length ca_, .int .i64 (a_.length : Int), .bool (decide (i1 < (a_.length : Int)))] [0, 3, 4, 9] [(0, .slice aa_ a_.length ca_), (3, .slice a2 s1.length c1), (4, .int .i64 i1), (9, .bool (decide (i1 < (a_.length : Int))))] ?_
  refine Zc (decide (i1 < (a_.length : Int))) (fun hb1 => ?_) (fun hb1 => ?_)
  ·obtain ⟨my1, y1, rfl, hB1, hgoy1, houty1⟩ := M.for_go gx1 hb1
   have hlty1 := of_decide_eq_true hb1
   refine Run_skip ?_
   refine Zs ?_
   refine Run_block ?_
   refine Run_ops ?_
   obtain ⟨x2, hx1, hB1⟩ := M.bind_some hB1
   obtain ⟨hx1l, hx1u, hx1⟩ := M.idx_some hx1
   obtain ⟨a4, c3, hc1, r1⟩ := ra_.row hx1
   refine Zr [.slice a2 s1.length c1, .slice aa_ a_.length ca_, .int .i64 i1] 0 ?_
   refine Zz (.pointer (some (adr aa_ (i1.toNat * 1)))) (Zi 22 24 1 (aa_) (a_.length) (ca_) .i64 (i1) Tryz.underlying22 ((ra_.at H2.ext).cell hx1).1 hx1l hx1u) ?_
   refine Zz (.slice a4 x2.length c3) (Zl 24 (adr aa_ (i1.toNat * 1)) (.slice a4 x2.length c3) (cell_at H2.ext hc1)) ?_
   obtain ⟨x3, hx2, hB1⟩ := M.bind_some hB1
   refine Ze ?_
   refine ZC 49 #[.slice a4 x2.length c3] (w_spec_l01Own h2 x2 a4 c3 (r1.at H2.ext) _ _ hx2) (fun v1 h4 hp1 => ?_)
   obtain ⟨a5, c4, rfl, H4⟩ := hp1
   have H5 : Hold h h4 [own cd2 a5 x3.length c4 x3, own cd24 a2 s1.length c1 s1] := H2.call H4 rfl
   refine Ze ?_
   refine E_lit1 (ey := 24) (n := x3.length) H5 (fun w => by kernel_rfl) rfl (fun a6 h5 H6 => ?_)
   obtain ⟨l1, hl1, hB1⟩ := M.bind_some hB1
   have hl1 := M.app_some hl1
   have H7 : Hold h h5 [own cd24 a2 s1.length c1 s1, own cd24 a6 1 1 [x3]] := H6.pk [1, 0]
   have H8 : Hold h h5 [own cd24 a6 1 1 [x3], own cd24 a2 s1.length c1 s1] := H7.pk [1, 0]
   have H9 : Hold h h5 [own cd24 a2 s1.length c1 s1, own cd24 a6 1 1 [x3]] := H8.pk [1, 0]
   refine Ze ?_
   refine E_app (C := cd24) (t := 22) (ty := 22) (n := s1.length) (m := 1) H9 cd24_ti rfl Tryz.underlying22 (by decide) (by kernel_rfl) hl1 (fun a7 c5 h6 H10 => ?_)
   refine Zr [.slice a7 l1.length c5] 8 ?_
   refine Zx ?_
   refine Zk [0, 3, 4] [(0, .slice aa_ a_.length ca_), (3, .slice a7 l1.length c5), (4, .int .i64 i1)] ?_
   refine Run_blk ?_
   refine Zg 3 [(0, .slice aa_ a_.length ca_), (3, .slice a7 l1.length c5), (4, .int .i64 (i1 + 1))] ?_ ?_
   ·refine Zb [.int .i64 i1] 0 ?_
    refine Zy (.int .i64 (i1 + 1)) (Y_eq (v := .int .i64 (w64 (i1 + 1))) (Y_pure (fun w => by kernel_rfl)) (by rw [w64_eq _ (by omega)])) ?_
    refine Zb [.int .i64 (i1 + 1)] 2 ?_
    exact Zd [0, 3, 4]
   have hB1 := M.ret_some hB1
   have gx1 := hgoy1 _ hB1.symm
   exact Za [0, 3, 4] my1 ⟨i1 + 1, l1, a7, c5, by omega, gx1, rfl, H10⟩
  ·have gx1 := M.for_end gx1 hb1
   subst gx1
   refine Run_exit (k' := _) rfl ?_
   exact Zf [3] ⟨a2, c1, rfl, H2⟩

theorem w_spec_l04Shift (h : Heap) (a_ : List (List Int)) (aa_ : Option Addr) (ca_ : Nat) (ra_ : Rd cd24 h (Lt h) aa_ ca_ a_) (r_ : TRatio) (n : Nat) (r : (List (List Int))) (hF : spec_l04Shift a_ r_ n = some r) :
  Fn Tryz.prog 59 #[.slice aa_ a_.length ca_, .agg #[.int .i64 r_.Num, .int .i64 r_.Den]] h fun v h' => ∃ (a0 : Option Addr) (c0 : Nat), v = .slice a0 r.length c0 ∧ Hold h h' [own cd24 a0 r.length c0 r] := by
 unfold spec_l04Shift at hF
 refine Zo [.slice aa_ a_.length ca_, .agg #[.int .i64 r_.Num, .int .i64 r_.Den]] Tryz.func59 rfl (fun w0 _ => ?_)
 have H0 := Hold.init h
 refine Zs ?_
 refine Run_ops ?_
 refine Ze ?_
 refine E_box (ty := 44) (cs := [.int .i64 r_.Num, .int .i64 r_.Den]) H0 (fun w => by kernel_rfl) (fun b1 h1 H1 => ?_)
 refine Zr [.slice none 0 0] 1 ?_
 refine Zx ?_
 refine Zk [0, 3] [(0, .slice aa_ a_.length ca_), (3, pV b1)] ?_
 refine Zs ?_
 refine Run_ops ?_
 refine Zr [.slice aa_ a_.length ca_] 0 ?_
 obtain ⟨x1, hx1, hF⟩ := M.bind_some hF
 refine Ze ?_
 refine ZC 103 #[.slice aa_ a_.length ca_] (w_spec_l02Own h1 a_ aa_ ca_ (ra_.at H1.ext) _ _ hx1) (fun v1 h2 hp1 => ?_)
 obtain ⟨a1, c1, rfl, H2⟩ := hp1
 have H3 : Hold h h2 [own cd24 a1 x1.length c1 x1, box b1 44 [.int .i64 r_.Num, .int .i64 r_.Den]] := H1.call H2 rfl
 refine Zr [.slice a1 x1.length c1] 2 ?_
 refine Zx ?_
 refine Zk [0, 3, 5] [(0, .slice aa_ a_.length ca_), (3, pV b1), (5, .slice a1 x1.length c1)] ?_
 refine Zs ?_
 refine Zs ?_
 refine Zq [.int .i64 0] [0, 3, 5, 6] [(0, .slice aa_ a_.length ca_), (3, pV b1), (5, .slice a1 x1.length c1), (6, .int .i64 0)] ?_
 obtain ⟨x2, gx2, hF⟩ := M.bind_some hF
 obtain ⟨hloy1, hhiy1, gx2⟩ := M.for_start gx2
 refine Run_join (fun L' h' => L' = [(5, .slice a1 x1.length c1)] ∧ Hold h h' [own cd24 a1 x1.length c1 x2]) ?_ ?_
 ·rintro _ h4 ⟨rfl, H5⟩
  refine Zs ?_
  refine Zq [.slice a1 x1.length c1, .slice a1 x1.length c1] [4] [(4, .slice a1 x1.length c1)] ?_
  have hF := M.ret_some hF
  subst hF
  have H20 := H5.norm
  exact Run_ret1 rfl (Zt (.slice a1 x1.length c1)) ⟨a1, c1, (by simp only [(H5.len 0 rfl)]), H20⟩
 ·refine Run_block ?_
  have H21 : Hold h h2 [box b1 44 [.int .i64 r_.Num, .int .i64 r_.Den], own cd24 a1 x1.length c1 x1] := H3.pk [1, 0]
  refine Zk [0, 3, 5, 6] [(0, .slice aa_ a_.length ca_), (3, pV b1), (5, .slice a1 x1.length c1), (6, .int .i64 0)] ?_
  refine Run_loop (fun m L' h' => ∃ (i1 : Int) (s1 : (List (List Int))), 0 ≤ i1 ∧ M.forN (a_.length : Int) _ _ n m i1 s1 = some x2 ∧ L' = [(0, .slice aa_ a_.length ca_), (3, pV b1), (5, .slice a1 x1.length c1), (6, .int .i64 i1)] ∧ Hold h h' [box b1 44 [.int .i64 r_.Num, .int .i64 r_.Den], own cd24 a1 x1.length c1 s1]) ((a_.length : Int) - 0 : Int).toNat ⟨0, x1, Int.le_refl _, gx2, rfl, H21⟩ ?_
  rintro my1 _ h3 ⟨i1, s1, hloy1', gx2, rfl, H4⟩
  refine Zs ?_
  refine Zs ?_
  refine Zq [.int .i64 i1, .slice aa_ a_.length ca_, .int .i64 (a_.length : Int), .bool (decide (i1 < (a_.length : Int)))] [0, 3, 5, 6, 13] [(0, .slice aa_ a_.length ca_), (3, pV b1), (5, .slice a1 x1.length c1), (6, .int .i64 i1), (13, .bool (decide (i1 < (a_.length : Int))))] ?_
  refine Zc (decide (i1 < (a_.length : Int))) (fun hb1 => ?_) (fun hb1 => ?_)
  ·obtain ⟨my1, y1, rfl, hB1, hgoy1, houty1⟩ := M.for_go gx2 hb1
   have hlty1 := of_decide_eq_true hb1
   refine Run_skip ?_
   refine Zs ?_
   refine Run_block ?_
   refine Zs ?_
   refine Zq [.int .i64 0] [0, 3, 5, 6, 7] [(0, .slice aa_ a_.length ca_), (3, pV b1), (5, .slice a1 x1.length c1), (6, .int .i64 i1), (7, .int .i64 0)] ?_
   obtain ⟨x3, gx3, hB1⟩ := M.bind_some hB1
   obtain ⟨hloy2, hhiy2, gx3⟩ := M.for_start gx3
   refine Run_join (fun L' h' => L' = [(0, .slice aa_ a_.length ca_), (3, pV b1), (5, .slice a1 x1.length c1), (6, .int .i64 i1)] ∧ Hold h h' [box b1 44 [.int .i64 r_.Num, .int .i64 r_.Den], own cd24 a1 x1.length c1 x3]) ?_ ?_
   ·rintro _ h6 ⟨rfl, H7⟩
    refine Run_blk ?_
    refine Zg 3 [(0, .slice aa_ a_.length ca_), (3, pV b1), (5, .slice a1 x1.length c1), (6, .int .i64 (i1 + 1))] ?_ ?_
    ·refine Zb [.int .i64 i1] 0 ?_
     refine Zy (.int .i64 (i1 + 1)) (Y_eq (v := .int .i64 (w64 (i1 + 1))) (Y_pure (fun w => by kernel_rfl)) (by rw [w64_eq _ (by omega)])) ?_
     refine Zb [.int .i64 (i1 + 1)] 2 ?_
     exact Zd [0, 3, 5, 6]
    have hB1 := M.ret_some hB1
    have gx2 := hgoy1 _ hB1.symm
    exact Za [0, 3, 5, 6] my1 ⟨i1 + 1, x3, by omega, gx2, rfl, H7⟩
   ·refine Run_block ?_
    refine Zk [0, 3, 5, 6, 7] [(0, .slice aa_ a_.length ca_), (3, pV b1), (5, .slice a1 x1.length c1), (6, .int .i64 i1), (7, .int .i64 0)] ?_
    refine Run_loop (fun m L' h' => ∃ (i2 : Int) (s2 : (List (List Int))), 0 ≤ i2 ∧ M.forN (a_.length : Int) _ _ n m i2 s2 = some x3 ∧ L' = [(0, .slice aa_ a_.length ca_), (3, pV b1), (5, .slice a1 x1.length c1), (6, .int .i64 i1), (7, .int .i64 i2)] ∧ Hold h h' [box b1 44 [.int .i64 r_.Num, .int .i64 r_.Den], own cd24 a1 x1.length c1 s2]) ((a_.length : Int) - 0 : Int).toNat ⟨0, s1, Int.le_refl _, gx3, rfl, H4⟩ ?_
    rintro my2 _ h5 ⟨i2, s2, hloy2', gx3, rfl, H6⟩
    refine Zs ?_
    refine Zs ?_
    refine Zq [.int .i64 i2, .slice aa_ a_.length ca_, .int .i64 (a_.length : Int), .bool (decide (i2 < (a_.length : Int)))] [0, 3, 5, 6, 7, 19] [(0, .slice aa_ a_.length ca_), (3, pV b1), (5, .slice a1 x1.length c1), (6, .int .i64 i1), (7, .int .i64 i2), (19, .bool (decide (i2 < (a_.length : Int))))] ?_
    refine Zc (decide (i2 < (a_.length : Int))) (fun hb2 => ?_) (fun hb2 => ?_)
    ·obtain ⟨my2, y2, rfl, hB2, hgoy2, houty2⟩ := M.for_go gx3 hb2
     have hlty2 := of_decide_eq_true hb2
     refine Run_skip ?_
     refine Zs ?_
     refine Run_block ?_
     refine Zs ?_
     obtain ⟨x4, hx2, hB2⟩ := M.bind_some hB2
     obtain ⟨hx2l, hx2u, hx2⟩ := M.idx_some hx2
     obtain ⟨a2, c2, hc1, r1⟩ := ra_.row hx2
     obtain ⟨x5, hx3, hB2⟩ := M.bind_some hB2
     obtain ⟨hx3l, hx3u, hx3⟩ := M.idx_some hx3
     refine Zg 8 [(0, .slice aa_ a_.length ca_), (3, pV b1), (5, .slice a1 x1.length c1), (6, .int .i64 i1), (7, .int .i64 i2), (29, .bool (x5 != (-1000000000000000)))] ?_ ?_
     ·refine Zb [.slice aa_ a_.length ca_, .int .i64 i1] 0 ?_
      refine Zy (.pointer (some (adr aa_ (i1.toNat * 1)))) (Zi 22 24 1 (aa_) (a_.length) (ca_) .i64 (i1) Tryz.underlying22 ((ra_.at H6.ext).cell hx2).1 hx2l hx2u) ?_
      refine Zy (.slice a2 x4.length c2) (Zl 24 (adr aa_ (i1.toNat * 1)) (.slice a2 x4.length c2) (cell_at H6.ext hc1)) ?_
      refine Zb [.int .i64 i2] 4 ?_
      refine Zy (.pointer (some (adr a2 (i2.toNat * 1)))) (Zi 24 2 1 (a2) (x4.length) (c2) .i64 (i2) Tryz.underlying24 ((r1.at H6.ext).cell hx3).1 hx3l hx3u) ?_
      refine Zy (.int .i64 x5) (Zl 2 (adr a2 (i2.toNat * 1)) (.int .i64 x5) (cd2_cell (r1.at H6.ext) hx3)) ?_
      refine Zb [.bool (x5 != (-1000000000000000))] 7 ?_
      exact Zd [0, 3, 5, 6, 7, 29]
     obtain ⟨s3, gs3, hB2⟩ := M.bind_some hB2
     refine Run_join (fun L' h' => L' = [(0, .slice aa_ a_.length ca_), (3, pV b1), (5, .slice a1 x1.length c1), (6, .int .i64 i1), (7, .int .i64 i2)] ∧ Hold h h' [box b1 44 [.int .i64 r_.Num, .int .i64 r_.Den], own cd24 a1 x1.length c1 s3]) ?_ ?_
     ·rintro _ h9 ⟨rfl, H16⟩
      refine Run_blk ?_
      refine Zg 3 [(0, .slice aa_ a_.length ca_), (3, pV b1), (5, .slice a1 x1.length c1), (6, .int .i64 i1), (7, .int .i64 (i2 + 1))] ?_ ?_
      ·refine Zb [.int .i64 i2] 0 ?_
       refine Zy (.int .i64 (i2 + 1)) (Y_eq (v := .int .i64 (w64 (i2 + 1))) (Y_pure (fun w => by kernel_rfl)) (by rw [w64_eq _ (by omega)])) ?_
       refine Zb [.int .i64 (i2 + 1)] 2 ?_
       exact Zd [0, 3, 5, 6, 7]
      have hB2 := M.ret_some hB2
      have gx3 := hgoy2 _ hB2.symm
      exact Za [0, 3, 5, 6, 7] my2 ⟨i2 + 1, s3, by omega, gx3, rfl, H16⟩
     ·refine Zc (x5 != (-1000000000000000)) (fun hb3 => ?_) (fun hb3 => ?_)
      ·have gs3 := (M.ite_some gs3).1 hb3
       obtain ⟨x6, hx4, gs3⟩ := M.bind_some gs3
       obtain ⟨hx4l, hx4u, hx4⟩ := M.idx_some hx4
       have H8 : Hold h h5 [own cd24 a1 x1.length c1 s2, box b1 44 [.int .i64 r_.Num, .int .i64 r_.Den]] := H6.pk [1, 0]
       have H9 := H8.toRows
       obtain ⟨a3, c3, H10⟩ := H9.pinRow hx4
       have H11 : Hold h h5 [box b1 44 [.int .i64 r_.Num, .int .i64 r_.Den], rowsP cd2 24 a1 x1.length c1 s2 [(i1.toNat, a3, x6.length, c3, x6)]] := H10.pk [1, 0]
       obtain ⟨x7, hx5, gs3⟩ := M.bind_some gs3
       obtain ⟨hx5l, hx5u, hx5⟩ := M.idx_some hx5
       obtain ⟨a4, c4, hc2, r2⟩ := ra_.row hx5
       obtain ⟨x8, hx6, gs3⟩ := M.bind_some gs3
       obtain ⟨hx6l, hx6u, hx6⟩ := M.idx_some hx6
       obtain ⟨x9, hx7, gs3⟩ := M.bind_some gs3
       obtain ⟨hx7l, hx7u, hx7⟩ := M.idx_some hx7
       refine Run_D (fun x => Hold h x [box b1 44 [.int .i64 r_.Num, .int .i64 r_.Den], rowsP cd2 24 a1 x1.length c1 s2 [(i1.toNat, a3, x6.length, c3, x6)]]) (fun x => Hold h x [box b1 44 [.int .i64 r_.Num, .int .i64 r_.Den], rowsP cd2 24 a1 x1.length c1 s2 [(i1.toNat, a3, x6.length, c3, x6)]]) mixed (by kernel_rfl) H11 Hold.stable (fun x Hy => (show Hold h x [box b1 44 [.int .i64 r_.Num, .int .i64 r_.Den], rowsP cd2 24 a1 x1.length c1 s2 [(i1.toNat, a3, x6.length, c3, x6)]] from Hy).pk [0, 1]) ?_
       refine ZB 18 [.slice a1 x1.length c1, .int .i64 i1] 0 ?_
       refine ZY 17 2 (.pointer (some (adr a1 (i1.toNat * 1)))) (fun hx Hx => (YE.of (Zi 22 24 1 (a1) (x1.length) (c1) .i64 (i1) Tryz.underlying22 ((H6.rd 1 rfl).cell hx4).1 hx4l (by rw [← (H6.len 1 rfl)]; exact hx4u)))) ?_
       refine ZY 16 3 (.slice a3 x6.length c3) (fun hx Hx => (YE.of (Zl 24 (adr a1 (i1.toNat * 1)) (.slice a3 x6.length c3) (Hx.cellPin 1 rfl 0 rfl)))) ?_
       refine ZB 14 [.int .i64 i2, .pointer (some ⟨b1, 1, none⟩)] 4 ?_
       refine ZY 13 6 (.int .i64 r_.Den) (fun hx Hx => (YE.of (Zl 2 (⟨b1, 1, none⟩) (.int .i64 r_.Den) (Hx.cell 0 rfl rfl)))) ?_
       refine ZB 11 [.slice aa_ a_.length ca_, .int .i64 i1] 7 ?_
       refine ZY 10 9 (.pointer (some (adr aa_ (i1.toNat * 1)))) (fun hx Hx => (YE.of (Zi 22 24 1 (aa_) (a_.length) (ca_) .i64 (i1) Tryz.underlying22 ((ra_.at H11.ext).cell hx5).1 hx5l hx5u))) ?_
       refine ZY 9 10 (.slice a4 x7.length c4) (fun hx Hx => (YE.of (Zl 24 (adr aa_ (i1.toNat * 1)) (.slice a4 x7.length c4) (cell_at Hx.ext hc2)))) ?_
       refine ZB 8 [.int .i64 i2] 11 ?_
       refine ZY 7 12 (.pointer (some (adr a4 (i2.toNat * 1)))) (fun hx Hx => (YE.of (Zi 24 2 1 (a4) (x7.length) (c4) .i64 (i2) Tryz.underlying24 ((r2.at H11.ext).cell hx6).1 hx6l hx6u))) ?_
       refine ZY 6 13 (.int .i64 x8) (fun hx Hx => (YE.of (Zl 2 (adr a4 (i2.toNat * 1)) (.int .i64 x8) (cd2_cell (r2.at Hx.ext) hx6)))) ?_
       refine ZB 4 [.int .i64 (w64 (r_.Den * x8)), pV b1] 14 ?_
       refine ZY 3 16 (.int .i64 r_.Num) (fun hx Hx => (YE.of (Zl 2 (⟨b1, 0, none⟩) (.int .i64 r_.Num) (Hx.cell 0 rfl rfl)))) ?_
       refine ZB 2 [.int .i64 (w64 ((w64 (r_.Den * x8)) - r_.Num))] 17 ?_
       refine ZY 1 18 (.pointer (some (adr a3 (i2.toNat * 1)))) (fun hx Hx => (YE.of (Zi 24 2 1 (a3) (x6.length) (c3) .i64 (i2) Tryz.underlying24 ((H11.rdPin 1 rfl 0 rfl).cell hx7).1 hx7l hx7u))) ?_
       refine ZT 19 (fun h7 H12 => ?_)
       have H13 : Hold h h7 [box b1 44 [.int .i64 r_.Num, .int .i64 r_.Den], rowsP cd2 24 a1 x1.length c1 s2 [(i1.toNat, a3, x6.length, c3, x6)]] := H12
       obtain ⟨l1, hu1, gs3⟩ := M.bind_some gs3
       have hu1 := M.upd_some hu1
       have H15 : Hold h h7 [rowsP cd2 24 a1 x1.length c1 s2 [(i1.toNat, a3, x6.length, c3, x6)], box b1 44 [.int .i64 r_.Num, .int .i64 r_.Den]] := H13.pk [1, 0]
       refine Ze ?_
       refine E_put2 (C := cd2) (t := 2) (sz := 1) (j := i2) (x := (w64 ((w64 (r_.Den * x8)) - r_.Num))) (v := .int .i64 (w64 ((w64 (r_.Den * x8)) - r_.Num))) (m2 := s2.set i1.toNat l1) H15 cd2_flat 0 rfl (by kernel_rfl) rfl (cd2_own _) (by kernel_rfl) hu1 rfl (fun h8 H14 => ?_)
       refine Zx ?_
       refine Zk [0, 3, 5, 6, 7] [(0, .slice aa_ a_.length ca_), (3, pV b1), (5, .slice a1 x1.length c1), (6, .int .i64 i1), (7, .int .i64 i2)] ?_
       have H17 := H14.ofRows
       have H18 : Hold h h8 [box b1 44 [.int .i64 r_.Num, .int .i64 r_.Den], own cd24 a1 x1.length c1 (s2.set i1.toNat l1)] := H17.pk [1, 0]
       have gs3 := M.ret_some gs3
       subst gs3
       exact Zf [0, 3, 5, 6, 7] ⟨rfl, H18⟩
      ·have gs3 := (M.ite_some gs3).2 hb3
       refine Run_skip ?_
       have gs3 := M.ret_some gs3
       subst gs3
       exact Zf [0, 3, 5, 6, 7] ⟨rfl, H6⟩
    ·have gx3 := M.for_end gx3 hb2
     subst gx3
     refine Run_exit (k' := _) rfl ?_
     exact Zf [0, 3, 5, 6] ⟨rfl, H6⟩
  ·have gx2 := M.for_end gx2 hb1
   subst gx2
   refine Run_exit (k' := _) rfl ?_
   have H19 : Hold h h3 [own cd24 a1 x1.length c1 s1] := H4.pk [1]
   exact Zf [5] ⟨rfl, H19⟩

theorem w_spec_l04Best (h : Heap) (a_ : List (List Int)) (aa_ : Option Addr) (ca_ : Nat) (ra_ : Rd cd24 h (Lt h) aa_ ca_ a_) (n : Nat) (r : (List Int) × Bool) (hF : spec_l04Best a_ n = some r) :
  Fn Tryz.prog 54 #[.slice aa_ a_.length ca_] h fun v h' => ∃ (a0 : Option Addr) (c0 : Nat), v = .tuple #[.slice a0 r.1.length c0, .bool r.2] ∧ Hold h h' [own cd2 a0 r.1.length c0 r.1] := by
 unfold spec_l04Best at hF
 refine Zo [.slice aa_ a_.length ca_] Tryz.func54 rfl (fun w0 _ => ?_)
 have H0 := Hold.init h
 refine Zs ?_
 refine Zq [.slice none 0 0, .bool false] [0] [(0, .slice aa_ a_.length ca_)] ?_
 refine Zs ?_
 refine Run_ops ?_
 refine Zr [.slice aa_ a_.length ca_] 0 ?_
 obtain ⟨x1, hx1, hF⟩ := M.bind_some hF
 refine Ze ?_
 refine ZC 82 #[.slice aa_ a_.length ca_, .int .i64 (-1000000000000000)] (w_spec_l03Over h a_ aa_ ca_ ra_ (-1000000000000000) _ _ hx1) (fun v1 h1 hp1 => ?_)
 obtain ⟨a1, c1, rfl, H1⟩ := hp1
 have H2 : Hold h h1 [own cd2 a1 x1.length c1 x1] := H0.call H1 rfl
 refine Zr [.slice a1 x1.length c1] 2 ?_
 refine Zx ?_
 refine Zk [0, 4] [(0, .slice aa_ a_.length ca_), (4, .slice a1 x1.length c1)] ?_
 refine Zs ?_
 obtain ⟨x2, gx2, hF⟩ := M.bind_some hF
 refine Run_join (fun L' h' => ∃ (s2 : (List Int)), x2 = .inl s2 ∧ L' = [] ∧ Hold h h' []) ?_ ?_
 ·rintro _ h3 ⟨s2, es2, rfl, H4⟩
  have hF := M.cont_inl' hF es2
  refine Zs ?_
  refine Zq [.slice none 0 0, .bool false] [2, 3] [(2, .slice none 0 0), (3, .bool false)] ?_
  have hF := M.ret_some hF
  subst hF
  have H20 := H4.empty cd2
  exact Run_ret2 rfl (Zt (.slice none 0 0)) (Zt (.bool false)) ⟨none, 0, rfl, H20⟩
 ·refine Run_block ?_
  refine Zk [0, 4] [(0, .slice aa_ a_.length ca_), (4, .slice a1 x1.length c1)] ?_
  refine Run_loop (fun m L' h' => ∃ (s1 : (List Int)) (a2 : Option Addr) (c2 : Nat), M.loopN _ n m s1 = some x2 ∧ L' = [(0, .slice aa_ a_.length ca_), (4, .slice a2 s1.length c2)] ∧ Hold h h' [own cd2 a2 s1.length c2 s1]) n ⟨x1, a1, c1, gx2, rfl, H2⟩ ?_
  rintro my1 _ h2 ⟨s1, a2, c2, gx2, rfl, H3⟩
  obtain ⟨my1, y1, rfl, hB1, hgoy1, houty1⟩ := M.loop_some gx2
  refine Zs ?_
  refine Zs ?_
  refine Zq [.slice a2 s1.length c2, .int .i64 (s1.length : Int), .bool (decide (0 < (s1.length : Int)))] [0, 4, 12] [(0, .slice aa_ a_.length ca_), (4, .slice a2 s1.length c2), (12, .bool (decide (0 < (s1.length : Int))))] ?_
  refine Zc (decide (0 < (s1.length : Int))) (fun hb1 => ?_) (fun hb1 => ?_)
  ·have hB1 := (M.ite_some hB1).1 hb1
   refine Run_skip ?_
   refine Run_block ?_
   refine Zs ?_
   refine Run_ops ?_
   refine Zr [.slice aa_ a_.length ca_, .slice a2 s1.length c2] 0 ?_
   obtain ⟨x3, hx2, hB1⟩ := M.bind_some hB1
   refine Ze ?_
   refine ZC 55 #[.slice aa_ a_.length ca_, .slice a2 s1.length c2] (w_spec_l04Mean h2 a_ aa_ ca_ (ra_.at H3.ext) s1 a2 c2 (H3.rd 0 rfl) _ _ hx2) (fun v2 h4 hp2 => ?_)
   obtain ⟨rfl, H5⟩ := hp2
   have H6 : Hold h h4 [own cd2 a2 s1.length c2 s1] := H3.call H5 rfl
   refine Zr [.tuple #[.agg #[.int .i64 x3.1.Num, .int .i64 x3.1.Den], .bool x3.2], .agg #[.int .i64 x3.1.Num, .int .i64 x3.1.Den], .bool x3.2] 3 ?_
   refine Ze ?_
   refine E_box (ty := 44) (cs := [.int .i64 0, .int .i64 0]) H6 (fun w => by kernel_rfl) (fun b1 h5 H7 => ?_)
   refine Ze ?_
   refine ZP 44 0 [.int .i64 x3.1.Num, .int .i64 x3.1.Den] (.agg #[.int .i64 x3.1.Num, .int .i64 x3.1.Den]) H7 (fun h6 H8 => ?_)
   refine Zr [.bool x3.2] 8 ?_
   refine Zx ?_
   refine Zk [0, 5] [(0, .slice aa_ a_.length ca_), (5, pV b1)] ?_
   refine Zs ?_
   refine Run_ops ?_
   refine Zr [.slice aa_ a_.length ca_] 0 ?_
   refine Zz (.agg #[.int .i64 x3.1.Num, .int .i64 x3.1.Den]) (Y_loadA (t := 44) (n := 2) (p := ⟨b1, 0, none⟩) (cs := [.int .i64 x3.1.Num, .int .i64 x3.1.Den]) (by kernel_rfl) (fun w => by kernel_rfl) (by kernel_rfl) rfl (H8.cells (n := 2) (off := 0) 0 rfl rfl)) ?_
   obtain ⟨x4, hx3, hB1⟩ := M.bind_some hB1
   refine Ze ?_
   refine ZC 59 #[.slice aa_ a_.length ca_, .agg #[.int .i64 x3.1.Num, .int .i64 x3.1.Den]] (w_spec_l04Shift h6 a_ aa_ ca_ (ra_.at H8.ext) x3.1 _ _ hx3) (fun v3 h7 hp3 => ?_)
   obtain ⟨a4, c4, rfl, H9⟩ := hp3
   have H10 : Hold h h7 [own cd24 a4 x4.length c4 x4, box b1 44 [.int .i64 x3.1.Num, .int .i64 x3.1.Den], own cd2 a2 s1.length c2 s1] := H8.call H9 rfl
   obtain ⟨x5, hx4, hB1⟩ := M.bind_some hB1
   refine Ze ?_
   refine ZC 82 #[.slice a4 x4.length c4, .int .i64 0] (w_spec_l03Over h7 x4 a4 c4 (H10.rd 0 rfl) 0 _ _ hx4) (fun v4 h8 hp4 => ?_)
   obtain ⟨a5, c5, rfl, H11⟩ := hp4
   have H12 : Hold h h8 [own cd2 a5 x5.length c5 x5, own cd24 a4 x4.length c4 x4, box b1 44 [.int .i64 x3.1.Num, .int .i64 x3.1.Den], own cd2 a2 s1.length c2 s1] := H10.call H11 rfl
   refine Zr [.slice a5 x5.length c5] 4 ?_
   refine Zx ?_
   refine Zk [0, 5, 7] [(0, .slice aa_ a_.length ca_), (5, pV b1), (7, .slice a5 x5.length c5)] ?_
   refine Zs ?_
   refine Zs ?_
   refine Zq [.slice a5 x5.length c5, .int .i64 (x5.length : Int), .bool ((x5.length : Int) == 0)] [0, 5, 7, 25] [(0, .slice aa_ a_.length ca_), (5, pV b1), (7, .slice a5 x5.length c5), (25, .bool ((x5.length : Int) == 0))] ?_
   refine Zc ((x5.length : Int) == 0) (fun hb2 => ?_) (fun hb2 => ?_)
   ·have hB1 := (M.ite_some hB1).1 hb2
    refine Zs ?_
    refine Run_ops ?_
    refine Zr [.slice aa_ a_.length ca_] 0 ?_
    refine Zz (.agg #[.int .i64 x3.1.Num, .int .i64 x3.1.Den]) (Y_loadA (t := 44) (n := 2) (p := ⟨b1, 0, none⟩) (cs := [.int .i64 x3.1.Num, .int .i64 x3.1.Den]) (by kernel_rfl) (fun w => by kernel_rfl) (by kernel_rfl) rfl (H12.cells (n := 2) (off := 0) 2 rfl rfl)) ?_
    obtain ⟨x6, hx5, hB1⟩ := M.bind_some hB1
    refine Ze ?_
    refine ZC 59 #[.slice aa_ a_.length ca_, .agg #[.int .i64 x3.1.Num, .int .i64 x3.1.Den]] (w_spec_l04Shift h8 a_ aa_ ca_ (ra_.at H12.ext) x3.1 _ _ hx5) (fun v5 h9 hp5 => ?_)
    obtain ⟨a6, c6, rfl, H13⟩ := hp5
    have H14 : Hold h h9 [own cd24 a6 x6.length c6 x6, own cd2 a5 x5.length c5 x5, own cd24 a4 x4.length c4 x4, box b1 44 [.int .i64 x3.1.Num, .int .i64 x3.1.Den], own cd2 a2 s1.length c2 s1] := H12.call H13 rfl
    obtain ⟨x7, hx6, hB1⟩ := M.bind_some hB1
    refine Ze ?_
    refine ZC 82 #[.slice a6 x6.length c6, .int .i64 (-1)] (w_spec_l03Over h9 x6 a6 c6 (H14.rd 0 rfl) (-1) _ _ hx6) (fun v6 h10 hp6 => ?_)
    obtain ⟨a7, c7, rfl, H15⟩ := hp6
    have H16 : Hold h h10 [own cd2 a7 x7.length c7 x7, own cd24 a6 x6.length c6 x6, own cd2 a5 x5.length c5 x5, own cd24 a4 x4.length c4 x4, box b1 44 [.int .i64 x3.1.Num, .int .i64 x3.1.Den], own cd2 a2 s1.length c2 s1] := H14.call H15 rfl
    refine Zr [.slice a7 x7.length c7, .bool true] 4 ?_
    refine Zx ?_
    refine Zk [2, 3] [(2, .slice a7 x7.length c7), (3, .bool true)] ?_
    have hB1 := M.ret_some hB1
    have gx2 := houty1 _ hB1.symm
    have hF := M.cont_inr' hF gx2
    have hF := M.ret_some hF
    subst hF
    have H17 : Hold h h10 [own cd2 a7 x7.length c7 x7] := H16.pk [0]
    exact Run_ret2 rfl (Zt (.slice a7 x7.length c7)) (Zt (.bool true)) ⟨a7, c7, rfl, H17⟩
   ·have hB1 := (M.ite_some hB1).2 hb2
    refine Run_skip ?_
    refine Zq [.slice a5 x5.length c5, .slice a5 x5.length c5] [0, 4] [(0, .slice aa_ a_.length ca_), (4, .slice a5 x5.length c5)] ?_
    refine Run_blk ?_
    have H18 : Hold h h8 [own cd2 a5 x5.length c5 x5] := H12.pk [0]
    have hB1 := M.ret_some hB1
    have gx2 := hgoy1 _ hB1.symm
    exact Za [0, 4] my1 ⟨x5, a5, c5, gx2, rfl, H18⟩
  ·have hB1 := (M.ite_some hB1).2 hb1
   refine Run_exit (k' := _) rfl ?_
   have H19 : Hold h h2 [] := H3.pk []
   have hB1 := M.ret_some hB1
   have gx2 := houty1 _ hB1.symm
   subst gx2
   exact Zf [] ⟨s1, rfl, rfl, H19⟩

theorem w_spec_l06Code (h : Heap) (a_ : List (List Int)) (aa_ : Option Addr) (ca_ : Nat) (ra_ : Rd cd24 h (Lt h) aa_ ca_ a_) (n : Nat) (r : Int) (hF : spec_l06Code a_ n = some r) :
  Fn Tryz.prog 35 #[.slice aa_ a_.length ca_] h fun v h' => v = .int .i64 r ∧ Hold h h' [] := by
 unfold spec_l06Code at hF
 refine Zo [.slice aa_ a_.length ca_] Tryz.func35 rfl (fun w0 _ => ?_)
 have H0 := Hold.init h
 refine Zs ?_
 refine Zq [.int .i64 0] [0] [(0, .slice aa_ a_.length ca_)] ?_
 refine Zs ?_
 refine Zs ?_
 obtain ⟨x1, hx1, hF⟩ := M.bind_some hF
 refine Zg 3 [(0, .slice aa_ a_.length ca_), (7, .bool (!x1))] ?_ ?_
 ·refine Zb [.slice aa_ a_.length ca_] 0 ?_
  refine Zy (.bool x1) (ZQ 68 #[.slice aa_ a_.length ca_] (w_spec_l02Square h a_ aa_ ca_ ra_ _ _ hx1)) ?_
  refine Zb [.bool (!x1)] 2 ?_
  exact Zd [0, 7]
 refine Zc (!x1) (fun hb1 => ?_) (fun hb1 => ?_)
 ·have hF := (M.ite_some hF).1 hb1
  refine Zs ?_
  refine Zq [.int .i64 1] [2] [(2, .int .i64 1)] ?_
  have hF := M.ret_some hF
  subst hF
  exact Run_ret1 rfl (Zt (.int .i64 1)) ⟨rfl, H0⟩
 ·have hF := (M.ite_some hF).2 hb1
  refine Run_skip ?_
  refine Zs ?_
  refine Run_ops ?_
  refine Zr [.slice aa_ a_.length ca_] 0 ?_
  obtain ⟨x2, hx2, hF⟩ := M.bind_some hF
  refine Ze ?_
  refine ZC 54 #[.slice aa_ a_.length ca_] (w_spec_l04Best h a_ aa_ ca_ ra_ _ _ hx2) (fun v1 h1 hp1 => ?_)
  obtain ⟨a1, c1, rfl, H1⟩ := hp1
  have H2 : Hold h h1 [own cd2 a1 x2.1.length c1 x2.1] := H0.call H1 rfl
  refine Zr [.tuple #[.slice a1 x2.1.length c1, .bool x2.2], .slice a1 x2.1.length c1, .bool x2.2, .slice a1 x2.1.length c1, .bool x2.2] 2 ?_
  refine Zx ?_
  refine Zk [4] [(4, .bool x2.2)] ?_
  refine Zs ?_
  refine Zs ?_
  refine Zq [.bool x2.2, .bool (!x2.2)] [14] [(14, .bool (!x2.2))] ?_
  refine Zc (!x2.2) (fun hb2 => ?_) (fun hb2 => ?_)
  ·have hF := (M.ite_some hF).1 hb2
   refine Zs ?_
   refine Zq [.int .i64 4] [2] [(2, .int .i64 4)] ?_
   have hF := M.ret_some hF
   subst hF
   have H3 : Hold h h1 [] := H2.pk []
   exact Run_ret1 rfl (Zt (.int .i64 4)) ⟨rfl, H3⟩
  ·have hF := (M.ite_some hF).2 hb2
   refine Run_skip ?_
   refine Zs ?_
   refine Zq [.int .i64 0] [2] [(2, .int .i64 0)] ?_
   have hF := M.ret_some hF
   subst hF
   have H4 : Hold h h1 [] := H2.pk []
   exact Run_ret1 rfl (Zt (.int .i64 0)) ⟨rfl, H4⟩

theorem w_spec_l02Unit (h : Heap) (n_ : Int) (n : Nat) (r : (List (List Int))) (hF : spec_l02Unit n_ n = some r) :
  Fn Tryz.prog 99 #[.int .i64 n_] h fun v h' => ∃ (a0 : Option Addr) (c0 : Nat), v = .slice a0 r.length c0 ∧ Hold h h' [own cd24 a0 r.length c0 r] := by
 unfold spec_l02Unit at hF
 refine Zo [.int .i64 n_] Tryz.func99 rfl (fun w0 _ => ?_)
 have H0 := Hold.init h
 refine Zs ?_
 refine Zq [.slice none 0 0] [0] [(0, .int .i64 n_)] ?_
 refine Zs ?_
 refine Run_ops ?_
 refine Zr [.int .i64 n_, .int .i64 n_] 0 ?_
 obtain ⟨x1, hx1, hF⟩ := M.bind_some hF
 refine Ze ?_
 refine ZC 81 #[.int .i64 n_, .int .i64 n_] (w_spec_l02Bottom h n_ n_ _ _ hx1) (fun v1 h1 hp1 => ?_)
 obtain ⟨a1, c1, rfl, H1⟩ := hp1
 have H2 : Hold h h1 [own cd24 a1 x1.length c1 x1] := H0.call H1 rfl
 refine Zr [.slice a1 x1.length c1] 3 ?_
 refine Zx ?_
 refine Zk [0, 3] [(0, .int .i64 n_), (3, .slice a1 x1.length c1)] ?_
 refine Zs ?_
 refine Zs ?_
 refine Zq [.int .i64 0] [0, 3, 4] [(0, .int .i64 n_), (3, .slice a1 x1.length c1), (4, .int .i64 0)] ?_
 obtain ⟨x2, gx2, hF⟩ := M.bind_some hF
 obtain ⟨hloy1, hhiy1, gx2⟩ := M.for_start gx2
 refine Run_join (fun L' h' => L' = [(3, .slice a1 x1.length c1)] ∧ Hold h h' [own cd24 a1 x1.length c1 x2]) ?_ ?_
 ·rintro _ h3 ⟨rfl, H4⟩
  refine Zs ?_
  refine Zq [.slice a1 x1.length c1, .slice a1 x1.length c1] [2] [(2, .slice a1 x1.length c1)] ?_
  have hF := M.ret_some hF
  subst hF
  have H9 := H4.norm
  exact Run_ret1 rfl (Zt (.slice a1 x1.length c1)) ⟨a1, c1, (by simp only [(H4.len 0 rfl)]), H9⟩
 ·refine Run_block ?_
  refine Zk [0, 3, 4] [(0, .int .i64 n_), (3, .slice a1 x1.length c1), (4, .int .i64 0)] ?_
  refine Run_loop (fun m L' h' => ∃ (i1 : Int) (s1 : (List (List Int))), 0 ≤ i1 ∧ M.forN n_ _ _ n m i1 s1 = some x2 ∧ L' = [(0, .int .i64 n_), (3, .slice a1 x1.length c1), (4, .int .i64 i1)] ∧ Hold h h' [own cd24 a1 x1.length c1 s1]) (n_ - 0 : Int).toNat ⟨0, x1, Int.le_refl _, gx2, rfl, H2⟩ ?_
  rintro my1 _ h2 ⟨i1, s1, hloy1', gx2, rfl, H3⟩
  refine Zs ?_
  refine Zs ?_
  refine Zq [.int .i64 i1, .int .i64 n_, .bool (decide (i1 < n_))] [0, 3, 4, 10] [(0, .int .i64 n_), (3, .slice a1 x1.length c1), (4, .int .i64 i1), (10, .bool (decide (i1 < n_)))] ?_
  refine Zc (decide (i1 < n_)) (fun hb1 => ?_) (fun hb1 => ?_)
  ·obtain ⟨my1, y1, rfl, hB1, hgoy1, houty1⟩ := M.for_go gx2 hb1
   have hlty1 := of_decide_eq_true hb1
   refine Run_skip ?_
   refine Zs ?_
   refine Run_block ?_
   refine Run_ops ?_
   obtain ⟨x3, hx2, hB1⟩ := M.bind_some hB1
   obtain ⟨hx2l, hx2u, hx2⟩ := M.idx_some hx2
   have H5 := H3.toRows
   obtain ⟨a2, c2, H6⟩ := H5.pinRow hx2
   obtain ⟨x4, hx3, hB1⟩ := M.bind_some hB1
   obtain ⟨hx3l, hx3u, hx3⟩ := M.idx_some hx3
   refine Zr [.slice a1 x1.length c1, .int .i64 i1] 0 ?_
   refine Zz (.pointer (some (adr a1 (i1.toNat * 1)))) (Zi 22 24 1 (a1) (x1.length) (c1) .i64 (i1) Tryz.underlying22 ((H3.rd 0 rfl).cell hx2).1 hx2l (by rw [← (H3.len 0 rfl)]; exact hx2u)) ?_
   refine Zz (.slice a2 x3.length c2) (Zl 24 (adr a1 (i1.toNat * 1)) (.slice a2 x3.length c2) (H6.cellPin 0 rfl 0 rfl)) ?_
   refine Zr [.int .i64 i1] 4 ?_
   refine Zz (.pointer (some (adr a2 (i1.toNat * 1)))) (Zi 24 2 1 (a2) (x3.length) (c2) .i64 (i1) Tryz.underlying24 ((H6.rdPin 0 rfl 0 rfl).cell hx3).1 hx3l hx3u) ?_
   obtain ⟨l1, hu1, hB1⟩ := M.bind_some hB1
   have hu1 := M.upd_some hu1
   refine Ze ?_
   refine E_put2 (C := cd2) (t := 2) (sz := 1) (j := i1) (x := 0) (v := .int .i64 0) (m2 := s1.set i1.toNat l1) H6 cd2_flat 0 rfl (by kernel_rfl) rfl (cd2_own _) (by kernel_rfl) hu1 rfl (fun h4 H7 => ?_)
   refine Zx ?_
   refine Zk [0, 3, 4] [(0, .int .i64 n_), (3, .slice a1 x1.length c1), (4, .int .i64 i1)] ?_
   refine Run_blk ?_
   refine Zg 3 [(0, .int .i64 n_), (3, .slice a1 x1.length c1), (4, .int .i64 (i1 + 1))] ?_ ?_
   ·refine Zb [.int .i64 i1] 0 ?_
    refine Zy (.int .i64 (i1 + 1)) (Y_eq (v := .int .i64 (w64 (i1 + 1))) (Y_pure (fun w => by kernel_rfl)) (by rw [w64_eq _ (by omega)])) ?_
    refine Zb [.int .i64 (i1 + 1)] 2 ?_
    exact Zd [0, 3, 4]
   have H8 := H7.ofRows
   have hB1 := M.ret_some hB1
   have gx2 := hgoy1 _ hB1.symm
   exact Za [0, 3, 4] my1 ⟨i1 + 1, (s1.set i1.toNat l1), by omega, gx2, rfl, H8⟩
  ·have gx2 := M.for_end gx2 hb1
   subst gx2
   refine Run_exit (k' := _) rfl ?_
   exact Zf [3] ⟨rfl, H3⟩

theorem w_spec_l01Times (h : Heap) (a_ : Int) (b : Int) (n : Nat) (r : Int) (hF : spec_l01Times a_ b n = some r) :
  Fn Tryz.prog 80 #[.int .i64 a_, .int .i64 b] h fun v h' => v = .int .i64 r ∧ h' = h := by
 unfold spec_l01Times at hF
 refine Zo [.int .i64 a_, .int .i64 b] Tryz.func80 rfl (fun w0 _ => ?_)
 refine Zs ?_
 refine Zq [.int .i64 0] [0, 1] [(0, .int .i64 a_), (1, .int .i64 b)] ?_
 refine Zs ?_
 refine Zs ?_
 refine Zg 6 [(0, .int .i64 a_), (1, .int .i64 b), (10, .bool ((a_ == (-1000000000000000)) || (b == (-1000000000000000))))] ?_ ?_
 ·refine Zb [.int .i64 a_, .bool (a_ == (-1000000000000000))] 0 ?_
  refine QRun_seq 6 [(0, .int .i64 a_), (1, .int .i64 b), (10, .bool ((a_ == (-1000000000000000)) || (b == (-1000000000000000))))] ?_ ?_
  ·rcases Bool.eq_false_or_eq_true (a_ == (-1000000000000000)) with hb1 | hb1
   ·refine Zv (a_ == (-1000000000000000)) true hb1 ?_
    refine Zn ?_
    refine Zn ?_
    refine QRun_bool true ((a_ == (-1000000000000000)) || (b == (-1000000000000000))) (by kernel_rfl) (fun w => by kernel_rfl) (by rw [hb1]; rfl) ?_
    exact Zd [0, 1, 10]
   ·refine Zv (a_ == (-1000000000000000)) false hb1 ?_
    refine Zb [.int .i64 b, .bool (b == (-1000000000000000))] 3 ?_
    refine QRun_bool (b == (-1000000000000000)) ((a_ == (-1000000000000000)) || (b == (-1000000000000000))) (by kernel_rfl) (fun w => by kernel_rfl) (by rw [hb1]; rfl) ?_
    exact Zd [0, 1, 10]
  exact Zd [0, 1, 10]
 refine Zc ((a_ == (-1000000000000000)) || (b == (-1000000000000000))) (fun hb2 => ?_) (fun hb2 => ?_)
 ·have hF := (M.ite_some hF).1 hb2
  refine Zs ?_
  refine Zq [.int .i64 (-1000000000000000)] [4] [(4, .int .i64 (-1000000000000000))] ?_
  have hF := M.ret_some hF
  subst hF
  exact Run_ret1 rfl (Zt (.int .i64 (-1000000000000000))) ⟨rfl, rfl⟩
 ·have hF := (M.ite_some hF).2 hb2
  refine Run_skip ?_
  refine Zs ?_
  refine Zq [.int .i64 a_, .int .i64 b, .int .i64 (w64 (a_ + b)), .int .i64 (w64 (a_ + b))] [4] [(4, .int .i64 (w64 (a_ + b)))] ?_
  have hF := M.ret_some hF
  subst hF
  exact Run_ret1 rfl (Zt (.int .i64 (w64 (a_ + b)))) ⟨rfl, rfl⟩

theorem w_spec_l02Multiply (h : Heap) (a_ : List (List Int)) (aa_ : Option Addr) (ca_ : Nat) (ra_ : Rd cd24 h (Lt h) aa_ ca_ a_) (b : List (List Int)) (ab : Option Addr) (cb : Nat) (rb : Rd cd24 h (Lt h) ab cb b) (n : Nat) (r : (List (List Int))) (hF : spec_l02Multiply a_ b n = some r) :
  Fn Tryz.prog 101 #[.slice aa_ a_.length ca_, .slice ab b.length cb] h fun v h' => ∃ (a0 : Option Addr) (c0 : Nat), v = .slice a0 r.length c0 ∧ Hold h h' [own cd24 a0 r.length c0 r] := by
 unfold spec_l02Multiply at hF
 refine Zo [.slice aa_ a_.length ca_, .slice ab b.length cb] Tryz.func101 rfl (fun w0 _ => ?_)
 have H0 := Hold.init h
 refine Zs ?_
 refine Zq [.slice none 0 0] [0, 1] [(0, .slice aa_ a_.length ca_), (1, .slice ab b.length cb)] ?_
 refine Zs ?_
 refine Run_ops ?_
 obtain ⟨x1, hx1, hF⟩ := M.bind_some hF
 obtain ⟨hx1l, hx1u, hx1⟩ := M.idx_some hx1
 obtain ⟨a1, c1, hc1, r1⟩ := rb.row hx1
 refine Zr [.slice aa_ a_.length ca_, .int .i64 (a_.length : Int), .slice ab b.length cb] 0 ?_
 refine Zz (.pointer (some (adr ab (0 * 1)))) (Zi 22 24 1 (ab) (b.length) (cb) .i64 (0) Tryz.underlying22 (rb.cell hx1).1 hx1l hx1u) ?_
 refine Zz (.slice a1 x1.length c1) (Zl 24 (adr ab (0 * 1)) (.slice a1 x1.length c1) hc1) ?_
 refine Zr [.int .i64 (x1.length : Int)] 5 ?_
 obtain ⟨x2, hx2, hF⟩ := M.bind_some hF
 refine Ze ?_
 refine ZC 81 #[.int .i64 (a_.length : Int), .int .i64 (x1.length : Int)] (w_spec_l02Bottom h (a_.length : Int) (x1.length : Int) _ _ hx2) (fun v1 h1 hp1 => ?_)
 obtain ⟨a2, c2, rfl, H1⟩ := hp1
 have H2 : Hold h h1 [own cd24 a2 x2.length c2 x2] := H0.call H1 rfl
 refine Zr [.slice a2 x2.length c2] 7 ?_
 refine Zx ?_
 refine Zk [0, 1, 5] [(0, .slice aa_ a_.length ca_), (1, .slice ab b.length cb), (5, .slice a2 x2.length c2)] ?_
 refine Zs ?_
 refine Zs ?_
 refine Zq [.int .i64 0] [0, 1, 5, 6] [(0, .slice aa_ a_.length ca_), (1, .slice ab b.length cb), (5, .slice a2 x2.length c2), (6, .int .i64 0)] ?_
 obtain ⟨x3, gx3, hF⟩ := M.bind_some hF
 obtain ⟨hloy1, hhiy1, gx3⟩ := M.for_start gx3
 refine Run_join (fun L' h' => L' = [(5, .slice a2 x2.length c2)] ∧ Hold h h' [own cd24 a2 x2.length c2 x3]) ?_ ?_
 ·rintro _ h3 ⟨rfl, H4⟩
  refine Zs ?_
  refine Zq [.slice a2 x2.length c2, .slice a2 x2.length c2] [4] [(4, .slice a2 x2.length c2)] ?_
  have hF := M.ret_some hF
  subst hF
  have H16 := H4.norm
  exact Run_ret1 rfl (Zt (.slice a2 x2.length c2)) ⟨a2, c2, (by simp only [(H4.len 0 rfl)]), H16⟩
 ·refine Run_block ?_
  refine Zk [0, 1, 5, 6] [(0, .slice aa_ a_.length ca_), (1, .slice ab b.length cb), (5, .slice a2 x2.length c2), (6, .int .i64 0)] ?_
  refine Run_loop (fun m L' h' => ∃ (i1 : Int) (s1 : (List (List Int))), 0 ≤ i1 ∧ M.forN (a_.length : Int) _ _ n m i1 s1 = some x3 ∧ L' = [(0, .slice aa_ a_.length ca_), (1, .slice ab b.length cb), (5, .slice a2 x2.length c2), (6, .int .i64 i1)] ∧ Hold h h' [own cd24 a2 x2.length c2 s1]) ((a_.length : Int) - 0 : Int).toNat ⟨0, x2, Int.le_refl _, gx3, rfl, H2⟩ ?_
  rintro my1 _ h2 ⟨i1, s1, hloy1', gx3, rfl, H3⟩
  refine Zs ?_
  refine Zs ?_
  refine Zq [.int .i64 i1, .slice aa_ a_.length ca_, .int .i64 (a_.length : Int), .bool (decide (i1 < (a_.length : Int)))] [0, 1, 5, 6, 19] [(0, .slice aa_ a_.length ca_), (1, .slice ab b.length cb), (5, .slice a2 x2.length c2), (6, .int .i64 i1), (19, .bool (decide (i1 < (a_.length : Int))))] ?_
  refine Zc (decide (i1 < (a_.length : Int))) (fun hb1 => ?_) (fun hb1 => ?_)
  ·obtain ⟨my1, y1, rfl, hB1, hgoy1, houty1⟩ := M.for_go gx3 hb1
   have hlty1 := of_decide_eq_true hb1
   refine Run_skip ?_
   refine Zs ?_
   refine Run_block ?_
   refine Zs ?_
   refine Zq [.int .i64 0] [0, 1, 5, 6, 7] [(0, .slice aa_ a_.length ca_), (1, .slice ab b.length cb), (5, .slice a2 x2.length c2), (6, .int .i64 i1), (7, .int .i64 0)] ?_
   obtain ⟨x4, gx4, hB1⟩ := M.bind_some hB1
   refine Run_join (fun L' h' => L' = [(0, .slice aa_ a_.length ca_), (1, .slice ab b.length cb), (5, .slice a2 x2.length c2), (6, .int .i64 i1)] ∧ Hold h h' [own cd24 a2 x2.length c2 x4.1]) ?_ ?_
   ·rintro _ h5 ⟨rfl, H6⟩
    refine Run_blk ?_
    refine Zg 3 [(0, .slice aa_ a_.length ca_), (1, .slice ab b.length cb), (5, .slice a2 x2.length c2), (6, .int .i64 (i1 + 1))] ?_ ?_
    ·refine Zb [.int .i64 i1] 0 ?_
     refine Zy (.int .i64 (i1 + 1)) (Y_eq (v := .int .i64 (w64 (i1 + 1))) (Y_pure (fun w => by kernel_rfl)) (by rw [w64_eq _ (by omega)])) ?_
     refine Zb [.int .i64 (i1 + 1)] 2 ?_
     exact Zd [0, 1, 5, 6]
    have hB1 := M.ret_some hB1
    have gx3 := hgoy1 _ hB1.symm
    exact Za [0, 1, 5, 6] my1 ⟨i1 + 1, x4.1, by omega, gx3, rfl, H6⟩
   ·refine Run_block ?_
    refine Zk [0, 1, 5, 6, 7] [(0, .slice aa_ a_.length ca_), (1, .slice ab b.length cb), (5, .slice a2 x2.length c2), (6, .int .i64 i1), (7, .int .i64 0)] ?_
    refine Run_loop (fun m L' h' => ∃ (s2 : (List (List Int)) × Int), M.loopN _ n m s2 = some x4 ∧ L' = [(0, .slice aa_ a_.length ca_), (1, .slice ab b.length cb), (5, .slice a2 x2.length c2), (6, .int .i64 i1), (7, .int .i64 s2.2)] ∧ Hold h h' [own cd24 a2 x2.length c2 s2.1]) n ⟨(s1, 0), gx4, rfl, H3⟩ ?_
    rintro my2 _ h4 ⟨s2, gx4, rfl, H5⟩
    obtain ⟨my2, y2, rfl, hB2, hgoy2, houty2⟩ := M.loop_some gx4
    refine Zs ?_
    refine Zs ?_
    obtain ⟨x5, hx3, hB2⟩ := M.bind_some hB2
    obtain ⟨hx3l, hx3u, hx3⟩ := M.idx_some hx3
    obtain ⟨a3, c3, hc2, r2⟩ := rb.row hx3
    refine Zg 6 [(0, .slice aa_ a_.length ca_), (1, .slice ab b.length cb), (5, .slice a2 x2.length c2), (6, .int .i64 i1), (7, .int .i64 s2.2), (27, .bool (decide (s2.2 < (x5.length : Int))))] ?_ ?_
    ·refine Zb [.int .i64 s2.2, .slice ab b.length cb] 0 ?_
     refine Zy (.pointer (some (adr ab (0 * 1)))) (Zi 22 24 1 (ab) (b.length) (cb) .i64 (0) Tryz.underlying22 ((rb.at H5.ext).cell hx3).1 hx3l hx3u) ?_
     refine Zy (.slice a3 x5.length c3) (Zl 24 (adr ab (0 * 1)) (.slice a3 x5.length c3) (cell_at H5.ext hc2)) ?_
     refine Zb [.int .i64 (x5.length : Int), .bool (decide (s2.2 < (x5.length : Int)))] 4 ?_
     exact Zd [0, 1, 5, 6, 7, 27]
    refine Zc (decide (s2.2 < (x5.length : Int))) (fun hb2 => ?_) (fun hb2 => ?_)
    ·have hB2 := (M.ite_some hB2).1 hb2
     refine Run_skip ?_
     refine Zs ?_
     refine Run_block ?_
     refine Zs ?_
     refine Zq [.int .i64 0] [0, 1, 5, 6, 7, 8] [(0, .slice aa_ a_.length ca_), (1, .slice ab b.length cb), (5, .slice a2 x2.length c2), (6, .int .i64 i1), (7, .int .i64 s2.2), (8, .int .i64 0)] ?_
     obtain ⟨x6, gx6, hB2⟩ := M.bind_some hB2
     obtain ⟨hloy3, hhiy3, gx6⟩ := M.for_start gx6
     refine Run_join (fun L' h' => L' = [(0, .slice aa_ a_.length ca_), (1, .slice ab b.length cb), (5, .slice a2 x2.length c2), (6, .int .i64 i1), (7, .int .i64 s2.2)] ∧ Hold h h' [own cd24 a2 x2.length c2 x6]) ?_ ?_
     ·rintro _ h7 ⟨rfl, H8⟩
      refine Run_blk ?_
      refine Zq [.int .i64 s2.2, .int .i64 (w64 (s2.2 + 1)), .int .i64 (w64 (s2.2 + 1))] [0, 1, 5, 6, 7] [(0, .slice aa_ a_.length ca_), (1, .slice ab b.length cb), (5, .slice a2 x2.length c2), (6, .int .i64 i1), (7, .int .i64 (w64 (s2.2 + 1)))] ?_
      have hB2 := M.ret_some hB2
      have gx4 := hgoy2 _ hB2.symm
      exact Za [0, 1, 5, 6, 7] my2 ⟨(x6, (w64 (s2.2 + 1))), gx4, rfl, H8⟩
     ·refine Run_block ?_
      refine Zk [0, 1, 5, 6, 7, 8] [(0, .slice aa_ a_.length ca_), (1, .slice ab b.length cb), (5, .slice a2 x2.length c2), (6, .int .i64 i1), (7, .int .i64 s2.2), (8, .int .i64 0)] ?_
      refine Run_loop (fun m L' h' => ∃ (i2 : Int) (s3 : (List (List Int))), 0 ≤ i2 ∧ M.forN (b.length : Int) _ _ n m i2 s3 = some x6 ∧ L' = [(0, .slice aa_ a_.length ca_), (1, .slice ab b.length cb), (5, .slice a2 x2.length c2), (6, .int .i64 i1), (7, .int .i64 s2.2), (8, .int .i64 i2)] ∧ Hold h h' [own cd24 a2 x2.length c2 s3]) ((b.length : Int) - 0 : Int).toNat ⟨0, s2.1, Int.le_refl _, gx6, rfl, H5⟩ ?_
      rintro my3 _ h6 ⟨i2, s3, hloy3', gx6, rfl, H7⟩
      refine Zs ?_
      refine Zs ?_
      refine Zq [.int .i64 i2, .slice ab b.length cb, .int .i64 (b.length : Int), .bool (decide (i2 < (b.length : Int)))] [0, 1, 5, 6, 7, 8, 33] [(0, .slice aa_ a_.length ca_), (1, .slice ab b.length cb), (5, .slice a2 x2.length c2), (6, .int .i64 i1), (7, .int .i64 s2.2), (8, .int .i64 i2), (33, .bool (decide (i2 < (b.length : Int))))] ?_
      refine Zc (decide (i2 < (b.length : Int))) (fun hb3 => ?_) (fun hb3 => ?_)
      ·obtain ⟨my3, y3, rfl, hB3, hgoy3, houty3⟩ := M.for_go gx6 hb3
       have hlty3 := of_decide_eq_true hb3
       refine Run_skip ?_
       refine Zs ?_
       refine Run_block ?_
       obtain ⟨x7, hx4, hB3⟩ := M.bind_some hB3
       obtain ⟨hx4l, hx4u, hx4⟩ := M.idx_some hx4
       have H9 := H7.toRows
       obtain ⟨a4, c4, H10⟩ := H9.pinRow hx4
       obtain ⟨x8, hx5, hB3⟩ := M.bind_some hB3
       obtain ⟨hx5l, hx5u, hx5⟩ := M.idx_some hx5
       obtain ⟨a5, c5, H11⟩ := H10.pinRow hx5
       obtain ⟨x9, hx6, hB3⟩ := M.bind_some hB3
       obtain ⟨hx6l, hx6u, hx6⟩ := M.idx_some hx6
       obtain ⟨x10, hx7, hB3⟩ := M.bind_some hB3
       obtain ⟨hx7l, hx7u, hx7⟩ := M.idx_some hx7
       obtain ⟨a6, c6, hc3, r3⟩ := ra_.row hx7
       obtain ⟨x11, hx8, hB3⟩ := M.bind_some hB3
       obtain ⟨hx8l, hx8u, hx8⟩ := M.idx_some hx8
       obtain ⟨x12, hx9, hB3⟩ := M.bind_some hB3
       obtain ⟨hx9l, hx9u, hx9⟩ := M.idx_some hx9
       obtain ⟨a7, c7, hc4, r4⟩ := rb.row hx9
       obtain ⟨x13, hx10, hB3⟩ := M.bind_some hB3
       obtain ⟨hx10l, hx10u, hx10⟩ := M.idx_some hx10
       obtain ⟨x14, hx11, hB3⟩ := M.bind_some hB3
       obtain ⟨x15, hx12, hB3⟩ := M.bind_some hB3
       obtain ⟨hx12l, hx12u, hx12⟩ := M.idx_some hx12
       refine Run_D (fun x => Hold h x [rowsP cd2 24 a2 x2.length c2 s3 [(i1.toNat, a5, x8.length, c5, x8), (i1.toNat, a4, x7.length, c4, x7)]]) (fun x => Hold h x [rowsP cd2 24 a2 x2.length c2 s3 [(i1.toNat, a5, x8.length, c5, x8), (i1.toNat, a4, x7.length, c4, x7)]]) mixed (by kernel_rfl) H11 Hold.stable (fun x Hy => (show Hold h x [rowsP cd2 24 a2 x2.length c2 s3 [(i1.toNat, a5, x8.length, c5, x8), (i1.toNat, a4, x7.length, c4, x7)]] from Hy).pk [0]) ?_
       refine ZB 28 [.slice a2 x2.length c2, .int .i64 i1] 0 ?_
       refine ZY 27 2 (.pointer (some (adr a2 (i1.toNat * 1)))) (fun hx Hx => (YE.of (Zi 22 24 1 (a2) (x2.length) (c2) .i64 (i1) Tryz.underlying22 ((H7.rd 0 rfl).cell hx4).1 hx4l (by rw [← (H7.len 0 rfl)]; exact hx4u)))) ?_
       refine ZY 26 3 (.slice a4 x7.length c4) (fun hx Hx => (YE.of (Zl 24 (adr a2 (i1.toNat * 1)) (.slice a4 x7.length c4) (Hx.cellPin 0 rfl 1 rfl)))) ?_
       refine ZB 23 [.int .i64 s2.2, .slice a2 x2.length c2, .int .i64 i1] 4 ?_
       refine ZY 22 7 (.pointer (some (adr a2 (i1.toNat * 1)))) (fun hx Hx => (YE.of (Zi 22 24 1 (a2) (x2.length) (c2) .i64 (i1) Tryz.underlying22 ((H10.rdRows 0 rfl).cell hx5).1 hx5l (by rw [← (H10.lenRows 0 rfl)]; exact hx5u)))) ?_
       refine ZY 21 8 (.slice a5 x8.length c5) (fun hx Hx => (YE.of (Zl 24 (adr a2 (i1.toNat * 1)) (.slice a5 x8.length c5) (Hx.cellPin 0 rfl 0 rfl)))) ?_
       refine ZB 20 [.int .i64 s2.2] 9 ?_
       refine ZY 19 10 (.pointer (some (adr a5 (s2.2.toNat * 1)))) (fun hx Hx => (YE.of (Zi 24 2 1 (a5) (x8.length) (c5) .i64 (s2.2) Tryz.underlying24 ((H11.rdPin 0 rfl 0 rfl).cell hx6).1 hx6l hx6u))) ?_
       refine ZY 18 11 (.int .i64 x9) (fun hx Hx => (YE.of (Zl 2 (adr a5 (s2.2.toNat * 1)) (.int .i64 x9) (cd2_cell (Hx.rdPin 0 rfl 0 rfl) hx6)))) ?_
       refine ZB 16 [.slice aa_ a_.length ca_, .int .i64 i1] 12 ?_
       refine ZY 15 14 (.pointer (some (adr aa_ (i1.toNat * 1)))) (fun hx Hx => (YE.of (Zi 22 24 1 (aa_) (a_.length) (ca_) .i64 (i1) Tryz.underlying22 ((ra_.at H11.ext).cell hx7).1 hx7l hx7u))) ?_
       refine ZY 14 15 (.slice a6 x10.length c6) (fun hx Hx => (YE.of (Zl 24 (adr aa_ (i1.toNat * 1)) (.slice a6 x10.length c6) (cell_at Hx.ext hc3)))) ?_
       refine ZB 13 [.int .i64 i2] 16 ?_
       refine ZY 12 17 (.pointer (some (adr a6 (i2.toNat * 1)))) (fun hx Hx => (YE.of (Zi 24 2 1 (a6) (x10.length) (c6) .i64 (i2) Tryz.underlying24 ((r3.at H11.ext).cell hx8).1 hx8l hx8u))) ?_
       refine ZY 11 18 (.int .i64 x11) (fun hx Hx => (YE.of (Zl 2 (adr a6 (i2.toNat * 1)) (.int .i64 x11) (cd2_cell (r3.at Hx.ext) hx8)))) ?_
       refine ZB 9 [.slice ab b.length cb, .int .i64 i2] 19 ?_
       refine ZY 8 21 (.pointer (some (adr ab (i2.toNat * 1)))) (fun hx Hx => (YE.of (Zi 22 24 1 (ab) (b.length) (cb) .i64 (i2) Tryz.underlying22 ((rb.at H11.ext).cell hx9).1 hx9l hx9u))) ?_
       refine ZY 7 22 (.slice a7 x12.length c7) (fun hx Hx => (YE.of (Zl 24 (adr ab (i2.toNat * 1)) (.slice a7 x12.length c7) (cell_at Hx.ext hc4)))) ?_
       refine ZB 6 [.int .i64 s2.2] 23 ?_
       refine ZY 5 24 (.pointer (some (adr a7 (s2.2.toNat * 1)))) (fun hx Hx => (YE.of (Zi 24 2 1 (a7) (x12.length) (c7) .i64 (s2.2) Tryz.underlying24 ((r4.at H11.ext).cell hx10).1 hx10l hx10u))) ?_
       refine ZY 4 25 (.int .i64 x13) (fun hx Hx => (YE.of (Zl 2 (adr a7 (s2.2.toNat * 1)) (.int .i64 x13) (cd2_cell (r4.at Hx.ext) hx10)))) ?_
       refine ZY 3 26 (.int .i64 x14) (fun hx Hx => (YE.of (ZQ 80 #[.int .i64 x11, .int .i64 x13] (w_spec_l01Times hx x11 x13 _ _ hx11)))) ?_
       refine ZB 2 [.int .i64 (mx x9 x14)] 27 ?_
       refine ZY 1 28 (.pointer (some (adr a4 (s2.2.toNat * 1)))) (fun hx Hx => (YE.of (Zi 24 2 1 (a4) (x7.length) (c4) .i64 (s2.2) Tryz.underlying24 ((H11.rdPin 0 rfl 1 rfl).cell hx12).1 hx12l hx12u))) ?_
       refine ZT 29 (fun h8 H12 => ?_)
       have H13 : Hold h h8 [rowsP cd2 24 a2 x2.length c2 s3 [(i1.toNat, a5, x8.length, c5, x8), (i1.toNat, a4, x7.length, c4, x7)]] := H12
       obtain ⟨l1, hu1, hB3⟩ := M.bind_some hB3
       have hu1 := M.upd_some hu1
       refine Ze ?_
       refine E_put2 (C := cd2) (t := 2) (sz := 1) (j := s2.2) (x := (mx x9 x14)) (v := .int .i64 (mx x9 x14)) (m2 := s3.set i1.toNat l1) H13 cd2_flat 1 rfl (by kernel_rfl) rfl (cd2_own _) (by kernel_rfl) hu1 rfl (fun h9 H14 => ?_)
       refine Zx ?_
       refine Zk [0, 1, 5, 6, 7, 8] [(0, .slice aa_ a_.length ca_), (1, .slice ab b.length cb), (5, .slice a2 x2.length c2), (6, .int .i64 i1), (7, .int .i64 s2.2), (8, .int .i64 i2)] ?_
       refine Run_blk ?_
       refine Zg 3 [(0, .slice aa_ a_.length ca_), (1, .slice ab b.length cb), (5, .slice a2 x2.length c2), (6, .int .i64 i1), (7, .int .i64 s2.2), (8, .int .i64 (i2 + 1))] ?_ ?_
       ·refine Zb [.int .i64 i2] 0 ?_
        refine Zy (.int .i64 (i2 + 1)) (Y_eq (v := .int .i64 (w64 (i2 + 1))) (Y_pure (fun w => by kernel_rfl)) (by rw [w64_eq _ (by omega)])) ?_
        refine Zb [.int .i64 (i2 + 1)] 2 ?_
        exact Zd [0, 1, 5, 6, 7, 8]
       have H15 := H14.ofRows
       have hB3 := M.ret_some hB3
       have gx6 := hgoy3 _ hB3.symm
       exact Za [0, 1, 5, 6, 7, 8] my3 ⟨i2 + 1, (s3.set i1.toNat l1), by omega, gx6, rfl, H15⟩
      ·have gx6 := M.for_end gx6 hb3
       subst gx6
       refine Run_exit (k' := _) rfl ?_
       exact Zf [0, 1, 5, 6, 7] ⟨rfl, H7⟩
    ·have hB2 := (M.ite_some hB2).2 hb2
     refine Run_exit (k' := _) rfl ?_
     have hB2 := M.ret_some hB2
     have gx4 := houty2 _ hB2.symm
     subst gx4
     exact Zf [0, 1, 5, 6] ⟨rfl, H5⟩
  ·have gx3 := M.for_end gx3 hb1
   subst gx3
   refine Run_exit (k' := _) rfl ?_
   exact Zf [5] ⟨rfl, H3⟩

theorem w_spec_l02Add (h : Heap) (a_ : List (List Int)) (aa_ : Option Addr) (ca_ : Nat) (ra_ : Rd cd24 h (Lt h) aa_ ca_ a_) (b : List (List Int)) (ab : Option Addr) (cb : Nat) (rb : Rd cd24 h (Lt h) ab cb b) (n : Nat) (r : (List (List Int))) (hF : spec_l02Add a_ b n = some r) :
  Fn Tryz.prog 100 #[.slice aa_ a_.length ca_, .slice ab b.length cb] h fun v h' => ∃ (a0 : Option Addr) (c0 : Nat), v = .slice a0 r.length c0 ∧ Hold h h' [own cd24 a0 r.length c0 r] := by
 unfold spec_l02Add at hF
 refine Zo [.slice aa_ a_.length ca_, .slice ab b.length cb] Tryz.func100 rfl (fun w0 _ => ?_)
 have H0 := Hold.init h
 refine Zs ?_
 refine Zq [.slice none 0 0] [0, 1] [(0, .slice aa_ a_.length ca_), (1, .slice ab b.length cb)] ?_
 refine Zs ?_
 refine Run_ops ?_
 refine Zr [.slice aa_ a_.length ca_] 0 ?_
 obtain ⟨x1, hx1, hF⟩ := M.bind_some hF
 refine Ze ?_
 refine ZC 103 #[.slice aa_ a_.length ca_] (w_spec_l02Own h a_ aa_ ca_ ra_ _ _ hx1) (fun v1 h1 hp1 => ?_)
 obtain ⟨a1, c1, rfl, H1⟩ := hp1
 have H2 : Hold h h1 [own cd24 a1 x1.length c1 x1] := H0.call H1 rfl
 refine Zr [.slice a1 x1.length c1] 2 ?_
 refine Zx ?_
 refine Zk [1, 5] [(1, .slice ab b.length cb), (5, .slice a1 x1.length c1)] ?_
 refine Zs ?_
 refine Zs ?_
 refine Zq [.int .i64 0] [1, 5, 6] [(1, .slice ab b.length cb), (5, .slice a1 x1.length c1), (6, .int .i64 0)] ?_
 obtain ⟨x2, gx2, hF⟩ := M.bind_some hF
 obtain ⟨hloy1, hhiy1, gx2⟩ := M.for_start gx2
 refine Run_join (fun L' h' => L' = [(5, .slice a1 x1.length c1)] ∧ Hold h h' [own cd24 a1 x1.length c1 x2]) ?_ ?_
 ·rintro _ h3 ⟨rfl, H4⟩
  refine Zs ?_
  refine Zq [.slice a1 x1.length c1, .slice a1 x1.length c1] [4] [(4, .slice a1 x1.length c1)] ?_
  have hF := M.ret_some hF
  subst hF
  have H16 := H4.norm
  exact Run_ret1 rfl (Zt (.slice a1 x1.length c1)) ⟨a1, c1, (by simp only [(H4.len 0 rfl)]), H16⟩
 ·refine Run_block ?_
  refine Zk [1, 5, 6] [(1, .slice ab b.length cb), (5, .slice a1 x1.length c1), (6, .int .i64 0)] ?_
  refine Run_loop (fun m L' h' => ∃ (i1 : Int) (s1 : (List (List Int))), 0 ≤ i1 ∧ M.forN (x1.length : Int) _ _ n m i1 s1 = some x2 ∧ L' = [(1, .slice ab b.length cb), (5, .slice a1 x1.length c1), (6, .int .i64 i1)] ∧ Hold h h' [own cd24 a1 x1.length c1 s1]) ((x1.length : Int) - 0 : Int).toNat ⟨0, x1, Int.le_refl _, gx2, rfl, H2⟩ ?_
  rintro my1 _ h2 ⟨i1, s1, hloy1', gx2, rfl, H3⟩
  refine Zs ?_
  refine Zs ?_
  refine Zq [.int .i64 i1, .slice a1 x1.length c1, .int .i64 (x1.length : Int), .bool (decide (i1 < (x1.length : Int)))] [1, 5, 6, 13] [(1, .slice ab b.length cb), (5, .slice a1 x1.length c1), (6, .int .i64 i1), (13, .bool (decide (i1 < (x1.length : Int))))] ?_
  refine Zc (decide (i1 < (x1.length : Int))) (fun hb1 => ?_) (fun hb1 => ?_)
  ·obtain ⟨my1, y1, rfl, hB1, hgoy1, houty1⟩ := M.for_go gx2 hb1
   have hlty1 := of_decide_eq_true hb1
   refine Run_skip ?_
   refine Zs ?_
   refine Run_block ?_
   refine Zs ?_
   refine Zq [.int .i64 0] [1, 5, 6, 7] [(1, .slice ab b.length cb), (5, .slice a1 x1.length c1), (6, .int .i64 i1), (7, .int .i64 0)] ?_
   obtain ⟨x3, gx3, hB1⟩ := M.bind_some hB1
   refine Run_join (fun L' h' => L' = [(1, .slice ab b.length cb), (5, .slice a1 x1.length c1), (6, .int .i64 i1)] ∧ Hold h h' [own cd24 a1 x1.length c1 x3.1]) ?_ ?_
   ·rintro _ h5 ⟨rfl, H6⟩
    refine Run_blk ?_
    refine Zg 3 [(1, .slice ab b.length cb), (5, .slice a1 x1.length c1), (6, .int .i64 (i1 + 1))] ?_ ?_
    ·refine Zb [.int .i64 i1] 0 ?_
     refine Zy (.int .i64 (i1 + 1)) (Y_eq (v := .int .i64 (w64 (i1 + 1))) (Y_pure (fun w => by kernel_rfl)) (by rw [w64_eq _ (by omega)])) ?_
     refine Zb [.int .i64 (i1 + 1)] 2 ?_
     exact Zd [1, 5, 6]
    have hB1 := M.ret_some hB1
    have gx2 := hgoy1 _ hB1.symm
    exact Za [1, 5, 6] my1 ⟨i1 + 1, x3.1, by omega, gx2, rfl, H6⟩
   ·refine Run_block ?_
    refine Zk [1, 5, 6, 7] [(1, .slice ab b.length cb), (5, .slice a1 x1.length c1), (6, .int .i64 i1), (7, .int .i64 0)] ?_
    refine Run_loop (fun m L' h' => ∃ (s2 : (List (List Int)) × Int), M.loopN _ n m s2 = some x3 ∧ L' = [(1, .slice ab b.length cb), (5, .slice a1 x1.length c1), (6, .int .i64 i1), (7, .int .i64 s2.2)] ∧ Hold h h' [own cd24 a1 x1.length c1 s2.1]) n ⟨(s1, 0), gx3, rfl, H3⟩ ?_
    rintro my2 _ h4 ⟨s2, gx3, rfl, H5⟩
    obtain ⟨my2, y2, rfl, hB2, hgoy2, houty2⟩ := M.loop_some gx3
    refine Zs ?_
    refine Zs ?_
    obtain ⟨x4, hx2, hB2⟩ := M.bind_some hB2
    obtain ⟨hx2l, hx2u, hx2⟩ := M.idx_some hx2
    have H7 := H5.toRows
    obtain ⟨a2, c2, H8⟩ := H7.pinRow hx2
    refine Zg 7 [(1, .slice ab b.length cb), (5, .slice a1 x1.length c1), (6, .int .i64 i1), (7, .int .i64 s2.2), (22, .bool (decide (s2.2 < (x4.length : Int))))] ?_ ?_
    ·refine Zb [.int .i64 s2.2, .slice a1 x1.length c1, .int .i64 i1] 0 ?_
     refine Zy (.pointer (some (adr a1 (i1.toNat * 1)))) (Zi 22 24 1 (a1) (x1.length) (c1) .i64 (i1) Tryz.underlying22 ((H5.rd 0 rfl).cell hx2).1 hx2l (by rw [← (H5.len 0 rfl)]; exact hx2u)) ?_
     refine Zy (.slice a2 x4.length c2) (Zl 24 (adr a1 (i1.toNat * 1)) (.slice a2 x4.length c2) (H8.cellPin 0 rfl 0 rfl)) ?_
     refine Zb [.int .i64 (x4.length : Int), .bool (decide (s2.2 < (x4.length : Int)))] 5 ?_
     exact Zd [1, 5, 6, 7, 22]
    refine Zc (decide (s2.2 < (x4.length : Int))) (fun hb2 => ?_) (fun hb2 => ?_)
    ·have hB2 := (M.ite_some hB2).1 hb2
     refine Run_skip ?_
     refine Zs ?_
     refine Run_block ?_
     obtain ⟨x5, hx3, hB2⟩ := M.bind_some hB2
     obtain ⟨hx3l, hx3u, hx3⟩ := M.idx_some hx3
     obtain ⟨a3, c3, H9⟩ := H8.pinRow hx3
     obtain ⟨x6, hx4, hB2⟩ := M.bind_some hB2
     obtain ⟨hx4l, hx4u, hx4⟩ := M.idx_some hx4
     obtain ⟨a4, c4, H10⟩ := H9.pinRow hx4
     obtain ⟨x7, hx5, hB2⟩ := M.bind_some hB2
     obtain ⟨hx5l, hx5u, hx5⟩ := M.idx_some hx5
     obtain ⟨x8, hx6, hB2⟩ := M.bind_some hB2
     obtain ⟨hx6l, hx6u, hx6⟩ := M.idx_some hx6
     obtain ⟨a5, c5, hc1, r1⟩ := rb.row hx6
     obtain ⟨x9, hx7, hB2⟩ := M.bind_some hB2
     obtain ⟨hx7l, hx7u, hx7⟩ := M.idx_some hx7
     obtain ⟨x10, hx8, hB2⟩ := M.bind_some hB2
     obtain ⟨hx8l, hx8u, hx8⟩ := M.idx_some hx8
     refine Run_D (fun x => Hold h x [rowsP cd2 24 a1 x1.length c1 s2.1 [(i1.toNat, a4, x6.length, c4, x6), (i1.toNat, a3, x5.length, c3, x5), (i1.toNat, a2, x4.length, c2, x4)]]) (fun x => Hold h x [rowsP cd2 24 a1 x1.length c1 s2.1 [(i1.toNat, a4, x6.length, c4, x6), (i1.toNat, a3, x5.length, c3, x5), (i1.toNat, a2, x4.length, c2, x4)]]) mixed (by kernel_rfl) H10 Hold.stable (fun x Hy => (show Hold h x [rowsP cd2 24 a1 x1.length c1 s2.1 [(i1.toNat, a4, x6.length, c4, x6), (i1.toNat, a3, x5.length, c3, x5), (i1.toNat, a2, x4.length, c2, x4)]] from Hy).pk [0]) ?_
     refine ZB 20 [.slice a1 x1.length c1, .int .i64 i1] 0 ?_
     refine ZY 19 2 (.pointer (some (adr a1 (i1.toNat * 1)))) (fun hx Hx => (YE.of (Zi 22 24 1 (a1) (x1.length) (c1) .i64 (i1) Tryz.underlying22 ((H8.rdRows 0 rfl).cell hx3).1 hx3l (by rw [← (H8.lenRows 0 rfl)]; exact hx3u)))) ?_
     refine ZY 18 3 (.slice a3 x5.length c3) (fun hx Hx => (YE.of (Zl 24 (adr a1 (i1.toNat * 1)) (.slice a3 x5.length c3) (Hx.cellPin 0 rfl 1 rfl)))) ?_
     refine ZB 15 [.int .i64 s2.2, .slice a1 x1.length c1, .int .i64 i1] 4 ?_
     refine ZY 14 7 (.pointer (some (adr a1 (i1.toNat * 1)))) (fun hx Hx => (YE.of (Zi 22 24 1 (a1) (x1.length) (c1) .i64 (i1) Tryz.underlying22 ((H9.rdRows 0 rfl).cell hx4).1 hx4l (by rw [← (H9.lenRows 0 rfl)]; exact hx4u)))) ?_
     refine ZY 13 8 (.slice a4 x6.length c4) (fun hx Hx => (YE.of (Zl 24 (adr a1 (i1.toNat * 1)) (.slice a4 x6.length c4) (Hx.cellPin 0 rfl 0 rfl)))) ?_
     refine ZB 12 [.int .i64 s2.2] 9 ?_
     refine ZY 11 10 (.pointer (some (adr a4 (s2.2.toNat * 1)))) (fun hx Hx => (YE.of (Zi 24 2 1 (a4) (x6.length) (c4) .i64 (s2.2) Tryz.underlying24 ((H10.rdPin 0 rfl 0 rfl).cell hx5).1 hx5l hx5u))) ?_
     refine ZY 10 11 (.int .i64 x7) (fun hx Hx => (YE.of (Zl 2 (adr a4 (s2.2.toNat * 1)) (.int .i64 x7) (cd2_cell (Hx.rdPin 0 rfl 0 rfl) hx5)))) ?_
     refine ZB 8 [.slice ab b.length cb, .int .i64 i1] 12 ?_
     refine ZY 7 14 (.pointer (some (adr ab (i1.toNat * 1)))) (fun hx Hx => (YE.of (Zi 22 24 1 (ab) (b.length) (cb) .i64 (i1) Tryz.underlying22 ((rb.at H10.ext).cell hx6).1 hx6l hx6u))) ?_
     refine ZY 6 15 (.slice a5 x8.length c5) (fun hx Hx => (YE.of (Zl 24 (adr ab (i1.toNat * 1)) (.slice a5 x8.length c5) (cell_at Hx.ext hc1)))) ?_
     refine ZB 5 [.int .i64 s2.2] 16 ?_
     refine ZY 4 17 (.pointer (some (adr a5 (s2.2.toNat * 1)))) (fun hx Hx => (YE.of (Zi 24 2 1 (a5) (x8.length) (c5) .i64 (s2.2) Tryz.underlying24 ((r1.at H10.ext).cell hx7).1 hx7l hx7u))) ?_
     refine ZY 3 18 (.int .i64 x9) (fun hx Hx => (YE.of (Zl 2 (adr a5 (s2.2.toNat * 1)) (.int .i64 x9) (cd2_cell (r1.at Hx.ext) hx7)))) ?_
     refine ZB 2 [.int .i64 (mx x7 x9)] 19 ?_
     refine ZY 1 20 (.pointer (some (adr a3 (s2.2.toNat * 1)))) (fun hx Hx => (YE.of (Zi 24 2 1 (a3) (x5.length) (c3) .i64 (s2.2) Tryz.underlying24 ((H10.rdPin 0 rfl 1 rfl).cell hx8).1 hx8l hx8u))) ?_
     refine ZT 21 (fun h6 H11 => ?_)
     have H12 : Hold h h6 [rowsP cd2 24 a1 x1.length c1 s2.1 [(i1.toNat, a4, x6.length, c4, x6), (i1.toNat, a3, x5.length, c3, x5), (i1.toNat, a2, x4.length, c2, x4)]] := H11
     obtain ⟨l1, hu1, hB2⟩ := M.bind_some hB2
     have hu1 := M.upd_some hu1
     refine Ze ?_
     refine E_put2 (C := cd2) (t := 2) (sz := 1) (j := s2.2) (x := (mx x7 x9)) (v := .int .i64 (mx x7 x9)) (m2 := s2.1.set i1.toNat l1) H12 cd2_flat 1 rfl (by kernel_rfl) rfl (cd2_own _) (by kernel_rfl) hu1 rfl (fun h7 H13 => ?_)
     refine Zx ?_
     refine Zk [1, 5, 6, 7] [(1, .slice ab b.length cb), (5, .slice a1 x1.length c1), (6, .int .i64 i1), (7, .int .i64 s2.2)] ?_
     refine Run_blk ?_
     refine Zq [.int .i64 s2.2, .int .i64 (w64 (s2.2 + 1)), .int .i64 (w64 (s2.2 + 1))] [1, 5, 6, 7] [(1, .slice ab b.length cb), (5, .slice a1 x1.length c1), (6, .int .i64 i1), (7, .int .i64 (w64 (s2.2 + 1)))] ?_
     have H14 := H13.ofRows
     have hB2 := M.ret_some hB2
     have gx3 := hgoy2 _ hB2.symm
     exact Za [1, 5, 6, 7] my2 ⟨((s2.1.set i1.toNat l1), (w64 (s2.2 + 1))), gx3, rfl, H14⟩
    ·have hB2 := (M.ite_some hB2).2 hb2
     refine Run_exit (k' := _) rfl ?_
     have H15 := H8.ofRows
     have hB2 := M.ret_some hB2
     have gx3 := houty2 _ hB2.symm
     subst gx3
     exact Zf [1, 5, 6] ⟨rfl, H15⟩
  ·have gx2 := M.for_end gx2 hb1
   subst gx2
   refine Run_exit (k' := _) rfl ?_
   exact Zf [5] ⟨rfl, H3⟩

theorem w_spec_l01Same (h : Heap) (a_ : List Int) {Sa_ : Bs} (aa_ : Option Addr) (ca_ : Nat) (ra_ : Rd cd2 h Sa_ aa_ ca_ a_) (b : List Int) {Sb : Bs} (ab : Option Addr) (cb : Nat) (rb : Rd cd2 h Sb ab cb b) (n : Nat) (r : Bool) (hF : spec_l01Same a_ b n = some r) :
  Fn Tryz.prog 142 #[.slice aa_ a_.length ca_, .slice ab b.length cb] h fun v h' => v = .bool r ∧ h' = h := by
 unfold spec_l01Same at hF
 refine Zo [.slice aa_ a_.length ca_, .slice ab b.length cb] Tryz.func142 rfl (fun w0 _ => ?_)
 refine Zs ?_
 refine Zq [.bool false] [0, 1] [(0, .slice aa_ a_.length ca_), (1, .slice ab b.length cb)] ?_
 refine Zs ?_
 refine Zs ?_
 refine Zq [.slice aa_ a_.length ca_, .int .i64 (a_.length : Int), .slice ab b.length cb, .int .i64 (b.length : Int), .bool ((a_.length : Int) != (b.length : Int))] [0, 1, 10] [(0, .slice aa_ a_.length ca_), (1, .slice ab b.length cb), (10, .bool ((a_.length : Int) != (b.length : Int)))] ?_
 refine Zc ((a_.length : Int) != (b.length : Int)) (fun hb1 => ?_) (fun hb1 => ?_)
 ·have hF := (M.ite_some hF).1 hb1
  refine Zs ?_
  refine Zq [.bool false] [4] [(4, .bool false)] ?_
  have hF := M.ret_some hF
  subst hF
  exact Run_ret1 rfl (Zt (.bool false)) ⟨rfl, rfl⟩
 ·have hF := (M.ite_some hF).2 hb1
  refine Run_skip ?_
  refine Zs ?_
  refine Zs ?_
  refine Zq [.int .i64 0] [0, 1, 5] [(0, .slice aa_ a_.length ca_), (1, .slice ab b.length cb), (5, .int .i64 0)] ?_
  obtain ⟨x1, gx1, hF⟩ := M.bind_some hF
  obtain ⟨hloy1, hhiy1, gx1⟩ := M.for_start gx1
  refine Run_join (fun L' h' => ∃ (s2 : Unit), x1 = .inl s2 ∧ L' = [] ∧ h = h') ?_ ?_
  ·rintro _ _ ⟨s2, es2, rfl, rfl⟩
   have hF := M.cont_inl' hF es2
   refine Zs ?_
   refine Zq [.bool true] [4] [(4, .bool true)] ?_
   have hF := M.ret_some hF
   subst hF
   exact Run_ret1 rfl (Zt (.bool true)) ⟨rfl, rfl⟩
  ·refine Run_block ?_
   refine Zk [0, 1, 5] [(0, .slice aa_ a_.length ca_), (1, .slice ab b.length cb), (5, .int .i64 0)] ?_
   refine Run_loop (fun m L' h' => ∃ (i1 : Int) (s1 : Unit), 0 ≤ i1 ∧ M.forN (a_.length : Int) _ _ n m i1 s1 = some x1 ∧ L' = [(0, .slice aa_ a_.length ca_), (1, .slice ab b.length cb), (5, .int .i64 i1)] ∧ h = h') ((a_.length : Int) - 0 : Int).toNat ⟨0, (), Int.le_refl _, gx1, rfl, rfl⟩ ?_
   rintro my1 _ _ ⟨i1, s1, hloy1', gx1, rfl, rfl⟩
   refine Zs ?_
   refine Zs ?_
   refine Zq [.int .i64 i1, .slice aa_ a_.length ca_, .int .i64 (a_.length : Int), .bool (decide (i1 < (a_.length : Int)))] [0, 1, 5, 14] [(0, .slice aa_ a_.length ca_), (1, .slice ab b.length cb), (5, .int .i64 i1), (14, .bool (decide (i1 < (a_.length : Int))))] ?_
   refine Zc (decide (i1 < (a_.length : Int))) (fun hb2 => ?_) (fun hb2 => ?_)
   ·obtain ⟨my1, y1, rfl, hB1, hgoy1, houty1⟩ := M.for_go gx1 hb2
    have hlty1 := of_decide_eq_true hb2
    refine Run_skip ?_
    refine Zs ?_
    refine Run_block ?_
    refine Zs ?_
    obtain ⟨x2, hx1, hB1⟩ := M.bind_some hB1
    obtain ⟨hx1l, hx1u, hx1⟩ := M.idx_some hx1
    obtain ⟨x3, hx2, hB1⟩ := M.bind_some hB1
    obtain ⟨hx2l, hx2u, hx2⟩ := M.idx_some hx2
    refine Run_draw 9 mixed (by kernel_rfl) (by kernel_rfl) (L' := [(0, .slice aa_ a_.length ca_), (1, .slice ab b.length cb), (5, .int .i64 i1), (25, .bool (x2 != x3))]) ?_ ?_
    ·refine Zb [.slice aa_ a_.length ca_, .int .i64 i1] 0 ?_
     refine Zy (.pointer (some (adr aa_ (i1.toNat * 1)))) (Zi 24 2 1 (aa_) (a_.length) (ca_) .i64 (i1) Tryz.underlying24 (ra_.cell hx1).1 hx1l hx1u) ?_
     refine Zy (.int .i64 x2) (Zl 2 (adr aa_ (i1.toNat * 1)) (.int .i64 x2) (cd2_cell ra_ hx1)) ?_
     refine Zb [.slice ab b.length cb, .int .i64 i1] 4 ?_
     refine Zy (.pointer (some (adr ab (i1.toNat * 1)))) (Zi 24 2 1 (ab) (b.length) (cb) .i64 (i1) Tryz.underlying24 (rb.cell hx2).1 hx2l hx2u) ?_
     refine Zy (.int .i64 x3) (Zl 2 (adr ab (i1.toNat * 1)) (.int .i64 x3) (cd2_cell rb hx2)) ?_
     refine Zb [.bool (x2 != x3)] 8 ?_
     exact Zd [0, 1, 5, 25]
    refine Zc (x2 != x3) (fun hb3 => ?_) (fun hb3 => ?_)
    ·have hB1 := (M.ite_some hB1).1 hb3
     refine Zs ?_
     refine Zq [.bool false] [4] [(4, .bool false)] ?_
     have hB1 := M.ret_some hB1
     have gx1 := houty1 _ hB1.symm
     have hF := M.cont_inr' hF gx1
     have hF := M.ret_some hF
     subst hF
     exact Run_ret1 rfl (Zt (.bool false)) ⟨rfl, rfl⟩
    ·have hB1 := (M.ite_some hB1).2 hb3
     refine Run_skip ?_
     refine Run_blk ?_
     refine Zg 3 [(0, .slice aa_ a_.length ca_), (1, .slice ab b.length cb), (5, .int .i64 (i1 + 1))] ?_ ?_
     ·refine Zb [.int .i64 i1] 0 ?_
      refine Zy (.int .i64 (i1 + 1)) (Y_eq (v := .int .i64 (w64 (i1 + 1))) (Y_pure (fun w => by kernel_rfl)) (by rw [w64_eq _ (by omega)])) ?_
      refine Zb [.int .i64 (i1 + 1)] 2 ?_
      exact Zd [0, 1, 5]
     have hB1 := M.ret_some hB1
     have gx1 := hgoy1 _ hB1.symm
     exact Za [0, 1, 5] my1 ⟨i1 + 1, (), by omega, gx1, rfl, rfl⟩
   ·have gx1 := M.for_end gx1 hb2
    subst gx1
    refine Run_exit (k' := _) rfl ?_
    exact Zf [] ⟨(), rfl, rfl, rfl⟩

theorem w_spec_l02Same (h : Heap) (a_ : List (List Int)) {Sa_ : Bs} (aa_ : Option Addr) (ca_ : Nat) (ra_ : Rd cd24 h Sa_ aa_ ca_ a_) (b : List (List Int)) {Sb : Bs} (ab : Option Addr) (cb : Nat) (rb : Rd cd24 h Sb ab cb b) (n : Nat) (r : Bool) (hF : spec_l02Same a_ b n = some r) :
  Fn Tryz.prog 102 #[.slice aa_ a_.length ca_, .slice ab b.length cb] h fun v h' => v = .bool r ∧ h' = h := by
 unfold spec_l02Same at hF
 refine Zo [.slice aa_ a_.length ca_, .slice ab b.length cb] Tryz.func102 rfl (fun w0 _ => ?_)
 refine Zs ?_
 refine Zq [.bool false] [0, 1] [(0, .slice aa_ a_.length ca_), (1, .slice ab b.length cb)] ?_
 refine Zs ?_
 refine Zs ?_
 refine Zq [.slice aa_ a_.length ca_, .int .i64 (a_.length : Int), .slice ab b.length cb, .int .i64 (b.length : Int), .bool ((a_.length : Int) != (b.length : Int))] [0, 1, 10] [(0, .slice aa_ a_.length ca_), (1, .slice ab b.length cb), (10, .bool ((a_.length : Int) != (b.length : Int)))] ?_
 refine Zc ((a_.length : Int) != (b.length : Int)) (fun hb1 => ?_) (fun hb1 => ?_)
 ·have hF := (M.ite_some hF).1 hb1
  refine Zs ?_
  refine Zq [.bool false] [4] [(4, .bool false)] ?_
  have hF := M.ret_some hF
  subst hF
  exact Run_ret1 rfl (Zt (.bool false)) ⟨rfl, rfl⟩
 ·have hF := (M.ite_some hF).2 hb1
  refine Run_skip ?_
  refine Zs ?_
  refine Zs ?_
  refine Zq [.int .i64 0] [0, 1, 5] [(0, .slice aa_ a_.length ca_), (1, .slice ab b.length cb), (5, .int .i64 0)] ?_
  obtain ⟨x1, gx1, hF⟩ := M.bind_some hF
  obtain ⟨hloy1, hhiy1, gx1⟩ := M.for_start gx1
  refine Run_join (fun L' h' => ∃ (s2 : Unit), x1 = .inl s2 ∧ L' = [] ∧ h = h') ?_ ?_
  ·rintro _ _ ⟨s2, es2, rfl, rfl⟩
   have hF := M.cont_inl' hF es2
   refine Zs ?_
   refine Zq [.bool true] [4] [(4, .bool true)] ?_
   have hF := M.ret_some hF
   subst hF
   exact Run_ret1 rfl (Zt (.bool true)) ⟨rfl, rfl⟩
  ·refine Run_block ?_
   refine Zk [0, 1, 5] [(0, .slice aa_ a_.length ca_), (1, .slice ab b.length cb), (5, .int .i64 0)] ?_
   refine Run_loop (fun m L' h' => ∃ (i1 : Int) (s1 : Unit), 0 ≤ i1 ∧ M.forN (a_.length : Int) _ _ n m i1 s1 = some x1 ∧ L' = [(0, .slice aa_ a_.length ca_), (1, .slice ab b.length cb), (5, .int .i64 i1)] ∧ h = h') ((a_.length : Int) - 0 : Int).toNat ⟨0, (), Int.le_refl _, gx1, rfl, rfl⟩ ?_
   rintro my1 _ _ ⟨i1, s1, hloy1', gx1, rfl, rfl⟩
   refine Zs ?_
   refine Zs ?_
   refine Zq [.int .i64 i1, .slice aa_ a_.length ca_, .int .i64 (a_.length : Int), .bool (decide (i1 < (a_.length : Int)))] [0, 1, 5, 14] [(0, .slice aa_ a_.length ca_), (1, .slice ab b.length cb), (5, .int .i64 i1), (14, .bool (decide (i1 < (a_.length : Int))))] ?_
   refine Zc (decide (i1 < (a_.length : Int))) (fun hb2 => ?_) (fun hb2 => ?_)
   ·obtain ⟨my1, y1, rfl, hB1, hgoy1, houty1⟩ := M.for_go gx1 hb2
    have hlty1 := of_decide_eq_true hb2
    refine Run_skip ?_
    refine Zs ?_
    refine Run_block ?_
    refine Zs ?_
    obtain ⟨x2, hx1, hB1⟩ := M.bind_some hB1
    obtain ⟨hx1l, hx1u, hx1⟩ := M.idx_some hx1
    obtain ⟨a1, c1, hc1, r1⟩ := ra_.row hx1
    obtain ⟨x3, hx2, hB1⟩ := M.bind_some hB1
    obtain ⟨hx2l, hx2u, hx2⟩ := M.idx_some hx2
    obtain ⟨a2, c2, hc2, r2⟩ := rb.row hx2
    obtain ⟨x4, hx3, hB1⟩ := M.bind_some hB1
    refine Run_draw 10 mixed (by kernel_rfl) (by kernel_rfl) (L' := [(0, .slice aa_ a_.length ca_), (1, .slice ab b.length cb), (5, .int .i64 i1), (26, .bool (!x4))]) ?_ ?_
    ·refine Zb [.slice aa_ a_.length ca_, .int .i64 i1] 0 ?_
     refine Zy (.pointer (some (adr aa_ (i1.toNat * 1)))) (Zi 22 24 1 (aa_) (a_.length) (ca_) .i64 (i1) Tryz.underlying22 (ra_.cell hx1).1 hx1l hx1u) ?_
     refine Zy (.slice a1 x2.length c1) (Zl 24 (adr aa_ (i1.toNat * 1)) (.slice a1 x2.length c1) hc1) ?_
     refine Zb [.slice ab b.length cb, .int .i64 i1] 4 ?_
     refine Zy (.pointer (some (adr ab (i1.toNat * 1)))) (Zi 22 24 1 (ab) (b.length) (cb) .i64 (i1) Tryz.underlying22 (rb.cell hx2).1 hx2l hx2u) ?_
     refine Zy (.slice a2 x3.length c2) (Zl 24 (adr ab (i1.toNat * 1)) (.slice a2 x3.length c2) hc2) ?_
     refine Zy (.bool x4) (ZQ 142 #[.slice a1 x2.length c1, .slice a2 x3.length c2] (w_spec_l01Same h x2 a1 c1 r1 x3 a2 c2 r2 _ _ hx3)) ?_
     refine Zb [.bool (!x4)] 9 ?_
     exact Zd [0, 1, 5, 26]
    refine Zc (!x4) (fun hb3 => ?_) (fun hb3 => ?_)
    ·have hB1 := (M.ite_some hB1).1 hb3
     refine Zs ?_
     refine Zq [.bool false] [4] [(4, .bool false)] ?_
     have hB1 := M.ret_some hB1
     have gx1 := houty1 _ hB1.symm
     have hF := M.cont_inr' hF gx1
     have hF := M.ret_some hF
     subst hF
     exact Run_ret1 rfl (Zt (.bool false)) ⟨rfl, rfl⟩
    ·have hB1 := (M.ite_some hB1).2 hb3
     refine Run_skip ?_
     refine Run_blk ?_
     refine Zg 3 [(0, .slice aa_ a_.length ca_), (1, .slice ab b.length cb), (5, .int .i64 (i1 + 1))] ?_ ?_
     ·refine Zb [.int .i64 i1] 0 ?_
      refine Zy (.int .i64 (i1 + 1)) (Y_eq (v := .int .i64 (w64 (i1 + 1))) (Y_pure (fun w => by kernel_rfl)) (by rw [w64_eq _ (by omega)])) ?_
      refine Zb [.int .i64 (i1 + 1)] 2 ?_
      exact Zd [0, 1, 5]
     have hB1 := M.ret_some hB1
     have gx1 := hgoy1 _ hB1.symm
     exact Za [0, 1, 5] my1 ⟨i1 + 1, (), by omega, gx1, rfl, rfl⟩
   ·have gx1 := M.for_end gx1 hb2
    subst gx1
    refine Run_exit (k' := _) rfl ?_
    exact Zf [] ⟨(), rfl, rfl, rfl⟩

theorem w_spec_l03Star (h : Heap) (a_ : List (List Int)) (aa_ : Option Addr) (ca_ : Nat) (ra_ : Rd cd24 h (Lt h) aa_ ca_ a_) (n : Nat) (r : (List (List Int)) × Bool) (hF : spec_l03Star a_ n = some r) :
  Fn Tryz.prog 58 #[.slice aa_ a_.length ca_] h fun v h' => ∃ (a0 : Option Addr) (c0 : Nat), v = .tuple #[.slice a0 r.1.length c0, .bool r.2] ∧ Hold h h' [own cd24 a0 r.1.length c0 r.1] := by
 unfold spec_l03Star at hF
 refine Zo [.slice aa_ a_.length ca_] Tryz.func58 rfl (fun w0 _ => ?_)
 have H0 := Hold.init h
 refine Zs ?_
 refine Zq [.slice none 0 0, .bool false] [0] [(0, .slice aa_ a_.length ca_)] ?_
 refine Zs ?_
 refine Zq [.slice aa_ a_.length ca_, .int .i64 (a_.length : Int), .int .i64 (a_.length : Int)] [0, 4] [(0, .slice aa_ a_.length ca_), (4, .int .i64 (a_.length : Int))] ?_
 refine Zs ?_
 refine Run_ops ?_
 refine Zr [.int .i64 (a_.length : Int)] 0 ?_
 obtain ⟨x1, hx1, hF⟩ := M.bind_some hF
 refine Ze ?_
 refine ZC 99 #[.int .i64 (a_.length : Int)] (w_spec_l02Unit h (a_.length : Int) _ _ hx1) (fun v1 h1 hp1 => ?_)
 obtain ⟨a1, c1, rfl, H1⟩ := hp1
 have H2 : Hold h h1 [own cd24 a1 x1.length c1 x1] := H0.call H1 rfl
 refine Zr [.slice a1 x1.length c1] 2 ?_
 refine Zx ?_
 refine Zk [0, 4, 5] [(0, .slice aa_ a_.length ca_), (4, .int .i64 (a_.length : Int)), (5, .slice a1 x1.length c1)] ?_
 refine Zs ?_
 refine Zs ?_
 refine Zq [.int .i64 0] [0, 4, 5, 6] [(0, .slice aa_ a_.length ca_), (4, .int .i64 (a_.length : Int)), (5, .slice a1 x1.length c1), (6, .int .i64 0)] ?_
 obtain ⟨x2, gx2, hF⟩ := M.bind_some hF
 obtain ⟨hloy1, hhiy1, gx2⟩ := M.for_start gx2
 refine Run_join (fun L' h' => ∃ (a3 : Option Addr) (c3 : Nat), L' = [(0, .slice aa_ a_.length ca_), (4, .int .i64 (a_.length : Int)), (5, .slice a3 x2.length c3)] ∧ Hold h h' [own cd24 a3 x2.length c3 x2]) ?_ ?_
 ·rintro _ h3 ⟨a3, c3, rfl, H4⟩
  refine Zs ?_
  refine Run_ops ?_
  refine Zr [.int .i64 (a_.length : Int)] 0 ?_
  obtain ⟨x6, hx5, hF⟩ := M.bind_some hF
  refine Ze ?_
  refine ZC 99 #[.int .i64 (a_.length : Int)] (w_spec_l02Unit h3 (a_.length : Int) _ _ hx5) (fun v5 h7 hp5 => ?_)
  obtain ⟨a7, c7, rfl, H12⟩ := hp5
  have H13 : Hold h h7 [own cd24 a7 x6.length c7 x6, own cd24 a3 x2.length c3 x2] := H4.call H12 rfl
  refine Zr [.slice aa_ a_.length ca_, .slice a3 x2.length c3] 2 ?_
  obtain ⟨x7, hx6, hF⟩ := M.bind_some hF
  refine Ze ?_
  refine ZC 101 #[.slice aa_ a_.length ca_, .slice a3 x2.length c3] (w_spec_l02Multiply h7 a_ aa_ ca_ (ra_.at H13.ext) x2 a3 c3 (H13.rd 1 rfl) _ _ hx6) (fun v6 h8 hp6 => ?_)
  obtain ⟨a8, c8, rfl, H14⟩ := hp6
  have H15 : Hold h h8 [own cd24 a8 x7.length c8 x7, own cd24 a7 x6.length c7 x6, own cd24 a3 x2.length c3 x2] := H13.call H14 rfl
  obtain ⟨x8, hx7, hF⟩ := M.bind_some hF
  refine Ze ?_
  refine ZC 100 #[.slice a7 x6.length c7, .slice a8 x7.length c8] (w_spec_l02Add h8 x6 a7 c7 (H15.rd 1 rfl) x7 a8 c8 (H15.rd 0 rfl) _ _ hx7) (fun v7 h9 hp7 => ?_)
  obtain ⟨a9, c9, rfl, H16⟩ := hp7
  have H17 : Hold h h9 [own cd24 a9 x8.length c9 x8, own cd24 a8 x7.length c8 x7, own cd24 a7 x6.length c7 x6, own cd24 a3 x2.length c3 x2] := H15.call H16 rfl
  refine Zr [.slice a9 x8.length c9] 6 ?_
  refine Zx ?_
  refine Zk [5, 7] [(5, .slice a3 x2.length c3), (7, .slice a9 x8.length c9)] ?_
  refine Zs ?_
  obtain ⟨x9, hx8, hF⟩ := M.bind_some hF
  refine Zg 6 [(2, .slice a3 x2.length c3), (3, .bool x9)] ?_ ?_
  ·refine Zb [.slice a3 x2.length c3, .slice a9 x8.length c9, .slice a3 x2.length c3] 0 ?_
   refine Zy (.bool x9) (ZQ 102 #[.slice a9 x8.length c9, .slice a3 x2.length c3] (w_spec_l02Same h9 x8 a9 c9 (H17.rd 0 rfl) x2 a3 c3 (H17.rd 3 rfl) _ _ hx8)) ?_
   refine Zb [.slice a3 x2.length c3, .bool x9] 4 ?_
   exact Zd [2, 3]
  have hF := M.ret_some hF
  subst hF
  have H18 : Hold h h9 [own cd24 a3 x2.length c3 x2, own cd24 a9 x8.length c9 x8, own cd24 a8 x7.length c8 x7, own cd24 a7 x6.length c7 x6] := H17.pk [3, 0, 1, 2]
  have H19 : Hold h h9 [own cd24 a3 x2.length c3 x2] := H18.pk [0]
  exact Run_ret2 rfl (Zt (.slice a3 x2.length c3)) (Zt (.bool x9)) ⟨a3, c3, rfl, H19⟩
 ·refine Run_block ?_
  refine Zk [0, 4, 5, 6] [(0, .slice aa_ a_.length ca_), (4, .int .i64 (a_.length : Int)), (5, .slice a1 x1.length c1), (6, .int .i64 0)] ?_
  refine Run_loop (fun m L' h' => ∃ (i1 : Int) (s1 : (List (List Int))) (a2 : Option Addr) (c2 : Nat), 0 ≤ i1 ∧ M.forN (a_.length : Int) _ _ n m i1 s1 = some x2 ∧ L' = [(0, .slice aa_ a_.length ca_), (4, .int .i64 (a_.length : Int)), (5, .slice a2 s1.length c2), (6, .int .i64 i1)] ∧ Hold h h' [own cd24 a2 s1.length c2 s1]) ((a_.length : Int) - 0 : Int).toNat ⟨0, x1, a1, c1, Int.le_refl _, gx2, rfl, H2⟩ ?_
  rintro my1 _ h2 ⟨i1, s1, a2, c2, hloy1', gx2, rfl, H3⟩
  refine Zs ?_
  refine Zs ?_
  refine Zq [.int .i64 i1, .int .i64 (a_.length : Int), .bool (decide (i1 < (a_.length : Int)))] [0, 4, 5, 6, 14] [(0, .slice aa_ a_.length ca_), (4, .int .i64 (a_.length : Int)), (5, .slice a2 s1.length c2), (6, .int .i64 i1), (14, .bool (decide (i1 < (a_.length : Int))))] ?_
  refine Zc (decide (i1 < (a_.length : Int))) (fun hb1 => ?_) (fun hb1 => ?_)
  ·obtain ⟨my1, y1, rfl, hB1, hgoy1, houty1⟩ := M.for_go gx2 hb1
   have hlty1 := of_decide_eq_true hb1
   refine Run_skip ?_
   refine Zs ?_
   refine Run_block ?_
   refine Run_ops ?_
   refine Zr [.int .i64 (a_.length : Int)] 0 ?_
   obtain ⟨x3, hx2, hB1⟩ := M.bind_some hB1
   refine Ze ?_
   refine ZC 99 #[.int .i64 (a_.length : Int)] (w_spec_l02Unit h2 (a_.length : Int) _ _ hx2) (fun v2 h4 hp2 => ?_)
   obtain ⟨a4, c4, rfl, H5⟩ := hp2
   have H6 : Hold h h4 [own cd24 a4 x3.length c4 x3, own cd24 a2 s1.length c2 s1] := H3.call H5 rfl
   refine Zr [.slice aa_ a_.length ca_, .slice a2 s1.length c2] 2 ?_
   obtain ⟨x4, hx3, hB1⟩ := M.bind_some hB1
   refine Ze ?_
   refine ZC 101 #[.slice aa_ a_.length ca_, .slice a2 s1.length c2] (w_spec_l02Multiply h4 a_ aa_ ca_ (ra_.at H6.ext) s1 a2 c2 (H6.rd 1 rfl) _ _ hx3) (fun v3 h5 hp3 => ?_)
   obtain ⟨a5, c5, rfl, H7⟩ := hp3
   have H8 : Hold h h5 [own cd24 a5 x4.length c5 x4, own cd24 a4 x3.length c4 x3, own cd24 a2 s1.length c2 s1] := H6.call H7 rfl
   obtain ⟨x5, hx4, hB1⟩ := M.bind_some hB1
   refine Ze ?_
   refine ZC 100 #[.slice a4 x3.length c4, .slice a5 x4.length c5] (w_spec_l02Add h5 x3 a4 c4 (H8.rd 1 rfl) x4 a5 c5 (H8.rd 0 rfl) _ _ hx4) (fun v4 h6 hp4 => ?_)
   obtain ⟨a6, c6, rfl, H9⟩ := hp4
   have H10 : Hold h h6 [own cd24 a6 x5.length c6 x5, own cd24 a5 x4.length c5 x4, own cd24 a4 x3.length c4 x3, own cd24 a2 s1.length c2 s1] := H8.call H9 rfl
   refine Zr [.slice a6 x5.length c6] 6 ?_
   refine Zx ?_
   refine Zk [0, 4, 5, 6] [(0, .slice aa_ a_.length ca_), (4, .int .i64 (a_.length : Int)), (5, .slice a6 x5.length c6), (6, .int .i64 i1)] ?_
   refine Run_blk ?_
   refine Zg 3 [(0, .slice aa_ a_.length ca_), (4, .int .i64 (a_.length : Int)), (5, .slice a6 x5.length c6), (6, .int .i64 (i1 + 1))] ?_ ?_
   ·refine Zb [.int .i64 i1] 0 ?_
    refine Zy (.int .i64 (i1 + 1)) (Y_eq (v := .int .i64 (w64 (i1 + 1))) (Y_pure (fun w => by kernel_rfl)) (by rw [w64_eq _ (by omega)])) ?_
    refine Zb [.int .i64 (i1 + 1)] 2 ?_
    exact Zd [0, 4, 5, 6]
   have H11 : Hold h h6 [own cd24 a6 x5.length c6 x5] := H10.pk [0]
   have hB1 := M.ret_some hB1
   have gx2 := hgoy1 _ hB1.symm
   exact Za [0, 4, 5, 6] my1 ⟨i1 + 1, x5, a6, c6, by omega, gx2, rfl, H11⟩
  ·have gx2 := M.for_end gx2 hb1
   subst gx2
   refine Run_exit (k' := _) rfl ?_
   exact Zf [0, 4, 5] ⟨a2, c2, rfl, H3⟩

theorem w_spec_l02Turn (h : Heap) (a_ : List (List Int)) (aa_ : Option Addr) (ca_ : Nat) (ra_ : Rd cd24 h (Lt h) aa_ ca_ a_) (n : Nat) (r : (List (List Int))) (hF : spec_l02Turn a_ n = some r) :
  Fn Tryz.prog 60 #[.slice aa_ a_.length ca_] h fun v h' => ∃ (a0 : Option Addr) (c0 : Nat), v = .slice a0 r.length c0 ∧ Hold h h' [own cd24 a0 r.length c0 r] := by
 unfold spec_l02Turn at hF
 refine Zo [.slice aa_ a_.length ca_] Tryz.func60 rfl (fun w0 _ => ?_)
 have H0 := Hold.init h
 refine Zs ?_
 refine Zq [.slice none 0 0] [0] [(0, .slice aa_ a_.length ca_)] ?_
 refine Zs ?_
 refine Run_ops ?_
 obtain ⟨x1, hx1, hF⟩ := M.bind_some hF
 obtain ⟨hx1l, hx1u, hx1⟩ := M.idx_some hx1
 obtain ⟨a1, c1, hc1, r1⟩ := ra_.row hx1
 refine Zr [.slice aa_ a_.length ca_] 0 ?_
 refine Zz (.pointer (some (adr aa_ (0 * 1)))) (Zi 22 24 1 (aa_) (a_.length) (ca_) .i64 (0) Tryz.underlying22 (ra_.cell hx1).1 hx1l hx1u) ?_
 refine Zz (.slice a1 x1.length c1) (Zl 24 (adr aa_ (0 * 1)) (.slice a1 x1.length c1) hc1) ?_
 refine Zr [.int .i64 (x1.length : Int), .slice aa_ a_.length ca_, .int .i64 (a_.length : Int)] 3 ?_
 obtain ⟨x2, hx2, hF⟩ := M.bind_some hF
 refine Ze ?_
 refine ZC 81 #[.int .i64 (x1.length : Int), .int .i64 (a_.length : Int)] (w_spec_l02Bottom h (x1.length : Int) (a_.length : Int) _ _ hx2) (fun v1 h1 hp1 => ?_)
 obtain ⟨a2, c2, rfl, H1⟩ := hp1
 have H2 : Hold h h1 [own cd24 a2 x2.length c2 x2] := H0.call H1 rfl
 refine Zr [.slice a2 x2.length c2] 7 ?_
 refine Zx ?_
 refine Zk [0, 3] [(0, .slice aa_ a_.length ca_), (3, .slice a2 x2.length c2)] ?_
 refine Zs ?_
 refine Zs ?_
 refine Zq [.int .i64 0] [0, 3, 4] [(0, .slice aa_ a_.length ca_), (3, .slice a2 x2.length c2), (4, .int .i64 0)] ?_
 obtain ⟨x3, gx3, hF⟩ := M.bind_some hF
 obtain ⟨hloy1, hhiy1, gx3⟩ := M.for_start gx3
 refine Run_join (fun L' h' => L' = [(3, .slice a2 x2.length c2)] ∧ Hold h h' [own cd24 a2 x2.length c2 x3]) ?_ ?_
 ·rintro _ h3 ⟨rfl, H4⟩
  refine Zs ?_
  refine Zq [.slice a2 x2.length c2, .slice a2 x2.length c2] [2] [(2, .slice a2 x2.length c2)] ?_
  have hF := M.ret_some hF
  subst hF
  have H13 := H4.norm
  exact Run_ret1 rfl (Zt (.slice a2 x2.length c2)) ⟨a2, c2, (by simp only [(H4.len 0 rfl)]), H13⟩
 ·refine Run_block ?_
  refine Zk [0, 3, 4] [(0, .slice aa_ a_.length ca_), (3, .slice a2 x2.length c2), (4, .int .i64 0)] ?_
  refine Run_loop (fun m L' h' => ∃ (i1 : Int) (s1 : (List (List Int))), 0 ≤ i1 ∧ M.forN (a_.length : Int) _ _ n m i1 s1 = some x3 ∧ L' = [(0, .slice aa_ a_.length ca_), (3, .slice a2 x2.length c2), (4, .int .i64 i1)] ∧ Hold h h' [own cd24 a2 x2.length c2 s1]) ((a_.length : Int) - 0 : Int).toNat ⟨0, x2, Int.le_refl _, gx3, rfl, H2⟩ ?_
  rintro my1 _ h2 ⟨i1, s1, hloy1', gx3, rfl, H3⟩
  refine Zs ?_
  refine Zs ?_
  refine Zq [.int .i64 i1, .slice aa_ a_.length ca_, .int .i64 (a_.length : Int), .bool (decide (i1 < (a_.length : Int)))] [0, 3, 4, 16] [(0, .slice aa_ a_.length ca_), (3, .slice a2 x2.length c2), (4, .int .i64 i1), (16, .bool (decide (i1 < (a_.length : Int))))] ?_
  refine Zc (decide (i1 < (a_.length : Int))) (fun hb1 => ?_) (fun hb1 => ?_)
  ·obtain ⟨my1, y1, rfl, hB1, hgoy1, houty1⟩ := M.for_go gx3 hb1
   have hlty1 := of_decide_eq_true hb1
   refine Run_skip ?_
   refine Zs ?_
   refine Run_block ?_
   refine Zs ?_
   refine Zq [.int .i64 0] [0, 3, 4, 5] [(0, .slice aa_ a_.length ca_), (3, .slice a2 x2.length c2), (4, .int .i64 i1), (5, .int .i64 0)] ?_
   obtain ⟨x4, gx4, hB1⟩ := M.bind_some hB1
   refine Run_join (fun L' h' => L' = [(0, .slice aa_ a_.length ca_), (3, .slice a2 x2.length c2), (4, .int .i64 i1)] ∧ Hold h h' [own cd24 a2 x2.length c2 x4.1]) ?_ ?_
   ·rintro _ h5 ⟨rfl, H6⟩
    refine Run_blk ?_
    refine Zg 3 [(0, .slice aa_ a_.length ca_), (3, .slice a2 x2.length c2), (4, .int .i64 (i1 + 1))] ?_ ?_
    ·refine Zb [.int .i64 i1] 0 ?_
     refine Zy (.int .i64 (i1 + 1)) (Y_eq (v := .int .i64 (w64 (i1 + 1))) (Y_pure (fun w => by kernel_rfl)) (by rw [w64_eq _ (by omega)])) ?_
     refine Zb [.int .i64 (i1 + 1)] 2 ?_
     exact Zd [0, 3, 4]
    have hB1 := M.ret_some hB1
    have gx3 := hgoy1 _ hB1.symm
    exact Za [0, 3, 4] my1 ⟨i1 + 1, x4.1, by omega, gx3, rfl, H6⟩
   ·refine Run_block ?_
    refine Zk [0, 3, 4, 5] [(0, .slice aa_ a_.length ca_), (3, .slice a2 x2.length c2), (4, .int .i64 i1), (5, .int .i64 0)] ?_
    refine Run_loop (fun m L' h' => ∃ (s2 : (List (List Int)) × Int), M.loopN _ n m s2 = some x4 ∧ L' = [(0, .slice aa_ a_.length ca_), (3, .slice a2 x2.length c2), (4, .int .i64 i1), (5, .int .i64 s2.2)] ∧ Hold h h' [own cd24 a2 x2.length c2 s2.1]) n ⟨(s1, 0), gx4, rfl, H3⟩ ?_
    rintro my2 _ h4 ⟨s2, gx4, rfl, H5⟩
    obtain ⟨my2, y2, rfl, hB2, hgoy2, houty2⟩ := M.loop_some gx4
    refine Zs ?_
    refine Zs ?_
    obtain ⟨x5, hx3, hB2⟩ := M.bind_some hB2
    obtain ⟨hx3l, hx3u, hx3⟩ := M.idx_some hx3
    obtain ⟨a3, c3, hc2, r2⟩ := ra_.row hx3
    refine Zg 7 [(0, .slice aa_ a_.length ca_), (3, .slice a2 x2.length c2), (4, .int .i64 i1), (5, .int .i64 s2.2), (25, .bool (decide (s2.2 < (x5.length : Int))))] ?_ ?_
    ·refine Zb [.int .i64 s2.2, .slice aa_ a_.length ca_, .int .i64 i1] 0 ?_
     refine Zy (.pointer (some (adr aa_ (i1.toNat * 1)))) (Zi 22 24 1 (aa_) (a_.length) (ca_) .i64 (i1) Tryz.underlying22 ((ra_.at H5.ext).cell hx3).1 hx3l hx3u) ?_
     refine Zy (.slice a3 x5.length c3) (Zl 24 (adr aa_ (i1.toNat * 1)) (.slice a3 x5.length c3) (cell_at H5.ext hc2)) ?_
     refine Zb [.int .i64 (x5.length : Int), .bool (decide (s2.2 < (x5.length : Int)))] 5 ?_
     exact Zd [0, 3, 4, 5, 25]
    refine Zc (decide (s2.2 < (x5.length : Int))) (fun hb2 => ?_) (fun hb2 => ?_)
    ·have hB2 := (M.ite_some hB2).1 hb2
     refine Run_skip ?_
     refine Zs ?_
     refine Run_block ?_
     obtain ⟨x6, hx4, hB2⟩ := M.bind_some hB2
     obtain ⟨hx4l, hx4u, hx4⟩ := M.idx_some hx4
     have H7 := H5.toRows
     obtain ⟨a4, c4, H8⟩ := H7.pinRow hx4
     obtain ⟨x7, hx5, hB2⟩ := M.bind_some hB2
     obtain ⟨hx5l, hx5u, hx5⟩ := M.idx_some hx5
     obtain ⟨a5, c5, hc3, r3⟩ := ra_.row hx5
     obtain ⟨x8, hx6, hB2⟩ := M.bind_some hB2
     obtain ⟨hx6l, hx6u, hx6⟩ := M.idx_some hx6
     obtain ⟨x9, hx7, hB2⟩ := M.bind_some hB2
     obtain ⟨hx7l, hx7u, hx7⟩ := M.idx_some hx7
     refine Run_D (fun x => Hold h x [rowsP cd2 24 a2 x2.length c2 s2.1 [(s2.2.toNat, a4, x6.length, c4, x6)]]) (fun x => Hold h x [rowsP cd2 24 a2 x2.length c2 s2.1 [(s2.2.toNat, a4, x6.length, c4, x6)]]) mixed (by kernel_rfl) H8 Hold.stable (fun x Hy => (show Hold h x [rowsP cd2 24 a2 x2.length c2 s2.1 [(s2.2.toNat, a4, x6.length, c4, x6)]] from Hy).pk [0]) ?_
     refine ZB 12 [.slice a2 x2.length c2, .int .i64 s2.2] 0 ?_
     refine ZY 11 2 (.pointer (some (adr a2 (s2.2.toNat * 1)))) (fun hx Hx => (YE.of (Zi 22 24 1 (a2) (x2.length) (c2) .i64 (s2.2) Tryz.underlying22 ((H5.rd 0 rfl).cell hx4).1 hx4l (by rw [← (H5.len 0 rfl)]; exact hx4u)))) ?_
     refine ZY 10 3 (.slice a4 x6.length c4) (fun hx Hx => (YE.of (Zl 24 (adr a2 (s2.2.toNat * 1)) (.slice a4 x6.length c4) (Hx.cellPin 0 rfl 0 rfl)))) ?_
     refine ZB 7 [.int .i64 i1, .slice aa_ a_.length ca_, .int .i64 i1] 4 ?_
     refine ZY 6 7 (.pointer (some (adr aa_ (i1.toNat * 1)))) (fun hx Hx => (YE.of (Zi 22 24 1 (aa_) (a_.length) (ca_) .i64 (i1) Tryz.underlying22 ((ra_.at H8.ext).cell hx5).1 hx5l hx5u))) ?_
     refine ZY 5 8 (.slice a5 x7.length c5) (fun hx Hx => (YE.of (Zl 24 (adr aa_ (i1.toNat * 1)) (.slice a5 x7.length c5) (cell_at Hx.ext hc3)))) ?_
     refine ZB 4 [.int .i64 s2.2] 9 ?_
     refine ZY 3 10 (.pointer (some (adr a5 (s2.2.toNat * 1)))) (fun hx Hx => (YE.of (Zi 24 2 1 (a5) (x7.length) (c5) .i64 (s2.2) Tryz.underlying24 ((r3.at H8.ext).cell hx6).1 hx6l hx6u))) ?_
     refine ZY 2 11 (.int .i64 x8) (fun hx Hx => (YE.of (Zl 2 (adr a5 (s2.2.toNat * 1)) (.int .i64 x8) (cd2_cell (r3.at Hx.ext) hx6)))) ?_
     refine ZY 1 12 (.pointer (some (adr a4 (i1.toNat * 1)))) (fun hx Hx => (YE.of (Zi 24 2 1 (a4) (x6.length) (c4) .i64 (i1) Tryz.underlying24 ((H8.rdPin 0 rfl 0 rfl).cell hx7).1 hx7l hx7u))) ?_
     refine ZT 13 (fun h6 H9 => ?_)
     have H10 : Hold h h6 [rowsP cd2 24 a2 x2.length c2 s2.1 [(s2.2.toNat, a4, x6.length, c4, x6)]] := H9
     obtain ⟨l1, hu1, hB2⟩ := M.bind_some hB2
     have hu1 := M.upd_some hu1
     refine Ze ?_
     refine E_put2 (C := cd2) (t := 2) (sz := 1) (j := i1) (x := x8) (v := .int .i64 x8) (m2 := s2.1.set s2.2.toNat l1) H10 cd2_flat 0 rfl (by kernel_rfl) rfl (cd2_own _) (by kernel_rfl) hu1 rfl (fun h7 H11 => ?_)
     refine Zx ?_
     refine Zk [0, 3, 4, 5] [(0, .slice aa_ a_.length ca_), (3, .slice a2 x2.length c2), (4, .int .i64 i1), (5, .int .i64 s2.2)] ?_
     refine Run_blk ?_
     refine Zq [.int .i64 s2.2, .int .i64 (w64 (s2.2 + 1)), .int .i64 (w64 (s2.2 + 1))] [0, 3, 4, 5] [(0, .slice aa_ a_.length ca_), (3, .slice a2 x2.length c2), (4, .int .i64 i1), (5, .int .i64 (w64 (s2.2 + 1)))] ?_
     have H12 := H11.ofRows
     have hB2 := M.ret_some hB2
     have gx4 := hgoy2 _ hB2.symm
     exact Za [0, 3, 4, 5] my2 ⟨((s2.1.set s2.2.toNat l1), (w64 (s2.2 + 1))), gx4, rfl, H12⟩
    ·have hB2 := (M.ite_some hB2).2 hb2
     refine Run_exit (k' := _) rfl ?_
     have hB2 := M.ret_some hB2
     have gx4 := houty2 _ hB2.symm
     subst gx4
     exact Zf [0, 3, 4] ⟨rfl, H5⟩
  ·have gx3 := M.for_end gx3 hb1
   subst gx3
   refine Run_exit (k' := _) rfl ?_
   exact Zf [3] ⟨rfl, H3⟩

theorem w_spec_l06Arcs (h : Heap) (a_ : List (List Int)) (aa_ : Option Addr) (ca_ : Nat) (ra_ : Rd cd24 h (Lt h) aa_ ca_ a_) (n : Nat) (r : (List (List Int))) (hF : spec_l06Arcs a_ n = some r) :
  Fn Tryz.prog 44 #[.slice aa_ a_.length ca_] h fun v h' => ∃ (a0 : Option Addr) (c0 : Nat), v = .slice a0 r.length c0 ∧ Hold h h' [own cd24 a0 r.length c0 r] := by
 unfold spec_l06Arcs at hF
 refine Zo [.slice aa_ a_.length ca_] Tryz.func44 rfl (fun w0 _ => ?_)
 have H0 := Hold.init h
 refine Zs ?_
 refine Zq [.slice none 0 0] [0] [(0, .slice aa_ a_.length ca_)] ?_
 refine Zs ?_
 refine Run_ops ?_
 refine Zr [.slice aa_ a_.length ca_] 0 ?_
 obtain ⟨x1, hx1, hF⟩ := M.bind_some hF
 refine Ze ?_
 refine ZC 54 #[.slice aa_ a_.length ca_] (w_spec_l04Best h a_ aa_ ca_ ra_ _ _ hx1) (fun v1 h1 hp1 => ?_)
 obtain ⟨a1, c1, rfl, H1⟩ := hp1
 have H2 : Hold h h1 [own cd2 a1 x1.1.length c1 x1.1] := H0.call H1 rfl
 refine Zr [.tuple #[.slice a1 x1.1.length c1, .bool x1.2], .slice a1 x1.1.length c1, .bool x1.2, .slice a1 x1.1.length c1, .bool x1.2] 2 ?_
 refine Zx ?_
 refine Zk [0, 3] [(0, .slice aa_ a_.length ca_), (3, .slice a1 x1.1.length c1)] ?_
 refine Zs ?_
 refine Run_ops ?_
 refine Zr [.slice aa_ a_.length ca_, .slice a1 x1.1.length c1] 0 ?_
 obtain ⟨x2, hx2, hF⟩ := M.bind_some hF
 refine Ze ?_
 refine ZC 55 #[.slice aa_ a_.length ca_, .slice a1 x1.1.length c1] (w_spec_l04Mean h1 a_ aa_ ca_ (ra_.at H2.ext) x1.1 a1 c1 (H2.rd 0 rfl) _ _ hx2) (fun v2 h2 hp2 => ?_)
 obtain ⟨rfl, H3⟩ := hp2
 have H4 : Hold h h2 [own cd2 a1 x1.1.length c1 x1.1] := H2.call H3 rfl
 refine Zr [.tuple #[.agg #[.int .i64 x2.1.Num, .int .i64 x2.1.Den], .bool x2.2], .agg #[.int .i64 x2.1.Num, .int .i64 x2.1.Den], .bool x2.2] 3 ?_
 refine Ze ?_
 refine E_box (ty := 44) (cs := [.int .i64 0, .int .i64 0]) H4 (fun w => by kernel_rfl) (fun b1 h3 H5 => ?_)
 refine Ze ?_
 refine ZP 44 0 [.int .i64 x2.1.Num, .int .i64 x2.1.Den] (.agg #[.int .i64 x2.1.Num, .int .i64 x2.1.Den]) H5 (fun h4 H6 => ?_)
 refine Zr [.bool x2.2] 8 ?_
 refine Zx ?_
 refine Zk [0, 5] [(0, .slice aa_ a_.length ca_), (5, pV b1)] ?_
 refine Zs ?_
 refine Run_ops ?_
 refine Zr [.slice aa_ a_.length ca_] 0 ?_
 refine Zz (.agg #[.int .i64 x2.1.Num, .int .i64 x2.1.Den]) (Y_loadA (t := 44) (n := 2) (p := ⟨b1, 0, none⟩) (cs := [.int .i64 x2.1.Num, .int .i64 x2.1.Den]) (by kernel_rfl) (fun w => by kernel_rfl) (by kernel_rfl) rfl (H6.cells (n := 2) (off := 0) 0 rfl rfl)) ?_
 obtain ⟨x3, hx3, hF⟩ := M.bind_some hF
 refine Ze ?_
 refine ZC 59 #[.slice aa_ a_.length ca_, .agg #[.int .i64 x2.1.Num, .int .i64 x2.1.Den]] (w_spec_l04Shift h4 a_ aa_ ca_ (ra_.at H6.ext) x2.1 _ _ hx3) (fun v3 h5 hp3 => ?_)
 obtain ⟨a2, c2, rfl, H7⟩ := hp3
 have H8 : Hold h h5 [own cd24 a2 x3.length c2 x3, box b1 44 [.int .i64 x2.1.Num, .int .i64 x2.1.Den], own cd2 a1 x1.1.length c1 x1.1] := H6.call H7 rfl
 refine Zr [.slice a2 x3.length c2] 3 ?_
 refine Zx ?_
 refine Zk [0, 7] [(0, .slice aa_ a_.length ca_), (7, .slice a2 x3.length c2)] ?_
 refine Zs ?_
 refine Run_ops ?_
 refine Zr [.slice a2 x3.length c2] 0 ?_
 obtain ⟨x4, hx4, hF⟩ := M.bind_some hF
 refine Ze ?_
 refine ZC 58 #[.slice a2 x3.length c2] (w_spec_l03Star h5 x3 a2 c2 (H8.rd 0 rfl) _ _ hx4) (fun v4 h6 hp4 => ?_)
 obtain ⟨a3, c3, rfl, H9⟩ := hp4
 have H10 : Hold h h6 [own cd24 a3 x4.1.length c3 x4.1, own cd24 a2 x3.length c2 x3, box b1 44 [.int .i64 x2.1.Num, .int .i64 x2.1.Den], own cd2 a1 x1.1.length c1 x1.1] := H8.call H9 rfl
 refine Zr [.tuple #[.slice a3 x4.1.length c3, .bool x4.2], .slice a3 x4.1.length c3, .bool x4.2, .slice a3 x4.1.length c3, .bool x4.2] 2 ?_
 refine Zx ?_
 refine Zk [0, 7, 8] [(0, .slice aa_ a_.length ca_), (7, .slice a2 x3.length c2), (8, .slice a3 x4.1.length c3)] ?_
 refine Zs ?_
 refine Run_ops ?_
 refine Ze ?_
 refine E_lit (C := cd24) (n := 0) (l := []) (cs := []) H10 (fun w => by kernel_rfl) (Enc.nil _ _) rfl (by decide) (fun a4 h7 H11 => ?_)
 refine Zr [.slice a4 0 0] 1 ?_
 refine Zx ?_
 refine Zk [0, 7, 8, 10] [(0, .slice aa_ a_.length ca_), (7, .slice a2 x3.length c2), (8, .slice a3 x4.1.length c3), (10, .slice a4 0 0)] ?_
 refine Zs ?_
 refine Zs ?_
 refine Zq [.int .i64 0] [0, 7, 8, 10, 11] [(0, .slice aa_ a_.length ca_), (7, .slice a2 x3.length c2), (8, .slice a3 x4.1.length c3), (10, .slice a4 0 0), (11, .int .i64 0)] ?_
 obtain ⟨x5, gx5, hF⟩ := M.bind_some hF
 obtain ⟨hloy1, hhiy1, gx5⟩ := M.for_start gx5
 refine Run_join (fun L' h' => ∃ (a6 : Option Addr) (c5 : Nat), L' = [(10, .slice a6 x5.length c5)] ∧ Hold h h' [own cd24 a6 x5.length c5 x5]) ?_ ?_
 ·rintro _ h9 ⟨a6, c5, rfl, H13⟩
  refine Zs ?_
  refine Zq [.slice a6 x5.length c5, .slice a6 x5.length c5] [2] [(2, .slice a6 x5.length c5)] ?_
  have hF := M.ret_some hF
  subst hF
  exact Run_ret1 rfl (Zt (.slice a6 x5.length c5)) ⟨a6, c5, rfl, H13⟩
 ·refine Run_block ?_
  have hn1 := (H11.len 0 rfl)
  have H50 : Hold h h7 [own cd24 a4 (([] : List (List Int)).length) 0 ([] : List (List Int)), own cd24 a3 x4.1.length c3 x4.1, own cd24 a2 x3.length c2 x3, box b1 44 [.int .i64 x2.1.Num, .int .i64 x2.1.Den], own cd2 a1 x1.1.length c1 x1.1] := by rw [hn1]; exact H11
  have H51 : Hold h h7 [own cd24 a2 x3.length c2 x3, own cd24 a3 x4.1.length c3 x4.1, own cd24 a4 (([] : List (List Int)).length) 0 ([] : List (List Int))] := H50.pk [2, 1, 0]
  refine Run_keep [0, 7, 8, 10, 11] (L' := [(0, .slice aa_ a_.length ca_), (7, .slice a2 x3.length c2), (8, .slice a3 x4.1.length c3), (10, .slice a4 (([] : List (List Int)).length) 0), (11, .int .i64 0)]) (by first | (rw [hn1]; kernel_rfl) | (simp only [hn1]; kernel_rfl) | kernel_rfl) ?_
  refine Run_loop (fun m L' h' => ∃ (i1 : Int) (s1 : (List (List Int))) (a5 : Option Addr) (c4 : Nat), 0 ≤ i1 ∧ M.forN (a_.length : Int) _ _ n m i1 s1 = some x5 ∧ L' = [(0, .slice aa_ a_.length ca_), (7, .slice a2 x3.length c2), (8, .slice a3 x4.1.length c3), (10, .slice a5 s1.length c4), (11, .int .i64 i1)] ∧ Hold h h' [own cd24 a2 x3.length c2 x3, own cd24 a3 x4.1.length c3 x4.1, own cd24 a5 s1.length c4 s1]) ((a_.length : Int) - 0 : Int).toNat ⟨0, ([] : List (List Int)), a4, 0, Int.le_refl _, gx5, rfl, H51⟩ ?_
  rintro my1 _ h8 ⟨i1, s1, a5, c4, hloy1', gx5, rfl, H12⟩
  refine Zs ?_
  refine Zs ?_
  refine Zq [.int .i64 i1, .slice aa_ a_.length ca_, .int .i64 (a_.length : Int), .bool (decide (i1 < (a_.length : Int)))] [0, 7, 8, 10, 11, 36] [(0, .slice aa_ a_.length ca_), (7, .slice a2 x3.length c2), (8, .slice a3 x4.1.length c3), (10, .slice a5 s1.length c4), (11, .int .i64 i1), (36, .bool (decide (i1 < (a_.length : Int))))] ?_
  refine Zc (decide (i1 < (a_.length : Int))) (fun hb1 => ?_) (fun hb1 => ?_)
  ·obtain ⟨my1, y1, rfl, hB1, hgoy1, houty1⟩ := M.for_go gx5 hb1
   have hlty1 := of_decide_eq_true hb1
   refine Run_skip ?_
   refine Zs ?_
   refine Run_block ?_
   refine Zs ?_
   refine Zq [.int .i64 0] [0, 7, 8, 10, 11, 12] [(0, .slice aa_ a_.length ca_), (7, .slice a2 x3.length c2), (8, .slice a3 x4.1.length c3), (10, .slice a5 s1.length c4), (11, .int .i64 i1), (12, .int .i64 0)] ?_
   obtain ⟨x6, gx6, hB1⟩ := M.bind_some hB1
   obtain ⟨hloy2, hhiy2, gx6⟩ := M.for_start gx6
   refine Run_join (fun L' h' => ∃ (a8 : Option Addr) (c7 : Nat), L' = [(0, .slice aa_ a_.length ca_), (7, .slice a2 x3.length c2), (8, .slice a3 x4.1.length c3), (10, .slice a8 x6.length c7), (11, .int .i64 i1)] ∧ Hold h h' [own cd24 a2 x3.length c2 x3, own cd24 a3 x4.1.length c3 x4.1, own cd24 a8 x6.length c7 x6]) ?_ ?_
   ·rintro _ h11 ⟨a8, c7, rfl, H15⟩
    refine Run_blk ?_
    refine Zg 3 [(0, .slice aa_ a_.length ca_), (7, .slice a2 x3.length c2), (8, .slice a3 x4.1.length c3), (10, .slice a8 x6.length c7), (11, .int .i64 (i1 + 1))] ?_ ?_
    ·refine Zb [.int .i64 i1] 0 ?_
     refine Zy (.int .i64 (i1 + 1)) (Y_eq (v := .int .i64 (w64 (i1 + 1))) (Y_pure (fun w => by kernel_rfl)) (by rw [w64_eq _ (by omega)])) ?_
     refine Zb [.int .i64 (i1 + 1)] 2 ?_
     exact Zd [0, 7, 8, 10, 11]
    have H44 : Hold h h11 [own cd24 a8 x6.length c7 x6, own cd24 a2 x3.length c2 x3, own cd24 a3 x4.1.length c3 x4.1] := H15.pk [2, 0, 1]
    have H45 : Hold h h11 [own cd24 a2 x3.length c2 x3, own cd24 a3 x4.1.length c3 x4.1, own cd24 a8 x6.length c7 x6] := H44.pk [1, 2, 0]
    have hB1 := M.ret_some hB1
    have gx5 := hgoy1 _ hB1.symm
    exact Za [0, 7, 8, 10, 11] my1 ⟨i1 + 1, x6, a8, c7, by omega, gx5, rfl, H45⟩
   ·refine Run_block ?_
    have H46 : Hold h h8 [own cd24 a5 s1.length c4 s1, own cd24 a2 x3.length c2 x3, own cd24 a3 x4.1.length c3 x4.1] := H12.pk [2, 0, 1]
    have H47 : Hold h h8 [own cd24 a2 x3.length c2 x3, own cd24 a3 x4.1.length c3 x4.1, own cd24 a5 s1.length c4 s1] := H46.pk [1, 2, 0]
    refine Zk [0, 7, 8, 10, 11, 12] [(0, .slice aa_ a_.length ca_), (7, .slice a2 x3.length c2), (8, .slice a3 x4.1.length c3), (10, .slice a5 s1.length c4), (11, .int .i64 i1), (12, .int .i64 0)] ?_
    refine Run_loop (fun m L' h' => ∃ (i2 : Int) (s2 : (List (List Int))) (a7 : Option Addr) (c6 : Nat), 0 ≤ i2 ∧ M.forN (a_.length : Int) _ _ n m i2 s2 = some x6 ∧ L' = [(0, .slice aa_ a_.length ca_), (7, .slice a2 x3.length c2), (8, .slice a3 x4.1.length c3), (10, .slice a7 s2.length c6), (11, .int .i64 i1), (12, .int .i64 i2)] ∧ Hold h h' [own cd24 a2 x3.length c2 x3, own cd24 a3 x4.1.length c3 x4.1, own cd24 a7 s2.length c6 s2]) ((a_.length : Int) - 0 : Int).toNat ⟨0, s1, a5, c4, Int.le_refl _, gx6, rfl, H47⟩ ?_
    rintro my2 _ h10 ⟨i2, s2, a7, c6, hloy2', gx6, rfl, H14⟩
    refine Zs ?_
    refine Zs ?_
    refine Zq [.int .i64 i2, .slice aa_ a_.length ca_, .int .i64 (a_.length : Int), .bool (decide (i2 < (a_.length : Int)))] [0, 7, 8, 10, 11, 12, 42] [(0, .slice aa_ a_.length ca_), (7, .slice a2 x3.length c2), (8, .slice a3 x4.1.length c3), (10, .slice a7 s2.length c6), (11, .int .i64 i1), (12, .int .i64 i2), (42, .bool (decide (i2 < (a_.length : Int))))] ?_
    refine Zc (decide (i2 < (a_.length : Int))) (fun hb2 => ?_) (fun hb2 => ?_)
    ·obtain ⟨my2, y2, rfl, hB2, hgoy2, houty2⟩ := M.for_go gx6 hb2
     have hlty2 := of_decide_eq_true hb2
     refine Run_skip ?_
     refine Zs ?_
     refine Run_block ?_
     refine Zs ?_
     obtain ⟨x7, hx5, hB2⟩ := M.bind_some hB2
     obtain ⟨hx5l, hx5u, hx5⟩ := M.idx_some hx5
     have H16 := H14.toRows
     obtain ⟨a9, c8, H17⟩ := H16.pinRow hx5
     obtain ⟨x8, hx6, hB2⟩ := M.bind_some hB2
     obtain ⟨hx6l, hx6u, hx6⟩ := M.idx_some hx6
     obtain ⟨x9, hx7, hB2⟩ := M.bind_some hB2
     obtain ⟨hx7l, hx7u, hx7⟩ := M.idx_some hx7
     have H18 : Hold h h10 [own cd24 a3 x4.1.length c3 x4.1, rowsP cd2 24 a2 x3.length c2 x3 [(i2.toNat, a9, x7.length, c8, x7)], own cd24 a7 s2.length c6 s2] := H17.pk [1, 0, 2]
     have H19 := H18.toRows
     obtain ⟨a10, c9, H20⟩ := H19.pinRow hx7
     have H21 : Hold h h10 [rowsP cd2 24 a2 x3.length c2 x3 [(i2.toNat, a9, x7.length, c8, x7)], rowsP cd2 24 a3 x4.1.length c3 x4.1 [(i1.toNat, a10, x9.length, c9, x9)], own cd24 a7 s2.length c6 s2] := H20.pk [1, 0, 2]
     obtain ⟨x10, hx8, hB2⟩ := M.bind_some hB2
     obtain ⟨hx8l, hx8u, hx8⟩ := M.idx_some hx8
     obtain ⟨x11, hx9, hB2⟩ := M.bind_some hB2
     refine Run_draw 16 mixed (by kernel_rfl) (by kernel_rfl) (L' := [(0, .slice aa_ a_.length ca_), (7, .slice a2 x3.length c2), (8, .slice a3 x4.1.length c3), (10, .slice a7 s2.length c6), (11, .int .i64 i1), (12, .int .i64 i2), (60, .bool (x11 == 0))]) ?_ ?_
     ·refine Zb [.slice a2 x3.length c2, .int .i64 i2] 0 ?_
      refine Zy (.pointer (some (adr a2 (i2.toNat * 1)))) (Zi 22 24 1 (a2) (x3.length) (c2) .i64 (i2) Tryz.underlying22 ((H14.rd 0 rfl).cell hx5).1 hx5l hx5u) ?_
      refine Zy (.slice a9 x7.length c8) (Zl 24 (adr a2 (i2.toNat * 1)) (.slice a9 x7.length c8) (H17.cellPin 0 rfl 0 rfl)) ?_
      refine Zb [.int .i64 i1] 4 ?_
      refine Zy (.pointer (some (adr a9 (i1.toNat * 1)))) (Zi 24 2 1 (a9) (x7.length) (c8) .i64 (i1) Tryz.underlying24 ((H17.rdPin 0 rfl 0 rfl).cell hx6).1 hx6l hx6u) ?_
      refine Zy (.int .i64 x8) (Zl 2 (adr a9 (i1.toNat * 1)) (.int .i64 x8) (cd2_cell (H17.rdPin 0 rfl 0 rfl) hx6)) ?_
      refine Zb [.slice a3 x4.1.length c3, .int .i64 i1] 7 ?_
      refine Zy (.pointer (some (adr a3 (i1.toNat * 1)))) (Zi 22 24 1 (a3) (x4.1.length) (c3) .i64 (i1) Tryz.underlying22 ((H17.rd 1 rfl).cell hx7).1 hx7l hx7u) ?_
      refine Zy (.slice a10 x9.length c9) (Zl 24 (adr a3 (i1.toNat * 1)) (.slice a10 x9.length c9) (H21.cellPin 1 rfl 0 rfl)) ?_
      refine Zb [.int .i64 i2] 11 ?_
      refine Zy (.pointer (some (adr a10 (i2.toNat * 1)))) (Zi 24 2 1 (a10) (x9.length) (c9) .i64 (i2) Tryz.underlying24 ((H21.rdPin 1 rfl 0 rfl).cell hx8).1 hx8l hx8u) ?_
      refine Zy (.int .i64 x10) (Zl 2 (adr a10 (i2.toNat * 1)) (.int .i64 x10) (cd2_cell (H21.rdPin 1 rfl 0 rfl) hx8)) ?_
      refine Zy (.int .i64 x11) (ZQ 80 #[.int .i64 x8, .int .i64 x10] (w_spec_l01Times h10 x8 x10 _ _ hx9)) ?_
      refine Zb [.bool (x11 == 0)] 15 ?_
      exact Zd [0, 7, 8, 10, 11, 12, 60]
     obtain ⟨s3, gs3, hB2⟩ := M.bind_some hB2
     refine Run_join (fun L' h' => ∃ (a14 : Option Addr), ∃ (c11 : Nat), L' = [(0, .slice aa_ a_.length ca_), (7, .slice a2 x3.length c2), (8, .slice a3 x4.1.length c3), (10, .slice a14 s3.length c11), (11, .int .i64 i1), (12, .int .i64 i2)] ∧ Hold h h' [own cd24 a2 x3.length c2 x3, own cd24 a3 x4.1.length c3 x4.1, own cd24 a14 s3.length c11 s3]) ?_ ?_
     ·rintro _ h15 ⟨a14, c11, rfl, H28⟩
      refine Run_blk ?_
      refine Zg 3 [(0, .slice aa_ a_.length ca_), (7, .slice a2 x3.length c2), (8, .slice a3 x4.1.length c3), (10, .slice a14 s3.length c11), (11, .int .i64 i1), (12, .int .i64 (i2 + 1))] ?_ ?_
      ·refine Zb [.int .i64 i2] 0 ?_
       refine Zy (.int .i64 (i2 + 1)) (Y_eq (v := .int .i64 (w64 (i2 + 1))) (Y_pure (fun w => by kernel_rfl)) (by rw [w64_eq _ (by omega)])) ?_
       refine Zb [.int .i64 (i2 + 1)] 2 ?_
       exact Zd [0, 7, 8, 10, 11, 12]
      have H40 : Hold h h15 [own cd24 a14 s3.length c11 s3, own cd24 a2 x3.length c2 x3, own cd24 a3 x4.1.length c3 x4.1] := H28.pk [2, 0, 1]
      have H41 : Hold h h15 [own cd24 a2 x3.length c2 x3, own cd24 a3 x4.1.length c3 x4.1, own cd24 a14 s3.length c11 s3] := H40.pk [1, 2, 0]
      have hB2 := M.ret_some hB2
      have gx6 := hgoy2 _ hB2.symm
      exact Za [0, 7, 8, 10, 11, 12] my2 ⟨i2 + 1, s3, a14, c11, by omega, gx6, rfl, H41⟩
     ·refine Zc (x11 == 0) (fun hb3 => ?_) (fun hb3 => ?_)
      ·have gs3 := (M.ite_some gs3).1 hb3
       refine Run_ops ?_
       refine Zr [.slice a7 s2.length c6, .int .i64 i1, .int .i64 i2] 0 ?_
       refine Ze ?_
       refine E_lit (C := cd2) (n := 2) (l := ([i1, i2] : List Int)) (cs := [.int .i64 i1, .int .i64 i2]) H21 (fun w => by kernel_rfl) (Enc.consE (cd2_own i1 _) (Enc.consE (cd2_own i2 _) (Enc.nil _ _) rfl) rfl) rfl (by decide) (fun a11 h12 H22 => ?_)
       refine Ze ?_
       refine E_lit1 (ey := 24) (n := 2) H22 (fun w => by kernel_rfl) rfl (fun a12 h13 H23 => ?_)
       obtain ⟨l1, hl1, gs3⟩ := M.bind_some gs3
       have hl1 := M.app_some hl1
       have H24 : Hold h h13 [own cd24 a7 s2.length c6 s2, own cd24 a12 1 1 [([i1, i2] : List Int)], rowsP cd2 24 a2 x3.length c2 x3 [(i2.toNat, a9, x7.length, c8, x7)], rowsP cd2 24 a3 x4.1.length c3 x4.1 [(i1.toNat, a10, x9.length, c9, x9)]] := H23.pk [3, 0, 1, 2]
       have H25 : Hold h h13 [own cd24 a12 1 1 [([i1, i2] : List Int)], own cd24 a7 s2.length c6 s2, rowsP cd2 24 a2 x3.length c2 x3 [(i2.toNat, a9, x7.length, c8, x7)], rowsP cd2 24 a3 x4.1.length c3 x4.1 [(i1.toNat, a10, x9.length, c9, x9)]] := H24.pk [1, 0, 2, 3]
       have H26 : Hold h h13 [own cd24 a7 s2.length c6 s2, own cd24 a12 1 1 [([i1, i2] : List Int)], rowsP cd2 24 a2 x3.length c2 x3 [(i2.toNat, a9, x7.length, c8, x7)], rowsP cd2 24 a3 x4.1.length c3 x4.1 [(i1.toNat, a10, x9.length, c9, x9)]] := H25.pk [1, 0, 2, 3]
       refine Ze ?_
       refine E_app (C := cd24) (t := 22) (ty := 22) (n := s2.length) (m := 1) H26 cd24_ti rfl Tryz.underlying22 (by decide) (by kernel_rfl) hl1 (fun a13 c10 h14 H27 => ?_)
       refine Zr [.slice a13 l1.length c10] 6 ?_
       refine Zx ?_
       refine Zk [0, 7, 8, 10, 11, 12] [(0, .slice aa_ a_.length ca_), (7, .slice a2 x3.length c2), (8, .slice a3 x4.1.length c3), (10, .slice a13 l1.length c10), (11, .int .i64 i1), (12, .int .i64 i2)] ?_
       have H29 : Hold h h14 [rowsP cd2 24 a2 x3.length c2 x3 [(i2.toNat, a9, x7.length, c8, x7)], own cd24 a13 l1.length c10 l1, rowsP cd2 24 a3 x4.1.length c3 x4.1 [(i1.toNat, a10, x9.length, c9, x9)]] := H27.pk [1, 0, 2]
       have H30 := H29.ofRows
       have H31 : Hold h h14 [rowsP cd2 24 a3 x4.1.length c3 x4.1 [(i1.toNat, a10, x9.length, c9, x9)], own cd24 a2 x3.length c2 x3, own cd24 a13 l1.length c10 l1] := H30.pk [2, 0, 1]
       have H32 := H31.ofRows
       have H33 : Hold h h14 [own cd24 a13 l1.length c10 l1, own cd24 a3 x4.1.length c3 x4.1, own cd24 a2 x3.length c2 x3] := H32.pk [2, 0, 1]
       have H34 : Hold h h14 [own cd24 a2 x3.length c2 x3, own cd24 a3 x4.1.length c3 x4.1, own cd24 a13 l1.length c10 l1] := H33.pk [2, 1, 0]
       have gs3 := M.ret_some gs3
       subst gs3
       exact Zf [0, 7, 8, 10, 11, 12] ⟨a13, c10, rfl, H34⟩
      ·have gs3 := (M.ite_some gs3).2 hb3
       refine Run_skip ?_
       have H35 := H21.ofRows
       have H36 : Hold h h10 [rowsP cd2 24 a3 x4.1.length c3 x4.1 [(i1.toNat, a10, x9.length, c9, x9)], own cd24 a2 x3.length c2 x3, own cd24 a7 s2.length c6 s2] := H35.pk [1, 0, 2]
       have H37 := H36.ofRows
       have H38 : Hold h h10 [own cd24 a7 s2.length c6 s2, own cd24 a3 x4.1.length c3 x4.1, own cd24 a2 x3.length c2 x3] := H37.pk [2, 0, 1]
       have H39 : Hold h h10 [own cd24 a2 x3.length c2 x3, own cd24 a3 x4.1.length c3 x4.1, own cd24 a7 s2.length c6 s2] := H38.pk [2, 1, 0]
       have gs3 := M.ret_some gs3
       subst gs3
       exact Zf [0, 7, 8, 10, 11, 12] ⟨a7, c6, rfl, H39⟩
    ·have gx6 := M.for_end gx6 hb2
     subst gx6
     refine Run_exit (k' := _) rfl ?_
     have H42 : Hold h h10 [own cd24 a7 s2.length c6 s2, own cd24 a2 x3.length c2 x3, own cd24 a3 x4.1.length c3 x4.1] := H14.pk [2, 0, 1]
     have H43 : Hold h h10 [own cd24 a2 x3.length c2 x3, own cd24 a3 x4.1.length c3 x4.1, own cd24 a7 s2.length c6 s2] := H42.pk [1, 2, 0]
     exact Zf [0, 7, 8, 10, 11] ⟨a7, c6, rfl, H43⟩
  ·have gx5 := M.for_end gx5 hb1
   subst gx5
   refine Run_exit (k' := _) rfl ?_
   have H48 : Hold h h8 [own cd24 a5 s1.length c4 s1, own cd24 a2 x3.length c2 x3, own cd24 a3 x4.1.length c3 x4.1] := H12.pk [2, 0, 1]
   have H49 : Hold h h8 [own cd24 a5 s1.length c4 s1] := H48.pk [0]
   exact Zf [10] ⟨a5, c4, rfl, H49⟩

theorem w_spec_l06Matrix (h : Heap) (a_ : List (List Int)) (aa_ : Option Addr) (ca_ : Nat) (ra_ : Rd cd24 h (Lt h) aa_ ca_ a_) (n : Nat) (r : (List (List Int))) (hF : spec_l06Matrix a_ n = some r) :
  Fn Tryz.prog 45 #[.slice aa_ a_.length ca_] h fun v h' => ∃ (a0 : Option Addr) (c0 : Nat), v = .slice a0 r.length c0 ∧ Hold h h' [own cd24 a0 r.length c0 r] := by
 unfold spec_l06Matrix at hF
 refine Zo [.slice aa_ a_.length ca_] Tryz.func45 rfl (fun w0 _ => ?_)
 have H0 := Hold.init h
 refine Zs ?_
 refine Zq [.slice none 0 0] [0] [(0, .slice aa_ a_.length ca_)] ?_
 refine Zs ?_
 refine Run_ops ?_
 refine Zr [.slice aa_ a_.length ca_, .int .i64 (a_.length : Int), .slice aa_ a_.length ca_, .int .i64 (a_.length : Int)] 0 ?_
 obtain ⟨x1, hx1, hF⟩ := M.bind_some hF
 refine Ze ?_
 refine ZC 81 #[.int .i64 (a_.length : Int), .int .i64 (a_.length : Int)] (w_spec_l02Bottom h (a_.length : Int) (a_.length : Int) _ _ hx1) (fun v1 h1 hp1 => ?_)
 obtain ⟨a1, c1, rfl, H1⟩ := hp1
 have H2 : Hold h h1 [own cd24 a1 x1.length c1 x1] := H0.call H1 rfl
 refine Zr [.slice a1 x1.length c1] 5 ?_
 refine Zx ?_
 refine Zk [0, 3] [(0, .slice aa_ a_.length ca_), (3, .slice a1 x1.length c1)] ?_
 refine Zs ?_
 refine Run_ops ?_
 refine Zr [.slice aa_ a_.length ca_] 0 ?_
 obtain ⟨x2, hx2, hF⟩ := M.bind_some hF
 refine Ze ?_
 refine ZC 44 #[.slice aa_ a_.length ca_] (w_spec_l06Arcs h1 a_ aa_ ca_ (ra_.at H2.ext) _ _ hx2) (fun v2 h2 hp2 => ?_)
 obtain ⟨a2, c2, rfl, H3⟩ := hp2
 have H4 : Hold h h2 [own cd24 a2 x2.length c2 x2, own cd24 a1 x1.length c1 x1] := H2.call H3 rfl
 refine Zr [.slice a2 x2.length c2] 2 ?_
 refine Zx ?_
 refine Zk [0, 3, 4] [(0, .slice aa_ a_.length ca_), (3, .slice a1 x1.length c1), (4, .slice a2 x2.length c2)] ?_
 refine Zs ?_
 refine Zs ?_
 refine Zq [.int .i64 0] [0, 3, 4, 5] [(0, .slice aa_ a_.length ca_), (3, .slice a1 x1.length c1), (4, .slice a2 x2.length c2), (5, .int .i64 0)] ?_
 obtain ⟨x3, gx3, hF⟩ := M.bind_some hF
 obtain ⟨hloy1, hhiy1, gx3⟩ := M.for_start gx3
 refine Run_join (fun L' h' => L' = [(3, .slice a1 x1.length c1)] ∧ Hold h h' [own cd24 a1 x1.length c1 x3]) ?_ ?_
 ·rintro _ h4 ⟨rfl, H6⟩
  refine Zs ?_
  refine Zq [.slice a1 x1.length c1, .slice a1 x1.length c1] [2] [(2, .slice a1 x1.length c1)] ?_
  have hF := M.ret_some hF
  subst hF
  have H24 := H6.norm
  exact Run_ret1 rfl (Zt (.slice a1 x1.length c1)) ⟨a1, c1, (by simp only [(H6.len 0 rfl)]), H24⟩
 ·refine Run_block ?_
  have H25 : Hold h h2 [own cd24 a1 x1.length c1 x1, own cd24 a2 x2.length c2 x2] := H4.pk [1, 0]
  refine Zk [0, 3, 4, 5] [(0, .slice aa_ a_.length ca_), (3, .slice a1 x1.length c1), (4, .slice a2 x2.length c2), (5, .int .i64 0)] ?_
  refine Run_loop (fun m L' h' => ∃ (i1 : Int) (s1 : (List (List Int))), 0 ≤ i1 ∧ M.forN (x2.length : Int) _ _ n m i1 s1 = some x3 ∧ L' = [(0, .slice aa_ a_.length ca_), (3, .slice a1 x1.length c1), (4, .slice a2 x2.length c2), (5, .int .i64 i1)] ∧ Hold h h' [own cd24 a1 x1.length c1 s1, own cd24 a2 x2.length c2 x2]) ((x2.length : Int) - 0 : Int).toNat ⟨0, x1, Int.le_refl _, gx3, rfl, H25⟩ ?_
  rintro my1 _ h3 ⟨i1, s1, hloy1', gx3, rfl, H5⟩
  refine Zs ?_
  refine Zs ?_
  refine Zq [.int .i64 i1, .slice a2 x2.length c2, .int .i64 (x2.length : Int), .bool (decide (i1 < (x2.length : Int)))] [0, 3, 4, 5, 18] [(0, .slice aa_ a_.length ca_), (3, .slice a1 x1.length c1), (4, .slice a2 x2.length c2), (5, .int .i64 i1), (18, .bool (decide (i1 < (x2.length : Int))))] ?_
  refine Zc (decide (i1 < (x2.length : Int))) (fun hb1 => ?_) (fun hb1 => ?_)
  ·obtain ⟨my1, y1, rfl, hB1, hgoy1, houty1⟩ := M.for_go gx3 hb1
   have hlty1 := of_decide_eq_true hb1
   refine Run_skip ?_
   refine Zs ?_
   refine Run_block ?_
   refine Zs ?_
   obtain ⟨x4, hx3, hB1⟩ := M.bind_some hB1
   obtain ⟨hx3l, hx3u, hx3⟩ := M.idx_some hx3
   have H7 : Hold h h3 [own cd24 a2 x2.length c2 x2, own cd24 a1 x1.length c1 s1] := H5.pk [1, 0]
   have H8 := H7.toRows
   obtain ⟨a3, c3, H9⟩ := H8.pinRow hx3
   have H10 : Hold h h3 [own cd24 a1 x1.length c1 s1, rowsP cd2 24 a2 x2.length c2 x2 [(i1.toNat, a3, x4.length, c3, x4)]] := H9.pk [1, 0]
   obtain ⟨x5, hx4, hB1⟩ := M.bind_some hB1
   obtain ⟨hx4l, hx4u, hx4⟩ := M.idx_some hx4
   obtain ⟨x6, hx5, hB1⟩ := M.bind_some hB1
   obtain ⟨hx5l, hx5u, hx5⟩ := M.idx_some hx5
   have H11 : Hold h h3 [rowsP cd2 24 a2 x2.length c2 x2 [(i1.toNat, a3, x4.length, c3, x4)], own cd24 a1 x1.length c1 s1] := H10.pk [1, 0]
   obtain ⟨a4, c4, H12⟩ := H11.pinRow hx5
   have H13 : Hold h h3 [own cd24 a1 x1.length c1 s1, rowsP cd2 24 a2 x2.length c2 x2 [(i1.toNat, a4, x6.length, c4, x6), (i1.toNat, a3, x4.length, c3, x4)]] := H12.pk [1, 0]
   obtain ⟨x7, hx6, hB1⟩ := M.bind_some hB1
   obtain ⟨hx6l, hx6u, hx6⟩ := M.idx_some hx6
   refine Run_draw 14 mixed (by kernel_rfl) (by kernel_rfl) (L' := [(0, .slice aa_ a_.length ca_), (3, .slice a1 x1.length c1), (4, .slice a2 x2.length c2), (5, .int .i64 i1), (6, .int .i64 x5), (7, .int .i64 x7)]) ?_ ?_
   ·refine Zb [.slice a2 x2.length c2, .int .i64 i1] 0 ?_
    refine Zy (.pointer (some (adr a2 (i1.toNat * 1)))) (Zi 22 24 1 (a2) (x2.length) (c2) .i64 (i1) Tryz.underlying22 ((H5.rd 1 rfl).cell hx3).1 hx3l hx3u) ?_
    refine Zy (.slice a3 x4.length c3) (Zl 24 (adr a2 (i1.toNat * 1)) (.slice a3 x4.length c3) (H10.cellPin 1 rfl 0 rfl)) ?_
    refine Zy (.pointer (some (adr a3 (1 * 1)))) (Zi 24 2 1 (a3) (x4.length) (c3) .i64 (1) Tryz.underlying24 ((H10.rdPin 1 rfl 0 rfl).cell hx4).1 hx4l hx4u) ?_
    refine Zy (.int .i64 x5) (Zl 2 (adr a3 (1 * 1)) (.int .i64 x5) (cd2_cell (H10.rdPin 1 rfl 0 rfl) hx4)) ?_
    refine Zb [.slice a2 x2.length c2, .int .i64 i1] 6 ?_
    refine Zy (.pointer (some (adr a2 (i1.toNat * 1)))) (Zi 22 24 1 (a2) (x2.length) (c2) .i64 (i1) Tryz.underlying22 ((H10.rdRows 1 rfl).cell hx5).1 hx5l hx5u) ?_
    refine Zy (.slice a4 x6.length c4) (Zl 24 (adr a2 (i1.toNat * 1)) (.slice a4 x6.length c4) (H13.cellPin 1 rfl 0 rfl)) ?_
    refine Zy (.pointer (some (adr a4 (0 * 1)))) (Zi 24 2 1 (a4) (x6.length) (c4) .i64 (0) Tryz.underlying24 ((H13.rdPin 1 rfl 0 rfl).cell hx6).1 hx6l hx6u) ?_
    refine Zy (.int .i64 x7) (Zl 2 (adr a4 (0 * 1)) (.int .i64 x7) (cd2_cell (H13.rdPin 1 rfl 0 rfl) hx6)) ?_
    refine Zb [.int .i64 x5, .int .i64 x7] 12 ?_
    exact Zd [0, 3, 4, 5, 6, 7]
   obtain ⟨x8, hx7, hB1⟩ := M.bind_some hB1
   obtain ⟨hx7l, hx7u, hx7⟩ := M.idx_some hx7
   have H14 := H13.toRows
   obtain ⟨a5, c5, H15⟩ := H14.pinRow hx7
   obtain ⟨x9, hx8, hB1⟩ := M.bind_some hB1
   obtain ⟨hx8l, hx8u, hx8⟩ := M.idx_some hx8
   obtain ⟨a6, c6, hc1, r1⟩ := ra_.row hx8
   obtain ⟨x10, hx9, hB1⟩ := M.bind_some hB1
   obtain ⟨hx9l, hx9u, hx9⟩ := M.idx_some hx9
   obtain ⟨x11, hx10, hB1⟩ := M.bind_some hB1
   obtain ⟨hx10l, hx10u, hx10⟩ := M.idx_some hx10
   refine Run_D (fun x => Hold h x [rowsP cd2 24 a1 x1.length c1 s1 [(x5.toNat, a5, x8.length, c5, x8)], rowsP cd2 24 a2 x2.length c2 x2 [(i1.toNat, a4, x6.length, c4, x6), (i1.toNat, a3, x4.length, c3, x4)]]) (fun x => Hold h x [rowsP cd2 24 a1 x1.length c1 s1 [(x5.toNat, a5, x8.length, c5, x8)], rowsP cd2 24 a2 x2.length c2 x2 [(i1.toNat, a4, x6.length, c4, x6), (i1.toNat, a3, x4.length, c3, x4)]]) mixed (by kernel_rfl) H15 Hold.stable (fun x Hy => (show Hold h x [rowsP cd2 24 a1 x1.length c1 s1 [(x5.toNat, a5, x8.length, c5, x8)], rowsP cd2 24 a2 x2.length c2 x2 [(i1.toNat, a4, x6.length, c4, x6), (i1.toNat, a3, x4.length, c3, x4)]] from Hy).pk [0, 1]) ?_
   refine ZB 12 [.slice a1 x1.length c1, .int .i64 x5] 0 ?_
   refine ZY 11 2 (.pointer (some (adr a1 (x5.toNat * 1)))) (fun hx Hx => (YE.of (Zi 22 24 1 (a1) (x1.length) (c1) .i64 (x5) Tryz.underlying22 ((H13.rd 0 rfl).cell hx7).1 hx7l (by rw [← (H13.len 0 rfl)]; exact hx7u)))) ?_
   refine ZY 10 3 (.slice a5 x8.length c5) (fun hx Hx => (YE.of (Zl 24 (adr a1 (x5.toNat * 1)) (.slice a5 x8.length c5) (Hx.cellPin 0 rfl 0 rfl)))) ?_
   refine ZB 7 [.int .i64 x7, .slice aa_ a_.length ca_, .int .i64 x5] 4 ?_
   refine ZY 6 7 (.pointer (some (adr aa_ (x5.toNat * 1)))) (fun hx Hx => (YE.of (Zi 22 24 1 (aa_) (a_.length) (ca_) .i64 (x5) Tryz.underlying22 ((ra_.at H15.ext).cell hx8).1 hx8l hx8u))) ?_
   refine ZY 5 8 (.slice a6 x9.length c6) (fun hx Hx => (YE.of (Zl 24 (adr aa_ (x5.toNat * 1)) (.slice a6 x9.length c6) (cell_at Hx.ext hc1)))) ?_
   refine ZB 4 [.int .i64 x7] 9 ?_
   refine ZY 3 10 (.pointer (some (adr a6 (x7.toNat * 1)))) (fun hx Hx => (YE.of (Zi 24 2 1 (a6) (x9.length) (c6) .i64 (x7) Tryz.underlying24 ((r1.at H15.ext).cell hx9).1 hx9l hx9u))) ?_
   refine ZY 2 11 (.int .i64 x10) (fun hx Hx => (YE.of (Zl 2 (adr a6 (x7.toNat * 1)) (.int .i64 x10) (cd2_cell (r1.at Hx.ext) hx9)))) ?_
   refine ZY 1 12 (.pointer (some (adr a5 (x7.toNat * 1)))) (fun hx Hx => (YE.of (Zi 24 2 1 (a5) (x8.length) (c5) .i64 (x7) Tryz.underlying24 ((H15.rdPin 0 rfl 0 rfl).cell hx10).1 hx10l hx10u))) ?_
   refine ZT 13 (fun h5 H16 => ?_)
   have H17 : Hold h h5 [rowsP cd2 24 a1 x1.length c1 s1 [(x5.toNat, a5, x8.length, c5, x8)], rowsP cd2 24 a2 x2.length c2 x2 [(i1.toNat, a4, x6.length, c4, x6), (i1.toNat, a3, x4.length, c3, x4)]] := H16
   obtain ⟨l1, hu1, hB1⟩ := M.bind_some hB1
   have hu1 := M.upd_some hu1
   refine Ze ?_
   refine E_put2 (C := cd2) (t := 2) (sz := 1) (j := x7) (x := x10) (v := .int .i64 x10) (m2 := s1.set x5.toNat l1) H17 cd2_flat 0 rfl (by kernel_rfl) rfl (cd2_own _) (by kernel_rfl) hu1 rfl (fun h6 H18 => ?_)
   refine Zx ?_
   refine Zk [0, 3, 4, 5] [(0, .slice aa_ a_.length ca_), (3, .slice a1 x1.length c1), (4, .slice a2 x2.length c2), (5, .int .i64 i1)] ?_
   refine Run_blk ?_
   refine Zg 3 [(0, .slice aa_ a_.length ca_), (3, .slice a1 x1.length c1), (4, .slice a2 x2.length c2), (5, .int .i64 (i1 + 1))] ?_ ?_
   ·refine Zb [.int .i64 i1] 0 ?_
    refine Zy (.int .i64 (i1 + 1)) (Y_eq (v := .int .i64 (w64 (i1 + 1))) (Y_pure (fun w => by kernel_rfl)) (by rw [w64_eq _ (by omega)])) ?_
    refine Zb [.int .i64 (i1 + 1)] 2 ?_
    exact Zd [0, 3, 4, 5]
   have H19 := H18.ofRows
   have H20 : Hold h h6 [rowsP cd2 24 a2 x2.length c2 x2 [(i1.toNat, a4, x6.length, c4, x6), (i1.toNat, a3, x4.length, c3, x4)], own cd24 a1 x1.length c1 (s1.set x5.toNat l1)] := H19.pk [1, 0]
   have H21 := H20.ofRows
   have H22 : Hold h h6 [own cd24 a1 x1.length c1 (s1.set x5.toNat l1), own cd24 a2 x2.length c2 x2] := H21.pk [1, 0]
   have hB1 := M.ret_some hB1
   have gx3 := hgoy1 _ hB1.symm
   exact Za [0, 3, 4, 5] my1 ⟨i1 + 1, (s1.set x5.toNat l1), by omega, gx3, rfl, H22⟩
  ·have gx3 := M.for_end gx3 hb1
   subst gx3
   refine Run_exit (k' := _) rfl ?_
   have H23 : Hold h h3 [own cd24 a1 x1.length c1 s1] := H5.pk [0]
   exact Zf [3] ⟨rfl, H23⟩

end Go.Proofs.YtelopfgolahlpaaGreat
