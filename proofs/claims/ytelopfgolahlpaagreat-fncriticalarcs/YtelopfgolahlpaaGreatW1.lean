/-
  Walks: each Go function, called with what reads as plain data, returns what its plain program computes.
  Conditions: None beyond the given statement.
-/
import Derived.Test.YtelopfgolahlpaaGreatW0
namespace Go.Proofs.YtelopfgolahlpaaGreat
open Go
attribute [local irreducible] setL setB opA fineI idleI fineB evB okB markB markBs readyB readyBs chainB lk rho pickL dropSlot tailOK
set_option maxRecDepth 100000
set_option maxHeartbeats 4000000
theorem w_impl_matrixBy_F_impl_shifted_1 (h : Heap) (m_ : Int) (n_ : Int) (entry0 : List (List Int)) (aentry0 : Option Addr) (centry0 : Nat) (rentry0 : Rd cd24 h (Lt h) aentry0 centry0 entry0) (bentry0 : Nat) (ventry0 : VarAt h bentry0 22 [.slice aentry0 entry0.length centry0]) (entry1 : TRatio) (bentry1 : Nat) (ventry1 : VarAt h bentry1 44 [iV entry1.Num, iV entry1.Den]) (n : Nat) (r : (List (List Int))) (hF : impl_matrixBy_F_impl_shifted_1 m_ n_ entry0 entry1 n = some r) :
  Fn Tryz.prog 109 #[iV m_, iV n_, .func (.func 137) #[] #[pV bentry0, pV bentry1]] h fun v h' => ∃ (a0 : Option Addr) (c0 : Nat), v = .slice a0 r.length c0 ∧ Hold h h' [own cd24 a0 r.length c0 r] := by
 unfold impl_matrixBy_F_impl_shifted_1 at hF
 refine Zo [iV m_, iV n_, .func (.func 137) #[] #[pV bentry0, pV bentry1]] Tryz.func109 rfl (fun w0 _ => ?_)
 have H0 := Hold.init h
 refine Zs ?_
 refine Zq [.slice none 0 0] [0, 1, 2] [(0, iV m_), (1, iV n_), (2, .func (.func 137) #[] #[pV bentry0, pV bentry1])] ?_
 refine Zs ?_
 refine Run_ops ?_
 refine Zr [iV m_] 0 ?_
 obtain ⟨l1, hl1, hF⟩ := M.bind_some hF
 have hl1 := M.make_some hl1
 refine Ze ?_
 refine E_make cd24 [] (kl := .i64) (kc := .i64) H0 cd24_ti Tryz.underlying22 (by decide) cd24_zero (by kernel_rfl) hl1 (fun a1 h1 H1 => ?_)
 refine Zr [.slice a1 l1.length l1.length] 2 ?_
 refine Zx ?_
 refine Zk [1, 2, 7] [(1, iV n_), (2, .func (.func 137) #[] #[pV bentry0, pV bentry1]), (7, .slice a1 l1.length l1.length)] ?_
 refine Zs ?_
 refine Zs ?_
 refine Zq [.slice a1 l1.length l1.length, iV (l1.length : Int), iV 0] [1, 2, 7, 13, 14] [(1, iV n_), (2, .func (.func 137) #[] #[pV bentry0, pV bentry1]), (7, .slice a1 l1.length l1.length), (13, iV (l1.length : Int)), (14, iV 0)] ?_
 obtain ⟨x1, gx1, hF⟩ := M.bind_some hF
 obtain ⟨hloy1, hhiy1, gx1⟩ := M.for_start gx1
 refine Run_join (fun L' h' => L' = [(7, .slice a1 l1.length l1.length)] ∧ Hold h h' [own cd24 a1 l1.length l1.length x1]) ?_ ?_
 ·rintro _ h3 ⟨rfl, H3⟩
  refine Zs ?_
  refine Zq [.slice a1 l1.length l1.length, .slice a1 l1.length l1.length] [6] [(6, .slice a1 l1.length l1.length)] ?_
  have hF := M.ret_some hF
  subst hF
  have H20 := H3.norm
  exact Run_ret1 rfl (Zt (.slice a1 l1.length l1.length)) ⟨a1, l1.length, (by simp only [(H3.len 0 rfl)]), H20⟩
 ·refine Run_block ?_
  refine Zk [1, 2, 7, 13, 14] [(1, iV n_), (2, .func (.func 137) #[] #[pV bentry0, pV bentry1]), (7, .slice a1 l1.length l1.length), (13, iV (l1.length : Int)), (14, iV 0)] ?_
  refine Run_loop (fun m L' h' => ∃ (i1 : Int) (s1 : (List (List Int))), 0 ≤ i1 ∧ M.forN (l1.length : Int) _ _ n m i1 s1 = some x1 ∧ L' = [(1, iV n_), (2, .func (.func 137) #[] #[pV bentry0, pV bentry1]), (7, .slice a1 l1.length l1.length), (13, iV (l1.length : Int)), (14, iV i1)] ∧ Hold h h' [own cd24 a1 l1.length l1.length s1]) ((l1.length : Int) - 0 : Int).toNat ⟨0, l1, Int.le_refl _, gx1, rfl, H1⟩ ?_
  rintro my1 _ h2 ⟨i1, s1, hloy1', gx1, rfl, H2⟩
  refine Zs ?_
  refine Zq [.bool (decide (i1 < (l1.length : Int)))] [1, 2, 7, 13, 14, 15] [(1, iV n_), (2, .func (.func 137) #[] #[pV bentry0, pV bentry1]), (7, .slice a1 l1.length l1.length), (13, iV (l1.length : Int)), (14, iV i1), (15, .bool (decide (i1 < (l1.length : Int))))] ?_
  refine Zs ?_
  refine Zc (decide (i1 < (l1.length : Int))) (fun hb1 => ?_) (fun hb1 => ?_)
  ·obtain ⟨my1, y1, rfl, hB1, hgoy1, houty1⟩ := M.for_go gx1 hb1
   have hlty1 := of_decide_eq_true hb1
   refine Run_skip ?_
   refine Zs ?_
   refine Run_block ?_
   refine Zs ?_
   refine Zq [iV i1, iV i1] [1, 2, 7, 8, 13, 14] [(1, iV n_), (2, .func (.func 137) #[] #[pV bentry0, pV bentry1]), (7, .slice a1 l1.length l1.length), (8, iV i1), (13, iV (l1.length : Int)), (14, iV i1)] ?_
   refine Zs ?_
   refine Run_ops ?_
   refine Zr [.slice a1 l1.length l1.length, iV i1, iV n_] 0 ?_
   obtain ⟨l2, hl2, hB1⟩ := M.bind_some hB1
   have hl2 := M.make_some hl2
   refine Ze ?_
   refine E_make cd2 0 (kl := .i64) (kc := .i64) H2 cd2_ti Tryz.underlying24 (by decide) cd2_zero (by kernel_rfl) hl2 (fun a2 h4 H4 => ?_)
   obtain ⟨x2, hx1, hB1⟩ := M.bind_some hB1
   obtain ⟨hx1l, hx1u, hx1⟩ := M.idx_some hx1
   refine Zz (.pointer (some (adr a1 (i1.toNat * 1)))) (Zi 22 24 1 (a1) (l1.length) (l1.length) .i64 (i1) Tryz.underlying22 ((H4.rd 1 rfl).cell hx1).1 hx1l (by rw [← (H4.len 1 rfl)]; exact hx1u)) ?_
   obtain ⟨l3, hu1, hB1⟩ := M.bind_some hB1
   have hu1 := M.upd_some hu1
   have H6 : Hold h h4 [own cd24 a1 l1.length l1.length s1, own cd2 a2 l2.length l2.length l2] := H4.pk [1, 0]
   have H7 : Hold h h4 [own cd2 a2 l2.length l2.length l2, own cd24 a1 l1.length l1.length s1] := H6.pk [1, 0]
   have H8 : Hold h h4 [own cd24 a1 l1.length l1.length s1, own cd2 a2 l2.length l2.length l2] := H7.pk [1, 0]
   refine Ze ?_
   refine E_putRow (t := 24) (j := i1) H8 (by kernel_rfl) (by kernel_rfl) hu1 (fun h5 H5 => ?_)
   refine Zx ?_
   refine Zk [1, 2, 7, 8, 13, 14] [(1, iV n_), (2, .func (.func 137) #[] #[pV bentry0, pV bentry1]), (7, .slice a1 l1.length l1.length), (8, iV i1), (13, iV (l1.length : Int)), (14, iV i1)] ?_
   refine Zs ?_
   obtain ⟨x3, hx2, hB1⟩ := M.bind_some hB1
   obtain ⟨hx2l, hx2u, hx2⟩ := M.idx_some hx2
   have H9 := H5.toRows
   obtain ⟨a3, c1, H10⟩ := H9.pinRow hx2
   refine Zg 6 [(1, iV n_), (2, .func (.func 137) #[] #[pV bentry0, pV bentry1]), (7, .slice a1 l1.length l1.length), (8, iV i1), (13, iV (l1.length : Int)), (14, iV i1), (26, iV (x3.length : Int)), (27, iV 0)] ?_ ?_
   ·refine Zb [.slice a1 l1.length l1.length, iV i1] 0 ?_
    refine Zy (.pointer (some (adr a1 (i1.toNat * 1)))) (Zi 22 24 1 (a1) (l1.length) (l1.length) .i64 (i1) Tryz.underlying22 ((H5.rd 0 rfl).cell hx2).1 hx2l (by rw [← (H5.len 0 rfl)]; exact hx2u)) ?_
    refine Zy (.slice a3 x3.length c1) (Zl 24 (adr a1 (i1.toNat * 1)) (.slice a3 x3.length c1) (H10.cellPin 0 rfl 0 rfl)) ?_
    refine Zb [iV (x3.length : Int), iV 0] 4 ?_
    exact Zd [1, 2, 7, 8, 13, 14, 26, 27]
   obtain ⟨x4, gx4, hB1⟩ := M.bind_some hB1
   obtain ⟨hloy2, hhiy2, gx4⟩ := M.for_start gx4
   refine Run_join (fun L' h' => L' = [(1, iV n_), (2, .func (.func 137) #[] #[pV bentry0, pV bentry1]), (7, .slice a1 l1.length l1.length), (13, iV (l1.length : Int)), (14, iV i1)] ∧ Hold h h' [own cd24 a1 l1.length l1.length x4]) ?_ ?_
   ·rintro _ h7 ⟨rfl, H12⟩
    refine Run_blk ?_
    refine Zg 2 [(1, iV n_), (2, .func (.func 137) #[] #[pV bentry0, pV bentry1]), (7, .slice a1 l1.length l1.length), (13, iV (l1.length : Int)), (14, iV (i1 + 1))] ?_ ?_
    ·refine Zy (iV (i1 + 1)) (Y_eq (v := iV (w64 (i1 + 1))) (Y_pure (fun w => by kernel_rfl)) (by rw [w64_eq _ (by omega)])) ?_
     refine Zb [iV (i1 + 1)] 1 ?_
     exact Zd [1, 2, 7, 13, 14]
    have hB1 := M.ret_some hB1
    have gx1 := hgoy1 _ hB1.symm
    exact Za [1, 2, 7, 13, 14] my1 ⟨i1 + 1, x4, by omega, gx1, rfl, H12⟩
   ·refine Run_block ?_
    have H19 := H10.ofRows
    refine Zk [1, 2, 7, 8, 13, 14, 26, 27] [(1, iV n_), (2, .func (.func 137) #[] #[pV bentry0, pV bentry1]), (7, .slice a1 l1.length l1.length), (8, iV i1), (13, iV (l1.length : Int)), (14, iV i1), (26, iV (x3.length : Int)), (27, iV 0)] ?_
    refine Run_loop (fun m L' h' => ∃ (i2 : Int) (s2 : (List (List Int))), 0 ≤ i2 ∧ M.forN (x3.length : Int) _ _ n m i2 s2 = some x4 ∧ L' = [(1, iV n_), (2, .func (.func 137) #[] #[pV bentry0, pV bentry1]), (7, .slice a1 l1.length l1.length), (8, iV i1), (13, iV (l1.length : Int)), (14, iV i1), (26, iV (x3.length : Int)), (27, iV i2)] ∧ Hold h h' [own cd24 a1 l1.length l1.length s2]) ((x3.length : Int) - 0 : Int).toNat ⟨0, l3, Int.le_refl _, gx4, rfl, H19⟩ ?_
    rintro my2 _ h6 ⟨i2, s2, hloy2', gx4, rfl, H11⟩
    refine Zs ?_
    refine Zq [.bool (decide (i2 < (x3.length : Int)))] [1, 2, 7, 8, 13, 14, 26, 27, 28] [(1, iV n_), (2, .func (.func 137) #[] #[pV bentry0, pV bentry1]), (7, .slice a1 l1.length l1.length), (8, iV i1), (13, iV (l1.length : Int)), (14, iV i1), (26, iV (x3.length : Int)), (27, iV i2), (28, .bool (decide (i2 < (x3.length : Int))))] ?_
    refine Zs ?_
    refine Zc (decide (i2 < (x3.length : Int))) (fun hb2 => ?_) (fun hb2 => ?_)
    ·obtain ⟨my2, y2, rfl, hB2, hgoy2, houty2⟩ := M.for_go gx4 hb2
     have hlty2 := of_decide_eq_true hb2
     refine Run_skip ?_
     refine Zs ?_
     refine Run_block ?_
     refine Zs ?_
     refine Zq [iV i2, iV i2] [1, 2, 7, 8, 9, 13, 14, 26, 27] [(1, iV n_), (2, .func (.func 137) #[] #[pV bentry0, pV bentry1]), (7, .slice a1 l1.length l1.length), (8, iV i1), (9, iV i2), (13, iV (l1.length : Int)), (14, iV i1), (26, iV (x3.length : Int)), (27, iV i2)] ?_
     obtain ⟨x5, hx3, hB2⟩ := M.bind_some hB2
     obtain ⟨hx3l, hx3u, hx3⟩ := M.idx_some hx3
     have H13 := H11.toRows
     obtain ⟨a4, c2, H14⟩ := H13.pinRow hx3
     obtain ⟨x6, hx4, hB2⟩ := M.bind_some hB2
     obtain ⟨x7, hx5, hB2⟩ := M.bind_some hB2
     obtain ⟨hx5l, hx5u, hx5⟩ := M.idx_some hx5
     refine Run_D (fun x => Hold h x [rowsP cd2 24 a1 l1.length l1.length s2 [(i1.toNat, a4, x5.length, c2, x5)]]) (fun x => Hold h x [rowsP cd2 24 a1 l1.length l1.length s2 [(i1.toNat, a4, x5.length, c2, x5)]]) mixed (by kernel_rfl) H14 Hold.stable (fun x Hy => (show Hold h x [rowsP cd2 24 a1 l1.length l1.length s2 [(i1.toNat, a4, x5.length, c2, x5)]] from Hy).pk [0]) ?_
     refine ZB 9 [.slice a1 l1.length l1.length, iV i1] 0 ?_
     refine ZY 8 2 (.pointer (some (adr a1 (i1.toNat * 1)))) (fun hx Hx => (YE.of (Zi 22 24 1 (a1) (l1.length) (l1.length) .i64 (i1) Tryz.underlying22 ((H11.rd 0 rfl).cell hx3).1 hx3l (by rw [← (H11.len 0 rfl)]; exact hx3u)))) ?_
     refine ZY 7 3 (.slice a4 x5.length c2) (fun hx Hx => (YE.of (Zl 24 (adr a1 (i1.toNat * 1)) (.slice a4 x5.length c2) (Hx.cellPin 0 rfl 0 rfl)))) ?_
     refine ZB 3 [iV i2, .func (.func 137) #[] #[pV bentry0, pV bentry1], iV i1, iV i2] 4 ?_
     refine ZY 2 8 (iV x6) (fun hx Hx => (YE.of (ZQ 137 #[iV i1, iV i2, pV bentry0, pV bentry1] (w_impl_shifted_1 hx i1 i2 entry0 aentry0 centry0 (rentry0.at Hx.ext) bentry0 (ventry0.at Hx.ext) entry1 bentry1 (ventry1.at Hx.ext) _ _ hx4)))) ?_
     refine ZY 1 9 (.pointer (some (adr a4 (i2.toNat * 1)))) (fun hx Hx => (YE.of (Zi 24 2 1 (a4) (x5.length) (c2) .i64 (i2) Tryz.underlying24 ((H14.rdPin 0 rfl 0 rfl).cell hx5).1 hx5l hx5u))) ?_
     refine ZT 10 (fun h8 H15 => ?_)
     have H16 : Hold h h8 [rowsP cd2 24 a1 l1.length l1.length s2 [(i1.toNat, a4, x5.length, c2, x5)]] := H15
     obtain ⟨l4, hu2, hB2⟩ := M.bind_some hB2
     have hu2 := M.upd_some hu2
     refine Ze ?_
     refine E_put2 (C := cd2) (t := 2) (sz := 1) (j := i2) (x := x6) (v := iV x6) (m2 := s2.set i1.toNat l4) H16 cd2_flat 0 rfl (by kernel_rfl) rfl (cd2_own _) (by kernel_rfl) hu2 rfl (fun h9 H17 => ?_)
     refine Zx ?_
     refine Zk [1, 2, 7, 8, 13, 14, 26, 27] [(1, iV n_), (2, .func (.func 137) #[] #[pV bentry0, pV bentry1]), (7, .slice a1 l1.length l1.length), (8, iV i1), (13, iV (l1.length : Int)), (14, iV i1), (26, iV (x3.length : Int)), (27, iV i2)] ?_
     refine Run_blk ?_
     refine Zg 2 [(1, iV n_), (2, .func (.func 137) #[] #[pV bentry0, pV bentry1]), (7, .slice a1 l1.length l1.length), (8, iV i1), (13, iV (l1.length : Int)), (14, iV i1), (26, iV (x3.length : Int)), (27, iV (i2 + 1))] ?_ ?_
     ·refine Zy (iV (i2 + 1)) (Y_eq (v := iV (w64 (i2 + 1))) (Y_pure (fun w => by kernel_rfl)) (by rw [w64_eq _ (by omega)])) ?_
      refine Zb [iV (i2 + 1)] 1 ?_
      exact Zd [1, 2, 7, 8, 13, 14, 26, 27]
     have H18 := H17.ofRows
     have hB2 := M.ret_some hB2
     have gx4 := hgoy2 _ hB2.symm
     exact Za [1, 2, 7, 8, 13, 14, 26, 27] my2 ⟨i2 + 1, (s2.set i1.toNat l4), by omega, gx4, rfl, H18⟩
    ·have gx4 := M.for_end gx4 hb2
     subst gx4
     refine Run_exit (k' := _) rfl ?_
     exact Zf [1, 2, 7, 13, 14] ⟨rfl, H11⟩
  ·have gx1 := M.for_end gx1 hb1
   subst gx1
   refine Run_exit (k' := _) rfl ?_
   exact Zf [7] ⟨rfl, H2⟩

theorem w_impl_shifted (h : Heap) (a_ : List (List Int)) (aa_ : Option Addr) (ca_ : Nat) (ra_ : Rd cd24 h (Lt h) aa_ ca_ a_) (r_ : TRatio) (n : Nat) (r : (List (List Int))) (hF : impl_shifted a_ r_ n = some r) :
  Fn Tryz.prog 94 #[.slice aa_ a_.length ca_, .agg #[iV r_.Num, iV r_.Den]] h fun v h' => ∃ (a0 : Option Addr) (c0 : Nat), v = .slice a0 r.length c0 ∧ Hold h h' [own cd24 a0 r.length c0 r] := by
 unfold impl_shifted at hF
 refine Zo [.slice aa_ a_.length ca_, .agg #[iV r_.Num, iV r_.Den]] Tryz.func94 rfl (fun w0 _ => ?_)
 have H0 := Hold.init h
 refine Zs ?_
 refine Run_ops ?_
 refine Ze ?_
 refine E_box (ty := 22) (cs := [.slice aa_ a_.length ca_]) H0 (fun w => by kernel_rfl) (fun b1 h1 H1 => ?_)
 refine Ze ?_
 refine E_box (ty := 44) (cs := [iV r_.Num, iV r_.Den]) H1 (fun w => by kernel_rfl) (fun b2 h2 H2 => ?_)
 refine Zr [.slice none 0 0] 2 ?_
 refine Zx ?_
 refine Zk [2, 3] [(2, pV b1), (3, pV b2)] ?_
 refine Zs ?_
 refine Run_ops ?_
 refine Zz (.slice aa_ a_.length ca_) (Zl 22 (⟨b1, 0, none⟩) (.slice aa_ a_.length ca_) (H2.cell 1 rfl rfl)) ?_
 refine Zr [iV (a_.length : Int)] 1 ?_
 refine Zz (.slice aa_ a_.length ca_) (Zl 22 (⟨b1, 0, none⟩) (.slice aa_ a_.length ca_) (H2.cell 1 rfl rfl)) ?_
 refine Zr [iV (a_.length : Int), .func (.func 137) #[] #[pV b1, pV b2]] 3 ?_
 obtain ⟨x1, hx1, hF⟩ := M.bind_some hF
 refine Ze ?_
 refine ZC 109 #[iV (a_.length : Int), iV (a_.length : Int), .func (.func 137) #[] #[pV b1, pV b2]] (w_impl_matrixBy_F_impl_shifted_1 h2 (a_.length : Int) (a_.length : Int) a_ aa_ ca_ (ra_.at H2.ext) b1 (H2.var 1 rfl) r_ b2 (H2.var 0 rfl) _ _ hx1) (fun v1 h3 hp1 => ?_)
 obtain ⟨a1, c1, rfl, H3⟩ := hp1
 have H4 : Hold h h3 [own cd24 a1 x1.length c1 x1, box b2 44 [iV r_.Num, iV r_.Den], box b1 22 [.slice aa_ a_.length ca_]] := H2.call H3 rfl
 refine Zr [.slice a1 x1.length c1] 6 ?_
 refine Zx ?_
 refine Zk [4] [(4, .slice a1 x1.length c1)] ?_
 have hF := M.ret_some hF
 subst hF
 have H5 : Hold h h3 [own cd24 a1 x1.length c1 x1] := H4.pk [0]
 exact Run_ret1 rfl (Zt (.slice a1 x1.length c1)) ⟨a1, c1, rfl, H5⟩

theorem w_impl_unitMatrix_1 (h : Heap) (i : Int) (j : Int) (n : Nat) (r : Int) (hF : impl_unitMatrix_1 i j n = some r) :
  Fn Tryz.prog 155 #[iV i, iV j] h fun v h' => v = iV r ∧ h' = h := by
 unfold impl_unitMatrix_1 at hF
 refine Zo [iV i, iV j] Tryz.func155 rfl (fun w0 _ => ?_)
 refine Zs ?_
 refine Zq [iV 0] [0, 1] [(0, iV i), (1, iV j)] ?_
 refine Zs ?_
 refine Zs ?_
 refine Zq [iV i, iV j, .bool (i == j)] [7] [(7, .bool (i == j))] ?_
 refine Zc (i == j) (fun hb1 => ?_) (fun hb1 => ?_)
 ·have hF := (M.ite_some hF).1 hb1
  refine Zs ?_
  refine Zq [iV 0] [4] [(4, iV 0)] ?_
  have hF := M.ret_some hF
  subst hF
  exact Run_ret1 rfl (Zt (iV 0)) ⟨rfl, rfl⟩
 ·have hF := (M.ite_some hF).2 hb1
  refine Run_skip ?_
  refine Zs ?_
  refine Zq [iV (-1000000000000000)] [4] [(4, iV (-1000000000000000))] ?_
  have hF := M.ret_some hF
  subst hF
  exact Run_ret1 rfl (Zt (iV (-1000000000000000))) ⟨rfl, rfl⟩

theorem w_impl_matrixBy_F_impl_unitMatrix_1 (h : Heap) (m_ : Int) (n_ : Int) (n : Nat) (r : (List (List Int))) (hF : impl_matrixBy_F_impl_unitMatrix_1 m_ n_ n = some r) :
  Fn Tryz.prog 109 #[iV m_, iV n_, .func (.func 155) #[] #[]] h fun v h' => ∃ (a0 : Option Addr) (c0 : Nat), v = .slice a0 r.length c0 ∧ Hold h h' [own cd24 a0 r.length c0 r] := by
 unfold impl_matrixBy_F_impl_unitMatrix_1 at hF
 refine Zo [iV m_, iV n_, .func (.func 155) #[] #[]] Tryz.func109 rfl (fun w0 _ => ?_)
 have H0 := Hold.init h
 refine Zs ?_
 refine Zq [.slice none 0 0] [0, 1, 2] [(0, iV m_), (1, iV n_), (2, .func (.func 155) #[] #[])] ?_
 refine Zs ?_
 refine Run_ops ?_
 refine Zr [iV m_] 0 ?_
 obtain ⟨l1, hl1, hF⟩ := M.bind_some hF
 have hl1 := M.make_some hl1
 refine Ze ?_
 refine E_make cd24 [] (kl := .i64) (kc := .i64) H0 cd24_ti Tryz.underlying22 (by decide) cd24_zero (by kernel_rfl) hl1 (fun a1 h1 H1 => ?_)
 refine Zr [.slice a1 l1.length l1.length] 2 ?_
 refine Zx ?_
 refine Zk [1, 2, 7] [(1, iV n_), (2, .func (.func 155) #[] #[]), (7, .slice a1 l1.length l1.length)] ?_
 refine Zs ?_
 refine Zs ?_
 refine Zq [.slice a1 l1.length l1.length, iV (l1.length : Int), iV 0] [1, 2, 7, 13, 14] [(1, iV n_), (2, .func (.func 155) #[] #[]), (7, .slice a1 l1.length l1.length), (13, iV (l1.length : Int)), (14, iV 0)] ?_
 obtain ⟨x1, gx1, hF⟩ := M.bind_some hF
 obtain ⟨hloy1, hhiy1, gx1⟩ := M.for_start gx1
 refine Run_join (fun L' h' => L' = [(7, .slice a1 l1.length l1.length)] ∧ Hold h h' [own cd24 a1 l1.length l1.length x1]) ?_ ?_
 ·rintro _ h3 ⟨rfl, H3⟩
  refine Zs ?_
  refine Zq [.slice a1 l1.length l1.length, .slice a1 l1.length l1.length] [6] [(6, .slice a1 l1.length l1.length)] ?_
  have hF := M.ret_some hF
  subst hF
  have H20 := H3.norm
  exact Run_ret1 rfl (Zt (.slice a1 l1.length l1.length)) ⟨a1, l1.length, (by simp only [(H3.len 0 rfl)]), H20⟩
 ·refine Run_block ?_
  refine Zk [1, 2, 7, 13, 14] [(1, iV n_), (2, .func (.func 155) #[] #[]), (7, .slice a1 l1.length l1.length), (13, iV (l1.length : Int)), (14, iV 0)] ?_
  refine Run_loop (fun m L' h' => ∃ (i1 : Int) (s1 : (List (List Int))), 0 ≤ i1 ∧ M.forN (l1.length : Int) _ _ n m i1 s1 = some x1 ∧ L' = [(1, iV n_), (2, .func (.func 155) #[] #[]), (7, .slice a1 l1.length l1.length), (13, iV (l1.length : Int)), (14, iV i1)] ∧ Hold h h' [own cd24 a1 l1.length l1.length s1]) ((l1.length : Int) - 0 : Int).toNat ⟨0, l1, Int.le_refl _, gx1, rfl, H1⟩ ?_
  rintro my1 _ h2 ⟨i1, s1, hloy1', gx1, rfl, H2⟩
  refine Zs ?_
  refine Zq [.bool (decide (i1 < (l1.length : Int)))] [1, 2, 7, 13, 14, 15] [(1, iV n_), (2, .func (.func 155) #[] #[]), (7, .slice a1 l1.length l1.length), (13, iV (l1.length : Int)), (14, iV i1), (15, .bool (decide (i1 < (l1.length : Int))))] ?_
  refine Zs ?_
  refine Zc (decide (i1 < (l1.length : Int))) (fun hb1 => ?_) (fun hb1 => ?_)
  ·obtain ⟨my1, y1, rfl, hB1, hgoy1, houty1⟩ := M.for_go gx1 hb1
   have hlty1 := of_decide_eq_true hb1
   refine Run_skip ?_
   refine Zs ?_
   refine Run_block ?_
   refine Zs ?_
   refine Zq [iV i1, iV i1] [1, 2, 7, 8, 13, 14] [(1, iV n_), (2, .func (.func 155) #[] #[]), (7, .slice a1 l1.length l1.length), (8, iV i1), (13, iV (l1.length : Int)), (14, iV i1)] ?_
   refine Zs ?_
   refine Run_ops ?_
   refine Zr [.slice a1 l1.length l1.length, iV i1, iV n_] 0 ?_
   obtain ⟨l2, hl2, hB1⟩ := M.bind_some hB1
   have hl2 := M.make_some hl2
   refine Ze ?_
   refine E_make cd2 0 (kl := .i64) (kc := .i64) H2 cd2_ti Tryz.underlying24 (by decide) cd2_zero (by kernel_rfl) hl2 (fun a2 h4 H4 => ?_)
   obtain ⟨x2, hx1, hB1⟩ := M.bind_some hB1
   obtain ⟨hx1l, hx1u, hx1⟩ := M.idx_some hx1
   refine Zz (.pointer (some (adr a1 (i1.toNat * 1)))) (Zi 22 24 1 (a1) (l1.length) (l1.length) .i64 (i1) Tryz.underlying22 ((H4.rd 1 rfl).cell hx1).1 hx1l (by rw [← (H4.len 1 rfl)]; exact hx1u)) ?_
   obtain ⟨l3, hu1, hB1⟩ := M.bind_some hB1
   have hu1 := M.upd_some hu1
   have H6 : Hold h h4 [own cd24 a1 l1.length l1.length s1, own cd2 a2 l2.length l2.length l2] := H4.pk [1, 0]
   have H7 : Hold h h4 [own cd2 a2 l2.length l2.length l2, own cd24 a1 l1.length l1.length s1] := H6.pk [1, 0]
   have H8 : Hold h h4 [own cd24 a1 l1.length l1.length s1, own cd2 a2 l2.length l2.length l2] := H7.pk [1, 0]
   refine Ze ?_
   refine E_putRow (t := 24) (j := i1) H8 (by kernel_rfl) (by kernel_rfl) hu1 (fun h5 H5 => ?_)
   refine Zx ?_
   refine Zk [1, 2, 7, 8, 13, 14] [(1, iV n_), (2, .func (.func 155) #[] #[]), (7, .slice a1 l1.length l1.length), (8, iV i1), (13, iV (l1.length : Int)), (14, iV i1)] ?_
   refine Zs ?_
   obtain ⟨x3, hx2, hB1⟩ := M.bind_some hB1
   obtain ⟨hx2l, hx2u, hx2⟩ := M.idx_some hx2
   have H9 := H5.toRows
   obtain ⟨a3, c1, H10⟩ := H9.pinRow hx2
   refine Zg 6 [(1, iV n_), (2, .func (.func 155) #[] #[]), (7, .slice a1 l1.length l1.length), (8, iV i1), (13, iV (l1.length : Int)), (14, iV i1), (26, iV (x3.length : Int)), (27, iV 0)] ?_ ?_
   ·refine Zb [.slice a1 l1.length l1.length, iV i1] 0 ?_
    refine Zy (.pointer (some (adr a1 (i1.toNat * 1)))) (Zi 22 24 1 (a1) (l1.length) (l1.length) .i64 (i1) Tryz.underlying22 ((H5.rd 0 rfl).cell hx2).1 hx2l (by rw [← (H5.len 0 rfl)]; exact hx2u)) ?_
    refine Zy (.slice a3 x3.length c1) (Zl 24 (adr a1 (i1.toNat * 1)) (.slice a3 x3.length c1) (H10.cellPin 0 rfl 0 rfl)) ?_
    refine Zb [iV (x3.length : Int), iV 0] 4 ?_
    exact Zd [1, 2, 7, 8, 13, 14, 26, 27]
   obtain ⟨x4, gx4, hB1⟩ := M.bind_some hB1
   obtain ⟨hloy2, hhiy2, gx4⟩ := M.for_start gx4
   refine Run_join (fun L' h' => L' = [(1, iV n_), (2, .func (.func 155) #[] #[]), (7, .slice a1 l1.length l1.length), (13, iV (l1.length : Int)), (14, iV i1)] ∧ Hold h h' [own cd24 a1 l1.length l1.length x4]) ?_ ?_
   ·rintro _ h7 ⟨rfl, H12⟩
    refine Run_blk ?_
    refine Zg 2 [(1, iV n_), (2, .func (.func 155) #[] #[]), (7, .slice a1 l1.length l1.length), (13, iV (l1.length : Int)), (14, iV (i1 + 1))] ?_ ?_
    ·refine Zy (iV (i1 + 1)) (Y_eq (v := iV (w64 (i1 + 1))) (Y_pure (fun w => by kernel_rfl)) (by rw [w64_eq _ (by omega)])) ?_
     refine Zb [iV (i1 + 1)] 1 ?_
     exact Zd [1, 2, 7, 13, 14]
    have hB1 := M.ret_some hB1
    have gx1 := hgoy1 _ hB1.symm
    exact Za [1, 2, 7, 13, 14] my1 ⟨i1 + 1, x4, by omega, gx1, rfl, H12⟩
   ·refine Run_block ?_
    have H19 := H10.ofRows
    refine Zk [1, 2, 7, 8, 13, 14, 26, 27] [(1, iV n_), (2, .func (.func 155) #[] #[]), (7, .slice a1 l1.length l1.length), (8, iV i1), (13, iV (l1.length : Int)), (14, iV i1), (26, iV (x3.length : Int)), (27, iV 0)] ?_
    refine Run_loop (fun m L' h' => ∃ (i2 : Int) (s2 : (List (List Int))), 0 ≤ i2 ∧ M.forN (x3.length : Int) _ _ n m i2 s2 = some x4 ∧ L' = [(1, iV n_), (2, .func (.func 155) #[] #[]), (7, .slice a1 l1.length l1.length), (8, iV i1), (13, iV (l1.length : Int)), (14, iV i1), (26, iV (x3.length : Int)), (27, iV i2)] ∧ Hold h h' [own cd24 a1 l1.length l1.length s2]) ((x3.length : Int) - 0 : Int).toNat ⟨0, l3, Int.le_refl _, gx4, rfl, H19⟩ ?_
    rintro my2 _ h6 ⟨i2, s2, hloy2', gx4, rfl, H11⟩
    refine Zs ?_
    refine Zq [.bool (decide (i2 < (x3.length : Int)))] [1, 2, 7, 8, 13, 14, 26, 27, 28] [(1, iV n_), (2, .func (.func 155) #[] #[]), (7, .slice a1 l1.length l1.length), (8, iV i1), (13, iV (l1.length : Int)), (14, iV i1), (26, iV (x3.length : Int)), (27, iV i2), (28, .bool (decide (i2 < (x3.length : Int))))] ?_
    refine Zs ?_
    refine Zc (decide (i2 < (x3.length : Int))) (fun hb2 => ?_) (fun hb2 => ?_)
    ·obtain ⟨my2, y2, rfl, hB2, hgoy2, houty2⟩ := M.for_go gx4 hb2
     have hlty2 := of_decide_eq_true hb2
     refine Run_skip ?_
     refine Zs ?_
     refine Run_block ?_
     refine Zs ?_
     refine Zq [iV i2, iV i2] [1, 2, 7, 8, 9, 13, 14, 26, 27] [(1, iV n_), (2, .func (.func 155) #[] #[]), (7, .slice a1 l1.length l1.length), (8, iV i1), (9, iV i2), (13, iV (l1.length : Int)), (14, iV i1), (26, iV (x3.length : Int)), (27, iV i2)] ?_
     obtain ⟨x5, hx3, hB2⟩ := M.bind_some hB2
     obtain ⟨hx3l, hx3u, hx3⟩ := M.idx_some hx3
     have H13 := H11.toRows
     obtain ⟨a4, c2, H14⟩ := H13.pinRow hx3
     obtain ⟨x6, hx4, hB2⟩ := M.bind_some hB2
     obtain ⟨x7, hx5, hB2⟩ := M.bind_some hB2
     obtain ⟨hx5l, hx5u, hx5⟩ := M.idx_some hx5
     refine Run_D (fun x => Hold h x [rowsP cd2 24 a1 l1.length l1.length s2 [(i1.toNat, a4, x5.length, c2, x5)]]) (fun x => Hold h x [rowsP cd2 24 a1 l1.length l1.length s2 [(i1.toNat, a4, x5.length, c2, x5)]]) mixed (by kernel_rfl) H14 Hold.stable (fun x Hy => (show Hold h x [rowsP cd2 24 a1 l1.length l1.length s2 [(i1.toNat, a4, x5.length, c2, x5)]] from Hy).pk [0]) ?_
     refine ZB 9 [.slice a1 l1.length l1.length, iV i1] 0 ?_
     refine ZY 8 2 (.pointer (some (adr a1 (i1.toNat * 1)))) (fun hx Hx => (YE.of (Zi 22 24 1 (a1) (l1.length) (l1.length) .i64 (i1) Tryz.underlying22 ((H11.rd 0 rfl).cell hx3).1 hx3l (by rw [← (H11.len 0 rfl)]; exact hx3u)))) ?_
     refine ZY 7 3 (.slice a4 x5.length c2) (fun hx Hx => (YE.of (Zl 24 (adr a1 (i1.toNat * 1)) (.slice a4 x5.length c2) (Hx.cellPin 0 rfl 0 rfl)))) ?_
     refine ZB 3 [iV i2, .func (.func 155) #[] #[], iV i1, iV i2] 4 ?_
     refine ZY 2 8 (iV x6) (fun hx Hx => (YE.of (ZQ 155 #[iV i1, iV i2] (w_impl_unitMatrix_1 hx i1 i2 _ _ hx4)))) ?_
     refine ZY 1 9 (.pointer (some (adr a4 (i2.toNat * 1)))) (fun hx Hx => (YE.of (Zi 24 2 1 (a4) (x5.length) (c2) .i64 (i2) Tryz.underlying24 ((H14.rdPin 0 rfl 0 rfl).cell hx5).1 hx5l hx5u))) ?_
     refine ZT 10 (fun h8 H15 => ?_)
     have H16 : Hold h h8 [rowsP cd2 24 a1 l1.length l1.length s2 [(i1.toNat, a4, x5.length, c2, x5)]] := H15
     obtain ⟨l4, hu2, hB2⟩ := M.bind_some hB2
     have hu2 := M.upd_some hu2
     refine Ze ?_
     refine E_put2 (C := cd2) (t := 2) (sz := 1) (j := i2) (x := x6) (v := iV x6) (m2 := s2.set i1.toNat l4) H16 cd2_flat 0 rfl (by kernel_rfl) rfl (cd2_own _) (by kernel_rfl) hu2 rfl (fun h9 H17 => ?_)
     refine Zx ?_
     refine Zk [1, 2, 7, 8, 13, 14, 26, 27] [(1, iV n_), (2, .func (.func 155) #[] #[]), (7, .slice a1 l1.length l1.length), (8, iV i1), (13, iV (l1.length : Int)), (14, iV i1), (26, iV (x3.length : Int)), (27, iV i2)] ?_
     refine Run_blk ?_
     refine Zg 2 [(1, iV n_), (2, .func (.func 155) #[] #[]), (7, .slice a1 l1.length l1.length), (8, iV i1), (13, iV (l1.length : Int)), (14, iV i1), (26, iV (x3.length : Int)), (27, iV (i2 + 1))] ?_ ?_
     ·refine Zy (iV (i2 + 1)) (Y_eq (v := iV (w64 (i2 + 1))) (Y_pure (fun w => by kernel_rfl)) (by rw [w64_eq _ (by omega)])) ?_
      refine Zb [iV (i2 + 1)] 1 ?_
      exact Zd [1, 2, 7, 8, 13, 14, 26, 27]
     have H18 := H17.ofRows
     have hB2 := M.ret_some hB2
     have gx4 := hgoy2 _ hB2.symm
     exact Za [1, 2, 7, 8, 13, 14, 26, 27] my2 ⟨i2 + 1, (s2.set i1.toNat l4), by omega, gx4, rfl, H18⟩
    ·have gx4 := M.for_end gx4 hb2
     subst gx4
     refine Run_exit (k' := _) rfl ?_
     exact Zf [1, 2, 7, 13, 14] ⟨rfl, H11⟩
  ·have gx1 := M.for_end gx1 hb1
   subst gx1
   refine Run_exit (k' := _) rfl ?_
   exact Zf [7] ⟨rfl, H2⟩

theorem w_impl_unitMatrix (h : Heap) (n_ : Int) (n : Nat) (r : (List (List Int))) (hF : impl_unitMatrix n_ n = some r) :
  Fn Tryz.prog 136 #[iV n_] h fun v h' => ∃ (a0 : Option Addr) (c0 : Nat), v = .slice a0 r.length c0 ∧ Hold h h' [own cd24 a0 r.length c0 r] := by
 unfold impl_unitMatrix at hF
 refine Zo [iV n_] Tryz.func136 rfl (fun w0 _ => ?_)
 have H0 := Hold.init h
 refine Zs ?_
 refine Zq [.slice none 0 0] [0] [(0, iV n_)] ?_
 refine Zs ?_
 refine Run_ops ?_
 refine Zr [iV n_, iV n_] 0 ?_
 obtain ⟨x1, hx1, hF⟩ := M.bind_some hF
 refine Ze ?_
 refine ZC 109 #[iV n_, iV n_, .func (.func 155) #[] #[]] (w_impl_matrixBy_F_impl_unitMatrix_1 h n_ n_ _ _ hx1) (fun v1 h1 hp1 => ?_)
 obtain ⟨a1, c1, rfl, H1⟩ := hp1
 have H2 : Hold h h1 [own cd24 a1 x1.length c1 x1] := H0.call H1 rfl
 refine Zr [.slice a1 x1.length c1] 3 ?_
 refine Zx ?_
 refine Zk [2] [(2, .slice a1 x1.length c1)] ?_
 have hF := M.ret_some hF
 subst hF
 exact Run_ret1 rfl (Zt (.slice a1 x1.length c1)) ⟨a1, c1, rfl, H2⟩

theorem w_impl_addMatrices_1 (h : Heap) (i : Int) (j : Int) (z0 : List (List Int)) {Sz0 : Bs} (az0 : Option Addr) (cz0 : Nat) (rz0 : Rd cd24 h Sz0 az0 cz0 z0) (bz0 : Nat) (vz0 : VarAt h bz0 22 [.slice az0 z0.length cz0]) (z1 : List (List Int)) {Sz1 : Bs} (az1 : Option Addr) (cz1 : Nat) (rz1 : Rd cd24 h Sz1 az1 cz1 z1) (bz1 : Nat) (vz1 : VarAt h bz1 22 [.slice az1 z1.length cz1]) (n : Nat) (r : Int) (hF : impl_addMatrices_1 i j z0 z1 n = some r) :
  Fn Tryz.prog 154 #[iV i, iV j, pV bz0, pV bz1] h fun v h' => v = iV r ∧ h' = h := by
 unfold impl_addMatrices_1 at hF
 refine Zo [iV i, iV j, pV bz0, pV bz1] Tryz.func154 rfl (fun w0 _ => ?_)
 refine Zs ?_
 refine Zq [iV 0] [0, 1, 2, 3] [(0, iV i), (1, iV j), (2, pV bz0), (3, pV bz1)] ?_
 refine Zs ?_
 obtain ⟨x1, hx1, hF⟩ := M.bind_some hF
 obtain ⟨hx1l, hx1u, hx1⟩ := M.idx_some hx1
 obtain ⟨a1, c1, hc1, r1⟩ := rz0.row hx1
 obtain ⟨x2, hx2, hF⟩ := M.bind_some hF
 obtain ⟨hx2l, hx2u, hx2⟩ := M.idx_some hx2
 obtain ⟨x3, hx3, hF⟩ := M.bind_some hF
 obtain ⟨hx3l, hx3u, hx3⟩ := M.idx_some hx3
 obtain ⟨a2, c2, hc2, r2⟩ := rz1.row hx3
 obtain ⟨x4, hx4, hF⟩ := M.bind_some hF
 obtain ⟨hx4l, hx4u, hx4⟩ := M.idx_some hx4
 refine Run_draw 16 mixed (by kernel_rfl) (by kernel_rfl) (L' := [(6, iV (mx x2 x4))]) ?_ ?_
 ·refine Zy (.slice az0 z0.length cz0) (Zl 22 (⟨bz0, 0, none⟩) (.slice az0 z0.length cz0) (VarAt.cell vz0 rfl)) ?_
  refine Zb [iV i] 1 ?_
  refine Zy (.pointer (some (adr az0 (i.toNat * 1)))) (Zi 22 24 1 (az0) (z0.length) (cz0) .i64 (i) Tryz.underlying22 (rz0.cell hx1).1 hx1l hx1u) ?_
  refine Zy (.slice a1 x1.length c1) (Zl 24 (adr az0 (i.toNat * 1)) (.slice a1 x1.length c1) hc1) ?_
  refine Zb [iV j] 4 ?_
  refine Zy (.pointer (some (adr a1 (j.toNat * 1)))) (Zi 24 2 1 (a1) (x1.length) (c1) .i64 (j) Tryz.underlying24 (r1.cell hx2).1 hx2l hx2u) ?_
  refine Zy (iV x2) (Zl 2 (adr a1 (j.toNat * 1)) (iV x2) (cd2_cell r1 hx2)) ?_
  refine Zy (.slice az1 z1.length cz1) (Zl 22 (⟨bz1, 0, none⟩) (.slice az1 z1.length cz1) (VarAt.cell vz1 rfl)) ?_
  refine Zb [iV i] 8 ?_
  refine Zy (.pointer (some (adr az1 (i.toNat * 1)))) (Zi 22 24 1 (az1) (z1.length) (cz1) .i64 (i) Tryz.underlying22 (rz1.cell hx3).1 hx3l hx3u) ?_
  refine Zy (.slice a2 x3.length c2) (Zl 24 (adr az1 (i.toNat * 1)) (.slice a2 x3.length c2) hc2) ?_
  refine Zb [iV j] 11 ?_
  refine Zy (.pointer (some (adr a2 (j.toNat * 1)))) (Zi 24 2 1 (a2) (x3.length) (c2) .i64 (j) Tryz.underlying24 (r2.cell hx4).1 hx4l hx4u) ?_
  refine Zy (iV x4) (Zl 2 (adr a2 (j.toNat * 1)) (iV x4) (cd2_cell r2 hx4)) ?_
  refine Zb [iV (mx x2 x4), iV (mx x2 x4)] 14 ?_
  exact Zd [6]
 have hF := M.ret_some hF
 subst hF
 exact Run_ret1 rfl (Zt (iV (mx x2 x4))) ⟨rfl, rfl⟩

theorem w_impl_matrixBy_F_impl_addMatrices_1 (h : Heap) (m_ : Int) (n_ : Int) (entry0 : List (List Int)) (aentry0 : Option Addr) (centry0 : Nat) (rentry0 : Rd cd24 h (Lt h) aentry0 centry0 entry0) (bentry0 : Nat) (ventry0 : VarAt h bentry0 22 [.slice aentry0 entry0.length centry0]) (entry1 : List (List Int)) (aentry1 : Option Addr) (centry1 : Nat) (rentry1 : Rd cd24 h (Lt h) aentry1 centry1 entry1) (bentry1 : Nat) (ventry1 : VarAt h bentry1 22 [.slice aentry1 entry1.length centry1]) (n : Nat) (r : (List (List Int))) (hF : impl_matrixBy_F_impl_addMatrices_1 m_ n_ entry0 entry1 n = some r) :
  Fn Tryz.prog 109 #[iV m_, iV n_, .func (.func 154) #[] #[pV bentry0, pV bentry1]] h fun v h' => ∃ (a0 : Option Addr) (c0 : Nat), v = .slice a0 r.length c0 ∧ Hold h h' [own cd24 a0 r.length c0 r] := by
 unfold impl_matrixBy_F_impl_addMatrices_1 at hF
 refine Zo [iV m_, iV n_, .func (.func 154) #[] #[pV bentry0, pV bentry1]] Tryz.func109 rfl (fun w0 _ => ?_)
 have H0 := Hold.init h
 refine Zs ?_
 refine Zq [.slice none 0 0] [0, 1, 2] [(0, iV m_), (1, iV n_), (2, .func (.func 154) #[] #[pV bentry0, pV bentry1])] ?_
 refine Zs ?_
 refine Run_ops ?_
 refine Zr [iV m_] 0 ?_
 obtain ⟨l1, hl1, hF⟩ := M.bind_some hF
 have hl1 := M.make_some hl1
 refine Ze ?_
 refine E_make cd24 [] (kl := .i64) (kc := .i64) H0 cd24_ti Tryz.underlying22 (by decide) cd24_zero (by kernel_rfl) hl1 (fun a1 h1 H1 => ?_)
 refine Zr [.slice a1 l1.length l1.length] 2 ?_
 refine Zx ?_
 refine Zk [1, 2, 7] [(1, iV n_), (2, .func (.func 154) #[] #[pV bentry0, pV bentry1]), (7, .slice a1 l1.length l1.length)] ?_
 refine Zs ?_
 refine Zs ?_
 refine Zq [.slice a1 l1.length l1.length, iV (l1.length : Int), iV 0] [1, 2, 7, 13, 14] [(1, iV n_), (2, .func (.func 154) #[] #[pV bentry0, pV bentry1]), (7, .slice a1 l1.length l1.length), (13, iV (l1.length : Int)), (14, iV 0)] ?_
 obtain ⟨x1, gx1, hF⟩ := M.bind_some hF
 obtain ⟨hloy1, hhiy1, gx1⟩ := M.for_start gx1
 refine Run_join (fun L' h' => L' = [(7, .slice a1 l1.length l1.length)] ∧ Hold h h' [own cd24 a1 l1.length l1.length x1]) ?_ ?_
 ·rintro _ h3 ⟨rfl, H3⟩
  refine Zs ?_
  refine Zq [.slice a1 l1.length l1.length, .slice a1 l1.length l1.length] [6] [(6, .slice a1 l1.length l1.length)] ?_
  have hF := M.ret_some hF
  subst hF
  have H20 := H3.norm
  exact Run_ret1 rfl (Zt (.slice a1 l1.length l1.length)) ⟨a1, l1.length, (by simp only [(H3.len 0 rfl)]), H20⟩
 ·refine Run_block ?_
  refine Zk [1, 2, 7, 13, 14] [(1, iV n_), (2, .func (.func 154) #[] #[pV bentry0, pV bentry1]), (7, .slice a1 l1.length l1.length), (13, iV (l1.length : Int)), (14, iV 0)] ?_
  refine Run_loop (fun m L' h' => ∃ (i1 : Int) (s1 : (List (List Int))), 0 ≤ i1 ∧ M.forN (l1.length : Int) _ _ n m i1 s1 = some x1 ∧ L' = [(1, iV n_), (2, .func (.func 154) #[] #[pV bentry0, pV bentry1]), (7, .slice a1 l1.length l1.length), (13, iV (l1.length : Int)), (14, iV i1)] ∧ Hold h h' [own cd24 a1 l1.length l1.length s1]) ((l1.length : Int) - 0 : Int).toNat ⟨0, l1, Int.le_refl _, gx1, rfl, H1⟩ ?_
  rintro my1 _ h2 ⟨i1, s1, hloy1', gx1, rfl, H2⟩
  refine Zs ?_
  refine Zq [.bool (decide (i1 < (l1.length : Int)))] [1, 2, 7, 13, 14, 15] [(1, iV n_), (2, .func (.func 154) #[] #[pV bentry0, pV bentry1]), (7, .slice a1 l1.length l1.length), (13, iV (l1.length : Int)), (14, iV i1), (15, .bool (decide (i1 < (l1.length : Int))))] ?_
  refine Zs ?_
  refine Zc (decide (i1 < (l1.length : Int))) (fun hb1 => ?_) (fun hb1 => ?_)
  ·obtain ⟨my1, y1, rfl, hB1, hgoy1, houty1⟩ := M.for_go gx1 hb1
   have hlty1 := of_decide_eq_true hb1
   refine Run_skip ?_
   refine Zs ?_
   refine Run_block ?_
   refine Zs ?_
   refine Zq [iV i1, iV i1] [1, 2, 7, 8, 13, 14] [(1, iV n_), (2, .func (.func 154) #[] #[pV bentry0, pV bentry1]), (7, .slice a1 l1.length l1.length), (8, iV i1), (13, iV (l1.length : Int)), (14, iV i1)] ?_
   refine Zs ?_
   refine Run_ops ?_
   refine Zr [.slice a1 l1.length l1.length, iV i1, iV n_] 0 ?_
   obtain ⟨l2, hl2, hB1⟩ := M.bind_some hB1
   have hl2 := M.make_some hl2
   refine Ze ?_
   refine E_make cd2 0 (kl := .i64) (kc := .i64) H2 cd2_ti Tryz.underlying24 (by decide) cd2_zero (by kernel_rfl) hl2 (fun a2 h4 H4 => ?_)
   obtain ⟨x2, hx1, hB1⟩ := M.bind_some hB1
   obtain ⟨hx1l, hx1u, hx1⟩ := M.idx_some hx1
   refine Zz (.pointer (some (adr a1 (i1.toNat * 1)))) (Zi 22 24 1 (a1) (l1.length) (l1.length) .i64 (i1) Tryz.underlying22 ((H4.rd 1 rfl).cell hx1).1 hx1l (by rw [← (H4.len 1 rfl)]; exact hx1u)) ?_
   obtain ⟨l3, hu1, hB1⟩ := M.bind_some hB1
   have hu1 := M.upd_some hu1
   have H6 : Hold h h4 [own cd24 a1 l1.length l1.length s1, own cd2 a2 l2.length l2.length l2] := H4.pk [1, 0]
   have H7 : Hold h h4 [own cd2 a2 l2.length l2.length l2, own cd24 a1 l1.length l1.length s1] := H6.pk [1, 0]
   have H8 : Hold h h4 [own cd24 a1 l1.length l1.length s1, own cd2 a2 l2.length l2.length l2] := H7.pk [1, 0]
   refine Ze ?_
   refine E_putRow (t := 24) (j := i1) H8 (by kernel_rfl) (by kernel_rfl) hu1 (fun h5 H5 => ?_)
   refine Zx ?_
   refine Zk [1, 2, 7, 8, 13, 14] [(1, iV n_), (2, .func (.func 154) #[] #[pV bentry0, pV bentry1]), (7, .slice a1 l1.length l1.length), (8, iV i1), (13, iV (l1.length : Int)), (14, iV i1)] ?_
   refine Zs ?_
   obtain ⟨x3, hx2, hB1⟩ := M.bind_some hB1
   obtain ⟨hx2l, hx2u, hx2⟩ := M.idx_some hx2
   have H9 := H5.toRows
   obtain ⟨a3, c1, H10⟩ := H9.pinRow hx2
   refine Zg 6 [(1, iV n_), (2, .func (.func 154) #[] #[pV bentry0, pV bentry1]), (7, .slice a1 l1.length l1.length), (8, iV i1), (13, iV (l1.length : Int)), (14, iV i1), (26, iV (x3.length : Int)), (27, iV 0)] ?_ ?_
   ·refine Zb [.slice a1 l1.length l1.length, iV i1] 0 ?_
    refine Zy (.pointer (some (adr a1 (i1.toNat * 1)))) (Zi 22 24 1 (a1) (l1.length) (l1.length) .i64 (i1) Tryz.underlying22 ((H5.rd 0 rfl).cell hx2).1 hx2l (by rw [← (H5.len 0 rfl)]; exact hx2u)) ?_
    refine Zy (.slice a3 x3.length c1) (Zl 24 (adr a1 (i1.toNat * 1)) (.slice a3 x3.length c1) (H10.cellPin 0 rfl 0 rfl)) ?_
    refine Zb [iV (x3.length : Int), iV 0] 4 ?_
    exact Zd [1, 2, 7, 8, 13, 14, 26, 27]
   obtain ⟨x4, gx4, hB1⟩ := M.bind_some hB1
   obtain ⟨hloy2, hhiy2, gx4⟩ := M.for_start gx4
   refine Run_join (fun L' h' => L' = [(1, iV n_), (2, .func (.func 154) #[] #[pV bentry0, pV bentry1]), (7, .slice a1 l1.length l1.length), (13, iV (l1.length : Int)), (14, iV i1)] ∧ Hold h h' [own cd24 a1 l1.length l1.length x4]) ?_ ?_
   ·rintro _ h7 ⟨rfl, H12⟩
    refine Run_blk ?_
    refine Zg 2 [(1, iV n_), (2, .func (.func 154) #[] #[pV bentry0, pV bentry1]), (7, .slice a1 l1.length l1.length), (13, iV (l1.length : Int)), (14, iV (i1 + 1))] ?_ ?_
    ·refine Zy (iV (i1 + 1)) (Y_eq (v := iV (w64 (i1 + 1))) (Y_pure (fun w => by kernel_rfl)) (by rw [w64_eq _ (by omega)])) ?_
     refine Zb [iV (i1 + 1)] 1 ?_
     exact Zd [1, 2, 7, 13, 14]
    have hB1 := M.ret_some hB1
    have gx1 := hgoy1 _ hB1.symm
    exact Za [1, 2, 7, 13, 14] my1 ⟨i1 + 1, x4, by omega, gx1, rfl, H12⟩
   ·refine Run_block ?_
    have H19 := H10.ofRows
    refine Zk [1, 2, 7, 8, 13, 14, 26, 27] [(1, iV n_), (2, .func (.func 154) #[] #[pV bentry0, pV bentry1]), (7, .slice a1 l1.length l1.length), (8, iV i1), (13, iV (l1.length : Int)), (14, iV i1), (26, iV (x3.length : Int)), (27, iV 0)] ?_
    refine Run_loop (fun m L' h' => ∃ (i2 : Int) (s2 : (List (List Int))), 0 ≤ i2 ∧ M.forN (x3.length : Int) _ _ n m i2 s2 = some x4 ∧ L' = [(1, iV n_), (2, .func (.func 154) #[] #[pV bentry0, pV bentry1]), (7, .slice a1 l1.length l1.length), (8, iV i1), (13, iV (l1.length : Int)), (14, iV i1), (26, iV (x3.length : Int)), (27, iV i2)] ∧ Hold h h' [own cd24 a1 l1.length l1.length s2]) ((x3.length : Int) - 0 : Int).toNat ⟨0, l3, Int.le_refl _, gx4, rfl, H19⟩ ?_
    rintro my2 _ h6 ⟨i2, s2, hloy2', gx4, rfl, H11⟩
    refine Zs ?_
    refine Zq [.bool (decide (i2 < (x3.length : Int)))] [1, 2, 7, 8, 13, 14, 26, 27, 28] [(1, iV n_), (2, .func (.func 154) #[] #[pV bentry0, pV bentry1]), (7, .slice a1 l1.length l1.length), (8, iV i1), (13, iV (l1.length : Int)), (14, iV i1), (26, iV (x3.length : Int)), (27, iV i2), (28, .bool (decide (i2 < (x3.length : Int))))] ?_
    refine Zs ?_
    refine Zc (decide (i2 < (x3.length : Int))) (fun hb2 => ?_) (fun hb2 => ?_)
    ·obtain ⟨my2, y2, rfl, hB2, hgoy2, houty2⟩ := M.for_go gx4 hb2
     have hlty2 := of_decide_eq_true hb2
     refine Run_skip ?_
     refine Zs ?_
     refine Run_block ?_
     refine Zs ?_
     refine Zq [iV i2, iV i2] [1, 2, 7, 8, 9, 13, 14, 26, 27] [(1, iV n_), (2, .func (.func 154) #[] #[pV bentry0, pV bentry1]), (7, .slice a1 l1.length l1.length), (8, iV i1), (9, iV i2), (13, iV (l1.length : Int)), (14, iV i1), (26, iV (x3.length : Int)), (27, iV i2)] ?_
     obtain ⟨x5, hx3, hB2⟩ := M.bind_some hB2
     obtain ⟨hx3l, hx3u, hx3⟩ := M.idx_some hx3
     have H13 := H11.toRows
     obtain ⟨a4, c2, H14⟩ := H13.pinRow hx3
     obtain ⟨x6, hx4, hB2⟩ := M.bind_some hB2
     obtain ⟨x7, hx5, hB2⟩ := M.bind_some hB2
     obtain ⟨hx5l, hx5u, hx5⟩ := M.idx_some hx5
     refine Run_D (fun x => Hold h x [rowsP cd2 24 a1 l1.length l1.length s2 [(i1.toNat, a4, x5.length, c2, x5)]]) (fun x => Hold h x [rowsP cd2 24 a1 l1.length l1.length s2 [(i1.toNat, a4, x5.length, c2, x5)]]) mixed (by kernel_rfl) H14 Hold.stable (fun x Hy => (show Hold h x [rowsP cd2 24 a1 l1.length l1.length s2 [(i1.toNat, a4, x5.length, c2, x5)]] from Hy).pk [0]) ?_
     refine ZB 9 [.slice a1 l1.length l1.length, iV i1] 0 ?_
     refine ZY 8 2 (.pointer (some (adr a1 (i1.toNat * 1)))) (fun hx Hx => (YE.of (Zi 22 24 1 (a1) (l1.length) (l1.length) .i64 (i1) Tryz.underlying22 ((H11.rd 0 rfl).cell hx3).1 hx3l (by rw [← (H11.len 0 rfl)]; exact hx3u)))) ?_
     refine ZY 7 3 (.slice a4 x5.length c2) (fun hx Hx => (YE.of (Zl 24 (adr a1 (i1.toNat * 1)) (.slice a4 x5.length c2) (Hx.cellPin 0 rfl 0 rfl)))) ?_
     refine ZB 3 [iV i2, .func (.func 154) #[] #[pV bentry0, pV bentry1], iV i1, iV i2] 4 ?_
     refine ZY 2 8 (iV x6) (fun hx Hx => (YE.of (ZQ 154 #[iV i1, iV i2, pV bentry0, pV bentry1] (w_impl_addMatrices_1 hx i1 i2 entry0 aentry0 centry0 (rentry0.at Hx.ext) bentry0 (ventry0.at Hx.ext) entry1 aentry1 centry1 (rentry1.at Hx.ext) bentry1 (ventry1.at Hx.ext) _ _ hx4)))) ?_
     refine ZY 1 9 (.pointer (some (adr a4 (i2.toNat * 1)))) (fun hx Hx => (YE.of (Zi 24 2 1 (a4) (x5.length) (c2) .i64 (i2) Tryz.underlying24 ((H14.rdPin 0 rfl 0 rfl).cell hx5).1 hx5l hx5u))) ?_
     refine ZT 10 (fun h8 H15 => ?_)
     have H16 : Hold h h8 [rowsP cd2 24 a1 l1.length l1.length s2 [(i1.toNat, a4, x5.length, c2, x5)]] := H15
     obtain ⟨l4, hu2, hB2⟩ := M.bind_some hB2
     have hu2 := M.upd_some hu2
     refine Ze ?_
     refine E_put2 (C := cd2) (t := 2) (sz := 1) (j := i2) (x := x6) (v := iV x6) (m2 := s2.set i1.toNat l4) H16 cd2_flat 0 rfl (by kernel_rfl) rfl (cd2_own _) (by kernel_rfl) hu2 rfl (fun h9 H17 => ?_)
     refine Zx ?_
     refine Zk [1, 2, 7, 8, 13, 14, 26, 27] [(1, iV n_), (2, .func (.func 154) #[] #[pV bentry0, pV bentry1]), (7, .slice a1 l1.length l1.length), (8, iV i1), (13, iV (l1.length : Int)), (14, iV i1), (26, iV (x3.length : Int)), (27, iV i2)] ?_
     refine Run_blk ?_
     refine Zg 2 [(1, iV n_), (2, .func (.func 154) #[] #[pV bentry0, pV bentry1]), (7, .slice a1 l1.length l1.length), (8, iV i1), (13, iV (l1.length : Int)), (14, iV i1), (26, iV (x3.length : Int)), (27, iV (i2 + 1))] ?_ ?_
     ·refine Zy (iV (i2 + 1)) (Y_eq (v := iV (w64 (i2 + 1))) (Y_pure (fun w => by kernel_rfl)) (by rw [w64_eq _ (by omega)])) ?_
      refine Zb [iV (i2 + 1)] 1 ?_
      exact Zd [1, 2, 7, 8, 13, 14, 26, 27]
     have H18 := H17.ofRows
     have hB2 := M.ret_some hB2
     have gx4 := hgoy2 _ hB2.symm
     exact Za [1, 2, 7, 8, 13, 14, 26, 27] my2 ⟨i2 + 1, (s2.set i1.toNat l4), by omega, gx4, rfl, H18⟩
    ·have gx4 := M.for_end gx4 hb2
     subst gx4
     refine Run_exit (k' := _) rfl ?_
     exact Zf [1, 2, 7, 13, 14] ⟨rfl, H11⟩
  ·have gx1 := M.for_end gx1 hb1
   subst gx1
   refine Run_exit (k' := _) rfl ?_
   exact Zf [7] ⟨rfl, H2⟩

theorem w_impl_addMatrices (h : Heap) (a_ : List (List Int)) (aa_ : Option Addr) (ca_ : Nat) (ra_ : Rd cd24 h (Lt h) aa_ ca_ a_) (b : List (List Int)) (ab : Option Addr) (cb : Nat) (rb : Rd cd24 h (Lt h) ab cb b) (n : Nat) (r : (List (List Int))) (hF : impl_addMatrices a_ b n = some r) :
  Fn Tryz.prog 135 #[.slice aa_ a_.length ca_, .slice ab b.length cb] h fun v h' => ∃ (a0 : Option Addr) (c0 : Nat), v = .slice a0 r.length c0 ∧ Hold h h' [own cd24 a0 r.length c0 r] := by
 unfold impl_addMatrices at hF
 refine Zo [.slice aa_ a_.length ca_, .slice ab b.length cb] Tryz.func135 rfl (fun w0 _ => ?_)
 have H0 := Hold.init h
 refine Zs ?_
 refine Run_ops ?_
 refine Ze ?_
 refine E_box (ty := 22) (cs := [.slice aa_ a_.length ca_]) H0 (fun w => by kernel_rfl) (fun b1 h1 H1 => ?_)
 refine Ze ?_
 refine E_box (ty := 22) (cs := [.slice ab b.length cb]) H1 (fun w => by kernel_rfl) (fun b2 h2 H2 => ?_)
 refine Zr [.slice none 0 0] 2 ?_
 refine Zx ?_
 refine Zk [2, 3] [(2, pV b1), (3, pV b2)] ?_
 refine Zs ?_
 obtain ⟨x1, hx1, hF⟩ := M.bind_some hF
 obtain ⟨hx1l, hx1u, hx1⟩ := M.idx_some hx1
 obtain ⟨a1, c1, hc1, r1⟩ := ra_.row hx1
 refine Run_D (fun x => Hold h x [box b2 22 [.slice ab b.length cb], box b1 22 [.slice aa_ a_.length ca_]]) (fun x => Hold h x [box b2 22 [.slice ab b.length cb], box b1 22 [.slice aa_ a_.length ca_]]) mixed (by kernel_rfl) H2 Hold.stable (fun x Hy => (show Hold h x [box b2 22 [.slice ab b.length cb], box b1 22 [.slice aa_ a_.length ca_]] from Hy).pk [0, 1]) ?_
 refine ZY 8 0 (.slice aa_ a_.length ca_) (fun hx Hx => (YE.of (Zl 22 (⟨b1, 0, none⟩) (.slice aa_ a_.length ca_) (Hx.cell 1 rfl rfl)))) ?_
 refine ZB 7 [iV (a_.length : Int)] 1 ?_
 refine ZY 6 2 (.slice aa_ a_.length ca_) (fun hx Hx => (YE.of (Zl 22 (⟨b1, 0, none⟩) (.slice aa_ a_.length ca_) (Hx.cell 1 rfl rfl)))) ?_
 refine ZY 5 3 (.pointer (some (adr aa_ (0 * 1)))) (fun hx Hx => (YE.of (Zi 22 24 1 (aa_) (a_.length) (ca_) .i64 (0) Tryz.underlying22 ((ra_.at H2.ext).cell hx1).1 hx1l hx1u))) ?_
 refine ZY 4 4 (.slice a1 x1.length c1) (fun hx Hx => (YE.of (Zl 24 (adr aa_ (0 * 1)) (.slice a1 x1.length c1) (cell_at Hx.ext hc1)))) ?_
 refine ZB 2 [iV (x1.length : Int), .func (.func 154) #[] #[pV b1, pV b2]] 5 ?_
 refine ZT 7 (fun h3 H3 => ?_)
 have H4 : Hold h h3 [box b2 22 [.slice ab b.length cb], box b1 22 [.slice aa_ a_.length ca_]] := H3
 obtain ⟨x2, hx2, hF⟩ := M.bind_some hF
 refine Ze ?_
 refine ZC 109 #[iV (a_.length : Int), iV (x1.length : Int), .func (.func 154) #[] #[pV b1, pV b2]] (w_impl_matrixBy_F_impl_addMatrices_1 h3 (a_.length : Int) (x1.length : Int) a_ aa_ ca_ (ra_.at H4.ext) b1 (H4.var 1 rfl) b ab cb (rb.at H4.ext) b2 (H4.var 0 rfl) _ _ hx2) (fun v1 h4 hp1 => ?_)
 obtain ⟨a2, c2, rfl, H5⟩ := hp1
 have H6 : Hold h h4 [own cd24 a2 x2.length c2 x2, box b2 22 [.slice ab b.length cb], box b1 22 [.slice aa_ a_.length ca_]] := H4.call H5 rfl
 refine Zr [.slice a2 x2.length c2] 8 ?_
 refine Zx ?_
 refine Zk [4] [(4, .slice a2 x2.length c2)] ?_
 have hF := M.ret_some hF
 subst hF
 have H7 : Hold h h4 [own cd24 a2 x2.length c2 x2] := H6.pk [0]
 exact Run_ret1 rfl (Zt (.slice a2 x2.length c2)) ⟨a2, c2, rfl, H7⟩

theorem w_impl_starOf (h : Heap) (a_ : List (List Int)) (aa_ : Option Addr) (ca_ : Nat) (ra_ : Rd cd24 h (Lt h) aa_ ca_ a_) (n : Nat) (r : (List (List Int)) × Bool) (hF : impl_starOf a_ n = some r) :
  Fn Tryz.prog 93 #[.slice aa_ a_.length ca_] h fun v h' => ∃ (a0 : Option Addr) (c0 : Nat), v = .tuple #[.slice a0 r.1.length c0, .bool r.2] ∧ Hold h h' [own cd24 a0 r.1.length c0 r.1] := by
 unfold impl_starOf at hF
 refine Zo [.slice aa_ a_.length ca_] Tryz.func93 rfl (fun w0 _ => ?_)
 have H0 := Hold.init h
 refine Zs ?_
 refine Zq [.slice none 0 0, .bool false] [0] [(0, .slice aa_ a_.length ca_)] ?_
 refine Zs ?_
 refine Run_ops ?_
 refine Zr [.slice aa_ a_.length ca_, .slice aa_ a_.length ca_, iV (a_.length : Int)] 0 ?_
 obtain ⟨x1, hx1, hF⟩ := M.bind_some hF
 refine Ze ?_
 refine ZC 136 #[iV (a_.length : Int)] (w_impl_unitMatrix h (a_.length : Int) _ _ hx1) (fun v1 h1 hp1 => ?_)
 obtain ⟨a1, c1, rfl, H1⟩ := hp1
 have H2 : Hold h h1 [own cd24 a1 x1.length c1 x1] := H0.call H1 rfl
 obtain ⟨x2, hx2, hF⟩ := M.bind_some hF
 refine Ze ?_
 refine ZC 135 #[.slice aa_ a_.length ca_, .slice a1 x1.length c1] (w_impl_addMatrices h1 a_ aa_ ca_ (ra_.at H2.ext) x1 a1 c1 (H2.rd 0 rfl) _ _ hx2) (fun v2 h2 hp2 => ?_)
 obtain ⟨a2, c2, rfl, H3⟩ := hp2
 have H4 : Hold h h2 [own cd24 a2 x2.length c2 x2, own cd24 a1 x1.length c1 x1] := H2.call H3 rfl
 refine Zr [.slice a2 x2.length c2] 5 ?_
 refine Zx ?_
 refine Zk [4] [(4, .slice a2 x2.length c2)] ?_
 refine Zs ?_
 refine Zs ?_
 refine Zq [.slice a2 x2.length c2, iV (x2.length : Int), iV 0] [4, 15, 16] [(4, .slice a2 x2.length c2), (15, iV (x2.length : Int)), (16, iV 0)] ?_
 obtain ⟨x3, gx3, hF⟩ := M.bind_some hF
 obtain ⟨hloy1, hhiy1, gx3⟩ := M.for_start gx3
 refine Run_join (fun L' h' => ∃ (s2 : (List (List Int))), x3 = .inl s2 ∧ L' = [(4, .slice a2 x2.length c2)] ∧ Hold h h' [own cd24 a2 x2.length c2 s2]) ?_ ?_
 ·rintro _ h4 ⟨s2, es2, rfl, H6⟩
  have hF := M.cont_inl' hF es2
  refine Zs ?_
  refine Zs ?_
  refine Zq [.slice a2 x2.length c2, iV (x2.length : Int), iV 0] [4, 70, 71] [(4, .slice a2 x2.length c2), (70, iV (x2.length : Int)), (71, iV 0)] ?_
  obtain ⟨x17, gx17, hF⟩ := M.bind_some hF
  obtain ⟨hloy4, hhiy4, gx17⟩ := M.for_start gx17
  refine Run_join (fun L' h' => ∃ (s6 : Unit), x17 = .inl s6 ∧ L' = [(4, .slice a2 x2.length c2)] ∧ Hold h h' [own cd24 a2 x2.length c2 s2]) ?_ ?_
  ·rintro _ h12 ⟨s6, es6, rfl, H26⟩
   have hF := M.cont_inl' hF es6
   refine Zs ?_
   refine Zq [.slice a2 x2.length c2, .slice a2 x2.length c2, .bool true] [2, 3] [(2, .slice a2 x2.length c2), (3, .bool true)] ?_
   have hF := M.ret_some hF
   subst hF
   have H32 := H26.norm
   exact Run_ret2 rfl (Zt (.slice a2 x2.length c2)) (Zt (.bool true)) ⟨a2, c2, (by simp only [(H26.len 0 rfl)]), H32⟩
  ·refine Run_block ?_
   refine Zk [4, 70, 71] [(4, .slice a2 x2.length c2), (70, iV (x2.length : Int)), (71, iV 0)] ?_
   refine Run_loop (fun m L' h' => ∃ (i4 : Int) (s5 : Unit), 0 ≤ i4 ∧ M.forN (x2.length : Int) _ _ n m i4 s5 = some x17 ∧ L' = [(4, .slice a2 x2.length c2), (70, iV (x2.length : Int)), (71, iV i4)] ∧ Hold h h' [own cd24 a2 x2.length c2 s2]) ((x2.length : Int) - 0 : Int).toNat ⟨0, (), Int.le_refl _, gx17, rfl, H6⟩ ?_
   rintro my4 _ h11 ⟨i4, s5, hloy4', gx17, rfl, H25⟩
   refine Zs ?_
   refine Zq [.bool (decide (i4 < (x2.length : Int)))] [4, 70, 71, 72] [(4, .slice a2 x2.length c2), (70, iV (x2.length : Int)), (71, iV i4), (72, .bool (decide (i4 < (x2.length : Int))))] ?_
   refine Zs ?_
   refine Zc (decide (i4 < (x2.length : Int))) (fun hb5 => ?_) (fun hb5 => ?_)
   ·obtain ⟨my4, y4, rfl, hB4, hgoy4, houty4⟩ := M.for_go gx17 hb5
    have hlty4 := of_decide_eq_true hb5
    refine Run_skip ?_
    refine Zs ?_
    refine Run_block ?_
    refine Zs ?_
    refine Zq [iV i4, iV i4] [4, 8, 70, 71] [(4, .slice a2 x2.length c2), (8, iV i4), (70, iV (x2.length : Int)), (71, iV i4)] ?_
    refine Zs ?_
    obtain ⟨x18, hx14, hB4⟩ := M.bind_some hB4
    obtain ⟨hx14l, hx14u, hx14⟩ := M.idx_some hx14
    have H27 := H25.toRows
    obtain ⟨a8, c8, H28⟩ := H27.pinRow hx14
    obtain ⟨x19, hx15, hB4⟩ := M.bind_some hB4
    obtain ⟨hx15l, hx15u, hx15⟩ := M.idx_some hx15
    refine Zg 8 [(4, .slice a2 x2.length c2), (70, iV (x2.length : Int)), (71, iV i4), (81, .bool (decide (0 < x19)))] ?_ ?_
    ·refine Zb [.slice a2 x2.length c2, iV i4] 0 ?_
     refine Zy (.pointer (some (adr a2 (i4.toNat * 1)))) (Zi 22 24 1 (a2) (x2.length) (c2) .i64 (i4) Tryz.underlying22 ((H25.rd 0 rfl).cell hx14).1 hx14l (by rw [← (H25.len 0 rfl)]; exact hx14u)) ?_
     refine Zy (.slice a8 x18.length c8) (Zl 24 (adr a2 (i4.toNat * 1)) (.slice a8 x18.length c8) (H28.cellPin 0 rfl 0 rfl)) ?_
     refine Zb [iV i4] 4 ?_
     refine Zy (.pointer (some (adr a8 (i4.toNat * 1)))) (Zi 24 2 1 (a8) (x18.length) (c8) .i64 (i4) Tryz.underlying24 ((H28.rdPin 0 rfl 0 rfl).cell hx15).1 hx15l hx15u) ?_
     refine Zy (iV x19) (Zl 2 (adr a8 (i4.toNat * 1)) (iV x19) (cd2_cell (H28.rdPin 0 rfl 0 rfl) hx15)) ?_
     refine Zb [.bool (decide (0 < x19))] 7 ?_
     exact Zd [4, 70, 71, 81]
    refine Zc (decide (0 < x19)) (fun hb6 => ?_) (fun hb6 => ?_)
    ·have hB4 := (M.ite_some hB4).1 hb6
     refine Zs ?_
     refine Zq [.slice none 0 0, .bool false] [2, 3] [(2, .slice none 0 0), (3, .bool false)] ?_
     have hB4 := M.ret_some hB4
     have gx17 := houty4 _ hB4.symm
     have hF := M.cont_inr' hF gx17
     have hF := M.ret_some hF
     subst hF
     have H29 := H28.empty cd24
     have H30 : Hold h h11 [own cd24 none 0 0 []] := H29.pk [0]
     exact Run_ret2 rfl (Zt (.slice none 0 0)) (Zt (.bool false)) ⟨none, 0, rfl, H30⟩
    ·have hB4 := (M.ite_some hB4).2 hb6
     refine Run_skip ?_
     refine Run_blk ?_
     refine Zg 2 [(4, .slice a2 x2.length c2), (70, iV (x2.length : Int)), (71, iV (i4 + 1))] ?_ ?_
     ·refine Zy (iV (i4 + 1)) (Y_eq (v := iV (w64 (i4 + 1))) (Y_pure (fun w => by kernel_rfl)) (by rw [w64_eq _ (by omega)])) ?_
      refine Zb [iV (i4 + 1)] 1 ?_
      exact Zd [4, 70, 71]
     have H31 := H28.ofRows
     have hB4 := M.ret_some hB4
     have gx17 := hgoy4 _ hB4.symm
     exact Za [4, 70, 71] my4 ⟨i4 + 1, (), by omega, gx17, rfl, H31⟩
   ·have gx17 := M.for_end gx17 hb5
    subst gx17
    refine Run_exit (k' := _) rfl ?_
    exact Zf [4] ⟨(), rfl, rfl, H25⟩
 ·refine Run_block ?_
  have H33 : Hold h h2 [own cd24 a2 x2.length c2 x2] := H4.pk [0]
  refine Zk [4, 15, 16] [(4, .slice a2 x2.length c2), (15, iV (x2.length : Int)), (16, iV 0)] ?_
  refine Run_loop (fun m L' h' => ∃ (i1 : Int) (s1 : (List (List Int))), 0 ≤ i1 ∧ M.forN (x2.length : Int) _ _ n m i1 s1 = some x3 ∧ L' = [(4, .slice a2 x2.length c2), (15, iV (x2.length : Int)), (16, iV i1)] ∧ Hold h h' [own cd24 a2 x2.length c2 s1]) ((x2.length : Int) - 0 : Int).toNat ⟨0, x2, Int.le_refl _, gx3, rfl, H33⟩ ?_
  rintro my1 _ h3 ⟨i1, s1, hloy1', gx3, rfl, H5⟩
  refine Zs ?_
  refine Zq [.bool (decide (i1 < (x2.length : Int)))] [4, 15, 16, 17] [(4, .slice a2 x2.length c2), (15, iV (x2.length : Int)), (16, iV i1), (17, .bool (decide (i1 < (x2.length : Int))))] ?_
  refine Zs ?_
  refine Zc (decide (i1 < (x2.length : Int))) (fun hb1 => ?_) (fun hb1 => ?_)
  ·obtain ⟨my1, y1, rfl, hB1, hgoy1, houty1⟩ := M.for_go gx3 hb1
   have hlty1 := of_decide_eq_true hb1
   refine Run_skip ?_
   refine Zs ?_
   refine Run_block ?_
   refine Zs ?_
   refine Zq [iV i1, iV i1] [4, 5, 15, 16] [(4, .slice a2 x2.length c2), (5, iV i1), (15, iV (x2.length : Int)), (16, iV i1)] ?_
   refine Zs ?_
   refine Zs ?_
   obtain ⟨x4, hx3, hB1⟩ := M.bind_some hB1
   obtain ⟨hx3l, hx3u, hx3⟩ := M.idx_some hx3
   have H7 := H5.toRows
   obtain ⟨a3, c3, H8⟩ := H7.pinRow hx3
   obtain ⟨x5, hx4, hB1⟩ := M.bind_some hB1
   obtain ⟨hx4l, hx4u, hx4⟩ := M.idx_some hx4
   refine Zg 8 [(4, .slice a2 x2.length c2), (5, iV i1), (15, iV (x2.length : Int)), (16, iV i1), (26, .bool (decide (0 < x5)))] ?_ ?_
   ·refine Zb [.slice a2 x2.length c2, iV i1] 0 ?_
    refine Zy (.pointer (some (adr a2 (i1.toNat * 1)))) (Zi 22 24 1 (a2) (x2.length) (c2) .i64 (i1) Tryz.underlying22 ((H5.rd 0 rfl).cell hx3).1 hx3l (by rw [← (H5.len 0 rfl)]; exact hx3u)) ?_
    refine Zy (.slice a3 x4.length c3) (Zl 24 (adr a2 (i1.toNat * 1)) (.slice a3 x4.length c3) (H8.cellPin 0 rfl 0 rfl)) ?_
    refine Zb [iV i1] 4 ?_
    refine Zy (.pointer (some (adr a3 (i1.toNat * 1)))) (Zi 24 2 1 (a3) (x4.length) (c3) .i64 (i1) Tryz.underlying24 ((H8.rdPin 0 rfl 0 rfl).cell hx4).1 hx4l hx4u) ?_
    refine Zy (iV x5) (Zl 2 (adr a3 (i1.toNat * 1)) (iV x5) (cd2_cell (H8.rdPin 0 rfl 0 rfl) hx4)) ?_
    refine Zb [.bool (decide (0 < x5))] 7 ?_
    exact Zd [4, 5, 15, 16, 26]
   refine Zc (decide (0 < x5)) (fun hb2 => ?_) (fun hb2 => ?_)
   ·have hB1 := (M.ite_some hB1).1 hb2
    refine Zs ?_
    refine Zq [.slice none 0 0, .bool false] [2, 3] [(2, .slice none 0 0), (3, .bool false)] ?_
    have hB1 := M.ret_some hB1
    have gx3 := houty1 _ hB1.symm
    have hF := M.cont_inr' hF gx3
    have hF := M.ret_some hF
    subst hF
    have H9 := H8.empty cd24
    have H10 : Hold h h3 [own cd24 none 0 0 []] := H9.pk [0]
    exact Run_ret2 rfl (Zt (.slice none 0 0)) (Zt (.bool false)) ⟨none, 0, rfl, H10⟩
   ·have hB1 := (M.ite_some hB1).2 hb2
    refine Run_skip ?_
    refine Zs ?_
    refine Zq [.slice a2 x2.length c2, iV (x2.length : Int), iV 0] [4, 5, 15, 16, 28, 29] [(4, .slice a2 x2.length c2), (5, iV i1), (15, iV (x2.length : Int)), (16, iV i1), (28, iV (x2.length : Int)), (29, iV 0)] ?_
    obtain ⟨x6, gx6, hB1⟩ := M.bind_some hB1
    obtain ⟨hloy2, hhiy2, gx6⟩ := M.for_start gx6
    refine Run_join (fun L' h' => L' = [(4, .slice a2 x2.length c2), (15, iV (x2.length : Int)), (16, iV i1)] ∧ Hold h h' [own cd24 a2 x2.length c2 x6]) ?_ ?_
    ·rintro _ h6 ⟨rfl, H12⟩
     refine Run_blk ?_
     refine Zg 2 [(4, .slice a2 x2.length c2), (15, iV (x2.length : Int)), (16, iV (i1 + 1))] ?_ ?_
     ·refine Zy (iV (i1 + 1)) (Y_eq (v := iV (w64 (i1 + 1))) (Y_pure (fun w => by kernel_rfl)) (by rw [w64_eq _ (by omega)])) ?_
      refine Zb [iV (i1 + 1)] 1 ?_
      exact Zd [4, 15, 16]
     have hB1 := M.ret_some hB1
     have gx3 := hgoy1 _ hB1.symm
     exact Za [4, 15, 16] my1 ⟨i1 + 1, x6, by omega, gx3, rfl, H12⟩
    ·refine Run_block ?_
     have H24 := H8.ofRows
     refine Zk [4, 5, 15, 16, 28, 29] [(4, .slice a2 x2.length c2), (5, iV i1), (15, iV (x2.length : Int)), (16, iV i1), (28, iV (x2.length : Int)), (29, iV 0)] ?_
     refine Run_loop (fun m L' h' => ∃ (i2 : Int) (s3 : (List (List Int))), 0 ≤ i2 ∧ M.forN (x2.length : Int) _ _ n m i2 s3 = some x6 ∧ L' = [(4, .slice a2 x2.length c2), (5, iV i1), (15, iV (x2.length : Int)), (16, iV i1), (28, iV (x2.length : Int)), (29, iV i2)] ∧ Hold h h' [own cd24 a2 x2.length c2 s3]) ((x2.length : Int) - 0 : Int).toNat ⟨0, s1, Int.le_refl _, gx6, rfl, H24⟩ ?_
     rintro my2 _ h5 ⟨i2, s3, hloy2', gx6, rfl, H11⟩
     refine Zs ?_
     refine Zq [.bool (decide (i2 < (x2.length : Int)))] [4, 5, 15, 16, 28, 29, 30] [(4, .slice a2 x2.length c2), (5, iV i1), (15, iV (x2.length : Int)), (16, iV i1), (28, iV (x2.length : Int)), (29, iV i2), (30, .bool (decide (i2 < (x2.length : Int))))] ?_
     refine Zs ?_
     refine Zc (decide (i2 < (x2.length : Int))) (fun hb3 => ?_) (fun hb3 => ?_)
     ·obtain ⟨my2, y2, rfl, hB2, hgoy2, houty2⟩ := M.for_go gx6 hb3
      have hlty2 := of_decide_eq_true hb3
      refine Run_skip ?_
      refine Zs ?_
      refine Run_block ?_
      refine Zs ?_
      refine Zq [iV i2, iV i2] [4, 5, 6, 15, 16, 28, 29] [(4, .slice a2 x2.length c2), (5, iV i1), (6, iV i2), (15, iV (x2.length : Int)), (16, iV i1), (28, iV (x2.length : Int)), (29, iV i2)] ?_
      refine Zs ?_
      refine Zq [.slice a2 x2.length c2, iV (x2.length : Int), iV 0] [4, 5, 6, 15, 16, 28, 29, 33, 34] [(4, .slice a2 x2.length c2), (5, iV i1), (6, iV i2), (15, iV (x2.length : Int)), (16, iV i1), (28, iV (x2.length : Int)), (29, iV i2), (33, iV (x2.length : Int)), (34, iV 0)] ?_
      obtain ⟨x7, gx7, hB2⟩ := M.bind_some hB2
      obtain ⟨hloy3, hhiy3, gx7⟩ := M.for_start gx7
      refine Run_join (fun L' h' => L' = [(4, .slice a2 x2.length c2), (5, iV i1), (15, iV (x2.length : Int)), (16, iV i1), (28, iV (x2.length : Int)), (29, iV i2)] ∧ Hold h h' [own cd24 a2 x2.length c2 x7]) ?_ ?_
      ·rintro _ h8 ⟨rfl, H14⟩
       refine Run_blk ?_
       refine Zg 2 [(4, .slice a2 x2.length c2), (5, iV i1), (15, iV (x2.length : Int)), (16, iV i1), (28, iV (x2.length : Int)), (29, iV (i2 + 1))] ?_ ?_
       ·refine Zy (iV (i2 + 1)) (Y_eq (v := iV (w64 (i2 + 1))) (Y_pure (fun w => by kernel_rfl)) (by rw [w64_eq _ (by omega)])) ?_
        refine Zb [iV (i2 + 1)] 1 ?_
        exact Zd [4, 5, 15, 16, 28, 29]
       have hB2 := M.ret_some hB2
       have gx6 := hgoy2 _ hB2.symm
       exact Za [4, 5, 15, 16, 28, 29] my2 ⟨i2 + 1, x7, by omega, gx6, rfl, H14⟩
      ·refine Run_block ?_
       refine Zk [4, 5, 6, 15, 16, 28, 29, 33, 34] [(4, .slice a2 x2.length c2), (5, iV i1), (6, iV i2), (15, iV (x2.length : Int)), (16, iV i1), (28, iV (x2.length : Int)), (29, iV i2), (33, iV (x2.length : Int)), (34, iV 0)] ?_
       refine Run_loop (fun m L' h' => ∃ (i3 : Int) (s4 : (List (List Int))), 0 ≤ i3 ∧ M.forN (x2.length : Int) _ _ n m i3 s4 = some x7 ∧ L' = [(4, .slice a2 x2.length c2), (5, iV i1), (6, iV i2), (15, iV (x2.length : Int)), (16, iV i1), (28, iV (x2.length : Int)), (29, iV i2), (33, iV (x2.length : Int)), (34, iV i3)] ∧ Hold h h' [own cd24 a2 x2.length c2 s4]) ((x2.length : Int) - 0 : Int).toNat ⟨0, s3, Int.le_refl _, gx7, rfl, H11⟩ ?_
       rintro my3 _ h7 ⟨i3, s4, hloy3', gx7, rfl, H13⟩
       refine Zs ?_
       refine Zq [.bool (decide (i3 < (x2.length : Int)))] [4, 5, 6, 15, 16, 28, 29, 33, 34, 35] [(4, .slice a2 x2.length c2), (5, iV i1), (6, iV i2), (15, iV (x2.length : Int)), (16, iV i1), (28, iV (x2.length : Int)), (29, iV i2), (33, iV (x2.length : Int)), (34, iV i3), (35, .bool (decide (i3 < (x2.length : Int))))] ?_
       refine Zs ?_
       refine Zc (decide (i3 < (x2.length : Int))) (fun hb4 => ?_) (fun hb4 => ?_)
       ·obtain ⟨my3, y3, rfl, hB3, hgoy3, houty3⟩ := M.for_go gx7 hb4
        have hlty3 := of_decide_eq_true hb4
        refine Run_skip ?_
        refine Zs ?_
        refine Run_block ?_
        refine Zs ?_
        refine Zq [iV i3, iV i3] [4, 5, 6, 7, 15, 16, 28, 29, 33, 34] [(4, .slice a2 x2.length c2), (5, iV i1), (6, iV i2), (7, iV i3), (15, iV (x2.length : Int)), (16, iV i1), (28, iV (x2.length : Int)), (29, iV i2), (33, iV (x2.length : Int)), (34, iV i3)] ?_
        obtain ⟨x8, hx5, hB3⟩ := M.bind_some hB3
        obtain ⟨hx5l, hx5u, hx5⟩ := M.idx_some hx5
        have H15 := H13.toRows
        obtain ⟨a4, c4, H16⟩ := H15.pinRow hx5
        obtain ⟨x9, hx6, hB3⟩ := M.bind_some hB3
        obtain ⟨hx6l, hx6u, hx6⟩ := M.idx_some hx6
        obtain ⟨a5, c5, H17⟩ := H16.pinRow hx6
        obtain ⟨x10, hx7, hB3⟩ := M.bind_some hB3
        obtain ⟨hx7l, hx7u, hx7⟩ := M.idx_some hx7
        obtain ⟨x11, hx8, hB3⟩ := M.bind_some hB3
        obtain ⟨hx8l, hx8u, hx8⟩ := M.idx_some hx8
        obtain ⟨a6, c6, H18⟩ := H17.pinRow hx8
        obtain ⟨x12, hx9, hB3⟩ := M.bind_some hB3
        obtain ⟨hx9l, hx9u, hx9⟩ := M.idx_some hx9
        obtain ⟨x13, hx10, hB3⟩ := M.bind_some hB3
        obtain ⟨hx10l, hx10u, hx10⟩ := M.idx_some hx10
        obtain ⟨a7, c7, H19⟩ := H18.pinRow hx10
        obtain ⟨x14, hx11, hB3⟩ := M.bind_some hB3
        obtain ⟨hx11l, hx11u, hx11⟩ := M.idx_some hx11
        obtain ⟨x15, hx12, hB3⟩ := M.bind_some hB3
        obtain ⟨x16, hx13, hB3⟩ := M.bind_some hB3
        obtain ⟨hx13l, hx13u, hx13⟩ := M.idx_some hx13
        refine Run_D (fun x => Hold h x [rowsP cd2 24 a2 x2.length c2 s4 [(i1.toNat, a7, x13.length, c7, x13), (i2.toNat, a6, x11.length, c6, x11), (i2.toNat, a5, x9.length, c5, x9), (i2.toNat, a4, x8.length, c4, x8)]]) (fun x => Hold h x [rowsP cd2 24 a2 x2.length c2 s4 [(i1.toNat, a7, x13.length, c7, x13), (i2.toNat, a6, x11.length, c6, x11), (i2.toNat, a5, x9.length, c5, x9), (i2.toNat, a4, x8.length, c4, x8)]]) mixed (by kernel_rfl) H19 Hold.stable (fun x Hy => (show Hold h x [rowsP cd2 24 a2 x2.length c2 s4 [(i1.toNat, a7, x13.length, c7, x13), (i2.toNat, a6, x11.length, c6, x11), (i2.toNat, a5, x9.length, c5, x9), (i2.toNat, a4, x8.length, c4, x8)]] from Hy).pk [0]) ?_
        refine ZB 28 [.slice a2 x2.length c2, iV i2] 0 ?_
        refine ZY 27 2 (.pointer (some (adr a2 (i2.toNat * 1)))) (fun hx Hx => (YE.of (Zi 22 24 1 (a2) (x2.length) (c2) .i64 (i2) Tryz.underlying22 ((H13.rd 0 rfl).cell hx5).1 hx5l (by rw [← (H13.len 0 rfl)]; exact hx5u)))) ?_
        refine ZY 26 3 (.slice a4 x8.length c4) (fun hx Hx => (YE.of (Zl 24 (adr a2 (i2.toNat * 1)) (.slice a4 x8.length c4) (Hx.cellPin 0 rfl 3 rfl)))) ?_
        refine ZB 23 [iV i3, .slice a2 x2.length c2, iV i2] 4 ?_
        refine ZY 22 7 (.pointer (some (adr a2 (i2.toNat * 1)))) (fun hx Hx => (YE.of (Zi 22 24 1 (a2) (x2.length) (c2) .i64 (i2) Tryz.underlying22 ((H16.rdRows 0 rfl).cell hx6).1 hx6l (by rw [← (H16.lenRows 0 rfl)]; exact hx6u)))) ?_
        refine ZY 21 8 (.slice a5 x9.length c5) (fun hx Hx => (YE.of (Zl 24 (adr a2 (i2.toNat * 1)) (.slice a5 x9.length c5) (Hx.cellPin 0 rfl 2 rfl)))) ?_
        refine ZB 20 [iV i3] 9 ?_
        refine ZY 19 10 (.pointer (some (adr a5 (i3.toNat * 1)))) (fun hx Hx => (YE.of (Zi 24 2 1 (a5) (x9.length) (c5) .i64 (i3) Tryz.underlying24 ((H17.rdPin 0 rfl 0 rfl).cell hx7).1 hx7l hx7u))) ?_
        refine ZY 18 11 (iV x10) (fun hx Hx => (YE.of (Zl 2 (adr a5 (i3.toNat * 1)) (iV x10) (cd2_cell (Hx.rdPin 0 rfl 2 rfl) hx7)))) ?_
        refine ZB 16 [.slice a2 x2.length c2, iV i2] 12 ?_
        refine ZY 15 14 (.pointer (some (adr a2 (i2.toNat * 1)))) (fun hx Hx => (YE.of (Zi 22 24 1 (a2) (x2.length) (c2) .i64 (i2) Tryz.underlying22 ((H17.rdRows 0 rfl).cell hx8).1 hx8l (by rw [← (H17.lenRows 0 rfl)]; exact hx8u)))) ?_
        refine ZY 14 15 (.slice a6 x11.length c6) (fun hx Hx => (YE.of (Zl 24 (adr a2 (i2.toNat * 1)) (.slice a6 x11.length c6) (Hx.cellPin 0 rfl 1 rfl)))) ?_
        refine ZB 13 [iV i1] 16 ?_
        refine ZY 12 17 (.pointer (some (adr a6 (i1.toNat * 1)))) (fun hx Hx => (YE.of (Zi 24 2 1 (a6) (x11.length) (c6) .i64 (i1) Tryz.underlying24 ((H18.rdPin 0 rfl 0 rfl).cell hx9).1 hx9l hx9u))) ?_
        refine ZY 11 18 (iV x12) (fun hx Hx => (YE.of (Zl 2 (adr a6 (i1.toNat * 1)) (iV x12) (cd2_cell (Hx.rdPin 0 rfl 1 rfl) hx9)))) ?_
        refine ZB 9 [.slice a2 x2.length c2, iV i1] 19 ?_
        refine ZY 8 21 (.pointer (some (adr a2 (i1.toNat * 1)))) (fun hx Hx => (YE.of (Zi 22 24 1 (a2) (x2.length) (c2) .i64 (i1) Tryz.underlying22 ((H18.rdRows 0 rfl).cell hx10).1 hx10l (by rw [← (H18.lenRows 0 rfl)]; exact hx10u)))) ?_
        refine ZY 7 22 (.slice a7 x13.length c7) (fun hx Hx => (YE.of (Zl 24 (adr a2 (i1.toNat * 1)) (.slice a7 x13.length c7) (Hx.cellPin 0 rfl 0 rfl)))) ?_
        refine ZB 6 [iV i3] 23 ?_
        refine ZY 5 24 (.pointer (some (adr a7 (i3.toNat * 1)))) (fun hx Hx => (YE.of (Zi 24 2 1 (a7) (x13.length) (c7) .i64 (i3) Tryz.underlying24 ((H19.rdPin 0 rfl 0 rfl).cell hx11).1 hx11l hx11u))) ?_
        refine ZY 4 25 (iV x14) (fun hx Hx => (YE.of (Zl 2 (adr a7 (i3.toNat * 1)) (iV x14) (cd2_cell (Hx.rdPin 0 rfl 0 rfl) hx11)))) ?_
        refine ZY 3 26 (iV x15) (fun hx Hx => (YE.of (ZQ 67 #[iV x12, iV x14] (w_impl_times hx x12 x14 _ _ hx12)))) ?_
        refine ZB 2 [iV (mx x10 x15)] 27 ?_
        refine ZY 1 28 (.pointer (some (adr a4 (i3.toNat * 1)))) (fun hx Hx => (YE.of (Zi 24 2 1 (a4) (x8.length) (c4) .i64 (i3) Tryz.underlying24 ((H19.rdPin 0 rfl 3 rfl).cell hx13).1 hx13l hx13u))) ?_
        refine ZT 29 (fun h9 H20 => ?_)
        have H21 : Hold h h9 [rowsP cd2 24 a2 x2.length c2 s4 [(i1.toNat, a7, x13.length, c7, x13), (i2.toNat, a6, x11.length, c6, x11), (i2.toNat, a5, x9.length, c5, x9), (i2.toNat, a4, x8.length, c4, x8)]] := H20
        obtain ⟨l1, hu1, hB3⟩ := M.bind_some hB3
        have hu1 := M.upd_some hu1
        refine Ze ?_
        refine E_put2 (C := cd2) (t := 2) (sz := 1) (j := i3) (x := (mx x10 x15)) (v := iV (mx x10 x15)) (m2 := s4.set i2.toNat l1) H21 cd2_flat 3 rfl (by kernel_rfl) rfl (cd2_own _) (by kernel_rfl) hu1 rfl (fun h10 H22 => ?_)
        refine Zx ?_
        refine Zk [4, 5, 6, 15, 16, 28, 29, 33, 34] [(4, .slice a2 x2.length c2), (5, iV i1), (6, iV i2), (15, iV (x2.length : Int)), (16, iV i1), (28, iV (x2.length : Int)), (29, iV i2), (33, iV (x2.length : Int)), (34, iV i3)] ?_
        refine Run_blk ?_
        refine Zg 2 [(4, .slice a2 x2.length c2), (5, iV i1), (6, iV i2), (15, iV (x2.length : Int)), (16, iV i1), (28, iV (x2.length : Int)), (29, iV i2), (33, iV (x2.length : Int)), (34, iV (i3 + 1))] ?_ ?_
        ·refine Zy (iV (i3 + 1)) (Y_eq (v := iV (w64 (i3 + 1))) (Y_pure (fun w => by kernel_rfl)) (by rw [w64_eq _ (by omega)])) ?_
         refine Zb [iV (i3 + 1)] 1 ?_
         exact Zd [4, 5, 6, 15, 16, 28, 29, 33, 34]
        have H23 := H22.ofRows
        have hB3 := M.ret_some hB3
        have gx7 := hgoy3 _ hB3.symm
        exact Za [4, 5, 6, 15, 16, 28, 29, 33, 34] my3 ⟨i3 + 1, (s4.set i2.toNat l1), by omega, gx7, rfl, H23⟩
       ·have gx7 := M.for_end gx7 hb4
        subst gx7
        refine Run_exit (k' := _) rfl ?_
        exact Zf [4, 5, 15, 16, 28, 29] ⟨rfl, H13⟩
     ·have gx6 := M.for_end gx6 hb3
      subst gx6
      refine Run_exit (k' := _) rfl ?_
      exact Zf [4, 15, 16] ⟨rfl, H11⟩
  ·have gx3 := M.for_end gx3 hb1
   subst gx3
   refine Run_exit (k' := _) rfl ?_
   exact Zf [4] ⟨s1, rfl, rfl, H5⟩

theorem w_impl_criticalMatrix_1 (h : Heap) (i : Int) (j : Int) (z0 : List (List Int)) {Sz0 : Bs} (az0 : Option Addr) (cz0 : Nat) (rz0 : Rd cd24 h Sz0 az0 cz0 z0) (bz0 : Nat) (vz0 : VarAt h bz0 22 [.slice az0 z0.length cz0]) (z1 : List (List Int)) {Sz1 : Bs} (az1 : Option Addr) (cz1 : Nat) (rz1 : Rd cd24 h Sz1 az1 cz1 z1) (bz1 : Nat) (vz1 : VarAt h bz1 22 [.slice az1 z1.length cz1]) (z2 : List (List Int)) {Sz2 : Bs} (az2 : Option Addr) (cz2 : Nat) (rz2 : Rd cd24 h Sz2 az2 cz2 z2) (bz2 : Nat) (vz2 : VarAt h bz2 22 [.slice az2 z2.length cz2]) (n : Nat) (r : Int) (hF : impl_criticalMatrix_1 i j z0 z1 z2 n = some r) :
  Fn Tryz.prog 112 #[iV i, iV j, pV bz0, pV bz1, pV bz2] h fun v h' => v = iV r ∧ h' = h := by
 unfold impl_criticalMatrix_1 at hF
 refine Zo [iV i, iV j, pV bz0, pV bz1, pV bz2] Tryz.func112 rfl (fun w0 _ => ?_)
 refine Zs ?_
 refine Zq [iV 0] [0, 1, 2, 3, 4] [(0, iV i), (1, iV j), (2, pV bz0), (3, pV bz1), (4, pV bz2)] ?_
 refine Zs ?_
 refine Zs ?_
 obtain ⟨x1, hx1, hF⟩ := M.bind_some hF
 obtain ⟨hx1l, hx1u, hx1⟩ := M.idx_some hx1
 obtain ⟨a1, c1, hc1, r1⟩ := rz0.row hx1
 obtain ⟨x2, hx2, hF⟩ := M.bind_some hF
 obtain ⟨hx2l, hx2u, hx2⟩ := M.idx_some hx2
 obtain ⟨x3, gx3, hF⟩ := M.bind_some hF
 obtain ⟨x6, gx6, hF⟩ := M.bind_some hF
 refine Run_draw 36 mixed (by kernel_rfl) (by kernel_rfl) (L' := [(0, iV i), (1, iV j), (4, pV bz2), (43, .bool x6)]) ?_ ?_
 ·refine Zy (.slice az0 z0.length cz0) (Zl 22 (⟨bz0, 0, none⟩) (.slice az0 z0.length cz0) (VarAt.cell vz0 rfl)) ?_
  refine Zb [iV i] 1 ?_
  refine Zy (.pointer (some (adr az0 (i.toNat * 1)))) (Zi 22 24 1 (az0) (z0.length) (cz0) .i64 (i) Tryz.underlying22 (rz0.cell hx1).1 hx1l hx1u) ?_
  refine Zy (.slice a1 x1.length c1) (Zl 24 (adr az0 (i.toNat * 1)) (.slice a1 x1.length c1) hc1) ?_
  refine Zb [iV j] 4 ?_
  refine Zy (.pointer (some (adr a1 (j.toNat * 1)))) (Zi 24 2 1 (a1) (x1.length) (c1) .i64 (j) Tryz.underlying24 (r1.cell hx2).1 hx2l hx2u) ?_
  refine Zy (iV x2) (Zl 2 (adr a1 (j.toNat * 1)) (iV x2) (cd2_cell r1 hx2)) ?_
  refine Zb [.bool (x2 == (-1000000000000000))] 7 ?_
  refine QRun_seq 18 [(0, iV i), (1, iV j), (2, pV bz0), (3, pV bz1), (4, pV bz2), (25, .bool x3)] ?_ ?_
  ·rcases Bool.eq_false_or_eq_true (x2 == (-1000000000000000)) with hb1 | hb1
   ·refine Zv (x2 == (-1000000000000000)) true hb1 ?_
    have gx3 := M.ret_some ((M.ite_some gx3).1 hb1)
    refine Zn ?_
    refine Zn ?_
    refine Zn ?_
    refine Zn ?_
    refine Zn ?_
    refine Zn ?_
    refine Zn ?_
    refine Zn ?_
    refine Zv true x3 gx3 ?_
    exact Zd [0, 1, 2, 3, 4, 25]
   ·refine Zv (x2 == (-1000000000000000)) false hb1 ?_
    have gx3 := (M.ite_some gx3).2 hb1
    obtain ⟨x4, hx3, gx3⟩ := M.bind_some gx3
    obtain ⟨hx3l, hx3u, hx3⟩ := M.idx_some hx3
    obtain ⟨a2, c2, hc2, r2⟩ := rz1.row hx3
    obtain ⟨x5, hx4, gx3⟩ := M.bind_some gx3
    obtain ⟨hx4l, hx4u, hx4⟩ := M.idx_some hx4
    have gx3 := M.ret_some gx3
    refine Zy (.slice az1 z1.length cz1) (Zl 22 (⟨bz1, 0, none⟩) (.slice az1 z1.length cz1) (VarAt.cell vz1 rfl)) ?_
    refine Zb [iV j] 10 ?_
    refine Zy (.pointer (some (adr az1 (j.toNat * 1)))) (Zi 22 24 1 (az1) (z1.length) (cz1) .i64 (j) Tryz.underlying22 (rz1.cell hx3).1 hx3l hx3u) ?_
    refine Zy (.slice a2 x4.length c2) (Zl 24 (adr az1 (j.toNat * 1)) (.slice a2 x4.length c2) hc2) ?_
    refine Zb [iV i] 13 ?_
    refine Zy (.pointer (some (adr a2 (i.toNat * 1)))) (Zi 24 2 1 (a2) (x4.length) (c2) .i64 (i) Tryz.underlying24 (r2.cell hx4).1 hx4l hx4u) ?_
    refine Zy (iV x5) (Zl 2 (adr a2 (i.toNat * 1)) (iV x5) (cd2_cell r2 hx4)) ?_
    refine Zb [.bool (x5 == (-1000000000000000))] 16 ?_
    refine Zv (x5 == (-1000000000000000)) x3 gx3 ?_
    exact Zd [0, 1, 2, 3, 4, 25]
  refine QRun_seq 36 [(0, iV i), (1, iV j), (4, pV bz2), (43, .bool x6)] ?_ ?_
  ·rcases Bool.eq_false_or_eq_true x3 with hb2 | hb2
   ·refine Zv x3 true hb2 ?_
    have gx6 := M.ret_some ((M.ite_some gx6).1 hb2)
    refine Zn ?_
    refine Zn ?_
    refine Zn ?_
    refine Zn ?_
    refine Zn ?_
    refine Zn ?_
    refine Zn ?_
    refine Zn ?_
    refine Zn ?_
    refine Zn ?_
    refine Zn ?_
    refine Zn ?_
    refine Zn ?_
    refine Zn ?_
    refine Zn ?_
    refine Zn ?_
    refine Zv true x6 gx6 ?_
    exact Zd [0, 1, 4, 43]
   ·refine Zv x3 false hb2 ?_
    have gx6 := (M.ite_some gx6).2 hb2
    obtain ⟨x7, hx5, gx6⟩ := M.bind_some gx6
    obtain ⟨hx5l, hx5u, hx5⟩ := M.idx_some hx5
    obtain ⟨a3, c3, hc3, r3⟩ := rz0.row hx5
    obtain ⟨x8, hx6, gx6⟩ := M.bind_some gx6
    obtain ⟨hx6l, hx6u, hx6⟩ := M.idx_some hx6
    obtain ⟨x9, hx7, gx6⟩ := M.bind_some gx6
    obtain ⟨hx7l, hx7u, hx7⟩ := M.idx_some hx7
    obtain ⟨a4, c4, hc4, r4⟩ := rz1.row hx7
    obtain ⟨x10, hx8, gx6⟩ := M.bind_some gx6
    obtain ⟨hx8l, hx8u, hx8⟩ := M.idx_some hx8
    have gx6 := M.ret_some gx6
    refine Zy (.slice az0 z0.length cz0) (Zl 22 (⟨bz0, 0, none⟩) (.slice az0 z0.length cz0) (VarAt.cell vz0 rfl)) ?_
    refine Zb [iV i] 20 ?_
    refine Zy (.pointer (some (adr az0 (i.toNat * 1)))) (Zi 22 24 1 (az0) (z0.length) (cz0) .i64 (i) Tryz.underlying22 (rz0.cell hx5).1 hx5l hx5u) ?_
    refine Zy (.slice a3 x7.length c3) (Zl 24 (adr az0 (i.toNat * 1)) (.slice a3 x7.length c3) hc3) ?_
    refine Zb [iV j] 23 ?_
    refine Zy (.pointer (some (adr a3 (j.toNat * 1)))) (Zi 24 2 1 (a3) (x7.length) (c3) .i64 (j) Tryz.underlying24 (r3.cell hx6).1 hx6l hx6u) ?_
    refine Zy (iV x8) (Zl 2 (adr a3 (j.toNat * 1)) (iV x8) (cd2_cell r3 hx6)) ?_
    refine Zy (.slice az1 z1.length cz1) (Zl 22 (⟨bz1, 0, none⟩) (.slice az1 z1.length cz1) (VarAt.cell vz1 rfl)) ?_
    refine Zb [iV j] 27 ?_
    refine Zy (.pointer (some (adr az1 (j.toNat * 1)))) (Zi 22 24 1 (az1) (z1.length) (cz1) .i64 (j) Tryz.underlying22 (rz1.cell hx7).1 hx7l hx7u) ?_
    refine Zy (.slice a4 x9.length c4) (Zl 24 (adr az1 (j.toNat * 1)) (.slice a4 x9.length c4) hc4) ?_
    refine Zb [iV i] 30 ?_
    refine Zy (.pointer (some (adr a4 (i.toNat * 1)))) (Zi 24 2 1 (a4) (x9.length) (c4) .i64 (i) Tryz.underlying24 (r4.cell hx8).1 hx8l hx8u) ?_
    refine Zy (iV x10) (Zl 2 (adr a4 (i.toNat * 1)) (iV x10) (cd2_cell r4 hx8)) ?_
    refine Zb [iV (w64 (x8 + x10)), .bool ((w64 (x8 + x10)) != 0)] 33 ?_
    refine Zv ((w64 (x8 + x10)) != 0) x6 gx6 ?_
    exact Zd [0, 1, 4, 43]
  exact Zd [0, 1, 4, 43]
 refine Zc (x6) (fun hb3 => ?_) (fun hb3 => ?_)
 ·have hF := (M.ite_some hF).1 hb3
  refine Zs ?_
  refine Zq [iV (-1000000000000000)] [7] [(7, iV (-1000000000000000))] ?_
  have hF := M.ret_some hF
  subst hF
  exact Run_ret1 rfl (Zt (iV (-1000000000000000))) ⟨rfl, rfl⟩
 ·have hF := (M.ite_some hF).2 hb3
  refine Run_skip ?_
  refine Zs ?_
  obtain ⟨x11, hx9, hF⟩ := M.bind_some hF
  obtain ⟨hx9l, hx9u, hx9⟩ := M.idx_some hx9
  obtain ⟨a5, c5, hc5, r5⟩ := rz2.row hx9
  obtain ⟨x12, hx10, hF⟩ := M.bind_some hF
  obtain ⟨hx10l, hx10u, hx10⟩ := M.idx_some hx10
  refine Zg 8 [(7, iV x12)] ?_ ?_
  ·refine Zy (.slice az2 z2.length cz2) (Zl 22 (⟨bz2, 0, none⟩) (.slice az2 z2.length cz2) (VarAt.cell vz2 rfl)) ?_
   refine Zb [iV i] 1 ?_
   refine Zy (.pointer (some (adr az2 (i.toNat * 1)))) (Zi 22 24 1 (az2) (z2.length) (cz2) .i64 (i) Tryz.underlying22 (rz2.cell hx9).1 hx9l hx9u) ?_
   refine Zy (.slice a5 x11.length c5) (Zl 24 (adr az2 (i.toNat * 1)) (.slice a5 x11.length c5) hc5) ?_
   refine Zb [iV j] 4 ?_
   refine Zy (.pointer (some (adr a5 (j.toNat * 1)))) (Zi 24 2 1 (a5) (x11.length) (c5) .i64 (j) Tryz.underlying24 (r5.cell hx10).1 hx10l hx10u) ?_
   refine Zy (iV x12) (Zl 2 (adr a5 (j.toNat * 1)) (iV x12) (cd2_cell r5 hx10)) ?_
   refine Zb [iV x12] 7 ?_
   exact Zd [7]
  have hF := M.ret_some hF
  subst hF
  exact Run_ret1 rfl (Zt (iV x12)) ⟨rfl, rfl⟩

theorem w_impl_matrixBy_F_impl_criticalMatrix_1 (h : Heap) (m_ : Int) (n_ : Int) (entry0 : List (List Int)) (aentry0 : Option Addr) (centry0 : Nat) (rentry0 : Rd cd24 h (Lt h) aentry0 centry0 entry0) (bentry0 : Nat) (ventry0 : VarAt h bentry0 22 [.slice aentry0 entry0.length centry0]) (entry1 : List (List Int)) (aentry1 : Option Addr) (centry1 : Nat) (rentry1 : Rd cd24 h (Lt h) aentry1 centry1 entry1) (bentry1 : Nat) (ventry1 : VarAt h bentry1 22 [.slice aentry1 entry1.length centry1]) (entry2 : List (List Int)) (aentry2 : Option Addr) (centry2 : Nat) (rentry2 : Rd cd24 h (Lt h) aentry2 centry2 entry2) (bentry2 : Nat) (ventry2 : VarAt h bentry2 22 [.slice aentry2 entry2.length centry2]) (n : Nat) (r : (List (List Int))) (hF : impl_matrixBy_F_impl_criticalMatrix_1 m_ n_ entry0 entry1 entry2 n = some r) :
  Fn Tryz.prog 109 #[iV m_, iV n_, .func (.func 112) #[] #[pV bentry0, pV bentry1, pV bentry2]] h fun v h' => ∃ (a0 : Option Addr) (c0 : Nat), v = .slice a0 r.length c0 ∧ Hold h h' [own cd24 a0 r.length c0 r] := by
 unfold impl_matrixBy_F_impl_criticalMatrix_1 at hF
 refine Zo [iV m_, iV n_, .func (.func 112) #[] #[pV bentry0, pV bentry1, pV bentry2]] Tryz.func109 rfl (fun w0 _ => ?_)
 have H0 := Hold.init h
 refine Zs ?_
 refine Zq [.slice none 0 0] [0, 1, 2] [(0, iV m_), (1, iV n_), (2, .func (.func 112) #[] #[pV bentry0, pV bentry1, pV bentry2])] ?_
 refine Zs ?_
 refine Run_ops ?_
 refine Zr [iV m_] 0 ?_
 obtain ⟨l1, hl1, hF⟩ := M.bind_some hF
 have hl1 := M.make_some hl1
 refine Ze ?_
 refine E_make cd24 [] (kl := .i64) (kc := .i64) H0 cd24_ti Tryz.underlying22 (by decide) cd24_zero (by kernel_rfl) hl1 (fun a1 h1 H1 => ?_)
 refine Zr [.slice a1 l1.length l1.length] 2 ?_
 refine Zx ?_
 refine Zk [1, 2, 7] [(1, iV n_), (2, .func (.func 112) #[] #[pV bentry0, pV bentry1, pV bentry2]), (7, .slice a1 l1.length l1.length)] ?_
 refine Zs ?_
 refine Zs ?_
 refine Zq [.slice a1 l1.length l1.length, iV (l1.length : Int), iV 0] [1, 2, 7, 13, 14] [(1, iV n_), (2, .func (.func 112) #[] #[pV bentry0, pV bentry1, pV bentry2]), (7, .slice a1 l1.length l1.length), (13, iV (l1.length : Int)), (14, iV 0)] ?_
 obtain ⟨x1, gx1, hF⟩ := M.bind_some hF
 obtain ⟨hloy1, hhiy1, gx1⟩ := M.for_start gx1
 refine Run_join (fun L' h' => L' = [(7, .slice a1 l1.length l1.length)] ∧ Hold h h' [own cd24 a1 l1.length l1.length x1]) ?_ ?_
 ·rintro _ h3 ⟨rfl, H3⟩
  refine Zs ?_
  refine Zq [.slice a1 l1.length l1.length, .slice a1 l1.length l1.length] [6] [(6, .slice a1 l1.length l1.length)] ?_
  have hF := M.ret_some hF
  subst hF
  have H20 := H3.norm
  exact Run_ret1 rfl (Zt (.slice a1 l1.length l1.length)) ⟨a1, l1.length, (by simp only [(H3.len 0 rfl)]), H20⟩
 ·refine Run_block ?_
  refine Zk [1, 2, 7, 13, 14] [(1, iV n_), (2, .func (.func 112) #[] #[pV bentry0, pV bentry1, pV bentry2]), (7, .slice a1 l1.length l1.length), (13, iV (l1.length : Int)), (14, iV 0)] ?_
  refine Run_loop (fun m L' h' => ∃ (i1 : Int) (s1 : (List (List Int))), 0 ≤ i1 ∧ M.forN (l1.length : Int) _ _ n m i1 s1 = some x1 ∧ L' = [(1, iV n_), (2, .func (.func 112) #[] #[pV bentry0, pV bentry1, pV bentry2]), (7, .slice a1 l1.length l1.length), (13, iV (l1.length : Int)), (14, iV i1)] ∧ Hold h h' [own cd24 a1 l1.length l1.length s1]) ((l1.length : Int) - 0 : Int).toNat ⟨0, l1, Int.le_refl _, gx1, rfl, H1⟩ ?_
  rintro my1 _ h2 ⟨i1, s1, hloy1', gx1, rfl, H2⟩
  refine Zs ?_
  refine Zq [.bool (decide (i1 < (l1.length : Int)))] [1, 2, 7, 13, 14, 15] [(1, iV n_), (2, .func (.func 112) #[] #[pV bentry0, pV bentry1, pV bentry2]), (7, .slice a1 l1.length l1.length), (13, iV (l1.length : Int)), (14, iV i1), (15, .bool (decide (i1 < (l1.length : Int))))] ?_
  refine Zs ?_
  refine Zc (decide (i1 < (l1.length : Int))) (fun hb1 => ?_) (fun hb1 => ?_)
  ·obtain ⟨my1, y1, rfl, hB1, hgoy1, houty1⟩ := M.for_go gx1 hb1
   have hlty1 := of_decide_eq_true hb1
   refine Run_skip ?_
   refine Zs ?_
   refine Run_block ?_
   refine Zs ?_
   refine Zq [iV i1, iV i1] [1, 2, 7, 8, 13, 14] [(1, iV n_), (2, .func (.func 112) #[] #[pV bentry0, pV bentry1, pV bentry2]), (7, .slice a1 l1.length l1.length), (8, iV i1), (13, iV (l1.length : Int)), (14, iV i1)] ?_
   refine Zs ?_
   refine Run_ops ?_
   refine Zr [.slice a1 l1.length l1.length, iV i1, iV n_] 0 ?_
   obtain ⟨l2, hl2, hB1⟩ := M.bind_some hB1
   have hl2 := M.make_some hl2
   refine Ze ?_
   refine E_make cd2 0 (kl := .i64) (kc := .i64) H2 cd2_ti Tryz.underlying24 (by decide) cd2_zero (by kernel_rfl) hl2 (fun a2 h4 H4 => ?_)
   obtain ⟨x2, hx1, hB1⟩ := M.bind_some hB1
   obtain ⟨hx1l, hx1u, hx1⟩ := M.idx_some hx1
   refine Zz (.pointer (some (adr a1 (i1.toNat * 1)))) (Zi 22 24 1 (a1) (l1.length) (l1.length) .i64 (i1) Tryz.underlying22 ((H4.rd 1 rfl).cell hx1).1 hx1l (by rw [← (H4.len 1 rfl)]; exact hx1u)) ?_
   obtain ⟨l3, hu1, hB1⟩ := M.bind_some hB1
   have hu1 := M.upd_some hu1
   have H6 : Hold h h4 [own cd24 a1 l1.length l1.length s1, own cd2 a2 l2.length l2.length l2] := H4.pk [1, 0]
   have H7 : Hold h h4 [own cd2 a2 l2.length l2.length l2, own cd24 a1 l1.length l1.length s1] := H6.pk [1, 0]
   have H8 : Hold h h4 [own cd24 a1 l1.length l1.length s1, own cd2 a2 l2.length l2.length l2] := H7.pk [1, 0]
   refine Ze ?_
   refine E_putRow (t := 24) (j := i1) H8 (by kernel_rfl) (by kernel_rfl) hu1 (fun h5 H5 => ?_)
   refine Zx ?_
   refine Zk [1, 2, 7, 8, 13, 14] [(1, iV n_), (2, .func (.func 112) #[] #[pV bentry0, pV bentry1, pV bentry2]), (7, .slice a1 l1.length l1.length), (8, iV i1), (13, iV (l1.length : Int)), (14, iV i1)] ?_
   refine Zs ?_
   obtain ⟨x3, hx2, hB1⟩ := M.bind_some hB1
   obtain ⟨hx2l, hx2u, hx2⟩ := M.idx_some hx2
   have H9 := H5.toRows
   obtain ⟨a3, c1, H10⟩ := H9.pinRow hx2
   refine Zg 6 [(1, iV n_), (2, .func (.func 112) #[] #[pV bentry0, pV bentry1, pV bentry2]), (7, .slice a1 l1.length l1.length), (8, iV i1), (13, iV (l1.length : Int)), (14, iV i1), (26, iV (x3.length : Int)), (27, iV 0)] ?_ ?_
   ·refine Zb [.slice a1 l1.length l1.length, iV i1] 0 ?_
    refine Zy (.pointer (some (adr a1 (i1.toNat * 1)))) (Zi 22 24 1 (a1) (l1.length) (l1.length) .i64 (i1) Tryz.underlying22 ((H5.rd 0 rfl).cell hx2).1 hx2l (by rw [← (H5.len 0 rfl)]; exact hx2u)) ?_
    refine Zy (.slice a3 x3.length c1) (Zl 24 (adr a1 (i1.toNat * 1)) (.slice a3 x3.length c1) (H10.cellPin 0 rfl 0 rfl)) ?_
    refine Zb [iV (x3.length : Int), iV 0] 4 ?_
    exact Zd [1, 2, 7, 8, 13, 14, 26, 27]
   obtain ⟨x4, gx4, hB1⟩ := M.bind_some hB1
   obtain ⟨hloy2, hhiy2, gx4⟩ := M.for_start gx4
   refine Run_join (fun L' h' => L' = [(1, iV n_), (2, .func (.func 112) #[] #[pV bentry0, pV bentry1, pV bentry2]), (7, .slice a1 l1.length l1.length), (13, iV (l1.length : Int)), (14, iV i1)] ∧ Hold h h' [own cd24 a1 l1.length l1.length x4]) ?_ ?_
   ·rintro _ h7 ⟨rfl, H12⟩
    refine Run_blk ?_
    refine Zg 2 [(1, iV n_), (2, .func (.func 112) #[] #[pV bentry0, pV bentry1, pV bentry2]), (7, .slice a1 l1.length l1.length), (13, iV (l1.length : Int)), (14, iV (i1 + 1))] ?_ ?_
    ·refine Zy (iV (i1 + 1)) (Y_eq (v := iV (w64 (i1 + 1))) (Y_pure (fun w => by kernel_rfl)) (by rw [w64_eq _ (by omega)])) ?_
     refine Zb [iV (i1 + 1)] 1 ?_
     exact Zd [1, 2, 7, 13, 14]
    have hB1 := M.ret_some hB1
    have gx1 := hgoy1 _ hB1.symm
    exact Za [1, 2, 7, 13, 14] my1 ⟨i1 + 1, x4, by omega, gx1, rfl, H12⟩
   ·refine Run_block ?_
    have H19 := H10.ofRows
    refine Zk [1, 2, 7, 8, 13, 14, 26, 27] [(1, iV n_), (2, .func (.func 112) #[] #[pV bentry0, pV bentry1, pV bentry2]), (7, .slice a1 l1.length l1.length), (8, iV i1), (13, iV (l1.length : Int)), (14, iV i1), (26, iV (x3.length : Int)), (27, iV 0)] ?_
    refine Run_loop (fun m L' h' => ∃ (i2 : Int) (s2 : (List (List Int))), 0 ≤ i2 ∧ M.forN (x3.length : Int) _ _ n m i2 s2 = some x4 ∧ L' = [(1, iV n_), (2, .func (.func 112) #[] #[pV bentry0, pV bentry1, pV bentry2]), (7, .slice a1 l1.length l1.length), (8, iV i1), (13, iV (l1.length : Int)), (14, iV i1), (26, iV (x3.length : Int)), (27, iV i2)] ∧ Hold h h' [own cd24 a1 l1.length l1.length s2]) ((x3.length : Int) - 0 : Int).toNat ⟨0, l3, Int.le_refl _, gx4, rfl, H19⟩ ?_
    rintro my2 _ h6 ⟨i2, s2, hloy2', gx4, rfl, H11⟩
    refine Zs ?_
    refine Zq [.bool (decide (i2 < (x3.length : Int)))] [1, 2, 7, 8, 13, 14, 26, 27, 28] [(1, iV n_), (2, .func (.func 112) #[] #[pV bentry0, pV bentry1, pV bentry2]), (7, .slice a1 l1.length l1.length), (8, iV i1), (13, iV (l1.length : Int)), (14, iV i1), (26, iV (x3.length : Int)), (27, iV i2), (28, .bool (decide (i2 < (x3.length : Int))))] ?_
    refine Zs ?_
    refine Zc (decide (i2 < (x3.length : Int))) (fun hb2 => ?_) (fun hb2 => ?_)
    ·obtain ⟨my2, y2, rfl, hB2, hgoy2, houty2⟩ := M.for_go gx4 hb2
     have hlty2 := of_decide_eq_true hb2
     refine Run_skip ?_
     refine Zs ?_
     refine Run_block ?_
     refine Zs ?_
     refine Zq [iV i2, iV i2] [1, 2, 7, 8, 9, 13, 14, 26, 27] [(1, iV n_), (2, .func (.func 112) #[] #[pV bentry0, pV bentry1, pV bentry2]), (7, .slice a1 l1.length l1.length), (8, iV i1), (9, iV i2), (13, iV (l1.length : Int)), (14, iV i1), (26, iV (x3.length : Int)), (27, iV i2)] ?_
     obtain ⟨x5, hx3, hB2⟩ := M.bind_some hB2
     obtain ⟨hx3l, hx3u, hx3⟩ := M.idx_some hx3
     have H13 := H11.toRows
     obtain ⟨a4, c2, H14⟩ := H13.pinRow hx3
     obtain ⟨x6, hx4, hB2⟩ := M.bind_some hB2
     obtain ⟨x7, hx5, hB2⟩ := M.bind_some hB2
     obtain ⟨hx5l, hx5u, hx5⟩ := M.idx_some hx5
     refine Run_D (fun x => Hold h x [rowsP cd2 24 a1 l1.length l1.length s2 [(i1.toNat, a4, x5.length, c2, x5)]]) (fun x => Hold h x [rowsP cd2 24 a1 l1.length l1.length s2 [(i1.toNat, a4, x5.length, c2, x5)]]) mixed (by kernel_rfl) H14 Hold.stable (fun x Hy => (show Hold h x [rowsP cd2 24 a1 l1.length l1.length s2 [(i1.toNat, a4, x5.length, c2, x5)]] from Hy).pk [0]) ?_
     refine ZB 9 [.slice a1 l1.length l1.length, iV i1] 0 ?_
     refine ZY 8 2 (.pointer (some (adr a1 (i1.toNat * 1)))) (fun hx Hx => (YE.of (Zi 22 24 1 (a1) (l1.length) (l1.length) .i64 (i1) Tryz.underlying22 ((H11.rd 0 rfl).cell hx3).1 hx3l (by rw [← (H11.len 0 rfl)]; exact hx3u)))) ?_
     refine ZY 7 3 (.slice a4 x5.length c2) (fun hx Hx => (YE.of (Zl 24 (adr a1 (i1.toNat * 1)) (.slice a4 x5.length c2) (Hx.cellPin 0 rfl 0 rfl)))) ?_
     refine ZB 3 [iV i2, .func (.func 112) #[] #[pV bentry0, pV bentry1, pV bentry2], iV i1, iV i2] 4 ?_
     refine ZY 2 8 (iV x6) (fun hx Hx => (YE.of (ZQ 112 #[iV i1, iV i2, pV bentry0, pV bentry1, pV bentry2] (w_impl_criticalMatrix_1 hx i1 i2 entry0 aentry0 centry0 (rentry0.at Hx.ext) bentry0 (ventry0.at Hx.ext) entry1 aentry1 centry1 (rentry1.at Hx.ext) bentry1 (ventry1.at Hx.ext) entry2 aentry2 centry2 (rentry2.at Hx.ext) bentry2 (ventry2.at Hx.ext) _ _ hx4)))) ?_
     refine ZY 1 9 (.pointer (some (adr a4 (i2.toNat * 1)))) (fun hx Hx => (YE.of (Zi 24 2 1 (a4) (x5.length) (c2) .i64 (i2) Tryz.underlying24 ((H14.rdPin 0 rfl 0 rfl).cell hx5).1 hx5l hx5u))) ?_
     refine ZT 10 (fun h8 H15 => ?_)
     have H16 : Hold h h8 [rowsP cd2 24 a1 l1.length l1.length s2 [(i1.toNat, a4, x5.length, c2, x5)]] := H15
     obtain ⟨l4, hu2, hB2⟩ := M.bind_some hB2
     have hu2 := M.upd_some hu2
     refine Ze ?_
     refine E_put2 (C := cd2) (t := 2) (sz := 1) (j := i2) (x := x6) (v := iV x6) (m2 := s2.set i1.toNat l4) H16 cd2_flat 0 rfl (by kernel_rfl) rfl (cd2_own _) (by kernel_rfl) hu2 rfl (fun h9 H17 => ?_)
     refine Zx ?_
     refine Zk [1, 2, 7, 8, 13, 14, 26, 27] [(1, iV n_), (2, .func (.func 112) #[] #[pV bentry0, pV bentry1, pV bentry2]), (7, .slice a1 l1.length l1.length), (8, iV i1), (13, iV (l1.length : Int)), (14, iV i1), (26, iV (x3.length : Int)), (27, iV i2)] ?_
     refine Run_blk ?_
     refine Zg 2 [(1, iV n_), (2, .func (.func 112) #[] #[pV bentry0, pV bentry1, pV bentry2]), (7, .slice a1 l1.length l1.length), (8, iV i1), (13, iV (l1.length : Int)), (14, iV i1), (26, iV (x3.length : Int)), (27, iV (i2 + 1))] ?_ ?_
     ·refine Zy (iV (i2 + 1)) (Y_eq (v := iV (w64 (i2 + 1))) (Y_pure (fun w => by kernel_rfl)) (by rw [w64_eq _ (by omega)])) ?_
      refine Zb [iV (i2 + 1)] 1 ?_
      exact Zd [1, 2, 7, 8, 13, 14, 26, 27]
     have H18 := H17.ofRows
     have hB2 := M.ret_some hB2
     have gx4 := hgoy2 _ hB2.symm
     exact Za [1, 2, 7, 8, 13, 14, 26, 27] my2 ⟨i2 + 1, (s2.set i1.toNat l4), by omega, gx4, rfl, H18⟩
    ·have gx4 := M.for_end gx4 hb2
     subst gx4
     refine Run_exit (k' := _) rfl ?_
     exact Zf [1, 2, 7, 13, 14] ⟨rfl, H11⟩
  ·have gx1 := M.for_end gx1 hb1
   subst gx1
   refine Run_exit (k' := _) rfl ?_
   exact Zf [7] ⟨rfl, H2⟩

theorem w_impl_criticalMatrix (h : Heap) (a_ : List (List Int)) (aa_ : Option Addr) (ca_ : Nat) (ra_ : Rd cd24 h (Lt h) aa_ ca_ a_) (mean : TRatio) (n : Nat) (r : (List (List Int))) (hF : impl_criticalMatrix a_ mean n = some r) :
  Fn Tryz.prog 70 #[.slice aa_ a_.length ca_, .agg #[iV mean.Num, iV mean.Den]] h fun v h' => ∃ (a0 : Option Addr) (c0 : Nat), v = .slice a0 r.length c0 ∧ Hold h h' [own cd24 a0 r.length c0 r] := by
 unfold impl_criticalMatrix at hF
 refine Zo [.slice aa_ a_.length ca_, .agg #[iV mean.Num, iV mean.Den]] Tryz.func70 rfl (fun w0 _ => ?_)
 have H0 := Hold.init h
 refine Zs ?_
 refine Run_ops ?_
 refine Ze ?_
 refine E_box (ty := 22) (cs := [.slice aa_ a_.length ca_]) H0 (fun w => by kernel_rfl) (fun b1 h1 H1 => ?_)
 refine Ze ?_
 refine E_box (ty := 44) (cs := [iV mean.Num, iV mean.Den]) H1 (fun w => by kernel_rfl) (fun b2 h2 H2 => ?_)
 refine Zr [.slice none 0 0] 2 ?_
 refine Zx ?_
 refine Zk [2, 3] [(2, pV b1), (3, pV b2)] ?_
 refine Zs ?_
 refine Run_ops ?_
 refine Zz (.slice aa_ a_.length ca_) (Zl 22 (⟨b1, 0, none⟩) (.slice aa_ a_.length ca_) (H2.cell 1 rfl rfl)) ?_
 refine Zz (.agg #[iV mean.Num, iV mean.Den]) (Y_loadA (t := 44) (n := 2) (p := ⟨b2, 0, none⟩) (cs := [iV mean.Num, iV mean.Den]) (by kernel_rfl) (fun w => by kernel_rfl) (by kernel_rfl) rfl (H2.cells (n := 2) (off := 0) 0 rfl rfl)) ?_
 obtain ⟨x1, hx1, hF⟩ := M.bind_some hF
 refine Ze ?_
 refine ZC 94 #[.slice aa_ a_.length ca_, .agg #[iV mean.Num, iV mean.Den]] (w_impl_shifted h2 a_ aa_ ca_ (ra_.at H2.ext) mean _ _ hx1) (fun v1 h3 hp1 => ?_)
 obtain ⟨a1, c1, rfl, H3⟩ := hp1
 have H4 : Hold h h3 [own cd24 a1 x1.length c1 x1, box b2 44 [iV mean.Num, iV mean.Den], box b1 22 [.slice aa_ a_.length ca_]] := H2.call H3 rfl
 refine Ze ?_
 refine E_box (ty := 22) (cs := [.slice none 0 0]) H4 (fun w => by kernel_rfl) (fun b3 h4 H5 => ?_)
 refine Ze ?_
 refine ZP 22 0 [.slice a1 x1.length c1] (.slice a1 x1.length c1) H5 (fun h5 H6 => ?_)
 refine Zx ?_
 refine Zk [2, 5] [(2, pV b1), (5, pV b3)] ?_
 refine Zs ?_
 refine Run_ops ?_
 refine Zz (.slice a1 x1.length c1) (Zl 22 (⟨b3, 0, none⟩) (.slice a1 x1.length c1) (H6.cell 0 rfl rfl)) ?_
 obtain ⟨x2, hx2, hF⟩ := M.bind_some hF
 refine Ze ?_
 refine ZC 93 #[.slice a1 x1.length c1] (w_impl_starOf h5 x1 a1 c1 (H6.rd 1 rfl) _ _ hx2) (fun v2 h6 hp2 => ?_)
 obtain ⟨a2, c2, rfl, H7⟩ := hp2
 have H8 : Hold h h6 [own cd24 a2 x2.1.length c2 x2.1, box b3 22 [.slice a1 x1.length c1], own cd24 a1 x1.length c1 x1, box b2 44 [iV mean.Num, iV mean.Den], box b1 22 [.slice aa_ a_.length ca_]] := H6.call H7 rfl
 refine Zr [.tuple #[.slice a2 x2.1.length c2, .bool x2.2], .slice a2 x2.1.length c2, .bool x2.2] 2 ?_
 refine Ze ?_
 refine E_box (ty := 22) (cs := [.slice none 0 0]) H8 (fun w => by kernel_rfl) (fun b4 h7 H9 => ?_)
 refine Ze ?_
 refine ZP 22 0 [.slice a2 x2.1.length c2] (.slice a2 x2.1.length c2) H9 (fun h8 H10 => ?_)
 refine Zr [.bool x2.2] 7 ?_
 refine Zx ?_
 refine Zk [2, 5, 6] [(2, pV b1), (5, pV b3), (6, pV b4)] ?_
 refine Zs ?_
 refine Run_ops ?_
 refine Zz (.slice aa_ a_.length ca_) (Zl 22 (⟨b1, 0, none⟩) (.slice aa_ a_.length ca_) (H10.cell 5 rfl rfl)) ?_
 refine Zr [iV (a_.length : Int)] 1 ?_
 refine Zz (.slice aa_ a_.length ca_) (Zl 22 (⟨b1, 0, none⟩) (.slice aa_ a_.length ca_) (H10.cell 5 rfl rfl)) ?_
 refine Zr [iV (a_.length : Int), .func (.func 112) #[] #[pV b3, pV b4, pV b1]] 3 ?_
 obtain ⟨x3, hx3, hF⟩ := M.bind_some hF
 refine Ze ?_
 refine ZC 109 #[iV (a_.length : Int), iV (a_.length : Int), .func (.func 112) #[] #[pV b3, pV b4, pV b1]] (w_impl_matrixBy_F_impl_criticalMatrix_1 h8 (a_.length : Int) (a_.length : Int) x1 a1 c1 (H10.rd 3 rfl) b3 (H10.var 2 rfl) x2.1 a2 c2 (H10.rd 1 rfl) b4 (H10.var 0 rfl) a_ aa_ ca_ (ra_.at H10.ext) b1 (H10.var 5 rfl) _ _ hx3) (fun v3 h9 hp3 => ?_)
 obtain ⟨a3, c3, rfl, H11⟩ := hp3
 have H12 : Hold h h9 [own cd24 a3 x3.length c3 x3, box b4 22 [.slice a2 x2.1.length c2], own cd24 a2 x2.1.length c2 x2.1, box b3 22 [.slice a1 x1.length c1], own cd24 a1 x1.length c1 x1, box b2 44 [iV mean.Num, iV mean.Den], box b1 22 [.slice aa_ a_.length ca_]] := H10.call H11 rfl
 refine Zr [.slice a3 x3.length c3] 6 ?_
 refine Zx ?_
 refine Zk [4] [(4, .slice a3 x3.length c3)] ?_
 have hF := M.ret_some hF
 subst hF
 have H13 : Hold h h9 [own cd24 a3 x3.length c3 x3] := H12.pk [0]
 exact Run_ret1 rfl (Zt (.slice a3 x3.length c3)) ⟨a3, c3, rfl, H13⟩

theorem w_impl_criticalOf (h : Heap) (a_ : List (List Int)) (aa_ : Option Addr) (ca_ : Nat) (ra_ : Rd cd24 h (Lt h) aa_ ca_ a_) (n : Nat) (r : (List (List Int)) × Int) (hF : impl_criticalOf a_ n = some r) :
  Fn Tryz.prog 38 #[.slice aa_ a_.length ca_] h fun v h' => ∃ (a0 : Option Addr) (c0 : Nat), v = .tuple #[.slice a0 r.1.length c0, iV r.2] ∧ Hold h h' [own cd24 a0 r.1.length c0 r.1] := by
 unfold impl_criticalOf at hF
 refine Zo [.slice aa_ a_.length ca_] Tryz.func38 rfl (fun w0 _ => ?_)
 have H0 := Hold.init h
 refine Zs ?_
 refine Zq [.slice none 0 0, iV 0] [0] [(0, .slice aa_ a_.length ca_)] ?_
 refine Zs ?_
 refine Zs ?_
 obtain ⟨x1, hx1, hF⟩ := M.bind_some hF
 refine Run_regC (j := 3) (C := fun x => Hold h x []) (by kernel_rfl) H0 (L' := [(0, .slice aa_ a_.length ca_), (8, .bool (!x1))]) ?_ (fun h1 H1 => ?_)
 ·refine Zb [.slice aa_ a_.length ca_] 0 ?_
  refine Zy (.bool x1) (Y_call (f := 50) (args := #[.slice aa_ a_.length ca_]) (v := .bool x1) (by kernel_rfl) fun hx Hx => (w_impl_isSquare hx a_ aa_ ca_ (ra_.at Hx.ext) _ _ hx1).mono fun _ _ ⟨e, H'⟩ => ⟨e, Hx.call H' rfl⟩) ?_
  refine Zb [.bool (!x1)] 2 ?_
  exact Zd [0, 8]
 have H2 : Hold h h1 [] := H1
 refine Zc (!x1) (fun hb1 => ?_) (fun hb1 => ?_)
 ·have hF := (M.ite_some hF).1 hb1
  refine Zs ?_
  refine Zq [.slice none 0 0, iV 1] [2, 3] [(2, .slice none 0 0), (3, iV 1)] ?_
  have hF := M.ret_some hF
  subst hF
  have H3 := H2.empty cd24
  exact Run_ret2 rfl (Zt (.slice none 0 0)) (Zt (iV 1)) ⟨none, 0, rfl, H3⟩
 ·have hF := (M.ite_some hF).2 hb1
  refine Run_skip ?_
  refine Zs ?_
  refine Run_ops ?_
  refine Zr [.slice aa_ a_.length ca_] 0 ?_
  obtain ⟨x2, hx2, hF⟩ := M.bind_some hF
  refine Ze ?_
  refine ZC 51 #[.slice aa_ a_.length ca_] (w_impl_cycleMean h1 a_ aa_ ca_ (ra_.at H2.ext) _ _ hx2) (fun v1 h2 hp1 => ?_)
  obtain ⟨rfl, H4⟩ := hp1
  have H5 : Hold h h2 [] := H2.call H4 rfl
  refine Zr [.tuple #[.agg #[iV x2.1.Num, iV x2.1.Den], .bool x2.2], .agg #[iV x2.1.Num, iV x2.1.Den], .bool x2.2] 2 ?_
  refine Ze ?_
  refine E_box (ty := 44) (cs := [iV 0, iV 0]) H5 (fun w => by kernel_rfl) (fun b1 h3 H6 => ?_)
  refine Ze ?_
  refine ZP 44 0 [iV x2.1.Num, iV x2.1.Den] (.agg #[iV x2.1.Num, iV x2.1.Den]) H6 (fun h4 H7 => ?_)
  refine Zr [.bool x2.2] 7 ?_
  refine Zx ?_
  refine Zk [0, 4, 5] [(0, .slice aa_ a_.length ca_), (4, pV b1), (5, .bool x2.2)] ?_
  refine Zs ?_
  refine Zs ?_
  refine Zq [.bool x2.2, .bool (!x2.2)] [0, 4, 15] [(0, .slice aa_ a_.length ca_), (4, pV b1), (15, .bool (!x2.2))] ?_
  refine Zc (!x2.2) (fun hb2 => ?_) (fun hb2 => ?_)
  ·have hF := (M.ite_some hF).1 hb2
   refine Zs ?_
   refine Zq [.slice none 0 0, iV 4] [2, 3] [(2, .slice none 0 0), (3, iV 4)] ?_
   have hF := M.ret_some hF
   subst hF
   have H8 := H7.empty cd24
   have H9 : Hold h h4 [own cd24 none 0 0 []] := H8.pk [0]
   exact Run_ret2 rfl (Zt (.slice none 0 0)) (Zt (iV 4)) ⟨none, 0, rfl, H9⟩
  ·have hF := (M.ite_some hF).2 hb2
   refine Run_skip ?_
   refine Zs ?_
   refine Run_ops ?_
   refine Zr [.slice aa_ a_.length ca_] 0 ?_
   refine Zz (.agg #[iV x2.1.Num, iV x2.1.Den]) (Y_loadA (t := 44) (n := 2) (p := ⟨b1, 0, none⟩) (cs := [iV x2.1.Num, iV x2.1.Den]) (by kernel_rfl) (fun w => by kernel_rfl) (by kernel_rfl) rfl (H7.cells (n := 2) (off := 0) 0 rfl rfl)) ?_
   obtain ⟨x3, hx3, hF⟩ := M.bind_some hF
   refine Ze ?_
   refine ZC 70 #[.slice aa_ a_.length ca_, .agg #[iV x2.1.Num, iV x2.1.Den]] (w_impl_criticalMatrix h4 a_ aa_ ca_ (ra_.at H7.ext) x2.1 _ _ hx3) (fun v2 h5 hp2 => ?_)
   obtain ⟨a1, c1, rfl, H10⟩ := hp2
   have H11 : Hold h h5 [own cd24 a1 x3.length c1 x3, box b1 44 [iV x2.1.Num, iV x2.1.Den]] := H7.call H10 rfl
   refine Zr [.slice a1 x3.length c1, iV 0] 3 ?_
   refine Zx ?_
   refine Zk [2, 3] [(2, .slice a1 x3.length c1), (3, iV 0)] ?_
   have hF := M.ret_some hF
   subst hF
   have H12 : Hold h h5 [own cd24 a1 x3.length c1 x3] := H11.pk [0]
   exact Run_ret2 rfl (Zt (.slice a1 x3.length c1)) (Zt (iV 0)) ⟨a1, c1, rfl, H12⟩

theorem w_impl_CriticalArcs (h : Heap) (a_ : List (List Int)) (aa_ : Option Addr) (ca_ : Nat) (ra_ : Rd cd24 h (Lt h) aa_ ca_ a_) (n : Nat) (r : (List (List Int)) × Int) (hF : impl_CriticalArcs a_ n = some r) :
  Fn Tryz.prog 17 #[.slice aa_ a_.length ca_] h fun v h' => ∃ (a0 : Option Addr) (c0 : Nat), v = .tuple #[.slice a0 r.1.length c0, iV r.2] ∧ Hold h h' [own cd24 a0 r.1.length c0 r.1] := by
 unfold impl_CriticalArcs at hF
 refine Zo [.slice aa_ a_.length ca_] Tryz.func17 rfl (fun w0 _ => ?_)
 have H0 := Hold.init h
 refine Zs ?_
 refine Zq [.slice none 0 0, iV 0] [0] [(0, .slice aa_ a_.length ca_)] ?_
 refine Zs ?_
 refine Run_ops ?_
 refine Zr [.slice aa_ a_.length ca_] 0 ?_
 obtain ⟨x1, hx1, hF⟩ := M.bind_some hF
 refine Ze ?_
 refine ZC 38 #[.slice aa_ a_.length ca_] (w_impl_criticalOf h a_ aa_ ca_ ra_ _ _ hx1) (fun v1 h1 hp1 => ?_)
 obtain ⟨a1, c1, rfl, H1⟩ := hp1
 have H2 : Hold h h1 [own cd24 a1 x1.1.length c1 x1.1] := H0.call H1 rfl
 refine Zr [.tuple #[.slice a1 x1.1.length c1, iV x1.2], .slice a1 x1.1.length c1, iV x1.2, .slice a1 x1.1.length c1, iV x1.2] 2 ?_
 refine Zx ?_
 refine Zk [4, 5] [(4, .slice a1 x1.1.length c1), (5, iV x1.2)] ?_
 refine Zs ?_
 refine Zs ?_
 refine Zq [iV x1.2, .bool (x1.2 != 0)] [4, 5, 15] [(4, .slice a1 x1.1.length c1), (5, iV x1.2), (15, .bool (x1.2 != 0))] ?_
 refine Zc (x1.2 != 0) (fun hb1 => ?_) (fun hb1 => ?_)
 ·have hF := (M.ite_some hF).1 hb1
  refine Zs ?_
  refine Zq [iV x1.2, .slice none 0 0, iV x1.2] [2, 3] [(2, .slice none 0 0), (3, iV x1.2)] ?_
  have hF := M.ret_some hF
  subst hF
  have H3 := H2.empty cd24
  have H4 : Hold h h1 [own cd24 none 0 0 []] := H3.pk [0]
  exact Run_ret2 rfl (Zt (.slice none 0 0)) (Zt (iV x1.2)) ⟨none, 0, rfl, H4⟩
 ·have hF := (M.ite_some hF).2 hb1
  refine Run_skip ?_
  refine Zs ?_
  refine Zq [.slice none 0 0] [4, 6] [(4, .slice a1 x1.1.length c1), (6, .slice none 0 0)] ?_
  refine Zs ?_
  refine Zs ?_
  refine Zq [.slice a1 x1.1.length c1, iV (x1.1.length : Int), iV 0] [4, 6, 18, 19] [(4, .slice a1 x1.1.length c1), (6, .slice none 0 0), (18, iV (x1.1.length : Int)), (19, iV 0)] ?_
  obtain ⟨x2, gx2, hF⟩ := M.bind_some hF
  obtain ⟨hloy1, hhiy1, gx2⟩ := M.for_start gx2
  refine Run_join (fun L' h' => ∃ (a3 : Option Addr) (c3 : Nat), L' = [(6, .slice a3 x2.length c3)] ∧ Hold h h' [own cd24 a3 x2.length c3 x2]) ?_ ?_
  ·rintro _ h3 ⟨a3, c3, rfl, H6⟩
   refine Zs ?_
   refine Zq [.slice a3 x2.length c3, .slice a3 x2.length c3, iV 0] [2, 3] [(2, .slice a3 x2.length c3), (3, iV 0)] ?_
   have hF := M.ret_some hF
   subst hF
   exact Run_ret2 rfl (Zt (.slice a3 x2.length c3)) (Zt (iV 0)) ⟨a3, c3, rfl, H6⟩
  ·refine Run_block ?_
   have H35 := H2.empty cd24
   have H36 : Hold h h1 [own cd24 a1 x1.1.length c1 x1.1, own cd24 none 0 0 []] := H35.pk [1, 0]
   refine Zk [4, 6, 18, 19] [(4, .slice a1 x1.1.length c1), (6, .slice none 0 0), (18, iV (x1.1.length : Int)), (19, iV 0)] ?_
   refine Run_loop (fun m L' h' => ∃ (i1 : Int) (s1 : (List (List Int))) (a2 : Option Addr) (c2 : Nat), 0 ≤ i1 ∧ M.forN (x1.1.length : Int) _ _ n m i1 s1 = some x2 ∧ L' = [(4, .slice a1 x1.1.length c1), (6, .slice a2 s1.length c2), (18, iV (x1.1.length : Int)), (19, iV i1)] ∧ Hold h h' [own cd24 a1 x1.1.length c1 x1.1, own cd24 a2 s1.length c2 s1]) ((x1.1.length : Int) - 0 : Int).toNat ⟨0, [], none, 0, Int.le_refl _, gx2, rfl, H36⟩ ?_
   rintro my1 _ h2 ⟨i1, s1, a2, c2, hloy1', gx2, rfl, H5⟩
   refine Zs ?_
   refine Zq [.bool (decide (i1 < (x1.1.length : Int)))] [4, 6, 18, 19, 20] [(4, .slice a1 x1.1.length c1), (6, .slice a2 s1.length c2), (18, iV (x1.1.length : Int)), (19, iV i1), (20, .bool (decide (i1 < (x1.1.length : Int))))] ?_
   refine Zs ?_
   refine Zc (decide (i1 < (x1.1.length : Int))) (fun hb2 => ?_) (fun hb2 => ?_)
   ·obtain ⟨my1, y1, rfl, hB1, hgoy1, houty1⟩ := M.for_go gx2 hb2
    have hlty1 := of_decide_eq_true hb2
    refine Run_skip ?_
    refine Zs ?_
    refine Run_block ?_
    refine Zs ?_
    refine Zq [iV i1, iV i1] [4, 6, 7, 18, 19] [(4, .slice a1 x1.1.length c1), (6, .slice a2 s1.length c2), (7, iV i1), (18, iV (x1.1.length : Int)), (19, iV i1)] ?_
    refine Zs ?_
    refine Zq [.slice a1 x1.1.length c1, iV (x1.1.length : Int), iV 0] [4, 6, 7, 18, 19, 23, 24] [(4, .slice a1 x1.1.length c1), (6, .slice a2 s1.length c2), (7, iV i1), (18, iV (x1.1.length : Int)), (19, iV i1), (23, iV (x1.1.length : Int)), (24, iV 0)] ?_
    obtain ⟨x3, gx3, hB1⟩ := M.bind_some hB1
    obtain ⟨hloy2, hhiy2, gx3⟩ := M.for_start gx3
    refine Run_join (fun L' h' => ∃ (a5 : Option Addr) (c5 : Nat), L' = [(4, .slice a1 x1.1.length c1), (6, .slice a5 x3.length c5), (18, iV (x1.1.length : Int)), (19, iV i1)] ∧ Hold h h' [own cd24 a1 x1.1.length c1 x1.1, own cd24 a5 x3.length c5 x3]) ?_ ?_
    ·rintro _ h5 ⟨a5, c5, rfl, H8⟩
     refine Run_blk ?_
     refine Zg 2 [(4, .slice a1 x1.1.length c1), (6, .slice a5 x3.length c5), (18, iV (x1.1.length : Int)), (19, iV (i1 + 1))] ?_ ?_
     ·refine Zy (iV (i1 + 1)) (Y_eq (v := iV (w64 (i1 + 1))) (Y_pure (fun w => by kernel_rfl)) (by rw [w64_eq _ (by omega)])) ?_
      refine Zb [iV (i1 + 1)] 1 ?_
      exact Zd [4, 6, 18, 19]
     have H29 : Hold h h5 [own cd24 a5 x3.length c5 x3, own cd24 a1 x1.1.length c1 x1.1] := H8.pk [1, 0]
     have H30 : Hold h h5 [own cd24 a1 x1.1.length c1 x1.1, own cd24 a5 x3.length c5 x3] := H29.pk [1, 0]
     have hB1 := M.ret_some hB1
     have gx2 := hgoy1 _ hB1.symm
     exact Za [4, 6, 18, 19] my1 ⟨i1 + 1, x3, a5, c5, by omega, gx2, rfl, H30⟩
    ·refine Run_block ?_
     have H31 : Hold h h2 [own cd24 a2 s1.length c2 s1, own cd24 a1 x1.1.length c1 x1.1] := H5.pk [1, 0]
     have H32 : Hold h h2 [own cd24 a1 x1.1.length c1 x1.1, own cd24 a2 s1.length c2 s1] := H31.pk [1, 0]
     refine Zk [4, 6, 7, 18, 19, 23, 24] [(4, .slice a1 x1.1.length c1), (6, .slice a2 s1.length c2), (7, iV i1), (18, iV (x1.1.length : Int)), (19, iV i1), (23, iV (x1.1.length : Int)), (24, iV 0)] ?_
     refine Run_loop (fun m L' h' => ∃ (i2 : Int) (s2 : (List (List Int))) (a4 : Option Addr) (c4 : Nat), 0 ≤ i2 ∧ M.forN (x1.1.length : Int) _ _ n m i2 s2 = some x3 ∧ L' = [(4, .slice a1 x1.1.length c1), (6, .slice a4 s2.length c4), (7, iV i1), (18, iV (x1.1.length : Int)), (19, iV i1), (23, iV (x1.1.length : Int)), (24, iV i2)] ∧ Hold h h' [own cd24 a1 x1.1.length c1 x1.1, own cd24 a4 s2.length c4 s2]) ((x1.1.length : Int) - 0 : Int).toNat ⟨0, s1, a2, c2, Int.le_refl _, gx3, rfl, H32⟩ ?_
     rintro my2 _ h4 ⟨i2, s2, a4, c4, hloy2', gx3, rfl, H7⟩
     refine Zs ?_
     refine Zq [.bool (decide (i2 < (x1.1.length : Int)))] [4, 6, 7, 18, 19, 23, 24, 25] [(4, .slice a1 x1.1.length c1), (6, .slice a4 s2.length c4), (7, iV i1), (18, iV (x1.1.length : Int)), (19, iV i1), (23, iV (x1.1.length : Int)), (24, iV i2), (25, .bool (decide (i2 < (x1.1.length : Int))))] ?_
     refine Zs ?_
     refine Zc (decide (i2 < (x1.1.length : Int))) (fun hb3 => ?_) (fun hb3 => ?_)
     ·obtain ⟨my2, y2, rfl, hB2, hgoy2, houty2⟩ := M.for_go gx3 hb3
      have hlty2 := of_decide_eq_true hb3
      refine Run_skip ?_
      refine Zs ?_
      refine Run_block ?_
      refine Zs ?_
      refine Zq [iV i2, iV i2] [4, 6, 7, 8, 18, 19, 23, 24] [(4, .slice a1 x1.1.length c1), (6, .slice a4 s2.length c4), (7, iV i1), (8, iV i2), (18, iV (x1.1.length : Int)), (19, iV i1), (23, iV (x1.1.length : Int)), (24, iV i2)] ?_
      refine Zs ?_
      obtain ⟨x4, hx2, hB2⟩ := M.bind_some hB2
      obtain ⟨hx2l, hx2u, hx2⟩ := M.idx_some hx2
      have H9 := H7.toRows
      obtain ⟨a6, c6, H10⟩ := H9.pinRow hx2
      obtain ⟨x5, hx3, hB2⟩ := M.bind_some hB2
      obtain ⟨hx3l, hx3u, hx3⟩ := M.idx_some hx3
      refine Zg 8 [(4, .slice a1 x1.1.length c1), (6, .slice a4 s2.length c4), (7, iV i1), (8, iV i2), (18, iV (x1.1.length : Int)), (19, iV i1), (23, iV (x1.1.length : Int)), (24, iV i2), (34, .bool (x5 != (-1000000000000000)))] ?_ ?_
      ·refine Zb [.slice a1 x1.1.length c1, iV i2] 0 ?_
       refine Zy (.pointer (some (adr a1 (i2.toNat * 1)))) (Zi 22 24 1 (a1) (x1.1.length) (c1) .i64 (i2) Tryz.underlying22 ((H7.rd 0 rfl).cell hx2).1 hx2l hx2u) ?_
       refine Zy (.slice a6 x4.length c6) (Zl 24 (adr a1 (i2.toNat * 1)) (.slice a6 x4.length c6) (H10.cellPin 0 rfl 0 rfl)) ?_
       refine Zb [iV i1] 4 ?_
       refine Zy (.pointer (some (adr a6 (i1.toNat * 1)))) (Zi 24 2 1 (a6) (x4.length) (c6) .i64 (i1) Tryz.underlying24 ((H10.rdPin 0 rfl 0 rfl).cell hx3).1 hx3l hx3u) ?_
       refine Zy (iV x5) (Zl 2 (adr a6 (i1.toNat * 1)) (iV x5) (cd2_cell (H10.rdPin 0 rfl 0 rfl) hx3)) ?_
       refine Zb [.bool (x5 != (-1000000000000000))] 7 ?_
       exact Zd [4, 6, 7, 8, 18, 19, 23, 24, 34]
      obtain ⟨s3, gs3, hB2⟩ := M.bind_some hB2
      refine Run_join (fun L' h' => ∃ (a10 : Option Addr), ∃ (c8 : Nat), L' = [(4, .slice a1 x1.1.length c1), (6, .slice a10 s3.length c8), (7, iV i1), (18, iV (x1.1.length : Int)), (19, iV i1), (23, iV (x1.1.length : Int)), (24, iV i2)] ∧ Hold h h' [own cd24 a1 x1.1.length c1 x1.1, own cd24 a10 s3.length c8 s3]) ?_ ?_
      ·rintro _ h9 ⟨a10, c8, rfl, H17⟩
       refine Run_blk ?_
       refine Zg 2 [(4, .slice a1 x1.1.length c1), (6, .slice a10 s3.length c8), (7, iV i1), (18, iV (x1.1.length : Int)), (19, iV i1), (23, iV (x1.1.length : Int)), (24, iV (i2 + 1))] ?_ ?_
       ·refine Zy (iV (i2 + 1)) (Y_eq (v := iV (w64 (i2 + 1))) (Y_pure (fun w => by kernel_rfl)) (by rw [w64_eq _ (by omega)])) ?_
        refine Zb [iV (i2 + 1)] 1 ?_
        exact Zd [4, 6, 7, 18, 19, 23, 24]
       have H25 : Hold h h9 [own cd24 a10 s3.length c8 s3, own cd24 a1 x1.1.length c1 x1.1] := H17.pk [1, 0]
       have H26 : Hold h h9 [own cd24 a1 x1.1.length c1 x1.1, own cd24 a10 s3.length c8 s3] := H25.pk [1, 0]
       have hB2 := M.ret_some hB2
       have gx3 := hgoy2 _ hB2.symm
       exact Za [4, 6, 7, 18, 19, 23, 24] my2 ⟨i2 + 1, s3, a10, c8, by omega, gx3, rfl, H26⟩
      ·refine Zc (x5 != (-1000000000000000)) (fun hb4 => ?_) (fun hb4 => ?_)
       ·have gs3 := (M.ite_some gs3).1 hb4
        refine Run_ops ?_
        refine Zr [.slice a4 s2.length c4, iV i1, iV i2] 0 ?_
        refine Ze ?_
        refine E_lit (C := cd2) (n := 2) (l := ([i1, i2] : List Int)) (cs := [iV i1, iV i2]) H10 (fun w => by kernel_rfl) (Enc.consE (cd2_own i1 _) (Enc.consE (cd2_own i2 _) (Enc.nil _ _) rfl) rfl) rfl (by decide) (fun a7 h6 H11 => ?_)
        refine Ze ?_
        refine E_lit1 (ey := 24) (n := 2) H11 (fun w => by kernel_rfl) rfl (fun a8 h7 H12 => ?_)
        obtain ⟨l1, hl1, gs3⟩ := M.bind_some gs3
        have hl1 := M.app_some hl1
        have H13 : Hold h h7 [own cd24 a4 s2.length c4 s2, own cd24 a8 1 1 [([i1, i2] : List Int)], rowsP cd2 24 a1 x1.1.length c1 x1.1 [(i2.toNat, a6, x4.length, c6, x4)]] := H12.pk [2, 0, 1]
        have H14 : Hold h h7 [own cd24 a8 1 1 [([i1, i2] : List Int)], own cd24 a4 s2.length c4 s2, rowsP cd2 24 a1 x1.1.length c1 x1.1 [(i2.toNat, a6, x4.length, c6, x4)]] := H13.pk [1, 0, 2]
        have H15 : Hold h h7 [own cd24 a4 s2.length c4 s2, own cd24 a8 1 1 [([i1, i2] : List Int)], rowsP cd2 24 a1 x1.1.length c1 x1.1 [(i2.toNat, a6, x4.length, c6, x4)]] := H14.pk [1, 0, 2]
        refine Ze ?_
        refine E_app (C := cd24) (t := 22) (ty := 22) (n := s2.length) (m := 1) H15 cd24_ti rfl Tryz.underlying22 (by decide) (by kernel_rfl) hl1 (fun a9 c7 h8 H16 => ?_)
        refine Zr [.slice a9 l1.length c7] 6 ?_
        refine Zx ?_
        refine Zk [4, 6, 7, 18, 19, 23, 24] [(4, .slice a1 x1.1.length c1), (6, .slice a9 l1.length c7), (7, iV i1), (18, iV (x1.1.length : Int)), (19, iV i1), (23, iV (x1.1.length : Int)), (24, iV i2)] ?_
        have H18 : Hold h h8 [rowsP cd2 24 a1 x1.1.length c1 x1.1 [(i2.toNat, a6, x4.length, c6, x4)], own cd24 a9 l1.length c7 l1] := H16.pk [1, 0]
        have H19 := H18.ofRows
        have H20 : Hold h h8 [own cd24 a9 l1.length c7 l1, own cd24 a1 x1.1.length c1 x1.1] := H19.pk [1, 0]
        have H21 : Hold h h8 [own cd24 a1 x1.1.length c1 x1.1, own cd24 a9 l1.length c7 l1] := H20.pk [1, 0]
        have gs3 := M.ret_some gs3
        subst gs3
        exact Zf [4, 6, 7, 18, 19, 23, 24] ⟨a9, c7, rfl, H21⟩
       ·have gs3 := (M.ite_some gs3).2 hb4
        refine Run_skip ?_
        have H22 := H10.ofRows
        have H23 : Hold h h4 [own cd24 a4 s2.length c4 s2, own cd24 a1 x1.1.length c1 x1.1] := H22.pk [1, 0]
        have H24 : Hold h h4 [own cd24 a1 x1.1.length c1 x1.1, own cd24 a4 s2.length c4 s2] := H23.pk [1, 0]
        have gs3 := M.ret_some gs3
        subst gs3
        exact Zf [4, 6, 7, 18, 19, 23, 24] ⟨a4, c4, rfl, H24⟩
     ·have gx3 := M.for_end gx3 hb3
      subst gx3
      refine Run_exit (k' := _) rfl ?_
      have H27 : Hold h h4 [own cd24 a4 s2.length c4 s2, own cd24 a1 x1.1.length c1 x1.1] := H7.pk [1, 0]
      have H28 : Hold h h4 [own cd24 a1 x1.1.length c1 x1.1, own cd24 a4 s2.length c4 s2] := H27.pk [1, 0]
      exact Zf [4, 6, 18, 19] ⟨a4, c4, rfl, H28⟩
   ·have gx2 := M.for_end gx2 hb2
    subst gx2
    refine Run_exit (k' := _) rfl ?_
    have H33 : Hold h h2 [own cd24 a2 s1.length c2 s1, own cd24 a1 x1.1.length c1 x1.1] := H5.pk [1, 0]
    have H34 : Hold h h2 [own cd24 a2 s1.length c2 s1] := H33.pk [0]
    exact Zf [6] ⟨a2, c2, rfl, H34⟩

theorem w_spec_l01Has (h : Heap) (list : List Int) {Slist : Bs} (alist : Option Addr) (clist : Nat) (rlist : Rd cd2 h Slist alist clist list) (x_ : Int) (n : Nat) (r : Bool) (hF : spec_l01Has list x_ n = some r) :
  Fn Tryz.prog 69 #[.slice alist list.length clist, iV x_] h fun v h' => v = .bool r ∧ h' = h := by
 unfold spec_l01Has at hF
 refine Zo [.slice alist list.length clist, iV x_] Tryz.func69 rfl (fun w0 _ => ?_)
 refine Zs ?_
 refine Zq [.bool false] [0, 1] [(0, .slice alist list.length clist), (1, iV x_)] ?_
 refine Zs ?_
 refine Zs ?_
 refine Zq [iV 0] [0, 1, 5] [(0, .slice alist list.length clist), (1, iV x_), (5, iV 0)] ?_
 obtain ⟨x1, gx1, hF⟩ := M.bind_some hF
 obtain ⟨hloy1, hhiy1, gx1⟩ := M.for_start gx1
 refine Run_join (fun L' h' => ∃ (s2 : Unit), x1 = .inl s2 ∧ L' = [] ∧ h = h') ?_ ?_
 ·rintro _ _ ⟨s2, es2, rfl, rfl⟩
  have hF := M.cont_inl' hF es2
  refine Zs ?_
  refine Zq [.bool false] [4] [(4, .bool false)] ?_
  have hF := M.ret_some hF
  subst hF
  exact Run_ret1 rfl (Zt (.bool false)) ⟨rfl, rfl⟩
 ·refine Run_block ?_
  refine Zk [0, 1, 5] [(0, .slice alist list.length clist), (1, iV x_), (5, iV 0)] ?_
  refine Run_loop (fun m L' h' => ∃ (i1 : Int) (s1 : Unit), 0 ≤ i1 ∧ M.forN (list.length : Int) _ _ n m i1 s1 = some x1 ∧ L' = [(0, .slice alist list.length clist), (1, iV x_), (5, iV i1)] ∧ h = h') ((list.length : Int) - 0 : Int).toNat ⟨0, (), Int.le_refl _, gx1, rfl, rfl⟩ ?_
  rintro my1 _ _ ⟨i1, s1, hloy1', gx1, rfl, rfl⟩
  refine Zs ?_
  refine Zs ?_
  refine Zq [iV i1, .slice alist list.length clist, iV (list.length : Int), .bool (decide (i1 < (list.length : Int)))] [0, 1, 5, 9] [(0, .slice alist list.length clist), (1, iV x_), (5, iV i1), (9, .bool (decide (i1 < (list.length : Int))))] ?_
  refine Zc (decide (i1 < (list.length : Int))) (fun hb1 => ?_) (fun hb1 => ?_)
  ·obtain ⟨my1, y1, rfl, hB1, hgoy1, houty1⟩ := M.for_go gx1 hb1
   have hlty1 := of_decide_eq_true hb1
   refine Run_skip ?_
   refine Zs ?_
   refine Run_block ?_
   refine Zs ?_
   obtain ⟨x2, hx1, hB1⟩ := M.bind_some hB1
   obtain ⟨hx1l, hx1u, hx1⟩ := M.idx_some hx1
   refine Zg 6 [(0, .slice alist list.length clist), (1, iV x_), (5, iV i1), (17, .bool (x2 == x_))] ?_ ?_
   ·refine Zb [.slice alist list.length clist, iV i1] 0 ?_
    refine Zy (.pointer (some (adr alist (i1.toNat * 1)))) (Zi 24 2 1 (alist) (list.length) (clist) .i64 (i1) Tryz.underlying24 (rlist.cell hx1).1 hx1l hx1u) ?_
    refine Zy (iV x2) (Zl 2 (adr alist (i1.toNat * 1)) (iV x2) (cd2_cell rlist hx1)) ?_
    refine Zb [iV x_, .bool (x2 == x_)] 4 ?_
    exact Zd [0, 1, 5, 17]
   refine Zc (x2 == x_) (fun hb2 => ?_) (fun hb2 => ?_)
   ·have hB1 := (M.ite_some hB1).1 hb2
    refine Zs ?_
    refine Zq [.bool true] [4] [(4, .bool true)] ?_
    have hB1 := M.ret_some hB1
    have gx1 := houty1 _ hB1.symm
    have hF := M.cont_inr' hF gx1
    have hF := M.ret_some hF
    subst hF
    exact Run_ret1 rfl (Zt (.bool true)) ⟨rfl, rfl⟩
   ·have hB1 := (M.ite_some hB1).2 hb2
    refine Run_skip ?_
    refine Run_blk ?_
    refine Zg 3 [(0, .slice alist list.length clist), (1, iV x_), (5, iV (i1 + 1))] ?_ ?_
    ·refine Zb [iV i1] 0 ?_
     refine Zy (iV (i1 + 1)) (Y_eq (v := iV (w64 (i1 + 1))) (Y_pure (fun w => by kernel_rfl)) (by rw [w64_eq _ (by omega)])) ?_
     refine Zb [iV (i1 + 1)] 2 ?_
     exact Zd [0, 1, 5]
    have hB1 := M.ret_some hB1
    have gx1 := hgoy1 _ hB1.symm
    exact Za [0, 1, 5] my1 ⟨i1 + 1, (), by omega, gx1, rfl, rfl⟩
  ·have gx1 := M.for_end gx1 hb1
   subst gx1
   refine Run_exit (k' := _) rfl ?_
   exact Zf [] ⟨(), rfl, rfl, rfl⟩

theorem w_spec_l01Own (h : Heap) (list : List Int) (alist : Option Addr) (clist : Nat) (rlist : Rd cd2 h (Lt h) alist clist list) (n : Nat) (r : (List Int)) (hF : spec_l01Own list n = some r) :
  Fn Tryz.prog 49 #[.slice alist list.length clist] h fun v h' => ∃ (a0 : Option Addr) (c0 : Nat), v = .slice a0 r.length c0 ∧ Hold h h' [own cd2 a0 r.length c0 r] := by
 unfold spec_l01Own at hF
 refine Zo [.slice alist list.length clist] Tryz.func49 rfl (fun w0 _ => ?_)
 have H0 := Hold.init h
 refine Zs ?_
 refine Zq [.slice none 0 0] [0] [(0, .slice alist list.length clist)] ?_
 refine Zs ?_
 refine Run_ops ?_
 refine Ze ?_
 refine E_lit (C := cd2) (n := 0) (l := ([] : List Int)) (cs := []) H0 (fun w => by kernel_rfl) (Enc.nil _ _) rfl (by decide) (fun a1 h1 H1 => ?_)
 refine Zr [.slice alist list.length clist] 1 ?_
 obtain ⟨l1, hl1, hF⟩ := M.bind_some hF
 have hl1 := M.app_some hl1
 refine Ze ?_
 refine E_appR (C := cd2) (t := 24) (ty := 24) (n := 0) (m := list.length) H1 cd2_copies (rlist.at H1.ext) rfl cd2_ti rfl Tryz.underlying24 (by decide) (by kernel_rfl) hl1 (fun a2 c1 h2 H2 => ?_)
 refine Zr [.slice a2 l1.length c1] 3 ?_
 refine Zx ?_
 refine Zk [2] [(2, .slice a2 l1.length c1)] ?_
 have hF := M.ret_some hF
 subst hF
 exact Run_ret1 rfl (Zt (.slice a2 l1.length c1)) ⟨a2, c1, rfl, H2⟩

theorem w_spec_l03Grow_R (kR : Nat) : ∀ (h hE : Heap) (it : Item) (a_ : List (List Int)) (aa_ : Option Addr) (ca_ : Nat) (ra_ : Rd cd24 h (Lt h) aa_ ca_ a_) (path : List Int) (apath : Option Addr) (cpath : Nat) (weight : Int) (over : Int) (HM : Hold h hE [own cd2 apath path.length cpath path, it]) (n : Nat) (r : (List Int)) (hF : spec_l03Grow_R kR a_ path weight over n = some r),
  Fn Tryz.prog 127 #[.slice aa_ a_.length ca_, .slice apath path.length cpath, iV weight, iV over] hE fun v h' => ∃ (a0 : Option Addr) (c0 : Nat), v = .slice a0 r.length c0 ∧ Hold h h' [own cd2 a0 r.length c0 r, it] := by
 induction kR with
 | zero => intros; rename_i hF; cases hF
 | succ kR ih =>
  intro h hE it a_ aa_ ca_ ra_ path apath cpath weight over HM n r hF
  rw [show spec_l03Grow_R (kR + 1) a_ path weight over = (M.bind (M.idx path 0) (fun x1 => M.bind (M.idx path (w64 ((path.length : Int) - 1))) (fun x2 => M.bind (M.idx a_ x1) (fun x3 => M.bind (M.idx x3 x2) (fun x4 => M.bind (M.ite (x4 != (-1000000000000000)) (M.bind (M.idx a_ x1) (fun x6 => M.bind (M.idx x6 x2) (fun x7 => M.ret (decide (over < (w64 (weight + x7))))))) (M.ret false)) (fun x5 => M.ite x5 (M.ret path) (M.bind (M.forI (w64 (x1 + 1)) (a_.length : Int) (fun s => .inl s) (fun i1 => (fun (_ : Unit) => M.bind (M.idx a_ i1) (fun x9 => M.bind (M.idx x9 x2) (fun x10 => M.bind (M.ite (x10 == (-1000000000000000)) (M.ret true) (M.bind (spec_l01Has path i1) (fun x12 => M.ret x12))) (fun x11 => M.ite x11 (M.ret (.inl ())) (M.bind (M.bind (M.idx a_ i1) (fun x15 => M.bind (M.idx x15 x2) (fun x16 => M.bind (spec_l01Own path) (fun x17 => M.bind (M.app x17 ([i1] : List Int)) (fun l1 => M.bind (spec_l03Grow_R kR a_ l1 (w64 (weight + x16)) over) (fun x18 => M.ret x18)))))) (fun (s3 : (List Int)) => M.ite (decide (0 < (s3.length : Int))) (M.ret (.inr (.inr s3))) (M.ret (.inl ()))))))))) ()) (fun x8 => M.cont x8 (fun _ => M.ret ([] : List Int)) (fun r => M.ret r))))))))) from rfl] at hF
  refine Zo [.slice aa_ a_.length ca_, .slice apath path.length cpath, iV weight, iV over] Tryz.func127 rfl (fun w0 _ => ?_)
  refine Zs ?_
  refine Zq [.slice none 0 0] [0, 1, 2, 3] [(0, .slice aa_ a_.length ca_), (1, .slice apath path.length cpath), (2, iV weight), (3, iV over)] ?_
  refine Zs ?_
  obtain ⟨x1, hx1, hF⟩ := M.bind_some hF
  obtain ⟨hx1l, hx1u, hx1⟩ := M.idx_some hx1
  obtain ⟨x2, hx2, hF⟩ := M.bind_some hF
  obtain ⟨hx2l, hx2u, hx2⟩ := M.idx_some hx2
  refine Run_draw 11 mixed (by kernel_rfl) (by kernel_rfl) (L' := [(0, .slice aa_ a_.length ca_), (1, .slice apath path.length cpath), (2, iV weight), (3, iV over), (9, iV x1), (10, iV x2)]) ?_ ?_
  ·refine Zb [.slice apath path.length cpath] 0 ?_
   refine Zy (.pointer (some (adr apath (0 * 1)))) (Zi 24 2 1 (apath) (path.length) (cpath) .i64 (0) Tryz.underlying24 ((HM.rd 0 rfl).cell hx1).1 hx1l hx1u) ?_
   refine Zy (iV x1) (Zl 2 (adr apath (0 * 1)) (iV x1) (cd2_cell (HM.rd 0 rfl) hx1)) ?_
   refine Zb [.slice apath path.length cpath, .slice apath path.length cpath, iV (path.length : Int), iV (w64 ((path.length : Int) - 1))] 3 ?_
   refine Zy (.pointer (some (adr apath ((w64 ((path.length : Int) - 1)).toNat * 1)))) (Zi 24 2 1 (apath) (path.length) (cpath) .i64 (w64 ((path.length : Int) - 1)) Tryz.underlying24 ((HM.rd 0 rfl).cell hx2).1 hx2l hx2u) ?_
   refine Zy (iV x2) (Zl 2 (adr apath ((w64 ((path.length : Int) - 1)).toNat * 1)) (iV x2) (cd2_cell (HM.rd 0 rfl) hx2)) ?_
   refine Zb [iV x1, iV x2] 9 ?_
   exact Zd [0, 1, 2, 3, 9, 10]
  refine Zs ?_
  refine Zs ?_
  obtain ⟨x3, hx3, hF⟩ := M.bind_some hF
  obtain ⟨hx3l, hx3u, hx3⟩ := M.idx_some hx3
  obtain ⟨a1, c1, hc1, r1⟩ := ra_.row hx3
  obtain ⟨x4, hx4, hF⟩ := M.bind_some hF
  obtain ⟨hx4l, hx4u, hx4⟩ := M.idx_some hx4
  obtain ⟨x5, gx5, hF⟩ := M.bind_some hF
  refine Zg 21 [(0, .slice aa_ a_.length ca_), (1, .slice apath path.length cpath), (2, iV weight), (3, iV over), (9, iV x1), (10, iV x2), (42, .bool x5)] ?_ ?_
  ·refine Zb [.slice aa_ a_.length ca_, iV x1] 0 ?_
   refine Zy (.pointer (some (adr aa_ (x1.toNat * 1)))) (Zi 22 24 1 (aa_) (a_.length) (ca_) .i64 (x1) Tryz.underlying22 ((ra_.at HM.ext).cell hx3).1 hx3l hx3u) ?_
   refine Zy (.slice a1 x3.length c1) (Zl 24 (adr aa_ (x1.toNat * 1)) (.slice a1 x3.length c1) (cell_at HM.ext hc1)) ?_
   refine Zb [iV x2] 4 ?_
   refine Zy (.pointer (some (adr a1 (x2.toNat * 1)))) (Zi 24 2 1 (a1) (x3.length) (c1) .i64 (x2) Tryz.underlying24 ((r1.at HM.ext).cell hx4).1 hx4l hx4u) ?_
   refine Zy (iV x4) (Zl 2 (adr a1 (x2.toNat * 1)) (iV x4) (cd2_cell (r1.at HM.ext) hx4)) ?_
   refine Zb [.bool (x4 != (-1000000000000000))] 7 ?_
   refine QRun_seq 21 [(0, .slice aa_ a_.length ca_), (1, .slice apath path.length cpath), (2, iV weight), (3, iV over), (9, iV x1), (10, iV x2), (42, .bool x5)] ?_ ?_
   ·rcases Bool.eq_false_or_eq_true (x4 != (-1000000000000000)) with hb1 | hb1
    ·refine Zv (x4 != (-1000000000000000)) true hb1 ?_
     have gx5 := (M.ite_some gx5).1 hb1
     obtain ⟨x6, hx5, gx5⟩ := M.bind_some gx5
     obtain ⟨hx5l, hx5u, hx5⟩ := M.idx_some hx5
     obtain ⟨a2, c2, hc2, r2⟩ := ra_.row hx5
     obtain ⟨x7, hx6, gx5⟩ := M.bind_some gx5
     obtain ⟨hx6l, hx6u, hx6⟩ := M.idx_some hx6
     have gx5 := M.ret_some gx5
     refine Zb [iV weight, .slice aa_ a_.length ca_, iV x1] 9 ?_
     refine Zy (.pointer (some (adr aa_ (x1.toNat * 1)))) (Zi 22 24 1 (aa_) (a_.length) (ca_) .i64 (x1) Tryz.underlying22 ((ra_.at HM.ext).cell hx5).1 hx5l hx5u) ?_
     refine Zy (.slice a2 x6.length c2) (Zl 24 (adr aa_ (x1.toNat * 1)) (.slice a2 x6.length c2) (cell_at HM.ext hc2)) ?_
     refine Zb [iV x2] 14 ?_
     refine Zy (.pointer (some (adr a2 (x2.toNat * 1)))) (Zi 24 2 1 (a2) (x6.length) (c2) .i64 (x2) Tryz.underlying24 ((r2.at HM.ext).cell hx6).1 hx6l hx6u) ?_
     refine Zy (iV x7) (Zl 2 (adr a2 (x2.toNat * 1)) (iV x7) (cd2_cell (r2.at HM.ext) hx6)) ?_
     refine Zb [iV (w64 (weight + x7)), iV over, .bool (decide (over < (w64 (weight + x7))))] 17 ?_
     refine Zv (decide (over < (w64 (weight + x7)))) x5 gx5 ?_
     exact Zd [0, 1, 2, 3, 9, 10, 42]
    ·refine Zv (x4 != (-1000000000000000)) false hb1 ?_
     have gx5 := M.ret_some ((M.ite_some gx5).2 hb1)
     refine Zn ?_
     refine Zn ?_
     refine Zn ?_
     refine Zn ?_
     refine Zn ?_
     refine Zn ?_
     refine Zn ?_
     refine Zn ?_
     refine Zn ?_
     refine Zn ?_
     refine Zn ?_
     refine Zv false x5 gx5 ?_
     exact Zd [0, 1, 2, 3, 9, 10, 42]
   exact Zd [0, 1, 2, 3, 9, 10, 42]
  refine Zc (x5) (fun hb2 => ?_) (fun hb2 => ?_)
  ·have hF := (M.ite_some hF).1 hb2
   refine Zs ?_
   refine Zq [.slice apath path.length cpath, .slice apath path.length cpath] [8] [(8, .slice apath path.length cpath)] ?_
   have hF := M.ret_some hF
   subst hF
   exact Run_ret1 rfl (Zt (.slice apath path.length cpath)) ⟨apath, cpath, rfl, HM⟩
  ·have hF := (M.ite_some hF).2 hb2
   refine Run_skip ?_
   refine Zs ?_
   refine Zs ?_
   refine Zq [iV x1, iV (w64 (x1 + 1)), iV (w64 (x1 + 1))] [0, 1, 2, 3, 10, 11] [(0, .slice aa_ a_.length ca_), (1, .slice apath path.length cpath), (2, iV weight), (3, iV over), (10, iV x2), (11, iV (w64 (x1 + 1)))] ?_
   obtain ⟨x8, gx8, hF⟩ := M.bind_some hF
   obtain ⟨hloy1, hhiy1, gx8⟩ := M.for_start gx8
   refine Run_join (fun L' h' => ∃ (s2 : Unit), x8 = .inl s2 ∧ L' = [] ∧ Hold h h' [it]) ?_ ?_
   ·rintro _ h2 ⟨s2, es2, rfl, H2⟩
    have hF := M.cont_inl' hF es2
    refine Zs ?_
    refine Zq [.slice none 0 0] [8] [(8, .slice none 0 0)] ?_
    have hF := M.ret_some hF
    subst hF
    have H49 := H2.empty cd2
    exact Run_ret1 rfl (Zt (.slice none 0 0)) ⟨none, 0, rfl, H49⟩
   ·refine Run_block ?_
    refine Zk [0, 1, 2, 3, 10, 11] [(0, .slice aa_ a_.length ca_), (1, .slice apath path.length cpath), (2, iV weight), (3, iV over), (10, iV x2), (11, iV (w64 (x1 + 1)))] ?_
    refine Run_loop (fun m L' h' => ∃ (i1 : Int) (s1 : Unit), w64 (x1 + 1) ≤ i1 ∧ M.forN (a_.length : Int) _ _ n m i1 s1 = some x8 ∧ L' = [(0, .slice aa_ a_.length ca_), (1, .slice apath path.length cpath), (2, iV weight), (3, iV over), (10, iV x2), (11, iV i1)] ∧ Hold h h' [own cd2 apath path.length cpath path, it]) ((a_.length : Int) - (w64 (x1 + 1)) : Int).toNat ⟨w64 (x1 + 1), (), Int.le_refl _, gx8, rfl, HM⟩ ?_
    rintro my1 _ h1 ⟨i1, s1, hloy1', gx8, rfl, H1⟩
    refine Zs ?_
    refine Zs ?_
    refine Zq [iV i1, .slice aa_ a_.length ca_, iV (a_.length : Int), .bool (decide (i1 < (a_.length : Int)))] [0, 1, 2, 3, 10, 11, 49] [(0, .slice aa_ a_.length ca_), (1, .slice apath path.length cpath), (2, iV weight), (3, iV over), (10, iV x2), (11, iV i1), (49, .bool (decide (i1 < (a_.length : Int))))] ?_
    refine Zc (decide (i1 < (a_.length : Int))) (fun hb3 => ?_) (fun hb3 => ?_)
    ·obtain ⟨my1, y1, rfl, hB1, hgoy1, houty1⟩ := M.for_go gx8 hb3
     have hlty1 := of_decide_eq_true hb3
     refine Run_skip ?_
     refine Zs ?_
     refine Run_block ?_
     refine Zs ?_
     refine Zs ?_
     obtain ⟨x9, hx7, hB1⟩ := M.bind_some hB1
     obtain ⟨hx7l, hx7u, hx7⟩ := M.idx_some hx7
     obtain ⟨a3, c3, hc3, r3⟩ := ra_.row hx7
     obtain ⟨x10, hx8, hB1⟩ := M.bind_some hB1
     obtain ⟨hx8l, hx8u, hx8⟩ := M.idx_some hx8
     obtain ⟨x11, gx11, hB1⟩ := M.bind_some hB1
     refine Zg 13 [(0, .slice aa_ a_.length ca_), (1, .slice apath path.length cpath), (2, iV weight), (3, iV over), (10, iV x2), (11, iV i1), (64, .bool x11)] ?_ ?_
     ·refine Zb [.slice aa_ a_.length ca_, iV i1] 0 ?_
      refine Zy (.pointer (some (adr aa_ (i1.toNat * 1)))) (Zi 22 24 1 (aa_) (a_.length) (ca_) .i64 (i1) Tryz.underlying22 ((ra_.at H1.ext).cell hx7).1 hx7l hx7u) ?_
      refine Zy (.slice a3 x9.length c3) (Zl 24 (adr aa_ (i1.toNat * 1)) (.slice a3 x9.length c3) (cell_at H1.ext hc3)) ?_
      refine Zb [iV x2] 4 ?_
      refine Zy (.pointer (some (adr a3 (x2.toNat * 1)))) (Zi 24 2 1 (a3) (x9.length) (c3) .i64 (x2) Tryz.underlying24 ((r3.at H1.ext).cell hx8).1 hx8l hx8u) ?_
      refine Zy (iV x10) (Zl 2 (adr a3 (x2.toNat * 1)) (iV x10) (cd2_cell (r3.at H1.ext) hx8)) ?_
      refine Zb [.bool (x10 == (-1000000000000000))] 7 ?_
      refine QRun_seq 13 [(0, .slice aa_ a_.length ca_), (1, .slice apath path.length cpath), (2, iV weight), (3, iV over), (10, iV x2), (11, iV i1), (64, .bool x11)] ?_ ?_
      ·rcases Bool.eq_false_or_eq_true (x10 == (-1000000000000000)) with hb4 | hb4
       ·refine Zv (x10 == (-1000000000000000)) true hb4 ?_
        have gx11 := M.ret_some ((M.ite_some gx11).1 hb4)
        refine Zn ?_
        refine Zn ?_
        refine Zn ?_
        refine Zv true x11 gx11 ?_
        exact Zd [0, 1, 2, 3, 10, 11, 64]
       ·refine Zv (x10 == (-1000000000000000)) false hb4 ?_
        have gx11 := (M.ite_some gx11).2 hb4
        obtain ⟨x12, hx9, gx11⟩ := M.bind_some gx11
        have gx11 := M.ret_some gx11
        refine Zb [.slice apath path.length cpath, iV i1] 9 ?_
        refine Zy (.bool x12) (ZQ 69 #[.slice apath path.length cpath, iV i1] (w_spec_l01Has h1 path apath cpath (H1.rd 0 rfl) i1 _ _ hx9)) ?_
        refine Zv x12 x11 gx11 ?_
        exact Zd [0, 1, 2, 3, 10, 11, 64]
      exact Zd [0, 1, 2, 3, 10, 11, 64]
     refine Zc (x11) (fun hb5 => ?_) (fun hb5 => ?_)
     ·have hB1 := (M.ite_some hB1).1 hb5
      refine Run_exit (k' := _) rfl ?_
      refine Zg 3 [(0, .slice aa_ a_.length ca_), (1, .slice apath path.length cpath), (2, iV weight), (3, iV over), (10, iV x2), (11, iV (i1 + 1))] ?_ ?_
      ·refine Zb [iV i1] 0 ?_
       refine Zy (iV (i1 + 1)) (Y_eq (v := iV (w64 (i1 + 1))) (Y_pure (fun w => by kernel_rfl)) (by rw [w64_eq _ (by omega)])) ?_
       refine Zb [iV (i1 + 1)] 2 ?_
       exact Zd [0, 1, 2, 3, 10, 11]
      have hB1 := M.ret_some hB1
      have gx8 := hgoy1 _ hB1.symm
      exact Za [0, 1, 2, 3, 10, 11] my1 ⟨i1 + 1, (), by omega, gx8, rfl, H1⟩
     ·have hB1 := (M.ite_some hB1).2 hb5
      refine Run_skip ?_
      refine Zs ?_
      obtain ⟨s3, gs3, hB1⟩ := M.bind_some hB1
      refine Run_join (fun L' h' => ∃ (a14 : Option Addr), ∃ (c12 : Nat), L' = [(0, .slice aa_ a_.length ca_), (1, .slice apath path.length cpath), (2, iV weight), (3, iV over), (10, iV x2), (11, iV i1), (12, .slice a14 s3.length c12)] ∧ Hold h h' [own cd2 apath path.length cpath path, own cd2 a14 s3.length c12 s3, it]) ?_ ?_
      ·rintro _ h19 ⟨a14, c12, rfl, H38⟩
       refine Zs ?_
       refine Zq [.slice a14 s3.length c12, iV (s3.length : Int), .bool (decide (0 < (s3.length : Int)))] [0, 1, 2, 3, 10, 11, 12, 84] [(0, .slice aa_ a_.length ca_), (1, .slice apath path.length cpath), (2, iV weight), (3, iV over), (10, iV x2), (11, iV i1), (12, .slice a14 s3.length c12), (84, .bool (decide (0 < (s3.length : Int))))] ?_
       refine Zc (decide (0 < (s3.length : Int))) (fun hb6 => ?_) (fun hb6 => ?_)
       ·have hB1 := (M.ite_some hB1).1 hb6
        refine Zs ?_
        refine Zq [.slice a14 s3.length c12, .slice a14 s3.length c12] [8] [(8, .slice a14 s3.length c12)] ?_
        have hB1 := M.ret_some hB1
        have gx8 := houty1 _ hB1.symm
        have hF := M.cont_inr' hF gx8
        have hF := M.ret_some hF
        subst hF
        have H45 : Hold h h19 [own cd2 a14 s3.length c12 s3, own cd2 apath path.length cpath path, it] := H38.pk [1, 0, 2]
        have H46 : Hold h h19 [own cd2 a14 s3.length c12 s3, it] := H45.pk [0, 2]
        exact Run_ret1 rfl (Zt (.slice a14 s3.length c12)) ⟨a14, c12, rfl, H46⟩
       ·have hB1 := (M.ite_some hB1).2 hb6
        refine Run_skip ?_
        refine Run_blk ?_
        refine Zg 3 [(0, .slice aa_ a_.length ca_), (1, .slice apath path.length cpath), (2, iV weight), (3, iV over), (10, iV x2), (11, iV (i1 + 1))] ?_ ?_
        ·refine Zb [iV i1] 0 ?_
         refine Zy (iV (i1 + 1)) (Y_eq (v := iV (w64 (i1 + 1))) (Y_pure (fun w => by kernel_rfl)) (by rw [w64_eq _ (by omega)])) ?_
         refine Zb [iV (i1 + 1)] 2 ?_
         exact Zd [0, 1, 2, 3, 10, 11]
        have H47 : Hold h h19 [own cd2 apath path.length cpath path, it] := H38.pk [0, 2]
        have hB1 := M.ret_some hB1
        have gx8 := hgoy1 _ hB1.symm
        exact Za [0, 1, 2, 3, 10, 11] my1 ⟨i1 + 1, (), by omega, gx8, rfl, H47⟩
      ·obtain ⟨x15, hx12, gs3⟩ := M.bind_some gs3
       obtain ⟨hx12l, hx12u, hx12⟩ := M.idx_some hx12
       obtain ⟨a5, c5, hc5, r5⟩ := ra_.row hx12
       obtain ⟨x16, hx13, gs3⟩ := M.bind_some gs3
       obtain ⟨hx13l, hx13u, hx13⟩ := M.idx_some hx13
       refine Run_D (fun x => Hold h x [own cd2 apath path.length cpath path, it]) (fun x => Hold h x [own cd2 apath path.length cpath path, it]) mixed (by kernel_rfl) H1 Hold.stable (fun x Hy => (show Hold h x [own cd2 apath path.length cpath path, it] from Hy).pk [0, 1]) ?_
       refine ZB 16 [.slice aa_ a_.length ca_, .slice apath path.length cpath] 0 ?_
       refine ZB 15 [iV i1] 3 ?_
       refine ZB 12 [iV weight, .slice aa_ a_.length ca_, iV i1] 6 ?_
       refine ZY 11 9 (.pointer (some (adr aa_ (i1.toNat * 1)))) (fun hx Hx => (YE.of (Zi 22 24 1 (aa_) (a_.length) (ca_) .i64 (i1) Tryz.underlying22 ((ra_.at H1.ext).cell hx12).1 hx12l hx12u))) ?_
       refine ZY 10 10 (.slice a5 x15.length c5) (fun hx Hx => (YE.of (Zl 24 (adr aa_ (i1.toNat * 1)) (.slice a5 x15.length c5) (cell_at Hx.ext hc5)))) ?_
       refine ZB 9 [iV x2] 11 ?_
       refine ZY 8 12 (.pointer (some (adr a5 (x2.toNat * 1)))) (fun hx Hx => (YE.of (Zi 24 2 1 (a5) (x15.length) (c5) .i64 (x2) Tryz.underlying24 ((r5.at H1.ext).cell hx13).1 hx13l hx13u))) ?_
       refine ZY 7 13 (iV x16) (fun hx Hx => (YE.of (Zl 2 (adr a5 (x2.toNat * 1)) (iV x16) (cd2_cell (r5.at Hx.ext) hx13)))) ?_
       refine ZB 5 [iV (w64 (weight + x16)), iV over] 14 ?_
       refine DR_e2 4 2 4 (by kernel_rfl) (by kernel_rfl) (by kernel_rfl) (by kernel_rfl) ?_ ?_
       ·intro h3 H3
        have H4 : Hold h h3 [own cd2 apath path.length cpath path, it] := H3
        obtain ⟨x17, hx14, gs3⟩ := M.bind_some gs3
        refine ZC 49 #[.slice apath path.length cpath] (w_spec_l01Own h3 path apath cpath (H4.rd 0 rfl) _ _ hx14) (fun v1 h4 hp1 => ?_)
        obtain ⟨a6, c6, rfl, H5⟩ := hp1
        have H6 : Hold h h4 [own cd2 a6 x17.length c6 x17, own cd2 apath path.length cpath path, it] := H4.call H5 rfl
        refine ⟨fun x => Hold h x [own cd2 apath path.length cpath path, it], fun x => Hold h x [own cd2 a6 x17.length c6 x17, own cd2 apath path.length cpath path, it], H6, Hold.stable, fun x Hy => (show Hold h x [own cd2 a6 x17.length c6 x17, own cd2 apath path.length cpath path, it] from Hy).pk [1, 2], fun x Hy => (show Hold h x [own cd2 apath path.length cpath path, it] from Hy).pk [0, 1], ?_⟩
        refine ZE 3 4 (fun h5 H7 => ?_)
        have H8 : Hold h h5 [own cd2 a6 x17.length c6 x17, own cd2 apath path.length cpath path, it] := H7
        refine E_lit (C := cd2) (n := 1) (l := ([i1] : List Int)) (cs := [iV i1]) H8 (fun w => by kernel_rfl) (Enc.consE (cd2_own i1 _) (Enc.nil _ _) rfl) rfl (by decide) (fun a7 h6 H9 => ?_)
        refine ⟨fun x => Hold h x [own cd2 apath path.length cpath path, it], fun x => Hold h x [own cd2 a7 1 1 ([i1] : List Int), own cd2 a6 x17.length c6 x17, own cd2 apath path.length cpath path, it], H9, Hold.stable, fun x Hy => (show Hold h x [own cd2 a7 1 1 ([i1] : List Int), own cd2 a6 x17.length c6 x17, own cd2 apath path.length cpath path, it] from Hy).pk [2, 3], fun x Hy => (show Hold h x [own cd2 apath path.length cpath path, it] from Hy).pk [0, 1], ?_⟩
        refine ZE 2 5 (fun h7 H10 => ?_)
        have H11 : Hold h h7 [own cd2 a7 1 1 ([i1] : List Int), own cd2 a6 x17.length c6 x17, own cd2 apath path.length cpath path, it] := H10
        obtain ⟨l1, hl1, gs3⟩ := M.bind_some gs3
        have hl1 := M.app_some hl1
        have H12 : Hold h h7 [own cd2 a6 x17.length c6 x17, own cd2 a7 1 1 ([i1] : List Int), own cd2 apath path.length cpath path, it] := H11.pk [1, 0, 2, 3]
        have H13 : Hold h h7 [own cd2 a7 1 1 ([i1] : List Int), own cd2 a6 x17.length c6 x17, own cd2 apath path.length cpath path, it] := H12.pk [1, 0, 2, 3]
        have H14 : Hold h h7 [own cd2 a6 x17.length c6 x17, own cd2 a7 1 1 ([i1] : List Int), own cd2 apath path.length cpath path, it] := H13.pk [1, 0, 2, 3]
        refine E_app (C := cd2) (t := 24) (ty := 24) (n := x17.length) (m := 1) H14 cd2_ti rfl Tryz.underlying24 (by decide) (by kernel_rfl) hl1 (fun a8 c7 h8 H15 => ?_)
        refine ⟨fun x => Hold h x [own cd2 apath path.length cpath path, it, own cd2 a8 l1.length c7 l1], fun x => Hold h x [own cd2 a8 l1.length c7 l1, own cd2 apath path.length cpath path, it], H15, Hold.stable, fun x Hy => (show Hold h x [own cd2 a8 l1.length c7 l1, own cd2 apath path.length cpath path, it] from Hy).pk [1, 2, 0], fun x Hy => (show Hold h x [own cd2 apath path.length cpath path, it, own cd2 a8 l1.length c7 l1] from Hy).pk [0, 1], ?_⟩
        refine ZT 16 (fun h9 H16 => ?_)
        have H17 : Hold h h9 [own cd2 a8 l1.length c7 l1, own cd2 apath path.length cpath path, it] := H16
        obtain ⟨x18, hx15, gs3⟩ := M.bind_some gs3
        have H18 : Hold h h9 [own cd2 a8 l1.length c7 l1, bun [own cd2 apath path.length cpath path, it]] := Hold.bundle (S := [own cd2 a8 l1.length c7 l1]) (R := [own cd2 apath path.length cpath path, it]) H17
        refine Ze ?_
        refine ZC 127 #[.slice aa_ a_.length ca_, .slice a8 l1.length c7, iV (w64 (weight + x16)), iV over] (ih h h9 _ a_ aa_ ca_ ra_ l1 a8 c7 (w64 (weight + x16)) over H18 _ _ hx15) (fun v2 h10 hp2 => ?_)
        obtain ⟨a9, c8, rfl, H19⟩ := hp2
        have H20 : Hold h h10 [own cd2 a9 x18.length c8 x18, own cd2 apath path.length cpath path, it] := Hold.unbundle (S := [own cd2 a9 x18.length c8 x18]) (R := [own cd2 apath path.length cpath path, it]) H19 (Hold.tailBase (S := [own cd2 a8 l1.length c7 l1]) (R := [own cd2 apath path.length cpath path, it]) H17)
        refine Zr [.slice a9 x18.length c8] 17 ?_
        refine Zx ?_
        refine Zk [0, 1, 2, 3, 10, 11, 12] [(0, .slice aa_ a_.length ca_), (1, .slice apath path.length cpath), (2, iV weight), (3, iV over), (10, iV x2), (11, iV i1), (12, .slice a9 x18.length c8)] ?_
        have H43 : Hold h h10 [own cd2 apath path.length cpath path, own cd2 a9 x18.length c8 x18, it] := H20.pk [1, 0, 2]
        have gs3 := M.ret_some gs3
        subst gs3
        exact Zf [0, 1, 2, 3, 10, 11, 12] ⟨a9, c8, rfl, H43⟩
       ·intro h11 H21
        have H22 : Hold h h11 [own cd2 apath path.length cpath path, it] := H21
        refine E_lit (C := cd2) (n := 1) (l := ([i1] : List Int)) (cs := [iV i1]) H22 (fun w => by kernel_rfl) (Enc.consE (cd2_own i1 _) (Enc.nil _ _) rfl) rfl (by decide) (fun a10 h12 H23 => ?_)
        refine ⟨fun x => Hold h x [own cd2 apath path.length cpath path, it], fun x => Hold h x [own cd2 a10 1 1 ([i1] : List Int), own cd2 apath path.length cpath path, it], H23, Hold.stable, fun x Hy => (show Hold h x [own cd2 a10 1 1 ([i1] : List Int), own cd2 apath path.length cpath path, it] from Hy).pk [1, 2], fun x Hy => (show Hold h x [own cd2 apath path.length cpath path, it] from Hy).pk [0, 1], ?_⟩
        refine ZE 3 2 (fun h13 H24 => ?_)
        have H25 : Hold h h13 [own cd2 a10 1 1 ([i1] : List Int), own cd2 apath path.length cpath path, it] := H24
        obtain ⟨x19, hx16, gs3⟩ := M.bind_some gs3
        refine ZC 49 #[.slice apath path.length cpath] (w_spec_l01Own h13 path apath cpath (H25.rd 1 rfl) _ _ hx16) (fun v3 h14 hp3 => ?_)
        obtain ⟨a11, c9, rfl, H26⟩ := hp3
        have H27 : Hold h h14 [own cd2 a11 x19.length c9 x19, own cd2 a10 1 1 ([i1] : List Int), own cd2 apath path.length cpath path, it] := H25.call H26 rfl
        refine ⟨fun x => Hold h x [own cd2 apath path.length cpath path, it], fun x => Hold h x [own cd2 a11 x19.length c9 x19, own cd2 a10 1 1 ([i1] : List Int), own cd2 apath path.length cpath path, it], H27, Hold.stable, fun x Hy => (show Hold h x [own cd2 a11 x19.length c9 x19, own cd2 a10 1 1 ([i1] : List Int), own cd2 apath path.length cpath path, it] from Hy).pk [2, 3], fun x Hy => (show Hold h x [own cd2 apath path.length cpath path, it] from Hy).pk [0, 1], ?_⟩
        refine ZE 2 5 (fun h15 H28 => ?_)
        have H29 : Hold h h15 [own cd2 a11 x19.length c9 x19, own cd2 a10 1 1 ([i1] : List Int), own cd2 apath path.length cpath path, it] := H28
        obtain ⟨l2, hl2, gs3⟩ := M.bind_some gs3
        have hl2 := M.app_some hl2
        have H30 : Hold h h15 [own cd2 a10 1 1 ([i1] : List Int), own cd2 a11 x19.length c9 x19, own cd2 apath path.length cpath path, it] := H29.pk [1, 0, 2, 3]
        have H31 : Hold h h15 [own cd2 a11 x19.length c9 x19, own cd2 a10 1 1 ([i1] : List Int), own cd2 apath path.length cpath path, it] := H30.pk [1, 0, 2, 3]
        refine E_app (C := cd2) (t := 24) (ty := 24) (n := x19.length) (m := 1) H31 cd2_ti rfl Tryz.underlying24 (by decide) (by kernel_rfl) hl2 (fun a12 c10 h16 H32 => ?_)
        refine ⟨fun x => Hold h x [own cd2 apath path.length cpath path, it, own cd2 a12 l2.length c10 l2], fun x => Hold h x [own cd2 a12 l2.length c10 l2, own cd2 apath path.length cpath path, it], H32, Hold.stable, fun x Hy => (show Hold h x [own cd2 a12 l2.length c10 l2, own cd2 apath path.length cpath path, it] from Hy).pk [1, 2, 0], fun x Hy => (show Hold h x [own cd2 apath path.length cpath path, it, own cd2 a12 l2.length c10 l2] from Hy).pk [0, 1], ?_⟩
        refine ZT 16 (fun h17 H33 => ?_)
        have H34 : Hold h h17 [own cd2 a12 l2.length c10 l2, own cd2 apath path.length cpath path, it] := H33
        obtain ⟨x20, hx17, gs3⟩ := M.bind_some gs3
        have H35 : Hold h h17 [own cd2 a12 l2.length c10 l2, bun [own cd2 apath path.length cpath path, it]] := Hold.bundle (S := [own cd2 a12 l2.length c10 l2]) (R := [own cd2 apath path.length cpath path, it]) H34
        refine Ze ?_
        refine ZC 127 #[.slice aa_ a_.length ca_, .slice a12 l2.length c10, iV (w64 (weight + x16)), iV over] (ih h h17 _ a_ aa_ ca_ ra_ l2 a12 c10 (w64 (weight + x16)) over H35 _ _ hx17) (fun v4 h18 hp4 => ?_)
        obtain ⟨a13, c11, rfl, H36⟩ := hp4
        have H37 : Hold h h18 [own cd2 a13 x20.length c11 x20, own cd2 apath path.length cpath path, it] := Hold.unbundle (S := [own cd2 a13 x20.length c11 x20]) (R := [own cd2 apath path.length cpath path, it]) H36 (Hold.tailBase (S := [own cd2 a12 l2.length c10 l2]) (R := [own cd2 apath path.length cpath path, it]) H34)
        refine Zr [.slice a13 x20.length c11] 17 ?_
        refine Zx ?_
        refine Zk [0, 1, 2, 3, 10, 11, 12] [(0, .slice aa_ a_.length ca_), (1, .slice apath path.length cpath), (2, iV weight), (3, iV over), (10, iV x2), (11, iV i1), (12, .slice a13 x20.length c11)] ?_
        have H44 : Hold h h18 [own cd2 apath path.length cpath path, own cd2 a13 x20.length c11 x20, it] := H37.pk [1, 0, 2]
        have gs3 := M.ret_some gs3
        subst gs3
        exact Zf [0, 1, 2, 3, 10, 11, 12] ⟨a13, c11, rfl, H44⟩
    ·have gx8 := M.for_end gx8 hb3
     subst gx8
     refine Run_exit (k' := _) rfl ?_
     have H48 : Hold h h1 [it] := H1.pk [1]
     exact Zf [] ⟨(), rfl, rfl, H48⟩

theorem w_spec_l03Grow (h hE : Heap) (it : Item) (a_ : List (List Int)) (aa_ : Option Addr) (ca_ : Nat) (ra_ : Rd cd24 h (Lt h) aa_ ca_ a_) (path : List Int) (apath : Option Addr) (cpath : Nat) (weight : Int) (over : Int) (HM : Hold h hE [own cd2 apath path.length cpath path, it]) (n : Nat) (r : (List Int)) (hF : spec_l03Grow a_ path weight over n = some r) :
  Fn Tryz.prog 127 #[.slice aa_ a_.length ca_, .slice apath path.length cpath, iV weight, iV over] hE fun v h' => ∃ (a0 : Option Addr) (c0 : Nat), v = .slice a0 r.length c0 ∧ Hold h h' [own cd2 a0 r.length c0 r, it] := by
 exact w_spec_l03Grow_R n h hE it a_ aa_ ca_ ra_ path apath cpath weight over HM n r hF

theorem w_spec_l03Over (h : Heap) (a_ : List (List Int)) (aa_ : Option Addr) (ca_ : Nat) (ra_ : Rd cd24 h (Lt h) aa_ ca_ a_) (over : Int) (n : Nat) (r : (List Int)) (hF : spec_l03Over a_ over n = some r) :
  Fn Tryz.prog 82 #[.slice aa_ a_.length ca_, iV over] h fun v h' => ∃ (a0 : Option Addr) (c0 : Nat), v = .slice a0 r.length c0 ∧ Hold h h' [own cd2 a0 r.length c0 r] := by
 unfold spec_l03Over at hF
 refine Zo [.slice aa_ a_.length ca_, iV over] Tryz.func82 rfl (fun w0 _ => ?_)
 have H0 := Hold.init h
 refine Zs ?_
 refine Zq [.slice none 0 0] [0, 1] [(0, .slice aa_ a_.length ca_), (1, iV over)] ?_
 refine Zs ?_
 refine Zs ?_
 refine Zq [iV 0] [0, 1, 5] [(0, .slice aa_ a_.length ca_), (1, iV over), (5, iV 0)] ?_
 obtain ⟨x1, gx1, hF⟩ := M.bind_some hF
 obtain ⟨hloy1, hhiy1, gx1⟩ := M.for_start gx1
 refine Run_join (fun L' h' => ∃ (s2 : Unit), x1 = .inl s2 ∧ L' = [] ∧ Hold h h' []) ?_ ?_
 ·rintro _ h2 ⟨s2, es2, rfl, H2⟩
  have hF := M.cont_inl' hF es2
  refine Zs ?_
  refine Zq [.slice none 0 0] [4] [(4, .slice none 0 0)] ?_
  have hF := M.ret_some hF
  subst hF
  have H9 := H2.empty cd2
  exact Run_ret1 rfl (Zt (.slice none 0 0)) ⟨none, 0, rfl, H9⟩
 ·refine Run_block ?_
  refine Zk [0, 1, 5] [(0, .slice aa_ a_.length ca_), (1, iV over), (5, iV 0)] ?_
  refine Run_loop (fun m L' h' => ∃ (i1 : Int) (s1 : Unit), 0 ≤ i1 ∧ M.forN (a_.length : Int) _ _ n m i1 s1 = some x1 ∧ L' = [(0, .slice aa_ a_.length ca_), (1, iV over), (5, iV i1)] ∧ Hold h h' []) ((a_.length : Int) - 0 : Int).toNat ⟨0, (), Int.le_refl _, gx1, rfl, H0⟩ ?_
  rintro my1 _ h1 ⟨i1, s1, hloy1', gx1, rfl, H1⟩
  refine Zs ?_
  refine Zs ?_
  refine Zq [iV i1, .slice aa_ a_.length ca_, iV (a_.length : Int), .bool (decide (i1 < (a_.length : Int)))] [0, 1, 5, 10] [(0, .slice aa_ a_.length ca_), (1, iV over), (5, iV i1), (10, .bool (decide (i1 < (a_.length : Int))))] ?_
  refine Zc (decide (i1 < (a_.length : Int))) (fun hb1 => ?_) (fun hb1 => ?_)
  ·obtain ⟨my1, y1, rfl, hB1, hgoy1, houty1⟩ := M.for_go gx1 hb1
   have hlty1 := of_decide_eq_true hb1
   refine Run_skip ?_
   refine Zs ?_
   refine Run_block ?_
   refine Zs ?_
   refine Run_ops ?_
   refine Zr [.slice aa_ a_.length ca_, iV i1] 0 ?_
   refine Ze ?_
   refine E_lit (C := cd2) (n := 1) (l := ([i1] : List Int)) (cs := [iV i1]) H1 (fun w => by kernel_rfl) (Enc.consE (cd2_own i1 _) (Enc.nil _ _) rfl) rfl (by decide) (fun a1 h3 H3 => ?_)
   refine Zr [iV over] 3 ?_
   obtain ⟨x2, hx1, hB1⟩ := M.bind_some hB1
   have hn1 := (H3.len 0 rfl)
   have H4 : Hold h h3 [own cd2 a1 (([i1] : List Int).length) 1 ([i1] : List Int)] := by rw [hn1]; exact H3
   have H5 : Hold h h3 [own cd2 a1 (([i1] : List Int).length) 1 ([i1] : List Int), bun []] := Hold.bundle (S := [own cd2 a1 (([i1] : List Int).length) 1 ([i1] : List Int)]) (R := []) H4
   refine Ze ?_
   refine ZC 127 #[.slice aa_ a_.length ca_, .slice a1 1 1, iV 0, iV over] (Fn.arg (w_spec_l03Grow h h3 _ a_ aa_ ca_ ra_ ([i1] : List Int) a1 1 0 over H5 _ _ hx1) (by simp only [hn1])) (fun v1 h4 hp1 => ?_)
   obtain ⟨a2, c1, rfl, H6⟩ := hp1
   have H7 : Hold h h4 [own cd2 a2 x2.length c1 x2] := Hold.unbundle (S := [own cd2 a2 x2.length c1 x2]) (R := []) H6 (Hold.tailBase (S := [own cd2 a1 (([i1] : List Int).length) 1 ([i1] : List Int)]) (R := []) H4)
   refine Zr [.slice a2 x2.length c1] 5 ?_
   refine Zx ?_
   refine Zk [0, 1, 5, 6] [(0, .slice aa_ a_.length ca_), (1, iV over), (5, iV i1), (6, .slice a2 x2.length c1)] ?_
   refine Zs ?_
   refine Zq [.slice a2 x2.length c1, iV (x2.length : Int), .bool (decide (0 < (x2.length : Int)))] [0, 1, 5, 6, 20] [(0, .slice aa_ a_.length ca_), (1, iV over), (5, iV i1), (6, .slice a2 x2.length c1), (20, .bool (decide (0 < (x2.length : Int))))] ?_
   refine Zc (decide (0 < (x2.length : Int))) (fun hb2 => ?_) (fun hb2 => ?_)
   ·have hB1 := (M.ite_some hB1).1 hb2
    refine Zs ?_
    refine Zq [.slice a2 x2.length c1, .slice a2 x2.length c1] [4] [(4, .slice a2 x2.length c1)] ?_
    have hB1 := M.ret_some hB1
    have gx1 := houty1 _ hB1.symm
    have hF := M.cont_inr' hF gx1
    have hF := M.ret_some hF
    subst hF
    exact Run_ret1 rfl (Zt (.slice a2 x2.length c1)) ⟨a2, c1, rfl, H7⟩
   ·have hB1 := (M.ite_some hB1).2 hb2
    refine Run_skip ?_
    refine Run_blk ?_
    refine Zg 3 [(0, .slice aa_ a_.length ca_), (1, iV over), (5, iV (i1 + 1))] ?_ ?_
    ·refine Zb [iV i1] 0 ?_
     refine Zy (iV (i1 + 1)) (Y_eq (v := iV (w64 (i1 + 1))) (Y_pure (fun w => by kernel_rfl)) (by rw [w64_eq _ (by omega)])) ?_
     refine Zb [iV (i1 + 1)] 2 ?_
     exact Zd [0, 1, 5]
    have H8 : Hold h h4 [] := H7.pk []
    have hB1 := M.ret_some hB1
    have gx1 := hgoy1 _ hB1.symm
    exact Za [0, 1, 5] my1 ⟨i1 + 1, (), by omega, gx1, rfl, H8⟩
  ·have gx1 := M.for_end gx1 hb1
   subst gx1
   refine Run_exit (k' := _) rfl ?_
   exact Zf [] ⟨(), rfl, rfl, H1⟩

theorem w_spec_l01Within (h : Heap) (list : List Int) {Slist : Bs} (alist : Option Addr) (clist : Nat) (rlist : Rd cd2 h Slist alist clist list) (most : Int) (low : Int) (high : Int) (n : Nat) (r : Bool) (hF : spec_l01Within list most low high n = some r) :
  Fn Tryz.prog 153 #[.slice alist list.length clist, iV most, iV low, iV high] h fun v h' => v = .bool r ∧ h' = h := by
 unfold spec_l01Within at hF
 refine Zo [.slice alist list.length clist, iV most, iV low, iV high] Tryz.func153 rfl (fun w0 _ => ?_)
 refine Zs ?_
 refine Zq [.bool false] [0, 1, 2, 3] [(0, .slice alist list.length clist), (1, iV most), (2, iV low), (3, iV high)] ?_
 refine Zs ?_
 refine Zs ?_
 refine Zq [iV 0] [0, 1, 2, 3, 9] [(0, .slice alist list.length clist), (1, iV most), (2, iV low), (3, iV high), (9, iV 0)] ?_
 obtain ⟨x1, gx1, hF⟩ := M.bind_some hF
 obtain ⟨hloy1, hhiy1, gx1⟩ := M.for_start gx1
 refine Run_join (fun L' h' => ∃ (s2 : Unit), x1 = .inl s2 ∧ L' = [(0, .slice alist list.length clist), (1, iV most)] ∧ h = h') ?_ ?_
 ·rintro _ _ ⟨s2, es2, rfl, rfl⟩
  have hF := M.cont_inl' hF es2
  refine Zs ?_
  refine Zq [.slice alist list.length clist, iV (list.length : Int), iV most, .bool (decide ((list.length : Int) ≤ most)), .bool (decide ((list.length : Int) ≤ most))] [8] [(8, .bool (decide ((list.length : Int) ≤ most)))] ?_
  have hF := M.ret_some hF
  subst hF
  exact Run_ret1 rfl (Zt (.bool (decide ((list.length : Int) ≤ most)))) ⟨rfl, rfl⟩
 ·refine Run_block ?_
  refine Zk [0, 1, 2, 3, 9] [(0, .slice alist list.length clist), (1, iV most), (2, iV low), (3, iV high), (9, iV 0)] ?_
  refine Run_loop (fun m L' h' => ∃ (i1 : Int) (s1 : Unit), 0 ≤ i1 ∧ M.forN (list.length : Int) _ _ n m i1 s1 = some x1 ∧ L' = [(0, .slice alist list.length clist), (1, iV most), (2, iV low), (3, iV high), (9, iV i1)] ∧ h = h') ((list.length : Int) - 0 : Int).toNat ⟨0, (), Int.le_refl _, gx1, rfl, rfl⟩ ?_
  rintro my1 _ _ ⟨i1, s1, hloy1', gx1, rfl, rfl⟩
  refine Zs ?_
  refine Zs ?_
  refine Zq [iV i1, .slice alist list.length clist, iV (list.length : Int), .bool (decide (i1 < (list.length : Int)))] [0, 1, 2, 3, 9, 13] [(0, .slice alist list.length clist), (1, iV most), (2, iV low), (3, iV high), (9, iV i1), (13, .bool (decide (i1 < (list.length : Int))))] ?_
  refine Zc (decide (i1 < (list.length : Int))) (fun hb1 => ?_) (fun hb1 => ?_)
  ·obtain ⟨my1, y1, rfl, hB1, hgoy1, houty1⟩ := M.for_go gx1 hb1
   have hlty1 := of_decide_eq_true hb1
   refine Run_skip ?_
   refine Zs ?_
   refine Run_block ?_
   refine Zs ?_
   obtain ⟨x2, hx1, hB1⟩ := M.bind_some hB1
   obtain ⟨hx1l, hx1u, hx1⟩ := M.idx_some hx1
   obtain ⟨x3, hx2, hB1⟩ := M.bind_some hB1
   refine Zg 8 [(0, .slice alist list.length clist), (1, iV most), (2, iV low), (3, iV high), (9, iV i1), (23, .bool (!x3))] ?_ ?_
   ·refine Zb [.slice alist list.length clist, iV i1] 0 ?_
    refine Zy (.pointer (some (adr alist (i1.toNat * 1)))) (Zi 24 2 1 (alist) (list.length) (clist) .i64 (i1) Tryz.underlying24 (rlist.cell hx1).1 hx1l hx1u) ?_
    refine Zy (iV x2) (Zl 2 (adr alist (i1.toNat * 1)) (iV x2) (cd2_cell rlist hx1)) ?_
    refine Zb [iV low, iV high] 4 ?_
    refine Zy (.bool x3) (ZQ 79 #[iV x2, iV low, iV high] (w_spec_l01In h x2 low high _ _ hx2)) ?_
    refine Zb [.bool (!x3)] 7 ?_
    exact Zd [0, 1, 2, 3, 9, 23]
   refine Zc (!x3) (fun hb2 => ?_) (fun hb2 => ?_)
   ·have hB1 := (M.ite_some hB1).1 hb2
    refine Zs ?_
    refine Zq [.bool false] [8] [(8, .bool false)] ?_
    have hB1 := M.ret_some hB1
    have gx1 := houty1 _ hB1.symm
    have hF := M.cont_inr' hF gx1
    have hF := M.ret_some hF
    subst hF
    exact Run_ret1 rfl (Zt (.bool false)) ⟨rfl, rfl⟩
   ·have hB1 := (M.ite_some hB1).2 hb2
    refine Run_skip ?_
    refine Run_blk ?_
    refine Zg 3 [(0, .slice alist list.length clist), (1, iV most), (2, iV low), (3, iV high), (9, iV (i1 + 1))] ?_ ?_
    ·refine Zb [iV i1] 0 ?_
     refine Zy (iV (i1 + 1)) (Y_eq (v := iV (w64 (i1 + 1))) (Y_pure (fun w => by kernel_rfl)) (by rw [w64_eq _ (by omega)])) ?_
     refine Zb [iV (i1 + 1)] 2 ?_
     exact Zd [0, 1, 2, 3, 9]
    have hB1 := M.ret_some hB1
    have gx1 := hgoy1 _ hB1.symm
    exact Za [0, 1, 2, 3, 9] my1 ⟨i1 + 1, (), by omega, gx1, rfl, rfl⟩
  ·have gx1 := M.for_end gx1 hb1
   subst gx1
   refine Run_exit (k' := _) rfl ?_
   exact Zf [0, 1] ⟨(), rfl, rfl, rfl⟩

theorem w_spec_l03Nodes (h : Heap) (a_ : List (List Int)) {Sa_ : Bs} (aa_ : Option Addr) (ca_ : Nat) (ra_ : Rd cd24 h Sa_ aa_ ca_ a_) (list : List Int) {Slist : Bs} (alist : Option Addr) (clist : Nat) (rlist : Rd cd2 h Slist alist clist list) (n : Nat) (r : Bool) (hF : spec_l03Nodes a_ list n = some r) :
  Fn Tryz.prog 132 #[.slice aa_ a_.length ca_, .slice alist list.length clist] h fun v h' => v = .bool r ∧ h' = h := by
 unfold spec_l03Nodes at hF
 refine Zo [.slice aa_ a_.length ca_, .slice alist list.length clist] Tryz.func132 rfl (fun w0 _ => ?_)
 refine Zs ?_
 refine Zq [.bool false] [0, 1] [(0, .slice aa_ a_.length ca_), (1, .slice alist list.length clist)] ?_
 refine Zs ?_
 obtain ⟨x1, hx1, hF⟩ := M.bind_some hF
 refine Zg 8 [(4, .bool x1)] ?_ ?_
 ·refine Zb [.slice alist list.length clist, .slice alist list.length clist, iV (list.length : Int), .slice aa_ a_.length ca_, iV (a_.length : Int), iV (w64 ((a_.length : Int) - 1))] 0 ?_
  refine Zy (.bool x1) (ZQ 153 #[.slice alist list.length clist, iV (list.length : Int), iV 0, iV (w64 ((a_.length : Int) - 1))] (w_spec_l01Within h list alist clist rlist (list.length : Int) 0 (w64 ((a_.length : Int) - 1)) _ _ hx1)) ?_
  refine Zb [.bool x1] 7 ?_
  exact Zd [4]
 have hF := M.ret_some hF
 subst hF
 exact Run_ret1 rfl (Zt (.bool x1)) ⟨rfl, rfl⟩

theorem w_spec_l03Walk (h : Heap) (a_ : List (List Int)) {Sa_ : Bs} (aa_ : Option Addr) (ca_ : Nat) (ra_ : Rd cd24 h Sa_ aa_ ca_ a_) (list : List Int) {Slist : Bs} (alist : Option Addr) (clist : Nat) (rlist : Rd cd2 h Slist alist clist list) (n : Nat) (r : Int × Bool) (hF : spec_l03Walk a_ list n = some r) :
  Fn Tryz.prog 133 #[.slice aa_ a_.length ca_, .slice alist list.length clist] h fun v h' => v = .tuple #[iV r.1, .bool r.2] ∧ h' = h := by
 unfold spec_l03Walk at hF
 refine Zo [.slice aa_ a_.length ca_, .slice alist list.length clist] Tryz.func133 rfl (fun w0 _ => ?_)
 refine Zs ?_
 refine Zq [iV 0, .bool false] [0, 1] [(0, .slice aa_ a_.length ca_), (1, .slice alist list.length clist)] ?_
 refine Zs ?_
 refine Zq [iV 0] [0, 1, 6] [(0, .slice aa_ a_.length ca_), (1, .slice alist list.length clist), (6, iV 0)] ?_
 refine Zs ?_
 refine Zs ?_
 refine Zq [iV 1] [0, 1, 6, 7] [(0, .slice aa_ a_.length ca_), (1, .slice alist list.length clist), (6, iV 0), (7, iV 1)] ?_
 obtain ⟨x1, gx1, hF⟩ := M.bind_some hF
 obtain ⟨hloy1, hhiy1, gx1⟩ := M.for_start gx1
 refine Run_join (fun L' h' => ∃ (s2 : Int), x1 = .inl s2 ∧ L' = [(6, iV s2)] ∧ h = h') ?_ ?_
 ·rintro _ _ ⟨s2, es2, rfl, rfl⟩
  have hF := M.cont_inl' hF es2
  refine Zs ?_
  refine Zq [iV s2, iV s2, .bool true] [4, 5] [(4, iV s2), (5, .bool true)] ?_
  have hF := M.ret_some hF
  subst hF
  exact Run_ret2 rfl (Zt (iV s2)) (Zt (.bool true)) ⟨rfl, rfl⟩
 ·refine Run_block ?_
  refine Zk [0, 1, 6, 7] [(0, .slice aa_ a_.length ca_), (1, .slice alist list.length clist), (6, iV 0), (7, iV 1)] ?_
  refine Run_loop (fun m L' h' => ∃ (i1 : Int) (s1 : Int), 1 ≤ i1 ∧ M.forN (list.length : Int) _ _ n m i1 s1 = some x1 ∧ L' = [(0, .slice aa_ a_.length ca_), (1, .slice alist list.length clist), (6, iV s1), (7, iV i1)] ∧ h = h') ((list.length : Int) - 1 : Int).toNat ⟨1, 0, Int.le_refl _, gx1, rfl, rfl⟩ ?_
  rintro my1 _ _ ⟨i1, s1, hloy1', gx1, rfl, rfl⟩
  refine Zs ?_
  refine Zs ?_
  refine Zq [iV i1, .slice alist list.length clist, iV (list.length : Int), .bool (decide (i1 < (list.length : Int)))] [0, 1, 6, 7, 12] [(0, .slice aa_ a_.length ca_), (1, .slice alist list.length clist), (6, iV s1), (7, iV i1), (12, .bool (decide (i1 < (list.length : Int))))] ?_
  refine Zc (decide (i1 < (list.length : Int))) (fun hb1 => ?_) (fun hb1 => ?_)
  ·obtain ⟨my1, y1, rfl, hB1, hgoy1, houty1⟩ := M.for_go gx1 hb1
   have hlty1 := of_decide_eq_true hb1
   refine Run_skip ?_
   refine Zs ?_
   refine Run_block ?_
   refine Zs ?_
   obtain ⟨x2, hx1, hB1⟩ := M.bind_some hB1
   obtain ⟨hx1l, hx1u, hx1⟩ := M.idx_some hx1
   obtain ⟨x3, hx2, hB1⟩ := M.bind_some hB1
   obtain ⟨hx2l, hx2u, hx2⟩ := M.idx_some hx2
   obtain ⟨a1, c1, hc1, r1⟩ := ra_.row hx2
   obtain ⟨x4, hx3, hB1⟩ := M.bind_some hB1
   obtain ⟨hx3l, hx3u, hx3⟩ := M.idx_some hx3
   obtain ⟨x5, hx4, hB1⟩ := M.bind_some hB1
   obtain ⟨hx4l, hx4u, hx4⟩ := M.idx_some hx4
   refine Run_draw 15 mixed (by kernel_rfl) (by kernel_rfl) (L' := [(0, .slice aa_ a_.length ca_), (1, .slice alist list.length clist), (6, iV s1), (7, iV i1), (8, iV x5)]) ?_ ?_
   ·refine Zb [.slice aa_ a_.length ca_, .slice alist list.length clist, iV i1] 0 ?_
    refine Zy (.pointer (some (adr alist (i1.toNat * 1)))) (Zi 24 2 1 (alist) (list.length) (clist) .i64 (i1) Tryz.underlying24 (rlist.cell hx1).1 hx1l hx1u) ?_
    refine Zy (iV x2) (Zl 2 (adr alist (i1.toNat * 1)) (iV x2) (cd2_cell rlist hx1)) ?_
    refine Zy (.pointer (some (adr aa_ (x2.toNat * 1)))) (Zi 22 24 1 (aa_) (a_.length) (ca_) .i64 (x2) Tryz.underlying22 (ra_.cell hx2).1 hx2l hx2u) ?_
    refine Zy (.slice a1 x3.length c1) (Zl 24 (adr aa_ (x2.toNat * 1)) (.slice a1 x3.length c1) hc1) ?_
    refine Zb [.slice alist list.length clist, iV i1, iV (w64 (i1 - 1))] 7 ?_
    refine Zy (.pointer (some (adr alist ((w64 (i1 - 1)).toNat * 1)))) (Zi 24 2 1 (alist) (list.length) (clist) .i64 (w64 (i1 - 1)) Tryz.underlying24 (rlist.cell hx3).1 hx3l hx3u) ?_
    refine Zy (iV x4) (Zl 2 (adr alist ((w64 (i1 - 1)).toNat * 1)) (iV x4) (cd2_cell rlist hx3)) ?_
    refine Zy (.pointer (some (adr a1 (x4.toNat * 1)))) (Zi 24 2 1 (a1) (x3.length) (c1) .i64 (x4) Tryz.underlying24 (r1.cell hx4).1 hx4l hx4u) ?_
    refine Zy (iV x5) (Zl 2 (adr a1 (x4.toNat * 1)) (iV x5) (cd2_cell r1 hx4)) ?_
    refine Zb [iV x5] 14 ?_
    exact Zd [0, 1, 6, 7, 8]
   refine Zs ?_
   refine Zs ?_
   refine Zq [iV x5, .bool (x5 == (-1000000000000000))] [0, 1, 6, 7, 8, 30] [(0, .slice aa_ a_.length ca_), (1, .slice alist list.length clist), (6, iV s1), (7, iV i1), (8, iV x5), (30, .bool (x5 == (-1000000000000000)))] ?_
   refine Zc (x5 == (-1000000000000000)) (fun hb2 => ?_) (fun hb2 => ?_)
   ·have hB1 := (M.ite_some hB1).1 hb2
    refine Zs ?_
    refine Zq [iV 0, .bool false] [4, 5] [(4, iV 0), (5, .bool false)] ?_
    have hB1 := M.ret_some hB1
    have gx1 := houty1 _ hB1.symm
    have hF := M.cont_inr' hF gx1
    have hF := M.ret_some hF
    subst hF
    exact Run_ret2 rfl (Zt (iV 0)) (Zt (.bool false)) ⟨rfl, rfl⟩
   ·have hB1 := (M.ite_some hB1).2 hb2
    refine Run_skip ?_
    refine Zq [iV s1, iV x5, iV (w64 (s1 + x5)), iV (w64 (s1 + x5))] [0, 1, 6, 7] [(0, .slice aa_ a_.length ca_), (1, .slice alist list.length clist), (6, iV (w64 (s1 + x5))), (7, iV i1)] ?_
    refine Run_blk ?_
    refine Zg 3 [(0, .slice aa_ a_.length ca_), (1, .slice alist list.length clist), (6, iV (w64 (s1 + x5))), (7, iV (i1 + 1))] ?_ ?_
    ·refine Zb [iV i1] 0 ?_
     refine Zy (iV (i1 + 1)) (Y_eq (v := iV (w64 (i1 + 1))) (Y_pure (fun w => by kernel_rfl)) (by rw [w64_eq _ (by omega)])) ?_
     refine Zb [iV (i1 + 1)] 2 ?_
     exact Zd [0, 1, 6, 7]
    have hB1 := M.ret_some hB1
    have gx1 := hgoy1 _ hB1.symm
    exact Za [0, 1, 6, 7] my1 ⟨i1 + 1, (w64 (s1 + x5)), by omega, gx1, rfl, rfl⟩
  ·have gx1 := M.for_end gx1 hb1
   subst gx1
   refine Run_exit (k' := _) rfl ?_
   exact Zf [6] ⟨s1, rfl, rfl, rfl⟩

theorem w_spec_l03Cycle (h : Heap) (a_ : List (List Int)) (aa_ : Option Addr) (ca_ : Nat) (ra_ : Rd cd24 h (Lt h) aa_ ca_ a_) (cycle : List Int) (acycle : Option Addr) (ccycle : Nat) (rcycle : Rd cd2 h (Lt h) acycle ccycle cycle) (n : Nat) (r : Int × Bool) (hF : spec_l03Cycle a_ cycle n = some r) :
  Fn Tryz.prog 91 #[.slice aa_ a_.length ca_, .slice acycle cycle.length ccycle] h fun v h' => v = .tuple #[iV r.1, .bool r.2] ∧ Hold h h' [] := by
 unfold spec_l03Cycle at hF
 refine Zo [.slice aa_ a_.length ca_, .slice acycle cycle.length ccycle] Tryz.func91 rfl (fun w0 _ => ?_)
 have H0 := Hold.init h
 refine Zs ?_
 refine Zq [iV 0, .bool false] [0, 1] [(0, .slice aa_ a_.length ca_), (1, .slice acycle cycle.length ccycle)] ?_
 refine Zs ?_
 refine Zs ?_
 obtain ⟨x1, gx1, hF⟩ := M.bind_some hF
 refine Zg 9 [(0, .slice aa_ a_.length ca_), (1, .slice acycle cycle.length ccycle), (15, .bool x1)] ?_ ?_
 ·refine Zb [.slice acycle cycle.length ccycle, iV (cycle.length : Int), .bool ((cycle.length : Int) == 0)] 0 ?_
  refine QRun_seq 9 [(0, .slice aa_ a_.length ca_), (1, .slice acycle cycle.length ccycle), (15, .bool x1)] ?_ ?_
  ·rcases Bool.eq_false_or_eq_true ((cycle.length : Int) == 0) with hb1 | hb1
   ·refine Zv ((cycle.length : Int) == 0) true hb1 ?_
    have gx1 := M.ret_some ((M.ite_some gx1).1 hb1)
    refine Zn ?_
    refine Zn ?_
    refine Zn ?_
    refine Zn ?_
    refine Zv true x1 gx1 ?_
    exact Zd [0, 1, 15]
   ·refine Zv ((cycle.length : Int) == 0) false hb1 ?_
    have gx1 := (M.ite_some gx1).2 hb1
    obtain ⟨x2, hx1, gx1⟩ := M.bind_some gx1
    have gx1 := M.ret_some gx1
    refine Zb [.slice aa_ a_.length ca_, .slice acycle cycle.length ccycle] 4 ?_
    refine Zy (.bool x2) (ZQ 132 #[.slice aa_ a_.length ca_, .slice acycle cycle.length ccycle] (w_spec_l03Nodes h a_ aa_ ca_ ra_ cycle acycle ccycle rcycle _ _ hx1)) ?_
    refine Zb [.bool (!x2)] 7 ?_
    refine Zv (!x2) x1 gx1 ?_
    exact Zd [0, 1, 15]
  exact Zd [0, 1, 15]
 refine Zc (x1) (fun hb2 => ?_) (fun hb2 => ?_)
 ·have hF := (M.ite_some hF).1 hb2
  refine Zs ?_
  refine Zq [iV 0, .bool false] [4, 5] [(4, iV 0), (5, .bool false)] ?_
  have hF := M.ret_some hF
  subst hF
  exact Run_ret2 rfl (Zt (iV 0)) (Zt (.bool false)) ⟨rfl, H0⟩
 ·have hF := (M.ite_some hF).2 hb2
  refine Run_skip ?_
  refine Zs ?_
  refine Zs ?_
  refine Zq [iV 0] [0, 1, 6] [(0, .slice aa_ a_.length ca_), (1, .slice acycle cycle.length ccycle), (6, iV 0)] ?_
  obtain ⟨x3, gx3, hF⟩ := M.bind_some hF
  obtain ⟨hloy1, hhiy1, gx3⟩ := M.for_start gx3
  refine Run_join (fun L' h' => ∃ (s2 : Unit), x3 = .inl s2 ∧ L' = [(0, .slice aa_ a_.length ca_), (1, .slice acycle cycle.length ccycle)] ∧ Hold h h' []) ?_ ?_
  ·rintro _ h2 ⟨s2, es2, rfl, H2⟩
   have hF := M.cont_inl' hF es2
   refine Zs ?_
   obtain ⟨s3, gs3, hF⟩ := M.bind_some hF
   refine Run_join (fun L' h' => L' = [(4, iV s3.1), (5, .bool s3.2)] ∧ Hold h h' []) ?_ ?_
   ·rintro _ h17 ⟨rfl, H32⟩
    have hF := M.ret_some hF
    subst hF
    exact Run_ret2 rfl (Zt (iV s3.1)) (Zt (.bool s3.2)) ⟨rfl, H32⟩
   ·obtain ⟨x8, hx6, gs3⟩ := M.bind_some gs3
    obtain ⟨hx6l, hx6u, hx6⟩ := M.idx_some hx6
    refine Run_D (fun x => Hold h x []) (fun x => Hold h x []) mixed (by kernel_rfl) H2 Hold.stable (fun x Hy => (show Hold h x [] from Hy).pk []) ?_
    refine ZB 11 [.slice aa_ a_.length ca_, .slice acycle cycle.length ccycle] 0 ?_
    refine ZB 10 [.slice acycle cycle.length ccycle] 3 ?_
    refine ZY 9 4 (.pointer (some (adr acycle (0 * 1)))) (fun hx Hx => (YE.of (Zi 24 2 1 (acycle) (cycle.length) (ccycle) .i64 (0) Tryz.underlying24 ((rcycle.at H2.ext).cell hx6).1 hx6l hx6u))) ?_
    refine ZY 8 5 (iV x8) (fun hx Hx => (YE.of (Zl 2 (adr acycle (0 * 1)) (iV x8) (cd2_cell (rcycle.at Hx.ext) hx6)))) ?_
    refine DR_e2 7 2 6 (by kernel_rfl) (by kernel_rfl) (by kernel_rfl) (by kernel_rfl) ?_ ?_
    ·intro h3 H3
     have H4 : Hold h h3 [] := H3
     obtain ⟨x9, hx7, gs3⟩ := M.bind_some gs3
     refine ZC 49 #[.slice acycle cycle.length ccycle] (w_spec_l01Own h3 cycle acycle ccycle (rcycle.at H4.ext) _ _ hx7) (fun v1 h4 hp1 => ?_)
     obtain ⟨a1, c1, rfl, H5⟩ := hp1
     have H6 : Hold h h4 [own cd2 a1 x9.length c1 x9] := H4.call H5 rfl
     refine ⟨fun x => Hold h x [], fun x => Hold h x [own cd2 a1 x9.length c1 x9], H6, Hold.stable, fun x Hy => (show Hold h x [own cd2 a1 x9.length c1 x9] from Hy).pk [], fun x Hy => (show Hold h x [] from Hy).pk [], ?_⟩
     refine ZE 6 6 (fun h5 H7 => ?_)
     have H8 : Hold h h5 [own cd2 a1 x9.length c1 x9] := H7
     refine E_lit (C := cd2) (n := 1) (l := ([x8] : List Int)) (cs := [iV x8]) H8 (fun w => by kernel_rfl) (Enc.consE (cd2_own x8 _) (Enc.nil _ _) rfl) rfl (by decide) (fun a2 h6 H9 => ?_)
     refine ⟨fun x => Hold h x [], fun x => Hold h x [own cd2 a2 1 1 ([x8] : List Int), own cd2 a1 x9.length c1 x9], H9, Hold.stable, fun x Hy => (show Hold h x [own cd2 a2 1 1 ([x8] : List Int), own cd2 a1 x9.length c1 x9] from Hy).pk [], fun x Hy => (show Hold h x [] from Hy).pk [], ?_⟩
     refine ZE 5 7 (fun h7 H10 => ?_)
     have H11 : Hold h h7 [own cd2 a2 1 1 ([x8] : List Int), own cd2 a1 x9.length c1 x9] := H10
     obtain ⟨l1, hl1, gs3⟩ := M.bind_some gs3
     have hl1 := M.app_some hl1
     have H12 : Hold h h7 [own cd2 a1 x9.length c1 x9, own cd2 a2 1 1 ([x8] : List Int)] := H11.pk [1, 0]
     have H13 : Hold h h7 [own cd2 a2 1 1 ([x8] : List Int), own cd2 a1 x9.length c1 x9] := H12.pk [1, 0]
     have H14 : Hold h h7 [own cd2 a1 x9.length c1 x9, own cd2 a2 1 1 ([x8] : List Int)] := H13.pk [1, 0]
     refine E_app (C := cd2) (t := 24) (ty := 24) (n := x9.length) (m := 1) H14 cd2_ti rfl Tryz.underlying24 (by decide) (by kernel_rfl) hl1 (fun a3 c2 h8 H15 => ?_)
     refine ⟨fun x => Hold h x [own cd2 a3 l1.length c2 l1], fun x => Hold h x [own cd2 a3 l1.length c2 l1], H15, Hold.stable, fun x Hy => (show Hold h x [own cd2 a3 l1.length c2 l1] from Hy).pk [0], fun x Hy => (show Hold h x [own cd2 a3 l1.length c2 l1] from Hy).pk [], ?_⟩
     obtain ⟨x10, hx8, gs3⟩ := M.bind_some gs3
     refine ZY 4 8 (.tuple #[iV x10.1, .bool x10.2]) (fun hx Hx => (YE.of (ZQ 133 #[.slice aa_ a_.length ca_, .slice a3 l1.length c2] (w_spec_l03Walk hx a_ aa_ ca_ (ra_.at Hx.ext) l1 a3 c2 (Hx.rd 0 rfl) _ _ hx8)))) ?_
     refine ZB 0 [iV x10.1, .bool x10.2, iV x10.1, .bool x10.2] 9 ?_
     refine ZT 13 (fun h9 H16 => ?_)
     have H17 : Hold h h9 [own cd2 a3 l1.length c2 l1] := H16
     refine Zx ?_
     refine Zk [4, 5] [(4, iV x10.1), (5, .bool x10.2)] ?_
     have H37 : Hold h h9 [] := H17.pk []
     have gs3 := M.ret_some gs3
     subst gs3
     exact Zf [4, 5] ⟨rfl, H37⟩
    ·intro h10 H18
     have H19 : Hold h h10 [] := H18
     refine E_lit (C := cd2) (n := 1) (l := ([x8] : List Int)) (cs := [iV x8]) H19 (fun w => by kernel_rfl) (Enc.consE (cd2_own x8 _) (Enc.nil _ _) rfl) rfl (by decide) (fun a4 h11 H20 => ?_)
     refine ⟨fun x => Hold h x [], fun x => Hold h x [own cd2 a4 1 1 ([x8] : List Int)], H20, Hold.stable, fun x Hy => (show Hold h x [own cd2 a4 1 1 ([x8] : List Int)] from Hy).pk [], fun x Hy => (show Hold h x [] from Hy).pk [], ?_⟩
     refine ZE 6 2 (fun h12 H21 => ?_)
     have H22 : Hold h h12 [own cd2 a4 1 1 ([x8] : List Int)] := H21
     obtain ⟨x11, hx9, gs3⟩ := M.bind_some gs3
     refine ZC 49 #[.slice acycle cycle.length ccycle] (w_spec_l01Own h12 cycle acycle ccycle (rcycle.at H22.ext) _ _ hx9) (fun v2 h13 hp2 => ?_)
     obtain ⟨a5, c3, rfl, H23⟩ := hp2
     have H24 : Hold h h13 [own cd2 a5 x11.length c3 x11, own cd2 a4 1 1 ([x8] : List Int)] := H22.call H23 rfl
     refine ⟨fun x => Hold h x [], fun x => Hold h x [own cd2 a5 x11.length c3 x11, own cd2 a4 1 1 ([x8] : List Int)], H24, Hold.stable, fun x Hy => (show Hold h x [own cd2 a5 x11.length c3 x11, own cd2 a4 1 1 ([x8] : List Int)] from Hy).pk [], fun x Hy => (show Hold h x [] from Hy).pk [], ?_⟩
     refine ZE 5 7 (fun h14 H25 => ?_)
     have H26 : Hold h h14 [own cd2 a5 x11.length c3 x11, own cd2 a4 1 1 ([x8] : List Int)] := H25
     obtain ⟨l2, hl2, gs3⟩ := M.bind_some gs3
     have hl2 := M.app_some hl2
     have H27 : Hold h h14 [own cd2 a4 1 1 ([x8] : List Int), own cd2 a5 x11.length c3 x11] := H26.pk [1, 0]
     have H28 : Hold h h14 [own cd2 a5 x11.length c3 x11, own cd2 a4 1 1 ([x8] : List Int)] := H27.pk [1, 0]
     refine E_app (C := cd2) (t := 24) (ty := 24) (n := x11.length) (m := 1) H28 cd2_ti rfl Tryz.underlying24 (by decide) (by kernel_rfl) hl2 (fun a6 c4 h15 H29 => ?_)
     refine ⟨fun x => Hold h x [own cd2 a6 l2.length c4 l2], fun x => Hold h x [own cd2 a6 l2.length c4 l2], H29, Hold.stable, fun x Hy => (show Hold h x [own cd2 a6 l2.length c4 l2] from Hy).pk [0], fun x Hy => (show Hold h x [own cd2 a6 l2.length c4 l2] from Hy).pk [], ?_⟩
     obtain ⟨x12, hx10, gs3⟩ := M.bind_some gs3
     refine ZY 4 8 (.tuple #[iV x12.1, .bool x12.2]) (fun hx Hx => (YE.of (ZQ 133 #[.slice aa_ a_.length ca_, .slice a6 l2.length c4] (w_spec_l03Walk hx a_ aa_ ca_ (ra_.at Hx.ext) l2 a6 c4 (Hx.rd 0 rfl) _ _ hx10)))) ?_
     refine ZB 0 [iV x12.1, .bool x12.2, iV x12.1, .bool x12.2] 9 ?_
     refine ZT 13 (fun h16 H30 => ?_)
     have H31 : Hold h h16 [own cd2 a6 l2.length c4 l2] := H30
     refine Zx ?_
     refine Zk [4, 5] [(4, iV x12.1), (5, .bool x12.2)] ?_
     have H38 : Hold h h16 [] := H31.pk []
     have gs3 := M.ret_some gs3
     subst gs3
     exact Zf [4, 5] ⟨rfl, H38⟩
  ·refine Run_block ?_
   refine Zk [0, 1, 6] [(0, .slice aa_ a_.length ca_), (1, .slice acycle cycle.length ccycle), (6, iV 0)] ?_
   refine Run_loop (fun m L' h' => ∃ (i1 : Int) (s1 : Unit), 0 ≤ i1 ∧ M.forN (cycle.length : Int) _ _ n m i1 s1 = some x3 ∧ L' = [(0, .slice aa_ a_.length ca_), (1, .slice acycle cycle.length ccycle), (6, iV i1)] ∧ Hold h h' []) ((cycle.length : Int) - 0 : Int).toNat ⟨0, (), Int.le_refl _, gx3, rfl, H0⟩ ?_
   rintro my1 _ h1 ⟨i1, s1, hloy1', gx3, rfl, H1⟩
   refine Zs ?_
   refine Zs ?_
   refine Zq [iV i1, .slice acycle cycle.length ccycle, iV (cycle.length : Int), .bool (decide (i1 < (cycle.length : Int)))] [0, 1, 6, 19] [(0, .slice aa_ a_.length ca_), (1, .slice acycle cycle.length ccycle), (6, iV i1), (19, .bool (decide (i1 < (cycle.length : Int))))] ?_
   refine Zc (decide (i1 < (cycle.length : Int))) (fun hb3 => ?_) (fun hb3 => ?_)
   ·obtain ⟨my1, y1, rfl, hB1, hgoy1, houty1⟩ := M.for_go gx3 hb3
    have hlty1 := of_decide_eq_true hb3
    refine Run_skip ?_
    refine Zs ?_
    refine Run_block ?_
    refine Zs ?_
    obtain ⟨x4, hx2, hB1⟩ := M.bind_some hB1
    obtain ⟨hx2a, hx2b, hx2c, hx2d⟩ := M.sub_some hx2
    have hn1 : x4.length = i1.toNat - (0 : Int).toNat := by rw [hx2d, List.length_take, List.length_drop]; omega
    obtain ⟨x5, hx3, hB1⟩ := M.bind_some hB1
    obtain ⟨hx3l, hx3u, hx3⟩ := M.idx_some hx3
    obtain ⟨x6, hx4, hB1⟩ := M.bind_some hB1
    refine Run_draw 8 mixed (by kernel_rfl) (by kernel_rfl) (L' := [(0, .slice aa_ a_.length ca_), (1, .slice acycle cycle.length ccycle), (6, iV i1), (29, .bool x6)]) ?_ ?_
    ·refine Zb [.slice acycle cycle.length ccycle, iV i1] 0 ?_
     refine Zy (.slice (sliceA acycle ccycle 0 1) (i1.toNat - (0 : Int).toNat) (ccycle - 0)) (Y_slice (t := 24) (e := 2) (sz := 1) (a := acycle) (n := cycle.length) (cap := ccycle) (lo := none) (hi := (some (.i64, i1))) (x := 0) (y := i1) (by kernel_rfl) Tryz.underlying24 (by kernel_rfl) (rcycle.at H1.ext).fits rfl rfl hx2a hx2b hx2c) ?_
     refine Zb [.slice acycle cycle.length ccycle, iV i1] 3 ?_
     refine Zy (.pointer (some (adr acycle (i1.toNat * 1)))) (Zi 24 2 1 (acycle) (cycle.length) (ccycle) .i64 (i1) Tryz.underlying24 ((rcycle.at H1.ext).cell hx3).1 hx3l hx3u) ?_
     refine Zy (iV x5) (Zl 2 (adr acycle (i1.toNat * 1)) (iV x5) (cd2_cell (rcycle.at H1.ext) hx3)) ?_
     refine Zy (.bool x6) (ZQ 69 #[.slice (sliceA acycle ccycle 0 1) (i1.toNat - (0 : Int).toNat) (ccycle - 0), iV x5] (Fn.arg (w_spec_l01Has h1 x4 (sliceA acycle ccycle 0 1) (ccycle - 0) (show Rd _ _ _ _ _ x4 from hx2d ▸ ((rcycle.at H1.ext)).sub (by omega) (by omega)) x5 _ _ hx4) (by simp only [hn1]))) ?_
     exact Zd [0, 1, 6, 29]
    refine Zc (x6) (fun hb4 => ?_) (fun hb4 => ?_)
    ·have hB1 := (M.ite_some hB1).1 hb4
     refine Zs ?_
     refine Zq [iV 0, .bool false] [4, 5] [(4, iV 0), (5, .bool false)] ?_
     have hB1 := M.ret_some hB1
     have gx3 := houty1 _ hB1.symm
     have hF := M.cont_inr' hF gx3
     have hF := M.ret_some hF
     subst hF
     exact Run_ret2 rfl (Zt (iV 0)) (Zt (.bool false)) ⟨rfl, H1⟩
    ·have hB1 := (M.ite_some hB1).2 hb4
     refine Run_skip ?_
     refine Run_blk ?_
     refine Zg 3 [(0, .slice aa_ a_.length ca_), (1, .slice acycle cycle.length ccycle), (6, iV (i1 + 1))] ?_ ?_
     ·refine Zb [iV i1] 0 ?_
      refine Zy (iV (i1 + 1)) (Y_eq (v := iV (w64 (i1 + 1))) (Y_pure (fun w => by kernel_rfl)) (by rw [w64_eq _ (by omega)])) ?_
      refine Zb [iV (i1 + 1)] 2 ?_
      exact Zd [0, 1, 6]
     have hB1 := M.ret_some hB1
     have gx3 := hgoy1 _ hB1.symm
     exact Za [0, 1, 6] my1 ⟨i1 + 1, (), by omega, gx3, rfl, H1⟩
   ·have gx3 := M.for_end gx3 hb3
    subst gx3
    refine Run_exit (k' := _) rfl ?_
    exact Zf [0, 1] ⟨(), rfl, rfl, H1⟩

theorem w_spec_l01Divisor (h : Heap) (a_ : Int) (b : Int) (n : Nat) (r : Int) (hF : spec_l01Divisor a_ b n = some r) :
  Fn Tryz.prog 134 #[iV a_, iV b] h fun v h' => v = iV r ∧ h' = h := by
 unfold spec_l01Divisor at hF
 refine Zo [iV a_, iV b] Tryz.func134 rfl (fun w0 _ => ?_)
 refine Zs ?_
 refine Zq [iV 0] [0, 1] [(0, iV a_), (1, iV b)] ?_
 refine Zs ?_
 refine Zq [iV a_, iV a_, iV (w64 (0 - a_)), iV (mx a_ (w64 (0 - a_))), iV b, iV b, iV (w64 (0 - b)), iV (mx b (w64 (0 - b))), iV (mx a_ (w64 (0 - a_))), iV (mx b (w64 (0 - b)))] [0, 1] [(0, iV (mx a_ (w64 (0 - a_)))), (1, iV (mx b (w64 (0 - b))))] ?_
 refine Zs ?_
 obtain ⟨x1, gx1, hF⟩ := M.bind_some hF
 refine Run_join (fun L' h' => L' = [(0, iV x1.1)] ∧ h = h') ?_ ?_
 ·rintro _ _ ⟨rfl, rfl⟩
  refine Zs ?_
  refine Zq [iV x1.1, iV x1.1] [4] [(4, iV x1.1)] ?_
  have hF := M.ret_some hF
  subst hF
  exact Run_ret1 rfl (Zt (iV x1.1)) ⟨rfl, rfl⟩
 ·refine Run_block ?_
  refine Zk [0, 1] [(0, iV (mx a_ (w64 (0 - a_)))), (1, iV (mx b (w64 (0 - b))))] ?_
  refine Run_loop (fun m L' h' => ∃ (s1 : Int × Int), M.loopN _ n m s1 = some x1 ∧ L' = [(0, iV s1.1), (1, iV s1.2)] ∧ h = h') n ⟨((mx a_ (w64 (0 - a_))), (mx b (w64 (0 - b)))), gx1, rfl, rfl⟩ ?_
  rintro my1 _ _ ⟨s1, gx1, rfl, rfl⟩
  obtain ⟨my1, y1, rfl, hB1, hgoy1, houty1⟩ := M.loop_some gx1
  refine Zs ?_
  refine Zs ?_
  refine Zq [iV s1.2, .bool (decide (0 < s1.2))] [0, 1, 14] [(0, iV s1.1), (1, iV s1.2), (14, .bool (decide (0 < s1.2)))] ?_
  refine Zc (decide (0 < s1.2)) (fun hb1 => ?_) (fun hb1 => ?_)
  ·have hB1 := (M.ite_some hB1).1 hb1
   refine Run_skip ?_
   refine Run_block ?_
   obtain ⟨u1, hz1, hB1⟩ := M.bind_some hB1
   have hz1 := M.guard_some hz1
   refine Run_draw 6 mixed (by kernel_rfl) (by kernel_rfl) (L' := [(0, iV s1.2), (1, iV (s1.1.tmod s1.2))]) ?_ ?_
   ·refine Zb [iV s1.2, iV s1.1, iV s1.2] 0 ?_
    refine Zy (iV (s1.1.tmod s1.2)) (Y_rem (op := .rem) (k := .i64) (x := s1.1) (y := s1.2) (by kernel_rfl) hz1) ?_
    refine Zb [iV s1.2, iV (s1.1.tmod s1.2)] 4 ?_
    exact Zd [0, 1]
   refine Run_blk ?_
   have hB1 := M.ret_some hB1
   have gx1 := hgoy1 _ hB1.symm
   exact Za [0, 1] my1 ⟨(s1.2, (s1.1.tmod s1.2)), gx1, rfl, rfl⟩
  ·have hB1 := (M.ite_some hB1).2 hb1
   refine Run_exit (k' := _) rfl ?_
   have hB1 := M.ret_some hB1
   have gx1 := houty1 _ hB1.symm
   subst gx1
   exact Zf [0] ⟨rfl, rfl⟩

theorem w_spec_l01Ratio (h : Heap) (num : Int) (den : Int) (n : Nat) (r : TRatio) (hF : spec_l01Ratio num den n = some r) :
  Fn Tryz.prog 92 #[iV num, iV den] h fun v h' => v = .agg #[iV r.Num, iV r.Den] ∧ Hold h h' [] := by
 unfold spec_l01Ratio at hF
 refine Zo [iV num, iV den] Tryz.func92 rfl (fun w0 _ => ?_)
 have H0 := Hold.init h
 refine Zs ?_
 refine Run_ops ?_
 refine Ze ?_
 refine E_box (ty := 44) (cs := [iV 0, iV 0]) H0 (fun w => by kernel_rfl) (fun b1 h1 H1 => ?_)
 refine Zx ?_
 refine Zk [0, 1, 4] [(0, iV num), (1, iV den), (4, pV b1)] ?_
 refine Zs ?_
 refine Zs ?_
 refine Zq [iV den, .bool (decide (den < 0))] [0, 1, 4, 7] [(0, iV num), (1, iV den), (4, pV b1), (7, .bool (decide (den < 0)))] ?_
 obtain ⟨s1, gs1, hF⟩ := M.bind_some hF
 refine Run_join (fun L' h' => L' = [(0, iV s1.1), (1, iV s1.2), (4, pV b1)] ∧ Hold h h' [box b1 44 [iV 0, iV 0]]) ?_ ?_
 ·rintro _ h2 ⟨rfl, H2⟩
  refine Zs ?_
  obtain ⟨x1, hx1, hF⟩ := M.bind_some hF
  refine Zg 4 [(0, iV s1.1), (1, iV s1.2), (4, pV b1), (5, iV x1)] ?_ ?_
  ·refine Zb [iV s1.1, iV s1.2] 0 ?_
   refine Zy (iV x1) (ZQ 134 #[iV s1.1, iV s1.2] (w_spec_l01Divisor h2 s1.1 s1.2 _ _ hx1)) ?_
   refine Zb [iV x1] 3 ?_
   exact Zd [0, 1, 4, 5]
  refine Zs ?_
  obtain ⟨u1, hz1, hF⟩ := M.bind_some hF
  have hz1 := M.guard_some hz1
  obtain ⟨u2, hz2, hF⟩ := M.bind_some hF
  have hz2 := M.guard_some hz2
  refine Run_D (fun x => Hold h x [box b1 44 [iV 0, iV 0]]) (fun x => Hold h x [box b1 44 [iV 0, iV 0]]) mixed (by kernel_rfl) H2 Hold.stable (fun x Hy => (show Hold h x [box b1 44 [iV 0, iV 0]] from Hy).pk [0]) ?_
  refine ZB 6 [iV s1.1, iV x1] 0 ?_
  refine ZY 5 2 (iV (w64 (s1.1.tdiv x1))) (fun hx Hx => (YE.of (Y_quo (op := .quo) (k := .i64) (x := s1.1) (y := x1) (by kernel_rfl) hz1))) ?_
  refine ZB 3 [iV s1.2, iV x1] 3 ?_
  refine ZY 2 5 (iV (w64 (s1.2.tdiv x1))) (fun hx Hx => (YE.of (Y_quo (op := .quo) (k := .i64) (x := s1.2) (y := x1) (by kernel_rfl) hz2))) ?_
  refine ZB 1 [.agg #[iV (w64 (s1.1.tdiv x1)), iV (w64 (s1.2.tdiv x1))]] 6 ?_
  refine ZT 7 (fun h3 H3 => ?_)
  have H4 : Hold h h3 [box b1 44 [iV 0, iV 0]] := H3
  refine Ze ?_
  refine ZP 44 0 [iV (w64 (s1.1.tdiv x1)), iV (w64 (s1.2.tdiv x1))] (.agg #[iV (w64 (s1.1.tdiv x1)), iV (w64 (s1.2.tdiv x1))]) H4 (fun h4 H5 => ?_)
  refine Zx ?_
  refine Zk [4] [(4, pV b1)] ?_
  have hF := M.ret_some hF
  subst hF
  have H6 : Hold h h4 [] := H5.pk []
  exact Run_ret1 rfl (ResV_cell (n := 2) (cs := [iV (w64 (s1.1.tdiv x1)), iV (w64 (s1.2.tdiv x1))]) (by kernel_rfl) (fun w => by kernel_rfl) (by kernel_rfl) rfl (H5.cells (n := 2) (off := 0) 0 rfl rfl)) ⟨rfl, H6⟩
 ·refine Zc (decide (den < 0)) (fun hb1 => ?_) (fun hb1 => ?_)
  ·have gs1 := (M.ite_some gs1).1 hb1
   refine Zq [iV num, iV (w64 (0 - num)), iV den, iV (w64 (0 - den)), iV (w64 (0 - num)), iV (w64 (0 - den))] [0, 1, 4] [(0, iV (w64 (0 - num))), (1, iV (w64 (0 - den))), (4, pV b1)] ?_
   have gs1 := M.ret_some gs1
   subst gs1
   exact Zf [0, 1, 4] ⟨rfl, H1⟩
  ·have gs1 := (M.ite_some gs1).2 hb1
   refine Run_skip ?_
   have gs1 := M.ret_some gs1
   subst gs1
   exact Zf [0, 1, 4] ⟨rfl, H1⟩

theorem w_spec_l04Mean (h : Heap) (a_ : List (List Int)) (aa_ : Option Addr) (ca_ : Nat) (ra_ : Rd cd24 h (Lt h) aa_ ca_ a_) (cycle : List Int) (acycle : Option Addr) (ccycle : Nat) (rcycle : Rd cd2 h (Lt h) acycle ccycle cycle) (n : Nat) (r : TRatio × Bool) (hF : spec_l04Mean a_ cycle n = some r) :
  Fn Tryz.prog 55 #[.slice aa_ a_.length ca_, .slice acycle cycle.length ccycle] h fun v h' => v = .tuple #[.agg #[iV r.1.Num, iV r.1.Den], .bool r.2] ∧ Hold h h' [] := by
 unfold spec_l04Mean at hF
 refine Zo [.slice aa_ a_.length ca_, .slice acycle cycle.length ccycle] Tryz.func55 rfl (fun w0 _ => ?_)
 have H0 := Hold.init h
 refine Zs ?_
 refine Run_ops ?_
 refine Ze ?_
 refine E_box (ty := 44) (cs := [iV 0, iV 0]) H0 (fun w => by kernel_rfl) (fun b1 h1 H1 => ?_)
 refine Zr [.bool false] 1 ?_
 refine Zx ?_
 refine Zk [0, 1, 4] [(0, .slice aa_ a_.length ca_), (1, .slice acycle cycle.length ccycle), (4, pV b1)] ?_
 refine Zs ?_
 obtain ⟨x1, hx1, hF⟩ := M.bind_some hF
 refine Run_regC (j := 8) (C := fun x => Hold h x [box b1 44 [iV 0, iV 0]]) (by kernel_rfl) H1 (L' := [(1, .slice acycle cycle.length ccycle), (4, pV b1), (6, iV x1.1), (7, .bool x1.2)]) ?_ (fun h2 H2 => ?_)
 ·refine Zb [.slice aa_ a_.length ca_, .slice acycle cycle.length ccycle] 0 ?_
  refine Zy (.tuple #[iV x1.1, .bool x1.2]) (Y_call (f := 91) (args := #[.slice aa_ a_.length ca_, .slice acycle cycle.length ccycle]) (v := .tuple #[iV x1.1, .bool x1.2]) (by kernel_rfl) fun hx Hx => (w_spec_l03Cycle hx a_ aa_ ca_ (ra_.at Hx.ext) cycle acycle ccycle (rcycle.at Hx.ext) _ _ hx1).mono fun _ _ ⟨e, H'⟩ => ⟨e, Hx.call H' rfl⟩) ?_
  refine Zb [.tuple #[iV x1.1, .bool x1.2], iV x1.1, .bool x1.2, iV x1.1, .bool x1.2] 3 ?_
  exact Zd [1, 4, 6, 7]
 have H3 : Hold h h2 [box b1 44 [iV 0, iV 0]] := H2
 refine Zs ?_
 refine Zs ?_
 refine Zq [.bool x1.2, .bool (!x1.2)] [1, 4, 6, 15] [(1, .slice acycle cycle.length ccycle), (4, pV b1), (6, iV x1.1), (15, .bool (!x1.2))] ?_
 refine Zc (!x1.2) (fun hb1 => ?_) (fun hb1 => ?_)
 ·have hF := (M.ite_some hF).1 hb1
  refine Zs ?_
  refine Run_ops ?_
  refine Zr [.agg #[iV 0, iV 0]] 0 ?_
  refine Ze ?_
  refine ZP 44 0 [iV 0, iV 0] (.agg #[iV 0, iV 0]) H3 (fun h3 H4 => ?_)
  refine Zr [.bool false] 2 ?_
  refine Zx ?_
  refine Zk [4, 5] [(4, pV b1), (5, .bool false)] ?_
  have hF := M.ret_some hF
  subst hF
  have H5 : Hold h h3 [] := H4.pk []
  exact Run_ret2 rfl (ResV_cell (n := 2) (cs := [iV 0, iV 0]) (by kernel_rfl) (fun w => by kernel_rfl) (by kernel_rfl) rfl (H4.cells (n := 2) (off := 0) 0 rfl rfl)) (Zt (.bool false)) ⟨rfl, H5⟩
 ·have hF := (M.ite_some hF).2 hb1
  refine Run_skip ?_
  refine Zs ?_
  refine Run_ops ?_
  refine Zr [iV x1.1, .slice acycle cycle.length ccycle, iV (cycle.length : Int)] 0 ?_
  obtain ⟨x2, hx2, hF⟩ := M.bind_some hF
  refine Ze ?_
  refine ZC 92 #[iV x1.1, iV (cycle.length : Int)] (w_spec_l01Ratio h2 x1.1 (cycle.length : Int) _ _ hx2) (fun v1 h4 hp1 => ?_)
  obtain ⟨rfl, H6⟩ := hp1
  have H7 : Hold h h4 [box b1 44 [iV 0, iV 0]] := H3.call H6 rfl
  refine Ze ?_
  refine ZP 44 0 [iV x2.Num, iV x2.Den] (.agg #[iV x2.Num, iV x2.Den]) H7 (fun h5 H8 => ?_)
  refine Zr [.bool true] 5 ?_
  refine Zx ?_
  refine Zk [4, 5] [(4, pV b1), (5, .bool true)] ?_
  have hF := M.ret_some hF
  subst hF
  have H9 : Hold h h5 [] := H8.pk []
  exact Run_ret2 rfl (ResV_cell (n := 2) (cs := [iV x2.Num, iV x2.Den]) (by kernel_rfl) (fun w => by kernel_rfl) (by kernel_rfl) rfl (H8.cells (n := 2) (off := 0) 0 rfl rfl)) (Zt (.bool true)) ⟨rfl, H9⟩

theorem w_spec_l02Own (h : Heap) (a_ : List (List Int)) (aa_ : Option Addr) (ca_ : Nat) (ra_ : Rd cd24 h (Lt h) aa_ ca_ a_) (n : Nat) (r : (List (List Int))) (hF : spec_l02Own a_ n = some r) :
  Fn Tryz.prog 103 #[.slice aa_ a_.length ca_] h fun v h' => ∃ (a0 : Option Addr) (c0 : Nat), v = .slice a0 r.length c0 ∧ Hold h h' [own cd24 a0 r.length c0 r] := by
 unfold spec_l02Own at hF
 refine Zo [.slice aa_ a_.length ca_] Tryz.func103 rfl (fun w0 _ => ?_)
 have H0 := Hold.init h
 refine Zs ?_
 refine Zq [.slice none 0 0] [0] [(0, .slice aa_ a_.length ca_)] ?_
 refine Zs ?_
 refine Run_ops ?_
 refine Ze ?_
 refine E_lit (C := cd24) (n := 0) (l := []) (cs := []) H0 (fun w => by kernel_rfl) (Enc.nil _ _) rfl (by decide) (fun a1 h1 H1 => ?_)
 refine Zr [.slice a1 0 0] 1 ?_
 refine Zx ?_
 refine Zk [0, 3] [(0, .slice aa_ a_.length ca_), (3, .slice a1 0 0)] ?_
 refine Zs ?_
 refine Zs ?_
 refine Zq [iV 0] [0, 3, 4] [(0, .slice aa_ a_.length ca_), (3, .slice a1 0 0), (4, iV 0)] ?_
 obtain ⟨x1, gx1, hF⟩ := M.bind_some hF
 obtain ⟨hloy1, hhiy1, gx1⟩ := M.for_start gx1
 refine Run_join (fun L' h' => ∃ (a3 : Option Addr) (c2 : Nat), L' = [(3, .slice a3 x1.length c2)] ∧ Hold h h' [own cd24 a3 x1.length c2 x1]) ?_ ?_
 ·rintro _ h3 ⟨a3, c2, rfl, H3⟩
  refine Zs ?_
  refine Zq [.slice a3 x1.length c2, .slice a3 x1.length c2] [2] [(2, .slice a3 x1.length c2)] ?_
  have hF := M.ret_some hF
  subst hF
  exact Run_ret1 rfl (Zt (.slice a3 x1.length c2)) ⟨a3, c2, rfl, H3⟩
 ·refine Run_block ?_
  have hn1 := (H1.len 0 rfl)
  have H11 : Hold h h1 [own cd24 a1 (([] : List (List Int)).length) 0 ([] : List (List Int))] := by rw [hn1]; exact H1
  refine Run_keep [0, 3, 4] (L' := [(0, .slice aa_ a_.length ca_), (3, .slice a1 (([] : List (List Int)).length) 0), (4, iV 0)]) (by first | (rw [hn1]; kernel_rfl) | (simp only [hn1]; kernel_rfl) | kernel_rfl) ?_
  refine Run_loop (fun m L' h' => ∃ (i1 : Int) (s1 : (List (List Int))) (a2 : Option Addr) (c1 : Nat), 0 ≤ i1 ∧ M.forN (a_.length : Int) _ _ n m i1 s1 = some x1 ∧ L' = [(0, .slice aa_ a_.length ca_), (3, .slice a2 s1.length c1), (4, iV i1)] ∧ Hold h h' [own cd24 a2 s1.length c1 s1]) ((a_.length : Int) - 0 : Int).toNat ⟨0, ([] : List (List Int)), a1, 0, Int.le_refl _, gx1, rfl, H11⟩ ?_
  rintro my1 _ h2 ⟨i1, s1, a2, c1, hloy1', gx1, rfl, H2⟩
  refine Zs ?_
  refine Zs ?_
  refine Zq [iV i1, .slice aa_ a_.length ca_, iV (a_.length : Int), .bool (decide (i1 < (a_.length : Int)))] [0, 3, 4, 9] [(0, .slice aa_ a_.length ca_), (3, .slice a2 s1.length c1), (4, iV i1), (9, .bool (decide (i1 < (a_.length : Int))))] ?_
  refine Zc (decide (i1 < (a_.length : Int))) (fun hb1 => ?_) (fun hb1 => ?_)
  ·obtain ⟨my1, y1, rfl, hB1, hgoy1, houty1⟩ := M.for_go gx1 hb1
   have hlty1 := of_decide_eq_true hb1
   refine Run_skip ?_
   refine Zs ?_
   refine Run_block ?_
   refine Run_ops ?_
   obtain ⟨x2, hx1, hB1⟩ := M.bind_some hB1
   obtain ⟨hx1l, hx1u, hx1⟩ := M.idx_some hx1
   obtain ⟨a4, c3, hc1, r1⟩ := ra_.row hx1
   refine Zr [.slice a2 s1.length c1, .slice aa_ a_.length ca_, iV i1] 0 ?_
   refine Zz (.pointer (some (adr aa_ (i1.toNat * 1)))) (Zi 22 24 1 (aa_) (a_.length) (ca_) .i64 (i1) Tryz.underlying22 ((ra_.at H2.ext).cell hx1).1 hx1l hx1u) ?_
   refine Zz (.slice a4 x2.length c3) (Zl 24 (adr aa_ (i1.toNat * 1)) (.slice a4 x2.length c3) (cell_at H2.ext hc1)) ?_
   obtain ⟨x3, hx2, hB1⟩ := M.bind_some hB1
   refine Ze ?_
   refine ZC 49 #[.slice a4 x2.length c3] (w_spec_l01Own h2 x2 a4 c3 (r1.at H2.ext) _ _ hx2) (fun v1 h4 hp1 => ?_)
   obtain ⟨a5, c4, rfl, H4⟩ := hp1
   have H5 : Hold h h4 [own cd2 a5 x3.length c4 x3, own cd24 a2 s1.length c1 s1] := H2.call H4 rfl
   refine Ze ?_
   refine E_lit1 (ey := 24) (n := x3.length) H5 (fun w => by kernel_rfl) rfl (fun a6 h5 H6 => ?_)
   obtain ⟨l1, hl1, hB1⟩ := M.bind_some hB1
   have hl1 := M.app_some hl1
   have H7 : Hold h h5 [own cd24 a2 s1.length c1 s1, own cd24 a6 1 1 [x3]] := H6.pk [1, 0]
   have H8 : Hold h h5 [own cd24 a6 1 1 [x3], own cd24 a2 s1.length c1 s1] := H7.pk [1, 0]
   have H9 : Hold h h5 [own cd24 a2 s1.length c1 s1, own cd24 a6 1 1 [x3]] := H8.pk [1, 0]
   refine Ze ?_
   refine E_app (C := cd24) (t := 22) (ty := 22) (n := s1.length) (m := 1) H9 cd24_ti rfl Tryz.underlying22 (by decide) (by kernel_rfl) hl1 (fun a7 c5 h6 H10 => ?_)
   refine Zr [.slice a7 l1.length c5] 8 ?_
   refine Zx ?_
   refine Zk [0, 3, 4] [(0, .slice aa_ a_.length ca_), (3, .slice a7 l1.length c5), (4, iV i1)] ?_
   refine Run_blk ?_
   refine Zg 3 [(0, .slice aa_ a_.length ca_), (3, .slice a7 l1.length c5), (4, iV (i1 + 1))] ?_ ?_
   ·refine Zb [iV i1] 0 ?_
    refine Zy (iV (i1 + 1)) (Y_eq (v := iV (w64 (i1 + 1))) (Y_pure (fun w => by kernel_rfl)) (by rw [w64_eq _ (by omega)])) ?_
    refine Zb [iV (i1 + 1)] 2 ?_
    exact Zd [0, 3, 4]
   have hB1 := M.ret_some hB1
   have gx1 := hgoy1 _ hB1.symm
   exact Za [0, 3, 4] my1 ⟨i1 + 1, l1, a7, c5, by omega, gx1, rfl, H10⟩
  ·have gx1 := M.for_end gx1 hb1
   subst gx1
   refine Run_exit (k' := _) rfl ?_
   exact Zf [3] ⟨a2, c1, rfl, H2⟩

theorem w_spec_l04Shift (h : Heap) (a_ : List (List Int)) (aa_ : Option Addr) (ca_ : Nat) (ra_ : Rd cd24 h (Lt h) aa_ ca_ a_) (r_ : TRatio) (n : Nat) (r : (List (List Int))) (hF : spec_l04Shift a_ r_ n = some r) :
  Fn Tryz.prog 59 #[.slice aa_ a_.length ca_, .agg #[iV r_.Num, iV r_.Den]] h fun v h' => ∃ (a0 : Option Addr) (c0 : Nat), v = .slice a0 r.length c0 ∧ Hold h h' [own cd24 a0 r.length c0 r] := by
 unfold spec_l04Shift at hF
 refine Zo [.slice aa_ a_.length ca_, .agg #[iV r_.Num, iV r_.Den]] Tryz.func59 rfl (fun w0 _ => ?_)
 have H0 := Hold.init h
 refine Zs ?_
 refine Run_ops ?_
 refine Ze ?_
 refine E_box (ty := 44) (cs := [iV r_.Num, iV r_.Den]) H0 (fun w => by kernel_rfl) (fun b1 h1 H1 => ?_)
 refine Zr [.slice none 0 0] 1 ?_
 refine Zx ?_
 refine Zk [0, 3] [(0, .slice aa_ a_.length ca_), (3, pV b1)] ?_
 refine Zs ?_
 refine Run_ops ?_
 refine Zr [.slice aa_ a_.length ca_] 0 ?_
 obtain ⟨x1, hx1, hF⟩ := M.bind_some hF
 refine Ze ?_
 refine ZC 103 #[.slice aa_ a_.length ca_] (w_spec_l02Own h1 a_ aa_ ca_ (ra_.at H1.ext) _ _ hx1) (fun v1 h2 hp1 => ?_)
 obtain ⟨a1, c1, rfl, H2⟩ := hp1
 have H3 : Hold h h2 [own cd24 a1 x1.length c1 x1, box b1 44 [iV r_.Num, iV r_.Den]] := H1.call H2 rfl
 refine Zr [.slice a1 x1.length c1] 2 ?_
 refine Zx ?_
 refine Zk [0, 3, 5] [(0, .slice aa_ a_.length ca_), (3, pV b1), (5, .slice a1 x1.length c1)] ?_
 refine Zs ?_
 refine Zs ?_
 refine Zq [iV 0] [0, 3, 5, 6] [(0, .slice aa_ a_.length ca_), (3, pV b1), (5, .slice a1 x1.length c1), (6, iV 0)] ?_
 obtain ⟨x2, gx2, hF⟩ := M.bind_some hF
 obtain ⟨hloy1, hhiy1, gx2⟩ := M.for_start gx2
 refine Run_join (fun L' h' => L' = [(5, .slice a1 x1.length c1)] ∧ Hold h h' [own cd24 a1 x1.length c1 x2]) ?_ ?_
 ·rintro _ h4 ⟨rfl, H5⟩
  refine Zs ?_
  refine Zq [.slice a1 x1.length c1, .slice a1 x1.length c1] [4] [(4, .slice a1 x1.length c1)] ?_
  have hF := M.ret_some hF
  subst hF
  have H20 := H5.norm
  exact Run_ret1 rfl (Zt (.slice a1 x1.length c1)) ⟨a1, c1, (by simp only [(H5.len 0 rfl)]), H20⟩
 ·refine Run_block ?_
  have H21 : Hold h h2 [box b1 44 [iV r_.Num, iV r_.Den], own cd24 a1 x1.length c1 x1] := H3.pk [1, 0]
  refine Zk [0, 3, 5, 6] [(0, .slice aa_ a_.length ca_), (3, pV b1), (5, .slice a1 x1.length c1), (6, iV 0)] ?_
  refine Run_loop (fun m L' h' => ∃ (i1 : Int) (s1 : (List (List Int))), 0 ≤ i1 ∧ M.forN (a_.length : Int) _ _ n m i1 s1 = some x2 ∧ L' = [(0, .slice aa_ a_.length ca_), (3, pV b1), (5, .slice a1 x1.length c1), (6, iV i1)] ∧ Hold h h' [box b1 44 [iV r_.Num, iV r_.Den], own cd24 a1 x1.length c1 s1]) ((a_.length : Int) - 0 : Int).toNat ⟨0, x1, Int.le_refl _, gx2, rfl, H21⟩ ?_
  rintro my1 _ h3 ⟨i1, s1, hloy1', gx2, rfl, H4⟩
  refine Zs ?_
  refine Zs ?_
  refine Zq [iV i1, .slice aa_ a_.length ca_, iV (a_.length : Int), .bool (decide (i1 < (a_.length : Int)))] [0, 3, 5, 6, 13] [(0, .slice aa_ a_.length ca_), (3, pV b1), (5, .slice a1 x1.length c1), (6, iV i1), (13, .bool (decide (i1 < (a_.length : Int))))] ?_
  refine Zc (decide (i1 < (a_.length : Int))) (fun hb1 => ?_) (fun hb1 => ?_)
  ·obtain ⟨my1, y1, rfl, hB1, hgoy1, houty1⟩ := M.for_go gx2 hb1
   have hlty1 := of_decide_eq_true hb1
   refine Run_skip ?_
   refine Zs ?_
   refine Run_block ?_
   refine Zs ?_
   refine Zq [iV 0] [0, 3, 5, 6, 7] [(0, .slice aa_ a_.length ca_), (3, pV b1), (5, .slice a1 x1.length c1), (6, iV i1), (7, iV 0)] ?_
   obtain ⟨x3, gx3, hB1⟩ := M.bind_some hB1
   obtain ⟨hloy2, hhiy2, gx3⟩ := M.for_start gx3
   refine Run_join (fun L' h' => L' = [(0, .slice aa_ a_.length ca_), (3, pV b1), (5, .slice a1 x1.length c1), (6, iV i1)] ∧ Hold h h' [box b1 44 [iV r_.Num, iV r_.Den], own cd24 a1 x1.length c1 x3]) ?_ ?_
   ·rintro _ h6 ⟨rfl, H7⟩
    refine Run_blk ?_
    refine Zg 3 [(0, .slice aa_ a_.length ca_), (3, pV b1), (5, .slice a1 x1.length c1), (6, iV (i1 + 1))] ?_ ?_
    ·refine Zb [iV i1] 0 ?_
     refine Zy (iV (i1 + 1)) (Y_eq (v := iV (w64 (i1 + 1))) (Y_pure (fun w => by kernel_rfl)) (by rw [w64_eq _ (by omega)])) ?_
     refine Zb [iV (i1 + 1)] 2 ?_
     exact Zd [0, 3, 5, 6]
    have hB1 := M.ret_some hB1
    have gx2 := hgoy1 _ hB1.symm
    exact Za [0, 3, 5, 6] my1 ⟨i1 + 1, x3, by omega, gx2, rfl, H7⟩
   ·refine Run_block ?_
    refine Zk [0, 3, 5, 6, 7] [(0, .slice aa_ a_.length ca_), (3, pV b1), (5, .slice a1 x1.length c1), (6, iV i1), (7, iV 0)] ?_
    refine Run_loop (fun m L' h' => ∃ (i2 : Int) (s2 : (List (List Int))), 0 ≤ i2 ∧ M.forN (a_.length : Int) _ _ n m i2 s2 = some x3 ∧ L' = [(0, .slice aa_ a_.length ca_), (3, pV b1), (5, .slice a1 x1.length c1), (6, iV i1), (7, iV i2)] ∧ Hold h h' [box b1 44 [iV r_.Num, iV r_.Den], own cd24 a1 x1.length c1 s2]) ((a_.length : Int) - 0 : Int).toNat ⟨0, s1, Int.le_refl _, gx3, rfl, H4⟩ ?_
    rintro my2 _ h5 ⟨i2, s2, hloy2', gx3, rfl, H6⟩
    refine Zs ?_
    refine Zs ?_
    refine Zq [iV i2, .slice aa_ a_.length ca_, iV (a_.length : Int), .bool (decide (i2 < (a_.length : Int)))] [0, 3, 5, 6, 7, 19] [(0, .slice aa_ a_.length ca_), (3, pV b1), (5, .slice a1 x1.length c1), (6, iV i1), (7, iV i2), (19, .bool (decide (i2 < (a_.length : Int))))] ?_
    refine Zc (decide (i2 < (a_.length : Int))) (fun hb2 => ?_) (fun hb2 => ?_)
    ·obtain ⟨my2, y2, rfl, hB2, hgoy2, houty2⟩ := M.for_go gx3 hb2
     have hlty2 := of_decide_eq_true hb2
     refine Run_skip ?_
     refine Zs ?_
     refine Run_block ?_
     refine Zs ?_
     obtain ⟨x4, hx2, hB2⟩ := M.bind_some hB2
     obtain ⟨hx2l, hx2u, hx2⟩ := M.idx_some hx2
     obtain ⟨a2, c2, hc1, r1⟩ := ra_.row hx2
     obtain ⟨x5, hx3, hB2⟩ := M.bind_some hB2
     obtain ⟨hx3l, hx3u, hx3⟩ := M.idx_some hx3
     refine Zg 8 [(0, .slice aa_ a_.length ca_), (3, pV b1), (5, .slice a1 x1.length c1), (6, iV i1), (7, iV i2), (29, .bool (x5 != (-1000000000000000)))] ?_ ?_
     ·refine Zb [.slice aa_ a_.length ca_, iV i1] 0 ?_
      refine Zy (.pointer (some (adr aa_ (i1.toNat * 1)))) (Zi 22 24 1 (aa_) (a_.length) (ca_) .i64 (i1) Tryz.underlying22 ((ra_.at H6.ext).cell hx2).1 hx2l hx2u) ?_
      refine Zy (.slice a2 x4.length c2) (Zl 24 (adr aa_ (i1.toNat * 1)) (.slice a2 x4.length c2) (cell_at H6.ext hc1)) ?_
      refine Zb [iV i2] 4 ?_
      refine Zy (.pointer (some (adr a2 (i2.toNat * 1)))) (Zi 24 2 1 (a2) (x4.length) (c2) .i64 (i2) Tryz.underlying24 ((r1.at H6.ext).cell hx3).1 hx3l hx3u) ?_
      refine Zy (iV x5) (Zl 2 (adr a2 (i2.toNat * 1)) (iV x5) (cd2_cell (r1.at H6.ext) hx3)) ?_
      refine Zb [.bool (x5 != (-1000000000000000))] 7 ?_
      exact Zd [0, 3, 5, 6, 7, 29]
     obtain ⟨s3, gs3, hB2⟩ := M.bind_some hB2
     refine Run_join (fun L' h' => L' = [(0, .slice aa_ a_.length ca_), (3, pV b1), (5, .slice a1 x1.length c1), (6, iV i1), (7, iV i2)] ∧ Hold h h' [box b1 44 [iV r_.Num, iV r_.Den], own cd24 a1 x1.length c1 s3]) ?_ ?_
     ·rintro _ h9 ⟨rfl, H16⟩
      refine Run_blk ?_
      refine Zg 3 [(0, .slice aa_ a_.length ca_), (3, pV b1), (5, .slice a1 x1.length c1), (6, iV i1), (7, iV (i2 + 1))] ?_ ?_
      ·refine Zb [iV i2] 0 ?_
       refine Zy (iV (i2 + 1)) (Y_eq (v := iV (w64 (i2 + 1))) (Y_pure (fun w => by kernel_rfl)) (by rw [w64_eq _ (by omega)])) ?_
       refine Zb [iV (i2 + 1)] 2 ?_
       exact Zd [0, 3, 5, 6, 7]
      have hB2 := M.ret_some hB2
      have gx3 := hgoy2 _ hB2.symm
      exact Za [0, 3, 5, 6, 7] my2 ⟨i2 + 1, s3, by omega, gx3, rfl, H16⟩
     ·refine Zc (x5 != (-1000000000000000)) (fun hb3 => ?_) (fun hb3 => ?_)
      ·have gs3 := (M.ite_some gs3).1 hb3
       obtain ⟨x6, hx4, gs3⟩ := M.bind_some gs3
       obtain ⟨hx4l, hx4u, hx4⟩ := M.idx_some hx4
       have H8 : Hold h h5 [own cd24 a1 x1.length c1 s2, box b1 44 [iV r_.Num, iV r_.Den]] := H6.pk [1, 0]
       have H9 := H8.toRows
       obtain ⟨a3, c3, H10⟩ := H9.pinRow hx4
       have H11 : Hold h h5 [box b1 44 [iV r_.Num, iV r_.Den], rowsP cd2 24 a1 x1.length c1 s2 [(i1.toNat, a3, x6.length, c3, x6)]] := H10.pk [1, 0]
       obtain ⟨x7, hx5, gs3⟩ := M.bind_some gs3
       obtain ⟨hx5l, hx5u, hx5⟩ := M.idx_some hx5
       obtain ⟨a4, c4, hc2, r2⟩ := ra_.row hx5
       obtain ⟨x8, hx6, gs3⟩ := M.bind_some gs3
       obtain ⟨hx6l, hx6u, hx6⟩ := M.idx_some hx6
       obtain ⟨x9, hx7, gs3⟩ := M.bind_some gs3
       obtain ⟨hx7l, hx7u, hx7⟩ := M.idx_some hx7
       refine Run_D (fun x => Hold h x [box b1 44 [iV r_.Num, iV r_.Den], rowsP cd2 24 a1 x1.length c1 s2 [(i1.toNat, a3, x6.length, c3, x6)]]) (fun x => Hold h x [box b1 44 [iV r_.Num, iV r_.Den], rowsP cd2 24 a1 x1.length c1 s2 [(i1.toNat, a3, x6.length, c3, x6)]]) mixed (by kernel_rfl) H11 Hold.stable (fun x Hy => (show Hold h x [box b1 44 [iV r_.Num, iV r_.Den], rowsP cd2 24 a1 x1.length c1 s2 [(i1.toNat, a3, x6.length, c3, x6)]] from Hy).pk [0, 1]) ?_
       refine ZB 18 [.slice a1 x1.length c1, iV i1] 0 ?_
       refine ZY 17 2 (.pointer (some (adr a1 (i1.toNat * 1)))) (fun hx Hx => (YE.of (Zi 22 24 1 (a1) (x1.length) (c1) .i64 (i1) Tryz.underlying22 ((H6.rd 1 rfl).cell hx4).1 hx4l (by rw [← (H6.len 1 rfl)]; exact hx4u)))) ?_
       refine ZY 16 3 (.slice a3 x6.length c3) (fun hx Hx => (YE.of (Zl 24 (adr a1 (i1.toNat * 1)) (.slice a3 x6.length c3) (Hx.cellPin 1 rfl 0 rfl)))) ?_
       refine ZB 14 [iV i2, .pointer (some ⟨b1, 1, none⟩)] 4 ?_
       refine ZY 13 6 (iV r_.Den) (fun hx Hx => (YE.of (Zl 2 (⟨b1, 1, none⟩) (iV r_.Den) (Hx.cell 0 rfl rfl)))) ?_
       refine ZB 11 [.slice aa_ a_.length ca_, iV i1] 7 ?_
       refine ZY 10 9 (.pointer (some (adr aa_ (i1.toNat * 1)))) (fun hx Hx => (YE.of (Zi 22 24 1 (aa_) (a_.length) (ca_) .i64 (i1) Tryz.underlying22 ((ra_.at H11.ext).cell hx5).1 hx5l hx5u))) ?_
       refine ZY 9 10 (.slice a4 x7.length c4) (fun hx Hx => (YE.of (Zl 24 (adr aa_ (i1.toNat * 1)) (.slice a4 x7.length c4) (cell_at Hx.ext hc2)))) ?_
       refine ZB 8 [iV i2] 11 ?_
       refine ZY 7 12 (.pointer (some (adr a4 (i2.toNat * 1)))) (fun hx Hx => (YE.of (Zi 24 2 1 (a4) (x7.length) (c4) .i64 (i2) Tryz.underlying24 ((r2.at H11.ext).cell hx6).1 hx6l hx6u))) ?_
       refine ZY 6 13 (iV x8) (fun hx Hx => (YE.of (Zl 2 (adr a4 (i2.toNat * 1)) (iV x8) (cd2_cell (r2.at Hx.ext) hx6)))) ?_
       refine ZB 4 [iV (w64 (r_.Den * x8)), pV b1] 14 ?_
       refine ZY 3 16 (iV r_.Num) (fun hx Hx => (YE.of (Zl 2 (⟨b1, 0, none⟩) (iV r_.Num) (Hx.cell 0 rfl rfl)))) ?_
       refine ZB 2 [iV (w64 ((w64 (r_.Den * x8)) - r_.Num))] 17 ?_
       refine ZY 1 18 (.pointer (some (adr a3 (i2.toNat * 1)))) (fun hx Hx => (YE.of (Zi 24 2 1 (a3) (x6.length) (c3) .i64 (i2) Tryz.underlying24 ((H11.rdPin 1 rfl 0 rfl).cell hx7).1 hx7l hx7u))) ?_
       refine ZT 19 (fun h7 H12 => ?_)
       have H13 : Hold h h7 [box b1 44 [iV r_.Num, iV r_.Den], rowsP cd2 24 a1 x1.length c1 s2 [(i1.toNat, a3, x6.length, c3, x6)]] := H12
       obtain ⟨l1, hu1, gs3⟩ := M.bind_some gs3
       have hu1 := M.upd_some hu1
       have H15 : Hold h h7 [rowsP cd2 24 a1 x1.length c1 s2 [(i1.toNat, a3, x6.length, c3, x6)], box b1 44 [iV r_.Num, iV r_.Den]] := H13.pk [1, 0]
       refine Ze ?_
       refine E_put2 (C := cd2) (t := 2) (sz := 1) (j := i2) (x := (w64 ((w64 (r_.Den * x8)) - r_.Num))) (v := iV (w64 ((w64 (r_.Den * x8)) - r_.Num))) (m2 := s2.set i1.toNat l1) H15 cd2_flat 0 rfl (by kernel_rfl) rfl (cd2_own _) (by kernel_rfl) hu1 rfl (fun h8 H14 => ?_)
       refine Zx ?_
       refine Zk [0, 3, 5, 6, 7] [(0, .slice aa_ a_.length ca_), (3, pV b1), (5, .slice a1 x1.length c1), (6, iV i1), (7, iV i2)] ?_
       have H17 := H14.ofRows
       have H18 : Hold h h8 [box b1 44 [iV r_.Num, iV r_.Den], own cd24 a1 x1.length c1 (s2.set i1.toNat l1)] := H17.pk [1, 0]
       have gs3 := M.ret_some gs3
       subst gs3
       exact Zf [0, 3, 5, 6, 7] ⟨rfl, H18⟩
      ·have gs3 := (M.ite_some gs3).2 hb3
       refine Run_skip ?_
       have gs3 := M.ret_some gs3
       subst gs3
       exact Zf [0, 3, 5, 6, 7] ⟨rfl, H6⟩
    ·have gx3 := M.for_end gx3 hb2
     subst gx3
     refine Run_exit (k' := _) rfl ?_
     exact Zf [0, 3, 5, 6] ⟨rfl, H6⟩
  ·have gx2 := M.for_end gx2 hb1
   subst gx2
   refine Run_exit (k' := _) rfl ?_
   have H19 : Hold h h3 [own cd24 a1 x1.length c1 s1] := H4.pk [1]
   exact Zf [5] ⟨rfl, H19⟩

theorem w_spec_l04Best (h : Heap) (a_ : List (List Int)) (aa_ : Option Addr) (ca_ : Nat) (ra_ : Rd cd24 h (Lt h) aa_ ca_ a_) (n : Nat) (r : (List Int) × Bool) (hF : spec_l04Best a_ n = some r) :
  Fn Tryz.prog 54 #[.slice aa_ a_.length ca_] h fun v h' => ∃ (a0 : Option Addr) (c0 : Nat), v = .tuple #[.slice a0 r.1.length c0, .bool r.2] ∧ Hold h h' [own cd2 a0 r.1.length c0 r.1] := by
 unfold spec_l04Best at hF
 refine Zo [.slice aa_ a_.length ca_] Tryz.func54 rfl (fun w0 _ => ?_)
 have H0 := Hold.init h
 refine Zs ?_
 refine Zq [.slice none 0 0, .bool false] [0] [(0, .slice aa_ a_.length ca_)] ?_
 refine Zs ?_
 refine Run_ops ?_
 refine Zr [.slice aa_ a_.length ca_] 0 ?_
 obtain ⟨x1, hx1, hF⟩ := M.bind_some hF
 refine Ze ?_
 refine ZC 82 #[.slice aa_ a_.length ca_, iV (-1000000000000000)] (w_spec_l03Over h a_ aa_ ca_ ra_ (-1000000000000000) _ _ hx1) (fun v1 h1 hp1 => ?_)
 obtain ⟨a1, c1, rfl, H1⟩ := hp1
 have H2 : Hold h h1 [own cd2 a1 x1.length c1 x1] := H0.call H1 rfl
 refine Zr [.slice a1 x1.length c1] 2 ?_
 refine Zx ?_
 refine Zk [0, 4] [(0, .slice aa_ a_.length ca_), (4, .slice a1 x1.length c1)] ?_
 refine Zs ?_
 obtain ⟨x2, gx2, hF⟩ := M.bind_some hF
 refine Run_join (fun L' h' => ∃ (s2 : (List Int)), x2 = .inl s2 ∧ L' = [] ∧ Hold h h' []) ?_ ?_
 ·rintro _ h3 ⟨s2, es2, rfl, H4⟩
  have hF := M.cont_inl' hF es2
  refine Zs ?_
  refine Zq [.slice none 0 0, .bool false] [2, 3] [(2, .slice none 0 0), (3, .bool false)] ?_
  have hF := M.ret_some hF
  subst hF
  have H20 := H4.empty cd2
  exact Run_ret2 rfl (Zt (.slice none 0 0)) (Zt (.bool false)) ⟨none, 0, rfl, H20⟩
 ·refine Run_block ?_
  refine Zk [0, 4] [(0, .slice aa_ a_.length ca_), (4, .slice a1 x1.length c1)] ?_
  refine Run_loop (fun m L' h' => ∃ (s1 : (List Int)) (a2 : Option Addr) (c2 : Nat), M.loopN _ n m s1 = some x2 ∧ L' = [(0, .slice aa_ a_.length ca_), (4, .slice a2 s1.length c2)] ∧ Hold h h' [own cd2 a2 s1.length c2 s1]) n ⟨x1, a1, c1, gx2, rfl, H2⟩ ?_
  rintro my1 _ h2 ⟨s1, a2, c2, gx2, rfl, H3⟩
  obtain ⟨my1, y1, rfl, hB1, hgoy1, houty1⟩ := M.loop_some gx2
  refine Zs ?_
  refine Zs ?_
  refine Zq [.slice a2 s1.length c2, iV (s1.length : Int), .bool (decide (0 < (s1.length : Int)))] [0, 4, 12] [(0, .slice aa_ a_.length ca_), (4, .slice a2 s1.length c2), (12, .bool (decide (0 < (s1.length : Int))))] ?_
  refine Zc (decide (0 < (s1.length : Int))) (fun hb1 => ?_) (fun hb1 => ?_)
  ·have hB1 := (M.ite_some hB1).1 hb1
   refine Run_skip ?_
   refine Run_block ?_
   refine Zs ?_
   refine Run_ops ?_
   refine Zr [.slice aa_ a_.length ca_, .slice a2 s1.length c2] 0 ?_
   obtain ⟨x3, hx2, hB1⟩ := M.bind_some hB1
   refine Ze ?_
   refine ZC 55 #[.slice aa_ a_.length ca_, .slice a2 s1.length c2] (w_spec_l04Mean h2 a_ aa_ ca_ (ra_.at H3.ext) s1 a2 c2 (H3.rd 0 rfl) _ _ hx2) (fun v2 h4 hp2 => ?_)
   obtain ⟨rfl, H5⟩ := hp2
   have H6 : Hold h h4 [own cd2 a2 s1.length c2 s1] := H3.call H5 rfl
   refine Zr [.tuple #[.agg #[iV x3.1.Num, iV x3.1.Den], .bool x3.2], .agg #[iV x3.1.Num, iV x3.1.Den], .bool x3.2] 3 ?_
   refine Ze ?_
   refine E_box (ty := 44) (cs := [iV 0, iV 0]) H6 (fun w => by kernel_rfl) (fun b1 h5 H7 => ?_)
   refine Ze ?_
   refine ZP 44 0 [iV x3.1.Num, iV x3.1.Den] (.agg #[iV x3.1.Num, iV x3.1.Den]) H7 (fun h6 H8 => ?_)
   refine Zr [.bool x3.2] 8 ?_
   refine Zx ?_
   refine Zk [0, 5] [(0, .slice aa_ a_.length ca_), (5, pV b1)] ?_
   refine Zs ?_
   refine Run_ops ?_
   refine Zr [.slice aa_ a_.length ca_] 0 ?_
   refine Zz (.agg #[iV x3.1.Num, iV x3.1.Den]) (Y_loadA (t := 44) (n := 2) (p := ⟨b1, 0, none⟩) (cs := [iV x3.1.Num, iV x3.1.Den]) (by kernel_rfl) (fun w => by kernel_rfl) (by kernel_rfl) rfl (H8.cells (n := 2) (off := 0) 0 rfl rfl)) ?_
   obtain ⟨x4, hx3, hB1⟩ := M.bind_some hB1
   refine Ze ?_
   refine ZC 59 #[.slice aa_ a_.length ca_, .agg #[iV x3.1.Num, iV x3.1.Den]] (w_spec_l04Shift h6 a_ aa_ ca_ (ra_.at H8.ext) x3.1 _ _ hx3) (fun v3 h7 hp3 => ?_)
   obtain ⟨a4, c4, rfl, H9⟩ := hp3
   have H10 : Hold h h7 [own cd24 a4 x4.length c4 x4, box b1 44 [iV x3.1.Num, iV x3.1.Den], own cd2 a2 s1.length c2 s1] := H8.call H9 rfl
   obtain ⟨x5, hx4, hB1⟩ := M.bind_some hB1
   refine Ze ?_
   refine ZC 82 #[.slice a4 x4.length c4, iV 0] (w_spec_l03Over h7 x4 a4 c4 (H10.rd 0 rfl) 0 _ _ hx4) (fun v4 h8 hp4 => ?_)
   obtain ⟨a5, c5, rfl, H11⟩ := hp4
   have H12 : Hold h h8 [own cd2 a5 x5.length c5 x5, own cd24 a4 x4.length c4 x4, box b1 44 [iV x3.1.Num, iV x3.1.Den], own cd2 a2 s1.length c2 s1] := H10.call H11 rfl
   refine Zr [.slice a5 x5.length c5] 4 ?_
   refine Zx ?_
   refine Zk [0, 5, 7] [(0, .slice aa_ a_.length ca_), (5, pV b1), (7, .slice a5 x5.length c5)] ?_
   refine Zs ?_
   refine Zs ?_
   refine Zq [.slice a5 x5.length c5, iV (x5.length : Int), .bool ((x5.length : Int) == 0)] [0, 5, 7, 25] [(0, .slice aa_ a_.length ca_), (5, pV b1), (7, .slice a5 x5.length c5), (25, .bool ((x5.length : Int) == 0))] ?_
   refine Zc ((x5.length : Int) == 0) (fun hb2 => ?_) (fun hb2 => ?_)
   ·have hB1 := (M.ite_some hB1).1 hb2
    refine Zs ?_
    refine Run_ops ?_
    refine Zr [.slice aa_ a_.length ca_] 0 ?_
    refine Zz (.agg #[iV x3.1.Num, iV x3.1.Den]) (Y_loadA (t := 44) (n := 2) (p := ⟨b1, 0, none⟩) (cs := [iV x3.1.Num, iV x3.1.Den]) (by kernel_rfl) (fun w => by kernel_rfl) (by kernel_rfl) rfl (H12.cells (n := 2) (off := 0) 2 rfl rfl)) ?_
    obtain ⟨x6, hx5, hB1⟩ := M.bind_some hB1
    refine Ze ?_
    refine ZC 59 #[.slice aa_ a_.length ca_, .agg #[iV x3.1.Num, iV x3.1.Den]] (w_spec_l04Shift h8 a_ aa_ ca_ (ra_.at H12.ext) x3.1 _ _ hx5) (fun v5 h9 hp5 => ?_)
    obtain ⟨a6, c6, rfl, H13⟩ := hp5
    have H14 : Hold h h9 [own cd24 a6 x6.length c6 x6, own cd2 a5 x5.length c5 x5, own cd24 a4 x4.length c4 x4, box b1 44 [iV x3.1.Num, iV x3.1.Den], own cd2 a2 s1.length c2 s1] := H12.call H13 rfl
    obtain ⟨x7, hx6, hB1⟩ := M.bind_some hB1
    refine Ze ?_
    refine ZC 82 #[.slice a6 x6.length c6, iV (-1)] (w_spec_l03Over h9 x6 a6 c6 (H14.rd 0 rfl) (-1) _ _ hx6) (fun v6 h10 hp6 => ?_)
    obtain ⟨a7, c7, rfl, H15⟩ := hp6
    have H16 : Hold h h10 [own cd2 a7 x7.length c7 x7, own cd24 a6 x6.length c6 x6, own cd2 a5 x5.length c5 x5, own cd24 a4 x4.length c4 x4, box b1 44 [iV x3.1.Num, iV x3.1.Den], own cd2 a2 s1.length c2 s1] := H14.call H15 rfl
    refine Zr [.slice a7 x7.length c7, .bool true] 4 ?_
    refine Zx ?_
    refine Zk [2, 3] [(2, .slice a7 x7.length c7), (3, .bool true)] ?_
    have hB1 := M.ret_some hB1
    have gx2 := houty1 _ hB1.symm
    have hF := M.cont_inr' hF gx2
    have hF := M.ret_some hF
    subst hF
    have H17 : Hold h h10 [own cd2 a7 x7.length c7 x7] := H16.pk [0]
    exact Run_ret2 rfl (Zt (.slice a7 x7.length c7)) (Zt (.bool true)) ⟨a7, c7, rfl, H17⟩
   ·have hB1 := (M.ite_some hB1).2 hb2
    refine Run_skip ?_
    refine Zq [.slice a5 x5.length c5, .slice a5 x5.length c5] [0, 4] [(0, .slice aa_ a_.length ca_), (4, .slice a5 x5.length c5)] ?_
    refine Run_blk ?_
    have H18 : Hold h h8 [own cd2 a5 x5.length c5 x5] := H12.pk [0]
    have hB1 := M.ret_some hB1
    have gx2 := hgoy1 _ hB1.symm
    exact Za [0, 4] my1 ⟨x5, a5, c5, gx2, rfl, H18⟩
  ·have hB1 := (M.ite_some hB1).2 hb1
   refine Run_exit (k' := _) rfl ?_
   have H19 : Hold h h2 [] := H3.pk []
   have hB1 := M.ret_some hB1
   have gx2 := houty1 _ hB1.symm
   subst gx2
   exact Zf [] ⟨s1, rfl, rfl, H19⟩

theorem w_spec_l06Code (h : Heap) (a_ : List (List Int)) (aa_ : Option Addr) (ca_ : Nat) (ra_ : Rd cd24 h (Lt h) aa_ ca_ a_) (n : Nat) (r : Int) (hF : spec_l06Code a_ n = some r) :
  Fn Tryz.prog 35 #[.slice aa_ a_.length ca_] h fun v h' => v = iV r ∧ Hold h h' [] := by
 unfold spec_l06Code at hF
 refine Zo [.slice aa_ a_.length ca_] Tryz.func35 rfl (fun w0 _ => ?_)
 have H0 := Hold.init h
 refine Zs ?_
 refine Zq [iV 0] [0] [(0, .slice aa_ a_.length ca_)] ?_
 refine Zs ?_
 refine Zs ?_
 obtain ⟨x1, hx1, hF⟩ := M.bind_some hF
 refine Zg 3 [(0, .slice aa_ a_.length ca_), (7, .bool (!x1))] ?_ ?_
 ·refine Zb [.slice aa_ a_.length ca_] 0 ?_
  refine Zy (.bool x1) (ZQ 68 #[.slice aa_ a_.length ca_] (w_spec_l02Square h a_ aa_ ca_ ra_ _ _ hx1)) ?_
  refine Zb [.bool (!x1)] 2 ?_
  exact Zd [0, 7]
 refine Zc (!x1) (fun hb1 => ?_) (fun hb1 => ?_)
 ·have hF := (M.ite_some hF).1 hb1
  refine Zs ?_
  refine Zq [iV 1] [2] [(2, iV 1)] ?_
  have hF := M.ret_some hF
  subst hF
  exact Run_ret1 rfl (Zt (iV 1)) ⟨rfl, H0⟩
 ·have hF := (M.ite_some hF).2 hb1
  refine Run_skip ?_
  refine Zs ?_
  refine Run_ops ?_
  refine Zr [.slice aa_ a_.length ca_] 0 ?_
  obtain ⟨x2, hx2, hF⟩ := M.bind_some hF
  refine Ze ?_
  refine ZC 54 #[.slice aa_ a_.length ca_] (w_spec_l04Best h a_ aa_ ca_ ra_ _ _ hx2) (fun v1 h1 hp1 => ?_)
  obtain ⟨a1, c1, rfl, H1⟩ := hp1
  have H2 : Hold h h1 [own cd2 a1 x2.1.length c1 x2.1] := H0.call H1 rfl
  refine Zr [.tuple #[.slice a1 x2.1.length c1, .bool x2.2], .slice a1 x2.1.length c1, .bool x2.2, .slice a1 x2.1.length c1, .bool x2.2] 2 ?_
  refine Zx ?_
  refine Zk [4] [(4, .bool x2.2)] ?_
  refine Zs ?_
  refine Zs ?_
  refine Zq [.bool x2.2, .bool (!x2.2)] [14] [(14, .bool (!x2.2))] ?_
  refine Zc (!x2.2) (fun hb2 => ?_) (fun hb2 => ?_)
  ·have hF := (M.ite_some hF).1 hb2
   refine Zs ?_
   refine Zq [iV 4] [2] [(2, iV 4)] ?_
   have hF := M.ret_some hF
   subst hF
   have H3 : Hold h h1 [] := H2.pk []
   exact Run_ret1 rfl (Zt (iV 4)) ⟨rfl, H3⟩
  ·have hF := (M.ite_some hF).2 hb2
   refine Run_skip ?_
   refine Zs ?_
   refine Zq [iV 0] [2] [(2, iV 0)] ?_
   have hF := M.ret_some hF
   subst hF
   have H4 : Hold h h1 [] := H2.pk []
   exact Run_ret1 rfl (Zt (iV 0)) ⟨rfl, H4⟩

theorem w_spec_l02Unit (h : Heap) (n_ : Int) (n : Nat) (r : (List (List Int))) (hF : spec_l02Unit n_ n = some r) :
  Fn Tryz.prog 99 #[iV n_] h fun v h' => ∃ (a0 : Option Addr) (c0 : Nat), v = .slice a0 r.length c0 ∧ Hold h h' [own cd24 a0 r.length c0 r] := by
 unfold spec_l02Unit at hF
 refine Zo [iV n_] Tryz.func99 rfl (fun w0 _ => ?_)
 have H0 := Hold.init h
 refine Zs ?_
 refine Zq [.slice none 0 0] [0] [(0, iV n_)] ?_
 refine Zs ?_
 refine Run_ops ?_
 refine Zr [iV n_, iV n_] 0 ?_
 obtain ⟨x1, hx1, hF⟩ := M.bind_some hF
 refine Ze ?_
 refine ZC 81 #[iV n_, iV n_] (w_spec_l02Bottom h n_ n_ _ _ hx1) (fun v1 h1 hp1 => ?_)
 obtain ⟨a1, c1, rfl, H1⟩ := hp1
 have H2 : Hold h h1 [own cd24 a1 x1.length c1 x1] := H0.call H1 rfl
 refine Zr [.slice a1 x1.length c1] 3 ?_
 refine Zx ?_
 refine Zk [0, 3] [(0, iV n_), (3, .slice a1 x1.length c1)] ?_
 refine Zs ?_
 refine Zs ?_
 refine Zq [iV 0] [0, 3, 4] [(0, iV n_), (3, .slice a1 x1.length c1), (4, iV 0)] ?_
 obtain ⟨x2, gx2, hF⟩ := M.bind_some hF
 obtain ⟨hloy1, hhiy1, gx2⟩ := M.for_start gx2
 refine Run_join (fun L' h' => L' = [(3, .slice a1 x1.length c1)] ∧ Hold h h' [own cd24 a1 x1.length c1 x2]) ?_ ?_
 ·rintro _ h3 ⟨rfl, H4⟩
  refine Zs ?_
  refine Zq [.slice a1 x1.length c1, .slice a1 x1.length c1] [2] [(2, .slice a1 x1.length c1)] ?_
  have hF := M.ret_some hF
  subst hF
  have H9 := H4.norm
  exact Run_ret1 rfl (Zt (.slice a1 x1.length c1)) ⟨a1, c1, (by simp only [(H4.len 0 rfl)]), H9⟩
 ·refine Run_block ?_
  refine Zk [0, 3, 4] [(0, iV n_), (3, .slice a1 x1.length c1), (4, iV 0)] ?_
  refine Run_loop (fun m L' h' => ∃ (i1 : Int) (s1 : (List (List Int))), 0 ≤ i1 ∧ M.forN n_ _ _ n m i1 s1 = some x2 ∧ L' = [(0, iV n_), (3, .slice a1 x1.length c1), (4, iV i1)] ∧ Hold h h' [own cd24 a1 x1.length c1 s1]) (n_ - 0 : Int).toNat ⟨0, x1, Int.le_refl _, gx2, rfl, H2⟩ ?_
  rintro my1 _ h2 ⟨i1, s1, hloy1', gx2, rfl, H3⟩
  refine Zs ?_
  refine Zs ?_
  refine Zq [iV i1, iV n_, .bool (decide (i1 < n_))] [0, 3, 4, 10] [(0, iV n_), (3, .slice a1 x1.length c1), (4, iV i1), (10, .bool (decide (i1 < n_)))] ?_
  refine Zc (decide (i1 < n_)) (fun hb1 => ?_) (fun hb1 => ?_)
  ·obtain ⟨my1, y1, rfl, hB1, hgoy1, houty1⟩ := M.for_go gx2 hb1
   have hlty1 := of_decide_eq_true hb1
   refine Run_skip ?_
   refine Zs ?_
   refine Run_block ?_
   refine Run_ops ?_
   obtain ⟨x3, hx2, hB1⟩ := M.bind_some hB1
   obtain ⟨hx2l, hx2u, hx2⟩ := M.idx_some hx2
   have H5 := H3.toRows
   obtain ⟨a2, c2, H6⟩ := H5.pinRow hx2
   obtain ⟨x4, hx3, hB1⟩ := M.bind_some hB1
   obtain ⟨hx3l, hx3u, hx3⟩ := M.idx_some hx3
   refine Zr [.slice a1 x1.length c1, iV i1] 0 ?_
   refine Zz (.pointer (some (adr a1 (i1.toNat * 1)))) (Zi 22 24 1 (a1) (x1.length) (c1) .i64 (i1) Tryz.underlying22 ((H3.rd 0 rfl).cell hx2).1 hx2l (by rw [← (H3.len 0 rfl)]; exact hx2u)) ?_
   refine Zz (.slice a2 x3.length c2) (Zl 24 (adr a1 (i1.toNat * 1)) (.slice a2 x3.length c2) (H6.cellPin 0 rfl 0 rfl)) ?_
   refine Zr [iV i1] 4 ?_
   refine Zz (.pointer (some (adr a2 (i1.toNat * 1)))) (Zi 24 2 1 (a2) (x3.length) (c2) .i64 (i1) Tryz.underlying24 ((H6.rdPin 0 rfl 0 rfl).cell hx3).1 hx3l hx3u) ?_
   obtain ⟨l1, hu1, hB1⟩ := M.bind_some hB1
   have hu1 := M.upd_some hu1
   refine Ze ?_
   refine E_put2 (C := cd2) (t := 2) (sz := 1) (j := i1) (x := 0) (v := iV 0) (m2 := s1.set i1.toNat l1) H6 cd2_flat 0 rfl (by kernel_rfl) rfl (cd2_own _) (by kernel_rfl) hu1 rfl (fun h4 H7 => ?_)
   refine Zx ?_
   refine Zk [0, 3, 4] [(0, iV n_), (3, .slice a1 x1.length c1), (4, iV i1)] ?_
   refine Run_blk ?_
   refine Zg 3 [(0, iV n_), (3, .slice a1 x1.length c1), (4, iV (i1 + 1))] ?_ ?_
   ·refine Zb [iV i1] 0 ?_
    refine Zy (iV (i1 + 1)) (Y_eq (v := iV (w64 (i1 + 1))) (Y_pure (fun w => by kernel_rfl)) (by rw [w64_eq _ (by omega)])) ?_
    refine Zb [iV (i1 + 1)] 2 ?_
    exact Zd [0, 3, 4]
   have H8 := H7.ofRows
   have hB1 := M.ret_some hB1
   have gx2 := hgoy1 _ hB1.symm
   exact Za [0, 3, 4] my1 ⟨i1 + 1, (s1.set i1.toNat l1), by omega, gx2, rfl, H8⟩
  ·have gx2 := M.for_end gx2 hb1
   subst gx2
   refine Run_exit (k' := _) rfl ?_
   exact Zf [3] ⟨rfl, H3⟩

theorem w_spec_l01Times (h : Heap) (a_ : Int) (b : Int) (n : Nat) (r : Int) (hF : spec_l01Times a_ b n = some r) :
  Fn Tryz.prog 80 #[iV a_, iV b] h fun v h' => v = iV r ∧ h' = h := by
 unfold spec_l01Times at hF
 refine Zo [iV a_, iV b] Tryz.func80 rfl (fun w0 _ => ?_)
 refine Zs ?_
 refine Zq [iV 0] [0, 1] [(0, iV a_), (1, iV b)] ?_
 refine Zs ?_
 refine Zs ?_
 refine Zg 6 [(0, iV a_), (1, iV b), (10, .bool ((a_ == (-1000000000000000)) || (b == (-1000000000000000))))] ?_ ?_
 ·refine Zb [iV a_, .bool (a_ == (-1000000000000000))] 0 ?_
  refine QRun_seq 6 [(0, iV a_), (1, iV b), (10, .bool ((a_ == (-1000000000000000)) || (b == (-1000000000000000))))] ?_ ?_
  ·rcases Bool.eq_false_or_eq_true (a_ == (-1000000000000000)) with hb1 | hb1
   ·refine Zv (a_ == (-1000000000000000)) true hb1 ?_
    refine Zn ?_
    refine Zn ?_
    refine QRun_bool true ((a_ == (-1000000000000000)) || (b == (-1000000000000000))) (by kernel_rfl) (fun w => by kernel_rfl) (by rw [hb1]; rfl) ?_
    exact Zd [0, 1, 10]
   ·refine Zv (a_ == (-1000000000000000)) false hb1 ?_
    refine Zb [iV b, .bool (b == (-1000000000000000))] 3 ?_
    refine QRun_bool (b == (-1000000000000000)) ((a_ == (-1000000000000000)) || (b == (-1000000000000000))) (by kernel_rfl) (fun w => by kernel_rfl) (by rw [hb1]; rfl) ?_
    exact Zd [0, 1, 10]
  exact Zd [0, 1, 10]
 refine Zc ((a_ == (-1000000000000000)) || (b == (-1000000000000000))) (fun hb2 => ?_) (fun hb2 => ?_)
 ·have hF := (M.ite_some hF).1 hb2
  refine Zs ?_
  refine Zq [iV (-1000000000000000)] [4] [(4, iV (-1000000000000000))] ?_
  have hF := M.ret_some hF
  subst hF
  exact Run_ret1 rfl (Zt (iV (-1000000000000000))) ⟨rfl, rfl⟩
 ·have hF := (M.ite_some hF).2 hb2
  refine Run_skip ?_
  refine Zs ?_
  refine Zq [iV a_, iV b, iV (w64 (a_ + b)), iV (w64 (a_ + b))] [4] [(4, iV (w64 (a_ + b)))] ?_
  have hF := M.ret_some hF
  subst hF
  exact Run_ret1 rfl (Zt (iV (w64 (a_ + b)))) ⟨rfl, rfl⟩

theorem w_spec_l02Multiply (h : Heap) (a_ : List (List Int)) (aa_ : Option Addr) (ca_ : Nat) (ra_ : Rd cd24 h (Lt h) aa_ ca_ a_) (b : List (List Int)) (ab : Option Addr) (cb : Nat) (rb : Rd cd24 h (Lt h) ab cb b) (n : Nat) (r : (List (List Int))) (hF : spec_l02Multiply a_ b n = some r) :
  Fn Tryz.prog 101 #[.slice aa_ a_.length ca_, .slice ab b.length cb] h fun v h' => ∃ (a0 : Option Addr) (c0 : Nat), v = .slice a0 r.length c0 ∧ Hold h h' [own cd24 a0 r.length c0 r] := by
 unfold spec_l02Multiply at hF
 refine Zo [.slice aa_ a_.length ca_, .slice ab b.length cb] Tryz.func101 rfl (fun w0 _ => ?_)
 have H0 := Hold.init h
 refine Zs ?_
 refine Zq [.slice none 0 0] [0, 1] [(0, .slice aa_ a_.length ca_), (1, .slice ab b.length cb)] ?_
 refine Zs ?_
 refine Run_ops ?_
 obtain ⟨x1, hx1, hF⟩ := M.bind_some hF
 obtain ⟨hx1l, hx1u, hx1⟩ := M.idx_some hx1
 obtain ⟨a1, c1, hc1, r1⟩ := rb.row hx1
 refine Zr [.slice aa_ a_.length ca_, iV (a_.length : Int), .slice ab b.length cb] 0 ?_
 refine Zz (.pointer (some (adr ab (0 * 1)))) (Zi 22 24 1 (ab) (b.length) (cb) .i64 (0) Tryz.underlying22 (rb.cell hx1).1 hx1l hx1u) ?_
 refine Zz (.slice a1 x1.length c1) (Zl 24 (adr ab (0 * 1)) (.slice a1 x1.length c1) hc1) ?_
 refine Zr [iV (x1.length : Int)] 5 ?_
 obtain ⟨x2, hx2, hF⟩ := M.bind_some hF
 refine Ze ?_
 refine ZC 81 #[iV (a_.length : Int), iV (x1.length : Int)] (w_spec_l02Bottom h (a_.length : Int) (x1.length : Int) _ _ hx2) (fun v1 h1 hp1 => ?_)
 obtain ⟨a2, c2, rfl, H1⟩ := hp1
 have H2 : Hold h h1 [own cd24 a2 x2.length c2 x2] := H0.call H1 rfl
 refine Zr [.slice a2 x2.length c2] 7 ?_
 refine Zx ?_
 refine Zk [0, 1, 5] [(0, .slice aa_ a_.length ca_), (1, .slice ab b.length cb), (5, .slice a2 x2.length c2)] ?_
 refine Zs ?_
 refine Zs ?_
 refine Zq [iV 0] [0, 1, 5, 6] [(0, .slice aa_ a_.length ca_), (1, .slice ab b.length cb), (5, .slice a2 x2.length c2), (6, iV 0)] ?_
 obtain ⟨x3, gx3, hF⟩ := M.bind_some hF
 obtain ⟨hloy1, hhiy1, gx3⟩ := M.for_start gx3
 refine Run_join (fun L' h' => L' = [(5, .slice a2 x2.length c2)] ∧ Hold h h' [own cd24 a2 x2.length c2 x3]) ?_ ?_
 ·rintro _ h3 ⟨rfl, H4⟩
  refine Zs ?_
  refine Zq [.slice a2 x2.length c2, .slice a2 x2.length c2] [4] [(4, .slice a2 x2.length c2)] ?_
  have hF := M.ret_some hF
  subst hF
  have H16 := H4.norm
  exact Run_ret1 rfl (Zt (.slice a2 x2.length c2)) ⟨a2, c2, (by simp only [(H4.len 0 rfl)]), H16⟩
 ·refine Run_block ?_
  refine Zk [0, 1, 5, 6] [(0, .slice aa_ a_.length ca_), (1, .slice ab b.length cb), (5, .slice a2 x2.length c2), (6, iV 0)] ?_
  refine Run_loop (fun m L' h' => ∃ (i1 : Int) (s1 : (List (List Int))), 0 ≤ i1 ∧ M.forN (a_.length : Int) _ _ n m i1 s1 = some x3 ∧ L' = [(0, .slice aa_ a_.length ca_), (1, .slice ab b.length cb), (5, .slice a2 x2.length c2), (6, iV i1)] ∧ Hold h h' [own cd24 a2 x2.length c2 s1]) ((a_.length : Int) - 0 : Int).toNat ⟨0, x2, Int.le_refl _, gx3, rfl, H2⟩ ?_
  rintro my1 _ h2 ⟨i1, s1, hloy1', gx3, rfl, H3⟩
  refine Zs ?_
  refine Zs ?_
  refine Zq [iV i1, .slice aa_ a_.length ca_, iV (a_.length : Int), .bool (decide (i1 < (a_.length : Int)))] [0, 1, 5, 6, 19] [(0, .slice aa_ a_.length ca_), (1, .slice ab b.length cb), (5, .slice a2 x2.length c2), (6, iV i1), (19, .bool (decide (i1 < (a_.length : Int))))] ?_
  refine Zc (decide (i1 < (a_.length : Int))) (fun hb1 => ?_) (fun hb1 => ?_)
  ·obtain ⟨my1, y1, rfl, hB1, hgoy1, houty1⟩ := M.for_go gx3 hb1
   have hlty1 := of_decide_eq_true hb1
   refine Run_skip ?_
   refine Zs ?_
   refine Run_block ?_
   refine Zs ?_
   refine Zq [iV 0] [0, 1, 5, 6, 7] [(0, .slice aa_ a_.length ca_), (1, .slice ab b.length cb), (5, .slice a2 x2.length c2), (6, iV i1), (7, iV 0)] ?_
   obtain ⟨x4, gx4, hB1⟩ := M.bind_some hB1
   refine Run_join (fun L' h' => L' = [(0, .slice aa_ a_.length ca_), (1, .slice ab b.length cb), (5, .slice a2 x2.length c2), (6, iV i1)] ∧ Hold h h' [own cd24 a2 x2.length c2 x4.1]) ?_ ?_
   ·rintro _ h5 ⟨rfl, H6⟩
    refine Run_blk ?_
    refine Zg 3 [(0, .slice aa_ a_.length ca_), (1, .slice ab b.length cb), (5, .slice a2 x2.length c2), (6, iV (i1 + 1))] ?_ ?_
    ·refine Zb [iV i1] 0 ?_
     refine Zy (iV (i1 + 1)) (Y_eq (v := iV (w64 (i1 + 1))) (Y_pure (fun w => by kernel_rfl)) (by rw [w64_eq _ (by omega)])) ?_
     refine Zb [iV (i1 + 1)] 2 ?_
     exact Zd [0, 1, 5, 6]
    have hB1 := M.ret_some hB1
    have gx3 := hgoy1 _ hB1.symm
    exact Za [0, 1, 5, 6] my1 ⟨i1 + 1, x4.1, by omega, gx3, rfl, H6⟩
   ·refine Run_block ?_
    refine Zk [0, 1, 5, 6, 7] [(0, .slice aa_ a_.length ca_), (1, .slice ab b.length cb), (5, .slice a2 x2.length c2), (6, iV i1), (7, iV 0)] ?_
    refine Run_loop (fun m L' h' => ∃ (s2 : (List (List Int)) × Int), M.loopN _ n m s2 = some x4 ∧ L' = [(0, .slice aa_ a_.length ca_), (1, .slice ab b.length cb), (5, .slice a2 x2.length c2), (6, iV i1), (7, iV s2.2)] ∧ Hold h h' [own cd24 a2 x2.length c2 s2.1]) n ⟨(s1, 0), gx4, rfl, H3⟩ ?_
    rintro my2 _ h4 ⟨s2, gx4, rfl, H5⟩
    obtain ⟨my2, y2, rfl, hB2, hgoy2, houty2⟩ := M.loop_some gx4
    refine Zs ?_
    refine Zs ?_
    obtain ⟨x5, hx3, hB2⟩ := M.bind_some hB2
    obtain ⟨hx3l, hx3u, hx3⟩ := M.idx_some hx3
    obtain ⟨a3, c3, hc2, r2⟩ := rb.row hx3
    refine Zg 6 [(0, .slice aa_ a_.length ca_), (1, .slice ab b.length cb), (5, .slice a2 x2.length c2), (6, iV i1), (7, iV s2.2), (27, .bool (decide (s2.2 < (x5.length : Int))))] ?_ ?_
    ·refine Zb [iV s2.2, .slice ab b.length cb] 0 ?_
     refine Zy (.pointer (some (adr ab (0 * 1)))) (Zi 22 24 1 (ab) (b.length) (cb) .i64 (0) Tryz.underlying22 ((rb.at H5.ext).cell hx3).1 hx3l hx3u) ?_
     refine Zy (.slice a3 x5.length c3) (Zl 24 (adr ab (0 * 1)) (.slice a3 x5.length c3) (cell_at H5.ext hc2)) ?_
     refine Zb [iV (x5.length : Int), .bool (decide (s2.2 < (x5.length : Int)))] 4 ?_
     exact Zd [0, 1, 5, 6, 7, 27]
    refine Zc (decide (s2.2 < (x5.length : Int))) (fun hb2 => ?_) (fun hb2 => ?_)
    ·have hB2 := (M.ite_some hB2).1 hb2
     refine Run_skip ?_
     refine Zs ?_
     refine Run_block ?_
     refine Zs ?_
     refine Zq [iV 0] [0, 1, 5, 6, 7, 8] [(0, .slice aa_ a_.length ca_), (1, .slice ab b.length cb), (5, .slice a2 x2.length c2), (6, iV i1), (7, iV s2.2), (8, iV 0)] ?_
     obtain ⟨x6, gx6, hB2⟩ := M.bind_some hB2
     obtain ⟨hloy3, hhiy3, gx6⟩ := M.for_start gx6
     refine Run_join (fun L' h' => L' = [(0, .slice aa_ a_.length ca_), (1, .slice ab b.length cb), (5, .slice a2 x2.length c2), (6, iV i1), (7, iV s2.2)] ∧ Hold h h' [own cd24 a2 x2.length c2 x6]) ?_ ?_
     ·rintro _ h7 ⟨rfl, H8⟩
      refine Run_blk ?_
      refine Zq [iV s2.2, iV (w64 (s2.2 + 1)), iV (w64 (s2.2 + 1))] [0, 1, 5, 6, 7] [(0, .slice aa_ a_.length ca_), (1, .slice ab b.length cb), (5, .slice a2 x2.length c2), (6, iV i1), (7, iV (w64 (s2.2 + 1)))] ?_
      have hB2 := M.ret_some hB2
      have gx4 := hgoy2 _ hB2.symm
      exact Za [0, 1, 5, 6, 7] my2 ⟨(x6, (w64 (s2.2 + 1))), gx4, rfl, H8⟩
     ·refine Run_block ?_
      refine Zk [0, 1, 5, 6, 7, 8] [(0, .slice aa_ a_.length ca_), (1, .slice ab b.length cb), (5, .slice a2 x2.length c2), (6, iV i1), (7, iV s2.2), (8, iV 0)] ?_
      refine Run_loop (fun m L' h' => ∃ (i2 : Int) (s3 : (List (List Int))), 0 ≤ i2 ∧ M.forN (b.length : Int) _ _ n m i2 s3 = some x6 ∧ L' = [(0, .slice aa_ a_.length ca_), (1, .slice ab b.length cb), (5, .slice a2 x2.length c2), (6, iV i1), (7, iV s2.2), (8, iV i2)] ∧ Hold h h' [own cd24 a2 x2.length c2 s3]) ((b.length : Int) - 0 : Int).toNat ⟨0, s2.1, Int.le_refl _, gx6, rfl, H5⟩ ?_
      rintro my3 _ h6 ⟨i2, s3, hloy3', gx6, rfl, H7⟩
      refine Zs ?_
      refine Zs ?_
      refine Zq [iV i2, .slice ab b.length cb, iV (b.length : Int), .bool (decide (i2 < (b.length : Int)))] [0, 1, 5, 6, 7, 8, 33] [(0, .slice aa_ a_.length ca_), (1, .slice ab b.length cb), (5, .slice a2 x2.length c2), (6, iV i1), (7, iV s2.2), (8, iV i2), (33, .bool (decide (i2 < (b.length : Int))))] ?_
      refine Zc (decide (i2 < (b.length : Int))) (fun hb3 => ?_) (fun hb3 => ?_)
      ·obtain ⟨my3, y3, rfl, hB3, hgoy3, houty3⟩ := M.for_go gx6 hb3
       have hlty3 := of_decide_eq_true hb3
       refine Run_skip ?_
       refine Zs ?_
       refine Run_block ?_
       obtain ⟨x7, hx4, hB3⟩ := M.bind_some hB3
       obtain ⟨hx4l, hx4u, hx4⟩ := M.idx_some hx4
       have H9 := H7.toRows
       obtain ⟨a4, c4, H10⟩ := H9.pinRow hx4
       obtain ⟨x8, hx5, hB3⟩ := M.bind_some hB3
       obtain ⟨hx5l, hx5u, hx5⟩ := M.idx_some hx5
       obtain ⟨a5, c5, H11⟩ := H10.pinRow hx5
       obtain ⟨x9, hx6, hB3⟩ := M.bind_some hB3
       obtain ⟨hx6l, hx6u, hx6⟩ := M.idx_some hx6
       obtain ⟨x10, hx7, hB3⟩ := M.bind_some hB3
       obtain ⟨hx7l, hx7u, hx7⟩ := M.idx_some hx7
       obtain ⟨a6, c6, hc3, r3⟩ := ra_.row hx7
       obtain ⟨x11, hx8, hB3⟩ := M.bind_some hB3
       obtain ⟨hx8l, hx8u, hx8⟩ := M.idx_some hx8
       obtain ⟨x12, hx9, hB3⟩ := M.bind_some hB3
       obtain ⟨hx9l, hx9u, hx9⟩ := M.idx_some hx9
       obtain ⟨a7, c7, hc4, r4⟩ := rb.row hx9
       obtain ⟨x13, hx10, hB3⟩ := M.bind_some hB3
       obtain ⟨hx10l, hx10u, hx10⟩ := M.idx_some hx10
       obtain ⟨x14, hx11, hB3⟩ := M.bind_some hB3
       obtain ⟨x15, hx12, hB3⟩ := M.bind_some hB3
       obtain ⟨hx12l, hx12u, hx12⟩ := M.idx_some hx12
       refine Run_D (fun x => Hold h x [rowsP cd2 24 a2 x2.length c2 s3 [(i1.toNat, a5, x8.length, c5, x8), (i1.toNat, a4, x7.length, c4, x7)]]) (fun x => Hold h x [rowsP cd2 24 a2 x2.length c2 s3 [(i1.toNat, a5, x8.length, c5, x8), (i1.toNat, a4, x7.length, c4, x7)]]) mixed (by kernel_rfl) H11 Hold.stable (fun x Hy => (show Hold h x [rowsP cd2 24 a2 x2.length c2 s3 [(i1.toNat, a5, x8.length, c5, x8), (i1.toNat, a4, x7.length, c4, x7)]] from Hy).pk [0]) ?_
       refine ZB 28 [.slice a2 x2.length c2, iV i1] 0 ?_
       refine ZY 27 2 (.pointer (some (adr a2 (i1.toNat * 1)))) (fun hx Hx => (YE.of (Zi 22 24 1 (a2) (x2.length) (c2) .i64 (i1) Tryz.underlying22 ((H7.rd 0 rfl).cell hx4).1 hx4l (by rw [← (H7.len 0 rfl)]; exact hx4u)))) ?_
       refine ZY 26 3 (.slice a4 x7.length c4) (fun hx Hx => (YE.of (Zl 24 (adr a2 (i1.toNat * 1)) (.slice a4 x7.length c4) (Hx.cellPin 0 rfl 1 rfl)))) ?_
       refine ZB 23 [iV s2.2, .slice a2 x2.length c2, iV i1] 4 ?_
       refine ZY 22 7 (.pointer (some (adr a2 (i1.toNat * 1)))) (fun hx Hx => (YE.of (Zi 22 24 1 (a2) (x2.length) (c2) .i64 (i1) Tryz.underlying22 ((H10.rdRows 0 rfl).cell hx5).1 hx5l (by rw [← (H10.lenRows 0 rfl)]; exact hx5u)))) ?_
       refine ZY 21 8 (.slice a5 x8.length c5) (fun hx Hx => (YE.of (Zl 24 (adr a2 (i1.toNat * 1)) (.slice a5 x8.length c5) (Hx.cellPin 0 rfl 0 rfl)))) ?_
       refine ZB 20 [iV s2.2] 9 ?_
       refine ZY 19 10 (.pointer (some (adr a5 (s2.2.toNat * 1)))) (fun hx Hx => (YE.of (Zi 24 2 1 (a5) (x8.length) (c5) .i64 (s2.2) Tryz.underlying24 ((H11.rdPin 0 rfl 0 rfl).cell hx6).1 hx6l hx6u))) ?_
       refine ZY 18 11 (iV x9) (fun hx Hx => (YE.of (Zl 2 (adr a5 (s2.2.toNat * 1)) (iV x9) (cd2_cell (Hx.rdPin 0 rfl 0 rfl) hx6)))) ?_
       refine ZB 16 [.slice aa_ a_.length ca_, iV i1] 12 ?_
       refine ZY 15 14 (.pointer (some (adr aa_ (i1.toNat * 1)))) (fun hx Hx => (YE.of (Zi 22 24 1 (aa_) (a_.length) (ca_) .i64 (i1) Tryz.underlying22 ((ra_.at H11.ext).cell hx7).1 hx7l hx7u))) ?_
       refine ZY 14 15 (.slice a6 x10.length c6) (fun hx Hx => (YE.of (Zl 24 (adr aa_ (i1.toNat * 1)) (.slice a6 x10.length c6) (cell_at Hx.ext hc3)))) ?_
       refine ZB 13 [iV i2] 16 ?_
       refine ZY 12 17 (.pointer (some (adr a6 (i2.toNat * 1)))) (fun hx Hx => (YE.of (Zi 24 2 1 (a6) (x10.length) (c6) .i64 (i2) Tryz.underlying24 ((r3.at H11.ext).cell hx8).1 hx8l hx8u))) ?_
       refine ZY 11 18 (iV x11) (fun hx Hx => (YE.of (Zl 2 (adr a6 (i2.toNat * 1)) (iV x11) (cd2_cell (r3.at Hx.ext) hx8)))) ?_
       refine ZB 9 [.slice ab b.length cb, iV i2] 19 ?_
       refine ZY 8 21 (.pointer (some (adr ab (i2.toNat * 1)))) (fun hx Hx => (YE.of (Zi 22 24 1 (ab) (b.length) (cb) .i64 (i2) Tryz.underlying22 ((rb.at H11.ext).cell hx9).1 hx9l hx9u))) ?_
       refine ZY 7 22 (.slice a7 x12.length c7) (fun hx Hx => (YE.of (Zl 24 (adr ab (i2.toNat * 1)) (.slice a7 x12.length c7) (cell_at Hx.ext hc4)))) ?_
       refine ZB 6 [iV s2.2] 23 ?_
       refine ZY 5 24 (.pointer (some (adr a7 (s2.2.toNat * 1)))) (fun hx Hx => (YE.of (Zi 24 2 1 (a7) (x12.length) (c7) .i64 (s2.2) Tryz.underlying24 ((r4.at H11.ext).cell hx10).1 hx10l hx10u))) ?_
       refine ZY 4 25 (iV x13) (fun hx Hx => (YE.of (Zl 2 (adr a7 (s2.2.toNat * 1)) (iV x13) (cd2_cell (r4.at Hx.ext) hx10)))) ?_
       refine ZY 3 26 (iV x14) (fun hx Hx => (YE.of (ZQ 80 #[iV x11, iV x13] (w_spec_l01Times hx x11 x13 _ _ hx11)))) ?_
       refine ZB 2 [iV (mx x9 x14)] 27 ?_
       refine ZY 1 28 (.pointer (some (adr a4 (s2.2.toNat * 1)))) (fun hx Hx => (YE.of (Zi 24 2 1 (a4) (x7.length) (c4) .i64 (s2.2) Tryz.underlying24 ((H11.rdPin 0 rfl 1 rfl).cell hx12).1 hx12l hx12u))) ?_
       refine ZT 29 (fun h8 H12 => ?_)
       have H13 : Hold h h8 [rowsP cd2 24 a2 x2.length c2 s3 [(i1.toNat, a5, x8.length, c5, x8), (i1.toNat, a4, x7.length, c4, x7)]] := H12
       obtain ⟨l1, hu1, hB3⟩ := M.bind_some hB3
       have hu1 := M.upd_some hu1
       refine Ze ?_
       refine E_put2 (C := cd2) (t := 2) (sz := 1) (j := s2.2) (x := (mx x9 x14)) (v := iV (mx x9 x14)) (m2 := s3.set i1.toNat l1) H13 cd2_flat 1 rfl (by kernel_rfl) rfl (cd2_own _) (by kernel_rfl) hu1 rfl (fun h9 H14 => ?_)
       refine Zx ?_
       refine Zk [0, 1, 5, 6, 7, 8] [(0, .slice aa_ a_.length ca_), (1, .slice ab b.length cb), (5, .slice a2 x2.length c2), (6, iV i1), (7, iV s2.2), (8, iV i2)] ?_
       refine Run_blk ?_
       refine Zg 3 [(0, .slice aa_ a_.length ca_), (1, .slice ab b.length cb), (5, .slice a2 x2.length c2), (6, iV i1), (7, iV s2.2), (8, iV (i2 + 1))] ?_ ?_
       ·refine Zb [iV i2] 0 ?_
        refine Zy (iV (i2 + 1)) (Y_eq (v := iV (w64 (i2 + 1))) (Y_pure (fun w => by kernel_rfl)) (by rw [w64_eq _ (by omega)])) ?_
        refine Zb [iV (i2 + 1)] 2 ?_
        exact Zd [0, 1, 5, 6, 7, 8]
       have H15 := H14.ofRows
       have hB3 := M.ret_some hB3
       have gx6 := hgoy3 _ hB3.symm
       exact Za [0, 1, 5, 6, 7, 8] my3 ⟨i2 + 1, (s3.set i1.toNat l1), by omega, gx6, rfl, H15⟩
      ·have gx6 := M.for_end gx6 hb3
       subst gx6
       refine Run_exit (k' := _) rfl ?_
       exact Zf [0, 1, 5, 6, 7] ⟨rfl, H7⟩
    ·have hB2 := (M.ite_some hB2).2 hb2
     refine Run_exit (k' := _) rfl ?_
     have hB2 := M.ret_some hB2
     have gx4 := houty2 _ hB2.symm
     subst gx4
     exact Zf [0, 1, 5, 6] ⟨rfl, H5⟩
  ·have gx3 := M.for_end gx3 hb1
   subst gx3
   refine Run_exit (k' := _) rfl ?_
   exact Zf [5] ⟨rfl, H3⟩

end Go.Proofs.YtelopfgolahlpaaGreat
