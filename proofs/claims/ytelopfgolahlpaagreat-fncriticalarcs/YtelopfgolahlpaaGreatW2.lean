/-
  Walks: each Go function, called with what reads as plain data, returns what its plain program computes.
  Conditions: None beyond the given statement.
-/
import Derived.Test.YtelopfgolahlpaaGreatW1
namespace Go.Proofs.YtelopfgolahlpaaGreat
open Go
attribute [local irreducible] setL setB opA fineI idleI fineB evB okB markB markBs readyB readyBs chainB lk rho pickL dropSlot tailOK
set_option maxRecDepth 100000
set_option maxHeartbeats 4000000
theorem w_spec_l02Add (h : Heap) (a_ : List (List Int)) (aa_ : Option Addr) (ca_ : Nat) (ra_ : Rd cd24 h (Lt h) aa_ ca_ a_) (b : List (List Int)) (ab : Option Addr) (cb : Nat) (rb : Rd cd24 h (Lt h) ab cb b) (n : Nat) (r : (List (List Int))) (hF : spec_l02Add a_ b n = some r) :
  Fn Tryz.prog 100 #[.slice aa_ a_.length ca_, .slice ab b.length cb] h fun v h' => ∃ (a0 : Option Addr) (c0 : Nat), v = .slice a0 r.length c0 ∧ Hold h h' [own cd24 a0 r.length c0 r] := by
 unfold spec_l02Add at hF
 refine Zo [.slice aa_ a_.length ca_, .slice ab b.length cb] Tryz.func100 rfl (fun w0 _ => ?_)
 have H0 := Hold.init h
 refine Zs ?_
 refine Zq [.slice none 0 0] [0, 1] [(0, .slice aa_ a_.length ca_), (1, .slice ab b.length cb)] ?_
 refine Zs ?_
 refine Run_ops ?_
 refine Zr [.slice aa_ a_.length ca_] 0 ?_
 obtain ⟨x1, hx1, hF⟩ := M.bind_some hF
 refine Ze ?_
 refine ZC 103 #[.slice aa_ a_.length ca_] (w_spec_l02Own h a_ aa_ ca_ ra_ _ _ hx1) (fun v1 h1 hp1 => ?_)
 obtain ⟨a1, c1, rfl, H1⟩ := hp1
 have H2 : Hold h h1 [own cd24 a1 x1.length c1 x1] := H0.call H1 rfl
 refine Zr [.slice a1 x1.length c1] 2 ?_
 refine Zx ?_
 refine Zk [1, 5] [(1, .slice ab b.length cb), (5, .slice a1 x1.length c1)] ?_
 refine Zs ?_
 refine Zs ?_
 refine Zq [iV 0] [1, 5, 6] [(1, .slice ab b.length cb), (5, .slice a1 x1.length c1), (6, iV 0)] ?_
 obtain ⟨x2, gx2, hF⟩ := M.bind_some hF
 obtain ⟨hloy1, hhiy1, gx2⟩ := M.for_start gx2
 refine Run_join (fun L' h' => L' = [(5, .slice a1 x1.length c1)] ∧ Hold h h' [own cd24 a1 x1.length c1 x2]) ?_ ?_
 ·rintro _ h3 ⟨rfl, H4⟩
  refine Zs ?_
  refine Zq [.slice a1 x1.length c1, .slice a1 x1.length c1] [4] [(4, .slice a1 x1.length c1)] ?_
  have hF := M.ret_some hF
  subst hF
  have H16 := H4.norm
  exact Run_ret1 rfl (Zt (.slice a1 x1.length c1)) ⟨a1, c1, (by simp only [(H4.len 0 rfl)]), H16⟩
 ·refine Run_block ?_
  refine Zk [1, 5, 6] [(1, .slice ab b.length cb), (5, .slice a1 x1.length c1), (6, iV 0)] ?_
  refine Run_loop (fun m L' h' => ∃ (i1 : Int) (s1 : (List (List Int))), 0 ≤ i1 ∧ M.forN (x1.length : Int) _ _ n m i1 s1 = some x2 ∧ L' = [(1, .slice ab b.length cb), (5, .slice a1 x1.length c1), (6, iV i1)] ∧ Hold h h' [own cd24 a1 x1.length c1 s1]) ((x1.length : Int) - 0 : Int).toNat ⟨0, x1, Int.le_refl _, gx2, rfl, H2⟩ ?_
  rintro my1 _ h2 ⟨i1, s1, hloy1', gx2, rfl, H3⟩
  refine Zs ?_
  refine Zs ?_
  refine Zq [iV i1, .slice a1 x1.length c1, iV (x1.length : Int), .bool (decide (i1 < (x1.length : Int)))] [1, 5, 6, 13] [(1, .slice ab b.length cb), (5, .slice a1 x1.length c1), (6, iV i1), (13, .bool (decide (i1 < (x1.length : Int))))] ?_
  refine Zc (decide (i1 < (x1.length : Int))) (fun hb1 => ?_) (fun hb1 => ?_)
  ·obtain ⟨my1, y1, rfl, hB1, hgoy1, houty1⟩ := M.for_go gx2 hb1
   have hlty1 := of_decide_eq_true hb1
   refine Run_skip ?_
   refine Zs ?_
   refine Run_block ?_
   refine Zs ?_
   refine Zq [iV 0] [1, 5, 6, 7] [(1, .slice ab b.length cb), (5, .slice a1 x1.length c1), (6, iV i1), (7, iV 0)] ?_
   obtain ⟨x3, gx3, hB1⟩ := M.bind_some hB1
   refine Run_join (fun L' h' => L' = [(1, .slice ab b.length cb), (5, .slice a1 x1.length c1), (6, iV i1)] ∧ Hold h h' [own cd24 a1 x1.length c1 x3.1]) ?_ ?_
   ·rintro _ h5 ⟨rfl, H6⟩
    refine Run_blk ?_
    refine Zg 3 [(1, .slice ab b.length cb), (5, .slice a1 x1.length c1), (6, iV (i1 + 1))] ?_ ?_
    ·refine Zb [iV i1] 0 ?_
     refine Zy (iV (i1 + 1)) (Y_eq (v := iV (w64 (i1 + 1))) (Y_pure (fun w => by kernel_rfl)) (by rw [w64_eq _ (by omega)])) ?_
     refine Zb [iV (i1 + 1)] 2 ?_
     exact Zd [1, 5, 6]
    have hB1 := M.ret_some hB1
    have gx2 := hgoy1 _ hB1.symm
    exact Za [1, 5, 6] my1 ⟨i1 + 1, x3.1, by omega, gx2, rfl, H6⟩
   ·refine Run_block ?_
    refine Zk [1, 5, 6, 7] [(1, .slice ab b.length cb), (5, .slice a1 x1.length c1), (6, iV i1), (7, iV 0)] ?_
    refine Run_loop (fun m L' h' => ∃ (s2 : (List (List Int)) × Int), M.loopN _ n m s2 = some x3 ∧ L' = [(1, .slice ab b.length cb), (5, .slice a1 x1.length c1), (6, iV i1), (7, iV s2.2)] ∧ Hold h h' [own cd24 a1 x1.length c1 s2.1]) n ⟨(s1, 0), gx3, rfl, H3⟩ ?_
    rintro my2 _ h4 ⟨s2, gx3, rfl, H5⟩
    obtain ⟨my2, y2, rfl, hB2, hgoy2, houty2⟩ := M.loop_some gx3
    refine Zs ?_
    refine Zs ?_
    obtain ⟨x4, hx2, hB2⟩ := M.bind_some hB2
    obtain ⟨hx2l, hx2u, hx2⟩ := M.idx_some hx2
    have H7 := H5.toRows
    obtain ⟨a2, c2, H8⟩ := H7.pinRow hx2
    refine Zg 7 [(1, .slice ab b.length cb), (5, .slice a1 x1.length c1), (6, iV i1), (7, iV s2.2), (22, .bool (decide (s2.2 < (x4.length : Int))))] ?_ ?_
    ·refine Zb [iV s2.2, .slice a1 x1.length c1, iV i1] 0 ?_
     refine Zy (.pointer (some (adr a1 (i1.toNat * 1)))) (Zi 22 24 1 (a1) (x1.length) (c1) .i64 (i1) Tryz.underlying22 ((H5.rd 0 rfl).cell hx2).1 hx2l (by rw [← (H5.len 0 rfl)]; exact hx2u)) ?_
     refine Zy (.slice a2 x4.length c2) (Zl 24 (adr a1 (i1.toNat * 1)) (.slice a2 x4.length c2) (H8.cellPin 0 rfl 0 rfl)) ?_
     refine Zb [iV (x4.length : Int), .bool (decide (s2.2 < (x4.length : Int)))] 5 ?_
     exact Zd [1, 5, 6, 7, 22]
    refine Zc (decide (s2.2 < (x4.length : Int))) (fun hb2 => ?_) (fun hb2 => ?_)
    ·have hB2 := (M.ite_some hB2).1 hb2
     refine Run_skip ?_
     refine Zs ?_
     refine Run_block ?_
     obtain ⟨x5, hx3, hB2⟩ := M.bind_some hB2
     obtain ⟨hx3l, hx3u, hx3⟩ := M.idx_some hx3
     obtain ⟨a3, c3, H9⟩ := H8.pinRow hx3
     obtain ⟨x6, hx4, hB2⟩ := M.bind_some hB2
     obtain ⟨hx4l, hx4u, hx4⟩ := M.idx_some hx4
     obtain ⟨a4, c4, H10⟩ := H9.pinRow hx4
     obtain ⟨x7, hx5, hB2⟩ := M.bind_some hB2
     obtain ⟨hx5l, hx5u, hx5⟩ := M.idx_some hx5
     obtain ⟨x8, hx6, hB2⟩ := M.bind_some hB2
     obtain ⟨hx6l, hx6u, hx6⟩ := M.idx_some hx6
     obtain ⟨a5, c5, hc1, r1⟩ := rb.row hx6
     obtain ⟨x9, hx7, hB2⟩ := M.bind_some hB2
     obtain ⟨hx7l, hx7u, hx7⟩ := M.idx_some hx7
     obtain ⟨x10, hx8, hB2⟩ := M.bind_some hB2
     obtain ⟨hx8l, hx8u, hx8⟩ := M.idx_some hx8
     refine Run_D (fun x => Hold h x [rowsP cd2 24 a1 x1.length c1 s2.1 [(i1.toNat, a4, x6.length, c4, x6), (i1.toNat, a3, x5.length, c3, x5), (i1.toNat, a2, x4.length, c2, x4)]]) (fun x => Hold h x [rowsP cd2 24 a1 x1.length c1 s2.1 [(i1.toNat, a4, x6.length, c4, x6), (i1.toNat, a3, x5.length, c3, x5), (i1.toNat, a2, x4.length, c2, x4)]]) mixed (by kernel_rfl) H10 Hold.stable (fun x Hy => (show Hold h x [rowsP cd2 24 a1 x1.length c1 s2.1 [(i1.toNat, a4, x6.length, c4, x6), (i1.toNat, a3, x5.length, c3, x5), (i1.toNat, a2, x4.length, c2, x4)]] from Hy).pk [0]) ?_
     refine ZB 20 [.slice a1 x1.length c1, iV i1] 0 ?_
     refine ZY 19 2 (.pointer (some (adr a1 (i1.toNat * 1)))) (fun hx Hx => (YE.of (Zi 22 24 1 (a1) (x1.length) (c1) .i64 (i1) Tryz.underlying22 ((H8.rdRows 0 rfl).cell hx3).1 hx3l (by rw [← (H8.lenRows 0 rfl)]; exact hx3u)))) ?_
     refine ZY 18 3 (.slice a3 x5.length c3) (fun hx Hx => (YE.of (Zl 24 (adr a1 (i1.toNat * 1)) (.slice a3 x5.length c3) (Hx.cellPin 0 rfl 1 rfl)))) ?_
     refine ZB 15 [iV s2.2, .slice a1 x1.length c1, iV i1] 4 ?_
     refine ZY 14 7 (.pointer (some (adr a1 (i1.toNat * 1)))) (fun hx Hx => (YE.of (Zi 22 24 1 (a1) (x1.length) (c1) .i64 (i1) Tryz.underlying22 ((H9.rdRows 0 rfl).cell hx4).1 hx4l (by rw [← (H9.lenRows 0 rfl)]; exact hx4u)))) ?_
     refine ZY 13 8 (.slice a4 x6.length c4) (fun hx Hx => (YE.of (Zl 24 (adr a1 (i1.toNat * 1)) (.slice a4 x6.length c4) (Hx.cellPin 0 rfl 0 rfl)))) ?_
     refine ZB 12 [iV s2.2] 9 ?_
     refine ZY 11 10 (.pointer (some (adr a4 (s2.2.toNat * 1)))) (fun hx Hx => (YE.of (Zi 24 2 1 (a4) (x6.length) (c4) .i64 (s2.2) Tryz.underlying24 ((H10.rdPin 0 rfl 0 rfl).cell hx5).1 hx5l hx5u))) ?_
     refine ZY 10 11 (iV x7) (fun hx Hx => (YE.of (Zl 2 (adr a4 (s2.2.toNat * 1)) (iV x7) (cd2_cell (Hx.rdPin 0 rfl 0 rfl) hx5)))) ?_
     refine ZB 8 [.slice ab b.length cb, iV i1] 12 ?_
     refine ZY 7 14 (.pointer (some (adr ab (i1.toNat * 1)))) (fun hx Hx => (YE.of (Zi 22 24 1 (ab) (b.length) (cb) .i64 (i1) Tryz.underlying22 ((rb.at H10.ext).cell hx6).1 hx6l hx6u))) ?_
     refine ZY 6 15 (.slice a5 x8.length c5) (fun hx Hx => (YE.of (Zl 24 (adr ab (i1.toNat * 1)) (.slice a5 x8.length c5) (cell_at Hx.ext hc1)))) ?_
     refine ZB 5 [iV s2.2] 16 ?_
     refine ZY 4 17 (.pointer (some (adr a5 (s2.2.toNat * 1)))) (fun hx Hx => (YE.of (Zi 24 2 1 (a5) (x8.length) (c5) .i64 (s2.2) Tryz.underlying24 ((r1.at H10.ext).cell hx7).1 hx7l hx7u))) ?_
     refine ZY 3 18 (iV x9) (fun hx Hx => (YE.of (Zl 2 (adr a5 (s2.2.toNat * 1)) (iV x9) (cd2_cell (r1.at Hx.ext) hx7)))) ?_
     refine ZB 2 [iV (mx x7 x9)] 19 ?_
     refine ZY 1 20 (.pointer (some (adr a3 (s2.2.toNat * 1)))) (fun hx Hx => (YE.of (Zi 24 2 1 (a3) (x5.length) (c3) .i64 (s2.2) Tryz.underlying24 ((H10.rdPin 0 rfl 1 rfl).cell hx8).1 hx8l hx8u))) ?_
     refine ZT 21 (fun h6 H11 => ?_)
     have H12 : Hold h h6 [rowsP cd2 24 a1 x1.length c1 s2.1 [(i1.toNat, a4, x6.length, c4, x6), (i1.toNat, a3, x5.length, c3, x5), (i1.toNat, a2, x4.length, c2, x4)]] := H11
     obtain ⟨l1, hu1, hB2⟩ := M.bind_some hB2
     have hu1 := M.upd_some hu1
     refine Ze ?_
     refine E_put2 (C := cd2) (t := 2) (sz := 1) (j := s2.2) (x := (mx x7 x9)) (v := iV (mx x7 x9)) (m2 := s2.1.set i1.toNat l1) H12 cd2_flat 1 rfl (by kernel_rfl) rfl (cd2_own _) (by kernel_rfl) hu1 rfl (fun h7 H13 => ?_)
     refine Zx ?_
     refine Zk [1, 5, 6, 7] [(1, .slice ab b.length cb), (5, .slice a1 x1.length c1), (6, iV i1), (7, iV s2.2)] ?_
     refine Run_blk ?_
     refine Zq [iV s2.2, iV (w64 (s2.2 + 1)), iV (w64 (s2.2 + 1))] [1, 5, 6, 7] [(1, .slice ab b.length cb), (5, .slice a1 x1.length c1), (6, iV i1), (7, iV (w64 (s2.2 + 1)))] ?_
     have H14 := H13.ofRows
     have hB2 := M.ret_some hB2
     have gx3 := hgoy2 _ hB2.symm
     exact Za [1, 5, 6, 7] my2 ⟨((s2.1.set i1.toNat l1), (w64 (s2.2 + 1))), gx3, rfl, H14⟩
    ·have hB2 := (M.ite_some hB2).2 hb2
     refine Run_exit (k' := _) rfl ?_
     have H15 := H8.ofRows
     have hB2 := M.ret_some hB2
     have gx3 := houty2 _ hB2.symm
     subst gx3
     exact Zf [1, 5, 6] ⟨rfl, H15⟩
  ·have gx2 := M.for_end gx2 hb1
   subst gx2
   refine Run_exit (k' := _) rfl ?_
   exact Zf [5] ⟨rfl, H3⟩

theorem w_spec_l01Same (h : Heap) (a_ : List Int) {Sa_ : Bs} (aa_ : Option Addr) (ca_ : Nat) (ra_ : Rd cd2 h Sa_ aa_ ca_ a_) (b : List Int) {Sb : Bs} (ab : Option Addr) (cb : Nat) (rb : Rd cd2 h Sb ab cb b) (n : Nat) (r : Bool) (hF : spec_l01Same a_ b n = some r) :
  Fn Tryz.prog 142 #[.slice aa_ a_.length ca_, .slice ab b.length cb] h fun v h' => v = .bool r ∧ h' = h := by
 unfold spec_l01Same at hF
 refine Zo [.slice aa_ a_.length ca_, .slice ab b.length cb] Tryz.func142 rfl (fun w0 _ => ?_)
 refine Zs ?_
 refine Zq [.bool false] [0, 1] [(0, .slice aa_ a_.length ca_), (1, .slice ab b.length cb)] ?_
 refine Zs ?_
 refine Zs ?_
 refine Zq [.slice aa_ a_.length ca_, iV (a_.length : Int), .slice ab b.length cb, iV (b.length : Int), .bool ((a_.length : Int) != (b.length : Int))] [0, 1, 10] [(0, .slice aa_ a_.length ca_), (1, .slice ab b.length cb), (10, .bool ((a_.length : Int) != (b.length : Int)))] ?_
 refine Zc ((a_.length : Int) != (b.length : Int)) (fun hb1 => ?_) (fun hb1 => ?_)
 ·have hF := (M.ite_some hF).1 hb1
  refine Zs ?_
  refine Zq [.bool false] [4] [(4, .bool false)] ?_
  have hF := M.ret_some hF
  subst hF
  exact Run_ret1 rfl (Zt (.bool false)) ⟨rfl, rfl⟩
 ·have hF := (M.ite_some hF).2 hb1
  refine Run_skip ?_
  refine Zs ?_
  refine Zs ?_
  refine Zq [iV 0] [0, 1, 5] [(0, .slice aa_ a_.length ca_), (1, .slice ab b.length cb), (5, iV 0)] ?_
  obtain ⟨x1, gx1, hF⟩ := M.bind_some hF
  obtain ⟨hloy1, hhiy1, gx1⟩ := M.for_start gx1
  refine Run_join (fun L' h' => ∃ (s2 : Unit), x1 = .inl s2 ∧ L' = [] ∧ h = h') ?_ ?_
  ·rintro _ _ ⟨s2, es2, rfl, rfl⟩
   have hF := M.cont_inl' hF es2
   refine Zs ?_
   refine Zq [.bool true] [4] [(4, .bool true)] ?_
   have hF := M.ret_some hF
   subst hF
   exact Run_ret1 rfl (Zt (.bool true)) ⟨rfl, rfl⟩
  ·refine Run_block ?_
   refine Zk [0, 1, 5] [(0, .slice aa_ a_.length ca_), (1, .slice ab b.length cb), (5, iV 0)] ?_
   refine Run_loop (fun m L' h' => ∃ (i1 : Int) (s1 : Unit), 0 ≤ i1 ∧ M.forN (a_.length : Int) _ _ n m i1 s1 = some x1 ∧ L' = [(0, .slice aa_ a_.length ca_), (1, .slice ab b.length cb), (5, iV i1)] ∧ h = h') ((a_.length : Int) - 0 : Int).toNat ⟨0, (), Int.le_refl _, gx1, rfl, rfl⟩ ?_
   rintro my1 _ _ ⟨i1, s1, hloy1', gx1, rfl, rfl⟩
   refine Zs ?_
   refine Zs ?_
   refine Zq [iV i1, .slice aa_ a_.length ca_, iV (a_.length : Int), .bool (decide (i1 < (a_.length : Int)))] [0, 1, 5, 14] [(0, .slice aa_ a_.length ca_), (1, .slice ab b.length cb), (5, iV i1), (14, .bool (decide (i1 < (a_.length : Int))))] ?_
   refine Zc (decide (i1 < (a_.length : Int))) (fun hb2 => ?_) (fun hb2 => ?_)
   ·obtain ⟨my1, y1, rfl, hB1, hgoy1, houty1⟩ := M.for_go gx1 hb2
    have hlty1 := of_decide_eq_true hb2
    refine Run_skip ?_
    refine Zs ?_
    refine Run_block ?_
    refine Zs ?_
    obtain ⟨x2, hx1, hB1⟩ := M.bind_some hB1
    obtain ⟨hx1l, hx1u, hx1⟩ := M.idx_some hx1
    obtain ⟨x3, hx2, hB1⟩ := M.bind_some hB1
    obtain ⟨hx2l, hx2u, hx2⟩ := M.idx_some hx2
    refine Run_draw 9 mixed (by kernel_rfl) (by kernel_rfl) (L' := [(0, .slice aa_ a_.length ca_), (1, .slice ab b.length cb), (5, iV i1), (25, .bool (x2 != x3))]) ?_ ?_
    ·refine Zb [.slice aa_ a_.length ca_, iV i1] 0 ?_
     refine Zy (.pointer (some (adr aa_ (i1.toNat * 1)))) (Zi 24 2 1 (aa_) (a_.length) (ca_) .i64 (i1) Tryz.underlying24 (ra_.cell hx1).1 hx1l hx1u) ?_
     refine Zy (iV x2) (Zl 2 (adr aa_ (i1.toNat * 1)) (iV x2) (cd2_cell ra_ hx1)) ?_
     refine Zb [.slice ab b.length cb, iV i1] 4 ?_
     refine Zy (.pointer (some (adr ab (i1.toNat * 1)))) (Zi 24 2 1 (ab) (b.length) (cb) .i64 (i1) Tryz.underlying24 (rb.cell hx2).1 hx2l hx2u) ?_
     refine Zy (iV x3) (Zl 2 (adr ab (i1.toNat * 1)) (iV x3) (cd2_cell rb hx2)) ?_
     refine Zb [.bool (x2 != x3)] 8 ?_
     exact Zd [0, 1, 5, 25]
    refine Zc (x2 != x3) (fun hb3 => ?_) (fun hb3 => ?_)
    ·have hB1 := (M.ite_some hB1).1 hb3
     refine Zs ?_
     refine Zq [.bool false] [4] [(4, .bool false)] ?_
     have hB1 := M.ret_some hB1
     have gx1 := houty1 _ hB1.symm
     have hF := M.cont_inr' hF gx1
     have hF := M.ret_some hF
     subst hF
     exact Run_ret1 rfl (Zt (.bool false)) ⟨rfl, rfl⟩
    ·have hB1 := (M.ite_some hB1).2 hb3
     refine Run_skip ?_
     refine Run_blk ?_
     refine Zg 3 [(0, .slice aa_ a_.length ca_), (1, .slice ab b.length cb), (5, iV (i1 + 1))] ?_ ?_
     ·refine Zb [iV i1] 0 ?_
      refine Zy (iV (i1 + 1)) (Y_eq (v := iV (w64 (i1 + 1))) (Y_pure (fun w => by kernel_rfl)) (by rw [w64_eq _ (by omega)])) ?_
      refine Zb [iV (i1 + 1)] 2 ?_
      exact Zd [0, 1, 5]
     have hB1 := M.ret_some hB1
     have gx1 := hgoy1 _ hB1.symm
     exact Za [0, 1, 5] my1 ⟨i1 + 1, (), by omega, gx1, rfl, rfl⟩
   ·have gx1 := M.for_end gx1 hb2
    subst gx1
    refine Run_exit (k' := _) rfl ?_
    exact Zf [] ⟨(), rfl, rfl, rfl⟩

theorem w_spec_l02Same (h : Heap) (a_ : List (List Int)) {Sa_ : Bs} (aa_ : Option Addr) (ca_ : Nat) (ra_ : Rd cd24 h Sa_ aa_ ca_ a_) (b : List (List Int)) {Sb : Bs} (ab : Option Addr) (cb : Nat) (rb : Rd cd24 h Sb ab cb b) (n : Nat) (r : Bool) (hF : spec_l02Same a_ b n = some r) :
  Fn Tryz.prog 102 #[.slice aa_ a_.length ca_, .slice ab b.length cb] h fun v h' => v = .bool r ∧ h' = h := by
 unfold spec_l02Same at hF
 refine Zo [.slice aa_ a_.length ca_, .slice ab b.length cb] Tryz.func102 rfl (fun w0 _ => ?_)
 refine Zs ?_
 refine Zq [.bool false] [0, 1] [(0, .slice aa_ a_.length ca_), (1, .slice ab b.length cb)] ?_
 refine Zs ?_
 refine Zs ?_
 refine Zq [.slice aa_ a_.length ca_, iV (a_.length : Int), .slice ab b.length cb, iV (b.length : Int), .bool ((a_.length : Int) != (b.length : Int))] [0, 1, 10] [(0, .slice aa_ a_.length ca_), (1, .slice ab b.length cb), (10, .bool ((a_.length : Int) != (b.length : Int)))] ?_
 refine Zc ((a_.length : Int) != (b.length : Int)) (fun hb1 => ?_) (fun hb1 => ?_)
 ·have hF := (M.ite_some hF).1 hb1
  refine Zs ?_
  refine Zq [.bool false] [4] [(4, .bool false)] ?_
  have hF := M.ret_some hF
  subst hF
  exact Run_ret1 rfl (Zt (.bool false)) ⟨rfl, rfl⟩
 ·have hF := (M.ite_some hF).2 hb1
  refine Run_skip ?_
  refine Zs ?_
  refine Zs ?_
  refine Zq [iV 0] [0, 1, 5] [(0, .slice aa_ a_.length ca_), (1, .slice ab b.length cb), (5, iV 0)] ?_
  obtain ⟨x1, gx1, hF⟩ := M.bind_some hF
  obtain ⟨hloy1, hhiy1, gx1⟩ := M.for_start gx1
  refine Run_join (fun L' h' => ∃ (s2 : Unit), x1 = .inl s2 ∧ L' = [] ∧ h = h') ?_ ?_
  ·rintro _ _ ⟨s2, es2, rfl, rfl⟩
   have hF := M.cont_inl' hF es2
   refine Zs ?_
   refine Zq [.bool true] [4] [(4, .bool true)] ?_
   have hF := M.ret_some hF
   subst hF
   exact Run_ret1 rfl (Zt (.bool true)) ⟨rfl, rfl⟩
  ·refine Run_block ?_
   refine Zk [0, 1, 5] [(0, .slice aa_ a_.length ca_), (1, .slice ab b.length cb), (5, iV 0)] ?_
   refine Run_loop (fun m L' h' => ∃ (i1 : Int) (s1 : Unit), 0 ≤ i1 ∧ M.forN (a_.length : Int) _ _ n m i1 s1 = some x1 ∧ L' = [(0, .slice aa_ a_.length ca_), (1, .slice ab b.length cb), (5, iV i1)] ∧ h = h') ((a_.length : Int) - 0 : Int).toNat ⟨0, (), Int.le_refl _, gx1, rfl, rfl⟩ ?_
   rintro my1 _ _ ⟨i1, s1, hloy1', gx1, rfl, rfl⟩
   refine Zs ?_
   refine Zs ?_
   refine Zq [iV i1, .slice aa_ a_.length ca_, iV (a_.length : Int), .bool (decide (i1 < (a_.length : Int)))] [0, 1, 5, 14] [(0, .slice aa_ a_.length ca_), (1, .slice ab b.length cb), (5, iV i1), (14, .bool (decide (i1 < (a_.length : Int))))] ?_
   refine Zc (decide (i1 < (a_.length : Int))) (fun hb2 => ?_) (fun hb2 => ?_)
   ·obtain ⟨my1, y1, rfl, hB1, hgoy1, houty1⟩ := M.for_go gx1 hb2
    have hlty1 := of_decide_eq_true hb2
    refine Run_skip ?_
    refine Zs ?_
    refine Run_block ?_
    refine Zs ?_
    obtain ⟨x2, hx1, hB1⟩ := M.bind_some hB1
    obtain ⟨hx1l, hx1u, hx1⟩ := M.idx_some hx1
    obtain ⟨a1, c1, hc1, r1⟩ := ra_.row hx1
    obtain ⟨x3, hx2, hB1⟩ := M.bind_some hB1
    obtain ⟨hx2l, hx2u, hx2⟩ := M.idx_some hx2
    obtain ⟨a2, c2, hc2, r2⟩ := rb.row hx2
    obtain ⟨x4, hx3, hB1⟩ := M.bind_some hB1
    refine Run_draw 10 mixed (by kernel_rfl) (by kernel_rfl) (L' := [(0, .slice aa_ a_.length ca_), (1, .slice ab b.length cb), (5, iV i1), (26, .bool (!x4))]) ?_ ?_
    ·refine Zb [.slice aa_ a_.length ca_, iV i1] 0 ?_
     refine Zy (.pointer (some (adr aa_ (i1.toNat * 1)))) (Zi 22 24 1 (aa_) (a_.length) (ca_) .i64 (i1) Tryz.underlying22 (ra_.cell hx1).1 hx1l hx1u) ?_
     refine Zy (.slice a1 x2.length c1) (Zl 24 (adr aa_ (i1.toNat * 1)) (.slice a1 x2.length c1) hc1) ?_
     refine Zb [.slice ab b.length cb, iV i1] 4 ?_
     refine Zy (.pointer (some (adr ab (i1.toNat * 1)))) (Zi 22 24 1 (ab) (b.length) (cb) .i64 (i1) Tryz.underlying22 (rb.cell hx2).1 hx2l hx2u) ?_
     refine Zy (.slice a2 x3.length c2) (Zl 24 (adr ab (i1.toNat * 1)) (.slice a2 x3.length c2) hc2) ?_
     refine Zy (.bool x4) (ZQ 142 #[.slice a1 x2.length c1, .slice a2 x3.length c2] (w_spec_l01Same h x2 a1 c1 r1 x3 a2 c2 r2 _ _ hx3)) ?_
     refine Zb [.bool (!x4)] 9 ?_
     exact Zd [0, 1, 5, 26]
    refine Zc (!x4) (fun hb3 => ?_) (fun hb3 => ?_)
    ·have hB1 := (M.ite_some hB1).1 hb3
     refine Zs ?_
     refine Zq [.bool false] [4] [(4, .bool false)] ?_
     have hB1 := M.ret_some hB1
     have gx1 := houty1 _ hB1.symm
     have hF := M.cont_inr' hF gx1
     have hF := M.ret_some hF
     subst hF
     exact Run_ret1 rfl (Zt (.bool false)) ⟨rfl, rfl⟩
    ·have hB1 := (M.ite_some hB1).2 hb3
     refine Run_skip ?_
     refine Run_blk ?_
     refine Zg 3 [(0, .slice aa_ a_.length ca_), (1, .slice ab b.length cb), (5, iV (i1 + 1))] ?_ ?_
     ·refine Zb [iV i1] 0 ?_
      refine Zy (iV (i1 + 1)) (Y_eq (v := iV (w64 (i1 + 1))) (Y_pure (fun w => by kernel_rfl)) (by rw [w64_eq _ (by omega)])) ?_
      refine Zb [iV (i1 + 1)] 2 ?_
      exact Zd [0, 1, 5]
     have hB1 := M.ret_some hB1
     have gx1 := hgoy1 _ hB1.symm
     exact Za [0, 1, 5] my1 ⟨i1 + 1, (), by omega, gx1, rfl, rfl⟩
   ·have gx1 := M.for_end gx1 hb2
    subst gx1
    refine Run_exit (k' := _) rfl ?_
    exact Zf [] ⟨(), rfl, rfl, rfl⟩

theorem w_spec_l03Star (h : Heap) (a_ : List (List Int)) (aa_ : Option Addr) (ca_ : Nat) (ra_ : Rd cd24 h (Lt h) aa_ ca_ a_) (n : Nat) (r : (List (List Int)) × Bool) (hF : spec_l03Star a_ n = some r) :
  Fn Tryz.prog 58 #[.slice aa_ a_.length ca_] h fun v h' => ∃ (a0 : Option Addr) (c0 : Nat), v = .tuple #[.slice a0 r.1.length c0, .bool r.2] ∧ Hold h h' [own cd24 a0 r.1.length c0 r.1] := by
 unfold spec_l03Star at hF
 refine Zo [.slice aa_ a_.length ca_] Tryz.func58 rfl (fun w0 _ => ?_)
 have H0 := Hold.init h
 refine Zs ?_
 refine Zq [.slice none 0 0, .bool false] [0] [(0, .slice aa_ a_.length ca_)] ?_
 refine Zs ?_
 refine Zq [.slice aa_ a_.length ca_, iV (a_.length : Int), iV (a_.length : Int)] [0, 4] [(0, .slice aa_ a_.length ca_), (4, iV (a_.length : Int))] ?_
 refine Zs ?_
 refine Run_ops ?_
 refine Zr [iV (a_.length : Int)] 0 ?_
 obtain ⟨x1, hx1, hF⟩ := M.bind_some hF
 refine Ze ?_
 refine ZC 99 #[iV (a_.length : Int)] (w_spec_l02Unit h (a_.length : Int) _ _ hx1) (fun v1 h1 hp1 => ?_)
 obtain ⟨a1, c1, rfl, H1⟩ := hp1
 have H2 : Hold h h1 [own cd24 a1 x1.length c1 x1] := H0.call H1 rfl
 refine Zr [.slice a1 x1.length c1] 2 ?_
 refine Zx ?_
 refine Zk [0, 4, 5] [(0, .slice aa_ a_.length ca_), (4, iV (a_.length : Int)), (5, .slice a1 x1.length c1)] ?_
 refine Zs ?_
 refine Zs ?_
 refine Zq [iV 0] [0, 4, 5, 6] [(0, .slice aa_ a_.length ca_), (4, iV (a_.length : Int)), (5, .slice a1 x1.length c1), (6, iV 0)] ?_
 obtain ⟨x2, gx2, hF⟩ := M.bind_some hF
 obtain ⟨hloy1, hhiy1, gx2⟩ := M.for_start gx2
 refine Run_join (fun L' h' => ∃ (a3 : Option Addr) (c3 : Nat), L' = [(0, .slice aa_ a_.length ca_), (4, iV (a_.length : Int)), (5, .slice a3 x2.length c3)] ∧ Hold h h' [own cd24 a3 x2.length c3 x2]) ?_ ?_
 ·rintro _ h3 ⟨a3, c3, rfl, H4⟩
  refine Zs ?_
  refine Run_ops ?_
  refine Zr [iV (a_.length : Int)] 0 ?_
  obtain ⟨x6, hx5, hF⟩ := M.bind_some hF
  refine Ze ?_
  refine ZC 99 #[iV (a_.length : Int)] (w_spec_l02Unit h3 (a_.length : Int) _ _ hx5) (fun v5 h7 hp5 => ?_)
  obtain ⟨a7, c7, rfl, H12⟩ := hp5
  have H13 : Hold h h7 [own cd24 a7 x6.length c7 x6, own cd24 a3 x2.length c3 x2] := H4.call H12 rfl
  refine Zr [.slice aa_ a_.length ca_, .slice a3 x2.length c3] 2 ?_
  obtain ⟨x7, hx6, hF⟩ := M.bind_some hF
  refine Ze ?_
  refine ZC 101 #[.slice aa_ a_.length ca_, .slice a3 x2.length c3] (w_spec_l02Multiply h7 a_ aa_ ca_ (ra_.at H13.ext) x2 a3 c3 (H13.rd 1 rfl) _ _ hx6) (fun v6 h8 hp6 => ?_)
  obtain ⟨a8, c8, rfl, H14⟩ := hp6
  have H15 : Hold h h8 [own cd24 a8 x7.length c8 x7, own cd24 a7 x6.length c7 x6, own cd24 a3 x2.length c3 x2] := H13.call H14 rfl
  obtain ⟨x8, hx7, hF⟩ := M.bind_some hF
  refine Ze ?_
  refine ZC 100 #[.slice a7 x6.length c7, .slice a8 x7.length c8] (w_spec_l02Add h8 x6 a7 c7 (H15.rd 1 rfl) x7 a8 c8 (H15.rd 0 rfl) _ _ hx7) (fun v7 h9 hp7 => ?_)
  obtain ⟨a9, c9, rfl, H16⟩ := hp7
  have H17 : Hold h h9 [own cd24 a9 x8.length c9 x8, own cd24 a8 x7.length c8 x7, own cd24 a7 x6.length c7 x6, own cd24 a3 x2.length c3 x2] := H15.call H16 rfl
  refine Zr [.slice a9 x8.length c9] 6 ?_
  refine Zx ?_
  refine Zk [5, 7] [(5, .slice a3 x2.length c3), (7, .slice a9 x8.length c9)] ?_
  refine Zs ?_
  obtain ⟨x9, hx8, hF⟩ := M.bind_some hF
  refine Zg 6 [(2, .slice a3 x2.length c3), (3, .bool x9)] ?_ ?_
  ·refine Zb [.slice a3 x2.length c3, .slice a9 x8.length c9, .slice a3 x2.length c3] 0 ?_
   refine Zy (.bool x9) (ZQ 102 #[.slice a9 x8.length c9, .slice a3 x2.length c3] (w_spec_l02Same h9 x8 a9 c9 (H17.rd 0 rfl) x2 a3 c3 (H17.rd 3 rfl) _ _ hx8)) ?_
   refine Zb [.slice a3 x2.length c3, .bool x9] 4 ?_
   exact Zd [2, 3]
  have hF := M.ret_some hF
  subst hF
  have H18 : Hold h h9 [own cd24 a3 x2.length c3 x2, own cd24 a9 x8.length c9 x8, own cd24 a8 x7.length c8 x7, own cd24 a7 x6.length c7 x6] := H17.pk [3, 0, 1, 2]
  have H19 : Hold h h9 [own cd24 a3 x2.length c3 x2] := H18.pk [0]
  exact Run_ret2 rfl (Zt (.slice a3 x2.length c3)) (Zt (.bool x9)) ⟨a3, c3, rfl, H19⟩
 ·refine Run_block ?_
  refine Zk [0, 4, 5, 6] [(0, .slice aa_ a_.length ca_), (4, iV (a_.length : Int)), (5, .slice a1 x1.length c1), (6, iV 0)] ?_
  refine Run_loop (fun m L' h' => ∃ (i1 : Int) (s1 : (List (List Int))) (a2 : Option Addr) (c2 : Nat), 0 ≤ i1 ∧ M.forN (a_.length : Int) _ _ n m i1 s1 = some x2 ∧ L' = [(0, .slice aa_ a_.length ca_), (4, iV (a_.length : Int)), (5, .slice a2 s1.length c2), (6, iV i1)] ∧ Hold h h' [own cd24 a2 s1.length c2 s1]) ((a_.length : Int) - 0 : Int).toNat ⟨0, x1, a1, c1, Int.le_refl _, gx2, rfl, H2⟩ ?_
  rintro my1 _ h2 ⟨i1, s1, a2, c2, hloy1', gx2, rfl, H3⟩
  refine Zs ?_
  refine Zs ?_
  refine Zq [iV i1, iV (a_.length : Int), .bool (decide (i1 < (a_.length : Int)))] [0, 4, 5, 6, 14] [(0, .slice aa_ a_.length ca_), (4, iV (a_.length : Int)), (5, .slice a2 s1.length c2), (6, iV i1), (14, .bool (decide (i1 < (a_.length : Int))))] ?_
  refine Zc (decide (i1 < (a_.length : Int))) (fun hb1 => ?_) (fun hb1 => ?_)
  ·obtain ⟨my1, y1, rfl, hB1, hgoy1, houty1⟩ := M.for_go gx2 hb1
   have hlty1 := of_decide_eq_true hb1
   refine Run_skip ?_
   refine Zs ?_
   refine Run_block ?_
   refine Run_ops ?_
   refine Zr [iV (a_.length : Int)] 0 ?_
   obtain ⟨x3, hx2, hB1⟩ := M.bind_some hB1
   refine Ze ?_
   refine ZC 99 #[iV (a_.length : Int)] (w_spec_l02Unit h2 (a_.length : Int) _ _ hx2) (fun v2 h4 hp2 => ?_)
   obtain ⟨a4, c4, rfl, H5⟩ := hp2
   have H6 : Hold h h4 [own cd24 a4 x3.length c4 x3, own cd24 a2 s1.length c2 s1] := H3.call H5 rfl
   refine Zr [.slice aa_ a_.length ca_, .slice a2 s1.length c2] 2 ?_
   obtain ⟨x4, hx3, hB1⟩ := M.bind_some hB1
   refine Ze ?_
   refine ZC 101 #[.slice aa_ a_.length ca_, .slice a2 s1.length c2] (w_spec_l02Multiply h4 a_ aa_ ca_ (ra_.at H6.ext) s1 a2 c2 (H6.rd 1 rfl) _ _ hx3) (fun v3 h5 hp3 => ?_)
   obtain ⟨a5, c5, rfl, H7⟩ := hp3
   have H8 : Hold h h5 [own cd24 a5 x4.length c5 x4, own cd24 a4 x3.length c4 x3, own cd24 a2 s1.length c2 s1] := H6.call H7 rfl
   obtain ⟨x5, hx4, hB1⟩ := M.bind_some hB1
   refine Ze ?_
   refine ZC 100 #[.slice a4 x3.length c4, .slice a5 x4.length c5] (w_spec_l02Add h5 x3 a4 c4 (H8.rd 1 rfl) x4 a5 c5 (H8.rd 0 rfl) _ _ hx4) (fun v4 h6 hp4 => ?_)
   obtain ⟨a6, c6, rfl, H9⟩ := hp4
   have H10 : Hold h h6 [own cd24 a6 x5.length c6 x5, own cd24 a5 x4.length c5 x4, own cd24 a4 x3.length c4 x3, own cd24 a2 s1.length c2 s1] := H8.call H9 rfl
   refine Zr [.slice a6 x5.length c6] 6 ?_
   refine Zx ?_
   refine Zk [0, 4, 5, 6] [(0, .slice aa_ a_.length ca_), (4, iV (a_.length : Int)), (5, .slice a6 x5.length c6), (6, iV i1)] ?_
   refine Run_blk ?_
   refine Zg 3 [(0, .slice aa_ a_.length ca_), (4, iV (a_.length : Int)), (5, .slice a6 x5.length c6), (6, iV (i1 + 1))] ?_ ?_
   ·refine Zb [iV i1] 0 ?_
    refine Zy (iV (i1 + 1)) (Y_eq (v := iV (w64 (i1 + 1))) (Y_pure (fun w => by kernel_rfl)) (by rw [w64_eq _ (by omega)])) ?_
    refine Zb [iV (i1 + 1)] 2 ?_
    exact Zd [0, 4, 5, 6]
   have H11 : Hold h h6 [own cd24 a6 x5.length c6 x5] := H10.pk [0]
   have hB1 := M.ret_some hB1
   have gx2 := hgoy1 _ hB1.symm
   exact Za [0, 4, 5, 6] my1 ⟨i1 + 1, x5, a6, c6, by omega, gx2, rfl, H11⟩
  ·have gx2 := M.for_end gx2 hb1
   subst gx2
   refine Run_exit (k' := _) rfl ?_
   exact Zf [0, 4, 5] ⟨a2, c2, rfl, H3⟩

theorem w_spec_l06Arcs (h : Heap) (a_ : List (List Int)) (aa_ : Option Addr) (ca_ : Nat) (ra_ : Rd cd24 h (Lt h) aa_ ca_ a_) (n : Nat) (r : (List (List Int))) (hF : spec_l06Arcs a_ n = some r) :
  Fn Tryz.prog 44 #[.slice aa_ a_.length ca_] h fun v h' => ∃ (a0 : Option Addr) (c0 : Nat), v = .slice a0 r.length c0 ∧ Hold h h' [own cd24 a0 r.length c0 r] := by
 unfold spec_l06Arcs at hF
 refine Zo [.slice aa_ a_.length ca_] Tryz.func44 rfl (fun w0 _ => ?_)
 have H0 := Hold.init h
 refine Zs ?_
 refine Zq [.slice none 0 0] [0] [(0, .slice aa_ a_.length ca_)] ?_
 refine Zs ?_
 refine Run_ops ?_
 refine Zr [.slice aa_ a_.length ca_] 0 ?_
 obtain ⟨x1, hx1, hF⟩ := M.bind_some hF
 refine Ze ?_
 refine ZC 54 #[.slice aa_ a_.length ca_] (w_spec_l04Best h a_ aa_ ca_ ra_ _ _ hx1) (fun v1 h1 hp1 => ?_)
 obtain ⟨a1, c1, rfl, H1⟩ := hp1
 have H2 : Hold h h1 [own cd2 a1 x1.1.length c1 x1.1] := H0.call H1 rfl
 refine Zr [.tuple #[.slice a1 x1.1.length c1, .bool x1.2], .slice a1 x1.1.length c1, .bool x1.2, .slice a1 x1.1.length c1, .bool x1.2] 2 ?_
 refine Zx ?_
 refine Zk [0, 3] [(0, .slice aa_ a_.length ca_), (3, .slice a1 x1.1.length c1)] ?_
 refine Zs ?_
 refine Run_ops ?_
 refine Zr [.slice aa_ a_.length ca_, .slice a1 x1.1.length c1] 0 ?_
 obtain ⟨x2, hx2, hF⟩ := M.bind_some hF
 refine Ze ?_
 refine ZC 55 #[.slice aa_ a_.length ca_, .slice a1 x1.1.length c1] (w_spec_l04Mean h1 a_ aa_ ca_ (ra_.at H2.ext) x1.1 a1 c1 (H2.rd 0 rfl) _ _ hx2) (fun v2 h2 hp2 => ?_)
 obtain ⟨rfl, H3⟩ := hp2
 have H4 : Hold h h2 [own cd2 a1 x1.1.length c1 x1.1] := H2.call H3 rfl
 refine Zr [.tuple #[.agg #[iV x2.1.Num, iV x2.1.Den], .bool x2.2], .agg #[iV x2.1.Num, iV x2.1.Den], .bool x2.2] 3 ?_
 refine Ze ?_
 refine E_box (ty := 44) (cs := [iV 0, iV 0]) H4 (fun w => by kernel_rfl) (fun b1 h3 H5 => ?_)
 refine Ze ?_
 refine ZP 44 0 [iV x2.1.Num, iV x2.1.Den] (.agg #[iV x2.1.Num, iV x2.1.Den]) H5 (fun h4 H6 => ?_)
 refine Zr [.bool x2.2] 8 ?_
 refine Zx ?_
 refine Zk [0, 5] [(0, .slice aa_ a_.length ca_), (5, pV b1)] ?_
 refine Zs ?_
 refine Run_ops ?_
 refine Zr [.slice aa_ a_.length ca_] 0 ?_
 refine Zz (.agg #[iV x2.1.Num, iV x2.1.Den]) (Y_loadA (t := 44) (n := 2) (p := ⟨b1, 0, none⟩) (cs := [iV x2.1.Num, iV x2.1.Den]) (by kernel_rfl) (fun w => by kernel_rfl) (by kernel_rfl) rfl (H6.cells (n := 2) (off := 0) 0 rfl rfl)) ?_
 obtain ⟨x3, hx3, hF⟩ := M.bind_some hF
 refine Ze ?_
 refine ZC 59 #[.slice aa_ a_.length ca_, .agg #[iV x2.1.Num, iV x2.1.Den]] (w_spec_l04Shift h4 a_ aa_ ca_ (ra_.at H6.ext) x2.1 _ _ hx3) (fun v3 h5 hp3 => ?_)
 obtain ⟨a2, c2, rfl, H7⟩ := hp3
 have H8 : Hold h h5 [own cd24 a2 x3.length c2 x3, box b1 44 [iV x2.1.Num, iV x2.1.Den], own cd2 a1 x1.1.length c1 x1.1] := H6.call H7 rfl
 refine Zr [.slice a2 x3.length c2] 3 ?_
 refine Zx ?_
 refine Zk [0, 7] [(0, .slice aa_ a_.length ca_), (7, .slice a2 x3.length c2)] ?_
 refine Zs ?_
 refine Run_ops ?_
 refine Zr [.slice a2 x3.length c2] 0 ?_
 obtain ⟨x4, hx4, hF⟩ := M.bind_some hF
 refine Ze ?_
 refine ZC 58 #[.slice a2 x3.length c2] (w_spec_l03Star h5 x3 a2 c2 (H8.rd 0 rfl) _ _ hx4) (fun v4 h6 hp4 => ?_)
 obtain ⟨a3, c3, rfl, H9⟩ := hp4
 have H10 : Hold h h6 [own cd24 a3 x4.1.length c3 x4.1, own cd24 a2 x3.length c2 x3, box b1 44 [iV x2.1.Num, iV x2.1.Den], own cd2 a1 x1.1.length c1 x1.1] := H8.call H9 rfl
 refine Zr [.tuple #[.slice a3 x4.1.length c3, .bool x4.2], .slice a3 x4.1.length c3, .bool x4.2, .slice a3 x4.1.length c3, .bool x4.2] 2 ?_
 refine Zx ?_
 refine Zk [0, 7, 8] [(0, .slice aa_ a_.length ca_), (7, .slice a2 x3.length c2), (8, .slice a3 x4.1.length c3)] ?_
 refine Zs ?_
 refine Run_ops ?_
 refine Ze ?_
 refine E_lit (C := cd24) (n := 0) (l := []) (cs := []) H10 (fun w => by kernel_rfl) (Enc.nil _ _) rfl (by decide) (fun a4 h7 H11 => ?_)
 refine Zr [.slice a4 0 0] 1 ?_
 refine Zx ?_
 refine Zk [0, 7, 8, 10] [(0, .slice aa_ a_.length ca_), (7, .slice a2 x3.length c2), (8, .slice a3 x4.1.length c3), (10, .slice a4 0 0)] ?_
 refine Zs ?_
 refine Zs ?_
 refine Zq [iV 0] [0, 7, 8, 10, 11] [(0, .slice aa_ a_.length ca_), (7, .slice a2 x3.length c2), (8, .slice a3 x4.1.length c3), (10, .slice a4 0 0), (11, iV 0)] ?_
 obtain ⟨x5, gx5, hF⟩ := M.bind_some hF
 obtain ⟨hloy1, hhiy1, gx5⟩ := M.for_start gx5
 refine Run_join (fun L' h' => ∃ (a6 : Option Addr) (c5 : Nat), L' = [(10, .slice a6 x5.length c5)] ∧ Hold h h' [own cd24 a6 x5.length c5 x5]) ?_ ?_
 ·rintro _ h9 ⟨a6, c5, rfl, H13⟩
  refine Zs ?_
  refine Zq [.slice a6 x5.length c5, .slice a6 x5.length c5] [2] [(2, .slice a6 x5.length c5)] ?_
  have hF := M.ret_some hF
  subst hF
  exact Run_ret1 rfl (Zt (.slice a6 x5.length c5)) ⟨a6, c5, rfl, H13⟩
 ·refine Run_block ?_
  have hn1 := (H11.len 0 rfl)
  have H50 : Hold h h7 [own cd24 a4 (([] : List (List Int)).length) 0 ([] : List (List Int)), own cd24 a3 x4.1.length c3 x4.1, own cd24 a2 x3.length c2 x3, box b1 44 [iV x2.1.Num, iV x2.1.Den], own cd2 a1 x1.1.length c1 x1.1] := by rw [hn1]; exact H11
  have H51 : Hold h h7 [own cd24 a2 x3.length c2 x3, own cd24 a3 x4.1.length c3 x4.1, own cd24 a4 (([] : List (List Int)).length) 0 ([] : List (List Int))] := H50.pk [2, 1, 0]
  refine Run_keep [0, 7, 8, 10, 11] (L' := [(0, .slice aa_ a_.length ca_), (7, .slice a2 x3.length c2), (8, .slice a3 x4.1.length c3), (10, .slice a4 (([] : List (List Int)).length) 0), (11, iV 0)]) (by first | (rw [hn1]; kernel_rfl) | (simp only [hn1]; kernel_rfl) | kernel_rfl) ?_
  refine Run_loop (fun m L' h' => ∃ (i1 : Int) (s1 : (List (List Int))) (a5 : Option Addr) (c4 : Nat), 0 ≤ i1 ∧ M.forN (a_.length : Int) _ _ n m i1 s1 = some x5 ∧ L' = [(0, .slice aa_ a_.length ca_), (7, .slice a2 x3.length c2), (8, .slice a3 x4.1.length c3), (10, .slice a5 s1.length c4), (11, iV i1)] ∧ Hold h h' [own cd24 a2 x3.length c2 x3, own cd24 a3 x4.1.length c3 x4.1, own cd24 a5 s1.length c4 s1]) ((a_.length : Int) - 0 : Int).toNat ⟨0, ([] : List (List Int)), a4, 0, Int.le_refl _, gx5, rfl, H51⟩ ?_
  rintro my1 _ h8 ⟨i1, s1, a5, c4, hloy1', gx5, rfl, H12⟩
  refine Zs ?_
  refine Zs ?_
  refine Zq [iV i1, .slice aa_ a_.length ca_, iV (a_.length : Int), .bool (decide (i1 < (a_.length : Int)))] [0, 7, 8, 10, 11, 36] [(0, .slice aa_ a_.length ca_), (7, .slice a2 x3.length c2), (8, .slice a3 x4.1.length c3), (10, .slice a5 s1.length c4), (11, iV i1), (36, .bool (decide (i1 < (a_.length : Int))))] ?_
  refine Zc (decide (i1 < (a_.length : Int))) (fun hb1 => ?_) (fun hb1 => ?_)
  ·obtain ⟨my1, y1, rfl, hB1, hgoy1, houty1⟩ := M.for_go gx5 hb1
   have hlty1 := of_decide_eq_true hb1
   refine Run_skip ?_
   refine Zs ?_
   refine Run_block ?_
   refine Zs ?_
   refine Zq [iV 0] [0, 7, 8, 10, 11, 12] [(0, .slice aa_ a_.length ca_), (7, .slice a2 x3.length c2), (8, .slice a3 x4.1.length c3), (10, .slice a5 s1.length c4), (11, iV i1), (12, iV 0)] ?_
   obtain ⟨x6, gx6, hB1⟩ := M.bind_some hB1
   obtain ⟨hloy2, hhiy2, gx6⟩ := M.for_start gx6
   refine Run_join (fun L' h' => ∃ (a8 : Option Addr) (c7 : Nat), L' = [(0, .slice aa_ a_.length ca_), (7, .slice a2 x3.length c2), (8, .slice a3 x4.1.length c3), (10, .slice a8 x6.length c7), (11, iV i1)] ∧ Hold h h' [own cd24 a2 x3.length c2 x3, own cd24 a3 x4.1.length c3 x4.1, own cd24 a8 x6.length c7 x6]) ?_ ?_
   ·rintro _ h11 ⟨a8, c7, rfl, H15⟩
    refine Run_blk ?_
    refine Zg 3 [(0, .slice aa_ a_.length ca_), (7, .slice a2 x3.length c2), (8, .slice a3 x4.1.length c3), (10, .slice a8 x6.length c7), (11, iV (i1 + 1))] ?_ ?_
    ·refine Zb [iV i1] 0 ?_
     refine Zy (iV (i1 + 1)) (Y_eq (v := iV (w64 (i1 + 1))) (Y_pure (fun w => by kernel_rfl)) (by rw [w64_eq _ (by omega)])) ?_
     refine Zb [iV (i1 + 1)] 2 ?_
     exact Zd [0, 7, 8, 10, 11]
    have H44 : Hold h h11 [own cd24 a8 x6.length c7 x6, own cd24 a2 x3.length c2 x3, own cd24 a3 x4.1.length c3 x4.1] := H15.pk [2, 0, 1]
    have H45 : Hold h h11 [own cd24 a2 x3.length c2 x3, own cd24 a3 x4.1.length c3 x4.1, own cd24 a8 x6.length c7 x6] := H44.pk [1, 2, 0]
    have hB1 := M.ret_some hB1
    have gx5 := hgoy1 _ hB1.symm
    exact Za [0, 7, 8, 10, 11] my1 ⟨i1 + 1, x6, a8, c7, by omega, gx5, rfl, H45⟩
   ·refine Run_block ?_
    have H46 : Hold h h8 [own cd24 a5 s1.length c4 s1, own cd24 a2 x3.length c2 x3, own cd24 a3 x4.1.length c3 x4.1] := H12.pk [2, 0, 1]
    have H47 : Hold h h8 [own cd24 a2 x3.length c2 x3, own cd24 a3 x4.1.length c3 x4.1, own cd24 a5 s1.length c4 s1] := H46.pk [1, 2, 0]
    refine Zk [0, 7, 8, 10, 11, 12] [(0, .slice aa_ a_.length ca_), (7, .slice a2 x3.length c2), (8, .slice a3 x4.1.length c3), (10, .slice a5 s1.length c4), (11, iV i1), (12, iV 0)] ?_
    refine Run_loop (fun m L' h' => ∃ (i2 : Int) (s2 : (List (List Int))) (a7 : Option Addr) (c6 : Nat), 0 ≤ i2 ∧ M.forN (a_.length : Int) _ _ n m i2 s2 = some x6 ∧ L' = [(0, .slice aa_ a_.length ca_), (7, .slice a2 x3.length c2), (8, .slice a3 x4.1.length c3), (10, .slice a7 s2.length c6), (11, iV i1), (12, iV i2)] ∧ Hold h h' [own cd24 a2 x3.length c2 x3, own cd24 a3 x4.1.length c3 x4.1, own cd24 a7 s2.length c6 s2]) ((a_.length : Int) - 0 : Int).toNat ⟨0, s1, a5, c4, Int.le_refl _, gx6, rfl, H47⟩ ?_
    rintro my2 _ h10 ⟨i2, s2, a7, c6, hloy2', gx6, rfl, H14⟩
    refine Zs ?_
    refine Zs ?_
    refine Zq [iV i2, .slice aa_ a_.length ca_, iV (a_.length : Int), .bool (decide (i2 < (a_.length : Int)))] [0, 7, 8, 10, 11, 12, 42] [(0, .slice aa_ a_.length ca_), (7, .slice a2 x3.length c2), (8, .slice a3 x4.1.length c3), (10, .slice a7 s2.length c6), (11, iV i1), (12, iV i2), (42, .bool (decide (i2 < (a_.length : Int))))] ?_
    refine Zc (decide (i2 < (a_.length : Int))) (fun hb2 => ?_) (fun hb2 => ?_)
    ·obtain ⟨my2, y2, rfl, hB2, hgoy2, houty2⟩ := M.for_go gx6 hb2
     have hlty2 := of_decide_eq_true hb2
     refine Run_skip ?_
     refine Zs ?_
     refine Run_block ?_
     refine Zs ?_
     obtain ⟨x7, hx5, hB2⟩ := M.bind_some hB2
     obtain ⟨hx5l, hx5u, hx5⟩ := M.idx_some hx5
     have H16 := H14.toRows
     obtain ⟨a9, c8, H17⟩ := H16.pinRow hx5
     obtain ⟨x8, hx6, hB2⟩ := M.bind_some hB2
     obtain ⟨hx6l, hx6u, hx6⟩ := M.idx_some hx6
     obtain ⟨x9, hx7, hB2⟩ := M.bind_some hB2
     obtain ⟨hx7l, hx7u, hx7⟩ := M.idx_some hx7
     have H18 : Hold h h10 [own cd24 a3 x4.1.length c3 x4.1, rowsP cd2 24 a2 x3.length c2 x3 [(i2.toNat, a9, x7.length, c8, x7)], own cd24 a7 s2.length c6 s2] := H17.pk [1, 0, 2]
     have H19 := H18.toRows
     obtain ⟨a10, c9, H20⟩ := H19.pinRow hx7
     have H21 : Hold h h10 [rowsP cd2 24 a2 x3.length c2 x3 [(i2.toNat, a9, x7.length, c8, x7)], rowsP cd2 24 a3 x4.1.length c3 x4.1 [(i1.toNat, a10, x9.length, c9, x9)], own cd24 a7 s2.length c6 s2] := H20.pk [1, 0, 2]
     obtain ⟨x10, hx8, hB2⟩ := M.bind_some hB2
     obtain ⟨hx8l, hx8u, hx8⟩ := M.idx_some hx8
     obtain ⟨x11, hx9, hB2⟩ := M.bind_some hB2
     refine Run_draw 16 mixed (by kernel_rfl) (by kernel_rfl) (L' := [(0, .slice aa_ a_.length ca_), (7, .slice a2 x3.length c2), (8, .slice a3 x4.1.length c3), (10, .slice a7 s2.length c6), (11, iV i1), (12, iV i2), (60, .bool (x11 == 0))]) ?_ ?_
     ·refine Zb [.slice a2 x3.length c2, iV i2] 0 ?_
      refine Zy (.pointer (some (adr a2 (i2.toNat * 1)))) (Zi 22 24 1 (a2) (x3.length) (c2) .i64 (i2) Tryz.underlying22 ((H14.rd 0 rfl).cell hx5).1 hx5l hx5u) ?_
      refine Zy (.slice a9 x7.length c8) (Zl 24 (adr a2 (i2.toNat * 1)) (.slice a9 x7.length c8) (H17.cellPin 0 rfl 0 rfl)) ?_
      refine Zb [iV i1] 4 ?_
      refine Zy (.pointer (some (adr a9 (i1.toNat * 1)))) (Zi 24 2 1 (a9) (x7.length) (c8) .i64 (i1) Tryz.underlying24 ((H17.rdPin 0 rfl 0 rfl).cell hx6).1 hx6l hx6u) ?_
      refine Zy (iV x8) (Zl 2 (adr a9 (i1.toNat * 1)) (iV x8) (cd2_cell (H17.rdPin 0 rfl 0 rfl) hx6)) ?_
      refine Zb [.slice a3 x4.1.length c3, iV i1] 7 ?_
      refine Zy (.pointer (some (adr a3 (i1.toNat * 1)))) (Zi 22 24 1 (a3) (x4.1.length) (c3) .i64 (i1) Tryz.underlying22 ((H17.rd 1 rfl).cell hx7).1 hx7l hx7u) ?_
      refine Zy (.slice a10 x9.length c9) (Zl 24 (adr a3 (i1.toNat * 1)) (.slice a10 x9.length c9) (H21.cellPin 1 rfl 0 rfl)) ?_
      refine Zb [iV i2] 11 ?_
      refine Zy (.pointer (some (adr a10 (i2.toNat * 1)))) (Zi 24 2 1 (a10) (x9.length) (c9) .i64 (i2) Tryz.underlying24 ((H21.rdPin 1 rfl 0 rfl).cell hx8).1 hx8l hx8u) ?_
      refine Zy (iV x10) (Zl 2 (adr a10 (i2.toNat * 1)) (iV x10) (cd2_cell (H21.rdPin 1 rfl 0 rfl) hx8)) ?_
      refine Zy (iV x11) (ZQ 80 #[iV x8, iV x10] (w_spec_l01Times h10 x8 x10 _ _ hx9)) ?_
      refine Zb [.bool (x11 == 0)] 15 ?_
      exact Zd [0, 7, 8, 10, 11, 12, 60]
     obtain ⟨s3, gs3, hB2⟩ := M.bind_some hB2
     refine Run_join (fun L' h' => ∃ (a14 : Option Addr), ∃ (c11 : Nat), L' = [(0, .slice aa_ a_.length ca_), (7, .slice a2 x3.length c2), (8, .slice a3 x4.1.length c3), (10, .slice a14 s3.length c11), (11, iV i1), (12, iV i2)] ∧ Hold h h' [own cd24 a2 x3.length c2 x3, own cd24 a3 x4.1.length c3 x4.1, own cd24 a14 s3.length c11 s3]) ?_ ?_
     ·rintro _ h15 ⟨a14, c11, rfl, H28⟩
      refine Run_blk ?_
      refine Zg 3 [(0, .slice aa_ a_.length ca_), (7, .slice a2 x3.length c2), (8, .slice a3 x4.1.length c3), (10, .slice a14 s3.length c11), (11, iV i1), (12, iV (i2 + 1))] ?_ ?_
      ·refine Zb [iV i2] 0 ?_
       refine Zy (iV (i2 + 1)) (Y_eq (v := iV (w64 (i2 + 1))) (Y_pure (fun w => by kernel_rfl)) (by rw [w64_eq _ (by omega)])) ?_
       refine Zb [iV (i2 + 1)] 2 ?_
       exact Zd [0, 7, 8, 10, 11, 12]
      have H40 : Hold h h15 [own cd24 a14 s3.length c11 s3, own cd24 a2 x3.length c2 x3, own cd24 a3 x4.1.length c3 x4.1] := H28.pk [2, 0, 1]
      have H41 : Hold h h15 [own cd24 a2 x3.length c2 x3, own cd24 a3 x4.1.length c3 x4.1, own cd24 a14 s3.length c11 s3] := H40.pk [1, 2, 0]
      have hB2 := M.ret_some hB2
      have gx6 := hgoy2 _ hB2.symm
      exact Za [0, 7, 8, 10, 11, 12] my2 ⟨i2 + 1, s3, a14, c11, by omega, gx6, rfl, H41⟩
     ·refine Zc (x11 == 0) (fun hb3 => ?_) (fun hb3 => ?_)
      ·have gs3 := (M.ite_some gs3).1 hb3
       refine Run_ops ?_
       refine Zr [.slice a7 s2.length c6, iV i1, iV i2] 0 ?_
       refine Ze ?_
       refine E_lit (C := cd2) (n := 2) (l := ([i1, i2] : List Int)) (cs := [iV i1, iV i2]) H21 (fun w => by kernel_rfl) (Enc.consE (cd2_own i1 _) (Enc.consE (cd2_own i2 _) (Enc.nil _ _) rfl) rfl) rfl (by decide) (fun a11 h12 H22 => ?_)
       refine Ze ?_
       refine E_lit1 (ey := 24) (n := 2) H22 (fun w => by kernel_rfl) rfl (fun a12 h13 H23 => ?_)
       obtain ⟨l1, hl1, gs3⟩ := M.bind_some gs3
       have hl1 := M.app_some hl1
       have H24 : Hold h h13 [own cd24 a7 s2.length c6 s2, own cd24 a12 1 1 [([i1, i2] : List Int)], rowsP cd2 24 a2 x3.length c2 x3 [(i2.toNat, a9, x7.length, c8, x7)], rowsP cd2 24 a3 x4.1.length c3 x4.1 [(i1.toNat, a10, x9.length, c9, x9)]] := H23.pk [3, 0, 1, 2]
       have H25 : Hold h h13 [own cd24 a12 1 1 [([i1, i2] : List Int)], own cd24 a7 s2.length c6 s2, rowsP cd2 24 a2 x3.length c2 x3 [(i2.toNat, a9, x7.length, c8, x7)], rowsP cd2 24 a3 x4.1.length c3 x4.1 [(i1.toNat, a10, x9.length, c9, x9)]] := H24.pk [1, 0, 2, 3]
       have H26 : Hold h h13 [own cd24 a7 s2.length c6 s2, own cd24 a12 1 1 [([i1, i2] : List Int)], rowsP cd2 24 a2 x3.length c2 x3 [(i2.toNat, a9, x7.length, c8, x7)], rowsP cd2 24 a3 x4.1.length c3 x4.1 [(i1.toNat, a10, x9.length, c9, x9)]] := H25.pk [1, 0, 2, 3]
       refine Ze ?_
       refine E_app (C := cd24) (t := 22) (ty := 22) (n := s2.length) (m := 1) H26 cd24_ti rfl Tryz.underlying22 (by decide) (by kernel_rfl) hl1 (fun a13 c10 h14 H27 => ?_)
       refine Zr [.slice a13 l1.length c10] 6 ?_
       refine Zx ?_
       refine Zk [0, 7, 8, 10, 11, 12] [(0, .slice aa_ a_.length ca_), (7, .slice a2 x3.length c2), (8, .slice a3 x4.1.length c3), (10, .slice a13 l1.length c10), (11, iV i1), (12, iV i2)] ?_
       have H29 : Hold h h14 [rowsP cd2 24 a2 x3.length c2 x3 [(i2.toNat, a9, x7.length, c8, x7)], own cd24 a13 l1.length c10 l1, rowsP cd2 24 a3 x4.1.length c3 x4.1 [(i1.toNat, a10, x9.length, c9, x9)]] := H27.pk [1, 0, 2]
       have H30 := H29.ofRows
       have H31 : Hold h h14 [rowsP cd2 24 a3 x4.1.length c3 x4.1 [(i1.toNat, a10, x9.length, c9, x9)], own cd24 a2 x3.length c2 x3, own cd24 a13 l1.length c10 l1] := H30.pk [2, 0, 1]
       have H32 := H31.ofRows
       have H33 : Hold h h14 [own cd24 a13 l1.length c10 l1, own cd24 a3 x4.1.length c3 x4.1, own cd24 a2 x3.length c2 x3] := H32.pk [2, 0, 1]
       have H34 : Hold h h14 [own cd24 a2 x3.length c2 x3, own cd24 a3 x4.1.length c3 x4.1, own cd24 a13 l1.length c10 l1] := H33.pk [2, 1, 0]
       have gs3 := M.ret_some gs3
       subst gs3
       exact Zf [0, 7, 8, 10, 11, 12] ⟨a13, c10, rfl, H34⟩
      ·have gs3 := (M.ite_some gs3).2 hb3
       refine Run_skip ?_
       have H35 := H21.ofRows
       have H36 : Hold h h10 [rowsP cd2 24 a3 x4.1.length c3 x4.1 [(i1.toNat, a10, x9.length, c9, x9)], own cd24 a2 x3.length c2 x3, own cd24 a7 s2.length c6 s2] := H35.pk [1, 0, 2]
       have H37 := H36.ofRows
       have H38 : Hold h h10 [own cd24 a7 s2.length c6 s2, own cd24 a3 x4.1.length c3 x4.1, own cd24 a2 x3.length c2 x3] := H37.pk [2, 0, 1]
       have H39 : Hold h h10 [own cd24 a2 x3.length c2 x3, own cd24 a3 x4.1.length c3 x4.1, own cd24 a7 s2.length c6 s2] := H38.pk [2, 1, 0]
       have gs3 := M.ret_some gs3
       subst gs3
       exact Zf [0, 7, 8, 10, 11, 12] ⟨a7, c6, rfl, H39⟩
    ·have gx6 := M.for_end gx6 hb2
     subst gx6
     refine Run_exit (k' := _) rfl ?_
     have H42 : Hold h h10 [own cd24 a7 s2.length c6 s2, own cd24 a2 x3.length c2 x3, own cd24 a3 x4.1.length c3 x4.1] := H14.pk [2, 0, 1]
     have H43 : Hold h h10 [own cd24 a2 x3.length c2 x3, own cd24 a3 x4.1.length c3 x4.1, own cd24 a7 s2.length c6 s2] := H42.pk [1, 2, 0]
     exact Zf [0, 7, 8, 10, 11] ⟨a7, c6, rfl, H43⟩
  ·have gx5 := M.for_end gx5 hb1
   subst gx5
   refine Run_exit (k' := _) rfl ?_
   have H48 : Hold h h8 [own cd24 a5 s1.length c4 s1, own cd24 a2 x3.length c2 x3, own cd24 a3 x4.1.length c3 x4.1] := H12.pk [2, 0, 1]
   have H49 : Hold h h8 [own cd24 a5 s1.length c4 s1] := H48.pk [0]
   exact Zf [10] ⟨a5, c4, rfl, H49⟩

theorem w_spec_CriticalArcs (h : Heap) (a_ : List (List Int)) (aa_ : Option Addr) (ca_ : Nat) (ra_ : Rd cd24 h (Lt h) aa_ ca_ a_) (n : Nat) (r : (List (List Int)) × Int) (hF : spec_CriticalArcs a_ n = some r) :
  Fn Tryz.prog 18 #[.slice aa_ a_.length ca_] h fun v h' => ∃ (a0 : Option Addr) (c0 : Nat), v = .tuple #[.slice a0 r.1.length c0, iV r.2] ∧ Hold h h' [own cd24 a0 r.1.length c0 r.1] := by
 unfold spec_CriticalArcs at hF
 refine Zo [.slice aa_ a_.length ca_] Tryz.func18 rfl (fun w0 _ => ?_)
 have H0 := Hold.init h
 refine Zs ?_
 refine Zq [.slice none 0 0, iV 0] [0] [(0, .slice aa_ a_.length ca_)] ?_
 refine Zs ?_
 obtain ⟨x1, hx1, hF⟩ := M.bind_some hF
 refine Run_regC (j := 3) (C := fun x => Hold h x []) (by kernel_rfl) H0 (L' := [(0, .slice aa_ a_.length ca_), (4, iV x1)]) ?_ (fun h1 H1 => ?_)
 ·refine Zb [.slice aa_ a_.length ca_] 0 ?_
  refine Zy (iV x1) (Y_call (f := 35) (args := #[.slice aa_ a_.length ca_]) (v := iV x1) (by kernel_rfl) fun hx Hx => (w_spec_l06Code hx a_ aa_ ca_ (ra_.at Hx.ext) _ _ hx1).mono fun _ _ ⟨e, H'⟩ => ⟨e, Hx.call H' rfl⟩) ?_
  refine Zb [iV x1] 2 ?_
  exact Zd [0, 4]
 have H2 : Hold h h1 [] := H1
 refine Zs ?_
 refine Zs ?_
 refine Zq [iV x1, .bool (x1 != 0)] [0, 4, 8] [(0, .slice aa_ a_.length ca_), (4, iV x1), (8, .bool (x1 != 0))] ?_
 refine Zc (x1 != 0) (fun hb1 => ?_) (fun hb1 => ?_)
 ·have hF := (M.ite_some hF).1 hb1
  refine Zs ?_
  refine Zq [iV x1, .slice none 0 0, iV x1] [2, 3] [(2, .slice none 0 0), (3, iV x1)] ?_
  have hF := M.ret_some hF
  subst hF
  have H3 := H2.empty cd24
  exact Run_ret2 rfl (Zt (.slice none 0 0)) (Zt (iV x1)) ⟨none, 0, rfl, H3⟩
 ·have hF := (M.ite_some hF).2 hb1
  refine Run_skip ?_
  refine Zs ?_
  refine Run_ops ?_
  refine Zr [.slice aa_ a_.length ca_] 0 ?_
  obtain ⟨x2, hx2, hF⟩ := M.bind_some hF
  refine Ze ?_
  refine ZC 44 #[.slice aa_ a_.length ca_] (w_spec_l06Arcs h1 a_ aa_ ca_ (ra_.at H2.ext) _ _ hx2) (fun v1 h2 hp1 => ?_)
  obtain ⟨a1, c1, rfl, H4⟩ := hp1
  have H5 : Hold h h2 [own cd24 a1 x2.length c1 x2] := H2.call H4 rfl
  refine Zr [.slice a1 x2.length c1, iV 0] 2 ?_
  refine Zx ?_
  refine Zk [2, 3] [(2, .slice a1 x2.length c1), (3, iV 0)] ?_
  have hF := M.ret_some hF
  subst hF
  exact Run_ret2 rfl (Zt (.slice a1 x2.length c1)) (Zt (iV 0)) ⟨a1, c1, rfl, H5⟩

theorem w_impl_reaching (h : Heap) (a_ : List (List Int)) (aa_ : Option Addr) (ca_ : Nat) (ra_ : Rd cd24 h (Lt h) aa_ ca_ a_) (n : Nat) (r : (List (List Bool))) (hF : impl_reaching a_ n = some r) :
  Fn Tryz.prog 114 #[.slice aa_ a_.length ca_] h fun v h' => ∃ (a0 : Option Addr) (c0 : Nat), v = .slice a0 r.length c0 ∧ Hold h h' [own cd101 a0 r.length c0 r] := by
 unfold impl_reaching at hF
 refine Zo [.slice aa_ a_.length ca_] Tryz.func114 rfl (fun w0 _ => ?_)
 have H0 := Hold.init h
 refine Zs ?_
 refine Zq [.slice none 0 0] [0] [(0, .slice aa_ a_.length ca_)] ?_
 refine Zs ?_
 refine Zq [.slice aa_ a_.length ca_, iV (a_.length : Int), iV (a_.length : Int)] [0, 3] [(0, .slice aa_ a_.length ca_), (3, iV (a_.length : Int))] ?_
 refine Zs ?_
 refine Run_ops ?_
 refine Zr [iV (a_.length : Int)] 0 ?_
 obtain ⟨l1, hl1, hF⟩ := M.bind_some hF
 have hl1 := M.make_some hl1
 refine Ze ?_
 refine E_make cd101 [] (kl := .i64) (kc := .i64) H0 cd101_ti Tryz.underlying99 (by decide) cd101_zero (by kernel_rfl) hl1 (fun a1 h1 H1 => ?_)
 refine Zr [.slice a1 l1.length l1.length] 2 ?_
 refine Zx ?_
 refine Zk [0, 3, 4] [(0, .slice aa_ a_.length ca_), (3, iV (a_.length : Int)), (4, .slice a1 l1.length l1.length)] ?_
 refine Zs ?_
 refine Zs ?_
 refine Zq [.slice a1 l1.length l1.length, iV (l1.length : Int), iV 0] [0, 3, 4, 15, 16] [(0, .slice aa_ a_.length ca_), (3, iV (a_.length : Int)), (4, .slice a1 l1.length l1.length), (15, iV (l1.length : Int)), (16, iV 0)] ?_
 obtain ⟨x1, gx1, hF⟩ := M.bind_some hF
 obtain ⟨hloy1, hhiy1, gx1⟩ := M.for_start gx1
 refine Run_join (fun L' h' => L' = [(3, iV (a_.length : Int)), (4, .slice a1 l1.length l1.length)] ∧ Hold h h' [own cd101 a1 l1.length l1.length x1]) ?_ ?_
 ·rintro _ h3 ⟨rfl, H3⟩
  refine Zs ?_
  refine Zs ?_
  refine Zq [iV (a_.length : Int), iV 0] [3, 4, 49, 50] [(3, iV (a_.length : Int)), (4, .slice a1 l1.length l1.length), (49, iV (a_.length : Int)), (50, iV 0)] ?_
  obtain ⟨x9, gx9, hF⟩ := M.bind_some hF
  obtain ⟨hloy3, hhiy3, gx9⟩ := M.for_start gx9
  refine Run_join (fun L' h' => L' = [(4, .slice a1 l1.length l1.length)] ∧ Hold h h' [own cd101 a1 l1.length l1.length x9]) ?_ ?_
  ·rintro _ h14 ⟨rfl, H23⟩
   refine Zs ?_
   refine Zq [.slice a1 l1.length l1.length, .slice a1 l1.length l1.length] [2] [(2, .slice a1 l1.length l1.length)] ?_
   have hF := M.ret_some hF
   subst hF
   have H45 := H23.norm
   exact Run_ret1 rfl (Zt (.slice a1 l1.length l1.length)) ⟨a1, l1.length, (by simp only [(H23.len 0 rfl)]), H45⟩
  ·refine Run_block ?_
   refine Zk [3, 4, 49, 50] [(3, iV (a_.length : Int)), (4, .slice a1 l1.length l1.length), (49, iV (a_.length : Int)), (50, iV 0)] ?_
   refine Run_loop (fun m L' h' => ∃ (i3 : Int) (s4 : (List (List Bool))), 0 ≤ i3 ∧ M.forN (a_.length : Int) _ _ n m i3 s4 = some x9 ∧ L' = [(3, iV (a_.length : Int)), (4, .slice a1 l1.length l1.length), (49, iV (a_.length : Int)), (50, iV i3)] ∧ Hold h h' [own cd101 a1 l1.length l1.length s4]) ((a_.length : Int) - 0 : Int).toNat ⟨0, x1, Int.le_refl _, gx9, rfl, H3⟩ ?_
   rintro my3 _ h13 ⟨i3, s4, hloy3', gx9, rfl, H22⟩
   refine Zs ?_
   refine Zq [.bool (decide (i3 < (a_.length : Int)))] [3, 4, 49, 50, 51] [(3, iV (a_.length : Int)), (4, .slice a1 l1.length l1.length), (49, iV (a_.length : Int)), (50, iV i3), (51, .bool (decide (i3 < (a_.length : Int))))] ?_
   refine Zs ?_
   refine Zc (decide (i3 < (a_.length : Int))) (fun hb4 => ?_) (fun hb4 => ?_)
   ·obtain ⟨my3, y3, rfl, hB3, hgoy3, houty3⟩ := M.for_go gx9 hb4
    have hlty3 := of_decide_eq_true hb4
    refine Run_skip ?_
    refine Zs ?_
    refine Run_block ?_
    refine Zs ?_
    refine Zq [iV i3, iV i3] [3, 4, 7, 49, 50] [(3, iV (a_.length : Int)), (4, .slice a1 l1.length l1.length), (7, iV i3), (49, iV (a_.length : Int)), (50, iV i3)] ?_
    refine Zs ?_
    refine Zq [iV (a_.length : Int), iV 0] [3, 4, 7, 49, 50, 53, 54] [(3, iV (a_.length : Int)), (4, .slice a1 l1.length l1.length), (7, iV i3), (49, iV (a_.length : Int)), (50, iV i3), (53, iV (a_.length : Int)), (54, iV 0)] ?_
    obtain ⟨x10, gx10, hB3⟩ := M.bind_some hB3
    obtain ⟨hloy4, hhiy4, gx10⟩ := M.for_start gx10
    refine Run_join (fun L' h' => L' = [(3, iV (a_.length : Int)), (4, .slice a1 l1.length l1.length), (49, iV (a_.length : Int)), (50, iV i3)] ∧ Hold h h' [own cd101 a1 l1.length l1.length x10]) ?_ ?_
    ·rintro _ h16 ⟨rfl, H25⟩
     refine Run_blk ?_
     refine Zg 2 [(3, iV (a_.length : Int)), (4, .slice a1 l1.length l1.length), (49, iV (a_.length : Int)), (50, iV (i3 + 1))] ?_ ?_
     ·refine Zy (iV (i3 + 1)) (Y_eq (v := iV (w64 (i3 + 1))) (Y_pure (fun w => by kernel_rfl)) (by rw [w64_eq _ (by omega)])) ?_
      refine Zb [iV (i3 + 1)] 1 ?_
      exact Zd [3, 4, 49, 50]
     have hB3 := M.ret_some hB3
     have gx9 := hgoy3 _ hB3.symm
     exact Za [3, 4, 49, 50] my3 ⟨i3 + 1, x10, by omega, gx9, rfl, H25⟩
    ·refine Run_block ?_
     refine Zk [3, 4, 7, 49, 50, 53, 54] [(3, iV (a_.length : Int)), (4, .slice a1 l1.length l1.length), (7, iV i3), (49, iV (a_.length : Int)), (50, iV i3), (53, iV (a_.length : Int)), (54, iV 0)] ?_
     refine Run_loop (fun m L' h' => ∃ (i4 : Int) (s5 : (List (List Bool))), 0 ≤ i4 ∧ M.forN (a_.length : Int) _ _ n m i4 s5 = some x10 ∧ L' = [(3, iV (a_.length : Int)), (4, .slice a1 l1.length l1.length), (7, iV i3), (49, iV (a_.length : Int)), (50, iV i3), (53, iV (a_.length : Int)), (54, iV i4)] ∧ Hold h h' [own cd101 a1 l1.length l1.length s5]) ((a_.length : Int) - 0 : Int).toNat ⟨0, s4, Int.le_refl _, gx10, rfl, H22⟩ ?_
     rintro my4 _ h15 ⟨i4, s5, hloy4', gx10, rfl, H24⟩
     refine Zs ?_
     refine Zq [.bool (decide (i4 < (a_.length : Int)))] [3, 4, 7, 49, 50, 53, 54, 55] [(3, iV (a_.length : Int)), (4, .slice a1 l1.length l1.length), (7, iV i3), (49, iV (a_.length : Int)), (50, iV i3), (53, iV (a_.length : Int)), (54, iV i4), (55, .bool (decide (i4 < (a_.length : Int))))] ?_
     refine Zs ?_
     refine Zc (decide (i4 < (a_.length : Int))) (fun hb5 => ?_) (fun hb5 => ?_)
     ·obtain ⟨my4, y4, rfl, hB4, hgoy4, houty4⟩ := M.for_go gx10 hb5
      have hlty4 := of_decide_eq_true hb5
      refine Run_skip ?_
      refine Zs ?_
      refine Run_block ?_
      refine Zs ?_
      refine Zq [iV i4, iV i4] [3, 4, 7, 8, 49, 50, 53, 54] [(3, iV (a_.length : Int)), (4, .slice a1 l1.length l1.length), (7, iV i3), (8, iV i4), (49, iV (a_.length : Int)), (50, iV i3), (53, iV (a_.length : Int)), (54, iV i4)] ?_
      refine Zs ?_
      refine Zq [iV (a_.length : Int), iV 0] [3, 4, 7, 8, 49, 50, 53, 54, 57, 58] [(3, iV (a_.length : Int)), (4, .slice a1 l1.length l1.length), (7, iV i3), (8, iV i4), (49, iV (a_.length : Int)), (50, iV i3), (53, iV (a_.length : Int)), (54, iV i4), (57, iV (a_.length : Int)), (58, iV 0)] ?_
      obtain ⟨x11, gx11, hB4⟩ := M.bind_some hB4
      obtain ⟨hloy5, hhiy5, gx11⟩ := M.for_start gx11
      refine Run_join (fun L' h' => L' = [(3, iV (a_.length : Int)), (4, .slice a1 l1.length l1.length), (7, iV i3), (49, iV (a_.length : Int)), (50, iV i3), (53, iV (a_.length : Int)), (54, iV i4)] ∧ Hold h h' [own cd101 a1 l1.length l1.length x11]) ?_ ?_
      ·rintro _ h18 ⟨rfl, H27⟩
       refine Run_blk ?_
       refine Zg 2 [(3, iV (a_.length : Int)), (4, .slice a1 l1.length l1.length), (7, iV i3), (49, iV (a_.length : Int)), (50, iV i3), (53, iV (a_.length : Int)), (54, iV (i4 + 1))] ?_ ?_
       ·refine Zy (iV (i4 + 1)) (Y_eq (v := iV (w64 (i4 + 1))) (Y_pure (fun w => by kernel_rfl)) (by rw [w64_eq _ (by omega)])) ?_
        refine Zb [iV (i4 + 1)] 1 ?_
        exact Zd [3, 4, 7, 49, 50, 53, 54]
       have hB4 := M.ret_some hB4
       have gx10 := hgoy4 _ hB4.symm
       exact Za [3, 4, 7, 49, 50, 53, 54] my4 ⟨i4 + 1, x11, by omega, gx10, rfl, H27⟩
      ·refine Run_block ?_
       refine Zk [3, 4, 7, 8, 49, 50, 53, 54, 57, 58] [(3, iV (a_.length : Int)), (4, .slice a1 l1.length l1.length), (7, iV i3), (8, iV i4), (49, iV (a_.length : Int)), (50, iV i3), (53, iV (a_.length : Int)), (54, iV i4), (57, iV (a_.length : Int)), (58, iV 0)] ?_
       refine Run_loop (fun m L' h' => ∃ (i5 : Int) (s6 : (List (List Bool))), 0 ≤ i5 ∧ M.forN (a_.length : Int) _ _ n m i5 s6 = some x11 ∧ L' = [(3, iV (a_.length : Int)), (4, .slice a1 l1.length l1.length), (7, iV i3), (8, iV i4), (49, iV (a_.length : Int)), (50, iV i3), (53, iV (a_.length : Int)), (54, iV i4), (57, iV (a_.length : Int)), (58, iV i5)] ∧ Hold h h' [own cd101 a1 l1.length l1.length s6]) ((a_.length : Int) - 0 : Int).toNat ⟨0, s5, Int.le_refl _, gx11, rfl, H24⟩ ?_
       rintro my5 _ h17 ⟨i5, s6, hloy5', gx11, rfl, H26⟩
       refine Zs ?_
       refine Zq [.bool (decide (i5 < (a_.length : Int)))] [3, 4, 7, 8, 49, 50, 53, 54, 57, 58, 59] [(3, iV (a_.length : Int)), (4, .slice a1 l1.length l1.length), (7, iV i3), (8, iV i4), (49, iV (a_.length : Int)), (50, iV i3), (53, iV (a_.length : Int)), (54, iV i4), (57, iV (a_.length : Int)), (58, iV i5), (59, .bool (decide (i5 < (a_.length : Int))))] ?_
       refine Zs ?_
       refine Zc (decide (i5 < (a_.length : Int))) (fun hb6 => ?_) (fun hb6 => ?_)
       ·obtain ⟨my5, y5, rfl, hB5, hgoy5, houty5⟩ := M.for_go gx11 hb6
        have hlty5 := of_decide_eq_true hb6
        refine Run_skip ?_
        refine Zs ?_
        refine Run_block ?_
        refine Zs ?_
        refine Zq [iV i5, iV i5] [3, 4, 7, 8, 9, 49, 50, 53, 54, 57, 58] [(3, iV (a_.length : Int)), (4, .slice a1 l1.length l1.length), (7, iV i3), (8, iV i4), (9, iV i5), (49, iV (a_.length : Int)), (50, iV i3), (53, iV (a_.length : Int)), (54, iV i4), (57, iV (a_.length : Int)), (58, iV i5)] ?_
        obtain ⟨s7, gs7, hB5⟩ := M.bind_some hB5
        refine Run_join (fun L' h' => L' = [(3, iV (a_.length : Int)), (4, .slice a1 l1.length l1.length), (7, iV i3), (8, iV i4), (49, iV (a_.length : Int)), (50, iV i3), (53, iV (a_.length : Int)), (54, iV i4), (57, iV (a_.length : Int)), (58, iV i5)] ∧ Hold h h' [own cd101 a1 l1.length l1.length s7]) ?_ ?_
        ·rintro _ h25 ⟨rfl, H41⟩
         refine Run_blk ?_
         refine Zg 2 [(3, iV (a_.length : Int)), (4, .slice a1 l1.length l1.length), (7, iV i3), (8, iV i4), (49, iV (a_.length : Int)), (50, iV i3), (53, iV (a_.length : Int)), (54, iV i4), (57, iV (a_.length : Int)), (58, iV (i5 + 1))] ?_ ?_
         ·refine Zy (iV (i5 + 1)) (Y_eq (v := iV (w64 (i5 + 1))) (Y_pure (fun w => by kernel_rfl)) (by rw [w64_eq _ (by omega)])) ?_
          refine Zb [iV (i5 + 1)] 1 ?_
          exact Zd [3, 4, 7, 8, 49, 50, 53, 54, 57, 58]
         have hB5 := M.ret_some hB5
         have gx11 := hgoy5 _ hB5.symm
         exact Za [3, 4, 7, 8, 49, 50, 53, 54, 57, 58] my5 ⟨i5 + 1, s7, by omega, gx11, rfl, H41⟩
        ·obtain ⟨x12, hx7, gs7⟩ := M.bind_some gs7
         obtain ⟨hx7l, hx7u, hx7⟩ := M.idx_some hx7
         have H28 := H26.toRows
         obtain ⟨a5, c3, H29⟩ := H28.pinRow hx7
         obtain ⟨x13, hx8, gs7⟩ := M.bind_some gs7
         obtain ⟨hx8l, hx8u, hx8⟩ := M.idx_some hx8
         obtain ⟨a6, c4, H30⟩ := H29.pinRow hx8
         obtain ⟨x14, hx9, gs7⟩ := M.bind_some gs7
         obtain ⟨hx9l, hx9u, hx9⟩ := M.idx_some hx9
         obtain ⟨a7, c5, H31⟩ := H30.pinRow hx9
         obtain ⟨x15, hx10, gs7⟩ := M.bind_some gs7
         obtain ⟨hx10l, hx10u, hx10⟩ := M.idx_some hx10
         refine Run_D (fun x => Hold h x [rowsP cd4 101 a1 l1.length l1.length s6 [(i4.toNat, a7, x14.length, c5, x14), (i4.toNat, a6, x13.length, c4, x13), (i3.toNat, a5, x12.length, c3, x12)]]) (fun x => Hold h x [rowsP cd4 101 a1 l1.length l1.length s6 [(i4.toNat, a7, x14.length, c5, x14), (i4.toNat, a6, x13.length, c4, x13), (i3.toNat, a5, x12.length, c3, x12)]]) mixed (by kernel_rfl) H31 Hold.stable (fun x Hy => (show Hold h x [rowsP cd4 101 a1 l1.length l1.length s6 [(i4.toNat, a7, x14.length, c5, x14), (i4.toNat, a6, x13.length, c4, x13), (i3.toNat, a5, x12.length, c3, x12)]] from Hy).pk [0]) ?_
         refine ZB 30 [.slice a1 l1.length l1.length, iV i4] 0 ?_
         refine ZY 29 2 (.pointer (some (adr a1 (i4.toNat * 1)))) (fun hx Hx => (YE.of (Zi 99 101 1 (a1) (l1.length) (l1.length) .i64 (i4) Tryz.underlying99 ((H29.rdRows 0 rfl).cell hx8).1 hx8l (by rw [← (H29.lenRows 0 rfl)]; exact hx8u)))) ?_
         refine ZY 28 3 (.slice a6 x13.length c4) (fun hx Hx => (YE.of (Zl 101 (adr a1 (i4.toNat * 1)) (.slice a6 x13.length c4) (Hx.cellPin 0 rfl 1 rfl)))) ?_
         refine ZB 25 [iV i5, .slice a1 l1.length l1.length, iV i4] 4 ?_
         refine ZY 24 7 (.pointer (some (adr a1 (i4.toNat * 1)))) (fun hx Hx => (YE.of (Zi 99 101 1 (a1) (l1.length) (l1.length) .i64 (i4) Tryz.underlying99 ((H30.rdRows 0 rfl).cell hx9).1 hx9l (by rw [← (H30.lenRows 0 rfl)]; exact hx9u)))) ?_
         refine ZY 23 8 (.slice a7 x14.length c5) (fun hx Hx => (YE.of (Zl 101 (adr a1 (i4.toNat * 1)) (.slice a7 x14.length c5) (Hx.cellPin 0 rfl 0 rfl)))) ?_
         refine ZB 22 [iV i5] 9 ?_
         refine ZY 21 10 (.pointer (some (adr a7 (i5.toNat * 1)))) (fun hx Hx => (YE.of (Zi 101 4 1 (a7) (x14.length) (c5) .i64 (i5) Tryz.underlying101 ((H31.rdPin 0 rfl 0 rfl).cell hx10).1 hx10l hx10u))) ?_
         refine ZY 20 11 (.bool x15) (fun hx Hx => (YE.of (Zl 4 (adr a7 (i5.toNat * 1)) (.bool x15) (cd4_cell (Hx.rdPin 0 rfl 0 rfl) hx10)))) ?_
         rcases Bool.eq_false_or_eq_true x15 with hb7 | hb7
         ·have gs7 := (M.ite_some gs7).1 hb7
          refine ZL 19 12 x15 true hb7 ?_
          obtain ⟨x16, hx11, gs7⟩ := M.bind_some gs7
          obtain ⟨hx11l, hx11u, hx11⟩ := M.idx_some hx11
          refine ZN 18 13 ?_
          refine ZN 17 14 ?_
          refine ZN 16 15 ?_
          refine ZN 15 16 ?_
          refine ZN 14 17 ?_
          refine ZN 13 18 ?_
          refine ZN 12 19 ?_
          refine ZN 11 20 ?_
          refine ZN 10 21 ?_
          refine ZN 9 22 ?_
          refine ZN 8 23 ?_
          refine ZN 7 24 ?_
          refine ZN 6 25 ?_
          refine ZN 5 26 ?_
          refine ZN 4 27 ?_
          refine ZN 3 28 ?_
          refine ZB 2 [.bool true] 29 ?_
          refine ZY 1 30 (.pointer (some (adr a6 (i5.toNat * 1)))) (fun hx Hx => (YE.of (Zi 101 4 1 (a6) (x13.length) (c4) .i64 (i5) Tryz.underlying101 ((H31.rdPin 0 rfl 1 rfl).cell hx11).1 hx11l hx11u))) ?_
          refine ZT 31 (fun h19 H32 => ?_)
          have H33 : Hold h h19 [rowsP cd4 101 a1 l1.length l1.length s6 [(i4.toNat, a7, x14.length, c5, x14), (i4.toNat, a6, x13.length, c4, x13), (i3.toNat, a5, x12.length, c3, x12)]] := H32
          obtain ⟨l6, hu4, gs7⟩ := M.bind_some gs7
          have hu4 := M.upd_some hu4
          refine Ze ?_
          refine E_put2 (C := cd4) (t := 4) (sz := 1) (j := i5) (x := true) (v := .bool true) (m2 := s6.set i4.toNat l6) H33 cd4_flat 1 rfl (by kernel_rfl) rfl (cd4_own _) (by kernel_rfl) hu4 rfl (fun h20 H34 => ?_)
          refine Zx ?_
          refine Zk [3, 4, 7, 8, 49, 50, 53, 54, 57, 58] [(3, iV (a_.length : Int)), (4, .slice a1 l1.length l1.length), (7, iV i3), (8, iV i4), (49, iV (a_.length : Int)), (50, iV i3), (53, iV (a_.length : Int)), (54, iV i4), (57, iV (a_.length : Int)), (58, iV i5)] ?_
          have H42 := H34.ofRows
          have gs7 := M.ret_some gs7
          subst gs7
          exact Zf [3, 4, 7, 8, 49, 50, 53, 54, 57, 58] ⟨rfl, H42⟩
         ·have gs7 := (M.ite_some gs7).2 hb7
          refine ZL 19 12 x15 false hb7 ?_
          obtain ⟨x17, hx12, gs7⟩ := M.bind_some gs7
          obtain ⟨hx12l, hx12u, hx12⟩ := M.idx_some hx12
          refine ZB 17 [.slice a1 l1.length l1.length, iV i4] 13 ?_
          refine ZY 16 15 (.pointer (some (adr a1 (i4.toNat * 1)))) (fun hx Hx => (YE.of (Zi 99 101 1 (a1) (l1.length) (l1.length) .i64 (i4) Tryz.underlying99 ((H31.rdRows 0 rfl).cell hx9).1 hx9l (by rw [← (H31.lenRows 0 rfl)]; exact hx9u)))) ?_
          refine ZY 15 16 (.slice a7 x14.length c5) (fun hx Hx => (YE.of (Zl 101 (adr a1 (i4.toNat * 1)) (.slice a7 x14.length c5) (Hx.cellPin 0 rfl 0 rfl)))) ?_
          refine ZB 14 [iV i3] 17 ?_
          refine ZY 13 18 (.pointer (some (adr a7 (i3.toNat * 1)))) (fun hx Hx => (YE.of (Zi 101 4 1 (a7) (x14.length) (c5) .i64 (i3) Tryz.underlying101 ((H31.rdPin 0 rfl 0 rfl).cell hx12).1 hx12l hx12u))) ?_
          refine ZY 12 19 (.bool x17) (fun hx Hx => (YE.of (Zl 4 (adr a7 (i3.toNat * 1)) (.bool x17) (cd4_cell (Hx.rdPin 0 rfl 0 rfl) hx12)))) ?_
          rcases Bool.eq_false_or_eq_true x17 with hb8 | hb8
          ·have gs7 := (M.ite_some gs7).1 hb8
           refine ZL 11 20 x17 true hb8 ?_
           obtain ⟨x18, hx13, gs7⟩ := M.bind_some gs7
           obtain ⟨hx13l, hx13u, hx13⟩ := M.idx_some hx13
           obtain ⟨x19, hx14, gs7⟩ := M.bind_some gs7
           obtain ⟨hx14l, hx14u, hx14⟩ := M.idx_some hx14
           refine ZB 9 [.slice a1 l1.length l1.length, iV i3] 21 ?_
           refine ZY 8 23 (.pointer (some (adr a1 (i3.toNat * 1)))) (fun hx Hx => (YE.of (Zi 99 101 1 (a1) (l1.length) (l1.length) .i64 (i3) Tryz.underlying99 ((H31.rdRows 0 rfl).cell hx7).1 hx7l (by rw [← (H31.lenRows 0 rfl)]; exact hx7u)))) ?_
           refine ZY 7 24 (.slice a5 x12.length c3) (fun hx Hx => (YE.of (Zl 101 (adr a1 (i3.toNat * 1)) (.slice a5 x12.length c3) (Hx.cellPin 0 rfl 2 rfl)))) ?_
           refine ZB 6 [iV i5] 25 ?_
           refine ZY 5 26 (.pointer (some (adr a5 (i5.toNat * 1)))) (fun hx Hx => (YE.of (Zi 101 4 1 (a5) (x12.length) (c3) .i64 (i5) Tryz.underlying101 ((H31.rdPin 0 rfl 2 rfl).cell hx13).1 hx13l hx13u))) ?_
           refine ZY 4 27 (.bool x18) (fun hx Hx => (YE.of (Zl 4 (adr a5 (i5.toNat * 1)) (.bool x18) (cd4_cell (Hx.rdPin 0 rfl 2 rfl) hx13)))) ?_
           refine ZB 2 [.bool x18, .bool x18] 28 ?_
           refine ZY 1 30 (.pointer (some (adr a6 (i5.toNat * 1)))) (fun hx Hx => (YE.of (Zi 101 4 1 (a6) (x13.length) (c4) .i64 (i5) Tryz.underlying101 ((H31.rdPin 0 rfl 1 rfl).cell hx14).1 hx14l hx14u))) ?_
           refine ZT 31 (fun h21 H35 => ?_)
           have H36 : Hold h h21 [rowsP cd4 101 a1 l1.length l1.length s6 [(i4.toNat, a7, x14.length, c5, x14), (i4.toNat, a6, x13.length, c4, x13), (i3.toNat, a5, x12.length, c3, x12)]] := H35
           obtain ⟨l7, hu5, gs7⟩ := M.bind_some gs7
           have hu5 := M.upd_some hu5
           refine Ze ?_
           refine E_put2 (C := cd4) (t := 4) (sz := 1) (j := i5) (x := x18) (v := .bool x18) (m2 := s6.set i4.toNat l7) H36 cd4_flat 1 rfl (by kernel_rfl) rfl (cd4_own _) (by kernel_rfl) hu5 rfl (fun h22 H37 => ?_)
           refine Zx ?_
           refine Zk [3, 4, 7, 8, 49, 50, 53, 54, 57, 58] [(3, iV (a_.length : Int)), (4, .slice a1 l1.length l1.length), (7, iV i3), (8, iV i4), (49, iV (a_.length : Int)), (50, iV i3), (53, iV (a_.length : Int)), (54, iV i4), (57, iV (a_.length : Int)), (58, iV i5)] ?_
           have H43 := H37.ofRows
           have gs7 := M.ret_some gs7
           subst gs7
           exact Zf [3, 4, 7, 8, 49, 50, 53, 54, 57, 58] ⟨rfl, H43⟩
          ·have gs7 := (M.ite_some gs7).2 hb8
           refine ZL 11 20 x17 false hb8 ?_
           obtain ⟨x20, hx15, gs7⟩ := M.bind_some gs7
           obtain ⟨hx15l, hx15u, hx15⟩ := M.idx_some hx15
           refine ZN 10 21 ?_
           refine ZN 9 22 ?_
           refine ZN 8 23 ?_
           refine ZN 7 24 ?_
           refine ZN 6 25 ?_
           refine ZN 5 26 ?_
           refine ZN 4 27 ?_
           refine ZB 2 [.bool false, .bool false] 28 ?_
           refine ZY 1 30 (.pointer (some (adr a6 (i5.toNat * 1)))) (fun hx Hx => (YE.of (Zi 101 4 1 (a6) (x13.length) (c4) .i64 (i5) Tryz.underlying101 ((H31.rdPin 0 rfl 1 rfl).cell hx15).1 hx15l hx15u))) ?_
           refine ZT 31 (fun h23 H38 => ?_)
           have H39 : Hold h h23 [rowsP cd4 101 a1 l1.length l1.length s6 [(i4.toNat, a7, x14.length, c5, x14), (i4.toNat, a6, x13.length, c4, x13), (i3.toNat, a5, x12.length, c3, x12)]] := H38
           obtain ⟨l8, hu6, gs7⟩ := M.bind_some gs7
           have hu6 := M.upd_some hu6
           refine Ze ?_
           refine E_put2 (C := cd4) (t := 4) (sz := 1) (j := i5) (x := false) (v := .bool false) (m2 := s6.set i4.toNat l8) H39 cd4_flat 1 rfl (by kernel_rfl) rfl (cd4_own _) (by kernel_rfl) hu6 rfl (fun h24 H40 => ?_)
           refine Zx ?_
           refine Zk [3, 4, 7, 8, 49, 50, 53, 54, 57, 58] [(3, iV (a_.length : Int)), (4, .slice a1 l1.length l1.length), (7, iV i3), (8, iV i4), (49, iV (a_.length : Int)), (50, iV i3), (53, iV (a_.length : Int)), (54, iV i4), (57, iV (a_.length : Int)), (58, iV i5)] ?_
           have H44 := H40.ofRows
           have gs7 := M.ret_some gs7
           subst gs7
           exact Zf [3, 4, 7, 8, 49, 50, 53, 54, 57, 58] ⟨rfl, H44⟩
       ·have gx11 := M.for_end gx11 hb6
        subst gx11
        refine Run_exit (k' := _) rfl ?_
        exact Zf [3, 4, 7, 49, 50, 53, 54] ⟨rfl, H26⟩
     ·have gx10 := M.for_end gx10 hb5
      subst gx10
      refine Run_exit (k' := _) rfl ?_
      exact Zf [3, 4, 49, 50] ⟨rfl, H24⟩
   ·have gx9 := M.for_end gx9 hb4
    subst gx9
    refine Run_exit (k' := _) rfl ?_
    exact Zf [4] ⟨rfl, H22⟩
 ·refine Run_block ?_
  refine Zk [0, 3, 4, 15, 16] [(0, .slice aa_ a_.length ca_), (3, iV (a_.length : Int)), (4, .slice a1 l1.length l1.length), (15, iV (l1.length : Int)), (16, iV 0)] ?_
  refine Run_loop (fun m L' h' => ∃ (i1 : Int) (s1 : (List (List Bool))), 0 ≤ i1 ∧ M.forN (l1.length : Int) _ _ n m i1 s1 = some x1 ∧ L' = [(0, .slice aa_ a_.length ca_), (3, iV (a_.length : Int)), (4, .slice a1 l1.length l1.length), (15, iV (l1.length : Int)), (16, iV i1)] ∧ Hold h h' [own cd101 a1 l1.length l1.length s1]) ((l1.length : Int) - 0 : Int).toNat ⟨0, l1, Int.le_refl _, gx1, rfl, H1⟩ ?_
  rintro my1 _ h2 ⟨i1, s1, hloy1', gx1, rfl, H2⟩
  refine Zs ?_
  refine Zq [.bool (decide (i1 < (l1.length : Int)))] [0, 3, 4, 15, 16, 17] [(0, .slice aa_ a_.length ca_), (3, iV (a_.length : Int)), (4, .slice a1 l1.length l1.length), (15, iV (l1.length : Int)), (16, iV i1), (17, .bool (decide (i1 < (l1.length : Int))))] ?_
  refine Zs ?_
  refine Zc (decide (i1 < (l1.length : Int))) (fun hb1 => ?_) (fun hb1 => ?_)
  ·obtain ⟨my1, y1, rfl, hB1, hgoy1, houty1⟩ := M.for_go gx1 hb1
   have hlty1 := of_decide_eq_true hb1
   refine Run_skip ?_
   refine Zs ?_
   refine Run_block ?_
   refine Zs ?_
   refine Zq [iV i1, iV i1] [0, 3, 4, 5, 15, 16] [(0, .slice aa_ a_.length ca_), (3, iV (a_.length : Int)), (4, .slice a1 l1.length l1.length), (5, iV i1), (15, iV (l1.length : Int)), (16, iV i1)] ?_
   refine Zs ?_
   refine Run_ops ?_
   refine Zr [.slice a1 l1.length l1.length, iV i1, iV (a_.length : Int)] 0 ?_
   obtain ⟨l2, hl2, hB1⟩ := M.bind_some hB1
   have hl2 := M.make_some hl2
   refine Ze ?_
   refine E_make cd4 false (kl := .i64) (kc := .i64) H2 cd4_ti Tryz.underlying101 (by decide) cd4_zero (by kernel_rfl) hl2 (fun a2 h4 H4 => ?_)
   obtain ⟨x2, hx1, hB1⟩ := M.bind_some hB1
   obtain ⟨hx1l, hx1u, hx1⟩ := M.idx_some hx1
   refine Zz (.pointer (some (adr a1 (i1.toNat * 1)))) (Zi 99 101 1 (a1) (l1.length) (l1.length) .i64 (i1) Tryz.underlying99 ((H4.rd 1 rfl).cell hx1).1 hx1l (by rw [← (H4.len 1 rfl)]; exact hx1u)) ?_
   obtain ⟨l3, hu1, hB1⟩ := M.bind_some hB1
   have hu1 := M.upd_some hu1
   have H6 : Hold h h4 [own cd101 a1 l1.length l1.length s1, own cd4 a2 l2.length l2.length l2] := H4.pk [1, 0]
   have H7 : Hold h h4 [own cd4 a2 l2.length l2.length l2, own cd101 a1 l1.length l1.length s1] := H6.pk [1, 0]
   have H8 : Hold h h4 [own cd101 a1 l1.length l1.length s1, own cd4 a2 l2.length l2.length l2] := H7.pk [1, 0]
   refine Ze ?_
   refine E_putRow (t := 101) (j := i1) H8 (by kernel_rfl) (by kernel_rfl) hu1 (fun h5 H5 => ?_)
   refine Zx ?_
   refine Zk [0, 3, 4, 5, 15, 16] [(0, .slice aa_ a_.length ca_), (3, iV (a_.length : Int)), (4, .slice a1 l1.length l1.length), (5, iV i1), (15, iV (l1.length : Int)), (16, iV i1)] ?_
   refine Zs ?_
   refine Zq [iV (a_.length : Int), iV 0] [0, 3, 4, 5, 15, 16, 24, 25] [(0, .slice aa_ a_.length ca_), (3, iV (a_.length : Int)), (4, .slice a1 l1.length l1.length), (5, iV i1), (15, iV (l1.length : Int)), (16, iV i1), (24, iV (a_.length : Int)), (25, iV 0)] ?_
   obtain ⟨x3, gx3, hB1⟩ := M.bind_some hB1
   obtain ⟨hloy2, hhiy2, gx3⟩ := M.for_start gx3
   refine Run_join (fun L' h' => L' = [(0, .slice aa_ a_.length ca_), (3, iV (a_.length : Int)), (4, .slice a1 l1.length l1.length), (15, iV (l1.length : Int)), (16, iV i1)] ∧ Hold h h' [own cd101 a1 l1.length l1.length x3]) ?_ ?_
   ·rintro _ h7 ⟨rfl, H10⟩
    refine Run_blk ?_
    refine Zg 2 [(0, .slice aa_ a_.length ca_), (3, iV (a_.length : Int)), (4, .slice a1 l1.length l1.length), (15, iV (l1.length : Int)), (16, iV (i1 + 1))] ?_ ?_
    ·refine Zy (iV (i1 + 1)) (Y_eq (v := iV (w64 (i1 + 1))) (Y_pure (fun w => by kernel_rfl)) (by rw [w64_eq _ (by omega)])) ?_
     refine Zb [iV (i1 + 1)] 1 ?_
     exact Zd [0, 3, 4, 15, 16]
    have hB1 := M.ret_some hB1
    have gx1 := hgoy1 _ hB1.symm
    exact Za [0, 3, 4, 15, 16] my1 ⟨i1 + 1, x3, by omega, gx1, rfl, H10⟩
   ·refine Run_block ?_
    refine Zk [0, 3, 4, 5, 15, 16, 24, 25] [(0, .slice aa_ a_.length ca_), (3, iV (a_.length : Int)), (4, .slice a1 l1.length l1.length), (5, iV i1), (15, iV (l1.length : Int)), (16, iV i1), (24, iV (a_.length : Int)), (25, iV 0)] ?_
    refine Run_loop (fun m L' h' => ∃ (i2 : Int) (s2 : (List (List Bool))), 0 ≤ i2 ∧ M.forN (a_.length : Int) _ _ n m i2 s2 = some x3 ∧ L' = [(0, .slice aa_ a_.length ca_), (3, iV (a_.length : Int)), (4, .slice a1 l1.length l1.length), (5, iV i1), (15, iV (l1.length : Int)), (16, iV i1), (24, iV (a_.length : Int)), (25, iV i2)] ∧ Hold h h' [own cd101 a1 l1.length l1.length s2]) ((a_.length : Int) - 0 : Int).toNat ⟨0, l3, Int.le_refl _, gx3, rfl, H5⟩ ?_
    rintro my2 _ h6 ⟨i2, s2, hloy2', gx3, rfl, H9⟩
    refine Zs ?_
    refine Zq [.bool (decide (i2 < (a_.length : Int)))] [0, 3, 4, 5, 15, 16, 24, 25, 26] [(0, .slice aa_ a_.length ca_), (3, iV (a_.length : Int)), (4, .slice a1 l1.length l1.length), (5, iV i1), (15, iV (l1.length : Int)), (16, iV i1), (24, iV (a_.length : Int)), (25, iV i2), (26, .bool (decide (i2 < (a_.length : Int))))] ?_
    refine Zs ?_
    refine Zc (decide (i2 < (a_.length : Int))) (fun hb2 => ?_) (fun hb2 => ?_)
    ·obtain ⟨my2, y2, rfl, hB2, hgoy2, houty2⟩ := M.for_go gx3 hb2
     have hlty2 := of_decide_eq_true hb2
     refine Run_skip ?_
     refine Zs ?_
     refine Run_block ?_
     refine Zs ?_
     refine Zq [iV i2, iV i2] [0, 3, 4, 5, 6, 15, 16, 24, 25] [(0, .slice aa_ a_.length ca_), (3, iV (a_.length : Int)), (4, .slice a1 l1.length l1.length), (5, iV i1), (6, iV i2), (15, iV (l1.length : Int)), (16, iV i1), (24, iV (a_.length : Int)), (25, iV i2)] ?_
     obtain ⟨s3, gs3, hB2⟩ := M.bind_some hB2
     refine Run_join (fun L' h' => L' = [(0, .slice aa_ a_.length ca_), (3, iV (a_.length : Int)), (4, .slice a1 l1.length l1.length), (5, iV i1), (15, iV (l1.length : Int)), (16, iV i1), (24, iV (a_.length : Int)), (25, iV i2)] ∧ Hold h h' [own cd101 a1 l1.length l1.length s3]) ?_ ?_
     ·rintro _ h12 ⟨rfl, H19⟩
      refine Run_blk ?_
      refine Zg 2 [(0, .slice aa_ a_.length ca_), (3, iV (a_.length : Int)), (4, .slice a1 l1.length l1.length), (5, iV i1), (15, iV (l1.length : Int)), (16, iV i1), (24, iV (a_.length : Int)), (25, iV (i2 + 1))] ?_ ?_
      ·refine Zy (iV (i2 + 1)) (Y_eq (v := iV (w64 (i2 + 1))) (Y_pure (fun w => by kernel_rfl)) (by rw [w64_eq _ (by omega)])) ?_
       refine Zb [iV (i2 + 1)] 1 ?_
       exact Zd [0, 3, 4, 5, 15, 16, 24, 25]
      have hB2 := M.ret_some hB2
      have gx3 := hgoy2 _ hB2.symm
      exact Za [0, 3, 4, 5, 15, 16, 24, 25] my2 ⟨i2 + 1, s3, by omega, gx3, rfl, H19⟩
     ·obtain ⟨x4, hx2, gs3⟩ := M.bind_some gs3
      obtain ⟨hx2l, hx2u, hx2⟩ := M.idx_some hx2
      have H11 := H9.toRows
      obtain ⟨a3, c1, H12⟩ := H11.pinRow hx2
      refine Run_D (fun x => Hold h x [rowsP cd4 101 a1 l1.length l1.length s2 [(i1.toNat, a3, x4.length, c1, x4)]]) (fun x => Hold h x [rowsP cd4 101 a1 l1.length l1.length s2 [(i1.toNat, a3, x4.length, c1, x4)]]) mixed (by kernel_rfl) H12 Hold.stable (fun x Hy => (show Hold h x [rowsP cd4 101 a1 l1.length l1.length s2 [(i1.toNat, a3, x4.length, c1, x4)]] from Hy).pk [0]) ?_
      refine ZB 18 [.slice a1 l1.length l1.length, iV i1] 0 ?_
      refine ZY 17 2 (.pointer (some (adr a1 (i1.toNat * 1)))) (fun hx Hx => (YE.of (Zi 99 101 1 (a1) (l1.length) (l1.length) .i64 (i1) Tryz.underlying99 ((H9.rd 0 rfl).cell hx2).1 hx2l (by rw [← (H9.len 0 rfl)]; exact hx2u)))) ?_
      refine ZY 16 3 (.slice a3 x4.length c1) (fun hx Hx => (YE.of (Zl 101 (adr a1 (i1.toNat * 1)) (.slice a3 x4.length c1) (Hx.cellPin 0 rfl 0 rfl)))) ?_
      refine ZB 12 [iV i2, iV i1, iV i2, .bool (i1 == i2)] 4 ?_
      rcases Bool.eq_false_or_eq_true (i1 == i2) with hb3 | hb3
      ·have gs3 := (M.ite_some gs3).1 hb3
       refine ZL 11 8 (i1 == i2) true hb3 ?_
       obtain ⟨x5, hx3, gs3⟩ := M.bind_some gs3
       obtain ⟨hx3l, hx3u, hx3⟩ := M.idx_some hx3
       refine ZN 10 9 ?_
       refine ZN 9 10 ?_
       refine ZN 8 11 ?_
       refine ZN 7 12 ?_
       refine ZN 6 13 ?_
       refine ZN 5 14 ?_
       refine ZN 4 15 ?_
       refine ZN 3 16 ?_
       refine ZB 2 [.bool true] 17 ?_
       refine ZY 1 18 (.pointer (some (adr a3 (i2.toNat * 1)))) (fun hx Hx => (YE.of (Zi 101 4 1 (a3) (x4.length) (c1) .i64 (i2) Tryz.underlying101 ((H12.rdPin 0 rfl 0 rfl).cell hx3).1 hx3l hx3u))) ?_
       refine ZT 19 (fun h8 H13 => ?_)
       have H14 : Hold h h8 [rowsP cd4 101 a1 l1.length l1.length s2 [(i1.toNat, a3, x4.length, c1, x4)]] := H13
       obtain ⟨l4, hu2, gs3⟩ := M.bind_some gs3
       have hu2 := M.upd_some hu2
       refine Ze ?_
       refine E_put2 (C := cd4) (t := 4) (sz := 1) (j := i2) (x := true) (v := .bool true) (m2 := s2.set i1.toNat l4) H14 cd4_flat 0 rfl (by kernel_rfl) rfl (cd4_own _) (by kernel_rfl) hu2 rfl (fun h9 H15 => ?_)
       refine Zx ?_
       refine Zk [0, 3, 4, 5, 15, 16, 24, 25] [(0, .slice aa_ a_.length ca_), (3, iV (a_.length : Int)), (4, .slice a1 l1.length l1.length), (5, iV i1), (15, iV (l1.length : Int)), (16, iV i1), (24, iV (a_.length : Int)), (25, iV i2)] ?_
       have H20 := H15.ofRows
       have gs3 := M.ret_some gs3
       subst gs3
       exact Zf [0, 3, 4, 5, 15, 16, 24, 25] ⟨rfl, H20⟩
      ·have gs3 := (M.ite_some gs3).2 hb3
       refine ZL 11 8 (i1 == i2) false hb3 ?_
       obtain ⟨x6, hx4, gs3⟩ := M.bind_some gs3
       obtain ⟨hx4l, hx4u, hx4⟩ := M.idx_some hx4
       obtain ⟨a4, c2, hc1, r1⟩ := ra_.row hx4
       obtain ⟨x7, hx5, gs3⟩ := M.bind_some gs3
       obtain ⟨hx5l, hx5u, hx5⟩ := M.idx_some hx5
       obtain ⟨x8, hx6, gs3⟩ := M.bind_some gs3
       obtain ⟨hx6l, hx6u, hx6⟩ := M.idx_some hx6
       refine ZB 9 [.slice aa_ a_.length ca_, iV i2] 9 ?_
       refine ZY 8 11 (.pointer (some (adr aa_ (i2.toNat * 1)))) (fun hx Hx => (YE.of (Zi 22 24 1 (aa_) (a_.length) (ca_) .i64 (i2) Tryz.underlying22 ((ra_.at H12.ext).cell hx4).1 hx4l hx4u))) ?_
       refine ZY 7 12 (.slice a4 x6.length c2) (fun hx Hx => (YE.of (Zl 24 (adr aa_ (i2.toNat * 1)) (.slice a4 x6.length c2) (cell_at Hx.ext hc1)))) ?_
       refine ZB 6 [iV i1] 13 ?_
       refine ZY 5 14 (.pointer (some (adr a4 (i1.toNat * 1)))) (fun hx Hx => (YE.of (Zi 24 2 1 (a4) (x6.length) (c2) .i64 (i1) Tryz.underlying24 ((r1.at H12.ext).cell hx5).1 hx5l hx5u))) ?_
       refine ZY 4 15 (iV x7) (fun hx Hx => (YE.of (Zl 2 (adr a4 (i1.toNat * 1)) (iV x7) (cd2_cell (r1.at Hx.ext) hx5)))) ?_
       refine ZB 2 [.bool (x7 != (-1000000000000000)), .bool (x7 != (-1000000000000000))] 16 ?_
       refine ZY 1 18 (.pointer (some (adr a3 (i2.toNat * 1)))) (fun hx Hx => (YE.of (Zi 101 4 1 (a3) (x4.length) (c1) .i64 (i2) Tryz.underlying101 ((H12.rdPin 0 rfl 0 rfl).cell hx6).1 hx6l hx6u))) ?_
       refine ZT 19 (fun h10 H16 => ?_)
       have H17 : Hold h h10 [rowsP cd4 101 a1 l1.length l1.length s2 [(i1.toNat, a3, x4.length, c1, x4)]] := H16
       obtain ⟨l5, hu3, gs3⟩ := M.bind_some gs3
       have hu3 := M.upd_some hu3
       refine Ze ?_
       refine E_put2 (C := cd4) (t := 4) (sz := 1) (j := i2) (x := (x7 != (-1000000000000000))) (v := .bool (x7 != (-1000000000000000))) (m2 := s2.set i1.toNat l5) H17 cd4_flat 0 rfl (by kernel_rfl) rfl (cd4_own _) (by kernel_rfl) hu3 rfl (fun h11 H18 => ?_)
       refine Zx ?_
       refine Zk [0, 3, 4, 5, 15, 16, 24, 25] [(0, .slice aa_ a_.length ca_), (3, iV (a_.length : Int)), (4, .slice a1 l1.length l1.length), (5, iV i1), (15, iV (l1.length : Int)), (16, iV i1), (24, iV (a_.length : Int)), (25, iV i2)] ?_
       have H21 := H18.ofRows
       have gs3 := M.ret_some gs3
       subst gs3
       exact Zf [0, 3, 4, 5, 15, 16, 24, 25] ⟨rfl, H21⟩
    ·have gx3 := M.for_end gx3 hb2
     subst gx3
     refine Run_exit (k' := _) rfl ?_
     exact Zf [0, 3, 4, 15, 16] ⟨rfl, H9⟩
  ·have gx1 := M.for_end gx1 hb1
   subst gx1
   refine Run_exit (k' := _) rfl ?_
   exact Zf [3, 4] ⟨rfl, H2⟩

theorem w_impl_componentsOf (h : Heap) (a_ : List (List Int)) (aa_ : Option Addr) (ca_ : Nat) (ra_ : Rd cd24 h (Lt h) aa_ ca_ a_) (n : Nat) (r : (List (List Int))) (hF : impl_componentsOf a_ n = some r) :
  Fn Tryz.prog 73 #[.slice aa_ a_.length ca_] h fun v h' => ∃ (a0 : Option Addr) (c0 : Nat), v = .slice a0 r.length c0 ∧ Hold h h' [own cd24 a0 r.length c0 r] := by
 unfold impl_componentsOf at hF
 refine Zo [.slice aa_ a_.length ca_] Tryz.func73 rfl (fun w0 _ => ?_)
 have H0 := Hold.init h
 refine Zs ?_
 refine Zq [.slice none 0 0] [0] [(0, .slice aa_ a_.length ca_)] ?_
 refine Zs ?_
 refine Run_ops ?_
 refine Zr [.slice aa_ a_.length ca_] 0 ?_
 obtain ⟨x1, hx1, hF⟩ := M.bind_some hF
 refine Ze ?_
 refine ZC 114 #[.slice aa_ a_.length ca_] (w_impl_reaching h a_ aa_ ca_ ra_ _ _ hx1) (fun v1 h1 hp1 => ?_)
 obtain ⟨a1, c1, rfl, H1⟩ := hp1
 have H2 : Hold h h1 [own cd101 a1 x1.length c1 x1] := H0.call H1 rfl
 refine Zr [.slice a1 x1.length c1] 2 ?_
 refine Zx ?_
 refine Zk [0, 3] [(0, .slice aa_ a_.length ca_), (3, .slice a1 x1.length c1)] ?_
 refine Zs ?_
 refine Zq [.slice none 0 0] [0, 3, 4] [(0, .slice aa_ a_.length ca_), (3, .slice a1 x1.length c1), (4, .slice none 0 0)] ?_
 refine Zs ?_
 refine Zs ?_
 refine Zq [.slice aa_ a_.length ca_, iV (a_.length : Int), iV 0] [0, 3, 4, 11, 12] [(0, .slice aa_ a_.length ca_), (3, .slice a1 x1.length c1), (4, .slice none 0 0), (11, iV (a_.length : Int)), (12, iV 0)] ?_
 obtain ⟨x2, gx2, hF⟩ := M.bind_some hF
 obtain ⟨hloy1, hhiy1, gx2⟩ := M.for_start gx2
 refine Run_join (fun L' h' => ∃ (a3 : Option Addr) (c3 : Nat), L' = [(4, .slice a3 x2.length c3)] ∧ Hold h h' [own cd24 a3 x2.length c3 x2]) ?_ ?_
 ·rintro _ h3 ⟨a3, c3, rfl, H4⟩
  refine Zs ?_
  refine Zq [.slice a3 x2.length c3, .slice a3 x2.length c3] [2] [(2, .slice a3 x2.length c3)] ?_
  have hF := M.ret_some hF
  subst hF
  exact Run_ret1 rfl (Zt (.slice a3 x2.length c3)) ⟨a3, c3, rfl, H4⟩
 ·refine Run_block ?_
  have H43 := H2.empty cd24
  have H44 : Hold h h1 [own cd101 a1 x1.length c1 x1, own cd24 none 0 0 []] := H43.pk [1, 0]
  refine Zk [0, 3, 4, 11, 12] [(0, .slice aa_ a_.length ca_), (3, .slice a1 x1.length c1), (4, .slice none 0 0), (11, iV (a_.length : Int)), (12, iV 0)] ?_
  refine Run_loop (fun m L' h' => ∃ (i1 : Int) (s1 : (List (List Int))) (a2 : Option Addr) (c2 : Nat), 0 ≤ i1 ∧ M.forN (a_.length : Int) _ _ n m i1 s1 = some x2 ∧ L' = [(0, .slice aa_ a_.length ca_), (3, .slice a1 x1.length c1), (4, .slice a2 s1.length c2), (11, iV (a_.length : Int)), (12, iV i1)] ∧ Hold h h' [own cd101 a1 x1.length c1 x1, own cd24 a2 s1.length c2 s1]) ((a_.length : Int) - 0 : Int).toNat ⟨0, [], none, 0, Int.le_refl _, gx2, rfl, H44⟩ ?_
  rintro my1 _ h2 ⟨i1, s1, a2, c2, hloy1', gx2, rfl, H3⟩
  refine Zs ?_
  refine Zq [.bool (decide (i1 < (a_.length : Int)))] [0, 3, 4, 11, 12, 13] [(0, .slice aa_ a_.length ca_), (3, .slice a1 x1.length c1), (4, .slice a2 s1.length c2), (11, iV (a_.length : Int)), (12, iV i1), (13, .bool (decide (i1 < (a_.length : Int))))] ?_
  refine Zs ?_
  refine Zc (decide (i1 < (a_.length : Int))) (fun hb1 => ?_) (fun hb1 => ?_)
  ·obtain ⟨my1, y1, rfl, hB1, hgoy1, houty1⟩ := M.for_go gx2 hb1
   have hlty1 := of_decide_eq_true hb1
   refine Run_skip ?_
   refine Zs ?_
   refine Run_block ?_
   refine Zs ?_
   refine Zq [iV i1, iV i1] [0, 3, 4, 5, 11, 12] [(0, .slice aa_ a_.length ca_), (3, .slice a1 x1.length c1), (4, .slice a2 s1.length c2), (5, iV i1), (11, iV (a_.length : Int)), (12, iV i1)] ?_
   refine Zs ?_
   refine Zq [.slice none 0 0] [0, 3, 4, 5, 6, 11, 12] [(0, .slice aa_ a_.length ca_), (3, .slice a1 x1.length c1), (4, .slice a2 s1.length c2), (5, iV i1), (6, .slice none 0 0), (11, iV (a_.length : Int)), (12, iV i1)] ?_
   refine Zs ?_
   refine Zs ?_
   refine Zq [.slice aa_ a_.length ca_, iV (a_.length : Int), iV 0] [0, 3, 4, 5, 6, 11, 12, 16, 17] [(0, .slice aa_ a_.length ca_), (3, .slice a1 x1.length c1), (4, .slice a2 s1.length c2), (5, iV i1), (6, .slice none 0 0), (11, iV (a_.length : Int)), (12, iV i1), (16, iV (a_.length : Int)), (17, iV 0)] ?_
   obtain ⟨x3, gx3, hB1⟩ := M.bind_some hB1
   obtain ⟨hloy2, hhiy2, gx3⟩ := M.for_start gx3
   refine Run_join (fun L' h' => ∃ (a5 : Option Addr) (c5 : Nat), L' = [(0, .slice aa_ a_.length ca_), (3, .slice a1 x1.length c1), (4, .slice a2 s1.length c2), (5, iV i1), (6, .slice a5 x3.length c5), (11, iV (a_.length : Int)), (12, iV i1)] ∧ Hold h h' [own cd101 a1 x1.length c1 x1, own cd24 a2 s1.length c2 s1, own cd2 a5 x3.length c5 x3]) ?_ ?_
   ·rintro _ h5 ⟨a5, c5, rfl, H6⟩
    refine Zs ?_
    obtain ⟨x9, hx6, hB1⟩ := M.bind_some hB1
    obtain ⟨hx6l, hx6u, hx6⟩ := M.idx_some hx6
    refine Zg 5 [(0, .slice aa_ a_.length ca_), (3, .slice a1 x1.length c1), (4, .slice a2 s1.length c2), (6, .slice a5 x3.length c5), (11, iV (a_.length : Int)), (12, iV i1), (45, .bool (x9 == i1))] ?_ ?_
    ·refine Zb [.slice a5 x3.length c5] 0 ?_
     refine Zy (.pointer (some (adr a5 (0 * 1)))) (Zi 24 2 1 (a5) (x3.length) (c5) .i64 (0) Tryz.underlying24 ((H6.rd 2 rfl).cell hx6).1 hx6l hx6u) ?_
     refine Zy (iV x9) (Zl 2 (adr a5 (0 * 1)) (iV x9) (cd2_cell (H6.rd 2 rfl) hx6)) ?_
     refine Zb [iV i1, .bool (x9 == i1)] 3 ?_
     exact Zd [0, 3, 4, 6, 11, 12, 45]
    obtain ⟨s4, gs4, hB1⟩ := M.bind_some hB1
    refine Run_join (fun L' h' => ∃ (a13 : Option Addr), ∃ (c11 : Nat), L' = [(0, .slice aa_ a_.length ca_), (3, .slice a1 x1.length c1), (4, .slice a13 s4.length c11), (11, iV (a_.length : Int)), (12, iV i1)] ∧ Hold h h' [own cd101 a1 x1.length c1 x1, own cd24 a13 s4.length c11 s4]) ?_ ?_
    ·rintro _ h11 ⟨a13, c11, rfl, H33⟩
     refine Run_blk ?_
     refine Zg 2 [(0, .slice aa_ a_.length ca_), (3, .slice a1 x1.length c1), (4, .slice a13 s4.length c11), (11, iV (a_.length : Int)), (12, iV (i1 + 1))] ?_ ?_
     ·refine Zy (iV (i1 + 1)) (Y_eq (v := iV (w64 (i1 + 1))) (Y_pure (fun w => by kernel_rfl)) (by rw [w64_eq _ (by omega)])) ?_
      refine Zb [iV (i1 + 1)] 1 ?_
      exact Zd [0, 3, 4, 11, 12]
     have H37 : Hold h h11 [own cd24 a13 s4.length c11 s4, own cd101 a1 x1.length c1 x1] := H33.pk [1, 0]
     have H38 : Hold h h11 [own cd101 a1 x1.length c1 x1, own cd24 a13 s4.length c11 s4] := H37.pk [1, 0]
     have hB1 := M.ret_some hB1
     have gx2 := hgoy1 _ hB1.symm
     exact Za [0, 3, 4, 11, 12] my1 ⟨i1 + 1, s4, a13, c11, by omega, gx2, rfl, H38⟩
    ·refine Zc (x9 == i1) (fun hb5 => ?_) (fun hb5 => ?_)
     ·have gs4 := (M.ite_some gs4).1 hb5
      refine Run_ops ?_
      refine Zr [.slice a2 s1.length c2, .slice a5 x3.length c5] 0 ?_
      have H28 : Hold h h5 [own cd2 a5 x3.length c5 x3, own cd101 a1 x1.length c1 x1, own cd24 a2 s1.length c2 s1] := H6.pk [2, 0, 1]
      refine Ze ?_
      refine E_lit1 (ey := 24) (n := x3.length) H28 (fun w => by kernel_rfl) rfl (fun a11 h9 H27 => ?_)
      obtain ⟨l2, hl2, gs4⟩ := M.bind_some gs4
      have hl2 := M.app_some hl2
      have H29 : Hold h h9 [own cd24 a2 s1.length c2 s1, own cd24 a11 1 1 [x3], own cd101 a1 x1.length c1 x1] := H27.pk [2, 0, 1]
      have H30 : Hold h h9 [own cd24 a11 1 1 [x3], own cd24 a2 s1.length c2 s1, own cd101 a1 x1.length c1 x1] := H29.pk [1, 0, 2]
      have H31 : Hold h h9 [own cd24 a2 s1.length c2 s1, own cd24 a11 1 1 [x3], own cd101 a1 x1.length c1 x1] := H30.pk [1, 0, 2]
      refine Ze ?_
      refine E_app (C := cd24) (t := 22) (ty := 22) (n := s1.length) (m := 1) H31 cd24_ti rfl Tryz.underlying22 (by decide) (by kernel_rfl) hl2 (fun a12 c10 h10 H32 => ?_)
      refine Zr [.slice a12 l2.length c10] 4 ?_
      refine Zx ?_
      refine Zk [0, 3, 4, 11, 12] [(0, .slice aa_ a_.length ca_), (3, .slice a1 x1.length c1), (4, .slice a12 l2.length c10), (11, iV (a_.length : Int)), (12, iV i1)] ?_
      have H34 : Hold h h10 [own cd101 a1 x1.length c1 x1, own cd24 a12 l2.length c10 l2] := H32.pk [1, 0]
      have gs4 := M.ret_some gs4
      subst gs4
      exact Zf [0, 3, 4, 11, 12] ⟨a12, c10, rfl, H34⟩
     ·have gs4 := (M.ite_some gs4).2 hb5
      refine Run_skip ?_
      have H35 : Hold h h5 [own cd24 a2 s1.length c2 s1, own cd101 a1 x1.length c1 x1, own cd2 a5 x3.length c5 x3] := H6.pk [1, 0, 2]
      have H36 : Hold h h5 [own cd101 a1 x1.length c1 x1, own cd24 a2 s1.length c2 s1] := H35.pk [1, 0]
      have gs4 := M.ret_some gs4
      subst gs4
      exact Zf [0, 3, 4, 11, 12] ⟨a2, c2, rfl, H36⟩
   ·refine Run_block ?_
    have H39 := H3.empty cd2
    have H40 : Hold h h2 [own cd101 a1 x1.length c1 x1, own cd24 a2 s1.length c2 s1, own cd2 none 0 0 []] := H39.pk [1, 2, 0]
    refine Zk [0, 3, 4, 5, 6, 11, 12, 16, 17] [(0, .slice aa_ a_.length ca_), (3, .slice a1 x1.length c1), (4, .slice a2 s1.length c2), (5, iV i1), (6, .slice none 0 0), (11, iV (a_.length : Int)), (12, iV i1), (16, iV (a_.length : Int)), (17, iV 0)] ?_
    refine Run_loop (fun m L' h' => ∃ (i2 : Int) (s2 : (List Int)) (a4 : Option Addr) (c4 : Nat), 0 ≤ i2 ∧ M.forN (a_.length : Int) _ _ n m i2 s2 = some x3 ∧ L' = [(0, .slice aa_ a_.length ca_), (3, .slice a1 x1.length c1), (4, .slice a2 s1.length c2), (5, iV i1), (6, .slice a4 s2.length c4), (11, iV (a_.length : Int)), (12, iV i1), (16, iV (a_.length : Int)), (17, iV i2)] ∧ Hold h h' [own cd101 a1 x1.length c1 x1, own cd24 a2 s1.length c2 s1, own cd2 a4 s2.length c4 s2]) ((a_.length : Int) - 0 : Int).toNat ⟨0, [], none, 0, Int.le_refl _, gx3, rfl, H40⟩ ?_
    rintro my2 _ h4 ⟨i2, s2, a4, c4, hloy2', gx3, rfl, H5⟩
    refine Zs ?_
    refine Zq [.bool (decide (i2 < (a_.length : Int)))] [0, 3, 4, 5, 6, 11, 12, 16, 17, 18] [(0, .slice aa_ a_.length ca_), (3, .slice a1 x1.length c1), (4, .slice a2 s1.length c2), (5, iV i1), (6, .slice a4 s2.length c4), (11, iV (a_.length : Int)), (12, iV i1), (16, iV (a_.length : Int)), (17, iV i2), (18, .bool (decide (i2 < (a_.length : Int))))] ?_
    refine Zs ?_
    refine Zc (decide (i2 < (a_.length : Int))) (fun hb2 => ?_) (fun hb2 => ?_)
    ·obtain ⟨my2, y2, rfl, hB2, hgoy2, houty2⟩ := M.for_go gx3 hb2
     have hlty2 := of_decide_eq_true hb2
     refine Run_skip ?_
     refine Zs ?_
     refine Run_block ?_
     refine Zs ?_
     refine Zq [iV i2, iV i2] [0, 3, 4, 5, 6, 7, 11, 12, 16, 17] [(0, .slice aa_ a_.length ca_), (3, .slice a1 x1.length c1), (4, .slice a2 s1.length c2), (5, iV i1), (6, .slice a4 s2.length c4), (7, iV i2), (11, iV (a_.length : Int)), (12, iV i1), (16, iV (a_.length : Int)), (17, iV i2)] ?_
     refine Zs ?_
     obtain ⟨x4, hx2, hB2⟩ := M.bind_some hB2
     obtain ⟨hx2l, hx2u, hx2⟩ := M.idx_some hx2
     have H7 := H5.toRows
     obtain ⟨a6, c6, H8⟩ := H7.pinRow hx2
     obtain ⟨x5, hx3, hB2⟩ := M.bind_some hB2
     obtain ⟨hx3l, hx3u, hx3⟩ := M.idx_some hx3
     obtain ⟨x6, gx6, hB2⟩ := M.bind_some hB2
     refine Zg 16 [(0, .slice aa_ a_.length ca_), (3, .slice a1 x1.length c1), (4, .slice a2 s1.length c2), (5, iV i1), (6, .slice a4 s2.length c4), (7, iV i2), (11, iV (a_.length : Int)), (12, iV i1), (16, iV (a_.length : Int)), (17, iV i2), (35, .bool x6)] ?_ ?_
     ·refine Zb [.slice a1 x1.length c1, iV i1] 0 ?_
      refine Zy (.pointer (some (adr a1 (i1.toNat * 1)))) (Zi 99 101 1 (a1) (x1.length) (c1) .i64 (i1) Tryz.underlying99 ((H5.rd 0 rfl).cell hx2).1 hx2l hx2u) ?_
      refine Zy (.slice a6 x4.length c6) (Zl 101 (adr a1 (i1.toNat * 1)) (.slice a6 x4.length c6) (H8.cellPin 0 rfl 0 rfl)) ?_
      refine Zb [iV i2] 4 ?_
      refine Zy (.pointer (some (adr a6 (i2.toNat * 1)))) (Zi 101 4 1 (a6) (x4.length) (c6) .i64 (i2) Tryz.underlying101 ((H8.rdPin 0 rfl 0 rfl).cell hx3).1 hx3l hx3u) ?_
      refine Zy (.bool x5) (Zl 4 (adr a6 (i2.toNat * 1)) (.bool x5) (cd4_cell (H8.rdPin 0 rfl 0 rfl) hx3)) ?_
      refine QRun_seq 16 [(0, .slice aa_ a_.length ca_), (3, .slice a1 x1.length c1), (4, .slice a2 s1.length c2), (5, iV i1), (6, .slice a4 s2.length c4), (7, iV i2), (11, iV (a_.length : Int)), (12, iV i1), (16, iV (a_.length : Int)), (17, iV i2), (35, .bool x6)] ?_ ?_
      ·rcases Bool.eq_false_or_eq_true x5 with hb3 | hb3
       ·refine Zv x5 true hb3 ?_
        have gx6 := (M.ite_some gx6).1 hb3
        obtain ⟨x7, hx4, gx6⟩ := M.bind_some gx6
        obtain ⟨hx4l, hx4u, hx4⟩ := M.idx_some hx4
        obtain ⟨a7, c7, H9⟩ := H8.pinRow hx4
        obtain ⟨x8, hx5, gx6⟩ := M.bind_some gx6
        obtain ⟨hx5l, hx5u, hx5⟩ := M.idx_some hx5
        have gx6 := M.ret_some gx6
        refine Zb [.slice a1 x1.length c1, iV i2] 8 ?_
        refine Zy (.pointer (some (adr a1 (i2.toNat * 1)))) (Zi 99 101 1 (a1) (x1.length) (c1) .i64 (i2) Tryz.underlying99 ((H8.rdRows 0 rfl).cell hx4).1 hx4l hx4u) ?_
        refine Zy (.slice a7 x7.length c7) (Zl 101 (adr a1 (i2.toNat * 1)) (.slice a7 x7.length c7) (H9.cellPin 0 rfl 0 rfl)) ?_
        refine Zb [iV i1] 12 ?_
        refine Zy (.pointer (some (adr a7 (i1.toNat * 1)))) (Zi 101 4 1 (a7) (x7.length) (c7) .i64 (i1) Tryz.underlying101 ((H9.rdPin 0 rfl 0 rfl).cell hx5).1 hx5l hx5u) ?_
        refine Zy (.bool x8) (Zl 4 (adr a7 (i1.toNat * 1)) (.bool x8) (cd4_cell (H9.rdPin 0 rfl 0 rfl) hx5)) ?_
        refine Zv x8 x6 gx6 ?_
        exact Zd [0, 3, 4, 5, 6, 7, 11, 12, 16, 17, 35]
       ·refine Zv x5 false hb3 ?_
        have gx6 := M.ret_some ((M.ite_some gx6).2 hb3)
        refine Zn ?_
        refine Zn ?_
        refine Zn ?_
        refine Zn ?_
        refine Zn ?_
        refine Zn ?_
        refine Zn ?_
        refine Zv false x6 gx6 ?_
        exact Zd [0, 3, 4, 5, 6, 7, 11, 12, 16, 17, 35]
      exact Zd [0, 3, 4, 5, 6, 7, 11, 12, 16, 17, 35]
     obtain ⟨s3, gs3, hB2⟩ := M.bind_some hB2
     refine Run_join (fun L' h' => ∃ (a10 : Option Addr), ∃ (c9 : Nat), L' = [(0, .slice aa_ a_.length ca_), (3, .slice a1 x1.length c1), (4, .slice a2 s1.length c2), (5, iV i1), (6, .slice a10 s3.length c9), (11, iV (a_.length : Int)), (12, iV i1), (16, iV (a_.length : Int)), (17, iV i2)] ∧ Hold h h' [own cd101 a1 x1.length c1 x1, own cd24 a2 s1.length c2 s1, own cd2 a10 s3.length c9 s3]) ?_ ?_
     ·rintro _ h8 ⟨a10, c9, rfl, H15⟩
      refine Run_blk ?_
      refine Zg 2 [(0, .slice aa_ a_.length ca_), (3, .slice a1 x1.length c1), (4, .slice a2 s1.length c2), (5, iV i1), (6, .slice a10 s3.length c9), (11, iV (a_.length : Int)), (12, iV i1), (16, iV (a_.length : Int)), (17, iV (i2 + 1))] ?_ ?_
      ·refine Zy (iV (i2 + 1)) (Y_eq (v := iV (w64 (i2 + 1))) (Y_pure (fun w => by kernel_rfl)) (by rw [w64_eq _ (by omega)])) ?_
       refine Zb [iV (i2 + 1)] 1 ?_
       exact Zd [0, 3, 4, 5, 6, 11, 12, 16, 17]
      have H23 : Hold h h8 [own cd2 a10 s3.length c9 s3, own cd101 a1 x1.length c1 x1, own cd24 a2 s1.length c2 s1] := H15.pk [2, 0, 1]
      have H24 : Hold h h8 [own cd101 a1 x1.length c1 x1, own cd24 a2 s1.length c2 s1, own cd2 a10 s3.length c9 s3] := H23.pk [1, 2, 0]
      have hB2 := M.ret_some hB2
      have gx3 := hgoy2 _ hB2.symm
      exact Za [0, 3, 4, 5, 6, 11, 12, 16, 17] my2 ⟨i2 + 1, s3, a10, c9, by omega, gx3, rfl, H24⟩
     ·refine Zc (x6) (fun hb4 => ?_) (fun hb4 => ?_)
      ·have gs3 := (M.ite_some gs3).1 hb4
       refine Run_ops ?_
       refine Zr [.slice a4 s2.length c4, iV i2] 0 ?_
       refine Ze ?_
       refine E_lit (C := cd2) (n := 1) (l := ([i2] : List Int)) (cs := [iV i2]) H8 (fun w => by kernel_rfl) (Enc.consE (cd2_own i2 _) (Enc.nil _ _) rfl) rfl (by decide) (fun a8 h6 H10 => ?_)
       obtain ⟨l1, hl1, gs3⟩ := M.bind_some gs3
       have hl1 := M.app_some hl1
       have H11 : Hold h h6 [own cd2 a4 s2.length c4 s2, own cd2 a8 1 1 ([i2] : List Int), rowsP cd4 101 a1 x1.length c1 x1 [(i1.toNat, a6, x4.length, c6, x4)], own cd24 a2 s1.length c2 s1] := H10.pk [3, 0, 1, 2]
       have H12 : Hold h h6 [own cd2 a8 1 1 ([i2] : List Int), own cd2 a4 s2.length c4 s2, rowsP cd4 101 a1 x1.length c1 x1 [(i1.toNat, a6, x4.length, c6, x4)], own cd24 a2 s1.length c2 s1] := H11.pk [1, 0, 2, 3]
       have H13 : Hold h h6 [own cd2 a4 s2.length c4 s2, own cd2 a8 1 1 ([i2] : List Int), rowsP cd4 101 a1 x1.length c1 x1 [(i1.toNat, a6, x4.length, c6, x4)], own cd24 a2 s1.length c2 s1] := H12.pk [1, 0, 2, 3]
       refine Ze ?_
       refine E_app (C := cd2) (t := 24) (ty := 24) (n := s2.length) (m := 1) H13 cd2_ti rfl Tryz.underlying24 (by decide) (by kernel_rfl) hl1 (fun a9 c8 h7 H14 => ?_)
       refine Zr [.slice a9 l1.length c8] 4 ?_
       refine Zx ?_
       refine Zk [0, 3, 4, 5, 6, 11, 12, 16, 17] [(0, .slice aa_ a_.length ca_), (3, .slice a1 x1.length c1), (4, .slice a2 s1.length c2), (5, iV i1), (6, .slice a9 l1.length c8), (11, iV (a_.length : Int)), (12, iV i1), (16, iV (a_.length : Int)), (17, iV i2)] ?_
       have H16 : Hold h h7 [rowsP cd4 101 a1 x1.length c1 x1 [(i1.toNat, a6, x4.length, c6, x4)], own cd2 a9 l1.length c8 l1, own cd24 a2 s1.length c2 s1] := H14.pk [1, 0, 2]
       have H17 := H16.ofRows
       have H18 : Hold h h7 [own cd2 a9 l1.length c8 l1, own cd101 a1 x1.length c1 x1, own cd24 a2 s1.length c2 s1] := H17.pk [1, 0, 2]
       have H19 : Hold h h7 [own cd101 a1 x1.length c1 x1, own cd24 a2 s1.length c2 s1, own cd2 a9 l1.length c8 l1] := H18.pk [1, 2, 0]
       have gs3 := M.ret_some gs3
       subst gs3
       exact Zf [0, 3, 4, 5, 6, 11, 12, 16, 17] ⟨a9, c8, rfl, H19⟩
      ·have gs3 := (M.ite_some gs3).2 hb4
       refine Run_skip ?_
       have H20 := H8.ofRows
       have H21 : Hold h h4 [own cd2 a4 s2.length c4 s2, own cd101 a1 x1.length c1 x1, own cd24 a2 s1.length c2 s1] := H20.pk [2, 0, 1]
       have H22 : Hold h h4 [own cd101 a1 x1.length c1 x1, own cd24 a2 s1.length c2 s1, own cd2 a4 s2.length c4 s2] := H21.pk [1, 2, 0]
       have gs3 := M.ret_some gs3
       subst gs3
       exact Zf [0, 3, 4, 5, 6, 11, 12, 16, 17] ⟨a4, c4, rfl, H22⟩
    ·have gx3 := M.for_end gx3 hb2
     subst gx3
     refine Run_exit (k' := _) rfl ?_
     have H25 : Hold h h4 [own cd2 a4 s2.length c4 s2, own cd101 a1 x1.length c1 x1, own cd24 a2 s1.length c2 s1] := H5.pk [2, 0, 1]
     have H26 : Hold h h4 [own cd101 a1 x1.length c1 x1, own cd24 a2 s1.length c2 s1, own cd2 a4 s2.length c4 s2] := H25.pk [1, 2, 0]
     exact Zf [0, 3, 4, 5, 6, 11, 12] ⟨a4, c4, rfl, H26⟩
  ·have gx2 := M.for_end gx2 hb1
   subst gx2
   refine Run_exit (k' := _) rfl ?_
   have H41 : Hold h h2 [own cd24 a2 s1.length c2 s1, own cd101 a1 x1.length c1 x1] := H3.pk [1, 0]
   have H42 : Hold h h2 [own cd24 a2 s1.length c2 s1] := H41.pk [0]
   exact Zf [4] ⟨a2, c2, rfl, H42⟩

theorem w_impl_criticalComponents_1 (h : Heap) (component : List Int) {Scomponent : Bs} (acomponent : Option Addr) (ccomponent : Nat) (rcomponent : Rd cd2 h Scomponent acomponent ccomponent component) (z0 : List (List Int)) {Sz0 : Bs} (az0 : Option Addr) (cz0 : Nat) (rz0 : Rd cd24 h Sz0 az0 cz0 z0) (bz0 : Nat) (vz0 : VarAt h bz0 22 [.slice az0 z0.length cz0]) (n : Nat) (r : Bool) (hF : impl_criticalComponents_1 component z0 n = some r) :
  Fn Tryz.prog 74 #[.slice acomponent component.length ccomponent, pV bz0] h fun v h' => v = .bool r ∧ h' = h := by
 unfold impl_criticalComponents_1 at hF
 refine Zo [.slice acomponent component.length ccomponent, pV bz0] Tryz.func74 rfl (fun w0 _ => ?_)
 refine Zs ?_
 refine Zq [.bool false] [0, 1] [(0, .slice acomponent component.length ccomponent), (1, pV bz0)] ?_
 refine Zs ?_
 obtain ⟨x1, hx1, hF⟩ := M.bind_some hF
 obtain ⟨hx1l, hx1u, hx1⟩ := M.idx_some hx1
 refine Zg 4 [(0, .slice acomponent component.length ccomponent), (1, pV bz0), (4, iV x1)] ?_ ?_
 ·refine Zb [.slice acomponent component.length ccomponent] 0 ?_
  refine Zy (.pointer (some (adr acomponent (0 * 1)))) (Zi 24 2 1 (acomponent) (component.length) (ccomponent) .i64 (0) Tryz.underlying24 (rcomponent.cell hx1).1 hx1l hx1u) ?_
  refine Zy (iV x1) (Zl 2 (adr acomponent (0 * 1)) (iV x1) (cd2_cell rcomponent hx1)) ?_
  refine Zb [iV x1] 3 ?_
  exact Zd [0, 1, 4]
 refine Zs ?_
 obtain ⟨x2, gx2, hF⟩ := M.bind_some hF
 refine Zg 14 [(3, .bool x2)] ?_ ?_
 ·refine Zb [.slice acomponent component.length ccomponent, iV (component.length : Int), .bool ((component.length : Int) == 1)] 0 ?_
  refine QRun_seq 13 [(20, .bool x2)] ?_ ?_
  ·rcases Bool.eq_false_or_eq_true ((component.length : Int) == 1) with hb1 | hb1
   ·refine Zv ((component.length : Int) == 1) true hb1 ?_
    have gx2 := (M.ite_some gx2).1 hb1
    obtain ⟨x3, hx2, gx2⟩ := M.bind_some gx2
    obtain ⟨hx2l, hx2u, hx2⟩ := M.idx_some hx2
    obtain ⟨a1, c1, hc1, r1⟩ := rz0.row hx2
    obtain ⟨x4, hx3, gx2⟩ := M.bind_some gx2
    obtain ⟨hx3l, hx3u, hx3⟩ := M.idx_some hx3
    have gx2 := M.ret_some gx2
    refine Zy (.slice az0 z0.length cz0) (Zl 22 (⟨bz0, 0, none⟩) (.slice az0 z0.length cz0) (VarAt.cell vz0 rfl)) ?_
    refine Zb [iV x1] 5 ?_
    refine Zy (.pointer (some (adr az0 (x1.toNat * 1)))) (Zi 22 24 1 (az0) (z0.length) (cz0) .i64 (x1) Tryz.underlying22 (rz0.cell hx2).1 hx2l hx2u) ?_
    refine Zy (.slice a1 x3.length c1) (Zl 24 (adr az0 (x1.toNat * 1)) (.slice a1 x3.length c1) hc1) ?_
    refine Zb [iV x1] 8 ?_
    refine Zy (.pointer (some (adr a1 (x1.toNat * 1)))) (Zi 24 2 1 (a1) (x3.length) (c1) .i64 (x1) Tryz.underlying24 (r1.cell hx3).1 hx3l hx3u) ?_
    refine Zy (iV x4) (Zl 2 (adr a1 (x1.toNat * 1)) (iV x4) (cd2_cell r1 hx3)) ?_
    refine Zb [.bool (x4 == (-1000000000000000))] 11 ?_
    refine Zv (x4 == (-1000000000000000)) x2 gx2 ?_
    exact Zd [20]
   ·refine Zv ((component.length : Int) == 1) false hb1 ?_
    have gx2 := M.ret_some ((M.ite_some gx2).2 hb1)
    refine Zn ?_
    refine Zn ?_
    refine Zn ?_
    refine Zn ?_
    refine Zn ?_
    refine Zn ?_
    refine Zn ?_
    refine Zn ?_
    refine Zv false x2 gx2 ?_
    exact Zd [20]
  refine Zb [.bool x2] 13 ?_
  exact Zd [3]
 have hF := M.ret_some hF
 subst hF
 exact Run_ret1 rfl (Zt (.bool x2)) ⟨rfl, rfl⟩

theorem w_slices_IndexFunc_row_F_impl_criticalComponents_1 (h : Heap) (s_ : List (List Int)) {Ss_ : Bs} (as_ : Option Addr) (cs_ : Nat) (rs_ : Rd cd24 h Ss_ as_ cs_ s_) (f0 : List (List Int)) {Sf0 : Bs} (af0 : Option Addr) (cf0 : Nat) (rf0 : Rd cd24 h Sf0 af0 cf0 f0) (bf0 : Nat) (vf0 : VarAt h bf0 22 [.slice af0 f0.length cf0]) (n : Nat) (r : Int) (hF : slices_IndexFunc_row_F_impl_criticalComponents_1 s_ f0 n = some r) :
  Fn Tryz.prog 113 #[.slice as_ s_.length cs_, .func (.func 74) #[] #[pV bf0]] h fun v h' => v = iV r ∧ h' = h := by
 unfold slices_IndexFunc_row_F_impl_criticalComponents_1 at hF
 refine Zo [.slice as_ s_.length cs_, .func (.func 74) #[] #[pV bf0]] Tryz.func113 rfl (fun w0 _ => ?_)
 refine Zs ?_
 refine Zq [iV 0] [0, 1] [(0, .slice as_ s_.length cs_), (1, .func (.func 74) #[] #[pV bf0])] ?_
 refine Zs ?_
 refine Zs ?_
 refine Zq [.slice as_ s_.length cs_, iV (s_.length : Int), iV 0] [0, 1, 7, 8] [(0, .slice as_ s_.length cs_), (1, .func (.func 74) #[] #[pV bf0]), (7, iV (s_.length : Int)), (8, iV 0)] ?_
 obtain ⟨x1, gx1, hF⟩ := M.bind_some hF
 obtain ⟨hloy1, hhiy1, gx1⟩ := M.for_start gx1
 refine Run_join (fun L' h' => ∃ (s2 : Unit), x1 = .inl s2 ∧ L' = [] ∧ h = h') ?_ ?_
 ·rintro _ _ ⟨s2, es2, rfl, rfl⟩
  have hF := M.cont_inl' hF es2
  refine Zs ?_
  refine Zq [iV (-1)] [4] [(4, iV (-1))] ?_
  have hF := M.ret_some hF
  subst hF
  exact Run_ret1 rfl (Zt (iV (-1))) ⟨rfl, rfl⟩
 ·refine Run_block ?_
  refine Zk [0, 1, 7, 8] [(0, .slice as_ s_.length cs_), (1, .func (.func 74) #[] #[pV bf0]), (7, iV (s_.length : Int)), (8, iV 0)] ?_
  refine Run_loop (fun m L' h' => ∃ (i1 : Int) (s1 : Unit), 0 ≤ i1 ∧ M.forN (s_.length : Int) _ _ n m i1 s1 = some x1 ∧ L' = [(0, .slice as_ s_.length cs_), (1, .func (.func 74) #[] #[pV bf0]), (7, iV (s_.length : Int)), (8, iV i1)] ∧ h = h') ((s_.length : Int) - 0 : Int).toNat ⟨0, (), Int.le_refl _, gx1, rfl, rfl⟩ ?_
  rintro my1 _ _ ⟨i1, s1, hloy1', gx1, rfl, rfl⟩
  refine Zs ?_
  refine Zq [.bool (decide (i1 < (s_.length : Int)))] [0, 1, 7, 8, 9] [(0, .slice as_ s_.length cs_), (1, .func (.func 74) #[] #[pV bf0]), (7, iV (s_.length : Int)), (8, iV i1), (9, .bool (decide (i1 < (s_.length : Int))))] ?_
  refine Zs ?_
  refine Zc (decide (i1 < (s_.length : Int))) (fun hb1 => ?_) (fun hb1 => ?_)
  ·obtain ⟨my1, y1, rfl, hB1, hgoy1, houty1⟩ := M.for_go gx1 hb1
   have hlty1 := of_decide_eq_true hb1
   refine Run_skip ?_
   refine Zs ?_
   refine Run_block ?_
   refine Zs ?_
   refine Zq [iV i1, iV i1] [0, 1, 5, 7, 8] [(0, .slice as_ s_.length cs_), (1, .func (.func 74) #[] #[pV bf0]), (5, iV i1), (7, iV (s_.length : Int)), (8, iV i1)] ?_
   refine Zs ?_
   obtain ⟨x2, hx1, hB1⟩ := M.bind_some hB1
   obtain ⟨hx1l, hx1u, hx1⟩ := M.idx_some hx1
   obtain ⟨a1, c1, hc1, r1⟩ := rs_.row hx1
   obtain ⟨x3, hx2, hB1⟩ := M.bind_some hB1
   refine Zg 6 [(0, .slice as_ s_.length cs_), (1, .func (.func 74) #[] #[pV bf0]), (5, iV i1), (7, iV (s_.length : Int)), (8, iV i1), (16, .bool x3)] ?_ ?_
   ·refine Zb [.func (.func 74) #[] #[pV bf0], .slice as_ s_.length cs_, iV i1] 0 ?_
    refine Zy (.pointer (some (adr as_ (i1.toNat * 1)))) (Zi 22 24 1 (as_) (s_.length) (cs_) .i64 (i1) Tryz.underlying22 (rs_.cell hx1).1 hx1l hx1u) ?_
    refine Zy (.slice a1 x2.length c1) (Zl 24 (adr as_ (i1.toNat * 1)) (.slice a1 x2.length c1) hc1) ?_
    refine Zy (.bool x3) (ZQ 74 #[.slice a1 x2.length c1, pV bf0] (w_impl_criticalComponents_1 h x2 a1 c1 r1 f0 af0 cf0 rf0 bf0 vf0 _ _ hx2)) ?_
    exact Zd [0, 1, 5, 7, 8, 16]
   refine Zc (x3) (fun hb2 => ?_) (fun hb2 => ?_)
   ·have hB1 := (M.ite_some hB1).1 hb2
    refine Zs ?_
    refine Zq [iV i1, iV i1] [4] [(4, iV i1)] ?_
    have hB1 := M.ret_some hB1
    have gx1 := houty1 _ hB1.symm
    have hF := M.cont_inr' hF gx1
    have hF := M.ret_some hF
    subst hF
    exact Run_ret1 rfl (Zt (iV i1)) ⟨rfl, rfl⟩
   ·have hB1 := (M.ite_some hB1).2 hb2
    refine Run_skip ?_
    refine Run_blk ?_
    refine Zg 2 [(0, .slice as_ s_.length cs_), (1, .func (.func 74) #[] #[pV bf0]), (7, iV (s_.length : Int)), (8, iV (i1 + 1))] ?_ ?_
    ·refine Zy (iV (i1 + 1)) (Y_eq (v := iV (w64 (i1 + 1))) (Y_pure (fun w => by kernel_rfl)) (by rw [w64_eq _ (by omega)])) ?_
     refine Zb [iV (i1 + 1)] 1 ?_
     exact Zd [0, 1, 7, 8]
    have hB1 := M.ret_some hB1
    have gx1 := hgoy1 _ hB1.symm
    exact Za [0, 1, 7, 8] my1 ⟨i1 + 1, (), by omega, gx1, rfl, rfl⟩
  ·have gx1 := M.for_end gx1 hb1
   subst gx1
   refine Run_exit (k' := _) rfl ?_
   exact Zf [] ⟨(), rfl, rfl, rfl⟩

theorem w_slices_DeleteFunc_row_F_impl_criticalComponents_1 (h hE : Heap) (it : Item) (s_ : List (List Int)) (as_ : Option Addr) (cs_ : Nat) (del0 : List (List Int)) (adel0 : Option Addr) (cdel0 : Nat) (rdel0 : Rd cd24 h (Lt h) adel0 cdel0 del0) (bdel0 : Nat) (HM : Hold h hE [lrows cd2 24 as_ s_.length cs_ s_, box bdel0 22 [.slice adel0 del0.length cdel0], it]) (n : Nat) (r : (List (List Int))) (hF : slices_DeleteFunc_row_F_impl_criticalComponents_1 s_ del0 n = some r) :
  Fn Tryz.prog 72 #[.slice as_ s_.length cs_, .func (.func 74) #[] #[pV bdel0]] hE fun v h' => ∃ (a0 : Option Addr) (c0 : Nat), v = .slice a0 r.length c0 ∧ Rd cd24 h' (Lt h') a0 c0 r ∧ Hold h h' [box bdel0 22 [.slice adel0 del0.length cdel0], it] := by
 unfold slices_DeleteFunc_row_F_impl_criticalComponents_1 at hF
 refine Zo [.slice as_ s_.length cs_, .func (.func 74) #[] #[pV bdel0]] Tryz.func72 rfl (fun w0 _ => ?_)
 refine Zs ?_
 refine Zq [.slice none 0 0] [0, 1] [(0, .slice as_ s_.length cs_), (1, .func (.func 74) #[] #[pV bdel0])] ?_
 refine Zs ?_
 obtain ⟨x1, hx1, hF⟩ := M.bind_some hF
 refine Zg 4 [(0, .slice as_ s_.length cs_), (1, .func (.func 74) #[] #[pV bdel0]), (5, iV x1)] ?_ ?_
 ·refine Zb [.slice as_ s_.length cs_, .func (.func 74) #[] #[pV bdel0]] 0 ?_
  refine Zy (iV x1) (ZQ 113 #[.slice as_ s_.length cs_, .func (.func 74) #[] #[pV bdel0]] (w_slices_IndexFunc_row_F_impl_criticalComponents_1 hE s_ as_ cs_ (HM.rdL 0 rfl) del0 adel0 cdel0 (rdel0.at HM.ext) bdel0 (HM.var 1 rfl) _ _ hx1)) ?_
  refine Zb [iV x1] 3 ?_
  exact Zd [0, 1, 5]
 refine Zs ?_
 refine Zs ?_
 refine Zq [iV x1, .bool (x1 == (-1))] [0, 1, 5, 12] [(0, .slice as_ s_.length cs_), (1, .func (.func 74) #[] #[pV bdel0]), (5, iV x1), (12, .bool (x1 == (-1)))] ?_
 refine Zc (x1 == (-1)) (fun hb1 => ?_) (fun hb1 => ?_)
 ·have hF := (M.ite_some hF).1 hb1
  refine Zs ?_
  refine Zq [.slice as_ s_.length cs_, .slice as_ s_.length cs_] [4] [(4, .slice as_ s_.length cs_)] ?_
  have hF := M.ret_some hF
  subst hF
  have rV1 := (HM.rdL 0 rfl)
  have H1 : Hold h hE [box bdel0 22 [.slice adel0 del0.length cdel0], it] := HM.pk [1, 2]
  exact Run_ret1 rfl (Zt (.slice as_ s_.length cs_)) ⟨as_, cs_, rfl, rV1, H1⟩
 ·have hF := (M.ite_some hF).2 hb1
  refine Run_skip ?_
  refine Zs ?_
  refine Zs ?_
  refine Zq [iV x1, iV (w64 (x1 + 1)), iV (w64 (x1 + 1))] [0, 1, 5, 6] [(0, .slice as_ s_.length cs_), (1, .func (.func 74) #[] #[pV bdel0]), (5, iV x1), (6, iV (w64 (x1 + 1)))] ?_
  obtain ⟨x2, gx2, hF⟩ := M.bind_some hF
  obtain ⟨hloy1, hhiy1, gx2⟩ := M.for_start gx2
  refine Run_join (fun L' h' => L' = [(0, .slice as_ s_.length cs_), (5, iV x2.2)] ∧ Hold h h' [lrows cd2 24 as_ s_.length cs_ x2.1, box bdel0 22 [.slice adel0 del0.length cdel0], it]) ?_ ?_
  ·rintro _ h2 ⟨rfl, H3⟩
   refine Zs ?_
   refine Run_ops ?_
   obtain ⟨x6, hx5, hF⟩ := M.bind_some hF
   obtain ⟨hx5a, hx5b, hx5c, hx5d⟩ := M.sub_some hx5
   have hn1 : x6.length = (s_.length : Int).toNat - (x2.2 : Int).toNat := by rw [hx5d, List.length_take, List.length_drop]; omega
   refine Zr [.slice as_ s_.length cs_, iV x2.2] 0 ?_
   refine Zz (.slice (sliceA as_ cs_ x2.2.toNat 1) ((s_.length : Int).toNat - (x2.2 : Int).toNat) (cs_ - x2.2.toNat)) (Y_slice (t := 22) (e := 24) (sz := 1) (a := as_) (n := s_.length) (cap := cs_) (lo := (some (.i64, x2.2))) (hi := none) (x := x2.2) (y := (s_.length : Int)) (by kernel_rfl) Tryz.underlying22 (by kernel_rfl) (by rw [← (H3.lenL 0 rfl)]; exact (H3.rdL 0 rfl).fits) rfl rfl hx5a hx5b (by have := (H3.lenL 0 rfl); have := hx5c; omega)) ?_
   refine Ze ?_
   refine E_clearL (C := cd2) (t := 22) (ty := 0) (ey := 24) (n := s_.length) (m := (s_.length : Int).toNat - (x2.2 : Int).toNat) (c2 := cs_ - x2.2.toNat) (k := x2.2.toNat) H3 cd24_ti Tryz.underlying22 (by kernel_rfl) (by have := H3.lenL 0 rfl; omega) (by have := H3.lenL 0 rfl; omega) (fun h5 H6 => ?_)
   have hn2 : s_.length = (x2.1.take x2.2.toNat ++ List.replicate ((s_.length : Int).toNat - (x2.2 : Int).toNat) []).length := by have := H6.lenL 0 rfl; exact this.symm
   refine Zx ?_
   refine Zk [0, 5] [(0, .slice as_ s_.length cs_), (5, iV x2.2)] ?_
   refine Zs ?_
   obtain ⟨x7, hx6, hF⟩ := M.bind_some hF
   obtain ⟨hx6a, hx6b, hx6c, hx6d⟩ := M.sub_some hx6
   have hx6q : x7 = (x2.1.take x2.2.toNat ++ List.replicate ((s_.length : Int).toNat - (x2.2 : Int).toNat) []).take x2.2.toNat := by rw [hx6d]; rfl
   have H8 := Hold.cutL (k := x2.2.toNat) H6 (by have := H6.lenL 0 rfl; omega)
   have H9 : Hold h h5 [lrows cd2 24 as_ x7.length cs_ x7, box bdel0 22 [.slice adel0 del0.length cdel0], it] := by rw [hx6q]; exact H8.normL
   refine Zg 4 [(4, .slice as_ x7.length cs_)] ?_ ?_
   ·refine Zb [.slice as_ s_.length cs_, iV x2.2] 0 ?_
    refine Zy (.slice as_ x7.length cs_) (Y_eq (Y_slice (t := 22) (e := 24) (sz := 1) (a := as_) (n := s_.length) (cap := cs_) (lo := none) (hi := (some (.i64, x2.2))) (x := 0) (y := x2.2) (by kernel_rfl) Tryz.underlying22 (by kernel_rfl) (by rw [← (H6.lenL 0 rfl)]; exact (H6.rdL 0 rfl).fits) rfl rfl hx6a hx6b (by have := (H6.lenL 0 rfl); have := hx6c; omega)) (by rw [show sliceA as_ cs_ (0 : Int).toNat 1 = as_ from sliceA0 (H9.rdL 0 rfl)]; congr 1; simp only [hx6q, List.length_take]; omega)) ?_
    refine Zb [.slice as_ x7.length cs_] 3 ?_
    exact Zd [4]
   have hF := M.ret_some hF
   subst hF
   have rV2 := (H9.rdL 0 rfl)
   have H10 : Hold h h5 [box bdel0 22 [.slice adel0 del0.length cdel0], it] := H9.pk [1, 2]
   exact Run_ret1 rfl (Zt (.slice as_ x7.length cs_)) ⟨as_, cs_, rfl, rV2, H10⟩
  ·refine Run_block ?_
   refine Zk [0, 1, 5, 6] [(0, .slice as_ s_.length cs_), (1, .func (.func 74) #[] #[pV bdel0]), (5, iV x1), (6, iV (w64 (x1 + 1)))] ?_
   refine Run_loop (fun m L' h' => ∃ (i1 : Int) (s1 : (List (List Int)) × Int), w64 (x1 + 1) ≤ i1 ∧ M.forN (s_.length : Int) _ _ n m i1 s1 = some x2 ∧ L' = [(0, .slice as_ s_.length cs_), (1, .func (.func 74) #[] #[pV bdel0]), (5, iV s1.2), (6, iV i1)] ∧ Hold h h' [lrows cd2 24 as_ s_.length cs_ s1.1, box bdel0 22 [.slice adel0 del0.length cdel0], it]) ((s_.length : Int) - (w64 (x1 + 1)) : Int).toNat ⟨w64 (x1 + 1), (s_, x1), Int.le_refl _, gx2, rfl, HM⟩ ?_
   rintro my1 _ h1 ⟨i1, s1, hloy1', gx2, rfl, H2⟩
   refine Zs ?_
   refine Zs ?_
   refine Zq [iV i1, .slice as_ s_.length cs_, iV (s_.length : Int), .bool (decide (i1 < (s_.length : Int)))] [0, 1, 5, 6, 19] [(0, .slice as_ s_.length cs_), (1, .func (.func 74) #[] #[pV bdel0]), (5, iV s1.2), (6, iV i1), (19, .bool (decide (i1 < (s_.length : Int))))] ?_
   refine Zc (decide (i1 < (s_.length : Int))) (fun hb2 => ?_) (fun hb2 => ?_)
   ·obtain ⟨my1, y1, rfl, hB1, hgoy1, houty1⟩ := M.for_go gx2 hb2
    have hlty1 := of_decide_eq_true hb2
    refine Run_skip ?_
    refine Zs ?_
    refine Run_block ?_
    refine Zs ?_
    obtain ⟨x3, hx2, hB1⟩ := M.bind_some hB1
    obtain ⟨hx2l, hx2u, hx2⟩ := M.idx_some hx2
    obtain ⟨a1, c1, hc1, r1⟩ := (H2.rdL 0 rfl).row hx2
    refine Zg 5 [(0, .slice as_ s_.length cs_), (1, .func (.func 74) #[] #[pV bdel0]), (5, iV s1.2), (6, iV i1), (7, .slice a1 x3.length c1)] ?_ ?_
    ·refine Zb [.slice as_ s_.length cs_, iV i1] 0 ?_
     refine Zy (.pointer (some (adr as_ (i1.toNat * 1)))) (Zi 22 24 1 (as_) (s_.length) (cs_) .i64 (i1) Tryz.underlying22 ((H2.rdL 0 rfl).cell hx2).1 hx2l (by rw [← (H2.lenL 0 rfl)]; exact hx2u)) ?_
     refine Zy (.slice a1 x3.length c1) (Zl 24 (adr as_ (i1.toNat * 1)) (.slice a1 x3.length c1) hc1) ?_
     refine Zb [.slice a1 x3.length c1] 4 ?_
     exact Zd [0, 1, 5, 6, 7]
    refine Zs ?_
    obtain ⟨x4, hx3, hB1⟩ := M.bind_some hB1
    refine Zg 4 [(0, .slice as_ s_.length cs_), (1, .func (.func 74) #[] #[pV bdel0]), (5, iV s1.2), (6, iV i1), (7, .slice a1 x3.length c1), (29, .bool (!x4))] ?_ ?_
    ·refine Zb [.func (.func 74) #[] #[pV bdel0], .slice a1 x3.length c1] 0 ?_
     refine Zy (.bool x4) (ZQ 74 #[.slice a1 x3.length c1, pV bdel0] (w_impl_criticalComponents_1 h1 x3 a1 c1 r1 del0 adel0 cdel0 (rdel0.at H2.ext) bdel0 (H2.var 1 rfl) _ _ hx3)) ?_
     refine Zb [.bool (!x4)] 3 ?_
     exact Zd [0, 1, 5, 6, 7, 29]
    obtain ⟨s2, gs2, hB1⟩ := M.bind_some hB1
    refine Run_join (fun L' h' => L' = [(0, .slice as_ s_.length cs_), (1, .func (.func 74) #[] #[pV bdel0]), (5, iV s2.2), (6, iV i1)] ∧ Hold h h' [lrows cd2 24 as_ s_.length cs_ s2.1, box bdel0 22 [.slice adel0 del0.length cdel0], it]) ?_ ?_
    ·rintro _ h4 ⟨rfl, H5⟩
     refine Run_blk ?_
     refine Zg 3 [(0, .slice as_ s_.length cs_), (1, .func (.func 74) #[] #[pV bdel0]), (5, iV s2.2), (6, iV (i1 + 1))] ?_ ?_
     ·refine Zb [iV i1] 0 ?_
      refine Zy (iV (i1 + 1)) (Y_eq (v := iV (w64 (i1 + 1))) (Y_pure (fun w => by kernel_rfl)) (by rw [w64_eq _ (by omega)])) ?_
      refine Zb [iV (i1 + 1)] 2 ?_
      exact Zd [0, 1, 5, 6]
     have hB1 := M.ret_some hB1
     have gx2 := hgoy1 _ hB1.symm
     exact Za [0, 1, 5, 6] my1 ⟨i1 + 1, (s2.1, s2.2), by omega, gx2, rfl, H5⟩
    ·refine Zc (!x4) (fun hb3 => ?_) (fun hb3 => ?_)
     ·have gs2 := (M.ite_some gs2).1 hb3
      refine Zs ?_
      refine Run_ops ?_
      obtain ⟨x5, hx4, gs2⟩ := M.bind_some gs2
      obtain ⟨hx4l, hx4u, hx4⟩ := M.idx_some hx4
      refine Zr [.slice as_ s_.length cs_, iV s1.2, .slice a1 x3.length c1] 0 ?_
      refine Zz (.pointer (some (adr as_ (s1.2.toNat * 1)))) (Zi 22 24 1 (as_) (s_.length) (cs_) .i64 (s1.2) Tryz.underlying22 ((H2.rdL 0 rfl).cell hx4).1 hx4l (by rw [← (H2.lenL 0 rfl)]; exact hx4u)) ?_
      obtain ⟨l1, hu1, gs2⟩ := M.bind_some gs2
      have hu1 := M.upd_some hu1
      refine Ze ?_
      refine E_putL (t := 24) (j := s1.2) H2 hx2 hc1 (by kernel_rfl) (by kernel_rfl) hu1 (fun h3 H4 => ?_)
      refine Zx ?_
      refine Zk [0, 1, 5, 6] [(0, .slice as_ s_.length cs_), (1, .func (.func 74) #[] #[pV bdel0]), (5, iV s1.2), (6, iV i1)] ?_
      refine Zq [iV s1.2, iV (w64 (s1.2 + 1)), iV (w64 (s1.2 + 1))] [0, 1, 5, 6] [(0, .slice as_ s_.length cs_), (1, .func (.func 74) #[] #[pV bdel0]), (5, iV (w64 (s1.2 + 1))), (6, iV i1)] ?_
      have gs2 := M.ret_some gs2
      subst gs2
      exact Zf [0, 1, 5, 6] ⟨rfl, H4⟩
     ·have gs2 := (M.ite_some gs2).2 hb3
      refine Run_skip ?_
      have gs2 := M.ret_some gs2
      subst gs2
      exact Zf [0, 1, 5, 6] ⟨rfl, H2⟩
   ·have gx2 := M.for_end gx2 hb2
    subst gx2
    refine Run_exit (k' := _) rfl ?_
    exact Zf [0, 5] ⟨rfl, H2⟩

theorem w_impl_criticalComponents (h : Heap) (critical : List (List Int)) (acritical : Option Addr) (ccritical : Nat) (rcritical : Rd cd24 h (Lt h) acritical ccritical critical) (n : Nat) (r : (List (List Int))) (hF : impl_criticalComponents critical n = some r) :
  Fn Tryz.prog 40 #[.slice acritical critical.length ccritical] h fun v h' => ∃ (a0 : Option Addr) (c0 : Nat), v = .slice a0 r.length c0 ∧ Rd cd24 h' (Lt h') a0 c0 r ∧ Hold h h' [] := by
 unfold impl_criticalComponents at hF
 refine Zo [.slice acritical critical.length ccritical] Tryz.func40 rfl (fun w0 _ => ?_)
 have H0 := Hold.init h
 refine Zs ?_
 refine Run_ops ?_
 refine Ze ?_
 refine E_box (ty := 22) (cs := [.slice acritical critical.length ccritical]) H0 (fun w => by kernel_rfl) (fun b1 h1 H1 => ?_)
 refine Zr [.slice none 0 0] 1 ?_
 refine Zx ?_
 refine Zk [1] [(1, pV b1)] ?_
 refine Zs ?_
 refine Run_ops ?_
 refine Zz (.slice acritical critical.length ccritical) (Zl 22 (⟨b1, 0, none⟩) (.slice acritical critical.length ccritical) (H1.cell 0 rfl rfl)) ?_
 obtain ⟨x1, hx1, hF⟩ := M.bind_some hF
 refine Ze ?_
 refine ZC 73 #[.slice acritical critical.length ccritical] (w_impl_componentsOf h1 critical acritical ccritical (rcritical.at H1.ext) _ _ hx1) (fun v1 h2 hp1 => ?_)
 obtain ⟨a1, c1, rfl, H2⟩ := hp1
 have H3 : Hold h h2 [own cd24 a1 x1.length c1 x1, box b1 22 [.slice acritical critical.length ccritical]] := H1.call H2 rfl
 refine Zr [.func (.func 74) #[] #[pV b1]] 2 ?_
 obtain ⟨x2, hx2, hF⟩ := M.bind_some hF
 have H4 := H3.toL
 have H5 : Hold h h2 [lrows cd2 24 a1 x1.length c1 x1, box b1 22 [.slice acritical critical.length ccritical], bun []] := Hold.bundle (S := [lrows cd2 24 a1 x1.length c1 x1, box b1 22 [.slice acritical critical.length ccritical]]) (R := []) H4
 refine Ze ?_
 refine ZC 72 #[.slice a1 x1.length c1, .func (.func 74) #[] #[pV b1]] (w_slices_DeleteFunc_row_F_impl_criticalComponents_1 h h2 _ x1 a1 c1 critical acritical ccritical rcritical b1 H5 _ _ hx2) (fun v2 h3 hp2 => ?_)
 obtain ⟨a2, c2, rfl, rV1, H6⟩ := hp2
 have H7 : Hold h h3 [box b1 22 [.slice acritical critical.length ccritical]] := Hold.unbundle (S := [box b1 22 [.slice acritical critical.length ccritical]]) (R := []) H6 (Hold.tailBase (S := [lrows cd2 24 a1 x1.length c1 x1, box b1 22 [.slice acritical critical.length ccritical]]) (R := []) H4)
 refine Zr [.slice a2 x2.length c2] 4 ?_
 refine Zx ?_
 refine Zk [2] [(2, .slice a2 x2.length c2)] ?_
 have hF := M.ret_some hF
 subst hF
 have rV2 := rV1
 have H8 : Hold h h3 [] := H7.pk []
 exact Run_ret1 rfl (Zt (.slice a2 x2.length c2)) ⟨a2, c2, rfl, rV2, H8⟩

theorem w_slices_Grow_int_nil (h : Heap) (n_ : Int) (n : Nat) (r : (List Int)) (hF : slices_Grow_int_nil n_ n = some r) :
  Fn Tryz.prog 71 #[.slice none 0 0, iV n_] h fun v h' => ∃ (a0 : Option Addr) (c0 : Nat), v = .slice a0 r.length c0 ∧ Hold h h' [own cd2 a0 r.length c0 r] := by
 unfold slices_Grow_int_nil at hF
 refine Zo [.slice none 0 0, iV n_] Tryz.func71 rfl (fun w0 _ => ?_)
 have H0 := Hold.init h
 refine Zs ?_
 refine Zq [.slice none 0 0] [0, 1] [(0, .slice none 0 0), (1, iV n_)] ?_
 refine Zs ?_
 refine Zs ?_
 refine Zq [iV n_, .bool (decide (n_ < 0))] [0, 1, 6] [(0, .slice none 0 0), (1, iV n_), (6, .bool (decide (n_ < 0)))] ?_
 obtain ⟨s1, gs1, hF⟩ := M.bind_some hF
 refine Run_join (fun L' h' => L' = [(0, .slice none 0 0), (1, iV n_)] ∧ Hold h h' []) ?_ ?_
 ·rintro _ h1 ⟨rfl, H1⟩
  refine Zs ?_
  refine Zs ?_
  refine Zq [iV n_, .slice none 0 0, iV 0, .slice none 0 0, iV 0, iV (w64 (0 - 0)), iV (w64 (n_ - (w64 (0 - 0)))), iV (w64 (n_ - (w64 (0 - 0))))] [0, 1] [(0, .slice none 0 0), (1, iV (w64 (n_ - (w64 (0 - 0)))))] ?_
  refine Zs ?_
  refine Zq [iV (w64 (n_ - (w64 (0 - 0)))), .bool (decide (0 < (w64 (n_ - (w64 (0 - 0))))))] [0, 1, 16] [(0, .slice none 0 0), (1, iV (w64 (n_ - (w64 (0 - 0))))), (16, .bool (decide (0 < (w64 (n_ - (w64 (0 - 0)))))))] ?_
  obtain ⟨s2, gs2, hF⟩ := M.bind_some hF
  refine Run_join (fun L' h' => ∃ (a2 : Option Addr), ∃ (c2 : Nat), L' = [(0, .slice a2 s2.length c2)] ∧ Hold h h' [own cd2 a2 s2.length c2 s2]) ?_ ?_
  ·rintro _ h3 ⟨a2, c2, rfl, H5⟩
   refine Zs ?_
   refine Zq [.slice a2 s2.length c2, .slice a2 s2.length c2] [4] [(4, .slice a2 s2.length c2)] ?_
   have hF := M.ret_some hF
   subst hF
   exact Run_ret1 rfl (Zt (.slice a2 s2.length c2)) ⟨a2, c2, rfl, H5⟩
  ·refine Zc (decide (0 < (w64 (n_ - (w64 (0 - 0)))))) (fun hb2 => ?_) (fun hb2 => ?_)
   ·have gs2 := (M.ite_some gs2).1 hb2
    refine Run_ops ?_
    refine Zr [.slice none 0 0, .slice none 0 0, iV 0, .slice none 0 0, iV (w64 (n_ - (w64 (0 - 0))))] 0 ?_
    obtain ⟨l1, hl1, gs2⟩ := M.bind_some gs2
    have hl1 := M.make_some hl1
    refine Ze ?_
    refine E_appMake (C := cd2) (kn := .i64) (kt := .i64) (t := 24) (ti := 3) (ty := 24) (z := iV 0) (b := 8) 0 H1 cd2_ti Tryz.underlying24 (by kernel_rfl) (by decide) (by decide) rfl cd2_zero (by kernel_rfl) hl1 (fun a1 c1 h2 H2 => ?_)
    obtain ⟨x1, hx1, gs2⟩ := M.bind_some gs2
    obtain ⟨hx1a, hx1b, hx1c, hx1d⟩ := M.sub_some hx1
    obtain ⟨H3, e1⟩ := H2.cut 0
    have hx1q : x1 = l1.take 0 := by rw [hx1d]; rfl
    have H4 : Hold h h2 [own cd2 a1 x1.length c1 x1] := by rw [hx1q]; exact H3
    refine Zr [.slice none 0 0, iV 0] 6 ?_
    refine Zz (.slice a1 x1.length c1) (Y_eq (Y_slice (t := 24) (e := 2) (sz := 1) (a := a1) (n := l1.length) (cap := c1) (lo := none) (hi := (some (.i64, 0))) (x := 0) (y := 0) (by kernel_rfl) Tryz.underlying24 (by kernel_rfl) (H2.rd 0 rfl).fits rfl rfl hx1a hx1b hx1c) (by rw [show sliceA a1 c1 (0 : Int).toNat 1 = a1 from e1]; simp only [hx1q, List.length_take]; congr 1 <;> omega)) ?_
    refine Zr [.slice a1 x1.length c1] 9 ?_
    refine Zx ?_
    refine Zk [0] [(0, .slice a1 x1.length c1)] ?_
    have gs2 := M.ret_some gs2
    subst gs2
    exact Zf [0] ⟨a1, c1, rfl, H4⟩
   ·have gs2 := (M.ite_some gs2).2 hb2
    refine Run_skip ?_
    have H6 := H1.empty cd2
    have gs2 := M.ret_some gs2
    subst gs2
    exact Zf [0] ⟨none, 0, rfl, H6⟩
 ·refine Zc (decide (n_ < 0)) (fun hb1 => ?_) (fun hb1 => ?_)
  ·have gs1 := (M.ite_some gs1).1 hb1
   exact (M.fail_some gs1).elim
  ·have gs1 := (M.ite_some gs1).2 hb1
   refine Run_skip ?_
   have gs1 := M.ret_some gs1
   subst gs1
   exact Zf [0, 1] ⟨rfl, H0⟩

theorem w_slices_Concat_int (h : Heap) (slices : List (List Int)) (aslices : Option Addr) (cslices : Nat) (rslices : Rd cd24 h (Lt h) aslices cslices slices) (n : Nat) (r : (List Int)) (hF : slices_Concat_int slices n = some r) :
  Fn Tryz.prog 39 #[.slice aslices slices.length cslices] h fun v h' => ∃ (a0 : Option Addr) (c0 : Nat), v = .slice a0 r.length c0 ∧ Hold h h' [own cd2 a0 r.length c0 r] := by
 unfold slices_Concat_int at hF
 refine Zo [.slice aslices slices.length cslices] Tryz.func39 rfl (fun w0 _ => ?_)
 have H0 := Hold.init h
 refine Zs ?_
 refine Zq [.slice none 0 0] [0] [(0, .slice aslices slices.length cslices)] ?_
 refine Zs ?_
 refine Zq [iV 0] [0, 3] [(0, .slice aslices slices.length cslices), (3, iV 0)] ?_
 refine Zs ?_
 refine Zs ?_
 refine Zq [.slice aslices slices.length cslices, iV (slices.length : Int), iV 0] [0, 3, 9, 10, 11] [(0, .slice aslices slices.length cslices), (3, iV 0), (9, .slice aslices slices.length cslices), (10, iV (slices.length : Int)), (11, iV 0)] ?_
 obtain ⟨x1, gx1, hF⟩ := M.bind_some hF
 obtain ⟨hloy1, hhiy1, gx1⟩ := M.for_start gx1
 refine Run_join (fun L' h' => L' = [(0, .slice aslices slices.length cslices), (3, iV x1)] ∧ Hold h h' []) ?_ ?_
 ·rintro _ h2 ⟨rfl, H2⟩
  refine Zs ?_
  refine Run_ops ?_
  refine Zr [iV x1] 0 ?_
  obtain ⟨x3, hx2, hF⟩ := M.bind_some hF
  refine Ze ?_
  refine ZC 71 #[.slice none 0 0, iV x1] (w_slices_Grow_int_nil h2 x1 _ _ hx2) (fun v1 h4 hp1 => ?_)
  obtain ⟨a2, c2, rfl, H4⟩ := hp1
  have H5 : Hold h h4 [own cd2 a2 x3.length c2 x3] := H2.call H4 rfl
  refine Zr [.slice a2 x3.length c2] 2 ?_
  refine Zx ?_
  refine Zk [0, 6] [(0, .slice aslices slices.length cslices), (6, .slice a2 x3.length c2)] ?_
  refine Zs ?_
  refine Zs ?_
  refine Zq [.slice aslices slices.length cslices, iV (slices.length : Int), iV 0] [6, 25, 26, 27] [(6, .slice a2 x3.length c2), (25, .slice aslices slices.length cslices), (26, iV (slices.length : Int)), (27, iV 0)] ?_
  obtain ⟨x4, gx4, hF⟩ := M.bind_some hF
  obtain ⟨hloy2, hhiy2, gx4⟩ := M.for_start gx4
  refine Run_join (fun L' h' => ∃ (a4 : Option Addr) (c4 : Nat), L' = [(6, .slice a4 x4.length c4)] ∧ Hold h h' [own cd2 a4 x4.length c4 x4]) ?_ ?_
  ·rintro _ h6 ⟨a4, c4, rfl, H7⟩
   refine Zs ?_
   refine Zq [.slice a4 x4.length c4, .slice a4 x4.length c4] [2] [(2, .slice a4 x4.length c4)] ?_
   have hF := M.ret_some hF
   subst hF
   exact Run_ret1 rfl (Zt (.slice a4 x4.length c4)) ⟨a4, c4, rfl, H7⟩
  ·refine Run_block ?_
   refine Zk [6, 25, 26, 27] [(6, .slice a2 x3.length c2), (25, .slice aslices slices.length cslices), (26, iV (slices.length : Int)), (27, iV 0)] ?_
   refine Run_loop (fun m L' h' => ∃ (i2 : Int) (s3 : (List Int)) (a3 : Option Addr) (c3 : Nat), 0 ≤ i2 ∧ M.forN (slices.length : Int) _ _ n m i2 s3 = some x4 ∧ L' = [(6, .slice a3 s3.length c3), (25, .slice aslices slices.length cslices), (26, iV (slices.length : Int)), (27, iV i2)] ∧ Hold h h' [own cd2 a3 s3.length c3 s3]) ((slices.length : Int) - 0 : Int).toNat ⟨0, x3, a2, c2, Int.le_refl _, gx4, rfl, H5⟩ ?_
   rintro my2 _ h5 ⟨i2, s3, a3, c3, hloy2', gx4, rfl, H6⟩
   refine Zs ?_
   refine Zq [.bool (decide (i2 < (slices.length : Int)))] [6, 25, 26, 27, 28] [(6, .slice a3 s3.length c3), (25, .slice aslices slices.length cslices), (26, iV (slices.length : Int)), (27, iV i2), (28, .bool (decide (i2 < (slices.length : Int))))] ?_
   refine Zs ?_
   refine Zc (decide (i2 < (slices.length : Int))) (fun hb3 => ?_) (fun hb3 => ?_)
   ·obtain ⟨my2, y2, rfl, hB2, hgoy2, houty2⟩ := M.for_go gx4 hb3
    have hlty2 := of_decide_eq_true hb3
    refine Run_skip ?_
    refine Zs ?_
    refine Run_block ?_
    refine Zs ?_
    obtain ⟨x5, hx3, hB2⟩ := M.bind_some hB2
    obtain ⟨hx3l, hx3u, hx3⟩ := M.idx_some hx3
    obtain ⟨a5, c5, hc2, r2⟩ := rslices.row hx3
    refine Zg 3 [(6, .slice a3 s3.length c3), (8, .slice a5 x5.length c5), (25, .slice aslices slices.length cslices), (26, iV (slices.length : Int)), (27, iV i2)] ?_ ?_
    ·refine Zy (.pointer (some (adr aslices (i2.toNat * 1)))) (Zi 22 24 1 (aslices) (slices.length) (cslices) .i64 (i2) Tryz.underlying22 ((rslices.at H6.ext).cell hx3).1 hx3l hx3u) ?_
     refine Zy (.slice a5 x5.length c5) (Zl 24 (adr aslices (i2.toNat * 1)) (.slice a5 x5.length c5) (cell_at H6.ext hc2)) ?_
     refine Zb [.slice a5 x5.length c5] 2 ?_
     exact Zd [6, 8, 25, 26, 27]
    refine Run_ops ?_
    refine Zr [.slice a3 s3.length c3, .slice a5 x5.length c5] 0 ?_
    obtain ⟨l1, hl1, hB2⟩ := M.bind_some hB2
    have hl1 := M.app_some hl1
    refine Ze ?_
    refine E_appR (C := cd2) (t := 24) (ty := 24) (n := s3.length) (m := x5.length) H6 cd2_copies (r2.at H6.ext) rfl cd2_ti rfl Tryz.underlying24 (by decide) (by kernel_rfl) hl1 (fun a6 c6 h7 H8 => ?_)
    refine Zr [.slice a6 l1.length c6] 3 ?_
    refine Zx ?_
    refine Zk [6, 25, 26, 27] [(6, .slice a6 l1.length c6), (25, .slice aslices slices.length cslices), (26, iV (slices.length : Int)), (27, iV i2)] ?_
    refine Run_blk ?_
    refine Zg 2 [(6, .slice a6 l1.length c6), (25, .slice aslices slices.length cslices), (26, iV (slices.length : Int)), (27, iV (i2 + 1))] ?_ ?_
    ·refine Zy (iV (i2 + 1)) (Y_eq (v := iV (w64 (i2 + 1))) (Y_pure (fun w => by kernel_rfl)) (by rw [w64_eq _ (by omega)])) ?_
     refine Zb [iV (i2 + 1)] 1 ?_
     exact Zd [6, 25, 26, 27]
    have hB2 := M.ret_some hB2
    have gx4 := hgoy2 _ hB2.symm
    exact Za [6, 25, 26, 27] my2 ⟨i2 + 1, l1, a6, c6, by omega, gx4, rfl, H8⟩
   ·have gx4 := M.for_end gx4 hb3
    subst gx4
    refine Run_exit (k' := _) rfl ?_
    exact Zf [6] ⟨a3, c3, rfl, H6⟩
 ·refine Run_block ?_
  refine Zk [0, 3, 9, 10, 11] [(0, .slice aslices slices.length cslices), (3, iV 0), (9, .slice aslices slices.length cslices), (10, iV (slices.length : Int)), (11, iV 0)] ?_
  refine Run_loop (fun m L' h' => ∃ (i1 : Int) (s1 : Int), 0 ≤ i1 ∧ M.forN (slices.length : Int) _ _ n m i1 s1 = some x1 ∧ L' = [(0, .slice aslices slices.length cslices), (3, iV s1), (9, .slice aslices slices.length cslices), (10, iV (slices.length : Int)), (11, iV i1)] ∧ Hold h h' []) ((slices.length : Int) - 0 : Int).toNat ⟨0, 0, Int.le_refl _, gx1, rfl, H0⟩ ?_
  rintro my1 _ h1 ⟨i1, s1, hloy1', gx1, rfl, H1⟩
  refine Zs ?_
  refine Zq [.bool (decide (i1 < (slices.length : Int)))] [0, 3, 9, 10, 11, 12] [(0, .slice aslices slices.length cslices), (3, iV s1), (9, .slice aslices slices.length cslices), (10, iV (slices.length : Int)), (11, iV i1), (12, .bool (decide (i1 < (slices.length : Int))))] ?_
  refine Zs ?_
  refine Zc (decide (i1 < (slices.length : Int))) (fun hb1 => ?_) (fun hb1 => ?_)
  ·obtain ⟨my1, y1, rfl, hB1, hgoy1, houty1⟩ := M.for_go gx1 hb1
   have hlty1 := of_decide_eq_true hb1
   refine Run_skip ?_
   refine Zs ?_
   refine Run_block ?_
   refine Zs ?_
   obtain ⟨x2, hx1, hB1⟩ := M.bind_some hB1
   obtain ⟨hx1l, hx1u, hx1⟩ := M.idx_some hx1
   obtain ⟨a1, c1, hc1, r1⟩ := rslices.row hx1
   refine Zg 3 [(0, .slice aslices slices.length cslices), (3, iV s1), (5, .slice a1 x2.length c1), (9, .slice aslices slices.length cslices), (10, iV (slices.length : Int)), (11, iV i1)] ?_ ?_
   ·refine Zy (.pointer (some (adr aslices (i1.toNat * 1)))) (Zi 22 24 1 (aslices) (slices.length) (cslices) .i64 (i1) Tryz.underlying22 ((rslices.at H1.ext).cell hx1).1 hx1l hx1u) ?_
    refine Zy (.slice a1 x2.length c1) (Zl 24 (adr aslices (i1.toNat * 1)) (.slice a1 x2.length c1) (cell_at H1.ext hc1)) ?_
    refine Zb [.slice a1 x2.length c1] 2 ?_
    exact Zd [0, 3, 5, 9, 10, 11]
   refine Zs ?_
   refine Zq [iV s1, .slice a1 x2.length c1, iV (x2.length : Int), iV (w64 (s1 + (x2.length : Int))), iV (w64 (s1 + (x2.length : Int)))] [0, 3, 9, 10, 11] [(0, .slice aslices slices.length cslices), (3, iV (w64 (s1 + (x2.length : Int)))), (9, .slice aslices slices.length cslices), (10, iV (slices.length : Int)), (11, iV i1)] ?_
   refine Zs ?_
   refine Zq [iV (w64 (s1 + (x2.length : Int))), .bool (decide ((w64 (s1 + (x2.length : Int))) < 0))] [0, 3, 9, 10, 11, 20] [(0, .slice aslices slices.length cslices), (3, iV (w64 (s1 + (x2.length : Int)))), (9, .slice aslices slices.length cslices), (10, iV (slices.length : Int)), (11, iV i1), (20, .bool (decide ((w64 (s1 + (x2.length : Int))) < 0)))] ?_
   obtain ⟨s2, gs2, hB1⟩ := M.bind_some hB1
   refine Run_join (fun L' h' => L' = [(0, .slice aslices slices.length cslices), (3, iV (w64 (s1 + (x2.length : Int)))), (9, .slice aslices slices.length cslices), (10, iV (slices.length : Int)), (11, iV i1)] ∧ Hold h h' []) ?_ ?_
   ·rintro _ h3 ⟨rfl, H3⟩
    refine Run_blk ?_
    refine Zg 2 [(0, .slice aslices slices.length cslices), (3, iV (w64 (s1 + (x2.length : Int)))), (9, .slice aslices slices.length cslices), (10, iV (slices.length : Int)), (11, iV (i1 + 1))] ?_ ?_
    ·refine Zy (iV (i1 + 1)) (Y_eq (v := iV (w64 (i1 + 1))) (Y_pure (fun w => by kernel_rfl)) (by rw [w64_eq _ (by omega)])) ?_
     refine Zb [iV (i1 + 1)] 1 ?_
     exact Zd [0, 3, 9, 10, 11]
    have hB1 := M.ret_some hB1
    have gx1 := hgoy1 _ hB1.symm
    exact Za [0, 3, 9, 10, 11] my1 ⟨i1 + 1, (w64 (s1 + (x2.length : Int))), by omega, gx1, rfl, H3⟩
   ·refine Zc (decide ((w64 (s1 + (x2.length : Int))) < 0)) (fun hb2 => ?_) (fun hb2 => ?_)
    ·have gs2 := (M.ite_some gs2).1 hb2
     exact (M.fail_some gs2).elim
    ·have gs2 := (M.ite_some gs2).2 hb2
     refine Run_skip ?_
     have gs2 := M.ret_some gs2
     subst gs2
     exact Zf [0, 3, 9, 10, 11] ⟨rfl, H1⟩
  ·have gx1 := M.for_end gx1 hb1
   subst gx1
   refine Run_exit (k' := _) rfl ?_
   exact Zf [0, 3] ⟨rfl, H1⟩

theorem w_cmp_Less_i (h : Heap) (x_ : Int) (y_ : Int) (n : Nat) (r : Bool) (hF : cmp_Less_i x_ y_ n = some r) :
  Fn Tryz.prog 121 #[iV x_, iV y_] h fun v h' => v = .bool r ∧ h' = h := by
 unfold cmp_Less_i at hF
 refine Zo [iV x_, iV y_] Tryz.func121 rfl (fun w0 _ => ?_)
 refine Zs ?_
 refine Zq [.bool false] [0, 1] [(0, iV x_), (1, iV y_)] ?_
 refine Zs ?_
 obtain ⟨x1, hx1, hF⟩ := M.bind_some hF
 obtain ⟨x2, gx2, hF⟩ := M.bind_some hF
 refine Zg 13 [(4, .bool (x2 || (decide (x_ < y_))))] ?_ ?_
 ·refine Zb [iV x_] 0 ?_
  refine Zy (.bool x1) (ZQ 151 #[iV x_] (w_cmp_isNaN_i h x_ _ _ hx1)) ?_
  refine QRun_seq 7 [(0, iV x_), (1, iV y_), (11, .bool x2)] ?_ ?_
  ·rcases Bool.eq_false_or_eq_true x1 with hb1 | hb1
   ·refine Zv x1 true hb1 ?_
    have gx2 := (M.ite_some gx2).1 hb1
    obtain ⟨x3, hx2, gx2⟩ := M.bind_some gx2
    have gx2 := M.ret_some gx2
    refine Zb [iV y_] 3 ?_
    refine Zy (.bool x3) (ZQ 151 #[iV y_] (w_cmp_isNaN_i h y_ _ _ hx2)) ?_
    refine Zb [.bool (!x3)] 5 ?_
    refine Zv (!x3) x2 gx2 ?_
    exact Zd [0, 1, 11]
   ·refine Zv x1 false hb1 ?_
    have gx2 := M.ret_some ((M.ite_some gx2).2 hb1)
    refine Zn ?_
    refine Zn ?_
    refine Zn ?_
    refine Zv false x2 gx2 ?_
    exact Zd [0, 1, 11]
  refine QRun_seq 12 [(16, .bool (x2 || (decide (x_ < y_))))] ?_ ?_
  ·rcases Bool.eq_false_or_eq_true x2 with hb2 | hb2
   ·refine Zv x2 true hb2 ?_
    refine Zn ?_
    refine Zn ?_
    refine Zn ?_
    refine QRun_bool true (x2 || (decide (x_ < y_))) (by kernel_rfl) (fun w => by kernel_rfl) (by rw [hb2]; rfl) ?_
    exact Zd [16]
   ·refine Zv x2 false hb2 ?_
    refine Zb [iV x_, iV y_, .bool (decide (x_ < y_))] 8 ?_
    refine QRun_bool (decide (x_ < y_)) (x2 || (decide (x_ < y_))) (by kernel_rfl) (fun w => by kernel_rfl) (by rw [hb2]; rfl) ?_
    exact Zd [16]
  refine Zb [.bool (x2 || (decide (x_ < y_)))] 12 ?_
  exact Zd [4]
 have hF := M.ret_some hF
 subst hF
 exact Run_ret1 rfl (Zt (.bool (x2 || (decide (x_ < y_))))) ⟨rfl, rfl⟩

theorem w_slices_Sort_int (h hE : Heap) (it : Item) (x_ : List Int) (ax_ : Option Addr) (cx_ : Nat) (HM : Hold h hE [own cd2 ax_ x_.length cx_ x_, it]) (n : Nat) (r : List Int) (hF : slices_Sort_int x_ n = some r) :
  Fn Tryz.prog 41 #[.slice ax_ x_.length cx_] hE fun v h' => v = .tuple #[] ∧ Hold h h' [own cd2 ax_ x_.length cx_ r, it] := by
 obtain ⟨u, hu, hF⟩ := M.bind_some hF
 have hu := of_decide_eq_true (M.guard_some hu)
 have hF := M.ret_some hF
 subst hF
 exact Fn_sortI (C := cd2) laySort rfl ⟨fun _ => rfl, fun _ _ _ _ o => o, fun h x => cd2_own x h⟩ (by kernel_rfl) HM hu

theorem w_impl_CriticalNodes (h : Heap) (a_ : List (List Int)) (aa_ : Option Addr) (ca_ : Nat) (ra_ : Rd cd24 h (Lt h) aa_ ca_ a_) (n : Nat) (r : (List Int) × Int) (hF : impl_CriticalNodes a_ n = some r) :
  Fn Tryz.prog 9 #[.slice aa_ a_.length ca_] h fun v h' => ∃ (a0 : Option Addr) (c0 : Nat), v = .tuple #[.slice a0 r.1.length c0, iV r.2] ∧ Hold h h' [own cd2 a0 r.1.length c0 r.1] := by
 unfold impl_CriticalNodes at hF
 refine Zo [.slice aa_ a_.length ca_] Tryz.func9 rfl (fun w0 _ => ?_)
 have H0 := Hold.init h
 refine Zs ?_
 refine Zq [.slice none 0 0, iV 0] [0] [(0, .slice aa_ a_.length ca_)] ?_
 refine Zs ?_
 refine Run_ops ?_
 refine Zr [.slice aa_ a_.length ca_] 0 ?_
 obtain ⟨x1, hx1, hF⟩ := M.bind_some hF
 refine Ze ?_
 refine ZC 38 #[.slice aa_ a_.length ca_] (w_impl_criticalOf h a_ aa_ ca_ ra_ _ _ hx1) (fun v1 h1 hp1 => ?_)
 obtain ⟨a1, c1, rfl, H1⟩ := hp1
 have H2 : Hold h h1 [own cd24 a1 x1.1.length c1 x1.1] := H0.call H1 rfl
 refine Zr [.tuple #[.slice a1 x1.1.length c1, iV x1.2], .slice a1 x1.1.length c1, iV x1.2, .slice a1 x1.1.length c1, iV x1.2] 2 ?_
 refine Zx ?_
 refine Zk [4, 5] [(4, .slice a1 x1.1.length c1), (5, iV x1.2)] ?_
 refine Zs ?_
 refine Zs ?_
 refine Zq [iV x1.2, .bool (x1.2 != 0)] [4, 5, 13] [(4, .slice a1 x1.1.length c1), (5, iV x1.2), (13, .bool (x1.2 != 0))] ?_
 refine Zc (x1.2 != 0) (fun hb1 => ?_) (fun hb1 => ?_)
 ·have hF := (M.ite_some hF).1 hb1
  refine Zs ?_
  refine Zq [iV x1.2, .slice none 0 0, iV x1.2] [2, 3] [(2, .slice none 0 0), (3, iV x1.2)] ?_
  have hF := M.ret_some hF
  subst hF
  have H3 := H2.empty cd2
  have H4 : Hold h h1 [own cd2 none 0 0 []] := H3.pk [0]
  exact Run_ret2 rfl (Zt (.slice none 0 0)) (Zt (iV x1.2)) ⟨none, 0, rfl, H4⟩
 ·have hF := (M.ite_some hF).2 hb1
  refine Run_skip ?_
  refine Zs ?_
  refine Run_ops ?_
  refine Zr [.slice a1 x1.1.length c1] 0 ?_
  obtain ⟨x2, hx2, hF⟩ := M.bind_some hF
  refine Ze ?_
  refine ZC 40 #[.slice a1 x1.1.length c1] (w_impl_criticalComponents h1 x1.1 a1 c1 (H2.rd 0 rfl) _ _ hx2) (fun v2 h2 hp2 => ?_)
  obtain ⟨a2, c2, rfl, rV1, H5⟩ := hp2
  have H6 : Hold h h2 [own cd24 a1 x1.1.length c1 x1.1] := H2.call H5 rfl
  obtain ⟨x3, hx3, hF⟩ := M.bind_some hF
  refine Ze ?_
  refine ZC 39 #[.slice a2 x2.length c2] (w_slices_Concat_int h2 x2 a2 c2 rV1 _ _ hx3) (fun v3 h3 hp3 => ?_)
  obtain ⟨a3, c3, rfl, H7⟩ := hp3
  have H8 : Hold h h3 [own cd2 a3 x3.length c3 x3, own cd24 a1 x1.1.length c1 x1.1] := H6.call H7 rfl
  refine Zr [.slice a3 x3.length c3] 3 ?_
  refine Zx ?_
  refine Zk [6] [(6, .slice a3 x3.length c3)] ?_
  refine Zs ?_
  refine Run_ops ?_
  refine Zr [.slice a3 x3.length c3] 0 ?_
  obtain ⟨x4, hx4, hF⟩ := M.bind_some hF
  have H9 : Hold h h3 [own cd2 a3 x3.length c3 x3, bun [own cd24 a1 x1.1.length c1 x1.1]] := Hold.bundle (S := [own cd2 a3 x3.length c3 x3]) (R := [own cd24 a1 x1.1.length c1 x1.1]) H8
  refine Ze ?_
  refine ZC 41 #[.slice a3 x3.length c3] (w_slices_Sort_int h h3 _ x3 a3 c3 H9 _ _ hx4) (fun v4 h4 hp4 => ?_)
  obtain ⟨rfl, H10⟩ := hp4
  have H11 : Hold h h4 [own cd2 a3 x3.length c3 x4, own cd24 a1 x1.1.length c1 x1.1] := Hold.unbundle (S := [own cd2 a3 x3.length c3 x4]) (R := [own cd24 a1 x1.1.length c1 x1.1]) H10 (Hold.tailBase (S := [own cd2 a3 x3.length c3 x3]) (R := [own cd24 a1 x1.1.length c1 x1.1]) H8)
  refine Zx ?_
  refine Zk [6] [(6, .slice a3 x3.length c3)] ?_
  refine Zs ?_
  refine Zq [.slice a3 x3.length c3, .slice a3 x3.length c3, iV 0] [2, 3] [(2, .slice a3 x3.length c3), (3, iV 0)] ?_
  have hF := M.ret_some hF
  subst hF
  have H12 := H11.norm
  have H13 : Hold h h4 [own cd2 a3 x4.length c3 x4] := H12.pk [0]
  exact Run_ret2 rfl (Zt (.slice a3 x3.length c3)) (Zt (iV 0)) ⟨a3, c3, (by simp only [(H11.len 0 rfl)]), H13⟩

theorem w_spec_l06Nodes (h : Heap) (a_ : List (List Int)) (aa_ : Option Addr) (ca_ : Nat) (ra_ : Rd cd24 h (Lt h) aa_ ca_ a_) (n : Nat) (r : (List Int)) (hF : spec_l06Nodes a_ n = some r) :
  Fn Tryz.prog 36 #[.slice aa_ a_.length ca_] h fun v h' => ∃ (a0 : Option Addr) (c0 : Nat), v = .slice a0 r.length c0 ∧ Hold h h' [own cd2 a0 r.length c0 r] := by
 unfold spec_l06Nodes at hF
 refine Zo [.slice aa_ a_.length ca_] Tryz.func36 rfl (fun w0 _ => ?_)
 have H0 := Hold.init h
 refine Zs ?_
 refine Zq [.slice none 0 0] [0] [(0, .slice aa_ a_.length ca_)] ?_
 refine Zs ?_
 refine Run_ops ?_
 refine Zr [.slice aa_ a_.length ca_] 0 ?_
 obtain ⟨x1, hx1, hF⟩ := M.bind_some hF
 refine Ze ?_
 refine ZC 44 #[.slice aa_ a_.length ca_] (w_spec_l06Arcs h a_ aa_ ca_ ra_ _ _ hx1) (fun v1 h1 hp1 => ?_)
 obtain ⟨a1, c1, rfl, H1⟩ := hp1
 have H2 : Hold h h1 [own cd24 a1 x1.length c1 x1] := H0.call H1 rfl
 refine Zr [.slice a1 x1.length c1] 2 ?_
 refine Zx ?_
 refine Zk [3] [(3, .slice a1 x1.length c1)] ?_
 refine Zs ?_
 refine Run_ops ?_
 refine Ze ?_
 refine E_lit (C := cd2) (n := 0) (l := ([] : List Int)) (cs := []) H2 (fun w => by kernel_rfl) (Enc.nil _ _) rfl (by decide) (fun a2 h2 H3 => ?_)
 refine Zr [.slice a2 0 0] 1 ?_
 refine Zx ?_
 refine Zk [3, 4] [(3, .slice a1 x1.length c1), (4, .slice a2 0 0)] ?_
 refine Zs ?_
 refine Zs ?_
 refine Zq [iV 0] [3, 4, 5] [(3, .slice a1 x1.length c1), (4, .slice a2 0 0), (5, iV 0)] ?_
 obtain ⟨x2, gx2, hF⟩ := M.bind_some hF
 obtain ⟨hloy1, hhiy1, gx2⟩ := M.for_start gx2
 refine Run_join (fun L' h' => ∃ (a4 : Option Addr) (c3 : Nat), L' = [(4, .slice a4 x2.length c3)] ∧ Hold h h' [own cd2 a4 x2.length c3 x2]) ?_ ?_
 ·rintro _ h4 ⟨a4, c3, rfl, H5⟩
  refine Zs ?_
  refine Zq [.slice a4 x2.length c3, .slice a4 x2.length c3] [2] [(2, .slice a4 x2.length c3)] ?_
  have hF := M.ret_some hF
  subst hF
  exact Run_ret1 rfl (Zt (.slice a4 x2.length c3)) ⟨a4, c3, rfl, H5⟩
 ·refine Run_block ?_
  have hn1 := (H3.len 0 rfl)
  have H26 : Hold h h2 [own cd2 a2 (([] : List Int).length) 0 ([] : List Int), own cd24 a1 x1.length c1 x1] := by rw [hn1]; exact H3
  have H27 : Hold h h2 [own cd24 a1 x1.length c1 x1, own cd2 a2 (([] : List Int).length) 0 ([] : List Int)] := H26.pk [1, 0]
  refine Run_keep [3, 4, 5] (L' := [(3, .slice a1 x1.length c1), (4, .slice a2 (([] : List Int).length) 0), (5, iV 0)]) (by first | (rw [hn1]; kernel_rfl) | (simp only [hn1]; kernel_rfl) | kernel_rfl) ?_
  refine Run_loop (fun m L' h' => ∃ (i1 : Int) (s1 : (List Int)) (a3 : Option Addr) (c2 : Nat), 0 ≤ i1 ∧ M.forN (x1.length : Int) _ _ n m i1 s1 = some x2 ∧ L' = [(3, .slice a1 x1.length c1), (4, .slice a3 s1.length c2), (5, iV i1)] ∧ Hold h h' [own cd24 a1 x1.length c1 x1, own cd2 a3 s1.length c2 s1]) ((x1.length : Int) - 0 : Int).toNat ⟨0, ([] : List Int), a2, 0, Int.le_refl _, gx2, rfl, H27⟩ ?_
  rintro my1 _ h3 ⟨i1, s1, a3, c2, hloy1', gx2, rfl, H4⟩
  refine Zs ?_
  refine Zs ?_
  refine Zq [iV i1, .slice a1 x1.length c1, iV (x1.length : Int), .bool (decide (i1 < (x1.length : Int)))] [3, 4, 5, 12] [(3, .slice a1 x1.length c1), (4, .slice a3 s1.length c2), (5, iV i1), (12, .bool (decide (i1 < (x1.length : Int))))] ?_
  refine Zc (decide (i1 < (x1.length : Int))) (fun hb1 => ?_) (fun hb1 => ?_)
  ·obtain ⟨my1, y1, rfl, hB1, hgoy1, houty1⟩ := M.for_go gx2 hb1
   have hlty1 := of_decide_eq_true hb1
   refine Run_skip ?_
   refine Zs ?_
   refine Run_block ?_
   refine Zs ?_
   obtain ⟨x3, hx2, hB1⟩ := M.bind_some hB1
   obtain ⟨hx2l, hx2u, hx2⟩ := M.idx_some hx2
   have H6 := H4.toRows
   obtain ⟨a5, c4, H7⟩ := H6.pinRow hx2
   obtain ⟨x4, hx3, hB1⟩ := M.bind_some hB1
   obtain ⟨hx3l, hx3u, hx3⟩ := M.idx_some hx3
   obtain ⟨x5, hx4, hB1⟩ := M.bind_some hB1
   refine Zg 9 [(3, .slice a1 x1.length c1), (4, .slice a3 s1.length c2), (5, iV i1), (23, .bool (!x5))] ?_ ?_
   ·refine Zb [.slice a3 s1.length c2, .slice a1 x1.length c1, iV i1] 0 ?_
    refine Zy (.pointer (some (adr a1 (i1.toNat * 1)))) (Zi 22 24 1 (a1) (x1.length) (c1) .i64 (i1) Tryz.underlying22 ((H4.rd 0 rfl).cell hx2).1 hx2l hx2u) ?_
    refine Zy (.slice a5 x3.length c4) (Zl 24 (adr a1 (i1.toNat * 1)) (.slice a5 x3.length c4) (H7.cellPin 0 rfl 0 rfl)) ?_
    refine Zy (.pointer (some (adr a5 (0 * 1)))) (Zi 24 2 1 (a5) (x3.length) (c4) .i64 (0) Tryz.underlying24 ((H7.rdPin 0 rfl 0 rfl).cell hx3).1 hx3l hx3u) ?_
    refine Zy (iV x4) (Zl 2 (adr a5 (0 * 1)) (iV x4) (cd2_cell (H7.rdPin 0 rfl 0 rfl) hx3)) ?_
    refine Zy (.bool x5) (ZQ 69 #[.slice a3 s1.length c2, iV x4] (w_spec_l01Has h3 s1 a3 c2 (H7.rd 1 rfl) x4 _ _ hx4)) ?_
    refine Zb [.bool (!x5)] 8 ?_
    exact Zd [3, 4, 5, 23]
   obtain ⟨s2, gs2, hB1⟩ := M.bind_some hB1
   refine Run_join (fun L' h' => ∃ (a9 : Option Addr), ∃ (c7 : Nat), L' = [(3, .slice a1 x1.length c1), (4, .slice a9 s2.length c7), (5, iV i1)] ∧ Hold h h' [own cd24 a1 x1.length c1 x1, own cd2 a9 s2.length c7 s2]) ?_ ?_
   ·rintro _ h7 ⟨a9, c7, rfl, H14⟩
    refine Run_blk ?_
    refine Zg 3 [(3, .slice a1 x1.length c1), (4, .slice a9 s2.length c7), (5, iV (i1 + 1))] ?_ ?_
    ·refine Zb [iV i1] 0 ?_
     refine Zy (iV (i1 + 1)) (Y_eq (v := iV (w64 (i1 + 1))) (Y_pure (fun w => by kernel_rfl)) (by rw [w64_eq _ (by omega)])) ?_
     refine Zb [iV (i1 + 1)] 2 ?_
     exact Zd [3, 4, 5]
    have H22 : Hold h h7 [own cd2 a9 s2.length c7 s2, own cd24 a1 x1.length c1 x1] := H14.pk [1, 0]
    have H23 : Hold h h7 [own cd24 a1 x1.length c1 x1, own cd2 a9 s2.length c7 s2] := H22.pk [1, 0]
    have hB1 := M.ret_some hB1
    have gx2 := hgoy1 _ hB1.symm
    exact Za [3, 4, 5] my1 ⟨i1 + 1, s2, a9, c7, by omega, gx2, rfl, H23⟩
   ·refine Zc (!x5) (fun hb2 => ?_) (fun hb2 => ?_)
    ·have gs2 := (M.ite_some gs2).1 hb2
     refine Run_ops ?_
     obtain ⟨x6, hx5, gs2⟩ := M.bind_some gs2
     obtain ⟨hx5l, hx5u, hx5⟩ := M.idx_some hx5
     obtain ⟨a6, c5, H8⟩ := H7.pinRow hx5
     obtain ⟨x7, hx6, gs2⟩ := M.bind_some gs2
     obtain ⟨hx6l, hx6u, hx6⟩ := M.idx_some hx6
     refine Zr [.slice a3 s1.length c2, .slice a1 x1.length c1, iV i1] 0 ?_
     refine Zz (.pointer (some (adr a1 (i1.toNat * 1)))) (Zi 22 24 1 (a1) (x1.length) (c1) .i64 (i1) Tryz.underlying22 ((H7.rdRows 0 rfl).cell hx5).1 hx5l hx5u) ?_
     refine Zz (.slice a6 x6.length c5) (Zl 24 (adr a1 (i1.toNat * 1)) (.slice a6 x6.length c5) (H8.cellPin 0 rfl 0 rfl)) ?_
     refine Zz (.pointer (some (adr a6 (0 * 1)))) (Zi 24 2 1 (a6) (x6.length) (c5) .i64 (0) Tryz.underlying24 ((H8.rdPin 0 rfl 0 rfl).cell hx6).1 hx6l hx6u) ?_
     refine Zz (iV x7) (Zl 2 (adr a6 (0 * 1)) (iV x7) (cd2_cell (H8.rdPin 0 rfl 0 rfl) hx6)) ?_
     refine Ze ?_
     refine E_lit (C := cd2) (n := 1) (l := ([x7] : List Int)) (cs := [iV x7]) H8 (fun w => by kernel_rfl) (Enc.consE (cd2_own x7 _) (Enc.nil _ _) rfl) rfl (by decide) (fun a7 h5 H9 => ?_)
     obtain ⟨l1, hl1, gs2⟩ := M.bind_some gs2
     have hl1 := M.app_some hl1
     have H10 : Hold h h5 [own cd2 a3 s1.length c2 s1, own cd2 a7 1 1 ([x7] : List Int), rowsP cd2 24 a1 x1.length c1 x1 [(i1.toNat, a6, x6.length, c5, x6), (i1.toNat, a5, x3.length, c4, x3)]] := H9.pk [2, 0, 1]
     have H11 : Hold h h5 [own cd2 a7 1 1 ([x7] : List Int), own cd2 a3 s1.length c2 s1, rowsP cd2 24 a1 x1.length c1 x1 [(i1.toNat, a6, x6.length, c5, x6), (i1.toNat, a5, x3.length, c4, x3)]] := H10.pk [1, 0, 2]
     have H12 : Hold h h5 [own cd2 a3 s1.length c2 s1, own cd2 a7 1 1 ([x7] : List Int), rowsP cd2 24 a1 x1.length c1 x1 [(i1.toNat, a6, x6.length, c5, x6), (i1.toNat, a5, x3.length, c4, x3)]] := H11.pk [1, 0, 2]
     refine Ze ?_
     refine E_app (C := cd2) (t := 24) (ty := 24) (n := s1.length) (m := 1) H12 cd2_ti rfl Tryz.underlying24 (by decide) (by kernel_rfl) hl1 (fun a8 c6 h6 H13 => ?_)
     refine Zr [.slice a8 l1.length c6] 9 ?_
     refine Zx ?_
     refine Zk [3, 4, 5] [(3, .slice a1 x1.length c1), (4, .slice a8 l1.length c6), (5, iV i1)] ?_
     have H15 : Hold h h6 [rowsP cd2 24 a1 x1.length c1 x1 [(i1.toNat, a6, x6.length, c5, x6), (i1.toNat, a5, x3.length, c4, x3)], own cd2 a8 l1.length c6 l1] := H13.pk [1, 0]
     have H16 := H15.ofRows
     have H17 : Hold h h6 [own cd2 a8 l1.length c6 l1, own cd24 a1 x1.length c1 x1] := H16.pk [1, 0]
     have H18 : Hold h h6 [own cd24 a1 x1.length c1 x1, own cd2 a8 l1.length c6 l1] := H17.pk [1, 0]
     have gs2 := M.ret_some gs2
     subst gs2
     exact Zf [3, 4, 5] ⟨a8, c6, rfl, H18⟩
    ·have gs2 := (M.ite_some gs2).2 hb2
     refine Run_skip ?_
     have H19 := H7.ofRows
     have H20 : Hold h h3 [own cd2 a3 s1.length c2 s1, own cd24 a1 x1.length c1 x1] := H19.pk [1, 0]
     have H21 : Hold h h3 [own cd24 a1 x1.length c1 x1, own cd2 a3 s1.length c2 s1] := H20.pk [1, 0]
     have gs2 := M.ret_some gs2
     subst gs2
     exact Zf [3, 4, 5] ⟨a3, c2, rfl, H21⟩
  ·have gx2 := M.for_end gx2 hb1
   subst gx2
   refine Run_exit (k' := _) rfl ?_
   have H24 : Hold h h3 [own cd2 a3 s1.length c2 s1, own cd24 a1 x1.length c1 x1] := H4.pk [1, 0]
   have H25 : Hold h h3 [own cd2 a3 s1.length c2 s1] := H24.pk [0]
   exact Zf [4] ⟨a3, c2, rfl, H25⟩

theorem w_spec_CriticalNodes (h : Heap) (a_ : List (List Int)) (aa_ : Option Addr) (ca_ : Nat) (ra_ : Rd cd24 h (Lt h) aa_ ca_ a_) (n : Nat) (r : (List Int) × Int) (hF : spec_CriticalNodes a_ n = some r) :
  Fn Tryz.prog 7 #[.slice aa_ a_.length ca_] h fun v h' => ∃ (a0 : Option Addr) (c0 : Nat), v = .tuple #[.slice a0 r.1.length c0, iV r.2] ∧ Hold h h' [own cd2 a0 r.1.length c0 r.1] := by
 unfold spec_CriticalNodes at hF
 refine Zo [.slice aa_ a_.length ca_] Tryz.func7 rfl (fun w0 _ => ?_)
 have H0 := Hold.init h
 refine Zs ?_
 refine Zq [.slice none 0 0, iV 0] [0] [(0, .slice aa_ a_.length ca_)] ?_
 refine Zs ?_
 obtain ⟨x1, hx1, hF⟩ := M.bind_some hF
 refine Run_regC (j := 3) (C := fun x => Hold h x []) (by kernel_rfl) H0 (L' := [(0, .slice aa_ a_.length ca_), (4, iV x1)]) ?_ (fun h1 H1 => ?_)
 ·refine Zb [.slice aa_ a_.length ca_] 0 ?_
  refine Zy (iV x1) (Y_call (f := 35) (args := #[.slice aa_ a_.length ca_]) (v := iV x1) (by kernel_rfl) fun hx Hx => (w_spec_l06Code hx a_ aa_ ca_ (ra_.at Hx.ext) _ _ hx1).mono fun _ _ ⟨e, H'⟩ => ⟨e, Hx.call H' rfl⟩) ?_
  refine Zb [iV x1] 2 ?_
  exact Zd [0, 4]
 have H2 : Hold h h1 [] := H1
 refine Zs ?_
 refine Zs ?_
 refine Zq [iV x1, .bool (x1 != 0)] [0, 4, 8] [(0, .slice aa_ a_.length ca_), (4, iV x1), (8, .bool (x1 != 0))] ?_
 refine Zc (x1 != 0) (fun hb1 => ?_) (fun hb1 => ?_)
 ·have hF := (M.ite_some hF).1 hb1
  refine Zs ?_
  refine Zq [iV x1, .slice none 0 0, iV x1] [2, 3] [(2, .slice none 0 0), (3, iV x1)] ?_
  have hF := M.ret_some hF
  subst hF
  have H3 := H2.empty cd2
  exact Run_ret2 rfl (Zt (.slice none 0 0)) (Zt (iV x1)) ⟨none, 0, rfl, H3⟩
 ·have hF := (M.ite_some hF).2 hb1
  refine Run_skip ?_
  refine Zs ?_
  refine Run_ops ?_
  refine Zr [.slice aa_ a_.length ca_] 0 ?_
  obtain ⟨x2, hx2, hF⟩ := M.bind_some hF
  refine Ze ?_
  refine ZC 36 #[.slice aa_ a_.length ca_] (w_spec_l06Nodes h1 a_ aa_ ca_ (ra_.at H2.ext) _ _ hx2) (fun v1 h2 hp1 => ?_)
  obtain ⟨a1, c1, rfl, H4⟩ := hp1
  have H5 : Hold h h2 [own cd2 a1 x2.length c1 x2] := H2.call H4 rfl
  refine Zr [.slice a1 x2.length c1, iV 0] 2 ?_
  refine Zx ?_
  refine Zk [2, 3] [(2, .slice a1 x2.length c1), (3, iV 0)] ?_
  have hF := M.ret_some hF
  subst hF
  exact Run_ret2 rfl (Zt (.slice a1 x2.length c1)) (Zt (iV 0)) ⟨a1, c1, rfl, H5⟩

theorem w_impl_CriticalMatrix (h : Heap) (a_ : List (List Int)) (aa_ : Option Addr) (ca_ : Nat) (ra_ : Rd cd24 h (Lt h) aa_ ca_ a_) (n : Nat) (r : (List (List Int)) × Int) (hF : impl_CriticalMatrix a_ n = some r) :
  Fn Tryz.prog 19 #[.slice aa_ a_.length ca_] h fun v h' => ∃ (a0 : Option Addr) (c0 : Nat), v = .tuple #[.slice a0 r.1.length c0, iV r.2] ∧ Hold h h' [own cd24 a0 r.1.length c0 r.1] := by
 unfold impl_CriticalMatrix at hF
 refine Zo [.slice aa_ a_.length ca_] Tryz.func19 rfl (fun w0 _ => ?_)
 have H0 := Hold.init h
 refine Zs ?_
 refine Zq [.slice none 0 0, iV 0] [0] [(0, .slice aa_ a_.length ca_)] ?_
 refine Zs ?_
 refine Run_ops ?_
 refine Zr [.slice aa_ a_.length ca_] 0 ?_
 obtain ⟨x1, hx1, hF⟩ := M.bind_some hF
 refine Ze ?_
 refine ZC 38 #[.slice aa_ a_.length ca_] (w_impl_criticalOf h a_ aa_ ca_ ra_ _ _ hx1) (fun v1 h1 hp1 => ?_)
 obtain ⟨a1, c1, rfl, H1⟩ := hp1
 have H2 : Hold h h1 [own cd24 a1 x1.1.length c1 x1.1] := H0.call H1 rfl
 refine Zr [.slice a1 x1.1.length c1, iV x1.2, .slice a1 x1.1.length c1, iV x1.2] 2 ?_
 refine Zx ?_
 refine Zk [2, 3] [(2, .slice a1 x1.1.length c1), (3, iV x1.2)] ?_
 have hF := M.ret_some hF
 subst hF
 exact Run_ret2 rfl (Zt (.slice a1 x1.1.length c1)) (Zt (iV x1.2)) ⟨a1, c1, rfl, H2⟩

theorem w_spec_l06Matrix (h : Heap) (a_ : List (List Int)) (aa_ : Option Addr) (ca_ : Nat) (ra_ : Rd cd24 h (Lt h) aa_ ca_ a_) (n : Nat) (r : (List (List Int))) (hF : spec_l06Matrix a_ n = some r) :
  Fn Tryz.prog 45 #[.slice aa_ a_.length ca_] h fun v h' => ∃ (a0 : Option Addr) (c0 : Nat), v = .slice a0 r.length c0 ∧ Hold h h' [own cd24 a0 r.length c0 r] := by
 unfold spec_l06Matrix at hF
 refine Zo [.slice aa_ a_.length ca_] Tryz.func45 rfl (fun w0 _ => ?_)
 have H0 := Hold.init h
 refine Zs ?_
 refine Zq [.slice none 0 0] [0] [(0, .slice aa_ a_.length ca_)] ?_
 refine Zs ?_
 refine Run_ops ?_
 refine Zr [.slice aa_ a_.length ca_, iV (a_.length : Int), .slice aa_ a_.length ca_, iV (a_.length : Int)] 0 ?_
 obtain ⟨x1, hx1, hF⟩ := M.bind_some hF
 refine Ze ?_
 refine ZC 81 #[iV (a_.length : Int), iV (a_.length : Int)] (w_spec_l02Bottom h (a_.length : Int) (a_.length : Int) _ _ hx1) (fun v1 h1 hp1 => ?_)
 obtain ⟨a1, c1, rfl, H1⟩ := hp1
 have H2 : Hold h h1 [own cd24 a1 x1.length c1 x1] := H0.call H1 rfl
 refine Zr [.slice a1 x1.length c1] 5 ?_
 refine Zx ?_
 refine Zk [0, 3] [(0, .slice aa_ a_.length ca_), (3, .slice a1 x1.length c1)] ?_
 refine Zs ?_
 refine Run_ops ?_
 refine Zr [.slice aa_ a_.length ca_] 0 ?_
 obtain ⟨x2, hx2, hF⟩ := M.bind_some hF
 refine Ze ?_
 refine ZC 44 #[.slice aa_ a_.length ca_] (w_spec_l06Arcs h1 a_ aa_ ca_ (ra_.at H2.ext) _ _ hx2) (fun v2 h2 hp2 => ?_)
 obtain ⟨a2, c2, rfl, H3⟩ := hp2
 have H4 : Hold h h2 [own cd24 a2 x2.length c2 x2, own cd24 a1 x1.length c1 x1] := H2.call H3 rfl
 refine Zr [.slice a2 x2.length c2] 2 ?_
 refine Zx ?_
 refine Zk [0, 3, 4] [(0, .slice aa_ a_.length ca_), (3, .slice a1 x1.length c1), (4, .slice a2 x2.length c2)] ?_
 refine Zs ?_
 refine Zs ?_
 refine Zq [iV 0] [0, 3, 4, 5] [(0, .slice aa_ a_.length ca_), (3, .slice a1 x1.length c1), (4, .slice a2 x2.length c2), (5, iV 0)] ?_
 obtain ⟨x3, gx3, hF⟩ := M.bind_some hF
 obtain ⟨hloy1, hhiy1, gx3⟩ := M.for_start gx3
 refine Run_join (fun L' h' => L' = [(3, .slice a1 x1.length c1)] ∧ Hold h h' [own cd24 a1 x1.length c1 x3]) ?_ ?_
 ·rintro _ h4 ⟨rfl, H6⟩
  refine Zs ?_
  refine Zq [.slice a1 x1.length c1, .slice a1 x1.length c1] [2] [(2, .slice a1 x1.length c1)] ?_
  have hF := M.ret_some hF
  subst hF
  have H24 := H6.norm
  exact Run_ret1 rfl (Zt (.slice a1 x1.length c1)) ⟨a1, c1, (by simp only [(H6.len 0 rfl)]), H24⟩
 ·refine Run_block ?_
  have H25 : Hold h h2 [own cd24 a1 x1.length c1 x1, own cd24 a2 x2.length c2 x2] := H4.pk [1, 0]
  refine Zk [0, 3, 4, 5] [(0, .slice aa_ a_.length ca_), (3, .slice a1 x1.length c1), (4, .slice a2 x2.length c2), (5, iV 0)] ?_
  refine Run_loop (fun m L' h' => ∃ (i1 : Int) (s1 : (List (List Int))), 0 ≤ i1 ∧ M.forN (x2.length : Int) _ _ n m i1 s1 = some x3 ∧ L' = [(0, .slice aa_ a_.length ca_), (3, .slice a1 x1.length c1), (4, .slice a2 x2.length c2), (5, iV i1)] ∧ Hold h h' [own cd24 a1 x1.length c1 s1, own cd24 a2 x2.length c2 x2]) ((x2.length : Int) - 0 : Int).toNat ⟨0, x1, Int.le_refl _, gx3, rfl, H25⟩ ?_
  rintro my1 _ h3 ⟨i1, s1, hloy1', gx3, rfl, H5⟩
  refine Zs ?_
  refine Zs ?_
  refine Zq [iV i1, .slice a2 x2.length c2, iV (x2.length : Int), .bool (decide (i1 < (x2.length : Int)))] [0, 3, 4, 5, 18] [(0, .slice aa_ a_.length ca_), (3, .slice a1 x1.length c1), (4, .slice a2 x2.length c2), (5, iV i1), (18, .bool (decide (i1 < (x2.length : Int))))] ?_
  refine Zc (decide (i1 < (x2.length : Int))) (fun hb1 => ?_) (fun hb1 => ?_)
  ·obtain ⟨my1, y1, rfl, hB1, hgoy1, houty1⟩ := M.for_go gx3 hb1
   have hlty1 := of_decide_eq_true hb1
   refine Run_skip ?_
   refine Zs ?_
   refine Run_block ?_
   refine Zs ?_
   obtain ⟨x4, hx3, hB1⟩ := M.bind_some hB1
   obtain ⟨hx3l, hx3u, hx3⟩ := M.idx_some hx3
   have H7 : Hold h h3 [own cd24 a2 x2.length c2 x2, own cd24 a1 x1.length c1 s1] := H5.pk [1, 0]
   have H8 := H7.toRows
   obtain ⟨a3, c3, H9⟩ := H8.pinRow hx3
   have H10 : Hold h h3 [own cd24 a1 x1.length c1 s1, rowsP cd2 24 a2 x2.length c2 x2 [(i1.toNat, a3, x4.length, c3, x4)]] := H9.pk [1, 0]
   obtain ⟨x5, hx4, hB1⟩ := M.bind_some hB1
   obtain ⟨hx4l, hx4u, hx4⟩ := M.idx_some hx4
   obtain ⟨x6, hx5, hB1⟩ := M.bind_some hB1
   obtain ⟨hx5l, hx5u, hx5⟩ := M.idx_some hx5
   have H11 : Hold h h3 [rowsP cd2 24 a2 x2.length c2 x2 [(i1.toNat, a3, x4.length, c3, x4)], own cd24 a1 x1.length c1 s1] := H10.pk [1, 0]
   obtain ⟨a4, c4, H12⟩ := H11.pinRow hx5
   have H13 : Hold h h3 [own cd24 a1 x1.length c1 s1, rowsP cd2 24 a2 x2.length c2 x2 [(i1.toNat, a4, x6.length, c4, x6), (i1.toNat, a3, x4.length, c3, x4)]] := H12.pk [1, 0]
   obtain ⟨x7, hx6, hB1⟩ := M.bind_some hB1
   obtain ⟨hx6l, hx6u, hx6⟩ := M.idx_some hx6
   refine Run_draw 14 mixed (by kernel_rfl) (by kernel_rfl) (L' := [(0, .slice aa_ a_.length ca_), (3, .slice a1 x1.length c1), (4, .slice a2 x2.length c2), (5, iV i1), (6, iV x5), (7, iV x7)]) ?_ ?_
   ·refine Zb [.slice a2 x2.length c2, iV i1] 0 ?_
    refine Zy (.pointer (some (adr a2 (i1.toNat * 1)))) (Zi 22 24 1 (a2) (x2.length) (c2) .i64 (i1) Tryz.underlying22 ((H5.rd 1 rfl).cell hx3).1 hx3l hx3u) ?_
    refine Zy (.slice a3 x4.length c3) (Zl 24 (adr a2 (i1.toNat * 1)) (.slice a3 x4.length c3) (H10.cellPin 1 rfl 0 rfl)) ?_
    refine Zy (.pointer (some (adr a3 (1 * 1)))) (Zi 24 2 1 (a3) (x4.length) (c3) .i64 (1) Tryz.underlying24 ((H10.rdPin 1 rfl 0 rfl).cell hx4).1 hx4l hx4u) ?_
    refine Zy (iV x5) (Zl 2 (adr a3 (1 * 1)) (iV x5) (cd2_cell (H10.rdPin 1 rfl 0 rfl) hx4)) ?_
    refine Zb [.slice a2 x2.length c2, iV i1] 6 ?_
    refine Zy (.pointer (some (adr a2 (i1.toNat * 1)))) (Zi 22 24 1 (a2) (x2.length) (c2) .i64 (i1) Tryz.underlying22 ((H10.rdRows 1 rfl).cell hx5).1 hx5l hx5u) ?_
    refine Zy (.slice a4 x6.length c4) (Zl 24 (adr a2 (i1.toNat * 1)) (.slice a4 x6.length c4) (H13.cellPin 1 rfl 0 rfl)) ?_
    refine Zy (.pointer (some (adr a4 (0 * 1)))) (Zi 24 2 1 (a4) (x6.length) (c4) .i64 (0) Tryz.underlying24 ((H13.rdPin 1 rfl 0 rfl).cell hx6).1 hx6l hx6u) ?_
    refine Zy (iV x7) (Zl 2 (adr a4 (0 * 1)) (iV x7) (cd2_cell (H13.rdPin 1 rfl 0 rfl) hx6)) ?_
    refine Zb [iV x5, iV x7] 12 ?_
    exact Zd [0, 3, 4, 5, 6, 7]
   obtain ⟨x8, hx7, hB1⟩ := M.bind_some hB1
   obtain ⟨hx7l, hx7u, hx7⟩ := M.idx_some hx7
   have H14 := H13.toRows
   obtain ⟨a5, c5, H15⟩ := H14.pinRow hx7
   obtain ⟨x9, hx8, hB1⟩ := M.bind_some hB1
   obtain ⟨hx8l, hx8u, hx8⟩ := M.idx_some hx8
   obtain ⟨a6, c6, hc1, r1⟩ := ra_.row hx8
   obtain ⟨x10, hx9, hB1⟩ := M.bind_some hB1
   obtain ⟨hx9l, hx9u, hx9⟩ := M.idx_some hx9
   obtain ⟨x11, hx10, hB1⟩ := M.bind_some hB1
   obtain ⟨hx10l, hx10u, hx10⟩ := M.idx_some hx10
   refine Run_D (fun x => Hold h x [rowsP cd2 24 a1 x1.length c1 s1 [(x5.toNat, a5, x8.length, c5, x8)], rowsP cd2 24 a2 x2.length c2 x2 [(i1.toNat, a4, x6.length, c4, x6), (i1.toNat, a3, x4.length, c3, x4)]]) (fun x => Hold h x [rowsP cd2 24 a1 x1.length c1 s1 [(x5.toNat, a5, x8.length, c5, x8)], rowsP cd2 24 a2 x2.length c2 x2 [(i1.toNat, a4, x6.length, c4, x6), (i1.toNat, a3, x4.length, c3, x4)]]) mixed (by kernel_rfl) H15 Hold.stable (fun x Hy => (show Hold h x [rowsP cd2 24 a1 x1.length c1 s1 [(x5.toNat, a5, x8.length, c5, x8)], rowsP cd2 24 a2 x2.length c2 x2 [(i1.toNat, a4, x6.length, c4, x6), (i1.toNat, a3, x4.length, c3, x4)]] from Hy).pk [0, 1]) ?_
   refine ZB 12 [.slice a1 x1.length c1, iV x5] 0 ?_
   refine ZY 11 2 (.pointer (some (adr a1 (x5.toNat * 1)))) (fun hx Hx => (YE.of (Zi 22 24 1 (a1) (x1.length) (c1) .i64 (x5) Tryz.underlying22 ((H13.rd 0 rfl).cell hx7).1 hx7l (by rw [← (H13.len 0 rfl)]; exact hx7u)))) ?_
   refine ZY 10 3 (.slice a5 x8.length c5) (fun hx Hx => (YE.of (Zl 24 (adr a1 (x5.toNat * 1)) (.slice a5 x8.length c5) (Hx.cellPin 0 rfl 0 rfl)))) ?_
   refine ZB 7 [iV x7, .slice aa_ a_.length ca_, iV x5] 4 ?_
   refine ZY 6 7 (.pointer (some (adr aa_ (x5.toNat * 1)))) (fun hx Hx => (YE.of (Zi 22 24 1 (aa_) (a_.length) (ca_) .i64 (x5) Tryz.underlying22 ((ra_.at H15.ext).cell hx8).1 hx8l hx8u))) ?_
   refine ZY 5 8 (.slice a6 x9.length c6) (fun hx Hx => (YE.of (Zl 24 (adr aa_ (x5.toNat * 1)) (.slice a6 x9.length c6) (cell_at Hx.ext hc1)))) ?_
   refine ZB 4 [iV x7] 9 ?_
   refine ZY 3 10 (.pointer (some (adr a6 (x7.toNat * 1)))) (fun hx Hx => (YE.of (Zi 24 2 1 (a6) (x9.length) (c6) .i64 (x7) Tryz.underlying24 ((r1.at H15.ext).cell hx9).1 hx9l hx9u))) ?_
   refine ZY 2 11 (iV x10) (fun hx Hx => (YE.of (Zl 2 (adr a6 (x7.toNat * 1)) (iV x10) (cd2_cell (r1.at Hx.ext) hx9)))) ?_
   refine ZY 1 12 (.pointer (some (adr a5 (x7.toNat * 1)))) (fun hx Hx => (YE.of (Zi 24 2 1 (a5) (x8.length) (c5) .i64 (x7) Tryz.underlying24 ((H15.rdPin 0 rfl 0 rfl).cell hx10).1 hx10l hx10u))) ?_
   refine ZT 13 (fun h5 H16 => ?_)
   have H17 : Hold h h5 [rowsP cd2 24 a1 x1.length c1 s1 [(x5.toNat, a5, x8.length, c5, x8)], rowsP cd2 24 a2 x2.length c2 x2 [(i1.toNat, a4, x6.length, c4, x6), (i1.toNat, a3, x4.length, c3, x4)]] := H16
   obtain ⟨l1, hu1, hB1⟩ := M.bind_some hB1
   have hu1 := M.upd_some hu1
   refine Ze ?_
   refine E_put2 (C := cd2) (t := 2) (sz := 1) (j := x7) (x := x10) (v := iV x10) (m2 := s1.set x5.toNat l1) H17 cd2_flat 0 rfl (by kernel_rfl) rfl (cd2_own _) (by kernel_rfl) hu1 rfl (fun h6 H18 => ?_)
   refine Zx ?_
   refine Zk [0, 3, 4, 5] [(0, .slice aa_ a_.length ca_), (3, .slice a1 x1.length c1), (4, .slice a2 x2.length c2), (5, iV i1)] ?_
   refine Run_blk ?_
   refine Zg 3 [(0, .slice aa_ a_.length ca_), (3, .slice a1 x1.length c1), (4, .slice a2 x2.length c2), (5, iV (i1 + 1))] ?_ ?_
   ·refine Zb [iV i1] 0 ?_
    refine Zy (iV (i1 + 1)) (Y_eq (v := iV (w64 (i1 + 1))) (Y_pure (fun w => by kernel_rfl)) (by rw [w64_eq _ (by omega)])) ?_
    refine Zb [iV (i1 + 1)] 2 ?_
    exact Zd [0, 3, 4, 5]
   have H19 := H18.ofRows
   have H20 : Hold h h6 [rowsP cd2 24 a2 x2.length c2 x2 [(i1.toNat, a4, x6.length, c4, x6), (i1.toNat, a3, x4.length, c3, x4)], own cd24 a1 x1.length c1 (s1.set x5.toNat l1)] := H19.pk [1, 0]
   have H21 := H20.ofRows
   have H22 : Hold h h6 [own cd24 a1 x1.length c1 (s1.set x5.toNat l1), own cd24 a2 x2.length c2 x2] := H21.pk [1, 0]
   have hB1 := M.ret_some hB1
   have gx3 := hgoy1 _ hB1.symm
   exact Za [0, 3, 4, 5] my1 ⟨i1 + 1, (s1.set x5.toNat l1), by omega, gx3, rfl, H22⟩
  ·have gx3 := M.for_end gx3 hb1
   subst gx3
   refine Run_exit (k' := _) rfl ?_
   have H23 : Hold h h3 [own cd24 a1 x1.length c1 s1] := H5.pk [0]
   exact Zf [3] ⟨rfl, H23⟩

theorem w_spec_CriticalMatrix (h : Heap) (a_ : List (List Int)) (aa_ : Option Addr) (ca_ : Nat) (ra_ : Rd cd24 h (Lt h) aa_ ca_ a_) (n : Nat) (r : (List (List Int)) × Int) (hF : spec_CriticalMatrix a_ n = some r) :
  Fn Tryz.prog 20 #[.slice aa_ a_.length ca_] h fun v h' => ∃ (a0 : Option Addr) (c0 : Nat), v = .tuple #[.slice a0 r.1.length c0, iV r.2] ∧ Hold h h' [own cd24 a0 r.1.length c0 r.1] := by
 unfold spec_CriticalMatrix at hF
 refine Zo [.slice aa_ a_.length ca_] Tryz.func20 rfl (fun w0 _ => ?_)
 have H0 := Hold.init h
 refine Zs ?_
 refine Zq [.slice none 0 0, iV 0] [0] [(0, .slice aa_ a_.length ca_)] ?_
 refine Zs ?_
 obtain ⟨x1, hx1, hF⟩ := M.bind_some hF
 refine Run_regC (j := 3) (C := fun x => Hold h x []) (by kernel_rfl) H0 (L' := [(0, .slice aa_ a_.length ca_), (4, iV x1)]) ?_ (fun h1 H1 => ?_)
 ·refine Zb [.slice aa_ a_.length ca_] 0 ?_
  refine Zy (iV x1) (Y_call (f := 35) (args := #[.slice aa_ a_.length ca_]) (v := iV x1) (by kernel_rfl) fun hx Hx => (w_spec_l06Code hx a_ aa_ ca_ (ra_.at Hx.ext) _ _ hx1).mono fun _ _ ⟨e, H'⟩ => ⟨e, Hx.call H' rfl⟩) ?_
  refine Zb [iV x1] 2 ?_
  exact Zd [0, 4]
 have H2 : Hold h h1 [] := H1
 refine Zs ?_
 refine Zs ?_
 refine Zq [iV x1, .bool (x1 != 0)] [0, 4, 8] [(0, .slice aa_ a_.length ca_), (4, iV x1), (8, .bool (x1 != 0))] ?_
 refine Zc (x1 != 0) (fun hb1 => ?_) (fun hb1 => ?_)
 ·have hF := (M.ite_some hF).1 hb1
  refine Zs ?_
  refine Zq [iV x1, .slice none 0 0, iV x1] [2, 3] [(2, .slice none 0 0), (3, iV x1)] ?_
  have hF := M.ret_some hF
  subst hF
  have H3 := H2.empty cd24
  exact Run_ret2 rfl (Zt (.slice none 0 0)) (Zt (iV x1)) ⟨none, 0, rfl, H3⟩
 ·have hF := (M.ite_some hF).2 hb1
  refine Run_skip ?_
  refine Zs ?_
  refine Run_ops ?_
  refine Zr [.slice aa_ a_.length ca_] 0 ?_
  obtain ⟨x2, hx2, hF⟩ := M.bind_some hF
  refine Ze ?_
  refine ZC 45 #[.slice aa_ a_.length ca_] (w_spec_l06Matrix h1 a_ aa_ ca_ (ra_.at H2.ext) _ _ hx2) (fun v1 h2 hp1 => ?_)
  obtain ⟨a1, c1, rfl, H4⟩ := hp1
  have H5 : Hold h h2 [own cd24 a1 x2.length c1 x2] := H2.call H4 rfl
  refine Zr [.slice a1 x2.length c1, iV 0] 2 ?_
  refine Zx ?_
  refine Zk [2, 3] [(2, .slice a1 x2.length c1), (3, iV 0)] ?_
  have hF := M.ret_some hF
  subst hF
  exact Run_ret2 rfl (Zt (.slice a1 x2.length c1)) (Zt (iV 0)) ⟨a1, c1, rfl, H5⟩

theorem w_spec_BestCycle (h : Heap) (a_ : List (List Int)) (aa_ : Option Addr) (ca_ : Nat) (ra_ : Rd cd24 h (Lt h) aa_ ca_ a_) (n : Nat) (r : (List Int) × Int) (hF : spec_BestCycle a_ n = some r) :
  Fn Tryz.prog 46 #[.slice aa_ a_.length ca_] h fun v h' => ∃ (a0 : Option Addr) (c0 : Nat), v = .tuple #[.slice a0 r.1.length c0, iV r.2] ∧ Hold h h' [own cd2 a0 r.1.length c0 r.1] := by
 unfold spec_BestCycle at hF
 refine Zo [.slice aa_ a_.length ca_] Tryz.func46 rfl (fun w0 _ => ?_)
 have H0 := Hold.init h
 refine Zs ?_
 refine Zq [.slice none 0 0, iV 0] [0] [(0, .slice aa_ a_.length ca_)] ?_
 refine Zs ?_
 refine Zs ?_
 obtain ⟨x1, hx1, hF⟩ := M.bind_some hF
 refine Zg 3 [(0, .slice aa_ a_.length ca_), (8, .bool (!x1))] ?_ ?_
 ·refine Zb [.slice aa_ a_.length ca_] 0 ?_
  refine Zy (.bool x1) (ZQ 68 #[.slice aa_ a_.length ca_] (w_spec_l02Square h a_ aa_ ca_ ra_ _ _ hx1)) ?_
  refine Zb [.bool (!x1)] 2 ?_
  exact Zd [0, 8]
 refine Zc (!x1) (fun hb1 => ?_) (fun hb1 => ?_)
 ·have hF := (M.ite_some hF).1 hb1
  refine Zs ?_
  refine Zq [.slice none 0 0, iV 1] [2, 3] [(2, .slice none 0 0), (3, iV 1)] ?_
  have hF := M.ret_some hF
  subst hF
  have H1 := H0.empty cd2
  exact Run_ret2 rfl (Zt (.slice none 0 0)) (Zt (iV 1)) ⟨none, 0, rfl, H1⟩
 ·have hF := (M.ite_some hF).2 hb1
  refine Run_skip ?_
  refine Zs ?_
  refine Run_ops ?_
  refine Zr [.slice aa_ a_.length ca_] 0 ?_
  obtain ⟨x2, hx2, hF⟩ := M.bind_some hF
  refine Ze ?_
  refine ZC 54 #[.slice aa_ a_.length ca_] (w_spec_l04Best h a_ aa_ ca_ ra_ _ _ hx2) (fun v1 h1 hp1 => ?_)
  obtain ⟨a1, c1, rfl, H2⟩ := hp1
  have H3 : Hold h h1 [own cd2 a1 x2.1.length c1 x2.1] := H0.call H2 rfl
  refine Zr [.tuple #[.slice a1 x2.1.length c1, .bool x2.2], .slice a1 x2.1.length c1, .bool x2.2, .slice a1 x2.1.length c1, .bool x2.2] 2 ?_
  refine Zx ?_
  refine Zk [4, 5] [(4, .slice a1 x2.1.length c1), (5, .bool x2.2)] ?_
  refine Zs ?_
  refine Zs ?_
  refine Zq [.bool x2.2, .bool (!x2.2)] [4, 15] [(4, .slice a1 x2.1.length c1), (15, .bool (!x2.2))] ?_
  refine Zc (!x2.2) (fun hb2 => ?_) (fun hb2 => ?_)
  ·have hF := (M.ite_some hF).1 hb2
   refine Zs ?_
   refine Zq [.slice none 0 0, iV 4] [2, 3] [(2, .slice none 0 0), (3, iV 4)] ?_
   have hF := M.ret_some hF
   subst hF
   have H4 := H3.empty cd2
   have H5 : Hold h h1 [own cd2 none 0 0 []] := H4.pk [0]
   exact Run_ret2 rfl (Zt (.slice none 0 0)) (Zt (iV 4)) ⟨none, 0, rfl, H5⟩
  ·have hF := (M.ite_some hF).2 hb2
   refine Run_skip ?_
   refine Zs ?_
   refine Zq [.slice a1 x2.1.length c1, .slice a1 x2.1.length c1, iV 0] [2, 3] [(2, .slice a1 x2.1.length c1), (3, iV 0)] ?_
   have hF := M.ret_some hF
   subst hF
   exact Run_ret2 rfl (Zt (.slice a1 x2.1.length c1)) (Zt (iV 0)) ⟨a1, c1, rfl, H3⟩

theorem w_spec_l03DrawNodes (h hE : Heap) (it : Item) (s_ : TL01source) (bs_ : Nat) (as_code : Option Addr) (cs_code : Nat) (rs_code : Rd cd5 h (Lt h) as_code cs_code s_.code) (a_ : List (List Int)) (aa_ : Option Addr) (ca_ : Nat) (HM : Hold h hE [box bs_ 83 [.slice as_code s_.code.length cs_code, iV s_.at_, iV s_.seed], own cd24 aa_ a_.length ca_ a_, it]) (n : Nat) (r : (List Int) × TL01source × (List (List Int))) (hF : spec_l03DrawNodes s_ a_ n = some r) :
  Fn Tryz.prog 84 #[pV bs_, .slice aa_ a_.length ca_] hE fun v h' => ∃ (a0 : Option Addr) (c0 : Nat), v = .slice a0 r.1.length c0 ∧ Hold h h' [own cd2 a0 r.1.length c0 r.1, box bs_ 83 [.slice as_code s_.code.length cs_code, iV r.2.1.at_, iV r.2.1.seed], own cd24 aa_ a_.length ca_ r.2.2, it] := by
 unfold spec_l03DrawNodes at hF
 refine Zo [pV bs_, .slice aa_ a_.length ca_] Tryz.func84 rfl (fun w0 _ => ?_)
 refine Zs ?_
 refine Zq [.slice none 0 0] [0, 1] [(0, pV bs_), (1, .slice aa_ a_.length ca_)] ?_
 refine Zs ?_
 refine Zq [.slice aa_ a_.length ca_, iV (a_.length : Int), iV (a_.length : Int)] [0, 1, 5] [(0, pV bs_), (1, .slice aa_ a_.length ca_), (5, iV (a_.length : Int))] ?_
 refine Zs ?_
 refine Zs ?_
 refine Zq [iV (a_.length : Int), .bool ((a_.length : Int) == 0)] [0, 1, 5, 14] [(0, pV bs_), (1, .slice aa_ a_.length ca_), (5, iV (a_.length : Int)), (14, .bool ((a_.length : Int) == 0))] ?_
 refine Zc ((a_.length : Int) == 0) (fun hb1 => ?_) (fun hb1 => ?_)
 ·have hF := (M.ite_some hF).1 hb1
  refine Zs ?_
  refine Run_ops ?_
  refine Ze ?_
  refine E_lit (C := cd2) (n := 1) (l := ([0] : List Int)) (cs := [iV 0]) HM (fun w => by kernel_rfl) (Enc.consE (cd2_own 0 _) (Enc.nil _ _) rfl) rfl (by decide) (fun a1 h1 H1 => ?_)
  refine Zr [.slice a1 1 1] 1 ?_
  refine Zx ?_
  refine Zk [4] [(4, .slice a1 1 1)] ?_
  have hF := M.ret_some hF
  subst hF
  have H2 := H1.norm
  have H3 : Hold h h1 [own cd24 aa_ a_.length ca_ a_, own cd2 a1 (([0] : List Int).length) 1 ([0] : List Int), box bs_ 83 [.slice as_code s_.code.length cs_code, iV s_.at_, iV s_.seed], it] := H2.pk [2, 0, 1, 3]
  have H4 : Hold h h1 [own cd2 a1 (([0] : List Int).length) 1 ([0] : List Int), box bs_ 83 [.slice as_code s_.code.length cs_code, iV s_.at_, iV s_.seed], own cd24 aa_ a_.length ca_ a_, it] := H3.pk [1, 2, 0, 3]
  exact Run_ret1 rfl (Zt (.slice a1 1 1)) ⟨a1, 1, (by simp only [(H1.len 0 rfl)]), H4⟩
 ·have hF := (M.ite_some hF).2 hb1
  refine Run_skip ?_
  refine Zs ?_
  refine Run_ops ?_
  refine Zr [pV bs_, iV (a_.length : Int)] 0 ?_
  obtain ⟨x1, hx1, hF⟩ := M.bind_some hF
  have H5 : Hold h hE [box bs_ 83 [.slice as_code s_.code.length cs_code, iV s_.at_, iV s_.seed], bun [own cd24 aa_ a_.length ca_ a_, it]] := Hold.bundle (S := [box bs_ 83 [.slice as_code s_.code.length cs_code, iV s_.at_, iV s_.seed]]) (R := [own cd24 aa_ a_.length ca_ a_, it]) HM
  refine Ze ?_
  refine ZC 47 #[pV bs_, iV (a_.length : Int)] (w_spec_l01Next h hE _ s_ bs_ as_code cs_code rs_code (a_.length : Int) H5 _ _ hx1) (fun v1 h2 hp1 => ?_)
  obtain ⟨rfl, H6⟩ := hp1
  have H7 : Hold h h2 [box bs_ 83 [.slice as_code s_.code.length cs_code, iV x1.2.at_, iV x1.2.seed], own cd24 aa_ a_.length ca_ a_, it] := Hold.unbundle (S := [box bs_ 83 [.slice as_code s_.code.length cs_code, iV x1.2.at_, iV x1.2.seed]]) (R := [own cd24 aa_ a_.length ca_ a_, it]) H6 (Hold.tailBase (S := [box bs_ 83 [.slice as_code s_.code.length cs_code, iV s_.at_, iV s_.seed]]) (R := [own cd24 aa_ a_.length ca_ a_, it]) HM)
  refine Ze ?_
  refine E_lit (C := cd2) (n := 1) (l := ([x1.1] : List Int)) (cs := [iV x1.1]) H7 (fun w => by kernel_rfl) (Enc.consE (cd2_own x1.1 _) (Enc.nil _ _) rfl) rfl (by decide) (fun a2 h3 H8 => ?_)
  refine Zr [.slice a2 1 1] 4 ?_
  refine Zx ?_
  refine Zk [0, 1, 5, 6] [(0, pV bs_), (1, .slice aa_ a_.length ca_), (5, iV (a_.length : Int)), (6, .slice a2 1 1)] ?_
  refine Zs ?_
  refine Zs ?_
  refine Run_ops ?_
  refine Zr [pV bs_] 0 ?_
  obtain ⟨x2, hx2, hF⟩ := M.bind_some hF
  have H9 : Hold h h3 [box bs_ 83 [.slice as_code s_.code.length cs_code, iV x1.2.at_, iV x1.2.seed], own cd2 a2 1 1 ([x1.1] : List Int), own cd24 aa_ a_.length ca_ a_, it] := H8.pk [1, 0, 2, 3]
  have H10 : Hold h h3 [box bs_ 83 [.slice as_code s_.code.length cs_code, iV x1.2.at_, iV x1.2.seed], bun [own cd2 a2 1 1 ([x1.1] : List Int), own cd24 aa_ a_.length ca_ a_, it]] := Hold.bundle (S := [box bs_ 83 [.slice as_code s_.code.length cs_code, iV x1.2.at_, iV x1.2.seed]]) (R := [own cd2 a2 1 1 ([x1.1] : List Int), own cd24 aa_ a_.length ca_ a_, it]) H9
  refine Ze ?_
  refine ZC 47 #[pV bs_, iV 6] (w_spec_l01Next h h3 _ (⟨s_.code, x1.2.at_, x1.2.seed⟩ : TL01source) bs_ as_code cs_code rs_code 6 H10 _ _ hx2) (fun v2 h4 hp2 => ?_)
  obtain ⟨rfl, H11⟩ := hp2
  have H12 : Hold h h4 [box bs_ 83 [.slice as_code s_.code.length cs_code, iV x2.2.at_, iV x2.2.seed], own cd2 a2 1 1 ([x1.1] : List Int), own cd24 aa_ a_.length ca_ a_, it] := Hold.unbundle (S := [box bs_ 83 [.slice as_code s_.code.length cs_code, iV x2.2.at_, iV x2.2.seed]]) (R := [own cd2 a2 1 1 ([x1.1] : List Int), own cd24 aa_ a_.length ca_ a_, it]) H11 (Hold.tailBase (S := [box bs_ 83 [.slice as_code s_.code.length cs_code, iV x1.2.at_, iV x1.2.seed]]) (R := [own cd2 a2 1 1 ([x1.1] : List Int), own cd24 aa_ a_.length ca_ a_, it]) H9)
  refine Zr [iV x2.1] 2 ?_
  refine Zx ?_
  refine Zk [0, 1, 5, 6, 7] [(0, pV bs_), (1, .slice aa_ a_.length ca_), (5, iV (a_.length : Int)), (6, .slice a2 1 1), (7, iV x2.1)] ?_
  obtain ⟨x3, gx3, hF⟩ := M.bind_some hF
  refine Run_join (fun L' h' => ∃ (a4 : Option Addr) (c2 : Nat), L' = [(0, pV bs_), (5, iV (a_.length : Int)), (6, .slice a4 x3.2.2.1.length c2)] ∧ Hold h h' [box bs_ 83 [.slice as_code s_.code.length cs_code, iV x3.1, iV x3.2.1], own cd24 aa_ a_.length ca_ a_, own cd2 a4 x3.2.2.1.length c2 x3.2.2.1, it]) ?_ ?_
  ·rintro _ h6 ⟨a4, c2, rfl, H14⟩
   refine Zs ?_
   refine Zs ?_
   refine Run_ops ?_
   refine Zr [pV bs_] 0 ?_
   obtain ⟨x12, hx8, hF⟩ := M.bind_some hF
   have H36 : Hold h h6 [box bs_ 83 [.slice as_code s_.code.length cs_code, iV x3.1, iV x3.2.1], bun [own cd24 aa_ a_.length ca_ a_, own cd2 a4 x3.2.2.1.length c2 x3.2.2.1, it]] := Hold.bundle (S := [box bs_ 83 [.slice as_code s_.code.length cs_code, iV x3.1, iV x3.2.1]]) (R := [own cd24 aa_ a_.length ca_ a_, own cd2 a4 x3.2.2.1.length c2 x3.2.2.1, it]) H14
   refine Ze ?_
   refine ZC 47 #[pV bs_, iV 40] (w_spec_l01Next h h6 _ (⟨s_.code, x3.1, x3.2.1⟩ : TL01source) bs_ as_code cs_code rs_code 40 H36 _ _ hx8) (fun v4 h12 hp4 => ?_)
   obtain ⟨rfl, H37⟩ := hp4
   have H38 : Hold h h12 [box bs_ 83 [.slice as_code s_.code.length cs_code, iV x12.2.at_, iV x12.2.seed], own cd24 aa_ a_.length ca_ a_, own cd2 a4 x3.2.2.1.length c2 x3.2.2.1, it] := Hold.unbundle (S := [box bs_ 83 [.slice as_code s_.code.length cs_code, iV x12.2.at_, iV x12.2.seed]]) (R := [own cd24 aa_ a_.length ca_ a_, own cd2 a4 x3.2.2.1.length c2 x3.2.2.1, it]) H37 (Hold.tailBase (S := [box bs_ 83 [.slice as_code s_.code.length cs_code, iV x3.1, iV x3.2.1]]) (R := [own cd24 aa_ a_.length ca_ a_, own cd2 a4 x3.2.2.1.length c2 x3.2.2.1, it]) H14)
   refine Zx ?_
   refine Zk [0, 5, 6, 68] [(0, pV bs_), (5, iV (a_.length : Int)), (6, .slice a4 x3.2.2.1.length c2), (68, iV x12.1)] ?_
   refine Run_block ?_
   refine Zs ?_
   refine Zq [.bool (x12.1 == 0), .bool (x12.1 == 0)] [0, 5, 6, 68, 69] [(0, pV bs_), (5, iV (a_.length : Int)), (6, .slice a4 x3.2.2.1.length c2), (68, iV x12.1), (69, .bool (x12.1 == 0))] ?_
   refine Zc (x12.1 == 0) (fun hb6 => ?_) (fun hb6 => ?_)
   ·have hF := (M.ite_some hF).1 hb6
    refine Zs ?_
    refine Run_ops ?_
    refine Zr [.slice a4 x3.2.2.1.length c2, pV bs_, iV (a_.length : Int)] 0 ?_
    refine Ze ?_
    refine E_lit (C := cd2) (n := 2) (l := ([(-1), (a_.length : Int)] : List Int)) (cs := [iV (-1), iV (a_.length : Int)]) H38 (fun w => by kernel_rfl) (Enc.consE (cd2_own (-1) _) (Enc.consE (cd2_own (a_.length : Int) _) (Enc.nil _ _) rfl) rfl) rfl (by decide) (fun a9 h13 H39 => ?_)
    obtain ⟨x13, hx9, hF⟩ := M.bind_some hF
    have hn1 := (H39.len 0 rfl)
    have H40 : Hold h h13 [own cd2 a9 (([(-1), (a_.length : Int)] : List Int).length) 2 ([(-1), (a_.length : Int)] : List Int), box bs_ 83 [.slice as_code s_.code.length cs_code, iV x12.2.at_, iV x12.2.seed], own cd24 aa_ a_.length ca_ a_, own cd2 a4 x3.2.2.1.length c2 x3.2.2.1, it] := by rw [hn1]; exact H39
    have H41 : Hold h h13 [box bs_ 83 [.slice as_code s_.code.length cs_code, iV x12.2.at_, iV x12.2.seed], own cd2 a9 (([(-1), (a_.length : Int)] : List Int).length) 2 ([(-1), (a_.length : Int)] : List Int), own cd24 aa_ a_.length ca_ a_, own cd2 a4 x3.2.2.1.length c2 x3.2.2.1, it] := H40.pk [1, 0, 2, 3, 4]
    have H42 : Hold h h13 [box bs_ 83 [.slice as_code s_.code.length cs_code, iV x12.2.at_, iV x12.2.seed], own cd2 a9 (([(-1), (a_.length : Int)] : List Int).length) 2 ([(-1), (a_.length : Int)] : List Int), bun [own cd24 aa_ a_.length ca_ a_, own cd2 a4 x3.2.2.1.length c2 x3.2.2.1, it]] := Hold.bundle (S := [box bs_ 83 [.slice as_code s_.code.length cs_code, iV x12.2.at_, iV x12.2.seed], own cd2 a9 (([(-1), (a_.length : Int)] : List Int).length) 2 ([(-1), (a_.length : Int)] : List Int)]) (R := [own cd24 aa_ a_.length ca_ a_, own cd2 a4 x3.2.2.1.length c2 x3.2.2.1, it]) H41
    refine Ze ?_
    refine ZC 83 #[pV bs_, .slice a9 2 2] (Fn.arg (w_spec_l01Pick h h13 _ (⟨s_.code, x12.2.at_, x12.2.seed⟩ : TL01source) bs_ as_code cs_code rs_code ([(-1), (a_.length : Int)] : List Int) a9 2 H42 _ _ hx9) (by simp only [hn1])) (fun v5 h14 hp5 => ?_)
    obtain ⟨rfl, H43⟩ := hp5
    have H44 : Hold h h14 [box bs_ 83 [.slice as_code s_.code.length cs_code, iV x13.2.1.at_, iV x13.2.1.seed], own cd2 a9 (([(-1), (a_.length : Int)] : List Int).length) 2 x13.2.2, own cd24 aa_ a_.length ca_ a_, own cd2 a4 x3.2.2.1.length c2 x3.2.2.1, it] := Hold.unbundle (S := [box bs_ 83 [.slice as_code s_.code.length cs_code, iV x13.2.1.at_, iV x13.2.1.seed], own cd2 a9 (([(-1), (a_.length : Int)] : List Int).length) 2 x13.2.2]) (R := [own cd24 aa_ a_.length ca_ a_, own cd2 a4 x3.2.2.1.length c2 x3.2.2.1, it]) H43 (Hold.tailBase (S := [box bs_ 83 [.slice as_code s_.code.length cs_code, iV x12.2.at_, iV x12.2.seed], own cd2 a9 (([(-1), (a_.length : Int)] : List Int).length) 2 ([(-1), (a_.length : Int)] : List Int)]) (R := [own cd24 aa_ a_.length ca_ a_, own cd2 a4 x3.2.2.1.length c2 x3.2.2.1, it]) H41)
    refine Ze ?_
    refine E_lit (C := cd2) (n := 1) (l := ([x13.1] : List Int)) (cs := [iV x13.1]) H44 (fun w => by kernel_rfl) (Enc.consE (cd2_own x13.1 _) (Enc.nil _ _) rfl) rfl (by decide) (fun a10 h15 H45 => ?_)
    obtain ⟨l2, hl2, hF⟩ := M.bind_some hF
    have hl2 := M.app_some hl2
    have H46 : Hold h h15 [own cd2 a4 x3.2.2.1.length c2 x3.2.2.1, own cd2 a10 1 1 ([x13.1] : List Int), box bs_ 83 [.slice as_code s_.code.length cs_code, iV x13.2.1.at_, iV x13.2.1.seed], own cd2 a9 (([(-1), (a_.length : Int)] : List Int).length) 2 x13.2.2, own cd24 aa_ a_.length ca_ a_, it] := H45.pk [4, 0, 1, 2, 3, 5]
    have H47 : Hold h h15 [own cd2 a10 1 1 ([x13.1] : List Int), own cd2 a4 x3.2.2.1.length c2 x3.2.2.1, box bs_ 83 [.slice as_code s_.code.length cs_code, iV x13.2.1.at_, iV x13.2.1.seed], own cd2 a9 (([(-1), (a_.length : Int)] : List Int).length) 2 x13.2.2, own cd24 aa_ a_.length ca_ a_, it] := H46.pk [1, 0, 2, 3, 4, 5]
    have H48 : Hold h h15 [own cd2 a4 x3.2.2.1.length c2 x3.2.2.1, own cd2 a10 1 1 ([x13.1] : List Int), box bs_ 83 [.slice as_code s_.code.length cs_code, iV x13.2.1.at_, iV x13.2.1.seed], own cd2 a9 (([(-1), (a_.length : Int)] : List Int).length) 2 x13.2.2, own cd24 aa_ a_.length ca_ a_, it] := H47.pk [1, 0, 2, 3, 4, 5]
    refine Ze ?_
    refine E_app (C := cd2) (t := 24) (ty := 24) (n := x3.2.2.1.length) (m := 1) H48 cd2_ti rfl Tryz.underlying24 (by decide) (by kernel_rfl) hl2 (fun a11 c6 h16 H49 => ?_)
    refine Zr [.slice a11 l2.length c6] 7 ?_
    refine Zx ?_
    refine Zk [4] [(4, .slice a11 l2.length c6)] ?_
    have hF := M.ret_some hF
    subst hF
    have H50 : Hold h h16 [own cd24 aa_ a_.length ca_ a_, own cd2 a11 l2.length c6 l2, box bs_ 83 [.slice as_code s_.code.length cs_code, iV x13.2.1.at_, iV x13.2.1.seed], own cd2 a9 (([(-1), (a_.length : Int)] : List Int).length) 2 x13.2.2, it] := H49.pk [3, 0, 1, 2, 4]
    have H51 : Hold h h16 [own cd2 a11 l2.length c6 l2, box bs_ 83 [.slice as_code s_.code.length cs_code, iV x13.2.1.at_, iV x13.2.1.seed], own cd24 aa_ a_.length ca_ a_, it] := H50.pk [1, 2, 0, 4]
    exact Run_ret1 rfl (Zt (.slice a11 l2.length c6)) ⟨a11, c6, rfl, H51⟩
   ·have hF := (M.ite_some hF).2 hb6
    refine Zs ?_
    refine Zq [.bool (x12.1 == 1), .bool (x12.1 == 1)] [6, 78] [(6, .slice a4 x3.2.2.1.length c2), (78, .bool (x12.1 == 1))] ?_
    refine Zc (x12.1 == 1) (fun hb7 => ?_) (fun hb7 => ?_)
    ·have hF := (M.ite_some hF).1 hb7
     refine Zs ?_
     refine Zq [.slice none 0 0] [4] [(4, .slice none 0 0)] ?_
     have hF := M.ret_some hF
     subst hF
     have H52 := H38.empty cd2
     have H53 : Hold h h12 [own cd24 aa_ a_.length ca_ a_, own cd2 none 0 0 [], box bs_ 83 [.slice as_code s_.code.length cs_code, iV x12.2.at_, iV x12.2.seed], own cd2 a4 x3.2.2.1.length c2 x3.2.2.1, it] := H52.pk [2, 0, 1, 3, 4]
     have H54 : Hold h h12 [own cd2 none 0 0 [], box bs_ 83 [.slice as_code s_.code.length cs_code, iV x12.2.at_, iV x12.2.seed], own cd24 aa_ a_.length ca_ a_, it] := H53.pk [1, 2, 0, 4]
     exact Run_ret1 rfl (Zt (.slice none 0 0)) ⟨none, 0, rfl, H54⟩
    ·have hF := (M.ite_some hF).2 hb7
     refine Run_skip ?_
     refine Run_blk ?_
     refine Zs ?_
     refine Zq [.slice a4 x3.2.2.1.length c2, .slice a4 x3.2.2.1.length c2] [4] [(4, .slice a4 x3.2.2.1.length c2)] ?_
     have hF := M.ret_some hF
     subst hF
     have H55 : Hold h h12 [own cd2 a4 x3.2.2.1.length c2 x3.2.2.1, box bs_ 83 [.slice as_code s_.code.length cs_code, iV x12.2.at_, iV x12.2.seed], own cd24 aa_ a_.length ca_ a_, it] := H38.pk [2, 0, 1, 3]
     have H56 : Hold h h12 [own cd24 aa_ a_.length ca_ a_, own cd2 a4 x3.2.2.1.length c2 x3.2.2.1, box bs_ 83 [.slice as_code s_.code.length cs_code, iV x12.2.at_, iV x12.2.seed], it] := H55.pk [2, 0, 1, 3]
     have H57 : Hold h h12 [own cd2 a4 x3.2.2.1.length c2 x3.2.2.1, box bs_ 83 [.slice as_code s_.code.length cs_code, iV x12.2.at_, iV x12.2.seed], own cd24 aa_ a_.length ca_ a_, it] := H56.pk [1, 2, 0, 3]
     exact Run_ret1 rfl (Zt (.slice a4 x3.2.2.1.length c2)) ⟨a4, c2, rfl, H57⟩
  ·refine Run_block ?_
   have H58 : Hold h h4 [own cd2 a2 1 1 ([x1.1] : List Int), box bs_ 83 [.slice as_code s_.code.length cs_code, iV x2.2.at_, iV x2.2.seed], own cd24 aa_ a_.length ca_ a_, it] := H12.pk [1, 0, 2, 3]
   have hn2 := (H58.len 0 rfl)
   have H59 : Hold h h4 [own cd2 a2 (([x1.1] : List Int).length) 1 ([x1.1] : List Int), box bs_ 83 [.slice as_code s_.code.length cs_code, iV x2.2.at_, iV x2.2.seed], own cd24 aa_ a_.length ca_ a_, it] := by rw [hn2]; exact H58
   have H60 : Hold h h4 [box bs_ 83 [.slice as_code s_.code.length cs_code, iV x2.2.at_, iV x2.2.seed], own cd24 aa_ a_.length ca_ a_, own cd2 a2 (([x1.1] : List Int).length) 1 ([x1.1] : List Int), it] := H59.pk [1, 2, 0, 3]
   refine Run_keep [0, 1, 5, 6, 7] (L' := [(0, pV bs_), (1, .slice aa_ a_.length ca_), (5, iV (a_.length : Int)), (6, .slice a2 (([x1.1] : List Int).length) 1), (7, iV x2.1)]) (by first | (rw [hn2]; kernel_rfl) | (simp only [hn2]; kernel_rfl) | kernel_rfl) ?_
   refine Run_loop (fun m L' h' => ∃ (s1 : Int × Int × (List Int) × Int) (a3 : Option Addr) (c1 : Nat), M.loopN _ n m s1 = some x3 ∧ L' = [(0, pV bs_), (1, .slice aa_ a_.length ca_), (5, iV (a_.length : Int)), (6, .slice a3 s1.2.2.1.length c1), (7, iV s1.2.2.2)] ∧ Hold h h' [box bs_ 83 [.slice as_code s_.code.length cs_code, iV s1.1, iV s1.2.1], own cd24 aa_ a_.length ca_ a_, own cd2 a3 s1.2.2.1.length c1 s1.2.2.1, it]) n ⟨(x2.2.at_, x2.2.seed, ([x1.1] : List Int), x2.1), a2, 1, gx3, rfl, H60⟩ ?_
   rintro my1 _ h5 ⟨s1, a3, c1, gx3, rfl, H13⟩
   obtain ⟨my1, y1, rfl, hB1, hgoy1, houty1⟩ := M.loop_some gx3
   refine Zs ?_
   refine Zs ?_
   refine Zq [iV s1.2.2.2, .bool (decide (0 < s1.2.2.2))] [0, 1, 5, 6, 7, 23] [(0, pV bs_), (1, .slice aa_ a_.length ca_), (5, iV (a_.length : Int)), (6, .slice a3 s1.2.2.1.length c1), (7, iV s1.2.2.2), (23, .bool (decide (0 < s1.2.2.2)))] ?_
   refine Zc (decide (0 < s1.2.2.2)) (fun hb2 => ?_) (fun hb2 => ?_)
   ·have hB1 := (M.ite_some hB1).1 hb2
    refine Run_skip ?_
    refine Zs ?_
    refine Run_block ?_
    refine Zs ?_
    refine Run_ops ?_
    refine Zr [pV bs_, iV (a_.length : Int)] 0 ?_
    obtain ⟨x4, hx3, hB1⟩ := M.bind_some hB1
    have H15 : Hold h h5 [box bs_ 83 [.slice as_code s_.code.length cs_code, iV s1.1, iV s1.2.1], bun [own cd24 aa_ a_.length ca_ a_, own cd2 a3 s1.2.2.1.length c1 s1.2.2.1, it]] := Hold.bundle (S := [box bs_ 83 [.slice as_code s_.code.length cs_code, iV s1.1, iV s1.2.1]]) (R := [own cd24 aa_ a_.length ca_ a_, own cd2 a3 s1.2.2.1.length c1 s1.2.2.1, it]) H13
    refine Ze ?_
    refine ZC 47 #[pV bs_, iV (a_.length : Int)] (w_spec_l01Next h h5 _ (⟨s_.code, s1.1, s1.2.1⟩ : TL01source) bs_ as_code cs_code rs_code (a_.length : Int) H15 _ _ hx3) (fun v3 h7 hp3 => ?_)
    obtain ⟨rfl, H16⟩ := hp3
    have H17 : Hold h h7 [box bs_ 83 [.slice as_code s_.code.length cs_code, iV x4.2.at_, iV x4.2.seed], own cd24 aa_ a_.length ca_ a_, own cd2 a3 s1.2.2.1.length c1 s1.2.2.1, it] := Hold.unbundle (S := [box bs_ 83 [.slice as_code s_.code.length cs_code, iV x4.2.at_, iV x4.2.seed]]) (R := [own cd24 aa_ a_.length ca_ a_, own cd2 a3 s1.2.2.1.length c1 s1.2.2.1, it]) H16 (Hold.tailBase (S := [box bs_ 83 [.slice as_code s_.code.length cs_code, iV s1.1, iV s1.2.1]]) (R := [own cd24 aa_ a_.length ca_ a_, own cd2 a3 s1.2.2.1.length c1 s1.2.2.1, it]) H13)
    refine Zr [iV x4.1] 3 ?_
    refine Zx ?_
    refine Zk [0, 1, 5, 6, 7, 8] [(0, pV bs_), (1, .slice aa_ a_.length ca_), (5, iV (a_.length : Int)), (6, .slice a3 s1.2.2.1.length c1), (7, iV s1.2.2.2), (8, iV x4.1)] ?_
    refine Zs ?_
    obtain ⟨x5, hx4, hB1⟩ := M.bind_some hB1
    obtain ⟨hx4l, hx4u, hx4⟩ := M.idx_some hx4
    refine Zg 7 [(0, pV bs_), (1, .slice aa_ a_.length ca_), (5, iV (a_.length : Int)), (6, .slice a3 s1.2.2.1.length c1), (7, iV s1.2.2.2), (8, iV x4.1), (9, iV x5)] ?_ ?_
    ·refine Zb [.slice a3 s1.2.2.1.length c1, .slice a3 s1.2.2.1.length c1, iV (s1.2.2.1.length : Int), iV (w64 ((s1.2.2.1.length : Int) - 1))] 0 ?_
     refine Zy (.pointer (some (adr a3 ((w64 ((s1.2.2.1.length : Int) - 1)).toNat * 1)))) (Zi 24 2 1 (a3) (s1.2.2.1.length) (c1) .i64 (w64 ((s1.2.2.1.length : Int) - 1)) Tryz.underlying24 ((H17.rd 2 rfl).cell hx4).1 hx4l hx4u) ?_
     refine Zy (iV x5) (Zl 2 (adr a3 ((w64 ((s1.2.2.1.length : Int) - 1)).toNat * 1)) (iV x5) (cd2_cell (H17.rd 2 rfl) hx4)) ?_
     refine Zb [iV x5] 6 ?_
     exact Zd [0, 1, 5, 6, 7, 8, 9]
    refine Zs ?_
    refine Zs ?_
    refine Zq [iV 0] [0, 1, 5, 6, 7, 8, 9, 10] [(0, pV bs_), (1, .slice aa_ a_.length ca_), (5, iV (a_.length : Int)), (6, .slice a3 s1.2.2.1.length c1), (7, iV s1.2.2.2), (8, iV x4.1), (9, iV x5), (10, iV 0)] ?_
    obtain ⟨x6, gx6, hB1⟩ := M.bind_some hB1
    refine Run_join (fun L' h' => L' = [(0, pV bs_), (1, .slice aa_ a_.length ca_), (5, iV (a_.length : Int)), (6, .slice a3 s1.2.2.1.length c1), (7, iV s1.2.2.2), (8, iV x6.1)] ∧ Hold h h' [box bs_ 83 [.slice as_code s_.code.length cs_code, iV x4.2.at_, iV x4.2.seed], own cd24 aa_ a_.length ca_ a_, own cd2 a3 s1.2.2.1.length c1 s1.2.2.1, it]) ?_ ?_
    ·rintro _ h9 ⟨rfl, H19⟩
     refine Run_ops ?_
     refine Zr [.slice a3 s1.2.2.1.length c1, iV x6.1] 0 ?_
     refine Ze ?_
     refine E_lit (C := cd2) (n := 1) (l := ([x6.1] : List Int)) (cs := [iV x6.1]) H19 (fun w => by kernel_rfl) (Enc.consE (cd2_own x6.1 _) (Enc.nil _ _) rfl) rfl (by decide) (fun a7 h10 H28 => ?_)
     obtain ⟨l1, hl1, hB1⟩ := M.bind_some hB1
     have hl1 := M.app_some hl1
     have H29 : Hold h h10 [own cd2 a3 s1.2.2.1.length c1 s1.2.2.1, own cd2 a7 1 1 ([x6.1] : List Int), box bs_ 83 [.slice as_code s_.code.length cs_code, iV x4.2.at_, iV x4.2.seed], own cd24 aa_ a_.length ca_ a_, it] := H28.pk [3, 0, 1, 2, 4]
     have H30 : Hold h h10 [own cd2 a7 1 1 ([x6.1] : List Int), own cd2 a3 s1.2.2.1.length c1 s1.2.2.1, box bs_ 83 [.slice as_code s_.code.length cs_code, iV x4.2.at_, iV x4.2.seed], own cd24 aa_ a_.length ca_ a_, it] := H29.pk [1, 0, 2, 3, 4]
     have H31 : Hold h h10 [own cd2 a3 s1.2.2.1.length c1 s1.2.2.1, own cd2 a7 1 1 ([x6.1] : List Int), box bs_ 83 [.slice as_code s_.code.length cs_code, iV x4.2.at_, iV x4.2.seed], own cd24 aa_ a_.length ca_ a_, it] := H30.pk [1, 0, 2, 3, 4]
     refine Ze ?_
     refine E_app (C := cd2) (t := 24) (ty := 24) (n := s1.2.2.1.length) (m := 1) H31 cd2_ti rfl Tryz.underlying24 (by decide) (by kernel_rfl) hl1 (fun a8 c5 h11 H32 => ?_)
     refine Zr [.slice a8 l1.length c5] 4 ?_
     refine Zx ?_
     refine Zk [0, 1, 5, 6, 7] [(0, pV bs_), (1, .slice aa_ a_.length ca_), (5, iV (a_.length : Int)), (6, .slice a8 l1.length c5), (7, iV s1.2.2.2)] ?_
     refine Run_blk ?_
     refine Zq [iV s1.2.2.2, iV (w64 (s1.2.2.2 - 1)), iV (w64 (s1.2.2.2 - 1))] [0, 1, 5, 6, 7] [(0, pV bs_), (1, .slice aa_ a_.length ca_), (5, iV (a_.length : Int)), (6, .slice a8 l1.length c5), (7, iV (w64 (s1.2.2.2 - 1)))] ?_
     have H33 : Hold h h11 [box bs_ 83 [.slice as_code s_.code.length cs_code, iV x4.2.at_, iV x4.2.seed], own cd24 aa_ a_.length ca_ a_, own cd2 a8 l1.length c5 l1, it] := H32.pk [1, 2, 0, 3]
     have hB1 := M.ret_some hB1
     have gx3 := hgoy1 _ hB1.symm
     exact Za [0, 1, 5, 6, 7] my1 ⟨(x4.2.at_, x4.2.seed, l1, (w64 (s1.2.2.2 - 1))), a8, c5, gx3, rfl, H33⟩
    ·refine Run_block ?_
     refine Zk [0, 1, 5, 6, 7, 8, 9, 10] [(0, pV bs_), (1, .slice aa_ a_.length ca_), (5, iV (a_.length : Int)), (6, .slice a3 s1.2.2.1.length c1), (7, iV s1.2.2.2), (8, iV x4.1), (9, iV x5), (10, iV 0)] ?_
     refine Run_loop (fun m L' h' => ∃ (s2 : Int × Int), M.loopN _ n m s2 = some x6 ∧ L' = [(0, pV bs_), (1, .slice aa_ a_.length ca_), (5, iV (a_.length : Int)), (6, .slice a3 s1.2.2.1.length c1), (7, iV s1.2.2.2), (8, iV s2.1), (9, iV x5), (10, iV s2.2)] ∧ Hold h h' [box bs_ 83 [.slice as_code s_.code.length cs_code, iV x4.2.at_, iV x4.2.seed], own cd24 aa_ a_.length ca_ a_, own cd2 a3 s1.2.2.1.length c1 s1.2.2.1, it]) n ⟨(x4.1, 0), gx6, rfl, H17⟩ ?_
     rintro my2 _ h8 ⟨s2, gx6, rfl, H18⟩
     obtain ⟨my2, y2, rfl, hB2, hgoy2, houty2⟩ := M.loop_some gx6
     refine Zs ?_
     refine Zs ?_
     obtain ⟨x7, gx7, hB2⟩ := M.bind_some hB2
     obtain ⟨x9, gx9, hB2⟩ := M.bind_some hB2
     refine Zg 22 [(0, pV bs_), (1, .slice aa_ a_.length ca_), (5, iV (a_.length : Int)), (6, .slice a3 s1.2.2.1.length c1), (7, iV s1.2.2.2), (8, iV s2.1), (9, iV x5), (10, iV s2.2), (56, .bool x9)] ?_ ?_
     ·refine Zb [iV s2.2, iV (a_.length : Int), .bool (decide (s2.2 < (a_.length : Int)))] 0 ?_
      refine QRun_seq 12 [(0, pV bs_), (1, .slice aa_ a_.length ca_), (5, iV (a_.length : Int)), (6, .slice a3 s1.2.2.1.length c1), (7, iV s1.2.2.2), (8, iV s2.1), (9, iV x5), (10, iV s2.2), (46, .bool x7)] ?_ ?_
      ·rcases Bool.eq_false_or_eq_true (decide (s2.2 < (a_.length : Int))) with hb3 | hb3
       ·refine Zv (decide (s2.2 < (a_.length : Int))) true hb3 ?_
        have gx7 := (M.ite_some gx7).1 hb3
        obtain ⟨x8, hx5, gx7⟩ := M.bind_some gx7
        obtain ⟨hx5l, hx5u, hx5⟩ := M.idx_some hx5
        have H20 : Hold h h8 [own cd24 aa_ a_.length ca_ a_, box bs_ 83 [.slice as_code s_.code.length cs_code, iV x4.2.at_, iV x4.2.seed], own cd2 a3 s1.2.2.1.length c1 s1.2.2.1, it] := H18.pk [1, 0, 2, 3]
        have H21 := H20.toRows
        obtain ⟨a5, c3, H22⟩ := H21.pinRow hx5
        have H23 : Hold h h8 [box bs_ 83 [.slice as_code s_.code.length cs_code, iV x4.2.at_, iV x4.2.seed], rowsP cd2 24 aa_ a_.length ca_ a_ [(s2.1.toNat, a5, x8.length, c3, x8)], own cd2 a3 s1.2.2.1.length c1 s1.2.2.1, it] := H22.pk [1, 0, 2, 3]
        have gx7 := M.ret_some gx7
        refine Zb [iV x5, .slice aa_ a_.length ca_, iV s2.1] 4 ?_
        refine Zy (.pointer (some (adr aa_ (s2.1.toNat * 1)))) (Zi 22 24 1 (aa_) (a_.length) (ca_) .i64 (s2.1) Tryz.underlying22 ((H18.rd 1 rfl).cell hx5).1 hx5l hx5u) ?_
        refine Zy (.slice a5 x8.length c3) (Zl 24 (adr aa_ (s2.1.toNat * 1)) (.slice a5 x8.length c3) (H23.cellPin 1 rfl 0 rfl)) ?_
        refine Zb [iV (x8.length : Int), .bool (decide (x5 < (x8.length : Int)))] 9 ?_
        refine Zv (decide (x5 < (x8.length : Int))) x7 gx7 ?_
        exact Zd [0, 1, 5, 6, 7, 8, 9, 10, 46]
       ·refine Zv (decide (s2.2 < (a_.length : Int))) false hb3 ?_
        have gx7 := M.ret_some ((M.ite_some gx7).2 hb3)
        refine Zn ?_
        refine Zn ?_
        refine Zn ?_
        refine Zn ?_
        refine Zn ?_
        refine Zn ?_
        refine Zn ?_
        refine Zv false x7 gx7 ?_
        exact Zd [0, 1, 5, 6, 7, 8, 9, 10, 46]
      refine QRun_seq 22 [(0, pV bs_), (1, .slice aa_ a_.length ca_), (5, iV (a_.length : Int)), (6, .slice a3 s1.2.2.1.length c1), (7, iV s1.2.2.2), (8, iV s2.1), (9, iV x5), (10, iV s2.2), (56, .bool x9)] ?_ ?_
      ·rcases Bool.eq_false_or_eq_true x7 with hb4 | hb4
       ·refine Zv x7 true hb4 ?_
        have gx9 := (M.ite_some gx9).1 hb4
        obtain ⟨x10, hx6, gx9⟩ := M.bind_some gx9
        obtain ⟨hx6l, hx6u, hx6⟩ := M.idx_some hx6
        have H24 : Hold h h8 [own cd24 aa_ a_.length ca_ a_, box bs_ 83 [.slice as_code s_.code.length cs_code, iV x4.2.at_, iV x4.2.seed], own cd2 a3 s1.2.2.1.length c1 s1.2.2.1, it] := H18.pk [1, 0, 2, 3]
        have H25 := H24.toRows
        obtain ⟨a6, c4, H26⟩ := H25.pinRow hx6
        have H27 : Hold h h8 [box bs_ 83 [.slice as_code s_.code.length cs_code, iV x4.2.at_, iV x4.2.seed], rowsP cd2 24 aa_ a_.length ca_ a_ [(s2.1.toNat, a6, x10.length, c4, x10)], own cd2 a3 s1.2.2.1.length c1 s1.2.2.1, it] := H26.pk [1, 0, 2, 3]
        obtain ⟨x11, hx7, gx9⟩ := M.bind_some gx9
        obtain ⟨hx7l, hx7u, hx7⟩ := M.idx_some hx7
        have gx9 := M.ret_some gx9
        refine Zb [.slice aa_ a_.length ca_, iV s2.1] 13 ?_
        refine Zy (.pointer (some (adr aa_ (s2.1.toNat * 1)))) (Zi 22 24 1 (aa_) (a_.length) (ca_) .i64 (s2.1) Tryz.underlying22 ((H18.rd 1 rfl).cell hx6).1 hx6l hx6u) ?_
        refine Zy (.slice a6 x10.length c4) (Zl 24 (adr aa_ (s2.1.toNat * 1)) (.slice a6 x10.length c4) (H27.cellPin 1 rfl 0 rfl)) ?_
        refine Zb [iV x5] 17 ?_
        refine Zy (.pointer (some (adr a6 (x5.toNat * 1)))) (Zi 24 2 1 (a6) (x10.length) (c4) .i64 (x5) Tryz.underlying24 ((H27.rdPin 1 rfl 0 rfl).cell hx7).1 hx7l hx7u) ?_
        refine Zy (iV x11) (Zl 2 (adr a6 (x5.toNat * 1)) (iV x11) (cd2_cell (H27.rdPin 1 rfl 0 rfl) hx7)) ?_
        refine Zb [.bool (x11 == (-1000000000000000))] 20 ?_
        refine Zv (x11 == (-1000000000000000)) x9 gx9 ?_
        exact Zd [0, 1, 5, 6, 7, 8, 9, 10, 56]
       ·refine Zv x7 false hb4 ?_
        have gx9 := M.ret_some ((M.ite_some gx9).2 hb4)
        refine Zn ?_
        refine Zn ?_
        refine Zn ?_
        refine Zn ?_
        refine Zn ?_
        refine Zn ?_
        refine Zn ?_
        refine Zn ?_
        refine Zv false x9 gx9 ?_
        exact Zd [0, 1, 5, 6, 7, 8, 9, 10, 56]
      exact Zd [0, 1, 5, 6, 7, 8, 9, 10, 56]
     refine Zc (x9) (fun hb5 => ?_) (fun hb5 => ?_)
     ·have hB2 := (M.ite_some hB2).1 hb5
      refine Run_skip ?_
      refine Zs ?_
      refine Run_block ?_
      obtain ⟨u1, hz1, hB2⟩ := M.bind_some hB2
      have hz1 := M.guard_some hz1
      refine Zg 5 [(0, pV bs_), (1, .slice aa_ a_.length ca_), (5, iV (a_.length : Int)), (6, .slice a3 s1.2.2.1.length c1), (7, iV s1.2.2.2), (8, iV ((w64 (s2.1 + 1)).tmod (a_.length : Int))), (9, iV x5), (10, iV s2.2)] ?_ ?_
      ·refine Zb [iV s2.1, iV (w64 (s2.1 + 1)), iV (a_.length : Int)] 0 ?_
       refine Zy (iV ((w64 (s2.1 + 1)).tmod (a_.length : Int))) (Y_rem (op := .rem) (k := .i64) (x := w64 (s2.1 + 1)) (y := (a_.length : Int)) (by kernel_rfl) hz1) ?_
       refine Zb [iV ((w64 (s2.1 + 1)).tmod (a_.length : Int))] 4 ?_
       exact Zd [0, 1, 5, 6, 7, 8, 9, 10]
      refine Run_blk ?_
      refine Zq [iV s2.2, iV (w64 (s2.2 + 1)), iV (w64 (s2.2 + 1))] [0, 1, 5, 6, 7, 8, 9, 10] [(0, pV bs_), (1, .slice aa_ a_.length ca_), (5, iV (a_.length : Int)), (6, .slice a3 s1.2.2.1.length c1), (7, iV s1.2.2.2), (8, iV ((w64 (s2.1 + 1)).tmod (a_.length : Int))), (9, iV x5), (10, iV (w64 (s2.2 + 1)))] ?_
      have hB2 := M.ret_some hB2
      have gx6 := hgoy2 _ hB2.symm
      exact Za [0, 1, 5, 6, 7, 8, 9, 10] my2 ⟨(((w64 (s2.1 + 1)).tmod (a_.length : Int)), (w64 (s2.2 + 1))), gx6, rfl, H18⟩
     ·have hB2 := (M.ite_some hB2).2 hb5
      refine Run_exit (k' := _) rfl ?_
      have hB2 := M.ret_some hB2
      have gx6 := houty2 _ hB2.symm
      subst gx6
      exact Zf [0, 1, 5, 6, 7, 8] ⟨rfl, H18⟩
   ·have hB1 := (M.ite_some hB1).2 hb2
    refine Run_exit (k' := _) rfl ?_
    have H34 : Hold h h5 [own cd2 a3 s1.2.2.1.length c1 s1.2.2.1, box bs_ 83 [.slice as_code s_.code.length cs_code, iV s1.1, iV s1.2.1], own cd24 aa_ a_.length ca_ a_, it] := H13.pk [2, 0, 1, 3]
    have H35 : Hold h h5 [box bs_ 83 [.slice as_code s_.code.length cs_code, iV s1.1, iV s1.2.1], own cd24 aa_ a_.length ca_ a_, own cd2 a3 s1.2.2.1.length c1 s1.2.2.1, it] := H34.pk [1, 2, 0, 3]
    have hB1 := M.ret_some hB1
    have gx3 := houty1 _ hB1.symm
    subst gx3
    exact Zf [0, 5, 6] ⟨a3, c1, rfl, H35⟩

theorem w_spec_l03DrawCycle (h hE : Heap) (it : Item) (s_ : TL01source) (bs_ : Nat) (as_code : Option Addr) (cs_code : Nat) (rs_code : Rd cd5 h (Lt h) as_code cs_code s_.code) (a_ : List (List Int)) (aa_ : Option Addr) (ca_ : Nat) (HM : Hold h hE [box bs_ 83 [.slice as_code s_.code.length cs_code, iV s_.at_, iV s_.seed], own cd24 aa_ a_.length ca_ a_, it]) (n : Nat) (r : (List Int) × TL01source × (List (List Int))) (hF : spec_l03DrawCycle s_ a_ n = some r) :
  Fn Tryz.prog 48 #[pV bs_, .slice aa_ a_.length ca_] hE fun v h' => ∃ (a0 : Option Addr) (c0 : Nat), v = .slice a0 r.1.length c0 ∧ Hold h h' [own cd2 a0 r.1.length c0 r.1, box bs_ 83 [.slice as_code s_.code.length cs_code, iV r.2.1.at_, iV r.2.1.seed], own cd24 aa_ a_.length ca_ r.2.2, it] := by
 unfold spec_l03DrawCycle at hF
 refine Zo [pV bs_, .slice aa_ a_.length ca_] Tryz.func48 rfl (fun w0 _ => ?_)
 refine Zs ?_
 refine Zq [.slice none 0 0] [0, 1] [(0, pV bs_), (1, .slice aa_ a_.length ca_)] ?_
 refine Zs ?_
 refine Zs ?_
 obtain ⟨s1, gs1, hF⟩ := M.bind_some hF
 refine Run_join (fun L' h' => L' = [(0, pV bs_), (1, .slice aa_ a_.length ca_), (13, .bool s1.2.2)] ∧ Hold h h' [box bs_ 83 [.slice as_code s_.code.length cs_code, iV s1.1, iV s1.2.1], own cd24 aa_ a_.length ca_ a_, it]) ?_ ?_
 ·rintro _ h2 ⟨rfl, H4⟩
  refine Zc (s1.2.2) (fun hb2 => ?_) (fun hb2 => ?_)
  ·have hF := (M.ite_some hF).1 hb2
   refine Zs ?_
   refine Run_ops ?_
   refine Zr [.slice aa_ a_.length ca_, pV bs_] 0 ?_
   refine Ze ?_
   refine E_lit (C := cd2) (n := 4) (l := ([(-1000000000000000), (-20), (-5), 0] : List Int)) (cs := [iV (-1000000000000000), iV (-20), iV (-5), iV 0]) H4 (fun w => by kernel_rfl) (Enc.consE (cd2_own (-1000000000000000) _) (Enc.consE (cd2_own (-20) _) (Enc.consE (cd2_own (-5) _) (Enc.consE (cd2_own 0 _) (Enc.nil _ _) rfl) rfl) rfl) rfl) rfl (by decide) (fun a1 h3 H5 => ?_)
   obtain ⟨x3, hx3, hF⟩ := M.bind_some hF
   have hn1 := (H5.len 0 rfl)
   have H6 : Hold h h3 [own cd2 a1 (([(-1000000000000000), (-20), (-5), 0] : List Int).length) 4 ([(-1000000000000000), (-20), (-5), 0] : List Int), box bs_ 83 [.slice as_code s_.code.length cs_code, iV s1.1, iV s1.2.1], own cd24 aa_ a_.length ca_ a_, it] := by rw [hn1]; exact H5
   have H7 : Hold h h3 [box bs_ 83 [.slice as_code s_.code.length cs_code, iV s1.1, iV s1.2.1], own cd2 a1 (([(-1000000000000000), (-20), (-5), 0] : List Int).length) 4 ([(-1000000000000000), (-20), (-5), 0] : List Int), own cd24 aa_ a_.length ca_ a_, it] := H6.pk [1, 0, 2, 3]
   have H8 : Hold h h3 [box bs_ 83 [.slice as_code s_.code.length cs_code, iV s1.1, iV s1.2.1], own cd2 a1 (([(-1000000000000000), (-20), (-5), 0] : List Int).length) 4 ([(-1000000000000000), (-20), (-5), 0] : List Int), bun [own cd24 aa_ a_.length ca_ a_, it]] := Hold.bundle (S := [box bs_ 83 [.slice as_code s_.code.length cs_code, iV s1.1, iV s1.2.1], own cd2 a1 (([(-1000000000000000), (-20), (-5), 0] : List Int).length) 4 ([(-1000000000000000), (-20), (-5), 0] : List Int)]) (R := [own cd24 aa_ a_.length ca_ a_, it]) H7
   refine Ze ?_
   refine ZC 83 #[pV bs_, .slice a1 4 4] (Fn.arg (w_spec_l01Pick h h3 _ (⟨s_.code, s1.1, s1.2.1⟩ : TL01source) bs_ as_code cs_code rs_code ([(-1000000000000000), (-20), (-5), 0] : List Int) a1 4 H8 _ _ hx3) (by simp only [hn1])) (fun v2 h4 hp2 => ?_)
   obtain ⟨rfl, H9⟩ := hp2
   have H10 : Hold h h4 [box bs_ 83 [.slice as_code s_.code.length cs_code, iV x3.2.1.at_, iV x3.2.1.seed], own cd2 a1 (([(-1000000000000000), (-20), (-5), 0] : List Int).length) 4 x3.2.2, own cd24 aa_ a_.length ca_ a_, it] := Hold.unbundle (S := [box bs_ 83 [.slice as_code s_.code.length cs_code, iV x3.2.1.at_, iV x3.2.1.seed], own cd2 a1 (([(-1000000000000000), (-20), (-5), 0] : List Int).length) 4 x3.2.2]) (R := [own cd24 aa_ a_.length ca_ a_, it]) H9 (Hold.tailBase (S := [box bs_ 83 [.slice as_code s_.code.length cs_code, iV s1.1, iV s1.2.1], own cd2 a1 (([(-1000000000000000), (-20), (-5), 0] : List Int).length) 4 ([(-1000000000000000), (-20), (-5), 0] : List Int)]) (R := [own cd24 aa_ a_.length ca_ a_, it]) H7)
   obtain ⟨x4, hx4, hF⟩ := M.bind_some hF
   refine Ze ?_
   refine ZC 82 #[.slice aa_ a_.length ca_, iV x3.1] (w_spec_l03Over h4 a_ aa_ ca_ (H10.rd 2 rfl) x3.1 _ _ hx4) (fun v3 h5 hp3 => ?_)
   obtain ⟨a2, c1, rfl, H11⟩ := hp3
   have H12 : Hold h h5 [own cd2 a2 x4.length c1 x4, box bs_ 83 [.slice as_code s_.code.length cs_code, iV x3.2.1.at_, iV x3.2.1.seed], own cd2 a1 (([(-1000000000000000), (-20), (-5), 0] : List Int).length) 4 x3.2.2, own cd24 aa_ a_.length ca_ a_, it] := H10.call H11 rfl
   refine Zr [.slice a2 x4.length c1] 5 ?_
   refine Zx ?_
   refine Zk [0, 1, 5] [(0, pV bs_), (1, .slice aa_ a_.length ca_), (5, .slice a2 x4.length c1)] ?_
   refine Zs ?_
   refine Zq [.slice a2 x4.length c1, iV (x4.length : Int), .bool (decide (0 < (x4.length : Int)))] [0, 1, 5, 21] [(0, pV bs_), (1, .slice aa_ a_.length ca_), (5, .slice a2 x4.length c1), (21, .bool (decide (0 < (x4.length : Int))))] ?_
   refine Zc (decide (0 < (x4.length : Int))) (fun hb3 => ?_) (fun hb3 => ?_)
   ·have hF := (M.ite_some hF).1 hb3
    refine Zs ?_
    refine Run_ops ?_
    refine Zr [pV bs_, .slice a2 x4.length c1, iV (x4.length : Int)] 0 ?_
    obtain ⟨x5, hx5, hF⟩ := M.bind_some hF
    have H13 : Hold h h5 [box bs_ 83 [.slice as_code s_.code.length cs_code, iV x3.2.1.at_, iV x3.2.1.seed], own cd2 a2 x4.length c1 x4, own cd2 a1 (([(-1000000000000000), (-20), (-5), 0] : List Int).length) 4 x3.2.2, own cd24 aa_ a_.length ca_ a_, it] := H12.pk [1, 0, 2, 3, 4]
    have H14 : Hold h h5 [box bs_ 83 [.slice as_code s_.code.length cs_code, iV x3.2.1.at_, iV x3.2.1.seed], bun [own cd2 a2 x4.length c1 x4, own cd2 a1 (([(-1000000000000000), (-20), (-5), 0] : List Int).length) 4 x3.2.2, own cd24 aa_ a_.length ca_ a_, it]] := Hold.bundle (S := [box bs_ 83 [.slice as_code s_.code.length cs_code, iV x3.2.1.at_, iV x3.2.1.seed]]) (R := [own cd2 a2 x4.length c1 x4, own cd2 a1 (([(-1000000000000000), (-20), (-5), 0] : List Int).length) 4 x3.2.2, own cd24 aa_ a_.length ca_ a_, it]) H13
    refine Ze ?_
    refine ZC 47 #[pV bs_, iV (x4.length : Int)] (w_spec_l01Next h h5 _ (⟨s_.code, x3.2.1.at_, x3.2.1.seed⟩ : TL01source) bs_ as_code cs_code rs_code (x4.length : Int) H14 _ _ hx5) (fun v4 h6 hp4 => ?_)
    obtain ⟨rfl, H15⟩ := hp4
    have H16 : Hold h h6 [box bs_ 83 [.slice as_code s_.code.length cs_code, iV x5.2.at_, iV x5.2.seed], own cd2 a2 x4.length c1 x4, own cd2 a1 (([(-1000000000000000), (-20), (-5), 0] : List Int).length) 4 x3.2.2, own cd24 aa_ a_.length ca_ a_, it] := Hold.unbundle (S := [box bs_ 83 [.slice as_code s_.code.length cs_code, iV x5.2.at_, iV x5.2.seed]]) (R := [own cd2 a2 x4.length c1 x4, own cd2 a1 (([(-1000000000000000), (-20), (-5), 0] : List Int).length) 4 x3.2.2, own cd24 aa_ a_.length ca_ a_, it]) H15 (Hold.tailBase (S := [box bs_ 83 [.slice as_code s_.code.length cs_code, iV x3.2.1.at_, iV x3.2.1.seed]]) (R := [own cd2 a2 x4.length c1 x4, own cd2 a1 (([(-1000000000000000), (-20), (-5), 0] : List Int).length) 4 x3.2.2, own cd24 aa_ a_.length ca_ a_, it]) H13)
    refine Zr [iV x5.1] 4 ?_
    refine Zx ?_
    refine Zk [5, 6] [(5, .slice a2 x4.length c1), (6, iV x5.1)] ?_
    refine Zs ?_
    obtain ⟨x6, hx6, hF⟩ := M.bind_some hF
    obtain ⟨hx6a, hx6b, hx6c, hx6d⟩ := M.sub_some hx6
    have hn2 : x6.length = (x4.length : Int).toNat - (x5.1 : Int).toNat := by rw [hx6d, List.length_take, List.length_drop]; omega
    obtain ⟨x7, hx7, hF⟩ := M.bind_some hF
    obtain ⟨hx7a, hx7b, hx7c, hx7d⟩ := M.sub_some hx7
    have hn3 : x7.length = x5.1.toNat - (0 : Int).toNat := by rw [hx7d, List.length_take, List.length_drop]; omega
    refine Run_D (fun x => Hold h x [box bs_ 83 [.slice as_code s_.code.length cs_code, iV x5.2.at_, iV x5.2.seed], own cd2 a2 x4.length c1 x4, own cd2 a1 (([(-1000000000000000), (-20), (-5), 0] : List Int).length) 4 x3.2.2, own cd24 aa_ a_.length ca_ a_, it]) (fun x => Hold h x [box bs_ 83 [.slice as_code s_.code.length cs_code, iV x5.2.at_, iV x5.2.seed], own cd2 a2 x4.length c1 x4, own cd2 a1 (([(-1000000000000000), (-20), (-5), 0] : List Int).length) 4 x3.2.2, own cd24 aa_ a_.length ca_ a_, it]) mixed (by kernel_rfl) H16 Hold.stable (fun x Hy => (show Hold h x [box bs_ 83 [.slice as_code s_.code.length cs_code, iV x5.2.at_, iV x5.2.seed], own cd2 a2 x4.length c1 x4, own cd2 a1 (([(-1000000000000000), (-20), (-5), 0] : List Int).length) 4 x3.2.2, own cd24 aa_ a_.length ca_ a_, it] from Hy).pk [0, 1, 2, 3, 4]) ?_
    refine ZB 7 [.slice a2 x4.length c1, iV x5.1] 0 ?_
    refine ZY 6 2 (.slice (sliceA a2 c1 x5.1.toNat 1) ((x4.length : Int).toNat - (x5.1 : Int).toNat) (c1 - x5.1.toNat)) (fun hx Hx => (YE.of (Y_slice (t := 24) (e := 2) (sz := 1) (a := a2) (n := x4.length) (cap := c1) (lo := (some (.i64, x5.1))) (hi := none) (x := x5.1) (y := (x4.length : Int)) (by kernel_rfl) Tryz.underlying24 (by kernel_rfl) (Hx.rd 1 rfl).fits rfl rfl hx6a hx6b hx6c))) ?_
    refine ZB 4 [.slice a2 x4.length c1, iV x5.1] 4 ?_
    refine ZY 3 6 (.slice (sliceA a2 c1 0 1) (x5.1.toNat - (0 : Int).toNat) (c1 - 0)) (fun hx Hx => (YE.of (Y_slice (t := 24) (e := 2) (sz := 1) (a := a2) (n := x4.length) (cap := c1) (lo := none) (hi := (some (.i64, x5.1))) (x := 0) (y := x5.1) (by kernel_rfl) Tryz.underlying24 (by kernel_rfl) (Hx.rd 1 rfl).fits rfl rfl hx7a hx7b hx7c))) ?_
    refine ZE 2 3 (fun h7 H17 => ?_)
    have H18 : Hold h h7 [box bs_ 83 [.slice as_code s_.code.length cs_code, iV x5.2.at_, iV x5.2.seed], own cd2 a2 x4.length c1 x4, own cd2 a1 (([(-1000000000000000), (-20), (-5), 0] : List Int).length) 4 x3.2.2, own cd24 aa_ a_.length ca_ a_, it] := H17
    obtain ⟨x8, hx8, hF⟩ := M.bind_some hF
    refine ZC 49 #[.slice (sliceA a2 c1 x5.1.toNat 1) ((x4.length : Int).toNat - (x5.1 : Int).toNat) (c1 - x5.1.toNat)] (Fn.arg (w_spec_l01Own h7 x6 (sliceA a2 c1 x5.1.toNat 1) (c1 - x5.1.toNat) (show Rd _ _ _ _ _ x6 from hx6d ▸ ((H18.rd 1 rfl)).sub (by omega) (by omega)) _ _ hx8) (by simp only [hn2])) (fun v5 h8 hp5 => ?_)
    obtain ⟨a3, c2, rfl, H19⟩ := hp5
    have H20 : Hold h h8 [own cd2 a3 x8.length c2 x8, box bs_ 83 [.slice as_code s_.code.length cs_code, iV x5.2.at_, iV x5.2.seed], own cd2 a2 x4.length c1 x4, own cd2 a1 (([(-1000000000000000), (-20), (-5), 0] : List Int).length) 4 x3.2.2, own cd24 aa_ a_.length ca_ a_, it] := H18.call H19 rfl
    refine ⟨fun x => Hold h x [box bs_ 83 [.slice as_code s_.code.length cs_code, iV x5.2.at_, iV x5.2.seed], own cd2 a2 x4.length c1 x4, own cd2 a1 (([(-1000000000000000), (-20), (-5), 0] : List Int).length) 4 x3.2.2, own cd24 aa_ a_.length ca_ a_, it, own cd2 a3 x8.length c2 x8], fun x => Hold h x [own cd2 a3 x8.length c2 x8, box bs_ 83 [.slice as_code s_.code.length cs_code, iV x5.2.at_, iV x5.2.seed], own cd2 a2 x4.length c1 x4, own cd2 a1 (([(-1000000000000000), (-20), (-5), 0] : List Int).length) 4 x3.2.2, own cd24 aa_ a_.length ca_ a_, it], H20, Hold.stable, fun x Hy => (show Hold h x [own cd2 a3 x8.length c2 x8, box bs_ 83 [.slice as_code s_.code.length cs_code, iV x5.2.at_, iV x5.2.seed], own cd2 a2 x4.length c1 x4, own cd2 a1 (([(-1000000000000000), (-20), (-5), 0] : List Int).length) 4 x3.2.2, own cd24 aa_ a_.length ca_ a_, it] from Hy).pk [1, 2, 3, 4, 5, 0], fun x Hy => (show Hold h x [box bs_ 83 [.slice as_code s_.code.length cs_code, iV x5.2.at_, iV x5.2.seed], own cd2 a2 x4.length c1 x4, own cd2 a1 (([(-1000000000000000), (-20), (-5), 0] : List Int).length) 4 x3.2.2, own cd24 aa_ a_.length ca_ a_, it, own cd2 a3 x8.length c2 x8] from Hy).pk [0, 1, 2, 3, 4], ?_⟩
    refine ZT 7 (fun h9 H21 => ?_)
    have H22 : Hold h h9 [own cd2 a3 x8.length c2 x8, box bs_ 83 [.slice as_code s_.code.length cs_code, iV x5.2.at_, iV x5.2.seed], own cd2 a2 x4.length c1 x4, own cd2 a1 (([(-1000000000000000), (-20), (-5), 0] : List Int).length) 4 x3.2.2, own cd24 aa_ a_.length ca_ a_, it] := H21
    obtain ⟨l1, hl1, hF⟩ := M.bind_some hF
    have hl1 := M.app_some hl1
    refine Ze ?_
    refine E_appR (C := cd2) (t := 24) (ty := 24) (n := x8.length) (m := x5.1.toNat - (0 : Int).toNat) H22 cd2_copies (show Rd _ _ _ _ _ x7 from hx7d ▸ ((H22.rd 2 rfl)).sub (by omega) (by omega)) hn3 cd2_ti rfl Tryz.underlying24 (by decide) (by kernel_rfl) hl1 (fun a4 c3 h10 H23 => ?_)
    refine Zr [.slice a4 l1.length c3] 8 ?_
    refine Zx ?_
    refine Zk [4] [(4, .slice a4 l1.length c3)] ?_
    have hF := M.ret_some hF
    subst hF
    have H24 : Hold h h10 [own cd24 aa_ a_.length ca_ a_, own cd2 a4 l1.length c3 l1, box bs_ 83 [.slice as_code s_.code.length cs_code, iV x5.2.at_, iV x5.2.seed], own cd2 a2 x4.length c1 x4, own cd2 a1 (([(-1000000000000000), (-20), (-5), 0] : List Int).length) 4 x3.2.2, it] := H23.pk [4, 0, 1, 2, 3, 5]
    have H25 : Hold h h10 [own cd2 a4 l1.length c3 l1, box bs_ 83 [.slice as_code s_.code.length cs_code, iV x5.2.at_, iV x5.2.seed], own cd24 aa_ a_.length ca_ a_, it] := H24.pk [1, 2, 0, 5]
    exact Run_ret1 rfl (Zt (.slice a4 l1.length c3)) ⟨a4, c3, rfl, H25⟩
   ·have hF := (M.ite_some hF).2 hb3
    refine Run_skip ?_
    refine Zs ?_
    refine Run_ops ?_
    refine Zr [pV bs_, .slice aa_ a_.length ca_] 0 ?_
    obtain ⟨x9, hx9, hF⟩ := M.bind_some hF
    have H26 : Hold h h5 [own cd24 aa_ a_.length ca_ a_, own cd2 a2 x4.length c1 x4, box bs_ 83 [.slice as_code s_.code.length cs_code, iV x3.2.1.at_, iV x3.2.1.seed], own cd2 a1 (([(-1000000000000000), (-20), (-5), 0] : List Int).length) 4 x3.2.2, it] := H12.pk [3, 0, 1, 2, 4]
    have H27 : Hold h h5 [box bs_ 83 [.slice as_code s_.code.length cs_code, iV x3.2.1.at_, iV x3.2.1.seed], own cd24 aa_ a_.length ca_ a_, own cd2 a2 x4.length c1 x4, own cd2 a1 (([(-1000000000000000), (-20), (-5), 0] : List Int).length) 4 x3.2.2, it] := H26.pk [2, 0, 1, 3, 4]
    have H28 : Hold h h5 [box bs_ 83 [.slice as_code s_.code.length cs_code, iV x3.2.1.at_, iV x3.2.1.seed], own cd24 aa_ a_.length ca_ a_, bun [own cd2 a2 x4.length c1 x4, own cd2 a1 (([(-1000000000000000), (-20), (-5), 0] : List Int).length) 4 x3.2.2, it]] := Hold.bundle (S := [box bs_ 83 [.slice as_code s_.code.length cs_code, iV x3.2.1.at_, iV x3.2.1.seed], own cd24 aa_ a_.length ca_ a_]) (R := [own cd2 a2 x4.length c1 x4, own cd2 a1 (([(-1000000000000000), (-20), (-5), 0] : List Int).length) 4 x3.2.2, it]) H27
    refine Ze ?_
    refine ZC 84 #[pV bs_, .slice aa_ a_.length ca_] (w_spec_l03DrawNodes h h5 _ (⟨s_.code, x3.2.1.at_, x3.2.1.seed⟩ : TL01source) bs_ as_code cs_code rs_code a_ aa_ ca_ H28 _ _ hx9) (fun v6 h11 hp6 => ?_)
    obtain ⟨a5, c4, rfl, H29⟩ := hp6
    have H30 : Hold h h11 [own cd2 a5 x9.1.length c4 x9.1, box bs_ 83 [.slice as_code s_.code.length cs_code, iV x9.2.1.at_, iV x9.2.1.seed], own cd24 aa_ a_.length ca_ x9.2.2, own cd2 a2 x4.length c1 x4, own cd2 a1 (([(-1000000000000000), (-20), (-5), 0] : List Int).length) 4 x3.2.2, it] := Hold.unbundle (S := [own cd2 a5 x9.1.length c4 x9.1, box bs_ 83 [.slice as_code s_.code.length cs_code, iV x9.2.1.at_, iV x9.2.1.seed], own cd24 aa_ a_.length ca_ x9.2.2]) (R := [own cd2 a2 x4.length c1 x4, own cd2 a1 (([(-1000000000000000), (-20), (-5), 0] : List Int).length) 4 x3.2.2, it]) H29 (Hold.tailBase (S := [box bs_ 83 [.slice as_code s_.code.length cs_code, iV x3.2.1.at_, iV x3.2.1.seed], own cd24 aa_ a_.length ca_ a_]) (R := [own cd2 a2 x4.length c1 x4, own cd2 a1 (([(-1000000000000000), (-20), (-5), 0] : List Int).length) 4 x3.2.2, it]) H27)
    refine Zr [.slice a5 x9.1.length c4] 3 ?_
    refine Zx ?_
    refine Zk [4] [(4, .slice a5 x9.1.length c4)] ?_
    have hF := M.ret_some hF
    subst hF
    have H31 : Hold h h11 [own cd24 aa_ a_.length ca_ x9.2.2, own cd2 a5 x9.1.length c4 x9.1, box bs_ 83 [.slice as_code s_.code.length cs_code, iV x9.2.1.at_, iV x9.2.1.seed], own cd2 a2 x4.length c1 x4, own cd2 a1 (([(-1000000000000000), (-20), (-5), 0] : List Int).length) 4 x3.2.2, it] := H30.pk [2, 0, 1, 3, 4, 5]
    have H32 : Hold h h11 [own cd2 a5 x9.1.length c4 x9.1, box bs_ 83 [.slice as_code s_.code.length cs_code, iV x9.2.1.at_, iV x9.2.1.seed], own cd24 aa_ a_.length ca_ x9.2.2, it] := H31.pk [1, 2, 0, 5]
    exact Run_ret1 rfl (Zt (.slice a5 x9.1.length c4)) ⟨a5, c4, rfl, H32⟩
  ·have hF := (M.ite_some hF).2 hb2
   refine Run_skip ?_
   refine Zs ?_
   refine Run_ops ?_
   refine Zr [pV bs_, .slice aa_ a_.length ca_] 0 ?_
   obtain ⟨x10, hx10, hF⟩ := M.bind_some hF
   have H33 : Hold h h2 [own cd24 aa_ a_.length ca_ a_, box bs_ 83 [.slice as_code s_.code.length cs_code, iV s1.1, iV s1.2.1], it] := H4.pk [1, 0, 2]
   have H34 : Hold h h2 [box bs_ 83 [.slice as_code s_.code.length cs_code, iV s1.1, iV s1.2.1], own cd24 aa_ a_.length ca_ a_, it] := H33.pk [1, 0, 2]
   have H35 : Hold h h2 [box bs_ 83 [.slice as_code s_.code.length cs_code, iV s1.1, iV s1.2.1], own cd24 aa_ a_.length ca_ a_, bun [it]] := Hold.bundle (S := [box bs_ 83 [.slice as_code s_.code.length cs_code, iV s1.1, iV s1.2.1], own cd24 aa_ a_.length ca_ a_]) (R := [it]) H34
   refine Ze ?_
   refine ZC 84 #[pV bs_, .slice aa_ a_.length ca_] (w_spec_l03DrawNodes h h2 _ (⟨s_.code, s1.1, s1.2.1⟩ : TL01source) bs_ as_code cs_code rs_code a_ aa_ ca_ H35 _ _ hx10) (fun v7 h12 hp7 => ?_)
   obtain ⟨a6, c5, rfl, H36⟩ := hp7
   have H37 : Hold h h12 [own cd2 a6 x10.1.length c5 x10.1, box bs_ 83 [.slice as_code s_.code.length cs_code, iV x10.2.1.at_, iV x10.2.1.seed], own cd24 aa_ a_.length ca_ x10.2.2, it] := Hold.unbundle (S := [own cd2 a6 x10.1.length c5 x10.1, box bs_ 83 [.slice as_code s_.code.length cs_code, iV x10.2.1.at_, iV x10.2.1.seed], own cd24 aa_ a_.length ca_ x10.2.2]) (R := [it]) H36 (Hold.tailBase (S := [box bs_ 83 [.slice as_code s_.code.length cs_code, iV s1.1, iV s1.2.1], own cd24 aa_ a_.length ca_ a_]) (R := [it]) H34)
   refine Zr [.slice a6 x10.1.length c5] 3 ?_
   refine Zx ?_
   refine Zk [4] [(4, .slice a6 x10.1.length c5)] ?_
   have hF := M.ret_some hF
   subst hF
   have H38 : Hold h h12 [own cd24 aa_ a_.length ca_ x10.2.2, own cd2 a6 x10.1.length c5 x10.1, box bs_ 83 [.slice as_code s_.code.length cs_code, iV x10.2.1.at_, iV x10.2.1.seed], it] := H37.pk [2, 0, 1, 3]
   have H39 : Hold h h12 [own cd2 a6 x10.1.length c5 x10.1, box bs_ 83 [.slice as_code s_.code.length cs_code, iV x10.2.1.at_, iV x10.2.1.seed], own cd24 aa_ a_.length ca_ x10.2.2, it] := H38.pk [1, 2, 0, 3]
   exact Run_ret1 rfl (Zt (.slice a6 x10.1.length c5)) ⟨a6, c5, rfl, H39⟩
 ·refine Run_ops ?_
  obtain ⟨x1, hx1, gs1⟩ := M.bind_some gs1
  refine Zr [.slice aa_ a_.length ca_] 0 ?_
  refine Zz (.bool x1) (ZQ 68 #[.slice aa_ a_.length ca_] (w_spec_l02Square hE a_ aa_ ca_ (HM.rd 1 rfl) _ _ hx1)) ?_
  rcases Bool.eq_false_or_eq_true x1 with hb1 | hb1
  ·have gs1 := (M.ite_some gs1).1 hb1
   refine Run_q1 3 (L' := [(0, pV bs_), (1, .slice aa_ a_.length ca_), (7, .slice aa_ a_.length ca_), (8, .bool x1), (9, .bool true)]) ?_ ?_
   ·refine Zv x1 true hb1 ?_
    exact Zd [0, 1, 7, 8, 9]
   refine Zr [pV bs_] 3 ?_
   obtain ⟨x2, hx2, gs1⟩ := M.bind_some gs1
   have H1 : Hold h hE [box bs_ 83 [.slice as_code s_.code.length cs_code, iV s_.at_, iV s_.seed], bun [own cd24 aa_ a_.length ca_ a_, it]] := Hold.bundle (S := [box bs_ 83 [.slice as_code s_.code.length cs_code, iV s_.at_, iV s_.seed]]) (R := [own cd24 aa_ a_.length ca_ a_, it]) HM
   refine Ze ?_
   refine ZC 47 #[pV bs_, iV 4] (w_spec_l01Next h hE _ s_ bs_ as_code cs_code rs_code 4 H1 _ _ hx2) (fun v1 h1 hp1 => ?_)
   obtain ⟨rfl, H2⟩ := hp1
   have H3 : Hold h h1 [box bs_ 83 [.slice as_code s_.code.length cs_code, iV x2.2.at_, iV x2.2.seed], own cd24 aa_ a_.length ca_ a_, it] := Hold.unbundle (S := [box bs_ 83 [.slice as_code s_.code.length cs_code, iV x2.2.at_, iV x2.2.seed]]) (R := [own cd24 aa_ a_.length ca_ a_, it]) H2 (Hold.tailBase (S := [box bs_ 83 [.slice as_code s_.code.length cs_code, iV s_.at_, iV s_.seed]]) (R := [own cd24 aa_ a_.length ca_ a_, it]) HM)
   refine Zr [.bool (decide (0 < x2.1))] 5 ?_
   refine Zr [.bool (decide (0 < x2.1))] 6 ?_
   refine Zx ?_
   refine Zk [0, 1, 13] [(0, pV bs_), (1, .slice aa_ a_.length ca_), (13, .bool (decide (0 < x2.1)))] ?_
   have gs1 := M.ret_some gs1
   subst gs1
   exact Zf [0, 1, 13] ⟨rfl, H3⟩
  ·have gs1 := (M.ite_some gs1).2 hb1
   refine Run_q1 7 (L' := [(0, pV bs_), (1, .slice aa_ a_.length ca_), (13, .bool false)]) ?_ ?_
   ·refine Zv x1 false hb1 ?_
    refine Zn ?_
    refine Zn ?_
    refine Zn ?_
    refine Zv false false rfl ?_
    exact Zd [0, 1, 13]
   refine Zx ?_
   refine Zk [0, 1, 13] [(0, pV bs_), (1, .slice aa_ a_.length ca_), (13, .bool false)] ?_
   have gs1 := M.ret_some gs1
   subst gs1
   exact Zf [0, 1, 13] ⟨rfl, HM⟩

end Go.Proofs.YtelopfgolahlpaaGreat
