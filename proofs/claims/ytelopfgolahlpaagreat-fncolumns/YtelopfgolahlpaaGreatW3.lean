/-
  Walks: each Go function, called with what reads as plain data, returns what its plain program computes.
  Conditions: None beyond the given statement.
-/
import Derived.Test.YtelopfgolahlpaaGreatW2
namespace Go.Proofs.YtelopfgolahlpaaGreat
open Go
attribute [local irreducible] setL setB opA fineI idleI fineB evB okB markB markBs readyB readyBs chainB lk rho pickL dropSlot tailOK
set_option maxRecDepth 100000
set_option maxHeartbeats 4000000
theorem w_spec_l05Reach (h : Heap) (a_ : List (List Int)) (aa_ : Option Addr) (ca_ : Nat) (ra_ : Rd cd24 h (Lt h) aa_ ca_ a_) (n : Nat) (r : (List (List Bool))) (hF : spec_l05Reach a_ n = some r) :
  Fn Tryz.prog 143 #[.slice aa_ a_.length ca_] h fun v h' => ∃ (a0 : Option Addr) (c0 : Nat), v = .slice a0 r.length c0 ∧ Hold h h' [own cd101 a0 r.length c0 r] := by
 unfold spec_l05Reach at hF
 refine Zo [.slice aa_ a_.length ca_] Tryz.func143 rfl (fun w0 _ => ?_)
 have H0 := Hold.init h
 refine Zs ?_
 refine Zq [.slice none 0 0] [0] [(0, .slice aa_ a_.length ca_)] ?_
 refine Zs ?_
 refine Zq [.slice aa_ a_.length ca_, .int .i64 (a_.length : Int), .int .i64 (a_.length : Int)] [0, 3] [(0, .slice aa_ a_.length ca_), (3, .int .i64 (a_.length : Int))] ?_
 refine Zs ?_
 refine Run_ops ?_
 refine Ze ?_
 refine E_lit (C := cd101) (n := 0) (l := []) (cs := []) H0 (fun w => by kernel_rfl) (Enc.nil _ _) rfl (by decide) (fun a1 h1 H1 => ?_)
 refine Zr [.slice a1 0 0] 1 ?_
 refine Zx ?_
 refine Zk [0, 3, 4] [(0, .slice aa_ a_.length ca_), (3, .int .i64 (a_.length : Int)), (4, .slice a1 0 0)] ?_
 refine Zs ?_
 refine Zs ?_
 refine Zq [.int .i64 0] [0, 3, 4, 5] [(0, .slice aa_ a_.length ca_), (3, .int .i64 (a_.length : Int)), (4, .slice a1 0 0), (5, .int .i64 0)] ?_
 obtain ⟨x1, gx1, hF⟩ := M.bind_some hF
 obtain ⟨hloy1, hhiy1, gx1⟩ := M.for_start gx1
 refine Run_join (fun L' h' => ∃ (a3 : Option Addr) (c2 : Nat), L' = [(4, .slice a3 x1.length c2)] ∧ Hold h h' [own cd101 a3 x1.length c2 x1]) ?_ ?_
 ·rintro _ h3 ⟨a3, c2, rfl, H3⟩
  refine Zs ?_
  refine Zq [.slice a3 x1.length c2, .slice a3 x1.length c2] [2] [(2, .slice a3 x1.length c2)] ?_
  have hF := M.ret_some hF
  subst hF
  exact Run_ret1 rfl (Zt (.slice a3 x1.length c2)) ⟨a3, c2, rfl, H3⟩
 ·refine Run_block ?_
  have hn1 := (H1.len 0 rfl)
  have H23 : Hold h h1 [own cd101 a1 (([] : List (List Bool)).length) 0 ([] : List (List Bool))] := by rw [hn1]; exact H1
  refine Run_keep [0, 3, 4, 5] (L' := [(0, .slice aa_ a_.length ca_), (3, .int .i64 (a_.length : Int)), (4, .slice a1 (([] : List (List Bool)).length) 0), (5, .int .i64 0)]) (by first | (rw [hn1]; kernel_rfl) | (simp only [hn1]; kernel_rfl) | kernel_rfl) ?_
  refine Run_loop (fun m L' h' => ∃ (i1 : Int) (s1 : (List (List Bool))) (a2 : Option Addr) (c1 : Nat), 0 ≤ i1 ∧ M.forN (a_.length : Int) _ _ n m i1 s1 = some x1 ∧ L' = [(0, .slice aa_ a_.length ca_), (3, .int .i64 (a_.length : Int)), (4, .slice a2 s1.length c1), (5, .int .i64 i1)] ∧ Hold h h' [own cd101 a2 s1.length c1 s1]) ((a_.length : Int) - 0 : Int).toNat ⟨0, ([] : List (List Bool)), a1, 0, Int.le_refl _, gx1, rfl, H23⟩ ?_
  rintro my1 _ h2 ⟨i1, s1, a2, c1, hloy1', gx1, rfl, H2⟩
  refine Zs ?_
  refine Zs ?_
  refine Zq [.int .i64 i1, .int .i64 (a_.length : Int), .bool (decide (i1 < (a_.length : Int)))] [0, 3, 4, 5, 15] [(0, .slice aa_ a_.length ca_), (3, .int .i64 (a_.length : Int)), (4, .slice a2 s1.length c1), (5, .int .i64 i1), (15, .bool (decide (i1 < (a_.length : Int))))] ?_
  refine Zc (decide (i1 < (a_.length : Int))) (fun hb1 => ?_) (fun hb1 => ?_)
  ·obtain ⟨my1, y1, rfl, hB1, hgoy1, houty1⟩ := M.for_go gx1 hb1
   have hlty1 := of_decide_eq_true hb1
   refine Run_skip ?_
   refine Zs ?_
   refine Run_block ?_
   refine Zs ?_
   refine Run_ops ?_
   refine Zr [.int .i64 (a_.length : Int)] 0 ?_
   obtain ⟨l1, hl1, hB1⟩ := M.bind_some hB1
   have hl1 := M.make_some hl1
   refine Ze ?_
   refine E_make cd4 false (kl := .i64) (kc := .i64) H2 cd4_ti Tryz.underlying101 (by decide) cd4_zero (by kernel_rfl) hl1 (fun a4 h4 H4 => ?_)
   refine Zr [.slice a4 l1.length l1.length] 2 ?_
   refine Zx ?_
   refine Zk [0, 3, 4, 5, 6] [(0, .slice aa_ a_.length ca_), (3, .int .i64 (a_.length : Int)), (4, .slice a2 s1.length c1), (5, .int .i64 i1), (6, .slice a4 l1.length l1.length)] ?_
   refine Zs ?_
   refine Run_ops ?_
   obtain ⟨x2, hx1, hB1⟩ := M.bind_some hB1
   obtain ⟨hx1l, hx1u, hx1⟩ := M.idx_some hx1
   refine Zr [.slice a4 l1.length l1.length, .int .i64 i1] 0 ?_
   refine Zz (.pointer (some (adr a4 (i1.toNat * 1)))) (Zi 101 4 1 (a4) (l1.length) (l1.length) .i64 (i1) Tryz.underlying101 ((H4.rd 0 rfl).cell hx1).1 hx1l hx1u) ?_
   obtain ⟨l2, hu1, hB1⟩ := M.bind_some hB1
   have hu1 := M.upd_some hu1
   refine Ze ?_
   refine E_put (C := cd4) (t := 4) (sz := 1) (j := i1) (x := true) (v := .bool true) H4 cd4_flat (by kernel_rfl) rfl (cd4_own _) (by kernel_rfl) hu1 (fun h5 H5 => ?_)
   refine Zx ?_
   refine Zk [0, 3, 4, 5, 6] [(0, .slice aa_ a_.length ca_), (3, .int .i64 (a_.length : Int)), (4, .slice a2 s1.length c1), (5, .int .i64 i1), (6, .slice a4 l1.length l1.length)] ?_
   refine Zs ?_
   refine Zs ?_
   refine Zq [.int .i64 0] [0, 3, 4, 5, 6, 7] [(0, .slice aa_ a_.length ca_), (3, .int .i64 (a_.length : Int)), (4, .slice a2 s1.length c1), (5, .int .i64 i1), (6, .slice a4 l1.length l1.length), (7, .int .i64 0)] ?_
   obtain ⟨x3, gx3, hB1⟩ := M.bind_some hB1
   obtain ⟨hloy2, hhiy2, gx3⟩ := M.for_start gx3
   refine Run_join (fun L' h' => L' = [(0, .slice aa_ a_.length ca_), (3, .int .i64 (a_.length : Int)), (4, .slice a2 s1.length c1), (5, .int .i64 i1), (6, .slice a4 l1.length l1.length)] ∧ Hold h h' [own cd101 a2 s1.length c1 s1, own cd4 a4 l1.length l1.length x3]) ?_ ?_
   ·rintro _ h7 ⟨rfl, H7⟩
    refine Run_ops ?_
    refine Zr [.slice a2 s1.length c1, .slice a4 l1.length l1.length] 0 ?_
    have H17 : Hold h h7 [own cd4 a4 l1.length l1.length x3, own cd101 a2 s1.length c1 s1] := H7.pk [1, 0]
    refine Ze ?_
    refine E_lit1 (ey := 101) (n := l1.length) H17 (fun w => by kernel_rfl) rfl (fun a6 h14 H16 => ?_)
    obtain ⟨l4, hl2, hB1⟩ := M.bind_some hB1
    have hl2 := M.app_some hl2
    have H18 : Hold h h14 [own cd101 a2 s1.length c1 s1, own cd101 a6 1 1 [x3]] := H16.pk [1, 0]
    have H19 : Hold h h14 [own cd101 a6 1 1 [x3], own cd101 a2 s1.length c1 s1] := H18.pk [1, 0]
    have H20 : Hold h h14 [own cd101 a2 s1.length c1 s1, own cd101 a6 1 1 [x3]] := H19.pk [1, 0]
    refine Ze ?_
    refine E_app (C := cd101) (t := 99) (ty := 99) (n := s1.length) (m := 1) H20 cd101_ti rfl Tryz.underlying99 (by decide) (by kernel_rfl) hl2 (fun a7 c4 h15 H21 => ?_)
    refine Zr [.slice a7 l4.length c4] 4 ?_
    refine Zx ?_
    refine Zk [0, 3, 4, 5] [(0, .slice aa_ a_.length ca_), (3, .int .i64 (a_.length : Int)), (4, .slice a7 l4.length c4), (5, .int .i64 i1)] ?_
    refine Run_blk ?_
    refine Zg 3 [(0, .slice aa_ a_.length ca_), (3, .int .i64 (a_.length : Int)), (4, .slice a7 l4.length c4), (5, .int .i64 (i1 + 1))] ?_ ?_
    ·refine Zb [.int .i64 i1] 0 ?_
     refine Zy (.int .i64 (i1 + 1)) (Y_eq (v := .int .i64 (w64 (i1 + 1))) (Y_pure (fun w => by kernel_rfl)) (by rw [w64_eq _ (by omega)])) ?_
     refine Zb [.int .i64 (i1 + 1)] 2 ?_
     exact Zd [0, 3, 4, 5]
    have hB1 := M.ret_some hB1
    have gx1 := hgoy1 _ hB1.symm
    exact Za [0, 3, 4, 5] my1 ⟨i1 + 1, l4, a7, c4, by omega, gx1, rfl, H21⟩
   ·refine Run_block ?_
    have H22 : Hold h h5 [own cd101 a2 s1.length c1 s1, own cd4 a4 l1.length l1.length l2] := H5.pk [1, 0]
    refine Zk [0, 3, 4, 5, 6, 7] [(0, .slice aa_ a_.length ca_), (3, .int .i64 (a_.length : Int)), (4, .slice a2 s1.length c1), (5, .int .i64 i1), (6, .slice a4 l1.length l1.length), (7, .int .i64 0)] ?_
    refine Run_loop (fun m L' h' => ∃ (i2 : Int) (s2 : (List Bool)), 0 ≤ i2 ∧ M.forN (a_.length : Int) _ _ n m i2 s2 = some x3 ∧ L' = [(0, .slice aa_ a_.length ca_), (3, .int .i64 (a_.length : Int)), (4, .slice a2 s1.length c1), (5, .int .i64 i1), (6, .slice a4 l1.length l1.length), (7, .int .i64 i2)] ∧ Hold h h' [own cd101 a2 s1.length c1 s1, own cd4 a4 l1.length l1.length s2]) ((a_.length : Int) - 0 : Int).toNat ⟨0, l2, Int.le_refl _, gx3, rfl, H22⟩ ?_
    rintro my2 _ h6 ⟨i2, s2, hloy2', gx3, rfl, H6⟩
    refine Zs ?_
    refine Zs ?_
    refine Zq [.int .i64 i2, .int .i64 (a_.length : Int), .bool (decide (i2 < (a_.length : Int)))] [0, 3, 4, 5, 6, 7, 25] [(0, .slice aa_ a_.length ca_), (3, .int .i64 (a_.length : Int)), (4, .slice a2 s1.length c1), (5, .int .i64 i1), (6, .slice a4 l1.length l1.length), (7, .int .i64 i2), (25, .bool (decide (i2 < (a_.length : Int))))] ?_
    refine Zc (decide (i2 < (a_.length : Int))) (fun hb2 => ?_) (fun hb2 => ?_)
    ·obtain ⟨my2, y2, rfl, hB2, hgoy2, houty2⟩ := M.for_go gx3 hb2
     have hlty2 := of_decide_eq_true hb2
     refine Run_skip ?_
     refine Zs ?_
     refine Run_block ?_
     refine Zs ?_
     refine Zq [.int .i64 0] [0, 3, 4, 5, 6, 7, 8] [(0, .slice aa_ a_.length ca_), (3, .int .i64 (a_.length : Int)), (4, .slice a2 s1.length c1), (5, .int .i64 i1), (6, .slice a4 l1.length l1.length), (7, .int .i64 i2), (8, .int .i64 0)] ?_
     obtain ⟨x4, gx4, hB2⟩ := M.bind_some hB2
     obtain ⟨hloy3, hhiy3, gx4⟩ := M.for_start gx4
     refine Run_join (fun L' h' => L' = [(0, .slice aa_ a_.length ca_), (3, .int .i64 (a_.length : Int)), (4, .slice a2 s1.length c1), (5, .int .i64 i1), (6, .slice a4 l1.length l1.length), (7, .int .i64 i2)] ∧ Hold h h' [own cd101 a2 s1.length c1 s1, own cd4 a4 l1.length l1.length x4]) ?_ ?_
     ·rintro _ h9 ⟨rfl, H9⟩
      refine Run_blk ?_
      refine Zg 3 [(0, .slice aa_ a_.length ca_), (3, .int .i64 (a_.length : Int)), (4, .slice a2 s1.length c1), (5, .int .i64 i1), (6, .slice a4 l1.length l1.length), (7, .int .i64 (i2 + 1))] ?_ ?_
      ·refine Zb [.int .i64 i2] 0 ?_
       refine Zy (.int .i64 (i2 + 1)) (Y_eq (v := .int .i64 (w64 (i2 + 1))) (Y_pure (fun w => by kernel_rfl)) (by rw [w64_eq _ (by omega)])) ?_
       refine Zb [.int .i64 (i2 + 1)] 2 ?_
       exact Zd [0, 3, 4, 5, 6, 7]
      have hB2 := M.ret_some hB2
      have gx3 := hgoy2 _ hB2.symm
      exact Za [0, 3, 4, 5, 6, 7] my2 ⟨i2 + 1, x4, by omega, gx3, rfl, H9⟩
     ·refine Run_block ?_
      refine Zk [0, 3, 4, 5, 6, 7, 8] [(0, .slice aa_ a_.length ca_), (3, .int .i64 (a_.length : Int)), (4, .slice a2 s1.length c1), (5, .int .i64 i1), (6, .slice a4 l1.length l1.length), (7, .int .i64 i2), (8, .int .i64 0)] ?_
      refine Run_loop (fun m L' h' => ∃ (i3 : Int) (s3 : (List Bool)), 0 ≤ i3 ∧ M.forN (a_.length : Int) _ _ n m i3 s3 = some x4 ∧ L' = [(0, .slice aa_ a_.length ca_), (3, .int .i64 (a_.length : Int)), (4, .slice a2 s1.length c1), (5, .int .i64 i1), (6, .slice a4 l1.length l1.length), (7, .int .i64 i2), (8, .int .i64 i3)] ∧ Hold h h' [own cd101 a2 s1.length c1 s1, own cd4 a4 l1.length l1.length s3]) ((a_.length : Int) - 0 : Int).toNat ⟨0, s2, Int.le_refl _, gx4, rfl, H6⟩ ?_
      rintro my3 _ h8 ⟨i3, s3, hloy3', gx4, rfl, H8⟩
      refine Zs ?_
      refine Zs ?_
      refine Zq [.int .i64 i3, .int .i64 (a_.length : Int), .bool (decide (i3 < (a_.length : Int)))] [0, 3, 4, 5, 6, 7, 8, 30] [(0, .slice aa_ a_.length ca_), (3, .int .i64 (a_.length : Int)), (4, .slice a2 s1.length c1), (5, .int .i64 i1), (6, .slice a4 l1.length l1.length), (7, .int .i64 i2), (8, .int .i64 i3), (30, .bool (decide (i3 < (a_.length : Int))))] ?_
      refine Zc (decide (i3 < (a_.length : Int))) (fun hb3 => ?_) (fun hb3 => ?_)
      ·obtain ⟨my3, y3, rfl, hB3, hgoy3, houty3⟩ := M.for_go gx4 hb3
       have hlty3 := of_decide_eq_true hb3
       refine Run_skip ?_
       refine Zs ?_
       refine Run_block ?_
       refine Zs ?_
       refine Zq [.int .i64 0] [0, 3, 4, 5, 6, 7, 8, 9] [(0, .slice aa_ a_.length ca_), (3, .int .i64 (a_.length : Int)), (4, .slice a2 s1.length c1), (5, .int .i64 i1), (6, .slice a4 l1.length l1.length), (7, .int .i64 i2), (8, .int .i64 i3), (9, .int .i64 0)] ?_
       obtain ⟨x5, gx5, hB3⟩ := M.bind_some hB3
       obtain ⟨hloy4, hhiy4, gx5⟩ := M.for_start gx5
       refine Run_join (fun L' h' => L' = [(0, .slice aa_ a_.length ca_), (3, .int .i64 (a_.length : Int)), (4, .slice a2 s1.length c1), (5, .int .i64 i1), (6, .slice a4 l1.length l1.length), (7, .int .i64 i2), (8, .int .i64 i3)] ∧ Hold h h' [own cd101 a2 s1.length c1 s1, own cd4 a4 l1.length l1.length x5]) ?_ ?_
       ·rintro _ h11 ⟨rfl, H11⟩
        refine Run_blk ?_
        refine Zg 3 [(0, .slice aa_ a_.length ca_), (3, .int .i64 (a_.length : Int)), (4, .slice a2 s1.length c1), (5, .int .i64 i1), (6, .slice a4 l1.length l1.length), (7, .int .i64 i2), (8, .int .i64 (i3 + 1))] ?_ ?_
        ·refine Zb [.int .i64 i3] 0 ?_
         refine Zy (.int .i64 (i3 + 1)) (Y_eq (v := .int .i64 (w64 (i3 + 1))) (Y_pure (fun w => by kernel_rfl)) (by rw [w64_eq _ (by omega)])) ?_
         refine Zb [.int .i64 (i3 + 1)] 2 ?_
         exact Zd [0, 3, 4, 5, 6, 7, 8]
        have hB3 := M.ret_some hB3
        have gx4 := hgoy3 _ hB3.symm
        exact Za [0, 3, 4, 5, 6, 7, 8] my3 ⟨i3 + 1, x5, by omega, gx4, rfl, H11⟩
       ·refine Run_block ?_
        refine Zk [0, 3, 4, 5, 6, 7, 8, 9] [(0, .slice aa_ a_.length ca_), (3, .int .i64 (a_.length : Int)), (4, .slice a2 s1.length c1), (5, .int .i64 i1), (6, .slice a4 l1.length l1.length), (7, .int .i64 i2), (8, .int .i64 i3), (9, .int .i64 0)] ?_
        refine Run_loop (fun m L' h' => ∃ (i4 : Int) (s4 : (List Bool)), 0 ≤ i4 ∧ M.forN (a_.length : Int) _ _ n m i4 s4 = some x5 ∧ L' = [(0, .slice aa_ a_.length ca_), (3, .int .i64 (a_.length : Int)), (4, .slice a2 s1.length c1), (5, .int .i64 i1), (6, .slice a4 l1.length l1.length), (7, .int .i64 i2), (8, .int .i64 i3), (9, .int .i64 i4)] ∧ Hold h h' [own cd101 a2 s1.length c1 s1, own cd4 a4 l1.length l1.length s4]) ((a_.length : Int) - 0 : Int).toNat ⟨0, s3, Int.le_refl _, gx5, rfl, H8⟩ ?_
        rintro my4 _ h10 ⟨i4, s4, hloy4', gx5, rfl, H10⟩
        refine Zs ?_
        refine Zs ?_
        refine Zq [.int .i64 i4, .int .i64 (a_.length : Int), .bool (decide (i4 < (a_.length : Int)))] [0, 3, 4, 5, 6, 7, 8, 9, 35] [(0, .slice aa_ a_.length ca_), (3, .int .i64 (a_.length : Int)), (4, .slice a2 s1.length c1), (5, .int .i64 i1), (6, .slice a4 l1.length l1.length), (7, .int .i64 i2), (8, .int .i64 i3), (9, .int .i64 i4), (35, .bool (decide (i4 < (a_.length : Int))))] ?_
        refine Zc (decide (i4 < (a_.length : Int))) (fun hb4 => ?_) (fun hb4 => ?_)
        ·obtain ⟨my4, y4, rfl, hB4, hgoy4, houty4⟩ := M.for_go gx5 hb4
         have hlty4 := of_decide_eq_true hb4
         refine Run_skip ?_
         refine Zs ?_
         refine Run_block ?_
         refine Zs ?_
         obtain ⟨x6, hx2, hB4⟩ := M.bind_some hB4
         obtain ⟨hx2l, hx2u, hx2⟩ := M.idx_some hx2
         obtain ⟨x7, gx7, hB4⟩ := M.bind_some hB4
         refine Zg 14 [(0, .slice aa_ a_.length ca_), (3, .int .i64 (a_.length : Int)), (4, .slice a2 s1.length c1), (5, .int .i64 i1), (6, .slice a4 l1.length l1.length), (7, .int .i64 i2), (8, .int .i64 i3), (9, .int .i64 i4), (51, .bool x7)] ?_ ?_
         ·refine Zb [.slice a4 l1.length l1.length, .int .i64 i4] 0 ?_
          refine Zy (.pointer (some (adr a4 (i4.toNat * 1)))) (Zi 101 4 1 (a4) (l1.length) (l1.length) .i64 (i4) Tryz.underlying101 ((H10.rd 1 rfl).cell hx2).1 hx2l (by rw [← (H10.len 1 rfl)]; exact hx2u)) ?_
          refine Zy (.bool x6) (Zl 4 (adr a4 (i4.toNat * 1)) (.bool x6) (cd4_cell (H10.rd 1 rfl) hx2)) ?_
          refine QRun_seq 14 [(0, .slice aa_ a_.length ca_), (3, .int .i64 (a_.length : Int)), (4, .slice a2 s1.length c1), (5, .int .i64 i1), (6, .slice a4 l1.length l1.length), (7, .int .i64 i2), (8, .int .i64 i3), (9, .int .i64 i4), (51, .bool x7)] ?_ ?_
          ·rcases Bool.eq_false_or_eq_true x6 with hb5 | hb5
           ·refine Zv x6 true hb5 ?_
            have gx7 := (M.ite_some gx7).1 hb5
            obtain ⟨x8, hx3, gx7⟩ := M.bind_some gx7
            obtain ⟨hx3l, hx3u, hx3⟩ := M.idx_some hx3
            obtain ⟨a5, c3, hc1, r1⟩ := ra_.row hx3
            obtain ⟨x9, hx4, gx7⟩ := M.bind_some gx7
            obtain ⟨hx4l, hx4u, hx4⟩ := M.idx_some hx4
            have gx7 := M.ret_some gx7
            refine Zb [.slice aa_ a_.length ca_, .int .i64 i3] 5 ?_
            refine Zy (.pointer (some (adr aa_ (i3.toNat * 1)))) (Zi 22 24 1 (aa_) (a_.length) (ca_) .i64 (i3) Tryz.underlying22 ((ra_.at H10.ext).cell hx3).1 hx3l hx3u) ?_
            refine Zy (.slice a5 x8.length c3) (Zl 24 (adr aa_ (i3.toNat * 1)) (.slice a5 x8.length c3) (cell_at H10.ext hc1)) ?_
            refine Zb [.int .i64 i4] 9 ?_
            refine Zy (.pointer (some (adr a5 (i4.toNat * 1)))) (Zi 24 2 1 (a5) (x8.length) (c3) .i64 (i4) Tryz.underlying24 ((r1.at H10.ext).cell hx4).1 hx4l hx4u) ?_
            refine Zy (.int .i64 x9) (Zl 2 (adr a5 (i4.toNat * 1)) (.int .i64 x9) (cd2_cell (r1.at H10.ext) hx4)) ?_
            refine Zb [.bool (x9 != (-1000000000000000))] 12 ?_
            refine Zv (x9 != (-1000000000000000)) x7 gx7 ?_
            exact Zd [0, 3, 4, 5, 6, 7, 8, 9, 51]
           ·refine Zv x6 false hb5 ?_
            have gx7 := M.ret_some ((M.ite_some gx7).2 hb5)
            refine Zn ?_
            refine Zn ?_
            refine Zn ?_
            refine Zn ?_
            refine Zn ?_
            refine Zn ?_
            refine Zn ?_
            refine Zn ?_
            refine Zv false x7 gx7 ?_
            exact Zd [0, 3, 4, 5, 6, 7, 8, 9, 51]
          exact Zd [0, 3, 4, 5, 6, 7, 8, 9, 51]
         obtain ⟨s5, gs5, hB4⟩ := M.bind_some hB4
         refine Run_join (fun L' h' => L' = [(0, .slice aa_ a_.length ca_), (3, .int .i64 (a_.length : Int)), (4, .slice a2 s1.length c1), (5, .int .i64 i1), (6, .slice a4 l1.length l1.length), (7, .int .i64 i2), (8, .int .i64 i3), (9, .int .i64 i4)] ∧ Hold h h' [own cd101 a2 s1.length c1 s1, own cd4 a4 l1.length l1.length s5]) ?_ ?_
         ·rintro _ h13 ⟨rfl, H14⟩
          refine Run_blk ?_
          refine Zg 3 [(0, .slice aa_ a_.length ca_), (3, .int .i64 (a_.length : Int)), (4, .slice a2 s1.length c1), (5, .int .i64 i1), (6, .slice a4 l1.length l1.length), (7, .int .i64 i2), (8, .int .i64 i3), (9, .int .i64 (i4 + 1))] ?_ ?_
          ·refine Zb [.int .i64 i4] 0 ?_
           refine Zy (.int .i64 (i4 + 1)) (Y_eq (v := .int .i64 (w64 (i4 + 1))) (Y_pure (fun w => by kernel_rfl)) (by rw [w64_eq _ (by omega)])) ?_
           refine Zb [.int .i64 (i4 + 1)] 2 ?_
           exact Zd [0, 3, 4, 5, 6, 7, 8, 9]
          have hB4 := M.ret_some hB4
          have gx5 := hgoy4 _ hB4.symm
          exact Za [0, 3, 4, 5, 6, 7, 8, 9] my4 ⟨i4 + 1, s5, by omega, gx5, rfl, H14⟩
         ·refine Zc (x7) (fun hb6 => ?_) (fun hb6 => ?_)
          ·have gs5 := (M.ite_some gs5).1 hb6
           refine Run_ops ?_
           obtain ⟨x10, hx5, gs5⟩ := M.bind_some gs5
           obtain ⟨hx5l, hx5u, hx5⟩ := M.idx_some hx5
           refine Zr [.slice a4 l1.length l1.length, .int .i64 i3] 0 ?_
           refine Zz (.pointer (some (adr a4 (i3.toNat * 1)))) (Zi 101 4 1 (a4) (l1.length) (l1.length) .i64 (i3) Tryz.underlying101 ((H10.rd 1 rfl).cell hx5).1 hx5l (by rw [← (H10.len 1 rfl)]; exact hx5u)) ?_
           obtain ⟨l3, hu2, gs5⟩ := M.bind_some gs5
           have hu2 := M.upd_some hu2
           have H13 : Hold h h10 [own cd4 a4 l1.length l1.length s4, own cd101 a2 s1.length c1 s1] := H10.pk [1, 0]
           refine Ze ?_
           refine E_put (C := cd4) (t := 4) (sz := 1) (j := i3) (x := true) (v := .bool true) H13 cd4_flat (by kernel_rfl) rfl (cd4_own _) (by kernel_rfl) hu2 (fun h12 H12 => ?_)
           refine Zx ?_
           refine Zk [0, 3, 4, 5, 6, 7, 8, 9] [(0, .slice aa_ a_.length ca_), (3, .int .i64 (a_.length : Int)), (4, .slice a2 s1.length c1), (5, .int .i64 i1), (6, .slice a4 l1.length l1.length), (7, .int .i64 i2), (8, .int .i64 i3), (9, .int .i64 i4)] ?_
           have H15 : Hold h h12 [own cd101 a2 s1.length c1 s1, own cd4 a4 l1.length l1.length l3] := H12.pk [1, 0]
           have gs5 := M.ret_some gs5
           subst gs5
           exact Zf [0, 3, 4, 5, 6, 7, 8, 9] ⟨rfl, H15⟩
          ·have gs5 := (M.ite_some gs5).2 hb6
           refine Run_skip ?_
           have gs5 := M.ret_some gs5
           subst gs5
           exact Zf [0, 3, 4, 5, 6, 7, 8, 9] ⟨rfl, H10⟩
        ·have gx5 := M.for_end gx5 hb4
         subst gx5
         refine Run_exit (k' := _) rfl ?_
         exact Zf [0, 3, 4, 5, 6, 7, 8] ⟨rfl, H10⟩
      ·have gx4 := M.for_end gx4 hb3
       subst gx4
       refine Run_exit (k' := _) rfl ?_
       exact Zf [0, 3, 4, 5, 6, 7] ⟨rfl, H8⟩
    ·have gx3 := M.for_end gx3 hb2
     subst gx3
     refine Run_exit (k' := _) rfl ?_
     exact Zf [0, 3, 4, 5, 6] ⟨rfl, H6⟩
  ·have gx1 := M.for_end gx1 hb1
   subst gx1
   refine Run_exit (k' := _) rfl ?_
   exact Zf [4] ⟨a2, c1, rfl, H2⟩

theorem w_spec_l05Components (h : Heap) (a_ : List (List Int)) (aa_ : Option Addr) (ca_ : Nat) (ra_ : Rd cd24 h (Lt h) aa_ ca_ a_) (n : Nat) (r : (List (List Int))) (hF : spec_l05Components a_ n = some r) :
  Fn Tryz.prog 104 #[.slice aa_ a_.length ca_] h fun v h' => ∃ (a0 : Option Addr) (c0 : Nat), v = .slice a0 r.length c0 ∧ Hold h h' [own cd24 a0 r.length c0 r] := by
 unfold spec_l05Components at hF
 refine Zo [.slice aa_ a_.length ca_] Tryz.func104 rfl (fun w0 _ => ?_)
 have H0 := Hold.init h
 refine Zs ?_
 refine Zq [.slice none 0 0] [0] [(0, .slice aa_ a_.length ca_)] ?_
 refine Zs ?_
 refine Run_ops ?_
 refine Zr [.slice aa_ a_.length ca_] 0 ?_
 obtain ⟨x1, hx1, hF⟩ := M.bind_some hF
 refine Ze ?_
 refine ZC 143 #[.slice aa_ a_.length ca_] (w_spec_l05Reach h a_ aa_ ca_ ra_ _ _ hx1) (fun v1 h1 hp1 => ?_)
 obtain ⟨a1, c1, rfl, H1⟩ := hp1
 have H2 : Hold h h1 [own cd101 a1 x1.length c1 x1] := H0.call H1 rfl
 refine Zr [.slice a1 x1.length c1] 2 ?_
 refine Zx ?_
 refine Zk [0, 3] [(0, .slice aa_ a_.length ca_), (3, .slice a1 x1.length c1)] ?_
 refine Zs ?_
 refine Run_ops ?_
 refine Ze ?_
 refine E_lit (C := cd24) (n := 0) (l := []) (cs := []) H2 (fun w => by kernel_rfl) (Enc.nil _ _) rfl (by decide) (fun a2 h2 H3 => ?_)
 refine Zr [.slice a2 0 0] 1 ?_
 refine Zx ?_
 refine Zk [0, 3, 4] [(0, .slice aa_ a_.length ca_), (3, .slice a1 x1.length c1), (4, .slice a2 0 0)] ?_
 refine Zs ?_
 refine Zs ?_
 refine Zq [.int .i64 0] [0, 3, 4, 5] [(0, .slice aa_ a_.length ca_), (3, .slice a1 x1.length c1), (4, .slice a2 0 0), (5, .int .i64 0)] ?_
 obtain ⟨x2, gx2, hF⟩ := M.bind_some hF
 obtain ⟨hloy1, hhiy1, gx2⟩ := M.for_start gx2
 refine Run_join (fun L' h' => ∃ (a4 : Option Addr) (c3 : Nat), L' = [(4, .slice a4 x2.length c3)] ∧ Hold h h' [own cd24 a4 x2.length c3 x2]) ?_ ?_
 ·rintro _ h4 ⟨a4, c3, rfl, H5⟩
  refine Zs ?_
  refine Zq [.slice a4 x2.length c3, .slice a4 x2.length c3] [2] [(2, .slice a4 x2.length c3)] ?_
  have hF := M.ret_some hF
  subst hF
  exact Run_ret1 rfl (Zt (.slice a4 x2.length c3)) ⟨a4, c3, rfl, H5⟩
 ·refine Run_block ?_
  have hn2 := (H3.len 0 rfl)
  have H45 : Hold h h2 [own cd24 a2 (([] : List (List Int)).length) 0 ([] : List (List Int)), own cd101 a1 x1.length c1 x1] := by rw [hn2]; exact H3
  have H46 : Hold h h2 [own cd101 a1 x1.length c1 x1, own cd24 a2 (([] : List (List Int)).length) 0 ([] : List (List Int))] := H45.pk [1, 0]
  refine Run_keep [0, 3, 4, 5] (L' := [(0, .slice aa_ a_.length ca_), (3, .slice a1 x1.length c1), (4, .slice a2 (([] : List (List Int)).length) 0), (5, .int .i64 0)]) (by first | (rw [hn2]; kernel_rfl) | (simp only [hn2]; kernel_rfl) | kernel_rfl) ?_
  refine Run_loop (fun m L' h' => ∃ (i1 : Int) (s1 : (List (List Int))) (a3 : Option Addr) (c2 : Nat), 0 ≤ i1 ∧ M.forN (a_.length : Int) _ _ n m i1 s1 = some x2 ∧ L' = [(0, .slice aa_ a_.length ca_), (3, .slice a1 x1.length c1), (4, .slice a3 s1.length c2), (5, .int .i64 i1)] ∧ Hold h h' [own cd101 a1 x1.length c1 x1, own cd24 a3 s1.length c2 s1]) ((a_.length : Int) - 0 : Int).toNat ⟨0, ([] : List (List Int)), a2, 0, Int.le_refl _, gx2, rfl, H46⟩ ?_
  rintro my1 _ h3 ⟨i1, s1, a3, c2, hloy1', gx2, rfl, H4⟩
  refine Zs ?_
  refine Zs ?_
  refine Zq [.int .i64 i1, .slice aa_ a_.length ca_, .int .i64 (a_.length : Int), .bool (decide (i1 < (a_.length : Int)))] [0, 3, 4, 5, 14] [(0, .slice aa_ a_.length ca_), (3, .slice a1 x1.length c1), (4, .slice a3 s1.length c2), (5, .int .i64 i1), (14, .bool (decide (i1 < (a_.length : Int))))] ?_
  refine Zc (decide (i1 < (a_.length : Int))) (fun hb1 => ?_) (fun hb1 => ?_)
  ·obtain ⟨my1, y1, rfl, hB1, hgoy1, houty1⟩ := M.for_go gx2 hb1
   have hlty1 := of_decide_eq_true hb1
   refine Run_skip ?_
   refine Zs ?_
   refine Run_block ?_
   refine Zs ?_
   refine Run_ops ?_
   refine Ze ?_
   refine E_lit (C := cd2) (n := 0) (l := ([] : List Int)) (cs := []) H4 (fun w => by kernel_rfl) (Enc.nil _ _) rfl (by decide) (fun a5 h5 H6 => ?_)
   refine Zr [.slice a5 0 0] 1 ?_
   refine Zx ?_
   refine Zk [0, 3, 4, 5, 6] [(0, .slice aa_ a_.length ca_), (3, .slice a1 x1.length c1), (4, .slice a3 s1.length c2), (5, .int .i64 i1), (6, .slice a5 0 0)] ?_
   refine Zs ?_
   refine Zs ?_
   refine Zq [.int .i64 0] [0, 3, 4, 5, 6, 7] [(0, .slice aa_ a_.length ca_), (3, .slice a1 x1.length c1), (4, .slice a3 s1.length c2), (5, .int .i64 i1), (6, .slice a5 0 0), (7, .int .i64 0)] ?_
   obtain ⟨x3, gx3, hB1⟩ := M.bind_some hB1
   obtain ⟨hloy2, hhiy2, gx3⟩ := M.for_start gx3
   refine Run_join (fun L' h' => ∃ (a7 : Option Addr) (c5 : Nat), L' = [(0, .slice aa_ a_.length ca_), (3, .slice a1 x1.length c1), (4, .slice a3 s1.length c2), (5, .int .i64 i1), (6, .slice a7 x3.length c5)] ∧ Hold h h' [own cd101 a1 x1.length c1 x1, own cd24 a3 s1.length c2 s1, own cd2 a7 x3.length c5 x3]) ?_ ?_
   ·rintro _ h7 ⟨a7, c5, rfl, H8⟩
    refine Zs ?_
    obtain ⟨x9, hx6, hB1⟩ := M.bind_some hB1
    obtain ⟨hx6l, hx6u, hx6⟩ := M.idx_some hx6
    refine Zg 5 [(0, .slice aa_ a_.length ca_), (3, .slice a1 x1.length c1), (4, .slice a3 s1.length c2), (5, .int .i64 i1), (6, .slice a7 x3.length c5), (48, .bool (x9 == i1))] ?_ ?_
    ·refine Zb [.slice a7 x3.length c5] 0 ?_
     refine Zy (.pointer (some (adr a7 (0 * 1)))) (Zi 24 2 1 (a7) (x3.length) (c5) .i64 (0) Tryz.underlying24 ((H8.rd 2 rfl).cell hx6).1 hx6l hx6u) ?_
     refine Zy (.int .i64 x9) (Zl 2 (adr a7 (0 * 1)) (.int .i64 x9) (cd2_cell (H8.rd 2 rfl) hx6)) ?_
     refine Zb [.int .i64 i1, .bool (x9 == i1)] 3 ?_
     exact Zd [0, 3, 4, 5, 6, 48]
    obtain ⟨s4, gs4, hB1⟩ := M.bind_some hB1
    refine Run_join (fun L' h' => ∃ (a15 : Option Addr), ∃ (c11 : Nat), L' = [(0, .slice aa_ a_.length ca_), (3, .slice a1 x1.length c1), (4, .slice a15 s4.length c11), (5, .int .i64 i1)] ∧ Hold h h' [own cd101 a1 x1.length c1 x1, own cd24 a15 s4.length c11 s4]) ?_ ?_
    ·rintro _ h13 ⟨a15, c11, rfl, H35⟩
     refine Run_blk ?_
     refine Zg 3 [(0, .slice aa_ a_.length ca_), (3, .slice a1 x1.length c1), (4, .slice a15 s4.length c11), (5, .int .i64 (i1 + 1))] ?_ ?_
     ·refine Zb [.int .i64 i1] 0 ?_
      refine Zy (.int .i64 (i1 + 1)) (Y_eq (v := .int .i64 (w64 (i1 + 1))) (Y_pure (fun w => by kernel_rfl)) (by rw [w64_eq _ (by omega)])) ?_
      refine Zb [.int .i64 (i1 + 1)] 2 ?_
      exact Zd [0, 3, 4, 5]
     have H39 : Hold h h13 [own cd24 a15 s4.length c11 s4, own cd101 a1 x1.length c1 x1] := H35.pk [1, 0]
     have H40 : Hold h h13 [own cd101 a1 x1.length c1 x1, own cd24 a15 s4.length c11 s4] := H39.pk [1, 0]
     have hB1 := M.ret_some hB1
     have gx2 := hgoy1 _ hB1.symm
     exact Za [0, 3, 4, 5] my1 ⟨i1 + 1, s4, a15, c11, by omega, gx2, rfl, H40⟩
    ·refine Zc (x9 == i1) (fun hb5 => ?_) (fun hb5 => ?_)
     ·have gs4 := (M.ite_some gs4).1 hb5
      refine Run_ops ?_
      refine Zr [.slice a3 s1.length c2, .slice a7 x3.length c5] 0 ?_
      have H30 : Hold h h7 [own cd2 a7 x3.length c5 x3, own cd101 a1 x1.length c1 x1, own cd24 a3 s1.length c2 s1] := H8.pk [2, 0, 1]
      refine Ze ?_
      refine E_lit1 (ey := 24) (n := x3.length) H30 (fun w => by kernel_rfl) rfl (fun a13 h11 H29 => ?_)
      obtain ⟨l2, hl2, gs4⟩ := M.bind_some gs4
      have hl2 := M.app_some hl2
      have H31 : Hold h h11 [own cd24 a3 s1.length c2 s1, own cd24 a13 1 1 [x3], own cd101 a1 x1.length c1 x1] := H29.pk [2, 0, 1]
      have H32 : Hold h h11 [own cd24 a13 1 1 [x3], own cd24 a3 s1.length c2 s1, own cd101 a1 x1.length c1 x1] := H31.pk [1, 0, 2]
      have H33 : Hold h h11 [own cd24 a3 s1.length c2 s1, own cd24 a13 1 1 [x3], own cd101 a1 x1.length c1 x1] := H32.pk [1, 0, 2]
      refine Ze ?_
      refine E_app (C := cd24) (t := 22) (ty := 22) (n := s1.length) (m := 1) H33 cd24_ti rfl Tryz.underlying22 (by decide) (by kernel_rfl) hl2 (fun a14 c10 h12 H34 => ?_)
      refine Zr [.slice a14 l2.length c10] 4 ?_
      refine Zx ?_
      refine Zk [0, 3, 4, 5] [(0, .slice aa_ a_.length ca_), (3, .slice a1 x1.length c1), (4, .slice a14 l2.length c10), (5, .int .i64 i1)] ?_
      have H36 : Hold h h12 [own cd101 a1 x1.length c1 x1, own cd24 a14 l2.length c10 l2] := H34.pk [1, 0]
      have gs4 := M.ret_some gs4
      subst gs4
      exact Zf [0, 3, 4, 5] ⟨a14, c10, rfl, H36⟩
     ·have gs4 := (M.ite_some gs4).2 hb5
      refine Run_skip ?_
      have H37 : Hold h h7 [own cd24 a3 s1.length c2 s1, own cd101 a1 x1.length c1 x1, own cd2 a7 x3.length c5 x3] := H8.pk [1, 0, 2]
      have H38 : Hold h h7 [own cd101 a1 x1.length c1 x1, own cd24 a3 s1.length c2 s1] := H37.pk [1, 0]
      have gs4 := M.ret_some gs4
      subst gs4
      exact Zf [0, 3, 4, 5] ⟨a3, c2, rfl, H38⟩
   ·refine Run_block ?_
    have hn1 := (H6.len 0 rfl)
    have H41 : Hold h h5 [own cd2 a5 (([] : List Int).length) 0 ([] : List Int), own cd101 a1 x1.length c1 x1, own cd24 a3 s1.length c2 s1] := by rw [hn1]; exact H6
    have H42 : Hold h h5 [own cd101 a1 x1.length c1 x1, own cd24 a3 s1.length c2 s1, own cd2 a5 (([] : List Int).length) 0 ([] : List Int)] := H41.pk [1, 2, 0]
    refine Run_keep [0, 3, 4, 5, 6, 7] (L' := [(0, .slice aa_ a_.length ca_), (3, .slice a1 x1.length c1), (4, .slice a3 s1.length c2), (5, .int .i64 i1), (6, .slice a5 (([] : List Int).length) 0), (7, .int .i64 0)]) (by first | (rw [hn1]; kernel_rfl) | (simp only [hn1]; kernel_rfl) | kernel_rfl) ?_
    refine Run_loop (fun m L' h' => ∃ (i2 : Int) (s2 : (List Int)) (a6 : Option Addr) (c4 : Nat), 0 ≤ i2 ∧ M.forN (a_.length : Int) _ _ n m i2 s2 = some x3 ∧ L' = [(0, .slice aa_ a_.length ca_), (3, .slice a1 x1.length c1), (4, .slice a3 s1.length c2), (5, .int .i64 i1), (6, .slice a6 s2.length c4), (7, .int .i64 i2)] ∧ Hold h h' [own cd101 a1 x1.length c1 x1, own cd24 a3 s1.length c2 s1, own cd2 a6 s2.length c4 s2]) ((a_.length : Int) - 0 : Int).toNat ⟨0, ([] : List Int), a5, 0, Int.le_refl _, gx3, rfl, H42⟩ ?_
    rintro my2 _ h6 ⟨i2, s2, a6, c4, hloy2', gx3, rfl, H7⟩
    refine Zs ?_
    refine Zs ?_
    refine Zq [.int .i64 i2, .slice aa_ a_.length ca_, .int .i64 (a_.length : Int), .bool (decide (i2 < (a_.length : Int)))] [0, 3, 4, 5, 6, 7, 21] [(0, .slice aa_ a_.length ca_), (3, .slice a1 x1.length c1), (4, .slice a3 s1.length c2), (5, .int .i64 i1), (6, .slice a6 s2.length c4), (7, .int .i64 i2), (21, .bool (decide (i2 < (a_.length : Int))))] ?_
    refine Zc (decide (i2 < (a_.length : Int))) (fun hb2 => ?_) (fun hb2 => ?_)
    ·obtain ⟨my2, y2, rfl, hB2, hgoy2, houty2⟩ := M.for_go gx3 hb2
     have hlty2 := of_decide_eq_true hb2
     refine Run_skip ?_
     refine Zs ?_
     refine Run_block ?_
     refine Zs ?_
     obtain ⟨x4, hx2, hB2⟩ := M.bind_some hB2
     obtain ⟨hx2l, hx2u, hx2⟩ := M.idx_some hx2
     have H9 := H7.toRows
     obtain ⟨a8, c6, H10⟩ := H9.pinRow hx2
     obtain ⟨x5, hx3, hB2⟩ := M.bind_some hB2
     obtain ⟨hx3l, hx3u, hx3⟩ := M.idx_some hx3
     obtain ⟨x6, gx6, hB2⟩ := M.bind_some hB2
     refine Zg 16 [(0, .slice aa_ a_.length ca_), (3, .slice a1 x1.length c1), (4, .slice a3 s1.length c2), (5, .int .i64 i1), (6, .slice a6 s2.length c4), (7, .int .i64 i2), (39, .bool x6)] ?_ ?_
     ·refine Zb [.slice a1 x1.length c1, .int .i64 i1] 0 ?_
      refine Zy (.pointer (some (adr a1 (i1.toNat * 1)))) (Zi 99 101 1 (a1) (x1.length) (c1) .i64 (i1) Tryz.underlying99 ((H7.rd 0 rfl).cell hx2).1 hx2l hx2u) ?_
      refine Zy (.slice a8 x4.length c6) (Zl 101 (adr a1 (i1.toNat * 1)) (.slice a8 x4.length c6) (H10.cellPin 0 rfl 0 rfl)) ?_
      refine Zb [.int .i64 i2] 4 ?_
      refine Zy (.pointer (some (adr a8 (i2.toNat * 1)))) (Zi 101 4 1 (a8) (x4.length) (c6) .i64 (i2) Tryz.underlying101 ((H10.rdPin 0 rfl 0 rfl).cell hx3).1 hx3l hx3u) ?_
      refine Zy (.bool x5) (Zl 4 (adr a8 (i2.toNat * 1)) (.bool x5) (cd4_cell (H10.rdPin 0 rfl 0 rfl) hx3)) ?_
      refine QRun_seq 16 [(0, .slice aa_ a_.length ca_), (3, .slice a1 x1.length c1), (4, .slice a3 s1.length c2), (5, .int .i64 i1), (6, .slice a6 s2.length c4), (7, .int .i64 i2), (39, .bool x6)] ?_ ?_
      ·rcases Bool.eq_false_or_eq_true x5 with hb3 | hb3
       ·refine Zv x5 true hb3 ?_
        have gx6 := (M.ite_some gx6).1 hb3
        obtain ⟨x7, hx4, gx6⟩ := M.bind_some gx6
        obtain ⟨hx4l, hx4u, hx4⟩ := M.idx_some hx4
        obtain ⟨a9, c7, H11⟩ := H10.pinRow hx4
        obtain ⟨x8, hx5, gx6⟩ := M.bind_some gx6
        obtain ⟨hx5l, hx5u, hx5⟩ := M.idx_some hx5
        have gx6 := M.ret_some gx6
        refine Zb [.slice a1 x1.length c1, .int .i64 i2] 8 ?_
        refine Zy (.pointer (some (adr a1 (i2.toNat * 1)))) (Zi 99 101 1 (a1) (x1.length) (c1) .i64 (i2) Tryz.underlying99 ((H10.rdRows 0 rfl).cell hx4).1 hx4l hx4u) ?_
        refine Zy (.slice a9 x7.length c7) (Zl 101 (adr a1 (i2.toNat * 1)) (.slice a9 x7.length c7) (H11.cellPin 0 rfl 0 rfl)) ?_
        refine Zb [.int .i64 i1] 12 ?_
        refine Zy (.pointer (some (adr a9 (i1.toNat * 1)))) (Zi 101 4 1 (a9) (x7.length) (c7) .i64 (i1) Tryz.underlying101 ((H11.rdPin 0 rfl 0 rfl).cell hx5).1 hx5l hx5u) ?_
        refine Zy (.bool x8) (Zl 4 (adr a9 (i1.toNat * 1)) (.bool x8) (cd4_cell (H11.rdPin 0 rfl 0 rfl) hx5)) ?_
        refine Zv x8 x6 gx6 ?_
        exact Zd [0, 3, 4, 5, 6, 7, 39]
       ·refine Zv x5 false hb3 ?_
        have gx6 := M.ret_some ((M.ite_some gx6).2 hb3)
        refine Zn ?_
        refine Zn ?_
        refine Zn ?_
        refine Zn ?_
        refine Zn ?_
        refine Zn ?_
        refine Zn ?_
        refine Zv false x6 gx6 ?_
        exact Zd [0, 3, 4, 5, 6, 7, 39]
      exact Zd [0, 3, 4, 5, 6, 7, 39]
     obtain ⟨s3, gs3, hB2⟩ := M.bind_some hB2
     refine Run_join (fun L' h' => ∃ (a12 : Option Addr), ∃ (c9 : Nat), L' = [(0, .slice aa_ a_.length ca_), (3, .slice a1 x1.length c1), (4, .slice a3 s1.length c2), (5, .int .i64 i1), (6, .slice a12 s3.length c9), (7, .int .i64 i2)] ∧ Hold h h' [own cd101 a1 x1.length c1 x1, own cd24 a3 s1.length c2 s1, own cd2 a12 s3.length c9 s3]) ?_ ?_
     ·rintro _ h10 ⟨a12, c9, rfl, H17⟩
      refine Run_blk ?_
      refine Zg 3 [(0, .slice aa_ a_.length ca_), (3, .slice a1 x1.length c1), (4, .slice a3 s1.length c2), (5, .int .i64 i1), (6, .slice a12 s3.length c9), (7, .int .i64 (i2 + 1))] ?_ ?_
      ·refine Zb [.int .i64 i2] 0 ?_
       refine Zy (.int .i64 (i2 + 1)) (Y_eq (v := .int .i64 (w64 (i2 + 1))) (Y_pure (fun w => by kernel_rfl)) (by rw [w64_eq _ (by omega)])) ?_
       refine Zb [.int .i64 (i2 + 1)] 2 ?_
       exact Zd [0, 3, 4, 5, 6, 7]
      have H25 : Hold h h10 [own cd2 a12 s3.length c9 s3, own cd101 a1 x1.length c1 x1, own cd24 a3 s1.length c2 s1] := H17.pk [2, 0, 1]
      have H26 : Hold h h10 [own cd101 a1 x1.length c1 x1, own cd24 a3 s1.length c2 s1, own cd2 a12 s3.length c9 s3] := H25.pk [1, 2, 0]
      have hB2 := M.ret_some hB2
      have gx3 := hgoy2 _ hB2.symm
      exact Za [0, 3, 4, 5, 6, 7] my2 ⟨i2 + 1, s3, a12, c9, by omega, gx3, rfl, H26⟩
     ·refine Zc (x6) (fun hb4 => ?_) (fun hb4 => ?_)
      ·have gs3 := (M.ite_some gs3).1 hb4
       refine Run_ops ?_
       refine Zr [.slice a6 s2.length c4, .int .i64 i2] 0 ?_
       refine Ze ?_
       refine E_lit (C := cd2) (n := 1) (l := ([i2] : List Int)) (cs := [.int .i64 i2]) H10 (fun w => by kernel_rfl) (Enc.consE (cd2_own i2 _) (Enc.nil _ _) rfl) rfl (by decide) (fun a10 h8 H12 => ?_)
       obtain ⟨l1, hl1, gs3⟩ := M.bind_some gs3
       have hl1 := M.app_some hl1
       have H13 : Hold h h8 [own cd2 a6 s2.length c4 s2, own cd2 a10 1 1 ([i2] : List Int), rowsP cd4 101 a1 x1.length c1 x1 [(i1.toNat, a8, x4.length, c6, x4)], own cd24 a3 s1.length c2 s1] := H12.pk [3, 0, 1, 2]
       have H14 : Hold h h8 [own cd2 a10 1 1 ([i2] : List Int), own cd2 a6 s2.length c4 s2, rowsP cd4 101 a1 x1.length c1 x1 [(i1.toNat, a8, x4.length, c6, x4)], own cd24 a3 s1.length c2 s1] := H13.pk [1, 0, 2, 3]
       have H15 : Hold h h8 [own cd2 a6 s2.length c4 s2, own cd2 a10 1 1 ([i2] : List Int), rowsP cd4 101 a1 x1.length c1 x1 [(i1.toNat, a8, x4.length, c6, x4)], own cd24 a3 s1.length c2 s1] := H14.pk [1, 0, 2, 3]
       refine Ze ?_
       refine E_app (C := cd2) (t := 24) (ty := 24) (n := s2.length) (m := 1) H15 cd2_ti rfl Tryz.underlying24 (by decide) (by kernel_rfl) hl1 (fun a11 c8 h9 H16 => ?_)
       refine Zr [.slice a11 l1.length c8] 4 ?_
       refine Zx ?_
       refine Zk [0, 3, 4, 5, 6, 7] [(0, .slice aa_ a_.length ca_), (3, .slice a1 x1.length c1), (4, .slice a3 s1.length c2), (5, .int .i64 i1), (6, .slice a11 l1.length c8), (7, .int .i64 i2)] ?_
       have H18 : Hold h h9 [rowsP cd4 101 a1 x1.length c1 x1 [(i1.toNat, a8, x4.length, c6, x4)], own cd2 a11 l1.length c8 l1, own cd24 a3 s1.length c2 s1] := H16.pk [1, 0, 2]
       have H19 := H18.ofRows
       have H20 : Hold h h9 [own cd2 a11 l1.length c8 l1, own cd101 a1 x1.length c1 x1, own cd24 a3 s1.length c2 s1] := H19.pk [1, 0, 2]
       have H21 : Hold h h9 [own cd101 a1 x1.length c1 x1, own cd24 a3 s1.length c2 s1, own cd2 a11 l1.length c8 l1] := H20.pk [1, 2, 0]
       have gs3 := M.ret_some gs3
       subst gs3
       exact Zf [0, 3, 4, 5, 6, 7] ⟨a11, c8, rfl, H21⟩
      ·have gs3 := (M.ite_some gs3).2 hb4
       refine Run_skip ?_
       have H22 := H10.ofRows
       have H23 : Hold h h6 [own cd2 a6 s2.length c4 s2, own cd101 a1 x1.length c1 x1, own cd24 a3 s1.length c2 s1] := H22.pk [2, 0, 1]
       have H24 : Hold h h6 [own cd101 a1 x1.length c1 x1, own cd24 a3 s1.length c2 s1, own cd2 a6 s2.length c4 s2] := H23.pk [1, 2, 0]
       have gs3 := M.ret_some gs3
       subst gs3
       exact Zf [0, 3, 4, 5, 6, 7] ⟨a6, c4, rfl, H24⟩
    ·have gx3 := M.for_end gx3 hb2
     subst gx3
     refine Run_exit (k' := _) rfl ?_
     have H27 : Hold h h6 [own cd2 a6 s2.length c4 s2, own cd101 a1 x1.length c1 x1, own cd24 a3 s1.length c2 s1] := H7.pk [2, 0, 1]
     have H28 : Hold h h6 [own cd101 a1 x1.length c1 x1, own cd24 a3 s1.length c2 s1, own cd2 a6 s2.length c4 s2] := H27.pk [1, 2, 0]
     exact Zf [0, 3, 4, 5, 6] ⟨a6, c4, rfl, H28⟩
  ·have gx2 := M.for_end gx2 hb1
   subst gx2
   refine Run_exit (k' := _) rfl ?_
   have H43 : Hold h h3 [own cd24 a3 s1.length c2 s1, own cd101 a1 x1.length c1 x1] := H4.pk [1, 0]
   have H44 : Hold h h3 [own cd24 a3 s1.length c2 s1] := H43.pk [0]
   exact Zf [4] ⟨a3, c2, rfl, H44⟩

theorem w_spec_l06Nodes (h : Heap) (a_ : List (List Int)) (aa_ : Option Addr) (ca_ : Nat) (ra_ : Rd cd24 h (Lt h) aa_ ca_ a_) (n : Nat) (r : (List Int)) (hF : spec_l06Nodes a_ n = some r) :
  Fn Tryz.prog 36 #[.slice aa_ a_.length ca_] h fun v h' => ∃ (a0 : Option Addr) (c0 : Nat), v = .slice a0 r.length c0 ∧ Hold h h' [own cd2 a0 r.length c0 r] := by
 unfold spec_l06Nodes at hF
 refine Zo [.slice aa_ a_.length ca_] Tryz.func36 rfl (fun w0 _ => ?_)
 have H0 := Hold.init h
 refine Zs ?_
 refine Zq [.slice none 0 0] [0] [(0, .slice aa_ a_.length ca_)] ?_
 refine Zs ?_
 refine Run_ops ?_
 refine Zr [.slice aa_ a_.length ca_] 0 ?_
 obtain ⟨x1, hx1, hF⟩ := M.bind_some hF
 refine Ze ?_
 refine ZC 44 #[.slice aa_ a_.length ca_] (w_spec_l06Arcs h a_ aa_ ca_ ra_ _ _ hx1) (fun v1 h1 hp1 => ?_)
 obtain ⟨a1, c1, rfl, H1⟩ := hp1
 have H2 : Hold h h1 [own cd24 a1 x1.length c1 x1] := H0.call H1 rfl
 refine Zr [.slice a1 x1.length c1] 2 ?_
 refine Zx ?_
 refine Zk [3] [(3, .slice a1 x1.length c1)] ?_
 refine Zs ?_
 refine Run_ops ?_
 refine Ze ?_
 refine E_lit (C := cd2) (n := 0) (l := ([] : List Int)) (cs := []) H2 (fun w => by kernel_rfl) (Enc.nil _ _) rfl (by decide) (fun a2 h2 H3 => ?_)
 refine Zr [.slice a2 0 0] 1 ?_
 refine Zx ?_
 refine Zk [3, 4] [(3, .slice a1 x1.length c1), (4, .slice a2 0 0)] ?_
 refine Zs ?_
 refine Zs ?_
 refine Zq [.int .i64 0] [3, 4, 5] [(3, .slice a1 x1.length c1), (4, .slice a2 0 0), (5, .int .i64 0)] ?_
 obtain ⟨x2, gx2, hF⟩ := M.bind_some hF
 obtain ⟨hloy1, hhiy1, gx2⟩ := M.for_start gx2
 refine Run_join (fun L' h' => ∃ (a4 : Option Addr) (c3 : Nat), L' = [(4, .slice a4 x2.length c3)] ∧ Hold h h' [own cd2 a4 x2.length c3 x2]) ?_ ?_
 ·rintro _ h4 ⟨a4, c3, rfl, H5⟩
  refine Zs ?_
  refine Zq [.slice a4 x2.length c3, .slice a4 x2.length c3] [2] [(2, .slice a4 x2.length c3)] ?_
  have hF := M.ret_some hF
  subst hF
  exact Run_ret1 rfl (Zt (.slice a4 x2.length c3)) ⟨a4, c3, rfl, H5⟩
 ·refine Run_block ?_
  have hn1 := (H3.len 0 rfl)
  have H26 : Hold h h2 [own cd2 a2 (([] : List Int).length) 0 ([] : List Int), own cd24 a1 x1.length c1 x1] := by rw [hn1]; exact H3
  have H27 : Hold h h2 [own cd24 a1 x1.length c1 x1, own cd2 a2 (([] : List Int).length) 0 ([] : List Int)] := H26.pk [1, 0]
  refine Run_keep [3, 4, 5] (L' := [(3, .slice a1 x1.length c1), (4, .slice a2 (([] : List Int).length) 0), (5, .int .i64 0)]) (by first | (rw [hn1]; kernel_rfl) | (simp only [hn1]; kernel_rfl) | kernel_rfl) ?_
  refine Run_loop (fun m L' h' => ∃ (i1 : Int) (s1 : (List Int)) (a3 : Option Addr) (c2 : Nat), 0 ≤ i1 ∧ M.forN (x1.length : Int) _ _ n m i1 s1 = some x2 ∧ L' = [(3, .slice a1 x1.length c1), (4, .slice a3 s1.length c2), (5, .int .i64 i1)] ∧ Hold h h' [own cd24 a1 x1.length c1 x1, own cd2 a3 s1.length c2 s1]) ((x1.length : Int) - 0 : Int).toNat ⟨0, ([] : List Int), a2, 0, Int.le_refl _, gx2, rfl, H27⟩ ?_
  rintro my1 _ h3 ⟨i1, s1, a3, c2, hloy1', gx2, rfl, H4⟩
  refine Zs ?_
  refine Zs ?_
  refine Zq [.int .i64 i1, .slice a1 x1.length c1, .int .i64 (x1.length : Int), .bool (decide (i1 < (x1.length : Int)))] [3, 4, 5, 12] [(3, .slice a1 x1.length c1), (4, .slice a3 s1.length c2), (5, .int .i64 i1), (12, .bool (decide (i1 < (x1.length : Int))))] ?_
  refine Zc (decide (i1 < (x1.length : Int))) (fun hb1 => ?_) (fun hb1 => ?_)
  ·obtain ⟨my1, y1, rfl, hB1, hgoy1, houty1⟩ := M.for_go gx2 hb1
   have hlty1 := of_decide_eq_true hb1
   refine Run_skip ?_
   refine Zs ?_
   refine Run_block ?_
   refine Zs ?_
   obtain ⟨x3, hx2, hB1⟩ := M.bind_some hB1
   obtain ⟨hx2l, hx2u, hx2⟩ := M.idx_some hx2
   have H6 := H4.toRows
   obtain ⟨a5, c4, H7⟩ := H6.pinRow hx2
   obtain ⟨x4, hx3, hB1⟩ := M.bind_some hB1
   obtain ⟨hx3l, hx3u, hx3⟩ := M.idx_some hx3
   obtain ⟨x5, hx4, hB1⟩ := M.bind_some hB1
   refine Zg 9 [(3, .slice a1 x1.length c1), (4, .slice a3 s1.length c2), (5, .int .i64 i1), (23, .bool (!x5))] ?_ ?_
   ·refine Zb [.slice a3 s1.length c2, .slice a1 x1.length c1, .int .i64 i1] 0 ?_
    refine Zy (.pointer (some (adr a1 (i1.toNat * 1)))) (Zi 22 24 1 (a1) (x1.length) (c1) .i64 (i1) Tryz.underlying22 ((H4.rd 0 rfl).cell hx2).1 hx2l hx2u) ?_
    refine Zy (.slice a5 x3.length c4) (Zl 24 (adr a1 (i1.toNat * 1)) (.slice a5 x3.length c4) (H7.cellPin 0 rfl 0 rfl)) ?_
    refine Zy (.pointer (some (adr a5 (0 * 1)))) (Zi 24 2 1 (a5) (x3.length) (c4) .i64 (0) Tryz.underlying24 ((H7.rdPin 0 rfl 0 rfl).cell hx3).1 hx3l hx3u) ?_
    refine Zy (.int .i64 x4) (Zl 2 (adr a5 (0 * 1)) (.int .i64 x4) (cd2_cell (H7.rdPin 0 rfl 0 rfl) hx3)) ?_
    refine Zy (.bool x5) (ZQ 69 #[.slice a3 s1.length c2, .int .i64 x4] (w_spec_l01Has h3 s1 a3 c2 (H7.rd 1 rfl) x4 _ _ hx4)) ?_
    refine Zb [.bool (!x5)] 8 ?_
    exact Zd [3, 4, 5, 23]
   obtain ⟨s2, gs2, hB1⟩ := M.bind_some hB1
   refine Run_join (fun L' h' => ∃ (a9 : Option Addr), ∃ (c7 : Nat), L' = [(3, .slice a1 x1.length c1), (4, .slice a9 s2.length c7), (5, .int .i64 i1)] ∧ Hold h h' [own cd24 a1 x1.length c1 x1, own cd2 a9 s2.length c7 s2]) ?_ ?_
   ·rintro _ h7 ⟨a9, c7, rfl, H14⟩
    refine Run_blk ?_
    refine Zg 3 [(3, .slice a1 x1.length c1), (4, .slice a9 s2.length c7), (5, .int .i64 (i1 + 1))] ?_ ?_
    ·refine Zb [.int .i64 i1] 0 ?_
     refine Zy (.int .i64 (i1 + 1)) (Y_eq (v := .int .i64 (w64 (i1 + 1))) (Y_pure (fun w => by kernel_rfl)) (by rw [w64_eq _ (by omega)])) ?_
     refine Zb [.int .i64 (i1 + 1)] 2 ?_
     exact Zd [3, 4, 5]
    have H22 : Hold h h7 [own cd2 a9 s2.length c7 s2, own cd24 a1 x1.length c1 x1] := H14.pk [1, 0]
    have H23 : Hold h h7 [own cd24 a1 x1.length c1 x1, own cd2 a9 s2.length c7 s2] := H22.pk [1, 0]
    have hB1 := M.ret_some hB1
    have gx2 := hgoy1 _ hB1.symm
    exact Za [3, 4, 5] my1 ⟨i1 + 1, s2, a9, c7, by omega, gx2, rfl, H23⟩
   ·refine Zc (!x5) (fun hb2 => ?_) (fun hb2 => ?_)
    ·have gs2 := (M.ite_some gs2).1 hb2
     refine Run_ops ?_
     obtain ⟨x6, hx5, gs2⟩ := M.bind_some gs2
     obtain ⟨hx5l, hx5u, hx5⟩ := M.idx_some hx5
     obtain ⟨a6, c5, H8⟩ := H7.pinRow hx5
     obtain ⟨x7, hx6, gs2⟩ := M.bind_some gs2
     obtain ⟨hx6l, hx6u, hx6⟩ := M.idx_some hx6
     refine Zr [.slice a3 s1.length c2, .slice a1 x1.length c1, .int .i64 i1] 0 ?_
     refine Zz (.pointer (some (adr a1 (i1.toNat * 1)))) (Zi 22 24 1 (a1) (x1.length) (c1) .i64 (i1) Tryz.underlying22 ((H7.rdRows 0 rfl).cell hx5).1 hx5l hx5u) ?_
     refine Zz (.slice a6 x6.length c5) (Zl 24 (adr a1 (i1.toNat * 1)) (.slice a6 x6.length c5) (H8.cellPin 0 rfl 0 rfl)) ?_
     refine Zz (.pointer (some (adr a6 (0 * 1)))) (Zi 24 2 1 (a6) (x6.length) (c5) .i64 (0) Tryz.underlying24 ((H8.rdPin 0 rfl 0 rfl).cell hx6).1 hx6l hx6u) ?_
     refine Zz (.int .i64 x7) (Zl 2 (adr a6 (0 * 1)) (.int .i64 x7) (cd2_cell (H8.rdPin 0 rfl 0 rfl) hx6)) ?_
     refine Ze ?_
     refine E_lit (C := cd2) (n := 1) (l := ([x7] : List Int)) (cs := [.int .i64 x7]) H8 (fun w => by kernel_rfl) (Enc.consE (cd2_own x7 _) (Enc.nil _ _) rfl) rfl (by decide) (fun a7 h5 H9 => ?_)
     obtain ⟨l1, hl1, gs2⟩ := M.bind_some gs2
     have hl1 := M.app_some hl1
     have H10 : Hold h h5 [own cd2 a3 s1.length c2 s1, own cd2 a7 1 1 ([x7] : List Int), rowsP cd2 24 a1 x1.length c1 x1 [(i1.toNat, a6, x6.length, c5, x6), (i1.toNat, a5, x3.length, c4, x3)]] := H9.pk [2, 0, 1]
     have H11 : Hold h h5 [own cd2 a7 1 1 ([x7] : List Int), own cd2 a3 s1.length c2 s1, rowsP cd2 24 a1 x1.length c1 x1 [(i1.toNat, a6, x6.length, c5, x6), (i1.toNat, a5, x3.length, c4, x3)]] := H10.pk [1, 0, 2]
     have H12 : Hold h h5 [own cd2 a3 s1.length c2 s1, own cd2 a7 1 1 ([x7] : List Int), rowsP cd2 24 a1 x1.length c1 x1 [(i1.toNat, a6, x6.length, c5, x6), (i1.toNat, a5, x3.length, c4, x3)]] := H11.pk [1, 0, 2]
     refine Ze ?_
     refine E_app (C := cd2) (t := 24) (ty := 24) (n := s1.length) (m := 1) H12 cd2_ti rfl Tryz.underlying24 (by decide) (by kernel_rfl) hl1 (fun a8 c6 h6 H13 => ?_)
     refine Zr [.slice a8 l1.length c6] 9 ?_
     refine Zx ?_
     refine Zk [3, 4, 5] [(3, .slice a1 x1.length c1), (4, .slice a8 l1.length c6), (5, .int .i64 i1)] ?_
     have H15 : Hold h h6 [rowsP cd2 24 a1 x1.length c1 x1 [(i1.toNat, a6, x6.length, c5, x6), (i1.toNat, a5, x3.length, c4, x3)], own cd2 a8 l1.length c6 l1] := H13.pk [1, 0]
     have H16 := H15.ofRows
     have H17 : Hold h h6 [own cd2 a8 l1.length c6 l1, own cd24 a1 x1.length c1 x1] := H16.pk [1, 0]
     have H18 : Hold h h6 [own cd24 a1 x1.length c1 x1, own cd2 a8 l1.length c6 l1] := H17.pk [1, 0]
     have gs2 := M.ret_some gs2
     subst gs2
     exact Zf [3, 4, 5] ⟨a8, c6, rfl, H18⟩
    ·have gs2 := (M.ite_some gs2).2 hb2
     refine Run_skip ?_
     have H19 := H7.ofRows
     have H20 : Hold h h3 [own cd2 a3 s1.length c2 s1, own cd24 a1 x1.length c1 x1] := H19.pk [1, 0]
     have H21 : Hold h h3 [own cd24 a1 x1.length c1 x1, own cd2 a3 s1.length c2 s1] := H20.pk [1, 0]
     have gs2 := M.ret_some gs2
     subst gs2
     exact Zf [3, 4, 5] ⟨a3, c2, rfl, H21⟩
  ·have gx2 := M.for_end gx2 hb1
   subst gx2
   refine Run_exit (k' := _) rfl ?_
   have H24 : Hold h h3 [own cd2 a3 s1.length c2 s1, own cd24 a1 x1.length c1 x1] := H4.pk [1, 0]
   have H25 : Hold h h3 [own cd2 a3 s1.length c2 s1] := H24.pk [0]
   exact Zf [4] ⟨a3, c2, rfl, H25⟩

theorem w_spec_l06Components (h : Heap) (a_ : List (List Int)) (aa_ : Option Addr) (ca_ : Nat) (ra_ : Rd cd24 h (Lt h) aa_ ca_ a_) (n : Nat) (r : (List (List Int))) (hF : spec_l06Components a_ n = some r) :
  Fn Tryz.prog 61 #[.slice aa_ a_.length ca_] h fun v h' => ∃ (a0 : Option Addr) (c0 : Nat), v = .slice a0 r.length c0 ∧ Rd cd24 h' (Lt h') a0 c0 r ∧ Hold h h' [] := by
 unfold spec_l06Components at hF
 refine Zo [.slice aa_ a_.length ca_] Tryz.func61 rfl (fun w0 _ => ?_)
 have H0 := Hold.init h
 refine Zs ?_
 refine Zq [.slice none 0 0] [0] [(0, .slice aa_ a_.length ca_)] ?_
 refine Zs ?_
 refine Run_ops ?_
 refine Zr [.slice aa_ a_.length ca_] 0 ?_
 obtain ⟨x1, hx1, hF⟩ := M.bind_some hF
 refine Ze ?_
 refine ZC 45 #[.slice aa_ a_.length ca_] (w_spec_l06Matrix h a_ aa_ ca_ ra_ _ _ hx1) (fun v1 h1 hp1 => ?_)
 obtain ⟨a1, c1, rfl, H1⟩ := hp1
 have H2 : Hold h h1 [own cd24 a1 x1.length c1 x1] := H0.call H1 rfl
 obtain ⟨x2, hx2, hF⟩ := M.bind_some hF
 refine Ze ?_
 refine ZC 104 #[.slice a1 x1.length c1] (w_spec_l05Components h1 x1 a1 c1 (H2.rd 0 rfl) _ _ hx2) (fun v2 h2 hp2 => ?_)
 obtain ⟨a2, c2, rfl, H3⟩ := hp2
 have H4 : Hold h h2 [own cd24 a2 x2.length c2 x2, own cd24 a1 x1.length c1 x1] := H2.call H3 rfl
 refine Zr [.slice a2 x2.length c2] 3 ?_
 refine Zx ?_
 refine Zk [0, 3] [(0, .slice aa_ a_.length ca_), (3, .slice a2 x2.length c2)] ?_
 refine Zs ?_
 refine Run_ops ?_
 refine Zr [.slice aa_ a_.length ca_] 0 ?_
 obtain ⟨x3, hx3, hF⟩ := M.bind_some hF
 refine Ze ?_
 refine ZC 36 #[.slice aa_ a_.length ca_] (w_spec_l06Nodes h2 a_ aa_ ca_ (ra_.at H4.ext) _ _ hx3) (fun v3 h3 hp3 => ?_)
 obtain ⟨a3, c3, rfl, H5⟩ := hp3
 have H6 : Hold h h3 [own cd2 a3 x3.length c3 x3, own cd24 a2 x2.length c2 x2, own cd24 a1 x1.length c1 x1] := H4.call H5 rfl
 refine Zr [.slice a3 x3.length c3] 2 ?_
 refine Zx ?_
 refine Zk [3, 4] [(3, .slice a2 x2.length c2), (4, .slice a3 x3.length c3)] ?_
 refine Zs ?_
 have rB1 := (H6.rd 1 rfl)
 have rB2 := (H6.rd 0 rfl)
 have HB1 : Hold h h3 [] := H6.pk []
 obtain ⟨h, hEq⟩ : ∃ q : Heap, q = h3 := ⟨_, rfl⟩
 subst hEq
 have H7 := Hold.init h
 refine Run_ops ?_
 refine Ze ?_
 refine E_lit (C := (pinCd cd24 h)) (n := 0) (l := []) (cs := []) H7 (fun w => by kernel_rfl) (Enc.nil _ _) rfl (by decide) (fun a4 h4 H8 => ?_)
 refine Zr [.slice a4 0 0] 1 ?_
 refine Zx ?_
 refine Zk [3, 4, 5] [(3, .slice a2 x2.length c2), (4, .slice a3 x3.length c3), (5, .slice a4 0 0)] ?_
 refine Zs ?_
 refine Zs ?_
 refine Zq [.int .i64 0] [3, 4, 5, 6] [(3, .slice a2 x2.length c2), (4, .slice a3 x3.length c3), (5, .slice a4 0 0), (6, .int .i64 0)] ?_
 obtain ⟨x4, gx4, hF⟩ := M.bind_some hF
 obtain ⟨hloy1, hhiy1, gx4⟩ := M.for_start gx4
 refine Run_join (fun L' h' => ∃ (a6 : Option Addr) (c5 : Nat), L' = [(5, .slice a6 x4.length c5)] ∧ Hold h h' [own (pinCd cd24 h) a6 x4.length c5 x4]) ?_ ?_
 ·rintro _ h6 ⟨a6, c5, rfl, H10⟩
  refine Zs ?_
  refine Zq [.slice a6 x4.length c5, .slice a6 x4.length c5] [2] [(2, .slice a6 x4.length c5)] ?_
  have hF := M.ret_some hF
  subst hF
  have rV1 := ((H10.rd 0 rfl).unpin H10.ext)
  have H17 : Hold h h6 [] := H10.pk []
  exact Run_ret1 rfl (Zt (.slice a6 x4.length c5)) ⟨a6, c5, rfl, rV1, (HB1.trans0 H17)⟩
 ·refine Run_block ?_
  have hn1 := (H8.len 0 rfl)
  have H18 : Hold h h4 [own (pinCd cd24 h) a4 (([] : List (List Int)).length) 0 ([] : List (List Int))] := by rw [hn1]; exact H8
  refine Run_keep [3, 4, 5, 6] (L' := [(3, .slice a2 x2.length c2), (4, .slice a3 x3.length c3), (5, .slice a4 (([] : List (List Int)).length) 0), (6, .int .i64 0)]) (by first | (rw [hn1]; kernel_rfl) | (simp only [hn1]; kernel_rfl) | kernel_rfl) ?_
  refine Run_loop (fun m L' h' => ∃ (i1 : Int) (s1 : (List (List Int))) (a5 : Option Addr) (c4 : Nat), 0 ≤ i1 ∧ M.forN (x2.length : Int) _ _ n m i1 s1 = some x4 ∧ L' = [(3, .slice a2 x2.length c2), (4, .slice a3 x3.length c3), (5, .slice a5 s1.length c4), (6, .int .i64 i1)] ∧ Hold h h' [own (pinCd cd24 h) a5 s1.length c4 s1]) ((x2.length : Int) - 0 : Int).toNat ⟨0, ([] : List (List Int)), a4, 0, Int.le_refl _, gx4, rfl, H18⟩ ?_
  rintro my1 _ h5 ⟨i1, s1, a5, c4, hloy1', gx4, rfl, H9⟩
  refine Zs ?_
  refine Zs ?_
  refine Zq [.int .i64 i1, .slice a2 x2.length c2, .int .i64 (x2.length : Int), .bool (decide (i1 < (x2.length : Int)))] [3, 4, 5, 6, 16] [(3, .slice a2 x2.length c2), (4, .slice a3 x3.length c3), (5, .slice a5 s1.length c4), (6, .int .i64 i1), (16, .bool (decide (i1 < (x2.length : Int))))] ?_
  refine Zc (decide (i1 < (x2.length : Int))) (fun hb1 => ?_) (fun hb1 => ?_)
  ·obtain ⟨my1, y1, rfl, hB1, hgoy1, houty1⟩ := M.for_go gx4 hb1
   have hlty1 := of_decide_eq_true hb1
   refine Run_skip ?_
   refine Zs ?_
   refine Run_block ?_
   refine Zs ?_
   obtain ⟨x5, hx4, hB1⟩ := M.bind_some hB1
   obtain ⟨hx4l, hx4u, hx4⟩ := M.idx_some hx4
   obtain ⟨a7, c6, hc1, r1⟩ := rB1.row hx4
   obtain ⟨x6, hx5, hB1⟩ := M.bind_some hB1
   obtain ⟨hx5l, hx5u, hx5⟩ := M.idx_some hx5
   obtain ⟨x7, hx6, hB1⟩ := M.bind_some hB1
   refine Zg 8 [(3, .slice a2 x2.length c2), (4, .slice a3 x3.length c3), (5, .slice a5 s1.length c4), (6, .int .i64 i1), (26, .bool x7)] ?_ ?_
   ·refine Zb [.slice a3 x3.length c3, .slice a2 x2.length c2, .int .i64 i1] 0 ?_
    refine Zy (.pointer (some (adr a2 (i1.toNat * 1)))) (Zi 22 24 1 (a2) (x2.length) (c2) .i64 (i1) Tryz.underlying22 ((rB1.at H9.ext).cell hx4).1 hx4l hx4u) ?_
    refine Zy (.slice a7 x5.length c6) (Zl 24 (adr a2 (i1.toNat * 1)) (.slice a7 x5.length c6) (cell_at H9.ext hc1)) ?_
    refine Zy (.pointer (some (adr a7 (0 * 1)))) (Zi 24 2 1 (a7) (x5.length) (c6) .i64 (0) Tryz.underlying24 ((r1.at H9.ext).cell hx5).1 hx5l hx5u) ?_
    refine Zy (.int .i64 x6) (Zl 2 (adr a7 (0 * 1)) (.int .i64 x6) (cd2_cell (r1.at H9.ext) hx5)) ?_
    refine Zy (.bool x7) (ZQ 69 #[.slice a3 x3.length c3, .int .i64 x6] (w_spec_l01Has h5 x3 a3 c3 (rB2.at H9.ext) x6 _ _ hx6)) ?_
    exact Zd [3, 4, 5, 6, 26]
   obtain ⟨s2, gs2, hB1⟩ := M.bind_some hB1
   refine Run_join (fun L' h' => ∃ (a11 : Option Addr), ∃ (c9 : Nat), L' = [(3, .slice a2 x2.length c2), (4, .slice a3 x3.length c3), (5, .slice a11 s2.length c9), (6, .int .i64 i1)] ∧ Hold h h' [own (pinCd cd24 h) a11 s2.length c9 s2]) ?_ ?_
   ·rintro _ h9 ⟨a11, c9, rfl, H16⟩
    refine Run_blk ?_
    refine Zg 3 [(3, .slice a2 x2.length c2), (4, .slice a3 x3.length c3), (5, .slice a11 s2.length c9), (6, .int .i64 (i1 + 1))] ?_ ?_
    ·refine Zb [.int .i64 i1] 0 ?_
     refine Zy (.int .i64 (i1 + 1)) (Y_eq (v := .int .i64 (w64 (i1 + 1))) (Y_pure (fun w => by kernel_rfl)) (by rw [w64_eq _ (by omega)])) ?_
     refine Zb [.int .i64 (i1 + 1)] 2 ?_
     exact Zd [3, 4, 5, 6]
    have hB1 := M.ret_some hB1
    have gx4 := hgoy1 _ hB1.symm
    exact Za [3, 4, 5, 6] my1 ⟨i1 + 1, s2, a11, c9, by omega, gx4, rfl, H16⟩
   ·refine Zc (x7) (fun hb2 => ?_) (fun hb2 => ?_)
    ·have gs2 := (M.ite_some gs2).1 hb2
     refine Run_ops ?_
     obtain ⟨x8, hx7, gs2⟩ := M.bind_some gs2
     obtain ⟨hx7l, hx7u, hx7⟩ := M.idx_some hx7
     obtain ⟨a8, c7, hc2, r2⟩ := rB1.row hx7
     refine Zr [.slice a5 s1.length c4, .slice a2 x2.length c2, .int .i64 i1] 0 ?_
     refine Zz (.pointer (some (adr a2 (i1.toNat * 1)))) (Zi 22 24 1 (a2) (x2.length) (c2) .i64 (i1) Tryz.underlying22 ((rB1.at H9.ext).cell hx7).1 hx7l hx7u) ?_
     refine Zz (.slice a8 x8.length c7) (Zl 24 (adr a2 (i1.toNat * 1)) (.slice a8 x8.length c7) (cell_at H9.ext hc2)) ?_
     refine Ze ?_
     refine E_lit (C := (pinCd cd24 h)) (n := 1) (l := [x8]) (cs := [.slice a8 x8.length c7]) H9 (fun w => by kernel_rfl) (Enc.consE (C := (pinCd cd24 h)) ⟨⟨_, _, rfl, r2⟩, rfl⟩ (Enc.nil _ _) rfl) rfl (by decide) (fun a9 h7 H11 => ?_)
     obtain ⟨l1, hl1, gs2⟩ := M.bind_some gs2
     have hl1 := M.app_some hl1
     have H12 : Hold h h7 [own (pinCd cd24 h) a5 s1.length c4 s1, own (pinCd cd24 h) a9 1 1 [x8]] := H11.pk [1, 0]
     have H13 : Hold h h7 [own (pinCd cd24 h) a9 1 1 [x8], own (pinCd cd24 h) a5 s1.length c4 s1] := H12.pk [1, 0]
     have H14 : Hold h h7 [own (pinCd cd24 h) a5 s1.length c4 s1, own (pinCd cd24 h) a9 1 1 [x8]] := H13.pk [1, 0]
     refine Ze ?_
     refine E_app (C := (pinCd cd24 h)) (t := 22) (ty := 22) (n := s1.length) (m := 1) H14 cd24_ti rfl Tryz.underlying22 (by decide) (by kernel_rfl) hl1 (fun a10 c8 h8 H15 => ?_)
     refine Zr [.slice a10 l1.length c8] 7 ?_
     refine Zx ?_
     refine Zk [3, 4, 5, 6] [(3, .slice a2 x2.length c2), (4, .slice a3 x3.length c3), (5, .slice a10 l1.length c8), (6, .int .i64 i1)] ?_
     have gs2 := M.ret_some gs2
     subst gs2
     exact Zf [3, 4, 5, 6] ⟨a10, c8, rfl, H15⟩
    ·have gs2 := (M.ite_some gs2).2 hb2
     refine Run_skip ?_
     have gs2 := M.ret_some gs2
     subst gs2
     exact Zf [3, 4, 5, 6] ⟨a5, c4, rfl, H9⟩
  ·have gx4 := M.for_end gx4 hb1
   subst gx4
   refine Run_exit (k' := _) rfl ?_
   exact Zf [5] ⟨a5, c4, rfl, H9⟩

theorem w_spec_EigenColumns (h : Heap) (a_ : List (List Int)) (aa_ : Option Addr) (ca_ : Nat) (ra_ : Rd cd24 h (Lt h) aa_ ca_ a_) (n : Nat) (r : (List (List Int)) × Int) (hF : spec_EigenColumns a_ n = some r) :
  Fn Tryz.prog 30 #[.slice aa_ a_.length ca_] h fun v h' => ∃ (a0 : Option Addr) (c0 : Nat), v = .tuple #[.slice a0 r.1.length c0, .int .i64 r.2] ∧ Hold h h' [own cd24 a0 r.1.length c0 r.1] := by
 unfold spec_EigenColumns at hF
 refine Zo [.slice aa_ a_.length ca_] Tryz.func30 rfl (fun w0 _ => ?_)
 have H0 := Hold.init h
 refine Zs ?_
 refine Zq [.slice none 0 0, .int .i64 0] [0] [(0, .slice aa_ a_.length ca_)] ?_
 refine Zs ?_
 obtain ⟨x1, hx1, hF⟩ := M.bind_some hF
 refine Run_regC (j := 3) (C := fun x => Hold h x []) (by kernel_rfl) H0 (L' := [(0, .slice aa_ a_.length ca_), (4, .int .i64 x1)]) ?_ (fun h1 H1 => ?_)
 ·refine Zb [.slice aa_ a_.length ca_] 0 ?_
  refine Zy (.int .i64 x1) (Y_call (f := 35) (args := #[.slice aa_ a_.length ca_]) (v := .int .i64 x1) (by kernel_rfl) fun hx Hx => (w_spec_l06Code hx a_ aa_ ca_ (ra_.at Hx.ext) _ _ hx1).mono fun _ _ ⟨e, H'⟩ => ⟨e, Hx.call H' rfl⟩) ?_
  refine Zb [.int .i64 x1] 2 ?_
  exact Zd [0, 4]
 have H2 : Hold h h1 [] := H1
 refine Zs ?_
 refine Zs ?_
 refine Zq [.int .i64 x1, .bool (x1 != 0)] [0, 4, 19] [(0, .slice aa_ a_.length ca_), (4, .int .i64 x1), (19, .bool (x1 != 0))] ?_
 refine Zc (x1 != 0) (fun hb1 => ?_) (fun hb1 => ?_)
 ·have hF := (M.ite_some hF).1 hb1
  refine Zs ?_
  refine Zq [.int .i64 x1, .slice none 0 0, .int .i64 x1] [2, 3] [(2, .slice none 0 0), (3, .int .i64 x1)] ?_
  have hF := M.ret_some hF
  subst hF
  have H3 := H2.empty cd24
  exact Run_ret2 rfl (Zt (.slice none 0 0)) (Zt (.int .i64 x1)) ⟨none, 0, rfl, H3⟩
 ·have hF := (M.ite_some hF).2 hb1
  refine Run_skip ?_
  refine Zs ?_
  refine Run_ops ?_
  refine Zr [.slice aa_ a_.length ca_] 0 ?_
  obtain ⟨x2, hx2, hF⟩ := M.bind_some hF
  refine Ze ?_
  refine ZC 54 #[.slice aa_ a_.length ca_] (w_spec_l04Best h1 a_ aa_ ca_ (ra_.at H2.ext) _ _ hx2) (fun v1 h2 hp1 => ?_)
  obtain ⟨a1, c1, rfl, H4⟩ := hp1
  have H5 : Hold h h2 [own cd2 a1 x2.1.length c1 x2.1] := H2.call H4 rfl
  refine Zr [.tuple #[.slice a1 x2.1.length c1, .bool x2.2], .slice a1 x2.1.length c1, .bool x2.2, .slice a1 x2.1.length c1, .bool x2.2] 2 ?_
  refine Zx ?_
  refine Zk [0, 5] [(0, .slice aa_ a_.length ca_), (5, .slice a1 x2.1.length c1)] ?_
  refine Zs ?_
  refine Run_ops ?_
  refine Zr [.slice aa_ a_.length ca_, .slice a1 x2.1.length c1] 0 ?_
  obtain ⟨x3, hx3, hF⟩ := M.bind_some hF
  refine Ze ?_
  refine ZC 55 #[.slice aa_ a_.length ca_, .slice a1 x2.1.length c1] (w_spec_l04Mean h2 a_ aa_ ca_ (ra_.at H5.ext) x2.1 a1 c1 (H5.rd 0 rfl) _ _ hx3) (fun v2 h3 hp2 => ?_)
  obtain ⟨rfl, H6⟩ := hp2
  have H7 : Hold h h3 [own cd2 a1 x2.1.length c1 x2.1] := H5.call H6 rfl
  refine Zr [.tuple #[.agg #[.int .i64 x3.1.Num, .int .i64 x3.1.Den], .bool x3.2], .agg #[.int .i64 x3.1.Num, .int .i64 x3.1.Den], .bool x3.2] 3 ?_
  refine Ze ?_
  refine E_box (ty := 44) (cs := [.int .i64 0, .int .i64 0]) H7 (fun w => by kernel_rfl) (fun b1 h4 H8 => ?_)
  refine Ze ?_
  refine ZP 44 0 [.int .i64 x3.1.Num, .int .i64 x3.1.Den] (.agg #[.int .i64 x3.1.Num, .int .i64 x3.1.Den]) H8 (fun h5 H9 => ?_)
  refine Zr [.bool x3.2] 8 ?_
  refine Zx ?_
  refine Zk [0, 7] [(0, .slice aa_ a_.length ca_), (7, pV b1)] ?_
  refine Zs ?_
  refine Run_ops ?_
  refine Zr [.slice aa_ a_.length ca_] 0 ?_
  refine Zz (.agg #[.int .i64 x3.1.Num, .int .i64 x3.1.Den]) (Y_loadA (t := 44) (n := 2) (p := ⟨b1, 0, none⟩) (cs := [.int .i64 x3.1.Num, .int .i64 x3.1.Den]) (by kernel_rfl) (fun w => by kernel_rfl) (by kernel_rfl) rfl (H9.cells (n := 2) (off := 0) 0 rfl rfl)) ?_
  obtain ⟨x4, hx4, hF⟩ := M.bind_some hF
  refine Ze ?_
  refine ZC 59 #[.slice aa_ a_.length ca_, .agg #[.int .i64 x3.1.Num, .int .i64 x3.1.Den]] (w_spec_l04Shift h5 a_ aa_ ca_ (ra_.at H9.ext) x3.1 _ _ hx4) (fun v3 h6 hp3 => ?_)
  obtain ⟨a2, c2, rfl, H10⟩ := hp3
  have H11 : Hold h h6 [own cd24 a2 x4.length c2 x4, box b1 44 [.int .i64 x3.1.Num, .int .i64 x3.1.Den], own cd2 a1 x2.1.length c1 x2.1] := H9.call H10 rfl
  obtain ⟨x5, hx5, hF⟩ := M.bind_some hF
  refine Ze ?_
  refine ZC 58 #[.slice a2 x4.length c2] (w_spec_l03Star h6 x4 a2 c2 (H11.rd 0 rfl) _ _ hx5) (fun v4 h7 hp4 => ?_)
  obtain ⟨a3, c3, rfl, H12⟩ := hp4
  have H13 : Hold h h7 [own cd24 a3 x5.1.length c3 x5.1, own cd24 a2 x4.length c2 x4, box b1 44 [.int .i64 x3.1.Num, .int .i64 x3.1.Den], own cd2 a1 x2.1.length c1 x2.1] := H11.call H12 rfl
  refine Zr [.tuple #[.slice a3 x5.1.length c3, .bool x5.2], .slice a3 x5.1.length c3, .bool x5.2, .slice a3 x5.1.length c3, .bool x5.2] 4 ?_
  refine Zx ?_
  refine Zk [0, 9] [(0, .slice aa_ a_.length ca_), (9, .slice a3 x5.1.length c3)] ?_
  refine Zs ?_
  refine Run_ops ?_
  refine Zr [.slice a3 x5.1.length c3] 0 ?_
  obtain ⟨x6, hx6, hF⟩ := M.bind_some hF
  refine Ze ?_
  refine ZC 60 #[.slice a3 x5.1.length c3] (w_spec_l02Turn h7 x5.1 a3 c3 (H13.rd 0 rfl) _ _ hx6) (fun v5 h8 hp5 => ?_)
  obtain ⟨a4, c4, rfl, H14⟩ := hp5
  have H15 : Hold h h8 [own cd24 a4 x6.length c4 x6, own cd24 a3 x5.1.length c3 x5.1, own cd24 a2 x4.length c2 x4, box b1 44 [.int .i64 x3.1.Num, .int .i64 x3.1.Den], own cd2 a1 x2.1.length c1 x2.1] := H13.call H14 rfl
  refine Zr [.slice a4 x6.length c4] 2 ?_
  refine Zx ?_
  refine Zk [0, 11] [(0, .slice aa_ a_.length ca_), (11, .slice a4 x6.length c4)] ?_
  refine Zs ?_
  refine Run_ops ?_
  refine Zr [.slice aa_ a_.length ca_] 0 ?_
  obtain ⟨x7, hx7, hF⟩ := M.bind_some hF
  refine Ze ?_
  refine ZC 61 #[.slice aa_ a_.length ca_] (w_spec_l06Components h8 a_ aa_ ca_ (ra_.at H15.ext) _ _ hx7) (fun v6 h9 hp6 => ?_)
  obtain ⟨a5, c5, rfl, rV1, H16⟩ := hp6
  have H17 : Hold h h9 [own cd24 a4 x6.length c4 x6, own cd24 a3 x5.1.length c3 x5.1, own cd24 a2 x4.length c2 x4, box b1 44 [.int .i64 x3.1.Num, .int .i64 x3.1.Den], own cd2 a1 x2.1.length c1 x2.1] := H15.call H16 rfl
  refine Zr [.slice a5 x7.length c5] 2 ?_
  refine Zx ?_
  refine Zk [11, 12] [(11, .slice a4 x6.length c4), (12, .slice a5 x7.length c5)] ?_
  refine Zs ?_
  have rB1 := (H17.rd 0 rfl)
  have rB2 := rV1
  have HB1 : Hold h h9 [] := H17.pk []
  obtain ⟨h, hEq⟩ : ∃ q : Heap, q = h9 := ⟨_, rfl⟩
  subst hEq
  have H18 := Hold.init h
  refine Run_ops ?_
  refine Ze ?_
  refine E_lit (C := cd24) (n := 0) (l := []) (cs := []) H18 (fun w => by kernel_rfl) (Enc.nil _ _) rfl (by decide) (fun a6 h10 H19 => ?_)
  refine Zr [.slice a6 0 0] 1 ?_
  refine Zx ?_
  refine Zk [11, 12, 13] [(11, .slice a4 x6.length c4), (12, .slice a5 x7.length c5), (13, .slice a6 0 0)] ?_
  refine Zs ?_
  refine Zs ?_
  refine Zq [.int .i64 0] [11, 12, 13, 14] [(11, .slice a4 x6.length c4), (12, .slice a5 x7.length c5), (13, .slice a6 0 0), (14, .int .i64 0)] ?_
  obtain ⟨x8, gx8, hF⟩ := M.bind_some hF
  obtain ⟨hloy1, hhiy1, gx8⟩ := M.for_start gx8
  refine Run_join (fun L' h' => ∃ (s2 : (List (List Int))) (a8 : Option Addr) (c7 : Nat), x8 = .inl s2 ∧ L' = [(13, .slice a8 s2.length c7)] ∧ Hold h h' [own cd24 a8 s2.length c7 s2]) ?_ ?_
  ·rintro _ h12 ⟨s2, a8, c7, es2, rfl, H21⟩
   have hF := M.cont_inl' hF es2
   refine Zs ?_
   refine Zq [.slice a8 s2.length c7, .slice a8 s2.length c7, .int .i64 0] [2, 3] [(2, .slice a8 s2.length c7), (3, .int .i64 0)] ?_
   have hF := M.ret_some hF
   subst hF
   exact Run_ret2 rfl (Zt (.slice a8 s2.length c7)) (Zt (.int .i64 0)) ⟨a8, c7, rfl, (HB1.transN H21 rfl)⟩
  ·refine Run_block ?_
   have hn1 := (H19.len 0 rfl)
   have H31 : Hold h h10 [own cd24 a6 (([] : List (List Int)).length) 0 ([] : List (List Int))] := by rw [hn1]; exact H19
   refine Run_keep [11, 12, 13, 14] (L' := [(11, .slice a4 x6.length c4), (12, .slice a5 x7.length c5), (13, .slice a6 (([] : List (List Int)).length) 0), (14, .int .i64 0)]) (by first | (rw [hn1]; kernel_rfl) | (simp only [hn1]; kernel_rfl) | kernel_rfl) ?_
   refine Run_loop (fun m L' h' => ∃ (i1 : Int) (s1 : (List (List Int))) (a7 : Option Addr) (c6 : Nat), 0 ≤ i1 ∧ M.forN (x7.length : Int) _ _ n m i1 s1 = some x8 ∧ L' = [(11, .slice a4 x6.length c4), (12, .slice a5 x7.length c5), (13, .slice a7 s1.length c6), (14, .int .i64 i1)] ∧ Hold h h' [own cd24 a7 s1.length c6 s1]) ((x7.length : Int) - 0 : Int).toNat ⟨0, ([] : List (List Int)), a6, 0, Int.le_refl _, gx8, rfl, H31⟩ ?_
   rintro my1 _ h11 ⟨i1, s1, a7, c6, hloy1', gx8, rfl, H20⟩
   refine Zs ?_
   refine Zs ?_
   refine Zq [.int .i64 i1, .slice a5 x7.length c5, .int .i64 (x7.length : Int), .bool (decide (i1 < (x7.length : Int)))] [11, 12, 13, 14, 47] [(11, .slice a4 x6.length c4), (12, .slice a5 x7.length c5), (13, .slice a7 s1.length c6), (14, .int .i64 i1), (47, .bool (decide (i1 < (x7.length : Int))))] ?_
   refine Zc (decide (i1 < (x7.length : Int))) (fun hb2 => ?_) (fun hb2 => ?_)
   ·obtain ⟨my1, y1, rfl, hB1, hgoy1, houty1⟩ := M.for_go gx8 hb2
    have hlty1 := of_decide_eq_true hb2
    refine Run_skip ?_
    refine Zs ?_
    refine Run_block ?_
    refine Zs ?_
    obtain ⟨x9, hx8, hB1⟩ := M.bind_some hB1
    obtain ⟨hx8l, hx8u, hx8⟩ := M.idx_some hx8
    obtain ⟨a9, c8, hc1, r1⟩ := rB2.row hx8
    obtain ⟨x10, hx9, hB1⟩ := M.bind_some hB1
    obtain ⟨hx9l, hx9u, hx9⟩ := M.idx_some hx9
    obtain ⟨x11, hx10, hB1⟩ := M.bind_some hB1
    obtain ⟨hx10l, hx10u, hx10⟩ := M.idx_some hx10
    obtain ⟨a10, c9, hc2, r2⟩ := rB1.row hx10
    refine Zg 10 [(11, .slice a4 x6.length c4), (12, .slice a5 x7.length c5), (13, .slice a7 s1.length c6), (14, .int .i64 i1), (15, .slice a10 x11.length c9)] ?_ ?_
    ·refine Zb [.slice a4 x6.length c4, .slice a5 x7.length c5, .int .i64 i1] 0 ?_
     refine Zy (.pointer (some (adr a5 (i1.toNat * 1)))) (Zi 22 24 1 (a5) (x7.length) (c5) .i64 (i1) Tryz.underlying22 ((rB2.at H20.ext).cell hx8).1 hx8l hx8u) ?_
     refine Zy (.slice a9 x9.length c8) (Zl 24 (adr a5 (i1.toNat * 1)) (.slice a9 x9.length c8) (cell_at H20.ext hc1)) ?_
     refine Zy (.pointer (some (adr a9 (0 * 1)))) (Zi 24 2 1 (a9) (x9.length) (c8) .i64 (0) Tryz.underlying24 ((r1.at H20.ext).cell hx9).1 hx9l hx9u) ?_
     refine Zy (.int .i64 x10) (Zl 2 (adr a9 (0 * 1)) (.int .i64 x10) (cd2_cell (r1.at H20.ext) hx9)) ?_
     refine Zy (.pointer (some (adr a4 (x10.toNat * 1)))) (Zi 22 24 1 (a4) (x6.length) (c4) .i64 (x10) Tryz.underlying22 ((rB1.at H20.ext).cell hx10).1 hx10l hx10u) ?_
     refine Zy (.slice a10 x11.length c9) (Zl 24 (adr a4 (x10.toNat * 1)) (.slice a10 x11.length c9) (cell_at H20.ext hc2)) ?_
     refine Zb [.slice a10 x11.length c9] 9 ?_
     exact Zd [11, 12, 13, 14, 15]
    refine Zs ?_
    refine Zs ?_
    obtain ⟨x12, hx11, hB1⟩ := M.bind_some hB1
    refine Zg 3 [(11, .slice a4 x6.length c4), (12, .slice a5 x7.length c5), (13, .slice a7 s1.length c6), (14, .int .i64 i1), (15, .slice a10 x11.length c9), (61, .bool (!x12))] ?_ ?_
    ·refine Zb [.slice a10 x11.length c9] 0 ?_
     refine Zy (.bool x12) (ZQ 62 #[.slice a10 x11.length c9] (w_spec_l02Vector h11 x11 a10 c9 (r2.at H20.ext) _ _ hx11)) ?_
     refine Zb [.bool (!x12)] 2 ?_
     exact Zd [11, 12, 13, 14, 15, 61]
    refine Zc (!x12) (fun hb3 => ?_) (fun hb3 => ?_)
    ·have hB1 := (M.ite_some hB1).1 hb3
     refine Zs ?_
     refine Zq [.slice none 0 0, .int .i64 3] [2, 3] [(2, .slice none 0 0), (3, .int .i64 3)] ?_
     have hB1 := M.ret_some hB1
     have gx8 := houty1 _ hB1.symm
     have hF := M.cont_inr' hF gx8
     have hF := M.ret_some hF
     subst hF
     have H22 := H20.empty cd24
     have H23 : Hold h h11 [own cd24 none 0 0 []] := H22.pk [0]
     exact Run_ret2 rfl (Zt (.slice none 0 0)) (Zt (.int .i64 3)) ⟨none, 0, rfl, (HB1.transN H23 rfl)⟩
    ·have hB1 := (M.ite_some hB1).2 hb3
     refine Run_skip ?_
     refine Run_ops ?_
     refine Zr [.slice a7 s1.length c6, .slice a10 x11.length c9] 0 ?_
     obtain ⟨x13, hx12, hB1⟩ := M.bind_some hB1
     refine Ze ?_
     refine ZC 49 #[.slice a10 x11.length c9] (w_spec_l01Own h11 x11 a10 c9 (r2.at H20.ext) _ _ hx12) (fun v7 h13 hp7 => ?_)
     obtain ⟨a11, c10, rfl, H24⟩ := hp7
     have H25 : Hold h h13 [own cd2 a11 x13.length c10 x13, own cd24 a7 s1.length c6 s1] := H20.call H24 rfl
     refine Ze ?_
     refine E_lit1 (ey := 24) (n := x13.length) H25 (fun w => by kernel_rfl) rfl (fun a12 h14 H26 => ?_)
     obtain ⟨l1, hl1, hB1⟩ := M.bind_some hB1
     have hl1 := M.app_some hl1
     have H27 : Hold h h14 [own cd24 a7 s1.length c6 s1, own cd24 a12 1 1 [x13]] := H26.pk [1, 0]
     have H28 : Hold h h14 [own cd24 a12 1 1 [x13], own cd24 a7 s1.length c6 s1] := H27.pk [1, 0]
     have H29 : Hold h h14 [own cd24 a7 s1.length c6 s1, own cd24 a12 1 1 [x13]] := H28.pk [1, 0]
     refine Ze ?_
     refine E_app (C := cd24) (t := 22) (ty := 22) (n := s1.length) (m := 1) H29 cd24_ti rfl Tryz.underlying22 (by decide) (by kernel_rfl) hl1 (fun a13 c11 h15 H30 => ?_)
     refine Zr [.slice a13 l1.length c11] 5 ?_
     refine Zx ?_
     refine Zk [11, 12, 13, 14] [(11, .slice a4 x6.length c4), (12, .slice a5 x7.length c5), (13, .slice a13 l1.length c11), (14, .int .i64 i1)] ?_
     refine Run_blk ?_
     refine Zg 3 [(11, .slice a4 x6.length c4), (12, .slice a5 x7.length c5), (13, .slice a13 l1.length c11), (14, .int .i64 (i1 + 1))] ?_ ?_
     ·refine Zb [.int .i64 i1] 0 ?_
      refine Zy (.int .i64 (i1 + 1)) (Y_eq (v := .int .i64 (w64 (i1 + 1))) (Y_pure (fun w => by kernel_rfl)) (by rw [w64_eq _ (by omega)])) ?_
      refine Zb [.int .i64 (i1 + 1)] 2 ?_
      exact Zd [11, 12, 13, 14]
     have hB1 := M.ret_some hB1
     have gx8 := hgoy1 _ hB1.symm
     exact Za [11, 12, 13, 14] my1 ⟨i1 + 1, l1, a13, c11, by omega, gx8, rfl, H30⟩
   ·have gx8 := M.for_end gx8 hb2
    subst gx8
    refine Run_exit (k' := _) rfl ?_
    exact Zf [13] ⟨s1, a7, c6, rfl, rfl, H20⟩

theorem w_laws_likeInts (h : Heap) (a_ : List Int) {Sa_ : Bs} (aa_ : Option Addr) (ca_ : Nat) (ra_ : Rd cd2 h Sa_ aa_ ca_ a_) (b : List Int) {Sb : Bs} (ab : Option Addr) (cb : Nat) (rb : Rd cd2 h Sb ab cb b) (n : Nat) (r : Bool) (hF : laws_likeInts a_ b n = some r) :
  Fn Tryz.prog 25 #[.slice aa_ a_.length ca_, .slice ab b.length cb] h fun v h' => v = .bool r ∧ h' = h := by
 unfold laws_likeInts at hF
 refine Zo [.slice aa_ a_.length ca_, .slice ab b.length cb] Tryz.func25 rfl (fun w0 _ => ?_)
 refine Zs ?_
 refine Zq [.bool false] [0, 1] [(0, .slice aa_ a_.length ca_), (1, .slice ab b.length cb)] ?_
 refine Zs ?_
 refine Zs ?_
 refine Zq [.slice aa_ a_.length ca_, .int .i64 (a_.length : Int), .slice ab b.length cb, .int .i64 (b.length : Int), .bool ((a_.length : Int) != (b.length : Int))] [0, 1, 10] [(0, .slice aa_ a_.length ca_), (1, .slice ab b.length cb), (10, .bool ((a_.length : Int) != (b.length : Int)))] ?_
 refine Zc ((a_.length : Int) != (b.length : Int)) (fun hb1 => ?_) (fun hb1 => ?_)
 ·have hF := (M.ite_some hF).1 hb1
  refine Zs ?_
  refine Zq [.bool false] [4] [(4, .bool false)] ?_
  have hF := M.ret_some hF
  subst hF
  exact Run_ret1 rfl (Zt (.bool false)) ⟨rfl, rfl⟩
 ·have hF := (M.ite_some hF).2 hb1
  refine Run_skip ?_
  refine Zs ?_
  refine Zs ?_
  refine Zq [.int .i64 0] [0, 1, 5] [(0, .slice aa_ a_.length ca_), (1, .slice ab b.length cb), (5, .int .i64 0)] ?_
  obtain ⟨x1, gx1, hF⟩ := M.bind_some hF
  obtain ⟨hloy1, hhiy1, gx1⟩ := M.for_start gx1
  refine Run_join (fun L' h' => ∃ (s2 : Unit), x1 = .inl s2 ∧ L' = [] ∧ h = h') ?_ ?_
  ·rintro _ _ ⟨s2, es2, rfl, rfl⟩
   have hF := M.cont_inl' hF es2
   refine Zs ?_
   refine Zq [.bool true] [4] [(4, .bool true)] ?_
   have hF := M.ret_some hF
   subst hF
   exact Run_ret1 rfl (Zt (.bool true)) ⟨rfl, rfl⟩
  ·refine Run_block ?_
   refine Zk [0, 1, 5] [(0, .slice aa_ a_.length ca_), (1, .slice ab b.length cb), (5, .int .i64 0)] ?_
   refine Run_loop (fun m L' h' => ∃ (i1 : Int) (s1 : Unit), 0 ≤ i1 ∧ M.forN (a_.length : Int) _ _ n m i1 s1 = some x1 ∧ L' = [(0, .slice aa_ a_.length ca_), (1, .slice ab b.length cb), (5, .int .i64 i1)] ∧ h = h') ((a_.length : Int) - 0 : Int).toNat ⟨0, (), Int.le_refl _, gx1, rfl, rfl⟩ ?_
   rintro my1 _ _ ⟨i1, s1, hloy1', gx1, rfl, rfl⟩
   refine Zs ?_
   refine Zs ?_
   refine Zq [.int .i64 i1, .slice aa_ a_.length ca_, .int .i64 (a_.length : Int), .bool (decide (i1 < (a_.length : Int)))] [0, 1, 5, 14] [(0, .slice aa_ a_.length ca_), (1, .slice ab b.length cb), (5, .int .i64 i1), (14, .bool (decide (i1 < (a_.length : Int))))] ?_
   refine Zc (decide (i1 < (a_.length : Int))) (fun hb2 => ?_) (fun hb2 => ?_)
   ·obtain ⟨my1, y1, rfl, hB1, hgoy1, houty1⟩ := M.for_go gx1 hb2
    have hlty1 := of_decide_eq_true hb2
    refine Run_skip ?_
    refine Zs ?_
    refine Run_block ?_
    refine Zs ?_
    obtain ⟨x2, hx1, hB1⟩ := M.bind_some hB1
    obtain ⟨hx1l, hx1u, hx1⟩ := M.idx_some hx1
    obtain ⟨x3, hx2, hB1⟩ := M.bind_some hB1
    obtain ⟨hx2l, hx2u, hx2⟩ := M.idx_some hx2
    refine Run_draw 9 mixed (by kernel_rfl) (by kernel_rfl) (L' := [(0, .slice aa_ a_.length ca_), (1, .slice ab b.length cb), (5, .int .i64 i1), (25, .bool (x2 != x3))]) ?_ ?_
    ·refine Zb [.slice aa_ a_.length ca_, .int .i64 i1] 0 ?_
     refine Zy (.pointer (some (adr aa_ (i1.toNat * 1)))) (Zi 24 2 1 (aa_) (a_.length) (ca_) .i64 (i1) Tryz.underlying24 (ra_.cell hx1).1 hx1l hx1u) ?_
     refine Zy (.int .i64 x2) (Zl 2 (adr aa_ (i1.toNat * 1)) (.int .i64 x2) (cd2_cell ra_ hx1)) ?_
     refine Zb [.slice ab b.length cb, .int .i64 i1] 4 ?_
     refine Zy (.pointer (some (adr ab (i1.toNat * 1)))) (Zi 24 2 1 (ab) (b.length) (cb) .i64 (i1) Tryz.underlying24 (rb.cell hx2).1 hx2l hx2u) ?_
     refine Zy (.int .i64 x3) (Zl 2 (adr ab (i1.toNat * 1)) (.int .i64 x3) (cd2_cell rb hx2)) ?_
     refine Zb [.bool (x2 != x3)] 8 ?_
     exact Zd [0, 1, 5, 25]
    refine Zc (x2 != x3) (fun hb3 => ?_) (fun hb3 => ?_)
    ·have hB1 := (M.ite_some hB1).1 hb3
     refine Zs ?_
     refine Zq [.bool false] [4] [(4, .bool false)] ?_
     have hB1 := M.ret_some hB1
     have gx1 := houty1 _ hB1.symm
     have hF := M.cont_inr' hF gx1
     have hF := M.ret_some hF
     subst hF
     exact Run_ret1 rfl (Zt (.bool false)) ⟨rfl, rfl⟩
    ·have hB1 := (M.ite_some hB1).2 hb3
     refine Run_skip ?_
     refine Run_blk ?_
     refine Zg 3 [(0, .slice aa_ a_.length ca_), (1, .slice ab b.length cb), (5, .int .i64 (i1 + 1))] ?_ ?_
     ·refine Zb [.int .i64 i1] 0 ?_
      refine Zy (.int .i64 (i1 + 1)) (Y_eq (v := .int .i64 (w64 (i1 + 1))) (Y_pure (fun w => by kernel_rfl)) (by rw [w64_eq _ (by omega)])) ?_
      refine Zb [.int .i64 (i1 + 1)] 2 ?_
      exact Zd [0, 1, 5]
     have hB1 := M.ret_some hB1
     have gx1 := hgoy1 _ hB1.symm
     exact Za [0, 1, 5] my1 ⟨i1 + 1, (), by omega, gx1, rfl, rfl⟩
   ·have gx1 := M.for_end gx1 hb2
    subst gx1
    refine Run_exit (k' := _) rfl ?_
    exact Zf [] ⟨(), rfl, rfl, rfl⟩

theorem w_laws_likeTables9 (h : Heap) (a_ : List (List Int)) {Sa_ : Bs} (aa_ : Option Addr) (ca_ : Nat) (ra_ : Rd cd24 h Sa_ aa_ ca_ a_) (b : List (List Int)) {Sb : Bs} (ab : Option Addr) (cb : Nat) (rb : Rd cd24 h Sb ab cb b) (n : Nat) (r : Bool) (hF : laws_likeTables9 a_ b n = some r) :
  Fn Tryz.prog 24 #[.slice aa_ a_.length ca_, .slice ab b.length cb] h fun v h' => v = .bool r ∧ h' = h := by
 unfold laws_likeTables9 at hF
 refine Zo [.slice aa_ a_.length ca_, .slice ab b.length cb] Tryz.func24 rfl (fun w0 _ => ?_)
 refine Zs ?_
 refine Zq [.bool false] [0, 1] [(0, .slice aa_ a_.length ca_), (1, .slice ab b.length cb)] ?_
 refine Zs ?_
 refine Zs ?_
 refine Zq [.slice aa_ a_.length ca_, .int .i64 (a_.length : Int), .slice ab b.length cb, .int .i64 (b.length : Int), .bool ((a_.length : Int) != (b.length : Int))] [0, 1, 10] [(0, .slice aa_ a_.length ca_), (1, .slice ab b.length cb), (10, .bool ((a_.length : Int) != (b.length : Int)))] ?_
 refine Zc ((a_.length : Int) != (b.length : Int)) (fun hb1 => ?_) (fun hb1 => ?_)
 ·have hF := (M.ite_some hF).1 hb1
  refine Zs ?_
  refine Zq [.bool false] [4] [(4, .bool false)] ?_
  have hF := M.ret_some hF
  subst hF
  exact Run_ret1 rfl (Zt (.bool false)) ⟨rfl, rfl⟩
 ·have hF := (M.ite_some hF).2 hb1
  refine Run_skip ?_
  refine Zs ?_
  refine Zs ?_
  refine Zq [.int .i64 0] [0, 1, 5] [(0, .slice aa_ a_.length ca_), (1, .slice ab b.length cb), (5, .int .i64 0)] ?_
  obtain ⟨x1, gx1, hF⟩ := M.bind_some hF
  obtain ⟨hloy1, hhiy1, gx1⟩ := M.for_start gx1
  refine Run_join (fun L' h' => ∃ (s2 : Unit), x1 = .inl s2 ∧ L' = [] ∧ h = h') ?_ ?_
  ·rintro _ _ ⟨s2, es2, rfl, rfl⟩
   have hF := M.cont_inl' hF es2
   refine Zs ?_
   refine Zq [.bool true] [4] [(4, .bool true)] ?_
   have hF := M.ret_some hF
   subst hF
   exact Run_ret1 rfl (Zt (.bool true)) ⟨rfl, rfl⟩
  ·refine Run_block ?_
   refine Zk [0, 1, 5] [(0, .slice aa_ a_.length ca_), (1, .slice ab b.length cb), (5, .int .i64 0)] ?_
   refine Run_loop (fun m L' h' => ∃ (i1 : Int) (s1 : Unit), 0 ≤ i1 ∧ M.forN (a_.length : Int) _ _ n m i1 s1 = some x1 ∧ L' = [(0, .slice aa_ a_.length ca_), (1, .slice ab b.length cb), (5, .int .i64 i1)] ∧ h = h') ((a_.length : Int) - 0 : Int).toNat ⟨0, (), Int.le_refl _, gx1, rfl, rfl⟩ ?_
   rintro my1 _ _ ⟨i1, s1, hloy1', gx1, rfl, rfl⟩
   refine Zs ?_
   refine Zs ?_
   refine Zq [.int .i64 i1, .slice aa_ a_.length ca_, .int .i64 (a_.length : Int), .bool (decide (i1 < (a_.length : Int)))] [0, 1, 5, 14] [(0, .slice aa_ a_.length ca_), (1, .slice ab b.length cb), (5, .int .i64 i1), (14, .bool (decide (i1 < (a_.length : Int))))] ?_
   refine Zc (decide (i1 < (a_.length : Int))) (fun hb2 => ?_) (fun hb2 => ?_)
   ·obtain ⟨my1, y1, rfl, hB1, hgoy1, houty1⟩ := M.for_go gx1 hb2
    have hlty1 := of_decide_eq_true hb2
    refine Run_skip ?_
    refine Zs ?_
    refine Run_block ?_
    refine Zs ?_
    obtain ⟨x2, hx1, hB1⟩ := M.bind_some hB1
    obtain ⟨hx1l, hx1u, hx1⟩ := M.idx_some hx1
    obtain ⟨a1, c1, hc1, r1⟩ := ra_.row hx1
    obtain ⟨x3, hx2, hB1⟩ := M.bind_some hB1
    obtain ⟨hx2l, hx2u, hx2⟩ := M.idx_some hx2
    obtain ⟨a2, c2, hc2, r2⟩ := rb.row hx2
    obtain ⟨x4, hx3, hB1⟩ := M.bind_some hB1
    refine Run_draw 10 mixed (by kernel_rfl) (by kernel_rfl) (L' := [(0, .slice aa_ a_.length ca_), (1, .slice ab b.length cb), (5, .int .i64 i1), (26, .bool (!x4))]) ?_ ?_
    ·refine Zb [.slice aa_ a_.length ca_, .int .i64 i1] 0 ?_
     refine Zy (.pointer (some (adr aa_ (i1.toNat * 1)))) (Zi 22 24 1 (aa_) (a_.length) (ca_) .i64 (i1) Tryz.underlying22 (ra_.cell hx1).1 hx1l hx1u) ?_
     refine Zy (.slice a1 x2.length c1) (Zl 24 (adr aa_ (i1.toNat * 1)) (.slice a1 x2.length c1) hc1) ?_
     refine Zb [.slice ab b.length cb, .int .i64 i1] 4 ?_
     refine Zy (.pointer (some (adr ab (i1.toNat * 1)))) (Zi 22 24 1 (ab) (b.length) (cb) .i64 (i1) Tryz.underlying22 (rb.cell hx2).1 hx2l hx2u) ?_
     refine Zy (.slice a2 x3.length c2) (Zl 24 (adr ab (i1.toNat * 1)) (.slice a2 x3.length c2) hc2) ?_
     refine Zy (.bool x4) (ZQ 25 #[.slice a1 x2.length c1, .slice a2 x3.length c2] (w_laws_likeInts h x2 a1 c1 r1 x3 a2 c2 r2 _ _ hx3)) ?_
     refine Zb [.bool (!x4)] 9 ?_
     exact Zd [0, 1, 5, 26]
    refine Zc (!x4) (fun hb3 => ?_) (fun hb3 => ?_)
    ·have hB1 := (M.ite_some hB1).1 hb3
     refine Zs ?_
     refine Zq [.bool false] [4] [(4, .bool false)] ?_
     have hB1 := M.ret_some hB1
     have gx1 := houty1 _ hB1.symm
     have hF := M.cont_inr' hF gx1
     have hF := M.ret_some hF
     subst hF
     exact Run_ret1 rfl (Zt (.bool false)) ⟨rfl, rfl⟩
    ·have hB1 := (M.ite_some hB1).2 hb3
     refine Run_skip ?_
     refine Run_blk ?_
     refine Zg 3 [(0, .slice aa_ a_.length ca_), (1, .slice ab b.length cb), (5, .int .i64 (i1 + 1))] ?_ ?_
     ·refine Zb [.int .i64 i1] 0 ?_
      refine Zy (.int .i64 (i1 + 1)) (Y_eq (v := .int .i64 (w64 (i1 + 1))) (Y_pure (fun w => by kernel_rfl)) (by rw [w64_eq _ (by omega)])) ?_
      refine Zb [.int .i64 (i1 + 1)] 2 ?_
      exact Zd [0, 1, 5]
     have hB1 := M.ret_some hB1
     have gx1 := hgoy1 _ hB1.symm
     exact Za [0, 1, 5] my1 ⟨i1 + 1, (), by omega, gx1, rfl, rfl⟩
   ·have gx1 := M.for_end gx1 hb2
    subst gx1
    refine Run_exit (k' := _) rfl ?_
    exact Zf [] ⟨(), rfl, rfl, rfl⟩

theorem w_impl_CriticalComponents (h : Heap) (a_ : List (List Int)) (aa_ : Option Addr) (ca_ : Nat) (ra_ : Rd cd24 h (Lt h) aa_ ca_ a_) (n : Nat) (r : (List (List Int)) × Int) (hF : impl_CriticalComponents a_ n = some r) :
  Fn Tryz.prog 31 #[.slice aa_ a_.length ca_] h fun v h' => ∃ (a0 : Option Addr) (c0 : Nat), v = .tuple #[.slice a0 r.1.length c0, .int .i64 r.2] ∧ Rd cd24 h' (Lt h') a0 c0 r.1 ∧ Hold h h' [] := by
 unfold impl_CriticalComponents at hF
 refine Zo [.slice aa_ a_.length ca_] Tryz.func31 rfl (fun w0 _ => ?_)
 have H0 := Hold.init h
 refine Zs ?_
 refine Zq [.slice none 0 0, .int .i64 0] [0] [(0, .slice aa_ a_.length ca_)] ?_
 refine Zs ?_
 refine Run_ops ?_
 refine Zr [.slice aa_ a_.length ca_] 0 ?_
 obtain ⟨x1, hx1, hF⟩ := M.bind_some hF
 refine Ze ?_
 refine ZC 38 #[.slice aa_ a_.length ca_] (w_impl_criticalOf h a_ aa_ ca_ ra_ _ _ hx1) (fun v1 h1 hp1 => ?_)
 obtain ⟨a1, c1, rfl, H1⟩ := hp1
 have H2 : Hold h h1 [own cd24 a1 x1.1.length c1 x1.1] := H0.call H1 rfl
 refine Zr [.tuple #[.slice a1 x1.1.length c1, .int .i64 x1.2], .slice a1 x1.1.length c1, .int .i64 x1.2, .slice a1 x1.1.length c1, .int .i64 x1.2] 2 ?_
 refine Zx ?_
 refine Zk [4, 5] [(4, .slice a1 x1.1.length c1), (5, .int .i64 x1.2)] ?_
 refine Zs ?_
 refine Zs ?_
 refine Zq [.int .i64 x1.2, .bool (x1.2 != 0)] [4, 5, 12] [(4, .slice a1 x1.1.length c1), (5, .int .i64 x1.2), (12, .bool (x1.2 != 0))] ?_
 refine Zc (x1.2 != 0) (fun hb1 => ?_) (fun hb1 => ?_)
 ·have hF := (M.ite_some hF).1 hb1
  refine Zs ?_
  refine Zq [.int .i64 x1.2, .slice none 0 0, .int .i64 x1.2] [2, 3] [(2, .slice none 0 0), (3, .int .i64 x1.2)] ?_
  have hF := M.ret_some hF
  subst hF
  have H3 : Hold h h1 [] := H2.pk []
  exact Run_ret2 rfl (Zt (.slice none 0 0)) (Zt (.int .i64 x1.2)) ⟨none, 0, rfl, (Rd.nil _ _ _ _ _), H3⟩
 ·have hF := (M.ite_some hF).2 hb1
  refine Run_skip ?_
  refine Zs ?_
  refine Run_ops ?_
  refine Zr [.slice a1 x1.1.length c1] 0 ?_
  obtain ⟨x2, hx2, hF⟩ := M.bind_some hF
  refine Ze ?_
  refine ZC 40 #[.slice a1 x1.1.length c1] (w_impl_criticalComponents h1 x1.1 a1 c1 (H2.rd 0 rfl) _ _ hx2) (fun v2 h2 hp2 => ?_)
  obtain ⟨a2, c2, rfl, rV2, H4⟩ := hp2
  have H5 : Hold h h2 [own cd24 a1 x1.1.length c1 x1.1] := H2.call H4 rfl
  refine Zr [.slice a2 x2.length c2, .int .i64 0] 2 ?_
  refine Zx ?_
  refine Zk [2, 3] [(2, .slice a2 x2.length c2), (3, .int .i64 0)] ?_
  have hF := M.ret_some hF
  subst hF
  have rV3 := rV2
  have H6 : Hold h h2 [] := H5.pk []
  exact Run_ret2 rfl (Zt (.slice a2 x2.length c2)) (Zt (.int .i64 0)) ⟨a2, c2, rfl, rV3, H6⟩

theorem w_impl_IsRatio (h : Heap) (r_ : TRatio) (n : Nat) (r : Bool) (hF : impl_IsRatio r_ n = some r) :
  Fn Tryz.prog 106 #[.agg #[.int .i64 r_.Num, .int .i64 r_.Den]] h fun v h' => v = .bool r ∧ Hold h h' [] := by
 unfold impl_IsRatio at hF
 refine Zo [.agg #[.int .i64 r_.Num, .int .i64 r_.Den]] Tryz.func106 rfl (fun w0 _ => ?_)
 have H0 := Hold.init h
 refine Zs ?_
 refine Run_ops ?_
 refine Ze ?_
 refine E_box (ty := 44) (cs := [.int .i64 r_.Num, .int .i64 r_.Den]) H0 (fun w => by kernel_rfl) (fun b1 h1 H1 => ?_)
 refine Zr [.bool false] 1 ?_
 refine Zx ?_
 refine Zk [1] [(1, pV b1)] ?_
 refine Zs ?_
 obtain ⟨x1, hx1, hF⟩ := M.bind_some hF
 obtain ⟨x2, gx2, hF⟩ := M.bind_some hF
 obtain ⟨x4, gx4, hF⟩ := M.bind_some hF
 refine Run_draw 18 mixed (by kernel_rfl) (by kernel_rfl) (L' := [(2, .bool x4)]) ?_ ?_
 ·refine Zb [pV b1] 0 ?_
  refine Zy (.int .i64 r_.Num) (Zl 2 (⟨b1, 0, none⟩) (.int .i64 r_.Num) (H1.cell 0 rfl rfl)) ?_
  refine Zy (.bool x1) (ZQ 145 #[.int .i64 r_.Num] (w_impl_isFinite h1 r_.Num _ _ hx1)) ?_
  refine QRun_seq 8 [(1, pV b1), (10, .bool x2)] ?_ ?_
  ·rcases Bool.eq_false_or_eq_true x1 with hb1 | hb1
   ·refine Zv x1 true hb1 ?_
    have gx2 := (M.ite_some gx2).1 hb1
    obtain ⟨x3, hx2, gx2⟩ := M.bind_some gx2
    have gx2 := M.ret_some gx2
    refine Zb [.pointer (some ⟨b1, 1, none⟩)] 4 ?_
    refine Zy (.int .i64 r_.Den) (Zl 2 (⟨b1, 1, none⟩) (.int .i64 r_.Den) (H1.cell 0 rfl rfl)) ?_
    refine Zy (.bool x3) (ZQ 128 #[.int .i64 r_.Den, .int .i64 1, .int .i64 1000000] (w_impl_within h1 r_.Den 1 1000000 _ _ hx2)) ?_
    refine Zv x3 x2 gx2 ?_
    exact Zd [1, 10]
   ·refine Zv x1 false hb1 ?_
    have gx2 := M.ret_some ((M.ite_some gx2).2 hb1)
    refine Zn ?_
    refine Zn ?_
    refine Zn ?_
    refine Zv false x2 gx2 ?_
    exact Zd [1, 10]
  refine QRun_seq 17 [(19, .bool x4)] ?_ ?_
  ·rcases Bool.eq_false_or_eq_true x2 with hb2 | hb2
   ·refine Zv x2 true hb2 ?_
    have gx4 := (M.ite_some gx4).1 hb2
    obtain ⟨x5, hx3, gx4⟩ := M.bind_some gx4
    obtain ⟨x6, hx4, gx4⟩ := M.bind_some gx4
    have gx4 := M.ret_some gx4
    refine Zb [pV b1] 9 ?_
    refine Zy (.int .i64 r_.Num) (Zl 2 (⟨b1, 0, none⟩) (.int .i64 r_.Num) (H1.cell 0 rfl rfl)) ?_
    refine Zy (.int .i64 x5) (ZQ 90 #[.int .i64 r_.Num] (w_impl_absOf h1 r_.Num _ _ hx3)) ?_
    refine Zb [.pointer (some ⟨b1, 1, none⟩)] 12 ?_
    refine Zy (.int .i64 r_.Den) (Zl 2 (⟨b1, 1, none⟩) (.int .i64 r_.Den) (H1.cell 0 rfl rfl)) ?_
    refine Zy (.int .i64 x6) (ZQ 89 #[.int .i64 x5, .int .i64 r_.Den] (w_impl_divisorOf h1 x5 r_.Den _ _ hx4)) ?_
    refine Zb [.bool (x6 == 1)] 15 ?_
    refine Zv (x6 == 1) x4 gx4 ?_
    exact Zd [19]
   ·refine Zv x2 false hb2 ?_
    have gx4 := M.ret_some ((M.ite_some gx4).2 hb2)
    refine Zn ?_
    refine Zn ?_
    refine Zn ?_
    refine Zn ?_
    refine Zn ?_
    refine Zn ?_
    refine Zn ?_
    refine Zv false x4 gx4 ?_
    exact Zd [19]
  refine Zb [.bool x4] 17 ?_
  exact Zd [2]
 have hF := M.ret_some hF
 subst hF
 have H2 : Hold h h1 [] := H1.pk []
 exact Run_ret1 rfl (Zt (.bool x4)) ⟨rfl, H2⟩

theorem w_impl_checkedRatio (h : Heap) (r_ : TRatio) (n : Nat) (r : TRatio × Int) (hF : impl_checkedRatio r_ n = some r) :
  Fn Tryz.prog 63 #[.agg #[.int .i64 r_.Num, .int .i64 r_.Den]] h fun v h' => v = .tuple #[.agg #[.int .i64 r.1.Num, .int .i64 r.1.Den], .int .i64 r.2] ∧ Hold h h' [] := by
 unfold impl_checkedRatio at hF
 refine Zo [.agg #[.int .i64 r_.Num, .int .i64 r_.Den]] Tryz.func63 rfl (fun w0 _ => ?_)
 have H0 := Hold.init h
 refine Zs ?_
 refine Run_ops ?_
 refine Ze ?_
 refine E_box (ty := 44) (cs := [.int .i64 r_.Num, .int .i64 r_.Den]) H0 (fun w => by kernel_rfl) (fun b1 h1 H1 => ?_)
 refine Ze ?_
 refine E_box (ty := 44) (cs := [.int .i64 0, .int .i64 0]) H1 (fun w => by kernel_rfl) (fun b2 h2 H2 => ?_)
 refine Zr [.int .i64 0] 2 ?_
 refine Zx ?_
 refine Zk [1, 2] [(1, pV b1), (2, pV b2)] ?_
 refine Zs ?_
 refine Zs ?_
 obtain ⟨x1, hx1, hF⟩ := M.bind_some hF
 refine Run_regC (j := 3) (C := fun x => Hold h x [box b2 44 [.int .i64 0, .int .i64 0], box b1 44 [.int .i64 r_.Num, .int .i64 r_.Den]]) (by kernel_rfl) H2 (L' := [(1, pV b1), (2, pV b2), (6, .bool (!x1))]) ?_ (fun h3 H3 => ?_)
 ·refine Zy (.agg #[.int .i64 r_.Num, .int .i64 r_.Den]) (Y_cls fun hx Hx => (Y_loadA (t := 44) (n := 2) (p := ⟨b1, 0, none⟩) (cs := [.int .i64 r_.Num, .int .i64 r_.Den]) (by kernel_rfl) (fun w => by kernel_rfl) (by kernel_rfl) rfl (Hx.cells (n := 2) (off := 0) 1 rfl rfl))) ?_
  refine Zy (.bool x1) (Y_call (f := 106) (args := #[.agg #[.int .i64 r_.Num, .int .i64 r_.Den]]) (v := .bool x1) (by kernel_rfl) fun hx Hx => (w_impl_IsRatio hx r_ _ _ hx1).mono fun _ _ ⟨e, H'⟩ => ⟨e, Hx.call H' rfl⟩) ?_
  refine Zb [.bool (!x1)] 2 ?_
  exact Zd [1, 2, 6]
 have H4 : Hold h h3 [box b2 44 [.int .i64 0, .int .i64 0], box b1 44 [.int .i64 r_.Num, .int .i64 r_.Den]] := H3
 refine Zc (!x1) (fun hb1 => ?_) (fun hb1 => ?_)
 ·have hF := (M.ite_some hF).1 hb1
  refine Zs ?_
  refine Run_ops ?_
  refine Zr [.agg #[.int .i64 0, .int .i64 0]] 0 ?_
  refine Ze ?_
  refine ZP 44 0 [.int .i64 0, .int .i64 0] (.agg #[.int .i64 0, .int .i64 0]) H4 (fun h4 H5 => ?_)
  refine Zr [.int .i64 3] 2 ?_
  refine Zx ?_
  refine Zk [2, 3] [(2, pV b2), (3, .int .i64 3)] ?_
  have hF := M.ret_some hF
  subst hF
  have H6 : Hold h h4 [] := H5.pk []
  exact Run_ret2 rfl (ResV_cell (n := 2) (cs := [.int .i64 0, .int .i64 0]) (by kernel_rfl) (fun w => by kernel_rfl) (by kernel_rfl) rfl (H5.cells (n := 2) (off := 0) 0 rfl rfl)) (Zt (.int .i64 3)) ⟨rfl, H6⟩
 ·have hF := (M.ite_some hF).2 hb1
  refine Run_skip ?_
  refine Zs ?_
  refine Run_ops ?_
  refine Zz (.agg #[.int .i64 r_.Num, .int .i64 r_.Den]) (Y_loadA (t := 44) (n := 2) (p := ⟨b1, 0, none⟩) (cs := [.int .i64 r_.Num, .int .i64 r_.Den]) (by kernel_rfl) (fun w => by kernel_rfl) (by kernel_rfl) rfl (H4.cells (n := 2) (off := 0) 1 rfl rfl)) ?_
  refine Ze ?_
  refine ZP 44 0 [.int .i64 r_.Num, .int .i64 r_.Den] (.agg #[.int .i64 r_.Num, .int .i64 r_.Den]) H4 (fun h5 H7 => ?_)
  refine Zr [.int .i64 0] 2 ?_
  refine Zx ?_
  refine Zk [2, 3] [(2, pV b2), (3, .int .i64 0)] ?_
  have hF := M.ret_some hF
  subst hF
  have H8 : Hold h h5 [] := H7.pk []
  exact Run_ret2 rfl (ResV_cell (n := 2) (cs := [.int .i64 r_.Num, .int .i64 r_.Den]) (by kernel_rfl) (fun w => by kernel_rfl) (by kernel_rfl) rfl (H7.cells (n := 2) (off := 0) 0 rfl rfl)) (Zt (.int .i64 0)) ⟨rfl, H8⟩

theorem w_impl_CycleMean (h : Heap) (a_ : List (List Int)) (aa_ : Option Addr) (ca_ : Nat) (ra_ : Rd cd24 h (Lt h) aa_ ca_ a_) (n : Nat) (r : TRatio × Int) (hF : impl_CycleMean a_ n = some r) :
  Fn Tryz.prog 32 #[.slice aa_ a_.length ca_] h fun v h' => v = .tuple #[.agg #[.int .i64 r.1.Num, .int .i64 r.1.Den], .int .i64 r.2] ∧ Hold h h' [] := by
 unfold impl_CycleMean at hF
 refine Zo [.slice aa_ a_.length ca_] Tryz.func32 rfl (fun w0 _ => ?_)
 have H0 := Hold.init h
 refine Zs ?_
 refine Run_ops ?_
 refine Ze ?_
 refine E_box (ty := 44) (cs := [.int .i64 0, .int .i64 0]) H0 (fun w => by kernel_rfl) (fun b1 h1 H1 => ?_)
 refine Zr [.int .i64 0] 1 ?_
 refine Zx ?_
 refine Zk [0, 2] [(0, .slice aa_ a_.length ca_), (2, pV b1)] ?_
 refine Zs ?_
 refine Zs ?_
 obtain ⟨x1, hx1, hF⟩ := M.bind_some hF
 refine Run_regC (j := 3) (C := fun x => Hold h x [box b1 44 [.int .i64 0, .int .i64 0]]) (by kernel_rfl) H1 (L' := [(0, .slice aa_ a_.length ca_), (2, pV b1), (8, .bool (!x1))]) ?_ (fun h2 H2 => ?_)
 ·refine Zb [.slice aa_ a_.length ca_] 0 ?_
  refine Zy (.bool x1) (Y_call (f := 50) (args := #[.slice aa_ a_.length ca_]) (v := .bool x1) (by kernel_rfl) fun hx Hx => (w_impl_isSquare hx a_ aa_ ca_ (ra_.at Hx.ext) _ _ hx1).mono fun _ _ ⟨e, H'⟩ => ⟨e, Hx.call H' rfl⟩) ?_
  refine Zb [.bool (!x1)] 2 ?_
  exact Zd [0, 2, 8]
 have H3 : Hold h h2 [box b1 44 [.int .i64 0, .int .i64 0]] := H2
 refine Zc (!x1) (fun hb1 => ?_) (fun hb1 => ?_)
 ·have hF := (M.ite_some hF).1 hb1
  refine Zs ?_
  refine Run_ops ?_
  refine Zr [.agg #[.int .i64 0, .int .i64 0]] 0 ?_
  refine Ze ?_
  refine ZP 44 0 [.int .i64 0, .int .i64 0] (.agg #[.int .i64 0, .int .i64 0]) H3 (fun h3 H4 => ?_)
  refine Zr [.int .i64 1] 2 ?_
  refine Zx ?_
  refine Zk [2, 3] [(2, pV b1), (3, .int .i64 1)] ?_
  have hF := M.ret_some hF
  subst hF
  have H5 : Hold h h3 [] := H4.pk []
  exact Run_ret2 rfl (ResV_cell (n := 2) (cs := [.int .i64 0, .int .i64 0]) (by kernel_rfl) (fun w => by kernel_rfl) (by kernel_rfl) rfl (H4.cells (n := 2) (off := 0) 0 rfl rfl)) (Zt (.int .i64 1)) ⟨rfl, H5⟩
 ·have hF := (M.ite_some hF).2 hb1
  refine Run_skip ?_
  refine Zs ?_
  refine Run_ops ?_
  refine Zr [.slice aa_ a_.length ca_] 0 ?_
  obtain ⟨x2, hx2, hF⟩ := M.bind_some hF
  refine Ze ?_
  refine ZC 51 #[.slice aa_ a_.length ca_] (w_impl_cycleMean h2 a_ aa_ ca_ (ra_.at H3.ext) _ _ hx2) (fun v1 h4 hp1 => ?_)
  obtain ⟨rfl, H6⟩ := hp1
  have H7 : Hold h h4 [box b1 44 [.int .i64 0, .int .i64 0]] := H3.call H6 rfl
  refine Zr [.tuple #[.agg #[.int .i64 x2.1.Num, .int .i64 x2.1.Den], .bool x2.2], .agg #[.int .i64 x2.1.Num, .int .i64 x2.1.Den], .bool x2.2] 2 ?_
  refine Ze ?_
  refine E_box (ty := 44) (cs := [.int .i64 0, .int .i64 0]) H7 (fun w => by kernel_rfl) (fun b2 h5 H8 => ?_)
  refine Ze ?_
  refine ZP 44 0 [.int .i64 x2.1.Num, .int .i64 x2.1.Den] (.agg #[.int .i64 x2.1.Num, .int .i64 x2.1.Den]) H8 (fun h6 H9 => ?_)
  refine Zr [.bool x2.2] 7 ?_
  refine Zx ?_
  refine Zk [2, 4, 5] [(2, pV b1), (4, pV b2), (5, .bool x2.2)] ?_
  refine Zs ?_
  refine Zs ?_
  refine Zq [.bool x2.2, .bool (!x2.2)] [2, 4, 16] [(2, pV b1), (4, pV b2), (16, .bool (!x2.2))] ?_
  refine Zc (!x2.2) (fun hb2 => ?_) (fun hb2 => ?_)
  ·have hF := (M.ite_some hF).1 hb2
   refine Zs ?_
   refine Run_ops ?_
   refine Zr [.agg #[.int .i64 0, .int .i64 0]] 0 ?_
   have H11 : Hold h h6 [box b1 44 [.int .i64 0, .int .i64 0], box b2 44 [.int .i64 x2.1.Num, .int .i64 x2.1.Den]] := H9.pk [1, 0]
   refine Ze ?_
   refine ZP 44 0 [.int .i64 0, .int .i64 0] (.agg #[.int .i64 0, .int .i64 0]) H11 (fun h7 H10 => ?_)
   refine Zr [.int .i64 4] 2 ?_
   refine Zx ?_
   refine Zk [2, 3] [(2, pV b1), (3, .int .i64 4)] ?_
   have hF := M.ret_some hF
   subst hF
   have H12 : Hold h h7 [] := H10.pk []
   exact Run_ret2 rfl (ResV_cell (n := 2) (cs := [.int .i64 0, .int .i64 0]) (by kernel_rfl) (fun w => by kernel_rfl) (by kernel_rfl) rfl (H10.cells (n := 2) (off := 0) 0 rfl rfl)) (Zt (.int .i64 4)) ⟨rfl, H12⟩
  ·have hF := (M.ite_some hF).2 hb2
   refine Run_skip ?_
   refine Zs ?_
   refine Run_ops ?_
   refine Zz (.agg #[.int .i64 x2.1.Num, .int .i64 x2.1.Den]) (Y_loadA (t := 44) (n := 2) (p := ⟨b2, 0, none⟩) (cs := [.int .i64 x2.1.Num, .int .i64 x2.1.Den]) (by kernel_rfl) (fun w => by kernel_rfl) (by kernel_rfl) rfl (H9.cells (n := 2) (off := 0) 0 rfl rfl)) ?_
   obtain ⟨x3, hx3, hF⟩ := M.bind_some hF
   refine Ze ?_
   refine ZC 63 #[.agg #[.int .i64 x2.1.Num, .int .i64 x2.1.Den]] (w_impl_checkedRatio h6 x2.1 _ _ hx3) (fun v2 h8 hp2 => ?_)
   obtain ⟨rfl, H13⟩ := hp2
   have H14 : Hold h h8 [box b2 44 [.int .i64 x2.1.Num, .int .i64 x2.1.Den], box b1 44 [.int .i64 0, .int .i64 0]] := H9.call H13 rfl
   refine Zr [.agg #[.int .i64 x3.1.Num, .int .i64 x3.1.Den], .int .i64 x3.2] 2 ?_
   have H16 : Hold h h8 [box b1 44 [.int .i64 0, .int .i64 0], box b2 44 [.int .i64 x2.1.Num, .int .i64 x2.1.Den]] := H14.pk [1, 0]
   refine Ze ?_
   refine ZP 44 0 [.int .i64 x3.1.Num, .int .i64 x3.1.Den] (.agg #[.int .i64 x3.1.Num, .int .i64 x3.1.Den]) H16 (fun h9 H15 => ?_)
   refine Zr [.int .i64 x3.2] 5 ?_
   refine Zx ?_
   refine Zk [2, 3] [(2, pV b1), (3, .int .i64 x3.2)] ?_
   have hF := M.ret_some hF
   subst hF
   have H17 : Hold h h9 [] := H15.pk []
   exact Run_ret2 rfl (ResV_cell (n := 2) (cs := [.int .i64 x3.1.Num, .int .i64 x3.1.Den]) (by kernel_rfl) (fun w => by kernel_rfl) (by kernel_rfl) rfl (H15.cells (n := 2) (off := 0) 0 rfl rfl)) (Zt (.int .i64 x3.2)) ⟨rfl, H17⟩

theorem w_impl_isVector (h : Heap) (x_ : List Int) {Sx_ : Bs} (ax_ : Option Addr) (cx_ : Nat) (rx_ : Rd cd2 h Sx_ ax_ cx_ x_) (n : Nat) (r : Bool) (hF : impl_isVector x_ n = some r) :
  Fn Tryz.prog 107 #[.slice ax_ x_.length cx_] h fun v h' => v = .bool r ∧ h' = h := by
 unfold impl_isVector at hF
 refine Zo [.slice ax_ x_.length cx_] Tryz.func107 rfl (fun w0 _ => ?_)
 refine Zs ?_
 refine Zq [.bool false] [0] [(0, .slice ax_ x_.length cx_)] ?_
 refine Zs ?_
 obtain ⟨x1, hx1, hF⟩ := M.bind_some hF
 obtain ⟨x2, gx2, hF⟩ := M.bind_some hF
 refine Zg 8 [(2, .bool x2)] ?_ ?_
 ·refine Zb [.slice ax_ x_.length cx_, .int .i64 (x_.length : Int)] 0 ?_
  refine Zy (.bool x1) (ZQ 128 #[.int .i64 (x_.length : Int), .int .i64 1, .int .i64 10] (w_impl_within h (x_.length : Int) 1 10 _ _ hx1)) ?_
  refine QRun_seq 7 [(9, .bool x2)] ?_ ?_
  ·rcases Bool.eq_false_or_eq_true x1 with hb1 | hb1
   ·refine Zv x1 true hb1 ?_
    have gx2 := (M.ite_some gx2).1 hb1
    obtain ⟨x3, hx2, gx2⟩ := M.bind_some gx2
    have gx2 := M.ret_some gx2
    refine Zb [.slice ax_ x_.length cx_] 4 ?_
    refine Zy (.bool x3) (ZQ 98 #[.slice ax_ x_.length cx_] (w_impl_areValues h x_ ax_ cx_ rx_ _ _ hx2)) ?_
    refine Zv x3 x2 gx2 ?_
    exact Zd [9]
   ·refine Zv x1 false hb1 ?_
    have gx2 := M.ret_some ((M.ite_some gx2).2 hb1)
    refine Zn ?_
    refine Zn ?_
    refine Zv false x2 gx2 ?_
    exact Zd [9]
  refine Zb [.bool x2] 7 ?_
  exact Zd [2]
 have hF := M.ret_some hF
 subst hF
 exact Run_ret1 rfl (Zt (.bool x2)) ⟨rfl, rfl⟩

theorem w_impl_sumOf (h : Heap) (list : List Int) {Slist : Bs} (alist : Option Addr) (clist : Nat) (rlist : Rd cd2 h Slist alist clist list) (n : Nat) (r : Int) (hF : impl_sumOf list n = some r) :
  Fn Tryz.prog 108 #[.slice alist list.length clist] h fun v h' => v = .int .i64 r ∧ h' = h := by
 unfold impl_sumOf at hF
 refine Zo [.slice alist list.length clist] Tryz.func108 rfl (fun w0 _ => ?_)
 refine Zs ?_
 refine Zq [.int .i64 0] [0] [(0, .slice alist list.length clist)] ?_
 refine Zs ?_
 refine Zq [.int .i64 (-1000000000000000)] [0, 3] [(0, .slice alist list.length clist), (3, .int .i64 (-1000000000000000))] ?_
 refine Zs ?_
 refine Zs ?_
 refine Zq [.slice alist list.length clist, .int .i64 (list.length : Int), .int .i64 0] [3, 6, 7, 8] [(3, .int .i64 (-1000000000000000)), (6, .slice alist list.length clist), (7, .int .i64 (list.length : Int)), (8, .int .i64 0)] ?_
 obtain ⟨x1, gx1, hF⟩ := M.bind_some hF
 obtain ⟨hloy1, hhiy1, gx1⟩ := M.for_start gx1
 refine Run_join (fun L' h' => L' = [(3, .int .i64 x1)] ∧ h = h') ?_ ?_
 ·rintro _ _ ⟨rfl, rfl⟩
  refine Zs ?_
  refine Zq [.int .i64 x1, .int .i64 x1] [2] [(2, .int .i64 x1)] ?_
  have hF := M.ret_some hF
  subst hF
  exact Run_ret1 rfl (Zt (.int .i64 x1)) ⟨rfl, rfl⟩
 ·refine Run_block ?_
  refine Zk [3, 6, 7, 8] [(3, .int .i64 (-1000000000000000)), (6, .slice alist list.length clist), (7, .int .i64 (list.length : Int)), (8, .int .i64 0)] ?_
  refine Run_loop (fun m L' h' => ∃ (i1 : Int) (s1 : Int), 0 ≤ i1 ∧ M.forN (list.length : Int) _ _ n m i1 s1 = some x1 ∧ L' = [(3, .int .i64 s1), (6, .slice alist list.length clist), (7, .int .i64 (list.length : Int)), (8, .int .i64 i1)] ∧ h = h') ((list.length : Int) - 0 : Int).toNat ⟨0, (-1000000000000000), Int.le_refl _, gx1, rfl, rfl⟩ ?_
  rintro my1 _ _ ⟨i1, s1, hloy1', gx1, rfl, rfl⟩
  refine Zs ?_
  refine Zq [.bool (decide (i1 < (list.length : Int)))] [3, 6, 7, 8, 9] [(3, .int .i64 s1), (6, .slice alist list.length clist), (7, .int .i64 (list.length : Int)), (8, .int .i64 i1), (9, .bool (decide (i1 < (list.length : Int))))] ?_
  refine Zs ?_
  refine Zc (decide (i1 < (list.length : Int))) (fun hb1 => ?_) (fun hb1 => ?_)
  ·obtain ⟨my1, y1, rfl, hB1, hgoy1, houty1⟩ := M.for_go gx1 hb1
   have hlty1 := of_decide_eq_true hb1
   refine Run_skip ?_
   refine Zs ?_
   refine Run_block ?_
   refine Zs ?_
   obtain ⟨x2, hx1, hB1⟩ := M.bind_some hB1
   obtain ⟨hx1l, hx1u, hx1⟩ := M.idx_some hx1
   refine Zg 3 [(3, .int .i64 s1), (5, .int .i64 x2), (6, .slice alist list.length clist), (7, .int .i64 (list.length : Int)), (8, .int .i64 i1)] ?_ ?_
   ·refine Zy (.pointer (some (adr alist (i1.toNat * 1)))) (Zi 24 2 1 (alist) (list.length) (clist) .i64 (i1) Tryz.underlying24 (rlist.cell hx1).1 hx1l hx1u) ?_
    refine Zy (.int .i64 x2) (Zl 2 (adr alist (i1.toNat * 1)) (.int .i64 x2) (cd2_cell rlist hx1)) ?_
    refine Zb [.int .i64 x2] 2 ?_
    exact Zd [3, 5, 6, 7, 8]
   refine Zq [.int .i64 s1, .int .i64 x2, .int .i64 (mx s1 x2), .int .i64 (mx s1 x2)] [3, 6, 7, 8] [(3, .int .i64 (mx s1 x2)), (6, .slice alist list.length clist), (7, .int .i64 (list.length : Int)), (8, .int .i64 i1)] ?_
   refine Run_blk ?_
   refine Zg 2 [(3, .int .i64 (mx s1 x2)), (6, .slice alist list.length clist), (7, .int .i64 (list.length : Int)), (8, .int .i64 (i1 + 1))] ?_ ?_
   ·refine Zy (.int .i64 (i1 + 1)) (Y_eq (v := .int .i64 (w64 (i1 + 1))) (Y_pure (fun w => by kernel_rfl)) (by rw [w64_eq _ (by omega)])) ?_
    refine Zb [.int .i64 (i1 + 1)] 1 ?_
    exact Zd [3, 6, 7, 8]
   have hB1 := M.ret_some hB1
   have gx1 := hgoy1 _ hB1.symm
   exact Za [3, 6, 7, 8] my1 ⟨i1 + 1, (mx s1 x2), by omega, gx1, rfl, rfl⟩
  ·have gx1 := M.for_end gx1 hb1
   subst gx1
   refine Run_exit (k' := _) rfl ?_
   exact Zf [3] ⟨rfl, rfl⟩

theorem w_impl_isEigenAsked (h : Heap) (a_ : List (List Int)) (aa_ : Option Addr) (ca_ : Nat) (ra_ : Rd cd24 h (Lt h) aa_ ca_ a_) (r_ : TRatio) (x_ : List Int) (ax_ : Option Addr) (cx_ : Nat) (rx_ : Rd cd2 h (Lt h) ax_ cx_ x_) (n : Nat) (r : Bool) (hF : impl_isEigenAsked a_ r_ x_ n = some r) :
  Fn Tryz.prog 64 #[.slice aa_ a_.length ca_, .agg #[.int .i64 r_.Num, .int .i64 r_.Den], .slice ax_ x_.length cx_] h fun v h' => v = .bool r ∧ Hold h h' [] := by
 unfold impl_isEigenAsked at hF
 refine Zo [.slice aa_ a_.length ca_, .agg #[.int .i64 r_.Num, .int .i64 r_.Den], .slice ax_ x_.length cx_] Tryz.func64 rfl (fun w0 _ => ?_)
 have H0 := Hold.init h
 refine Zs ?_
 refine Run_ops ?_
 refine Ze ?_
 refine E_box (ty := 44) (cs := [.int .i64 r_.Num, .int .i64 r_.Den]) H0 (fun w => by kernel_rfl) (fun b1 h1 H1 => ?_)
 refine Zr [.bool false] 1 ?_
 refine Zx ?_
 refine Zk [0, 2, 4] [(0, .slice aa_ a_.length ca_), (2, .slice ax_ x_.length cx_), (4, pV b1)] ?_
 refine Zs ?_
 obtain ⟨x1, hx1, hF⟩ := M.bind_some hF
 obtain ⟨x2, gx2, hF⟩ := M.bind_some hF
 obtain ⟨x4, gx4, hF⟩ := M.bind_some hF
 obtain ⟨x7, gx7, hF⟩ := M.bind_some hF
 refine Run_regC (j := 23) (C := fun x => Hold h x [box b1 44 [.int .i64 r_.Num, .int .i64 r_.Den]]) (by kernel_rfl) H1 (L' := [(6, .bool x7)]) ?_ (fun h2 H2 => ?_)
 ·refine Zb [.slice aa_ a_.length ca_] 0 ?_
  refine Zy (.bool x1) (Y_call (f := 50) (args := #[.slice aa_ a_.length ca_]) (v := .bool x1) (by kernel_rfl) fun hx Hx => (w_impl_isSquare hx a_ aa_ ca_ (ra_.at Hx.ext) _ _ hx1).mono fun _ _ ⟨e, H'⟩ => ⟨e, Hx.call H' rfl⟩) ?_
  refine QRun_seq 6 [(0, .slice aa_ a_.length ca_), (2, .slice ax_ x_.length cx_), (12, .bool x2)] ?_ ?_
  ·rcases Bool.eq_false_or_eq_true x1 with hb1 | hb1
   ·refine Zv x1 true hb1 ?_
    have gx2 := (M.ite_some gx2).1 hb1
    obtain ⟨x3, hx2, gx2⟩ := M.bind_some gx2
    have gx2 := M.ret_some gx2
    refine Zy (.agg #[.int .i64 r_.Num, .int .i64 r_.Den]) (Y_cls fun hx Hx => (Y_loadA (t := 44) (n := 2) (p := ⟨b1, 0, none⟩) (cs := [.int .i64 r_.Num, .int .i64 r_.Den]) (by kernel_rfl) (fun w => by kernel_rfl) (by kernel_rfl) rfl (Hx.cells (n := 2) (off := 0) 0 rfl rfl))) ?_
    refine Zy (.bool x3) (Y_call (f := 106) (args := #[.agg #[.int .i64 r_.Num, .int .i64 r_.Den]]) (v := .bool x3) (by kernel_rfl) fun hx Hx => (w_impl_IsRatio hx r_ _ _ hx2).mono fun _ _ ⟨e, H'⟩ => ⟨e, Hx.call H' rfl⟩) ?_
    refine Zv x3 x2 gx2 ?_
    exact Zd [0, 2, 12]
   ·refine Zv x1 false hb1 ?_
    have gx2 := M.ret_some ((M.ite_some gx2).2 hb1)
    refine Zn ?_
    refine Zn ?_
    refine Zv false x2 gx2 ?_
    exact Zd [0, 2, 12]
  refine QRun_seq 10 [(0, .slice aa_ a_.length ca_), (2, .slice ax_ x_.length cx_), (16, .bool x4)] ?_ ?_
  ·rcases Bool.eq_false_or_eq_true x2 with hb2 | hb2
   ·refine Zv x2 true hb2 ?_
    have gx4 := (M.ite_some gx4).1 hb2
    obtain ⟨x5, hx3, gx4⟩ := M.bind_some gx4
    have gx4 := M.ret_some gx4
    refine Zb [.slice ax_ x_.length cx_] 7 ?_
    refine Zy (.bool x5) (Y_cls fun hx Hx => (ZQ 107 #[.slice ax_ x_.length cx_] (w_impl_isVector hx x_ ax_ cx_ (rx_.at Hx.ext) _ _ hx3))) ?_
    refine Zv x5 x4 gx4 ?_
    exact Zd [0, 2, 16]
   ·refine Zv x2 false hb2 ?_
    have gx4 := M.ret_some ((M.ite_some gx4).2 hb2)
    refine Zn ?_
    refine Zn ?_
    refine Zv false x4 gx4 ?_
    exact Zd [0, 2, 16]
  refine QRun_seq 17 [(2, .slice ax_ x_.length cx_), (23, .bool (x4 && ((x_.length : Int) == (a_.length : Int))))] ?_ ?_
  ·rcases Bool.eq_false_or_eq_true x4 with hb3 | hb3
   ·refine Zv x4 true hb3 ?_
    refine Zb [.slice ax_ x_.length cx_, .int .i64 (x_.length : Int), .slice aa_ a_.length ca_, .int .i64 (a_.length : Int), .bool ((x_.length : Int) == (a_.length : Int))] 11 ?_
    refine QRun_bool ((x_.length : Int) == (a_.length : Int)) (x4 && ((x_.length : Int) == (a_.length : Int))) (by kernel_rfl) (fun w => by kernel_rfl) (by rw [hb3]; rfl) ?_
    exact Zd [2, 23]
   ·refine Zv x4 false hb3 ?_
    refine Zn ?_
    refine Zn ?_
    refine Zn ?_
    refine Zn ?_
    refine Zn ?_
    refine QRun_bool false (x4 && ((x_.length : Int) == (a_.length : Int))) (by kernel_rfl) (fun w => by kernel_rfl) (by rw [hb3]; rfl) ?_
    exact Zd [2, 23]
  refine QRun_seq 22 [(28, .bool x7)] ?_ ?_
  ·rcases Bool.eq_false_or_eq_true (x4 && ((x_.length : Int) == (a_.length : Int))) with hb4 | hb4
   ·refine Zv (x4 && ((x_.length : Int) == (a_.length : Int))) true hb4 ?_
    have gx7 := (M.ite_some gx7).1 hb4
    obtain ⟨x8, hx4, gx7⟩ := M.bind_some gx7
    have gx7 := M.ret_some gx7
    refine Zb [.slice ax_ x_.length cx_] 18 ?_
    refine Zy (.int .i64 x8) (Y_cls fun hx Hx => (ZQ 108 #[.slice ax_ x_.length cx_] (w_impl_sumOf hx x_ ax_ cx_ (rx_.at Hx.ext) _ _ hx4))) ?_
    refine Zb [.bool (x8 != (-1000000000000000))] 20 ?_
    refine Zv (x8 != (-1000000000000000)) x7 gx7 ?_
    exact Zd [28]
   ·refine Zv (x4 && ((x_.length : Int) == (a_.length : Int))) false hb4 ?_
    have gx7 := M.ret_some ((M.ite_some gx7).2 hb4)
    refine Zn ?_
    refine Zn ?_
    refine Zn ?_
    refine Zv false x7 gx7 ?_
    exact Zd [28]
  refine Zb [.bool x7] 22 ?_
  exact Zd [6]
 have H3 : Hold h h2 [box b1 44 [.int .i64 r_.Num, .int .i64 r_.Den]] := H2
 have hF := M.ret_some hF
 subst hF
 have H4 : Hold h h2 [] := H3.pk []
 exact Run_ret1 rfl (Zt (.bool x7)) ⟨rfl, H4⟩

theorem w_impl_stretched_1 (h : Heap) (i : Int) (j : Int) (z0 : List (List Int)) {Sz0 : Bs} (az0 : Option Addr) (cz0 : Nat) (rz0 : Rd cd24 h Sz0 az0 cz0 z0) (bz0 : Nat) (vz0 : VarAt h bz0 22 [.slice az0 z0.length cz0]) (z1 : Int) (bz1 : Nat) (vz1 : VarAt h bz1 2 [.int .i64 z1]) (n : Nat) (r : Int) (hF : impl_stretched_1 i j z0 z1 n = some r) :
  Fn Tryz.prog 110 #[.int .i64 i, .int .i64 j, pV bz0, pV bz1] h fun v h' => v = .int .i64 r ∧ h' = h := by
 unfold impl_stretched_1 at hF
 refine Zo [.int .i64 i, .int .i64 j, pV bz0, pV bz1] Tryz.func110 rfl (fun w0 _ => ?_)
 refine Zs ?_
 refine Zq [.int .i64 0] [0, 1, 2, 3] [(0, .int .i64 i), (1, .int .i64 j), (2, pV bz0), (3, pV bz1)] ?_
 refine Zs ?_
 refine Zs ?_
 obtain ⟨x1, hx1, hF⟩ := M.bind_some hF
 obtain ⟨hx1l, hx1u, hx1⟩ := M.idx_some hx1
 obtain ⟨a1, c1, hc1, r1⟩ := rz0.row hx1
 obtain ⟨x2, hx2, hF⟩ := M.bind_some hF
 obtain ⟨hx2l, hx2u, hx2⟩ := M.idx_some hx2
 refine Zg 8 [(0, .int .i64 i), (1, .int .i64 j), (2, pV bz0), (3, pV bz1), (14, .bool (x2 == (-1000000000000000)))] ?_ ?_
 ·refine Zy (.slice az0 z0.length cz0) (Zl 22 (⟨bz0, 0, none⟩) (.slice az0 z0.length cz0) (VarAt.cell vz0 rfl)) ?_
  refine Zb [.int .i64 i] 1 ?_
  refine Zy (.pointer (some (adr az0 (i.toNat * 1)))) (Zi 22 24 1 (az0) (z0.length) (cz0) .i64 (i) Tryz.underlying22 (rz0.cell hx1).1 hx1l hx1u) ?_
  refine Zy (.slice a1 x1.length c1) (Zl 24 (adr az0 (i.toNat * 1)) (.slice a1 x1.length c1) hc1) ?_
  refine Zb [.int .i64 j] 4 ?_
  refine Zy (.pointer (some (adr a1 (j.toNat * 1)))) (Zi 24 2 1 (a1) (x1.length) (c1) .i64 (j) Tryz.underlying24 (r1.cell hx2).1 hx2l hx2u) ?_
  refine Zy (.int .i64 x2) (Zl 2 (adr a1 (j.toNat * 1)) (.int .i64 x2) (cd2_cell r1 hx2)) ?_
  refine Zb [.bool (x2 == (-1000000000000000))] 7 ?_
  exact Zd [0, 1, 2, 3, 14]
 refine Zc (x2 == (-1000000000000000)) (fun hb1 => ?_) (fun hb1 => ?_)
 ·have hF := (M.ite_some hF).1 hb1
  refine Zs ?_
  refine Zq [.int .i64 (-1000000000000000)] [6] [(6, .int .i64 (-1000000000000000))] ?_
  have hF := M.ret_some hF
  subst hF
  exact Run_ret1 rfl (Zt (.int .i64 (-1000000000000000))) ⟨rfl, rfl⟩
 ·have hF := (M.ite_some hF).2 hb1
  refine Run_skip ?_
  refine Zs ?_
  obtain ⟨x3, hx3, hF⟩ := M.bind_some hF
  obtain ⟨hx3l, hx3u, hx3⟩ := M.idx_some hx3
  obtain ⟨a2, c2, hc2, r2⟩ := rz0.row hx3
  obtain ⟨x4, hx4, hF⟩ := M.bind_some hF
  obtain ⟨hx4l, hx4u, hx4⟩ := M.idx_some hx4
  refine Run_draw 10 mixed (by kernel_rfl) (by kernel_rfl) (L' := [(6, .int .i64 (w64 (z1 * x4)))]) ?_ ?_
  ·refine Zy (.int .i64 z1) (Zl 2 (⟨bz1, 0, none⟩) (.int .i64 z1) (VarAt.cell vz1 rfl)) ?_
   refine Zy (.slice az0 z0.length cz0) (Zl 22 (⟨bz0, 0, none⟩) (.slice az0 z0.length cz0) (VarAt.cell vz0 rfl)) ?_
   refine Zb [.int .i64 i] 2 ?_
   refine Zy (.pointer (some (adr az0 (i.toNat * 1)))) (Zi 22 24 1 (az0) (z0.length) (cz0) .i64 (i) Tryz.underlying22 (rz0.cell hx3).1 hx3l hx3u) ?_
   refine Zy (.slice a2 x3.length c2) (Zl 24 (adr az0 (i.toNat * 1)) (.slice a2 x3.length c2) hc2) ?_
   refine Zb [.int .i64 j] 5 ?_
   refine Zy (.pointer (some (adr a2 (j.toNat * 1)))) (Zi 24 2 1 (a2) (x3.length) (c2) .i64 (j) Tryz.underlying24 (r2.cell hx4).1 hx4l hx4u) ?_
   refine Zy (.int .i64 x4) (Zl 2 (adr a2 (j.toNat * 1)) (.int .i64 x4) (cd2_cell r2 hx4)) ?_
   refine Zb [.int .i64 (w64 (z1 * x4)), .int .i64 (w64 (z1 * x4))] 8 ?_
   exact Zd [6]
  have hF := M.ret_some hF
  subst hF
  exact Run_ret1 rfl (Zt (.int .i64 (w64 (z1 * x4)))) ⟨rfl, rfl⟩

theorem w_impl_matrixBy_F_impl_stretched_1 (h : Heap) (m_ : Int) (n_ : Int) (entry0 : List (List Int)) (aentry0 : Option Addr) (centry0 : Nat) (rentry0 : Rd cd24 h (Lt h) aentry0 centry0 entry0) (bentry0 : Nat) (ventry0 : VarAt h bentry0 22 [.slice aentry0 entry0.length centry0]) (entry1 : Int) (bentry1 : Nat) (ventry1 : VarAt h bentry1 2 [.int .i64 entry1]) (n : Nat) (r : (List (List Int))) (hF : impl_matrixBy_F_impl_stretched_1 m_ n_ entry0 entry1 n = some r) :
  Fn Tryz.prog 109 #[.int .i64 m_, .int .i64 n_, .func (.func 110) #[] #[pV bentry0, pV bentry1]] h fun v h' => ∃ (a0 : Option Addr) (c0 : Nat), v = .slice a0 r.length c0 ∧ Hold h h' [own cd24 a0 r.length c0 r] := by
 unfold impl_matrixBy_F_impl_stretched_1 at hF
 refine Zo [.int .i64 m_, .int .i64 n_, .func (.func 110) #[] #[pV bentry0, pV bentry1]] Tryz.func109 rfl (fun w0 _ => ?_)
 have H0 := Hold.init h
 refine Zs ?_
 refine Zq [.slice none 0 0] [0, 1, 2] [(0, .int .i64 m_), (1, .int .i64 n_), (2, .func (.func 110) #[] #[pV bentry0, pV bentry1])] ?_
 refine Zs ?_
 refine Run_ops ?_
 refine Zr [.int .i64 m_] 0 ?_
 obtain ⟨l1, hl1, hF⟩ := M.bind_some hF
 have hl1 := M.make_some hl1
 refine Ze ?_
 refine E_make cd24 [] (kl := .i64) (kc := .i64) H0 cd24_ti Tryz.underlying22 (by decide) cd24_zero (by kernel_rfl) hl1 (fun a1 h1 H1 => ?_)
 refine Zr [.slice a1 l1.length l1.length] 2 ?_
 refine Zx ?_
 refine Zk [1, 2, 7] [(1, .int .i64 n_), (2, .func (.func 110) #[] #[pV bentry0, pV bentry1]), (7, .slice a1 l1.length l1.length)] ?_
 refine Zs ?_
 refine Zs ?_
 refine Zq [.slice a1 l1.length l1.length, .int .i64 (l1.length : Int), .int .i64 0] [1, 2, 7, 13, 14] [(1, .int .i64 n_), (2, .func (.func 110) #[] #[pV bentry0, pV bentry1]), (7, .slice a1 l1.length l1.length), (13, .int .i64 (l1.length : Int)), (14, .int .i64 0)] ?_
 obtain ⟨x1, gx1, hF⟩ := M.bind_some hF
 obtain ⟨hloy1, hhiy1, gx1⟩ := M.for_start gx1
 refine Run_join (fun L' h' => L' = [(7, .slice a1 l1.length l1.length)] ∧ Hold h h' [own cd24 a1 l1.length l1.length x1]) ?_ ?_
 ·rintro _ h3 ⟨rfl, H3⟩
  refine Zs ?_
  refine Zq [.slice a1 l1.length l1.length, .slice a1 l1.length l1.length] [6] [(6, .slice a1 l1.length l1.length)] ?_
  have hF := M.ret_some hF
  subst hF
  have H20 := H3.norm
  exact Run_ret1 rfl (Zt (.slice a1 l1.length l1.length)) ⟨a1, l1.length, (by simp only [(H3.len 0 rfl)]), H20⟩
 ·refine Run_block ?_
  refine Zk [1, 2, 7, 13, 14] [(1, .int .i64 n_), (2, .func (.func 110) #[] #[pV bentry0, pV bentry1]), (7, .slice a1 l1.length l1.length), (13, .int .i64 (l1.length : Int)), (14, .int .i64 0)] ?_
  refine Run_loop (fun m L' h' => ∃ (i1 : Int) (s1 : (List (List Int))), 0 ≤ i1 ∧ M.forN (l1.length : Int) _ _ n m i1 s1 = some x1 ∧ L' = [(1, .int .i64 n_), (2, .func (.func 110) #[] #[pV bentry0, pV bentry1]), (7, .slice a1 l1.length l1.length), (13, .int .i64 (l1.length : Int)), (14, .int .i64 i1)] ∧ Hold h h' [own cd24 a1 l1.length l1.length s1]) ((l1.length : Int) - 0 : Int).toNat ⟨0, l1, Int.le_refl _, gx1, rfl, H1⟩ ?_
  rintro my1 _ h2 ⟨i1, s1, hloy1', gx1, rfl, H2⟩
  refine Zs ?_
  refine Zq [.bool (decide (i1 < (l1.length : Int)))] [1, 2, 7, 13, 14, 15] [(1, .int .i64 n_), (2, .func (.func 110) #[] #[pV bentry0, pV bentry1]), (7, .slice a1 l1.length l1.length), (13, .int .i64 (l1.length : Int)), (14, .int .i64 i1), (15, .bool (decide (i1 < (l1.length : Int))))] ?_
  refine Zs ?_
  refine Zc (decide (i1 < (l1.length : Int))) (fun hb1 => ?_) (fun hb1 => ?_)
  ·obtain ⟨my1, y1, rfl, hB1, hgoy1, houty1⟩ := M.for_go gx1 hb1
   have hlty1 := of_decide_eq_true hb1
   refine Run_skip ?_
   refine Zs ?_
   refine Run_block ?_
   refine Zs ?_
   refine Zq [.int .i64 i1, .int .i64 i1] [1, 2, 7, 8, 13, 14] [(1, .int .i64 n_), (2, .func (.func 110) #[] #[pV bentry0, pV bentry1]), (7, .slice a1 l1.length l1.length), (8, .int .i64 i1), (13, .int .i64 (l1.length : Int)), (14, .int .i64 i1)] ?_
   refine Zs ?_
   refine Run_ops ?_
   refine Zr [.slice a1 l1.length l1.length, .int .i64 i1, .int .i64 n_] 0 ?_
   obtain ⟨l2, hl2, hB1⟩ := M.bind_some hB1
   have hl2 := M.make_some hl2
   refine Ze ?_
   refine E_make cd2 0 (kl := .i64) (kc := .i64) H2 cd2_ti Tryz.underlying24 (by decide) cd2_zero (by kernel_rfl) hl2 (fun a2 h4 H4 => ?_)
   obtain ⟨x2, hx1, hB1⟩ := M.bind_some hB1
   obtain ⟨hx1l, hx1u, hx1⟩ := M.idx_some hx1
   refine Zz (.pointer (some (adr a1 (i1.toNat * 1)))) (Zi 22 24 1 (a1) (l1.length) (l1.length) .i64 (i1) Tryz.underlying22 ((H4.rd 1 rfl).cell hx1).1 hx1l (by rw [← (H4.len 1 rfl)]; exact hx1u)) ?_
   obtain ⟨l3, hu1, hB1⟩ := M.bind_some hB1
   have hu1 := M.upd_some hu1
   have H6 : Hold h h4 [own cd24 a1 l1.length l1.length s1, own cd2 a2 l2.length l2.length l2] := H4.pk [1, 0]
   have H7 : Hold h h4 [own cd2 a2 l2.length l2.length l2, own cd24 a1 l1.length l1.length s1] := H6.pk [1, 0]
   have H8 : Hold h h4 [own cd24 a1 l1.length l1.length s1, own cd2 a2 l2.length l2.length l2] := H7.pk [1, 0]
   refine Ze ?_
   refine E_putRow (t := 24) (j := i1) H8 (by kernel_rfl) (by kernel_rfl) hu1 (fun h5 H5 => ?_)
   refine Zx ?_
   refine Zk [1, 2, 7, 8, 13, 14] [(1, .int .i64 n_), (2, .func (.func 110) #[] #[pV bentry0, pV bentry1]), (7, .slice a1 l1.length l1.length), (8, .int .i64 i1), (13, .int .i64 (l1.length : Int)), (14, .int .i64 i1)] ?_
   refine Zs ?_
   obtain ⟨x3, hx2, hB1⟩ := M.bind_some hB1
   obtain ⟨hx2l, hx2u, hx2⟩ := M.idx_some hx2
   have H9 := H5.toRows
   obtain ⟨a3, c1, H10⟩ := H9.pinRow hx2
   refine Zg 6 [(1, .int .i64 n_), (2, .func (.func 110) #[] #[pV bentry0, pV bentry1]), (7, .slice a1 l1.length l1.length), (8, .int .i64 i1), (13, .int .i64 (l1.length : Int)), (14, .int .i64 i1), (26, .int .i64 (x3.length : Int)), (27, .int .i64 0)] ?_ ?_
   ·refine Zb [.slice a1 l1.length l1.length, .int .i64 i1] 0 ?_
    refine Zy (.pointer (some (adr a1 (i1.toNat * 1)))) (Zi 22 24 1 (a1) (l1.length) (l1.length) .i64 (i1) Tryz.underlying22 ((H5.rd 0 rfl).cell hx2).1 hx2l (by rw [← (H5.len 0 rfl)]; exact hx2u)) ?_
    refine Zy (.slice a3 x3.length c1) (Zl 24 (adr a1 (i1.toNat * 1)) (.slice a3 x3.length c1) (H10.cellPin 0 rfl 0 rfl)) ?_
    refine Zb [.int .i64 (x3.length : Int), .int .i64 0] 4 ?_
    exact Zd [1, 2, 7, 8, 13, 14, 26, 27]
   obtain ⟨x4, gx4, hB1⟩ := M.bind_some hB1
   obtain ⟨hloy2, hhiy2, gx4⟩ := M.for_start gx4
   refine Run_join (fun L' h' => L' = [(1, .int .i64 n_), (2, .func (.func 110) #[] #[pV bentry0, pV bentry1]), (7, .slice a1 l1.length l1.length), (13, .int .i64 (l1.length : Int)), (14, .int .i64 i1)] ∧ Hold h h' [own cd24 a1 l1.length l1.length x4]) ?_ ?_
   ·rintro _ h7 ⟨rfl, H12⟩
    refine Run_blk ?_
    refine Zg 2 [(1, .int .i64 n_), (2, .func (.func 110) #[] #[pV bentry0, pV bentry1]), (7, .slice a1 l1.length l1.length), (13, .int .i64 (l1.length : Int)), (14, .int .i64 (i1 + 1))] ?_ ?_
    ·refine Zy (.int .i64 (i1 + 1)) (Y_eq (v := .int .i64 (w64 (i1 + 1))) (Y_pure (fun w => by kernel_rfl)) (by rw [w64_eq _ (by omega)])) ?_
     refine Zb [.int .i64 (i1 + 1)] 1 ?_
     exact Zd [1, 2, 7, 13, 14]
    have hB1 := M.ret_some hB1
    have gx1 := hgoy1 _ hB1.symm
    exact Za [1, 2, 7, 13, 14] my1 ⟨i1 + 1, x4, by omega, gx1, rfl, H12⟩
   ·refine Run_block ?_
    have H19 := H10.ofRows
    refine Zk [1, 2, 7, 8, 13, 14, 26, 27] [(1, .int .i64 n_), (2, .func (.func 110) #[] #[pV bentry0, pV bentry1]), (7, .slice a1 l1.length l1.length), (8, .int .i64 i1), (13, .int .i64 (l1.length : Int)), (14, .int .i64 i1), (26, .int .i64 (x3.length : Int)), (27, .int .i64 0)] ?_
    refine Run_loop (fun m L' h' => ∃ (i2 : Int) (s2 : (List (List Int))), 0 ≤ i2 ∧ M.forN (x3.length : Int) _ _ n m i2 s2 = some x4 ∧ L' = [(1, .int .i64 n_), (2, .func (.func 110) #[] #[pV bentry0, pV bentry1]), (7, .slice a1 l1.length l1.length), (8, .int .i64 i1), (13, .int .i64 (l1.length : Int)), (14, .int .i64 i1), (26, .int .i64 (x3.length : Int)), (27, .int .i64 i2)] ∧ Hold h h' [own cd24 a1 l1.length l1.length s2]) ((x3.length : Int) - 0 : Int).toNat ⟨0, l3, Int.le_refl _, gx4, rfl, H19⟩ ?_
    rintro my2 _ h6 ⟨i2, s2, hloy2', gx4, rfl, H11⟩
    refine Zs ?_
    refine Zq [.bool (decide (i2 < (x3.length : Int)))] [1, 2, 7, 8, 13, 14, 26, 27, 28] [(1, .int .i64 n_), (2, .func (.func 110) #[] #[pV bentry0, pV bentry1]), (7, .slice a1 l1.length l1.length), (8, .int .i64 i1), (13, .int .i64 (l1.length : Int)), (14, .int .i64 i1), (26, .int .i64 (x3.length : Int)), (27, .int .i64 i2), (28, .bool (decide (i2 < (x3.length : Int))))] ?_
    refine Zs ?_
    refine Zc (decide (i2 < (x3.length : Int))) (fun hb2 => ?_) (fun hb2 => ?_)
    ·obtain ⟨my2, y2, rfl, hB2, hgoy2, houty2⟩ := M.for_go gx4 hb2
     have hlty2 := of_decide_eq_true hb2
     refine Run_skip ?_
     refine Zs ?_
     refine Run_block ?_
     refine Zs ?_
     refine Zq [.int .i64 i2, .int .i64 i2] [1, 2, 7, 8, 9, 13, 14, 26, 27] [(1, .int .i64 n_), (2, .func (.func 110) #[] #[pV bentry0, pV bentry1]), (7, .slice a1 l1.length l1.length), (8, .int .i64 i1), (9, .int .i64 i2), (13, .int .i64 (l1.length : Int)), (14, .int .i64 i1), (26, .int .i64 (x3.length : Int)), (27, .int .i64 i2)] ?_
     obtain ⟨x5, hx3, hB2⟩ := M.bind_some hB2
     obtain ⟨hx3l, hx3u, hx3⟩ := M.idx_some hx3
     have H13 := H11.toRows
     obtain ⟨a4, c2, H14⟩ := H13.pinRow hx3
     obtain ⟨x6, hx4, hB2⟩ := M.bind_some hB2
     obtain ⟨x7, hx5, hB2⟩ := M.bind_some hB2
     obtain ⟨hx5l, hx5u, hx5⟩ := M.idx_some hx5
     refine Run_D (fun x => Hold h x [rowsP cd2 24 a1 l1.length l1.length s2 [(i1.toNat, a4, x5.length, c2, x5)]]) (fun x => Hold h x [rowsP cd2 24 a1 l1.length l1.length s2 [(i1.toNat, a4, x5.length, c2, x5)]]) mixed (by kernel_rfl) H14 Hold.stable (fun x Hy => (show Hold h x [rowsP cd2 24 a1 l1.length l1.length s2 [(i1.toNat, a4, x5.length, c2, x5)]] from Hy).pk [0]) ?_
     refine ZB 9 [.slice a1 l1.length l1.length, .int .i64 i1] 0 ?_
     refine ZY 8 2 (.pointer (some (adr a1 (i1.toNat * 1)))) (fun hx Hx => (YE.of (Zi 22 24 1 (a1) (l1.length) (l1.length) .i64 (i1) Tryz.underlying22 ((H11.rd 0 rfl).cell hx3).1 hx3l (by rw [← (H11.len 0 rfl)]; exact hx3u)))) ?_
     refine ZY 7 3 (.slice a4 x5.length c2) (fun hx Hx => (YE.of (Zl 24 (adr a1 (i1.toNat * 1)) (.slice a4 x5.length c2) (Hx.cellPin 0 rfl 0 rfl)))) ?_
     refine ZB 3 [.int .i64 i2, .func (.func 110) #[] #[pV bentry0, pV bentry1], .int .i64 i1, .int .i64 i2] 4 ?_
     refine ZY 2 8 (.int .i64 x6) (fun hx Hx => (YE.of (ZQ 110 #[.int .i64 i1, .int .i64 i2, pV bentry0, pV bentry1] (w_impl_stretched_1 hx i1 i2 entry0 aentry0 centry0 (rentry0.at Hx.ext) bentry0 (ventry0.at Hx.ext) entry1 bentry1 (ventry1.at Hx.ext) _ _ hx4)))) ?_
     refine ZY 1 9 (.pointer (some (adr a4 (i2.toNat * 1)))) (fun hx Hx => (YE.of (Zi 24 2 1 (a4) (x5.length) (c2) .i64 (i2) Tryz.underlying24 ((H14.rdPin 0 rfl 0 rfl).cell hx5).1 hx5l hx5u))) ?_
     refine ZT 10 (fun h8 H15 => ?_)
     have H16 : Hold h h8 [rowsP cd2 24 a1 l1.length l1.length s2 [(i1.toNat, a4, x5.length, c2, x5)]] := H15
     obtain ⟨l4, hu2, hB2⟩ := M.bind_some hB2
     have hu2 := M.upd_some hu2
     refine Ze ?_
     refine E_put2 (C := cd2) (t := 2) (sz := 1) (j := i2) (x := x6) (v := .int .i64 x6) (m2 := s2.set i1.toNat l4) H16 cd2_flat 0 rfl (by kernel_rfl) rfl (cd2_own _) (by kernel_rfl) hu2 rfl (fun h9 H17 => ?_)
     refine Zx ?_
     refine Zk [1, 2, 7, 8, 13, 14, 26, 27] [(1, .int .i64 n_), (2, .func (.func 110) #[] #[pV bentry0, pV bentry1]), (7, .slice a1 l1.length l1.length), (8, .int .i64 i1), (13, .int .i64 (l1.length : Int)), (14, .int .i64 i1), (26, .int .i64 (x3.length : Int)), (27, .int .i64 i2)] ?_
     refine Run_blk ?_
     refine Zg 2 [(1, .int .i64 n_), (2, .func (.func 110) #[] #[pV bentry0, pV bentry1]), (7, .slice a1 l1.length l1.length), (8, .int .i64 i1), (13, .int .i64 (l1.length : Int)), (14, .int .i64 i1), (26, .int .i64 (x3.length : Int)), (27, .int .i64 (i2 + 1))] ?_ ?_
     ·refine Zy (.int .i64 (i2 + 1)) (Y_eq (v := .int .i64 (w64 (i2 + 1))) (Y_pure (fun w => by kernel_rfl)) (by rw [w64_eq _ (by omega)])) ?_
      refine Zb [.int .i64 (i2 + 1)] 1 ?_
      exact Zd [1, 2, 7, 8, 13, 14, 26, 27]
     have H18 := H17.ofRows
     have hB2 := M.ret_some hB2
     have gx4 := hgoy2 _ hB2.symm
     exact Za [1, 2, 7, 8, 13, 14, 26, 27] my2 ⟨i2 + 1, (s2.set i1.toNat l4), by omega, gx4, rfl, H18⟩
    ·have gx4 := M.for_end gx4 hb2
     subst gx4
     refine Run_exit (k' := _) rfl ?_
     exact Zf [1, 2, 7, 13, 14] ⟨rfl, H11⟩
  ·have gx1 := M.for_end gx1 hb1
   subst gx1
   refine Run_exit (k' := _) rfl ?_
   exact Zf [7] ⟨rfl, H2⟩

theorem w_impl_stretched (h : Heap) (a_ : List (List Int)) (aa_ : Option Addr) (ca_ : Nat) (ra_ : Rd cd24 h (Lt h) aa_ ca_ a_) (n_ : Int) (n : Nat) (r : (List (List Int))) (hF : impl_stretched a_ n_ n = some r) :
  Fn Tryz.prog 66 #[.slice aa_ a_.length ca_, .int .i64 n_] h fun v h' => ∃ (a0 : Option Addr) (c0 : Nat), v = .slice a0 r.length c0 ∧ Hold h h' [own cd24 a0 r.length c0 r] := by
 unfold impl_stretched at hF
 refine Zo [.slice aa_ a_.length ca_, .int .i64 n_] Tryz.func66 rfl (fun w0 _ => ?_)
 have H0 := Hold.init h
 refine Zs ?_
 refine Run_ops ?_
 refine Ze ?_
 refine E_box (ty := 22) (cs := [.slice aa_ a_.length ca_]) H0 (fun w => by kernel_rfl) (fun b1 h1 H1 => ?_)
 refine Ze ?_
 refine E_box (ty := 2) (cs := [.int .i64 n_]) H1 (fun w => by kernel_rfl) (fun b2 h2 H2 => ?_)
 refine Zr [.slice none 0 0] 2 ?_
 refine Zx ?_
 refine Zk [2, 3] [(2, pV b1), (3, pV b2)] ?_
 refine Zs ?_
 refine Run_ops ?_
 refine Zz (.slice aa_ a_.length ca_) (Zl 22 (⟨b1, 0, none⟩) (.slice aa_ a_.length ca_) (H2.cell 1 rfl rfl)) ?_
 refine Zr [.int .i64 (a_.length : Int)] 1 ?_
 refine Zz (.slice aa_ a_.length ca_) (Zl 22 (⟨b1, 0, none⟩) (.slice aa_ a_.length ca_) (H2.cell 1 rfl rfl)) ?_
 refine Zr [.int .i64 (a_.length : Int), .func (.func 110) #[] #[pV b1, pV b2]] 3 ?_
 obtain ⟨x1, hx1, hF⟩ := M.bind_some hF
 refine Ze ?_
 refine ZC 109 #[.int .i64 (a_.length : Int), .int .i64 (a_.length : Int), .func (.func 110) #[] #[pV b1, pV b2]] (w_impl_matrixBy_F_impl_stretched_1 h2 (a_.length : Int) (a_.length : Int) a_ aa_ ca_ (ra_.at H2.ext) b1 (H2.var 1 rfl) n_ b2 (H2.var 0 rfl) _ _ hx1) (fun v1 h3 hp1 => ?_)
 obtain ⟨a1, c1, rfl, H3⟩ := hp1
 have H4 : Hold h h3 [own cd24 a1 x1.length c1 x1, box b2 2 [.int .i64 n_], box b1 22 [.slice aa_ a_.length ca_]] := H2.call H3 rfl
 refine Zr [.slice a1 x1.length c1] 6 ?_
 refine Zx ?_
 refine Zk [4] [(4, .slice a1 x1.length c1)] ?_
 have hF := M.ret_some hF
 subst hF
 have H5 : Hold h h3 [own cd24 a1 x1.length c1 x1] := H4.pk [0]
 exact Run_ret1 rfl (Zt (.slice a1 x1.length c1)) ⟨a1, c1, rfl, H5⟩

theorem w_impl_IsEigenVector (h : Heap) (a_ : List (List Int)) (aa_ : Option Addr) (ca_ : Nat) (ra_ : Rd cd24 h (Lt h) aa_ ca_ a_) (r_ : TRatio) (x_ : List Int) (ax_ : Option Addr) (cx_ : Nat) (rx_ : Rd cd2 h (Lt h) ax_ cx_ x_) (n : Nat) (r : Bool) (hF : impl_IsEigenVector a_ r_ x_ n = some r) :
  Fn Tryz.prog 33 #[.slice aa_ a_.length ca_, .agg #[.int .i64 r_.Num, .int .i64 r_.Den], .slice ax_ x_.length cx_] h fun v h' => v = .bool r ∧ Hold h h' [] := by
 unfold impl_IsEigenVector at hF
 refine Zo [.slice aa_ a_.length ca_, .agg #[.int .i64 r_.Num, .int .i64 r_.Den], .slice ax_ x_.length cx_] Tryz.func33 rfl (fun w0 _ => ?_)
 have H0 := Hold.init h
 refine Zs ?_
 refine Run_ops ?_
 refine Ze ?_
 refine E_box (ty := 44) (cs := [.int .i64 r_.Num, .int .i64 r_.Den]) H0 (fun w => by kernel_rfl) (fun b1 h1 H1 => ?_)
 refine Zr [.bool false] 1 ?_
 refine Zx ?_
 refine Zk [0, 2, 4] [(0, .slice aa_ a_.length ca_), (2, .slice ax_ x_.length cx_), (4, pV b1)] ?_
 refine Zs ?_
 refine Zs ?_
 obtain ⟨x1, hx1, hF⟩ := M.bind_some hF
 refine Run_regC (j := 5) (C := fun x => Hold h x [box b1 44 [.int .i64 r_.Num, .int .i64 r_.Den]]) (by kernel_rfl) H1 (L' := [(0, .slice aa_ a_.length ca_), (2, .slice ax_ x_.length cx_), (4, pV b1), (13, .bool (!x1))]) ?_ (fun h2 H2 => ?_)
 ·refine Zb [.slice aa_ a_.length ca_] 0 ?_
  refine Zy (.agg #[.int .i64 r_.Num, .int .i64 r_.Den]) (Y_cls fun hx Hx => (Y_loadA (t := 44) (n := 2) (p := ⟨b1, 0, none⟩) (cs := [.int .i64 r_.Num, .int .i64 r_.Den]) (by kernel_rfl) (fun w => by kernel_rfl) (by kernel_rfl) rfl (Hx.cells (n := 2) (off := 0) 0 rfl rfl))) ?_
  refine Zb [.slice ax_ x_.length cx_] 2 ?_
  refine Zy (.bool x1) (Y_call (f := 64) (args := #[.slice aa_ a_.length ca_, .agg #[.int .i64 r_.Num, .int .i64 r_.Den], .slice ax_ x_.length cx_]) (v := .bool x1) (by kernel_rfl) fun hx Hx => (w_impl_isEigenAsked hx a_ aa_ ca_ (ra_.at Hx.ext) r_ x_ ax_ cx_ (rx_.at Hx.ext) _ _ hx1).mono fun _ _ ⟨e, H'⟩ => ⟨e, Hx.call H' rfl⟩) ?_
  refine Zb [.bool (!x1)] 4 ?_
  exact Zd [0, 2, 4, 13]
 have H3 : Hold h h2 [box b1 44 [.int .i64 r_.Num, .int .i64 r_.Den]] := H2
 refine Zc (!x1) (fun hb1 => ?_) (fun hb1 => ?_)
 ·have hF := (M.ite_some hF).1 hb1
  refine Zs ?_
  refine Zq [.bool false] [6] [(6, .bool false)] ?_
  have hF := M.ret_some hF
  subst hF
  have H4 : Hold h h2 [] := H3.pk []
  exact Run_ret1 rfl (Zt (.bool false)) ⟨rfl, H4⟩
 ·have hF := (M.ite_some hF).2 hb1
  refine Run_skip ?_
  refine Zs ?_
  refine Zs ?_
  refine Run_ops ?_
  refine Zr [.slice aa_ a_.length ca_, .pointer (some ⟨b1, 1, none⟩)] 0 ?_
  refine Zz (.int .i64 r_.Den) (Zl 2 (⟨b1, 1, none⟩) (.int .i64 r_.Den) (H3.cell 0 rfl rfl)) ?_
  obtain ⟨x2, hx2, hF⟩ := M.bind_some hF
  refine Ze ?_
  refine ZC 66 #[.slice aa_ a_.length ca_, .int .i64 r_.Den] (w_impl_stretched h2 a_ aa_ ca_ (ra_.at H3.ext) r_.Den _ _ hx2) (fun v1 h3 hp1 => ?_)
  obtain ⟨a1, c1, rfl, H5⟩ := hp1
  have H6 : Hold h h3 [own cd24 a1 x2.length c1 x2, box b1 44 [.int .i64 r_.Num, .int .i64 r_.Den]] := H3.call H5 rfl
  refine Zr [.slice ax_ x_.length cx_] 4 ?_
  obtain ⟨x3, hx3, hF⟩ := M.bind_some hF
  refine Ze ?_
  refine ZC 65 #[.slice a1 x2.length c1, .slice ax_ x_.length cx_] (w_impl_timesVector h3 x2 a1 c1 (H6.rd 0 rfl) x_ ax_ cx_ (rx_.at H6.ext) _ _ hx3) (fun v2 h4 hp2 => ?_)
  obtain ⟨a2, c2, rfl, H7⟩ := hp2
  have H8 : Hold h h4 [own cd2 a2 x3.length c2 x3, own cd24 a1 x2.length c1 x2, box b1 44 [.int .i64 r_.Num, .int .i64 r_.Den]] := H6.call H7 rfl
  refine Zr [.int .i64 (x3.length : Int), .int .i64 0] 6 ?_
  refine Zx ?_
  refine Zk [2, 4, 19, 20, 21] [(2, .slice ax_ x_.length cx_), (4, pV b1), (19, .slice a2 x3.length c2), (20, .int .i64 (x3.length : Int)), (21, .int .i64 0)] ?_
  obtain ⟨x4, gx4, hF⟩ := M.bind_some hF
  obtain ⟨hloy1, hhiy1, gx4⟩ := M.for_start gx4
  refine Run_join (fun L' h' => ∃ (s2 : Unit), x4 = .inl s2 ∧ L' = [] ∧ Hold h h' []) ?_ ?_
  ·rintro _ h6 ⟨s2, es2, rfl, H10⟩
   have hF := M.cont_inl' hF es2
   refine Zs ?_
   refine Zq [.bool true] [6] [(6, .bool true)] ?_
   have hF := M.ret_some hF
   subst hF
   exact Run_ret1 rfl (Zt (.bool true)) ⟨rfl, H10⟩
  ·refine Run_block ?_
   have H13 : Hold h h4 [box b1 44 [.int .i64 r_.Num, .int .i64 r_.Den], own cd2 a2 x3.length c2 x3] := H8.pk [2, 0]
   refine Zk [2, 4, 19, 20, 21] [(2, .slice ax_ x_.length cx_), (4, pV b1), (19, .slice a2 x3.length c2), (20, .int .i64 (x3.length : Int)), (21, .int .i64 0)] ?_
   refine Run_loop (fun m L' h' => ∃ (i1 : Int) (s1 : Unit), 0 ≤ i1 ∧ M.forN (x3.length : Int) _ _ n m i1 s1 = some x4 ∧ L' = [(2, .slice ax_ x_.length cx_), (4, pV b1), (19, .slice a2 x3.length c2), (20, .int .i64 (x3.length : Int)), (21, .int .i64 i1)] ∧ Hold h h' [box b1 44 [.int .i64 r_.Num, .int .i64 r_.Den], own cd2 a2 x3.length c2 x3]) ((x3.length : Int) - 0 : Int).toNat ⟨0, (), Int.le_refl _, gx4, rfl, H13⟩ ?_
   rintro my1 _ h5 ⟨i1, s1, hloy1', gx4, rfl, H9⟩
   refine Zs ?_
   refine Zq [.bool (decide (i1 < (x3.length : Int)))] [2, 4, 19, 20, 21, 22] [(2, .slice ax_ x_.length cx_), (4, pV b1), (19, .slice a2 x3.length c2), (20, .int .i64 (x3.length : Int)), (21, .int .i64 i1), (22, .bool (decide (i1 < (x3.length : Int))))] ?_
   refine Zs ?_
   refine Zc (decide (i1 < (x3.length : Int))) (fun hb2 => ?_) (fun hb2 => ?_)
   ·obtain ⟨my1, y1, rfl, hB1, hgoy1, houty1⟩ := M.for_go gx4 hb2
    have hlty1 := of_decide_eq_true hb2
    refine Run_skip ?_
    refine Zs ?_
    refine Run_block ?_
    refine Zs ?_
    obtain ⟨x5, hx4, hB1⟩ := M.bind_some hB1
    obtain ⟨hx4l, hx4u, hx4⟩ := M.idx_some hx4
    refine Zg 5 [(2, .slice ax_ x_.length cx_), (4, pV b1), (7, .int .i64 i1), (8, .int .i64 x5), (19, .slice a2 x3.length c2), (20, .int .i64 (x3.length : Int)), (21, .int .i64 i1)] ?_ ?_
    ·refine Zb [.int .i64 i1] 0 ?_
     refine Zy (.pointer (some (adr a2 (i1.toNat * 1)))) (Zi 24 2 1 (a2) (x3.length) (c2) .i64 (i1) Tryz.underlying24 ((H9.rd 1 rfl).cell hx4).1 hx4l hx4u) ?_
     refine Zy (.int .i64 x5) (Zl 2 (adr a2 (i1.toNat * 1)) (.int .i64 x5) (cd2_cell (H9.rd 1 rfl) hx4)) ?_
     refine Zb [.int .i64 i1, .int .i64 x5] 3 ?_
     exact Zd [2, 4, 7, 8, 19, 20, 21]
    refine Zs ?_
    obtain ⟨x6, hx5, hB1⟩ := M.bind_some hB1
    obtain ⟨hx5l, hx5u, hx5⟩ := M.idx_some hx5
    obtain ⟨x7, hx6, hB1⟩ := M.bind_some hB1
    refine Run_draw 9 mixed (by kernel_rfl) (by kernel_rfl) (L' := [(2, .slice ax_ x_.length cx_), (4, pV b1), (19, .slice a2 x3.length c2), (20, .int .i64 (x3.length : Int)), (21, .int .i64 i1), (34, .bool (x5 != x7))]) ?_ ?_
    ·refine Zb [.int .i64 x5, .slice ax_ x_.length cx_, .int .i64 i1] 0 ?_
     refine Zy (.pointer (some (adr ax_ (i1.toNat * 1)))) (Zi 24 2 1 (ax_) (x_.length) (cx_) .i64 (i1) Tryz.underlying24 ((rx_.at H9.ext).cell hx5).1 hx5l hx5u) ?_
     refine Zy (.int .i64 x6) (Zl 2 (adr ax_ (i1.toNat * 1)) (.int .i64 x6) (cd2_cell (rx_.at H9.ext) hx5)) ?_
     refine Zb [pV b1] 5 ?_
     refine Zy (.int .i64 r_.Num) (Zl 2 (⟨b1, 0, none⟩) (.int .i64 r_.Num) (H9.cell 0 rfl rfl)) ?_
     refine Zy (.int .i64 x7) (ZQ 67 #[.int .i64 x6, .int .i64 r_.Num] (w_impl_times h5 x6 r_.Num _ _ hx6)) ?_
     refine Zb [.bool (x5 != x7)] 8 ?_
     exact Zd [2, 4, 19, 20, 21, 34]
    refine Zc (x5 != x7) (fun hb3 => ?_) (fun hb3 => ?_)
    ·have hB1 := (M.ite_some hB1).1 hb3
     refine Zs ?_
     refine Zq [.bool false] [6] [(6, .bool false)] ?_
     have hB1 := M.ret_some hB1
     have gx4 := houty1 _ hB1.symm
     have hF := M.cont_inr' hF gx4
     have hF := M.ret_some hF
     subst hF
     have H11 : Hold h h5 [] := H9.pk []
     exact Run_ret1 rfl (Zt (.bool false)) ⟨rfl, H11⟩
    ·have hB1 := (M.ite_some hB1).2 hb3
     refine Run_skip ?_
     refine Run_blk ?_
     refine Zg 2 [(2, .slice ax_ x_.length cx_), (4, pV b1), (19, .slice a2 x3.length c2), (20, .int .i64 (x3.length : Int)), (21, .int .i64 (i1 + 1))] ?_ ?_
     ·refine Zy (.int .i64 (i1 + 1)) (Y_eq (v := .int .i64 (w64 (i1 + 1))) (Y_pure (fun w => by kernel_rfl)) (by rw [w64_eq _ (by omega)])) ?_
      refine Zb [.int .i64 (i1 + 1)] 1 ?_
      exact Zd [2, 4, 19, 20, 21]
     have hB1 := M.ret_some hB1
     have gx4 := hgoy1 _ hB1.symm
     exact Za [2, 4, 19, 20, 21] my1 ⟨i1 + 1, (), by omega, gx4, rfl, H9⟩
   ·have gx4 := M.for_end gx4 hb2
    subst gx4
    refine Run_exit (k' := _) rfl ?_
    have H12 : Hold h h5 [] := H9.pk []
    exact Zf [] ⟨(), rfl, rfl, H12⟩

theorem w_laws_FnColumns (h : Heap) (code : List Int) (acode : Option Addr) (ccode : Nat) (rcode : Rd cd5 h (Lt h) acode ccode code) (n : Nat) (r : Bool) (hF : laws_FnColumns code n = some r) :
  Fn Tryz.prog 5 #[.slice acode code.length ccode] h fun v h' => v = .bool r ∧ Hold h h' [] := by
 unfold laws_FnColumns at hF
 refine Zo [.slice acode code.length ccode] Tryz.func5 rfl (fun w0 _ => ?_)
 have H0 := Hold.init h
 refine Zs ?_
 refine Zq [.bool false] [0] [(0, .slice acode code.length ccode)] ?_
 refine Zs ?_
 refine Zs ?_
 obtain ⟨x1, hx1, hF⟩ := M.bind_some hF
 refine Zg 2 [(0, .slice acode code.length ccode), (14, .bool x1)] ?_ ?_
 ·refine Zb [.slice acode code.length ccode] 0 ?_
  refine Zy (.bool x1) (ZQ 15 #[.slice acode code.length ccode] (w_laws_big h code acode ccode rcode _ _ hx1)) ?_
  exact Zd [0, 14]
 refine Zc (x1) (fun hb1 => ?_) (fun hb1 => ?_)
 ·have hF := (M.ite_some hF).1 hb1
  refine Zs ?_
  refine Zq [.bool true] [2] [(2, .bool true)] ?_
  have hF := M.ret_some hF
  subst hF
  exact Run_ret1 rfl (Zt (.bool true)) ⟨rfl, H0⟩
 ·have hF := (M.ite_some hF).2 hb1
  refine Run_skip ?_
  refine Zs ?_
  refine Run_ops ?_
  refine Zr [.slice acode code.length ccode] 0 ?_
  obtain ⟨x2, hx2, hF⟩ := M.bind_some hF
  refine Ze ?_
  refine ZC 28 #[.slice acode code.length ccode] (w_spec_DrawEigenColumns h code acode ccode rcode _ _ hx2) (fun v1 h1 hp1 => ?_)
  obtain ⟨a1, c1, rfl, H1⟩ := hp1
  have H2 : Hold h h1 [own cd24 a1 x2.length c1 x2] := H0.call H1 rfl
  refine Zr [.slice a1 x2.length c1] 2 ?_
  refine Zx ?_
  refine Zk [3] [(3, .slice a1 x2.length c1)] ?_
  refine Zs ?_
  refine Run_ops ?_
  refine Zr [.slice a1 x2.length c1] 0 ?_
  obtain ⟨x3, hx3, hF⟩ := M.bind_some hF
  refine Ze ?_
  refine ZC 29 #[.slice a1 x2.length c1] (w_impl_EigenColumns h1 x2 a1 c1 (H2.rd 0 rfl) _ _ hx3) (fun v2 h2 hp2 => ?_)
  obtain ⟨a2, c2, rfl, H3⟩ := hp2
  have H4 : Hold h h2 [own cd24 a2 x3.1.length c2 x3.1, own cd24 a1 x2.length c1 x2] := H2.call H3 rfl
  refine Zr [.tuple #[.slice a2 x3.1.length c2, .int .i64 x3.2], .slice a2 x3.1.length c2, .int .i64 x3.2, .slice a2 x3.1.length c2, .int .i64 x3.2] 2 ?_
  refine Zx ?_
  refine Zk [3, 4, 5] [(3, .slice a1 x2.length c1), (4, .slice a2 x3.1.length c2), (5, .int .i64 x3.2)] ?_
  refine Zs ?_
  refine Run_ops ?_
  refine Zr [.slice a1 x2.length c1] 0 ?_
  obtain ⟨x4, hx4, hF⟩ := M.bind_some hF
  refine Ze ?_
  refine ZC 30 #[.slice a1 x2.length c1] (w_spec_EigenColumns h2 x2 a1 c1 (H4.rd 1 rfl) _ _ hx4) (fun v3 h3 hp3 => ?_)
  obtain ⟨a3, c3, rfl, H5⟩ := hp3
  have H6 : Hold h h3 [own cd24 a3 x4.1.length c3 x4.1, own cd24 a2 x3.1.length c2 x3.1, own cd24 a1 x2.length c1 x2] := H4.call H5 rfl
  refine Zr [.tuple #[.slice a3 x4.1.length c3, .int .i64 x4.2], .slice a3 x4.1.length c3, .int .i64 x4.2, .slice a3 x4.1.length c3, .int .i64 x4.2] 2 ?_
  refine Zx ?_
  refine Zk [3, 4, 5, 6, 7] [(3, .slice a1 x2.length c1), (4, .slice a2 x3.1.length c2), (5, .int .i64 x3.2), (6, .slice a3 x4.1.length c3), (7, .int .i64 x4.2)] ?_
  refine Zs ?_
  refine Zs ?_
  obtain ⟨x5, gx5, hF⟩ := M.bind_some hF
  refine Zg 9 [(3, .slice a1 x2.length c1), (4, .slice a2 x3.1.length c2), (5, .int .i64 x3.2), (35, .bool x5)] ?_ ?_
  ·refine Zb [.int .i64 x3.2, .int .i64 x4.2, .bool (x3.2 != x4.2)] 0 ?_
   refine QRun_seq 9 [(3, .slice a1 x2.length c1), (4, .slice a2 x3.1.length c2), (5, .int .i64 x3.2), (35, .bool x5)] ?_ ?_
   ·rcases Bool.eq_false_or_eq_true (x3.2 != x4.2) with hb2 | hb2
    ·refine Zv (x3.2 != x4.2) true hb2 ?_
     have gx5 := M.ret_some ((M.ite_some gx5).1 hb2)
     refine Zn ?_
     refine Zn ?_
     refine Zn ?_
     refine Zn ?_
     refine Zv true x5 gx5 ?_
     exact Zd [3, 4, 5, 35]
    ·refine Zv (x3.2 != x4.2) false hb2 ?_
     have gx5 := (M.ite_some gx5).2 hb2
     obtain ⟨x6, hx5, gx5⟩ := M.bind_some gx5
     have gx5 := M.ret_some gx5
     refine Zb [.slice a2 x3.1.length c2, .slice a3 x4.1.length c3] 4 ?_
     refine Zy (.bool x6) (ZQ 24 #[.slice a2 x3.1.length c2, .slice a3 x4.1.length c3] (w_laws_likeTables9 h3 x3.1 a2 c2 (H6.rd 1 rfl) x4.1 a3 c3 (H6.rd 0 rfl) _ _ hx5)) ?_
     refine Zb [.bool (!x6)] 7 ?_
     refine Zv (!x6) x5 gx5 ?_
     exact Zd [3, 4, 5, 35]
   exact Zd [3, 4, 5, 35]
  refine Zc (x5) (fun hb3 => ?_) (fun hb3 => ?_)
  ·have hF := (M.ite_some hF).1 hb3
   refine Zs ?_
   refine Zq [.bool false] [2] [(2, .bool false)] ?_
   have hF := M.ret_some hF
   subst hF
   have H7 : Hold h h3 [] := H6.pk []
   exact Run_ret1 rfl (Zt (.bool false)) ⟨rfl, H7⟩
  ·have hF := (M.ite_some hF).2 hb3
   refine Run_skip ?_
   refine Zs ?_
   refine Zs ?_
   refine Zq [.int .i64 x3.2, .bool (x3.2 != 0)] [3, 4, 37] [(3, .slice a1 x2.length c1), (4, .slice a2 x3.1.length c2), (37, .bool (x3.2 != 0))] ?_
   refine Zc (x3.2 != 0) (fun hb4 => ?_) (fun hb4 => ?_)
   ·have hF := (M.ite_some hF).1 hb4
    refine Zs ?_
    refine Zq [.bool true] [2] [(2, .bool true)] ?_
    have hF := M.ret_some hF
    subst hF
    have H8 : Hold h h3 [] := H6.pk []
    exact Run_ret1 rfl (Zt (.bool true)) ⟨rfl, H8⟩
   ·have hF := (M.ite_some hF).2 hb4
    refine Run_skip ?_
    refine Zs ?_
    refine Run_ops ?_
    refine Zr [.slice a1 x2.length c1] 0 ?_
    obtain ⟨x7, hx6, hF⟩ := M.bind_some hF
    refine Ze ?_
    refine ZC 31 #[.slice a1 x2.length c1] (w_impl_CriticalComponents h3 x2 a1 c1 (H6.rd 2 rfl) _ _ hx6) (fun v4 h4 hp4 => ?_)
    obtain ⟨a4, c4, rfl, rV1, H9⟩ := hp4
    have H10 : Hold h h4 [own cd24 a3 x4.1.length c3 x4.1, own cd24 a2 x3.1.length c2 x3.1, own cd24 a1 x2.length c1 x2] := H6.call H9 rfl
    refine Zr [.tuple #[.slice a4 x7.1.length c4, .int .i64 x7.2], .slice a4 x7.1.length c4, .int .i64 x7.2, .slice a4 x7.1.length c4, .int .i64 x7.2] 2 ?_
    refine Zx ?_
    refine Zk [3, 4, 8, 9] [(3, .slice a1 x2.length c1), (4, .slice a2 x3.1.length c2), (8, .slice a4 x7.1.length c4), (9, .int .i64 x7.2)] ?_
    refine Zs ?_
    have rB1 := (H10.rd 2 rfl)
    have rB2 := (H10.rd 1 rfl)
    have rB3 := rV1
    have HB1 : Hold h h4 [] := H10.pk []
    obtain ⟨h, hEq⟩ : ∃ q : Heap, q = h4 := ⟨_, rfl⟩
    subst hEq
    have H11 := Hold.init h
    refine Run_ops ?_
    refine Zr [.slice a1 x2.length c1] 0 ?_
    obtain ⟨x8, hx7, hF⟩ := M.bind_some hF
    refine Ze ?_
    refine ZC 32 #[.slice a1 x2.length c1] (w_impl_CycleMean h x2 a1 c1 rB1 _ _ hx7) (fun v5 h5 hp5 => ?_)
    obtain ⟨rfl, H12⟩ := hp5
    have H13 : Hold h h5 [] := H11.call H12 rfl
    refine Zr [.tuple #[.agg #[.int .i64 x8.1.Num, .int .i64 x8.1.Den], .int .i64 x8.2], .agg #[.int .i64 x8.1.Num, .int .i64 x8.1.Den], .int .i64 x8.2] 2 ?_
    refine Ze ?_
    refine E_box (ty := 44) (cs := [.int .i64 0, .int .i64 0]) H13 (fun w => by kernel_rfl) (fun b1 h6 H14 => ?_)
    refine Ze ?_
    refine ZP 44 0 [.int .i64 x8.1.Num, .int .i64 x8.1.Den] (.agg #[.int .i64 x8.1.Num, .int .i64 x8.1.Den]) H14 (fun h7 H15 => ?_)
    refine Zr [.int .i64 x8.2] 7 ?_
    refine Zx ?_
    refine Zk [3, 4, 8, 9, 10, 11] [(3, .slice a1 x2.length c1), (4, .slice a2 x3.1.length c2), (8, .slice a4 x7.1.length c4), (9, .int .i64 x7.2), (10, pV b1), (11, .int .i64 x8.2)] ?_
    refine Zs ?_
    refine Zs ?_
    refine Zq [.int .i64 0] [3, 4, 8, 9, 10, 11, 12] [(3, .slice a1 x2.length c1), (4, .slice a2 x3.1.length c2), (8, .slice a4 x7.1.length c4), (9, .int .i64 x7.2), (10, pV b1), (11, .int .i64 x8.2), (12, .int .i64 0)] ?_
    obtain ⟨x9, gx9, hF⟩ := M.bind_some hF
    obtain ⟨hloy1, hhiy1, gx9⟩ := M.for_start gx9
    refine Run_join (fun L' h' => ∃ (s2 : Unit), x9 = .inl s2 ∧ L' = [(4, .slice a2 x3.1.length c2), (8, .slice a4 x7.1.length c4), (9, .int .i64 x7.2)] ∧ Hold h h' []) ?_ ?_
    ·rintro _ h9 ⟨s2, es2, rfl, H17⟩
     have hF := M.cont_inl' hF es2
     refine Zs ?_
     refine Zg 10 [(2, .bool ((x7.2 == 0) && ((x3.1.length : Int) == (x7.1.length : Int))))] ?_ ?_
     ·refine Zb [.int .i64 x7.2, .bool (x7.2 == 0)] 0 ?_
      refine QRun_seq 9 [(74, .bool ((x7.2 == 0) && ((x3.1.length : Int) == (x7.1.length : Int))))] ?_ ?_
      ·rcases Bool.eq_false_or_eq_true (x7.2 == 0) with hb8 | hb8
       ·refine Zv (x7.2 == 0) true hb8 ?_
        refine Zb [.slice a2 x3.1.length c2, .int .i64 (x3.1.length : Int), .slice a4 x7.1.length c4, .int .i64 (x7.1.length : Int), .bool ((x3.1.length : Int) == (x7.1.length : Int))] 3 ?_
        refine QRun_bool ((x3.1.length : Int) == (x7.1.length : Int)) ((x7.2 == 0) && ((x3.1.length : Int) == (x7.1.length : Int))) (by kernel_rfl) (fun w => by kernel_rfl) (by rw [hb8]; rfl) ?_
        exact Zd [74]
       ·refine Zv (x7.2 == 0) false hb8 ?_
        refine Zn ?_
        refine Zn ?_
        refine Zn ?_
        refine Zn ?_
        refine Zn ?_
        refine QRun_bool false ((x7.2 == 0) && ((x3.1.length : Int) == (x7.1.length : Int))) (by kernel_rfl) (fun w => by kernel_rfl) (by rw [hb8]; rfl) ?_
        exact Zd [74]
      refine Zb [.bool ((x7.2 == 0) && ((x3.1.length : Int) == (x7.1.length : Int)))] 9 ?_
      exact Zd [2]
     have hF := M.ret_some hF
     subst hF
     exact Run_ret1 rfl (Zt (.bool ((x7.2 == 0) && ((x3.1.length : Int) == (x7.1.length : Int))))) ⟨rfl, (HB1.trans0 H17)⟩
    ·refine Run_block ?_
     refine Zk [3, 4, 8, 9, 10, 11, 12] [(3, .slice a1 x2.length c1), (4, .slice a2 x3.1.length c2), (8, .slice a4 x7.1.length c4), (9, .int .i64 x7.2), (10, pV b1), (11, .int .i64 x8.2), (12, .int .i64 0)] ?_
     refine Run_loop (fun m L' h' => ∃ (i1 : Int) (s1 : Unit), 0 ≤ i1 ∧ M.forN (x3.1.length : Int) _ _ n m i1 s1 = some x9 ∧ L' = [(3, .slice a1 x2.length c1), (4, .slice a2 x3.1.length c2), (8, .slice a4 x7.1.length c4), (9, .int .i64 x7.2), (10, pV b1), (11, .int .i64 x8.2), (12, .int .i64 i1)] ∧ Hold h h' [box b1 44 [.int .i64 x8.1.Num, .int .i64 x8.1.Den]]) ((x3.1.length : Int) - 0 : Int).toNat ⟨0, (), Int.le_refl _, gx9, rfl, H15⟩ ?_
     rintro my1 _ h8 ⟨i1, s1, hloy1', gx9, rfl, H16⟩
     refine Zs ?_
     refine Zs ?_
     refine Zq [.int .i64 i1, .slice a2 x3.1.length c2, .int .i64 (x3.1.length : Int), .bool (decide (i1 < (x3.1.length : Int)))] [3, 4, 8, 9, 10, 11, 12, 51] [(3, .slice a1 x2.length c1), (4, .slice a2 x3.1.length c2), (8, .slice a4 x7.1.length c4), (9, .int .i64 x7.2), (10, pV b1), (11, .int .i64 x8.2), (12, .int .i64 i1), (51, .bool (decide (i1 < (x3.1.length : Int))))] ?_
     refine Zc (decide (i1 < (x3.1.length : Int))) (fun hb5 => ?_) (fun hb5 => ?_)
     ·obtain ⟨my1, y1, rfl, hB1, hgoy1, houty1⟩ := M.for_go gx9 hb5
      have hlty1 := of_decide_eq_true hb5
      refine Run_skip ?_
      refine Zs ?_
      refine Run_block ?_
      refine Zs ?_
      obtain ⟨x10, gx10, hB1⟩ := M.bind_some hB1
      refine Run_drawC (j := 12) (C := fun x => Hold h x [box b1 44 [.int .i64 x8.1.Num, .int .i64 x8.1.Den]]) mixed (by kernel_rfl) (by kernel_rfl) H16 (L' := [(3, .slice a1 x2.length c1), (4, .slice a2 x3.1.length c2), (8, .slice a4 x7.1.length c4), (9, .int .i64 x7.2), (10, pV b1), (11, .int .i64 x8.2), (12, .int .i64 i1), (65, .bool x10)]) ?_ (fun h10 H18 => ?_)
      ·refine Zb [.int .i64 x8.2, .bool (x8.2 == 0)] 0 ?_
       refine QRun_seq 12 [(3, .slice a1 x2.length c1), (4, .slice a2 x3.1.length c2), (8, .slice a4 x7.1.length c4), (9, .int .i64 x7.2), (10, pV b1), (11, .int .i64 x8.2), (12, .int .i64 i1), (65, .bool x10)] ?_ ?_
       ·rcases Bool.eq_false_or_eq_true (x8.2 == 0) with hb6 | hb6
        ·refine Zv (x8.2 == 0) true hb6 ?_
         have gx10 := (M.ite_some gx10).1 hb6
         obtain ⟨x11, hx8, gx10⟩ := M.bind_some gx10
         obtain ⟨hx8l, hx8u, hx8⟩ := M.idx_some hx8
         obtain ⟨a5, c5, hc1, r1⟩ := rB2.row hx8
         obtain ⟨x12, hx9, gx10⟩ := M.bind_some gx10
         have gx10 := M.ret_some gx10
         refine Zb [.slice a1 x2.length c1] 3 ?_
         refine Zy (.agg #[.int .i64 x8.1.Num, .int .i64 x8.1.Den]) (Y_cls fun hx Hx => (Y_loadA (t := 44) (n := 2) (p := ⟨b1, 0, none⟩) (cs := [.int .i64 x8.1.Num, .int .i64 x8.1.Den]) (by kernel_rfl) (fun w => by kernel_rfl) (by kernel_rfl) rfl (Hx.cells (n := 2) (off := 0) 0 rfl rfl))) ?_
         refine Zb [.slice a2 x3.1.length c2, .int .i64 i1] 5 ?_
         refine Zy (.pointer (some (adr a2 (i1.toNat * 1)))) (Y_cls fun hx Hx => (Zi 22 24 1 (a2) (x3.1.length) (c2) .i64 (i1) Tryz.underlying22 ((rB2.at H16.ext).cell hx8).1 hx8l hx8u)) ?_
         refine Zy (.slice a5 x11.length c5) (Y_cls fun hx Hx => (Zl 24 (adr a2 (i1.toNat * 1)) (.slice a5 x11.length c5) (cell_at Hx.ext hc1))) ?_
         refine Zy (.bool x12) (Y_call (f := 33) (args := #[.slice a1 x2.length c1, .agg #[.int .i64 x8.1.Num, .int .i64 x8.1.Den], .slice a5 x11.length c5]) (v := .bool x12) (by kernel_rfl) fun hx Hx => (w_impl_IsEigenVector hx x2 a1 c1 (rB1.at Hx.ext) x8.1 x11 a5 c5 (r1.at Hx.ext) _ _ hx9).mono fun _ _ ⟨e, H'⟩ => ⟨e, Hx.call H' rfl⟩) ?_
         refine Zb [.bool (!x12)] 10 ?_
         refine Zv (!x12) x10 gx10 ?_
         exact Zd [3, 4, 8, 9, 10, 11, 12, 65]
        ·refine Zv (x8.2 == 0) false hb6 ?_
         have gx10 := M.ret_some ((M.ite_some gx10).2 hb6)
         refine Zn ?_
         refine Zn ?_
         refine Zn ?_
         refine Zn ?_
         refine Zn ?_
         refine Zn ?_
         refine Zn ?_
         refine Zn ?_
         refine Zv false x10 gx10 ?_
         exact Zd [3, 4, 8, 9, 10, 11, 12, 65]
       exact Zd [3, 4, 8, 9, 10, 11, 12, 65]
      have H19 : Hold h h10 [box b1 44 [.int .i64 x8.1.Num, .int .i64 x8.1.Den]] := H18
      refine Zc (x10) (fun hb7 => ?_) (fun hb7 => ?_)
      ·have hB1 := (M.ite_some hB1).1 hb7
       refine Zs ?_
       refine Zq [.bool false] [2] [(2, .bool false)] ?_
       have hB1 := M.ret_some hB1
       have gx9 := houty1 _ hB1.symm
       have hF := M.cont_inr' hF gx9
       have hF := M.ret_some hF
       subst hF
       have H20 : Hold h h10 [] := H19.pk []
       exact Run_ret1 rfl (Zt (.bool false)) ⟨rfl, (HB1.trans0 H20)⟩
      ·have hB1 := (M.ite_some hB1).2 hb7
       refine Run_skip ?_
       refine Run_blk ?_
       refine Zg 3 [(3, .slice a1 x2.length c1), (4, .slice a2 x3.1.length c2), (8, .slice a4 x7.1.length c4), (9, .int .i64 x7.2), (10, pV b1), (11, .int .i64 x8.2), (12, .int .i64 (i1 + 1))] ?_ ?_
       ·refine Zb [.int .i64 i1] 0 ?_
        refine Zy (.int .i64 (i1 + 1)) (Y_eq (v := .int .i64 (w64 (i1 + 1))) (Y_pure (fun w => by kernel_rfl)) (by rw [w64_eq _ (by omega)])) ?_
        refine Zb [.int .i64 (i1 + 1)] 2 ?_
        exact Zd [3, 4, 8, 9, 10, 11, 12]
       have hB1 := M.ret_some hB1
       have gx9 := hgoy1 _ hB1.symm
       exact Za [3, 4, 8, 9, 10, 11, 12] my1 ⟨i1 + 1, (), by omega, gx9, rfl, H19⟩
     ·have gx9 := M.for_end gx9 hb5
      subst gx9
      refine Run_exit (k' := _) rfl ?_
      have H21 : Hold h h8 [] := H16.pk []
      exact Zf [4, 8, 9] ⟨(), rfl, rfl, H21⟩

end Go.Proofs.YtelopfgolahlpaaGreat
