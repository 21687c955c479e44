/-
  Walks: each Go function, called with what reads as plain data, returns what its plain program computes.
  Conditions: None beyond the given statement.
-/
import Derived.Test.YtelopfgolahlpaaW2
namespace Go.Proofs.Ytelopfgolahlpaa
open Go
attribute [local irreducible] setL setB opA fineI idleI fineB evB okB markB markBs readyB readyBs chainB lk rho pickL dropSlot tailOK
set_option maxRecDepth 100000
set_option maxHeartbeats 4000000
theorem w_impl_periodOf (h : Heap) (a_ : List (List Int)) (aa_ : Option Addr) (ca_ : Nat) (ra_ : Rd cd90 h (Lt h) aa_ ca_ a_) (component : List Int) (acomponent : Option Addr) (ccomponent : Nat) (rcomponent : Rd cd2 h (Lt h) acomponent ccomponent component) (n : Nat) (r : Int) (hF : impl_periodOf a_ component n = some r) :
  Fn Try.prog 63 #[.slice aa_ a_.length ca_, .slice acomponent component.length ccomponent] h fun v h' => v = .int .i64 r ∧ Hold h h' [] := by
 unfold impl_periodOf at hF
 refine Zo [.slice aa_ a_.length ca_, .slice acomponent component.length ccomponent] Try.func63 rfl (fun w0 _ => ?_)
 have H0 := Hold.init h
 refine Zs ?_
 refine Zq [.int .i64 0] [0, 1] [(0, .slice aa_ a_.length ca_), (1, .slice acomponent component.length ccomponent)] ?_
 refine Zs ?_
 refine Run_ops ?_
 refine Zr [.slice aa_ a_.length ca_, .int .i64 (a_.length : Int)] 0 ?_
 obtain ⟨l1, hl1, hF⟩ := M.bind_some hF
 have hl1 := M.make_some hl1
 refine Ze ?_
 refine E_make cd2 0 (kl := .i64) (kc := .i64) H0 cd2_ti Try.underlying90 (by decide) cd2_zero (by kernel_rfl) hl1 (fun a1 h1 H1 => ?_)
 refine Zr [.slice a1 l1.length l1.length] 3 ?_
 refine Zx ?_
 refine Zk [0, 1, 5] [(0, .slice aa_ a_.length ca_), (1, .slice acomponent component.length ccomponent), (5, .slice a1 l1.length l1.length)] ?_
 refine Zs ?_
 refine Zs ?_
 refine Zq [.slice a1 l1.length l1.length, .int .i64 (l1.length : Int), .int .i64 0] [0, 1, 5, 17, 18] [(0, .slice aa_ a_.length ca_), (1, .slice acomponent component.length ccomponent), (5, .slice a1 l1.length l1.length), (17, .int .i64 (l1.length : Int)), (18, .int .i64 0)] ?_
 obtain ⟨x1, gx1, hF⟩ := M.bind_some hF
 obtain ⟨hloy1, hhiy1, gx1⟩ := M.for_start gx1
 refine Run_join (fun L' h' => L' = [(0, .slice aa_ a_.length ca_), (1, .slice acomponent component.length ccomponent), (5, .slice a1 l1.length l1.length)] ∧ Hold h h' [own cd2 a1 l1.length l1.length x1]) ?_ ?_
 ·rintro _ h3 ⟨rfl, H3⟩
  refine Zs ?_
  refine Run_ops ?_
  obtain ⟨x3, hx2, hF⟩ := M.bind_some hF
  obtain ⟨hx2l, hx2u, hx2⟩ := M.idx_some hx2
  obtain ⟨x4, hx3, hF⟩ := M.bind_some hF
  obtain ⟨hx3l, hx3u, hx3⟩ := M.idx_some hx3
  refine Zr [.slice a1 l1.length l1.length, .slice acomponent component.length ccomponent] 0 ?_
  refine Zz (.pointer (some (adr acomponent (0 * 1)))) (Zi 90 2 1 (acomponent) (component.length) (ccomponent) .i64 (0) Try.underlying90 ((rcomponent.at H3.ext).cell hx2).1 hx2l hx2u) ?_
  refine Zz (.int .i64 x3) (Zl 2 (adr acomponent (0 * 1)) (.int .i64 x3) (cd2_cell (rcomponent.at H3.ext) hx2)) ?_
  refine Zz (.pointer (some (adr a1 (x3.toNat * 1)))) (Zi 90 2 1 (a1) (l1.length) (l1.length) .i64 (x3) Try.underlying90 ((H3.rd 0 rfl).cell hx3).1 hx3l (by rw [← (H3.len 0 rfl)]; exact hx3u)) ?_
  obtain ⟨l3, hu2, hF⟩ := M.bind_some hF
  have hu2 := M.upd_some hu2
  refine Ze ?_
  refine E_put (C := cd2) (t := 2) (sz := 1) (j := x3) (x := 0) (v := .int .i64 0) H3 cd2_flat (by kernel_rfl) rfl (cd2_own _) (by kernel_rfl) hu2 (fun h5 H5 => ?_)
  refine Zx ?_
  refine Zk [0, 1, 5] [(0, .slice aa_ a_.length ca_), (1, .slice acomponent component.length ccomponent), (5, .slice a1 l1.length l1.length)] ?_
  refine Zs ?_
  refine Run_ops ?_
  obtain ⟨x5, hx4, hF⟩ := M.bind_some hF
  obtain ⟨hx4l, hx4u, hx4⟩ := M.idx_some hx4
  refine Zr [.slice acomponent component.length ccomponent] 0 ?_
  refine Zz (.pointer (some (adr acomponent (0 * 1)))) (Zi 90 2 1 (acomponent) (component.length) (ccomponent) .i64 (0) Try.underlying90 ((rcomponent.at H5.ext).cell hx4).1 hx4l hx4u) ?_
  refine Zz (.int .i64 x5) (Zl 2 (adr acomponent (0 * 1)) (.int .i64 x5) (cd2_cell (rcomponent.at H5.ext) hx4)) ?_
  refine Ze ?_
  refine E_lit (C := cd2) (n := 1) (l := ([x5] : List Int)) (cs := [.int .i64 x5]) H5 (fun w => by kernel_rfl) (Enc.consE (cd2_own x5 _) (Enc.nil _ _) rfl) rfl (by decide) (fun a2 h6 H6 => ?_)
  refine Zr [.slice a2 1 1] 4 ?_
  refine Zx ?_
  refine Zk [0, 1, 5, 7] [(0, .slice aa_ a_.length ca_), (1, .slice acomponent component.length ccomponent), (5, .slice a1 l1.length l1.length), (7, .slice a2 1 1)] ?_
  refine Zs ?_
  refine Zq [.int .i64 0] [0, 1, 5, 7, 8] [(0, .slice aa_ a_.length ca_), (1, .slice acomponent component.length ccomponent), (5, .slice a1 l1.length l1.length), (7, .slice a2 1 1), (8, .int .i64 0)] ?_
  refine Zs ?_
  refine Zs ?_
  refine Zq [.int .i64 0] [0, 1, 5, 7, 8, 9] [(0, .slice aa_ a_.length ca_), (1, .slice acomponent component.length ccomponent), (5, .slice a1 l1.length l1.length), (7, .slice a2 1 1), (8, .int .i64 0), (9, .int .i64 0)] ?_
  obtain ⟨x6, gx6, hF⟩ := M.bind_some hF
  refine Run_join (fun L' h' => L' = [(8, .int .i64 x6.2.2.1)] ∧ Hold h h' []) ?_ ?_
  ·rintro _ h8 ⟨rfl, H8⟩
   refine Zs ?_
   refine Zq [.int .i64 x6.2.2.1, .int .i64 x6.2.2.1] [4] [(4, .int .i64 x6.2.2.1)] ?_
   have hF := M.ret_some hF
   subst hF
   exact Run_ret1 rfl (Zt (.int .i64 x6.2.2.1)) ⟨rfl, H8⟩
  ·refine Run_block ?_
   have hn1 := (H6.len 0 rfl)
   have H32 : Hold h h6 [own cd2 a2 (([x5] : List Int).length) 1 ([x5] : List Int), own cd2 a1 l1.length l1.length l3] := by rw [hn1]; exact H6
   have H33 : Hold h h6 [own cd2 a1 l1.length l1.length l3, own cd2 a2 (([x5] : List Int).length) 1 ([x5] : List Int)] := H32.pk [1, 0]
   refine Run_keep [0, 1, 5, 7, 8, 9] (L' := [(0, .slice aa_ a_.length ca_), (1, .slice acomponent component.length ccomponent), (5, .slice a1 l1.length l1.length), (7, .slice a2 (([x5] : List Int).length) 1), (8, .int .i64 0), (9, .int .i64 0)]) (by first | (rw [hn1]; kernel_rfl) | (simp only [hn1]; kernel_rfl) | kernel_rfl) ?_
   refine Run_loop (fun m L' h' => ∃ (s2 : (List Int) × (List Int) × Int × Int) (a3 : Option Addr) (c1 : Nat), M.loopN _ n m s2 = some x6 ∧ L' = [(0, .slice aa_ a_.length ca_), (1, .slice acomponent component.length ccomponent), (5, .slice a1 l1.length l1.length), (7, .slice a3 s2.2.1.length c1), (8, .int .i64 s2.2.2.1), (9, .int .i64 s2.2.2.2)] ∧ Hold h h' [own cd2 a1 l1.length l1.length s2.1, own cd2 a3 s2.2.1.length c1 s2.2.1]) n ⟨(l3, ([x5] : List Int), 0, 0), a2, 1, gx6, rfl, H33⟩ ?_
   rintro my2 _ h7 ⟨s2, a3, c1, gx6, rfl, H7⟩
   obtain ⟨my2, y2, rfl, hB2, hgoy2, houty2⟩ := M.loop_some gx6
   refine Zs ?_
   refine Zs ?_
   refine Zq [.int .i64 s2.2.2.2, .slice a3 s2.2.1.length c1, .int .i64 (s2.2.1.length : Int), .bool (decide (s2.2.2.2 < (s2.2.1.length : Int)))] [0, 1, 5, 7, 8, 9, 37] [(0, .slice aa_ a_.length ca_), (1, .slice acomponent component.length ccomponent), (5, .slice a1 l1.length l1.length), (7, .slice a3 s2.2.1.length c1), (8, .int .i64 s2.2.2.1), (9, .int .i64 s2.2.2.2), (37, .bool (decide (s2.2.2.2 < (s2.2.1.length : Int))))] ?_
   refine Zc (decide (s2.2.2.2 < (s2.2.1.length : Int))) (fun hb2 => ?_) (fun hb2 => ?_)
   ·have hB2 := (M.ite_some hB2).1 hb2
    refine Run_skip ?_
    refine Zs ?_
    refine Run_block ?_
    refine Zs ?_
    obtain ⟨x7, hx5, hB2⟩ := M.bind_some hB2
    obtain ⟨hx5l, hx5u, hx5⟩ := M.idx_some hx5
    refine Zg 5 [(0, .slice aa_ a_.length ca_), (1, .slice acomponent component.length ccomponent), (5, .slice a1 l1.length l1.length), (7, .slice a3 s2.2.1.length c1), (8, .int .i64 s2.2.2.1), (9, .int .i64 s2.2.2.2), (10, .int .i64 x7)] ?_ ?_
    ·refine Zb [.slice a3 s2.2.1.length c1, .int .i64 s2.2.2.2] 0 ?_
     refine Zy (.pointer (some (adr a3 (s2.2.2.2.toNat * 1)))) (Zi 90 2 1 (a3) (s2.2.1.length) (c1) .i64 (s2.2.2.2) Try.underlying90 ((H7.rd 1 rfl).cell hx5).1 hx5l hx5u) ?_
     refine Zy (.int .i64 x7) (Zl 2 (adr a3 (s2.2.2.2.toNat * 1)) (.int .i64 x7) (cd2_cell (H7.rd 1 rfl) hx5)) ?_
     refine Zb [.int .i64 x7] 4 ?_
     exact Zd [0, 1, 5, 7, 8, 9, 10]
    refine Zs ?_
    refine Zq [.slice acomponent component.length ccomponent, .int .i64 (component.length : Int), .int .i64 0] [0, 1, 5, 7, 8, 9, 10, 44, 45, 46] [(0, .slice aa_ a_.length ca_), (1, .slice acomponent component.length ccomponent), (5, .slice a1 l1.length l1.length), (7, .slice a3 s2.2.1.length c1), (8, .int .i64 s2.2.2.1), (9, .int .i64 s2.2.2.2), (10, .int .i64 x7), (44, .slice acomponent component.length ccomponent), (45, .int .i64 (component.length : Int)), (46, .int .i64 0)] ?_
    obtain ⟨x8, gx8, hB2⟩ := M.bind_some hB2
    obtain ⟨hloy3, hhiy3, gx8⟩ := M.for_start gx8
    refine Run_join (fun L' h' => ∃ (a6 : Option Addr) (c4 : Nat), L' = [(0, .slice aa_ a_.length ca_), (1, .slice acomponent component.length ccomponent), (5, .slice a1 l1.length l1.length), (7, .slice a6 x8.2.1.length c4), (8, .int .i64 x8.2.2), (9, .int .i64 s2.2.2.2)] ∧ Hold h h' [own cd2 a1 l1.length l1.length x8.1, own cd2 a6 x8.2.1.length c4 x8.2.1]) ?_ ?_
    ·rintro _ h10 ⟨a6, c4, rfl, H10⟩
     refine Run_blk ?_
     refine Zq [.int .i64 s2.2.2.2, .int .i64 (w64 (s2.2.2.2 + 1)), .int .i64 (w64 (s2.2.2.2 + 1))] [0, 1, 5, 7, 8, 9] [(0, .slice aa_ a_.length ca_), (1, .slice acomponent component.length ccomponent), (5, .slice a1 l1.length l1.length), (7, .slice a6 x8.2.1.length c4), (8, .int .i64 x8.2.2), (9, .int .i64 (w64 (s2.2.2.2 + 1)))] ?_
     have H27 : Hold h h10 [own cd2 a6 x8.2.1.length c4 x8.2.1, own cd2 a1 l1.length l1.length x8.1] := H10.pk [1, 0]
     have H28 : Hold h h10 [own cd2 a1 l1.length l1.length x8.1, own cd2 a6 x8.2.1.length c4 x8.2.1] := H27.pk [1, 0]
     have hB2 := M.ret_some hB2
     have gx6 := hgoy2 _ hB2.symm
     exact Za [0, 1, 5, 7, 8, 9] my2 ⟨(x8.1, x8.2.1, x8.2.2, (w64 (s2.2.2.2 + 1))), a6, c4, gx6, rfl, H28⟩
    ·refine Run_block ?_
     have H29 : Hold h h7 [own cd2 a3 s2.2.1.length c1 s2.2.1, own cd2 a1 l1.length l1.length s2.1] := H7.pk [1, 0]
     have H30 : Hold h h7 [own cd2 a1 l1.length l1.length s2.1, own cd2 a3 s2.2.1.length c1 s2.2.1] := H29.pk [1, 0]
     refine Zk [0, 1, 5, 7, 8, 9, 10, 44, 45, 46] [(0, .slice aa_ a_.length ca_), (1, .slice acomponent component.length ccomponent), (5, .slice a1 l1.length l1.length), (7, .slice a3 s2.2.1.length c1), (8, .int .i64 s2.2.2.1), (9, .int .i64 s2.2.2.2), (10, .int .i64 x7), (44, .slice acomponent component.length ccomponent), (45, .int .i64 (component.length : Int)), (46, .int .i64 0)] ?_
     refine Run_loop (fun m L' h' => ∃ (i2 : Int) (s3 : (List Int) × (List Int) × Int) (a5 : Option Addr) (c3 : Nat), 0 ≤ i2 ∧ M.forN (component.length : Int) _ _ n m i2 s3 = some x8 ∧ L' = [(0, .slice aa_ a_.length ca_), (1, .slice acomponent component.length ccomponent), (5, .slice a1 l1.length l1.length), (7, .slice a5 s3.2.1.length c3), (8, .int .i64 s3.2.2), (9, .int .i64 s2.2.2.2), (10, .int .i64 x7), (44, .slice acomponent component.length ccomponent), (45, .int .i64 (component.length : Int)), (46, .int .i64 i2)] ∧ Hold h h' [own cd2 a1 l1.length l1.length s3.1, own cd2 a5 s3.2.1.length c3 s3.2.1]) ((component.length : Int) - 0 : Int).toNat ⟨0, (s2.1, s2.2.1, s2.2.2.1), a3, c1, Int.le_refl _, gx8, rfl, H30⟩ ?_
     rintro my3 _ h9 ⟨i2, s3, a5, c3, hloy3', gx8, rfl, H9⟩
     refine Zs ?_
     refine Zq [.bool (decide (i2 < (component.length : Int)))] [0, 1, 5, 7, 8, 9, 10, 44, 45, 46, 47] [(0, .slice aa_ a_.length ca_), (1, .slice acomponent component.length ccomponent), (5, .slice a1 l1.length l1.length), (7, .slice a5 s3.2.1.length c3), (8, .int .i64 s3.2.2), (9, .int .i64 s2.2.2.2), (10, .int .i64 x7), (44, .slice acomponent component.length ccomponent), (45, .int .i64 (component.length : Int)), (46, .int .i64 i2), (47, .bool (decide (i2 < (component.length : Int))))] ?_
     refine Zs ?_
     refine Zc (decide (i2 < (component.length : Int))) (fun hb3 => ?_) (fun hb3 => ?_)
     ·obtain ⟨my3, y3, rfl, hB3, hgoy3, houty3⟩ := M.for_go gx8 hb3
      have hlty3 := of_decide_eq_true hb3
      refine Run_skip ?_
      refine Zs ?_
      refine Run_block ?_
      refine Zs ?_
      obtain ⟨x9, hx6, hB3⟩ := M.bind_some hB3
      obtain ⟨hx6l, hx6u, hx6⟩ := M.idx_some hx6
      refine Zg 3 [(0, .slice aa_ a_.length ca_), (1, .slice acomponent component.length ccomponent), (5, .slice a1 l1.length l1.length), (7, .slice a5 s3.2.1.length c3), (8, .int .i64 s3.2.2), (9, .int .i64 s2.2.2.2), (10, .int .i64 x7), (12, .int .i64 x9), (44, .slice acomponent component.length ccomponent), (45, .int .i64 (component.length : Int)), (46, .int .i64 i2)] ?_ ?_
      ·refine Zy (.pointer (some (adr acomponent (i2.toNat * 1)))) (Zi 90 2 1 (acomponent) (component.length) (ccomponent) .i64 (i2) Try.underlying90 ((rcomponent.at H9.ext).cell hx6).1 hx6l hx6u) ?_
       refine Zy (.int .i64 x9) (Zl 2 (adr acomponent (i2.toNat * 1)) (.int .i64 x9) (cd2_cell (rcomponent.at H9.ext) hx6)) ?_
       refine Zb [.int .i64 x9] 2 ?_
       exact Zd [0, 1, 5, 7, 8, 9, 10, 12, 44, 45, 46]
      refine Run_block ?_
      refine Zs ?_
      obtain ⟨x10, hx7, hB3⟩ := M.bind_some hB3
      obtain ⟨hx7l, hx7u, hx7⟩ := M.idx_some hx7
      obtain ⟨a7, c5, hc1, r1⟩ := ra_.row hx7
      obtain ⟨x11, hx8, hB3⟩ := M.bind_some hB3
      obtain ⟨hx8l, hx8u, hx8⟩ := M.idx_some hx8
      refine Zg 9 [(0, .slice aa_ a_.length ca_), (1, .slice acomponent component.length ccomponent), (5, .slice a1 l1.length l1.length), (7, .slice a5 s3.2.1.length c3), (8, .int .i64 s3.2.2), (9, .int .i64 s2.2.2.2), (10, .int .i64 x7), (12, .int .i64 x9), (44, .slice acomponent component.length ccomponent), (45, .int .i64 (component.length : Int)), (46, .int .i64 i2), (63, .bool (x11 == (-1000000000000000)))] ?_ ?_
      ·refine Zb [.slice aa_ a_.length ca_, .int .i64 x9] 0 ?_
       refine Zy (.pointer (some (adr aa_ (x9.toNat * 1)))) (Zi 37 90 1 (aa_) (a_.length) (ca_) .i64 (x9) Try.underlying37 ((ra_.at H9.ext).cell hx7).1 hx7l hx7u) ?_
       refine Zy (.slice a7 x10.length c5) (Zl 90 (adr aa_ (x9.toNat * 1)) (.slice a7 x10.length c5) (cell_at H9.ext hc1)) ?_
       refine Zb [.int .i64 x7] 4 ?_
       refine Zy (.pointer (some (adr a7 (x7.toNat * 1)))) (Zi 90 2 1 (a7) (x10.length) (c5) .i64 (x7) Try.underlying90 ((r1.at H9.ext).cell hx8).1 hx8l hx8u) ?_
       refine Zy (.int .i64 x11) (Zl 2 (adr a7 (x7.toNat * 1)) (.int .i64 x11) (cd2_cell (r1.at H9.ext) hx8)) ?_
       refine Zb [.bool (x11 == (-1000000000000000)), .bool (x11 == (-1000000000000000))] 7 ?_
       exact Zd [0, 1, 5, 7, 8, 9, 10, 12, 44, 45, 46, 63]
      obtain ⟨s4, gs4, hB3⟩ := M.bind_some hB3
      refine Run_join (fun L' h' => ∃ (a10 : Option Addr), ∃ (c7 : Nat), L' = [(0, .slice aa_ a_.length ca_), (1, .slice acomponent component.length ccomponent), (5, .slice a1 l1.length l1.length), (7, .slice a10 s4.2.1.length c7), (8, .int .i64 s4.2.2), (9, .int .i64 s2.2.2.2), (10, .int .i64 x7), (44, .slice acomponent component.length ccomponent), (45, .int .i64 (component.length : Int)), (46, .int .i64 i2)] ∧ Hold h h' [own cd2 a1 l1.length l1.length s4.1, own cd2 a10 s4.2.1.length c7 s4.2.1]) ?_ ?_
      ·rintro _ h14 ⟨a10, c7, rfl, H17⟩
       refine Run_blk ?_
       refine Run_blk ?_
       refine Zg 2 [(0, .slice aa_ a_.length ca_), (1, .slice acomponent component.length ccomponent), (5, .slice a1 l1.length l1.length), (7, .slice a10 s4.2.1.length c7), (8, .int .i64 s4.2.2), (9, .int .i64 s2.2.2.2), (10, .int .i64 x7), (44, .slice acomponent component.length ccomponent), (45, .int .i64 (component.length : Int)), (46, .int .i64 (i2 + 1))] ?_ ?_
       ·refine Zy (.int .i64 (i2 + 1)) (Y_eq (v := .int .i64 (w64 (i2 + 1))) (Y_pure (fun w => by kernel_rfl)) (by rw [w64_eq _ (by omega)])) ?_
        refine Zb [.int .i64 (i2 + 1)] 1 ?_
        exact Zd [0, 1, 5, 7, 8, 9, 10, 44, 45, 46]
       have H23 : Hold h h14 [own cd2 a10 s4.2.1.length c7 s4.2.1, own cd2 a1 l1.length l1.length s4.1] := H17.pk [1, 0]
       have H24 : Hold h h14 [own cd2 a1 l1.length l1.length s4.1, own cd2 a10 s4.2.1.length c7 s4.2.1] := H23.pk [1, 0]
       have hB3 := M.ret_some hB3
       have gx8 := hgoy3 _ hB3.symm
       exact Za [0, 1, 5, 7, 8, 9, 10, 44, 45, 46] my3 ⟨i2 + 1, (s4.1, s4.2.1, s4.2.2), a10, c7, by omega, gx8, rfl, H24⟩
      ·refine Zc (x11 == (-1000000000000000)) (fun hb4 => ?_) (fun hb4 => ?_)
       ·have gs4 := (M.ite_some gs4).1 hb4
        refine Run_skip ?_
        have H18 : Hold h h9 [own cd2 a5 s3.2.1.length c3 s3.2.1, own cd2 a1 l1.length l1.length s3.1] := H9.pk [1, 0]
        have H19 : Hold h h9 [own cd2 a1 l1.length l1.length s3.1, own cd2 a5 s3.2.1.length c3 s3.2.1] := H18.pk [1, 0]
        have gs4 := M.ret_some gs4
        subst gs4
        exact Zf [0, 1, 5, 7, 8, 9, 10, 44, 45, 46] ⟨a5, c3, rfl, H19⟩
       ·have gs4 := (M.ite_some gs4).2 hb4
        refine Zs ?_
        obtain ⟨x12, hx9, gs4⟩ := M.bind_some gs4
        obtain ⟨hx9l, hx9u, hx9⟩ := M.idx_some hx9
        refine Zg 6 [(0, .slice aa_ a_.length ca_), (1, .slice acomponent component.length ccomponent), (5, .slice a1 l1.length l1.length), (7, .slice a5 s3.2.1.length c3), (8, .int .i64 s3.2.2), (9, .int .i64 s2.2.2.2), (10, .int .i64 x7), (12, .int .i64 x9), (44, .slice acomponent component.length ccomponent), (45, .int .i64 (component.length : Int)), (46, .int .i64 i2), (72, .bool (decide (x12 < 0)))] ?_ ?_
        ·refine Zb [.slice a1 l1.length l1.length, .int .i64 x9] 0 ?_
         refine Zy (.pointer (some (adr a1 (x9.toNat * 1)))) (Zi 90 2 1 (a1) (l1.length) (l1.length) .i64 (x9) Try.underlying90 ((H9.rd 0 rfl).cell hx9).1 hx9l (by rw [← (H9.len 0 rfl)]; exact hx9u)) ?_
         refine Zy (.int .i64 x12) (Zl 2 (adr a1 (x9.toNat * 1)) (.int .i64 x12) (cd2_cell (H9.rd 0 rfl) hx9)) ?_
         refine Zb [.bool (decide (x12 < 0)), .bool (decide (x12 < 0))] 4 ?_
         exact Zd [0, 1, 5, 7, 8, 9, 10, 12, 44, 45, 46, 72]
        refine Zc (decide (x12 < 0)) (fun hb5 => ?_) (fun hb5 => ?_)
        ·have gs4 := (M.ite_some gs4).1 hb5
         refine Zs ?_
         refine Run_ops ?_
         obtain ⟨x13, hx10, gs4⟩ := M.bind_some gs4
         obtain ⟨hx10l, hx10u, hx10⟩ := M.idx_some hx10
         obtain ⟨x14, hx11, gs4⟩ := M.bind_some gs4
         obtain ⟨hx11l, hx11u, hx11⟩ := M.idx_some hx11
         refine Zr [.slice a1 l1.length l1.length, .int .i64 x9, .slice a1 l1.length l1.length, .int .i64 x7] 0 ?_
         refine Zz (.pointer (some (adr a1 (x7.toNat * 1)))) (Zi 90 2 1 (a1) (l1.length) (l1.length) .i64 (x7) Try.underlying90 ((H9.rd 0 rfl).cell hx10).1 hx10l (by rw [← (H9.len 0 rfl)]; exact hx10u)) ?_
         refine Zz (.int .i64 x13) (Zl 2 (adr a1 (x7.toNat * 1)) (.int .i64 x13) (cd2_cell (H9.rd 0 rfl) hx10)) ?_
         refine Zr [.int .i64 (w64 (x13 + 1))] 6 ?_
         refine Zz (.pointer (some (adr a1 (x9.toNat * 1)))) (Zi 90 2 1 (a1) (l1.length) (l1.length) .i64 (x9) Try.underlying90 ((H9.rd 0 rfl).cell hx11).1 hx11l (by rw [← (H9.len 0 rfl)]; exact hx11u)) ?_
         obtain ⟨l4, hu3, gs4⟩ := M.bind_some gs4
         have hu3 := M.upd_some hu3
         refine Ze ?_
         refine E_put (C := cd2) (t := 2) (sz := 1) (j := x9) (x := (w64 (x13 + 1))) (v := .int .i64 (w64 (x13 + 1))) H9 cd2_flat (by kernel_rfl) rfl (cd2_own _) (by kernel_rfl) hu3 (fun h11 H11 => ?_)
         refine Zx ?_
         refine Zk [0, 1, 5, 7, 8, 9, 10, 12, 44, 45, 46] [(0, .slice aa_ a_.length ca_), (1, .slice acomponent component.length ccomponent), (5, .slice a1 l1.length l1.length), (7, .slice a5 s3.2.1.length c3), (8, .int .i64 s3.2.2), (9, .int .i64 s2.2.2.2), (10, .int .i64 x7), (12, .int .i64 x9), (44, .slice acomponent component.length ccomponent), (45, .int .i64 (component.length : Int)), (46, .int .i64 i2)] ?_
         refine Run_ops ?_
         refine Zr [.slice a5 s3.2.1.length c3, .int .i64 x9] 0 ?_
         refine Ze ?_
         refine E_lit (C := cd2) (n := 1) (l := ([x9] : List Int)) (cs := [.int .i64 x9]) H11 (fun w => by kernel_rfl) (Enc.consE (cd2_own x9 _) (Enc.nil _ _) rfl) rfl (by decide) (fun a8 h12 H12 => ?_)
         obtain ⟨l5, hl2, gs4⟩ := M.bind_some gs4
         have hl2 := M.app_some hl2
         have H13 : Hold h h12 [own cd2 a5 s3.2.1.length c3 s3.2.1, own cd2 a8 1 1 ([x9] : List Int), own cd2 a1 l1.length l1.length l4] := H12.pk [2, 0, 1]
         have H14 : Hold h h12 [own cd2 a8 1 1 ([x9] : List Int), own cd2 a5 s3.2.1.length c3 s3.2.1, own cd2 a1 l1.length l1.length l4] := H13.pk [1, 0, 2]
         have H15 : Hold h h12 [own cd2 a5 s3.2.1.length c3 s3.2.1, own cd2 a8 1 1 ([x9] : List Int), own cd2 a1 l1.length l1.length l4] := H14.pk [1, 0, 2]
         refine Ze ?_
         refine E_app (C := cd2) (t := 90) (ty := 90) (n := s3.2.1.length) (m := 1) H15 cd2_ti rfl Try.underlying90 (by decide) (by kernel_rfl) hl2 (fun a9 c6 h13 H16 => ?_)
         refine Zr [.slice a9 l5.length c6] 4 ?_
         refine Zx ?_
         refine Zk [0, 1, 5, 7, 8, 9, 10, 44, 45, 46] [(0, .slice aa_ a_.length ca_), (1, .slice acomponent component.length ccomponent), (5, .slice a1 l1.length l1.length), (7, .slice a9 l5.length c6), (8, .int .i64 s3.2.2), (9, .int .i64 s2.2.2.2), (10, .int .i64 x7), (44, .slice acomponent component.length ccomponent), (45, .int .i64 (component.length : Int)), (46, .int .i64 i2)] ?_
         have H20 : Hold h h13 [own cd2 a1 l1.length l1.length l4, own cd2 a9 l5.length c6 l5] := H16.pk [1, 0]
         have gs4 := M.ret_some gs4
         subst gs4
         exact Zf [0, 1, 5, 7, 8, 9, 10, 44, 45, 46] ⟨a9, c6, rfl, H20⟩
        ·have gs4 := (M.ite_some gs4).2 hb5
         obtain ⟨x15, hx12, gs4⟩ := M.bind_some gs4
         obtain ⟨hx12l, hx12u, hx12⟩ := M.idx_some hx12
         obtain ⟨x16, hx13, gs4⟩ := M.bind_some gs4
         obtain ⟨hx13l, hx13u, hx13⟩ := M.idx_some hx13
         obtain ⟨x17, hx14, gs4⟩ := M.bind_some gs4
         obtain ⟨x18, hx15, gs4⟩ := M.bind_some gs4
         refine Run_draw 14 mixed (by kernel_rfl) (by kernel_rfl) (L' := [(0, .slice aa_ a_.length ca_), (1, .slice acomponent component.length ccomponent), (5, .slice a1 l1.length l1.length), (7, .slice a5 s3.2.1.length c3), (8, .int .i64 x18), (9, .int .i64 s2.2.2.2), (10, .int .i64 x7), (44, .slice acomponent component.length ccomponent), (45, .int .i64 (component.length : Int)), (46, .int .i64 i2)]) ?_ ?_
         ·refine Zb [.slice a1 l1.length l1.length, .int .i64 x7] 0 ?_
          refine Zy (.pointer (some (adr a1 (x7.toNat * 1)))) (Zi 90 2 1 (a1) (l1.length) (l1.length) .i64 (x7) Try.underlying90 ((H9.rd 0 rfl).cell hx12).1 hx12l (by rw [← (H9.len 0 rfl)]; exact hx12u)) ?_
          refine Zy (.int .i64 x15) (Zl 2 (adr a1 (x7.toNat * 1)) (.int .i64 x15) (cd2_cell (H9.rd 0 rfl) hx12)) ?_
          refine Zb [.int .i64 (w64 (x15 + 1)), .slice a1 l1.length l1.length, .int .i64 x9] 4 ?_
          refine Zy (.pointer (some (adr a1 (x9.toNat * 1)))) (Zi 90 2 1 (a1) (l1.length) (l1.length) .i64 (x9) Try.underlying90 ((H9.rd 0 rfl).cell hx13).1 hx13l (by rw [← (H9.len 0 rfl)]; exact hx13u)) ?_
          refine Zy (.int .i64 x16) (Zl 2 (adr a1 (x9.toNat * 1)) (.int .i64 x16) (cd2_cell (H9.rd 0 rfl) hx13)) ?_
          refine Zb [.int .i64 (w64 ((w64 (x15 + 1)) - x16))] 9 ?_
          refine Zy (.int .i64 x17) (ZQ 111 #[.int .i64 (w64 ((w64 (x15 + 1)) - x16))] (w_impl_absOf h9 (w64 ((w64 (x15 + 1)) - x16)) _ _ hx14)) ?_
          refine Zb [.int .i64 s3.2.2] 11 ?_
          refine Zy (.int .i64 x18) (ZQ 64 #[.int .i64 x17, .int .i64 s3.2.2] (w_impl_divisorOf h9 x17 s3.2.2 _ _ hx15)) ?_
          refine Zb [.int .i64 x18] 13 ?_
          exact Zd [0, 1, 5, 7, 8, 9, 10, 44, 45, 46]
         have H21 : Hold h h9 [own cd2 a5 s3.2.1.length c3 s3.2.1, own cd2 a1 l1.length l1.length s3.1] := H9.pk [1, 0]
         have H22 : Hold h h9 [own cd2 a1 l1.length l1.length s3.1, own cd2 a5 s3.2.1.length c3 s3.2.1] := H21.pk [1, 0]
         have gs4 := M.ret_some gs4
         subst gs4
         exact Zf [0, 1, 5, 7, 8, 9, 10, 44, 45, 46] ⟨a5, c3, rfl, H22⟩
     ·have gx8 := M.for_end gx8 hb3
      subst gx8
      refine Run_exit (k' := _) rfl ?_
      have H25 : Hold h h9 [own cd2 a5 s3.2.1.length c3 s3.2.1, own cd2 a1 l1.length l1.length s3.1] := H9.pk [1, 0]
      have H26 : Hold h h9 [own cd2 a1 l1.length l1.length s3.1, own cd2 a5 s3.2.1.length c3 s3.2.1] := H25.pk [1, 0]
      exact Zf [0, 1, 5, 7, 8, 9] ⟨a5, c3, rfl, H26⟩
   ·have hB2 := (M.ite_some hB2).2 hb2
    refine Run_exit (k' := _) rfl ?_
    have H31 : Hold h h7 [] := H7.pk []
    have hB2 := M.ret_some hB2
    have gx6 := houty2 _ hB2.symm
    subst gx6
    exact Zf [8] ⟨rfl, H31⟩
 ·refine Run_block ?_
  refine Zk [0, 1, 5, 17, 18] [(0, .slice aa_ a_.length ca_), (1, .slice acomponent component.length ccomponent), (5, .slice a1 l1.length l1.length), (17, .int .i64 (l1.length : Int)), (18, .int .i64 0)] ?_
  refine Run_loop (fun m L' h' => ∃ (i1 : Int) (s1 : (List Int)), 0 ≤ i1 ∧ M.forN (l1.length : Int) _ _ n m i1 s1 = some x1 ∧ L' = [(0, .slice aa_ a_.length ca_), (1, .slice acomponent component.length ccomponent), (5, .slice a1 l1.length l1.length), (17, .int .i64 (l1.length : Int)), (18, .int .i64 i1)] ∧ Hold h h' [own cd2 a1 l1.length l1.length s1]) ((l1.length : Int) - 0 : Int).toNat ⟨0, l1, Int.le_refl _, gx1, rfl, H1⟩ ?_
  rintro my1 _ h2 ⟨i1, s1, hloy1', gx1, rfl, H2⟩
  refine Zs ?_
  refine Zq [.bool (decide (i1 < (l1.length : Int)))] [0, 1, 5, 17, 18, 19] [(0, .slice aa_ a_.length ca_), (1, .slice acomponent component.length ccomponent), (5, .slice a1 l1.length l1.length), (17, .int .i64 (l1.length : Int)), (18, .int .i64 i1), (19, .bool (decide (i1 < (l1.length : Int))))] ?_
  refine Zs ?_
  refine Zc (decide (i1 < (l1.length : Int))) (fun hb1 => ?_) (fun hb1 => ?_)
  ·obtain ⟨my1, y1, rfl, hB1, hgoy1, houty1⟩ := M.for_go gx1 hb1
   have hlty1 := of_decide_eq_true hb1
   refine Run_skip ?_
   refine Zs ?_
   refine Run_block ?_
   refine Zs ?_
   refine Zq [.int .i64 i1, .int .i64 i1] [0, 1, 5, 6, 17, 18] [(0, .slice aa_ a_.length ca_), (1, .slice acomponent component.length ccomponent), (5, .slice a1 l1.length l1.length), (6, .int .i64 i1), (17, .int .i64 (l1.length : Int)), (18, .int .i64 i1)] ?_
   refine Run_ops ?_
   obtain ⟨x2, hx1, hB1⟩ := M.bind_some hB1
   obtain ⟨hx1l, hx1u, hx1⟩ := M.idx_some hx1
   refine Zr [.slice a1 l1.length l1.length, .int .i64 i1] 0 ?_
   refine Zz (.pointer (some (adr a1 (i1.toNat * 1)))) (Zi 90 2 1 (a1) (l1.length) (l1.length) .i64 (i1) Try.underlying90 ((H2.rd 0 rfl).cell hx1).1 hx1l (by rw [← (H2.len 0 rfl)]; exact hx1u)) ?_
   obtain ⟨l2, hu1, hB1⟩ := M.bind_some hB1
   have hu1 := M.upd_some hu1
   refine Ze ?_
   refine E_put (C := cd2) (t := 2) (sz := 1) (j := i1) (x := (-1)) (v := .int .i64 (-1)) H2 cd2_flat (by kernel_rfl) rfl (cd2_own _) (by kernel_rfl) hu1 (fun h4 H4 => ?_)
   refine Zx ?_
   refine Zk [0, 1, 5, 17, 18] [(0, .slice aa_ a_.length ca_), (1, .slice acomponent component.length ccomponent), (5, .slice a1 l1.length l1.length), (17, .int .i64 (l1.length : Int)), (18, .int .i64 i1)] ?_
   refine Run_blk ?_
   refine Zg 2 [(0, .slice aa_ a_.length ca_), (1, .slice acomponent component.length ccomponent), (5, .slice a1 l1.length l1.length), (17, .int .i64 (l1.length : Int)), (18, .int .i64 (i1 + 1))] ?_ ?_
   ·refine Zy (.int .i64 (i1 + 1)) (Y_eq (v := .int .i64 (w64 (i1 + 1))) (Y_pure (fun w => by kernel_rfl)) (by rw [w64_eq _ (by omega)])) ?_
    refine Zb [.int .i64 (i1 + 1)] 1 ?_
    exact Zd [0, 1, 5, 17, 18]
   have hB1 := M.ret_some hB1
   have gx1 := hgoy1 _ hB1.symm
   exact Za [0, 1, 5, 17, 18] my1 ⟨i1 + 1, l2, by omega, gx1, rfl, H4⟩
  ·have gx1 := M.for_end gx1 hb1
   subst gx1
   refine Run_exit (k' := _) rfl ?_
   exact Zf [0, 1, 5] ⟨rfl, H2⟩

theorem w_impl_Cyclicity (h : Heap) (a_ : List (List Int)) (aa_ : Option Addr) (ca_ : Nat) (ra_ : Rd cd90 h (Lt h) aa_ ca_ a_) (n : Nat) (r : Int × Int) (hF : impl_Cyclicity a_ n = some r) :
  Fn Try.prog 22 #[.slice aa_ a_.length ca_] h fun v h' => v = .tuple #[.int .i64 r.1, .int .i64 r.2] ∧ Hold h h' [] := by
 unfold impl_Cyclicity at hF
 refine Zo [.slice aa_ a_.length ca_] Try.func22 rfl (fun w0 _ => ?_)
 have H0 := Hold.init h
 refine Zs ?_
 refine Zq [.int .i64 0, .int .i64 0] [0] [(0, .slice aa_ a_.length ca_)] ?_
 refine Zs ?_
 refine Run_ops ?_
 refine Zr [.slice aa_ a_.length ca_] 0 ?_
 obtain ⟨x1, hx1, hF⟩ := M.bind_some hF
 refine Ze ?_
 refine ZC 61 #[.slice aa_ a_.length ca_] (w_impl_criticalOf h a_ aa_ ca_ ra_ _ _ hx1) (fun v1 h1 hp1 => ?_)
 obtain ⟨a1, c1, rfl, H1⟩ := hp1
 have H2 : Hold h h1 [own cd90 a1 x1.1.length c1 x1.1] := H0.call H1 rfl
 refine Zr [.tuple #[.slice a1 x1.1.length c1, .int .i64 x1.2], .slice a1 x1.1.length c1, .int .i64 x1.2, .slice a1 x1.1.length c1, .int .i64 x1.2] 2 ?_
 refine Zx ?_
 refine Zk [4, 5] [(4, .slice a1 x1.1.length c1), (5, .int .i64 x1.2)] ?_
 refine Zs ?_
 refine Zs ?_
 refine Zq [.int .i64 x1.2, .bool (x1.2 != 0)] [4, 5, 16] [(4, .slice a1 x1.1.length c1), (5, .int .i64 x1.2), (16, .bool (x1.2 != 0))] ?_
 refine Zc (x1.2 != 0) (fun hb1 => ?_) (fun hb1 => ?_)
 ·have hF := (M.ite_some hF).1 hb1
  refine Zs ?_
  refine Zq [.int .i64 x1.2, .int .i64 0, .int .i64 x1.2] [2, 3] [(2, .int .i64 0), (3, .int .i64 x1.2)] ?_
  have hF := M.ret_some hF
  subst hF
  have H3 : Hold h h1 [] := H2.pk []
  exact Run_ret2 rfl (Zt (.int .i64 0)) (Zt (.int .i64 x1.2)) ⟨rfl, H3⟩
 ·have hF := (M.ite_some hF).2 hb1
  refine Run_skip ?_
  refine Zs ?_
  refine Zq [.int .i64 1] [4, 6] [(4, .slice a1 x1.1.length c1), (6, .int .i64 1)] ?_
  refine Zs ?_
  refine Zs ?_
  refine Run_ops ?_
  refine Zr [.slice a1 x1.1.length c1] 0 ?_
  obtain ⟨x2, hx2, hF⟩ := M.bind_some hF
  refine Ze ?_
  refine ZC 62 #[.slice a1 x1.1.length c1] (w_impl_criticalComponents h1 x1.1 a1 c1 (H2.rd 0 rfl) _ _ hx2) (fun v2 h2 hp2 => ?_)
  obtain ⟨a2, c2, rfl, rV1, H4⟩ := hp2
  have H5 : Hold h h2 [own cd90 a1 x1.1.length c1 x1.1] := H2.call H4 rfl
  refine Zr [.int .i64 (x2.length : Int), .int .i64 0] 2 ?_
  refine Zx ?_
  refine Zk [4, 6, 19, 20, 21] [(4, .slice a1 x1.1.length c1), (6, .int .i64 1), (19, .slice a2 x2.length c2), (20, .int .i64 (x2.length : Int)), (21, .int .i64 0)] ?_
  have rB1 := (H5.rd 0 rfl)
  have rB2 := rV1
  have HB1 : Hold h h2 [] := H5.pk []
  obtain ⟨h, hEq⟩ : ∃ q : Heap, q = h2 := ⟨_, rfl⟩
  subst hEq
  have H6 := Hold.init h
  obtain ⟨x3, gx3, hF⟩ := M.bind_some hF
  obtain ⟨hloy1, hhiy1, gx3⟩ := M.for_start gx3
  refine Run_join (fun L' h' => L' = [(6, .int .i64 x3)] ∧ Hold h h' []) ?_ ?_
  ·rintro _ h4 ⟨rfl, H8⟩
   refine Zs ?_
   refine Zq [.int .i64 x3, .int .i64 x3, .int .i64 0] [2, 3] [(2, .int .i64 x3), (3, .int .i64 0)] ?_
   have hF := M.ret_some hF
   subst hF
   exact Run_ret2 rfl (Zt (.int .i64 x3)) (Zt (.int .i64 0)) ⟨rfl, (HB1.trans0 H8)⟩
  ·refine Run_block ?_
   refine Zk [4, 6, 19, 20, 21] [(4, .slice a1 x1.1.length c1), (6, .int .i64 1), (19, .slice a2 x2.length c2), (20, .int .i64 (x2.length : Int)), (21, .int .i64 0)] ?_
   refine Run_loop (fun m L' h' => ∃ (i1 : Int) (s1 : Int), 0 ≤ i1 ∧ M.forN (x2.length : Int) _ _ n m i1 s1 = some x3 ∧ L' = [(4, .slice a1 x1.1.length c1), (6, .int .i64 s1), (19, .slice a2 x2.length c2), (20, .int .i64 (x2.length : Int)), (21, .int .i64 i1)] ∧ Hold h h' []) ((x2.length : Int) - 0 : Int).toNat ⟨0, 1, Int.le_refl _, gx3, rfl, H6⟩ ?_
   rintro my1 _ h3 ⟨i1, s1, hloy1', gx3, rfl, H7⟩
   refine Zs ?_
   refine Zq [.bool (decide (i1 < (x2.length : Int)))] [4, 6, 19, 20, 21, 22] [(4, .slice a1 x1.1.length c1), (6, .int .i64 s1), (19, .slice a2 x2.length c2), (20, .int .i64 (x2.length : Int)), (21, .int .i64 i1), (22, .bool (decide (i1 < (x2.length : Int))))] ?_
   refine Zs ?_
   refine Zc (decide (i1 < (x2.length : Int))) (fun hb2 => ?_) (fun hb2 => ?_)
   ·obtain ⟨my1, y1, rfl, hB1, hgoy1, houty1⟩ := M.for_go gx3 hb2
    have hlty1 := of_decide_eq_true hb2
    refine Run_skip ?_
    refine Zs ?_
    refine Run_block ?_
    refine Zs ?_
    obtain ⟨x4, hx3, hB1⟩ := M.bind_some hB1
    obtain ⟨hx3l, hx3u, hx3⟩ := M.idx_some hx3
    obtain ⟨a3, c3, hc1, r1⟩ := rB2.row hx3
    refine Zg 3 [(4, .slice a1 x1.1.length c1), (6, .int .i64 s1), (8, .slice a3 x4.length c3), (19, .slice a2 x2.length c2), (20, .int .i64 (x2.length : Int)), (21, .int .i64 i1)] ?_ ?_
    ·refine Zy (.pointer (some (adr a2 (i1.toNat * 1)))) (Zi 37 90 1 (a2) (x2.length) (c2) .i64 (i1) Try.underlying37 ((rB2.at H7.ext).cell hx3).1 hx3l hx3u) ?_
     refine Zy (.slice a3 x4.length c3) (Zl 90 (adr a2 (i1.toNat * 1)) (.slice a3 x4.length c3) (cell_at H7.ext hc1)) ?_
     refine Zb [.slice a3 x4.length c3] 2 ?_
     exact Zd [4, 6, 8, 19, 20, 21]
    refine Zs ?_
    obtain ⟨x5, hx4, hB1⟩ := M.bind_some hB1
    refine Run_regC (j := 4) (C := fun x => Hold h x []) (by kernel_rfl) H7 (L' := [(4, .slice a1 x1.1.length c1), (6, .int .i64 s1), (9, .int .i64 x5), (19, .slice a2 x2.length c2), (20, .int .i64 (x2.length : Int)), (21, .int .i64 i1)]) ?_ (fun h5 H9 => ?_)
    ·refine Zb [.slice a1 x1.1.length c1, .slice a3 x4.length c3] 0 ?_
     refine Zy (.int .i64 x5) (Y_call (f := 63) (args := #[.slice a1 x1.1.length c1, .slice a3 x4.length c3]) (v := .int .i64 x5) (by kernel_rfl) fun hx Hx => (w_impl_periodOf hx x1.1 a1 c1 (rB1.at Hx.ext) x4 a3 c3 (r1.at Hx.ext) _ _ hx4).mono fun _ _ ⟨e, H'⟩ => ⟨e, Hx.call H' rfl⟩) ?_
     refine Zb [.int .i64 x5] 3 ?_
     exact Zd [4, 6, 9, 19, 20, 21]
    have H10 : Hold h h5 [] := H9
    obtain ⟨x6, hx5, hB1⟩ := M.bind_some hB1
    obtain ⟨u1, hz1, hB1⟩ := M.bind_some hB1
    have hz1 := M.guard_some hz1
    refine Zg 8 [(4, .slice a1 x1.1.length c1), (6, .int .i64 (w64 ((w64 (s1.tdiv x6)) * x5))), (19, .slice a2 x2.length c2), (20, .int .i64 (x2.length : Int)), (21, .int .i64 i1)] ?_ ?_
    ·refine Zb [.int .i64 s1, .int .i64 s1, .int .i64 x5] 0 ?_
     refine Zy (.int .i64 x6) (ZQ 64 #[.int .i64 s1, .int .i64 x5] (w_impl_divisorOf h5 s1 x5 _ _ hx5)) ?_
     refine Zy (.int .i64 (w64 (s1.tdiv x6))) (Y_quo (op := .quo) (k := .i64) (x := s1) (y := x6) (by kernel_rfl) hz1) ?_
     refine Zb [.int .i64 x5, .int .i64 (w64 ((w64 (s1.tdiv x6)) * x5)), .int .i64 (w64 ((w64 (s1.tdiv x6)) * x5))] 5 ?_
     exact Zd [4, 6, 19, 20, 21]
    refine Run_blk ?_
    refine Zg 2 [(4, .slice a1 x1.1.length c1), (6, .int .i64 (w64 ((w64 (s1.tdiv x6)) * x5))), (19, .slice a2 x2.length c2), (20, .int .i64 (x2.length : Int)), (21, .int .i64 (i1 + 1))] ?_ ?_
    ·refine Zy (.int .i64 (i1 + 1)) (Y_eq (v := .int .i64 (w64 (i1 + 1))) (Y_pure (fun w => by kernel_rfl)) (by rw [w64_eq _ (by omega)])) ?_
     refine Zb [.int .i64 (i1 + 1)] 1 ?_
     exact Zd [4, 6, 19, 20, 21]
    have hB1 := M.ret_some hB1
    have gx3 := hgoy1 _ hB1.symm
    exact Za [4, 6, 19, 20, 21] my1 ⟨i1 + 1, (w64 ((w64 (s1.tdiv x6)) * x5)), by omega, gx3, rfl, H10⟩
   ·have gx3 := M.for_end gx3 hb2
    subst gx3
    refine Run_exit (k' := _) rfl ?_
    exact Zf [6] ⟨rfl, H7⟩

theorem w_laws_FnRepeats (h : Heap) (code : List Int) (acode : Option Addr) (ccode : Nat) (rcode : Rd cd5 h (Lt h) acode ccode code) (n : Nat) (r : Bool) (hF : laws_FnRepeats code n = some r) :
  Fn Try.prog 4 #[.slice acode code.length ccode] h fun v h' => v = .bool r ∧ Hold h h' [] := by
 unfold laws_FnRepeats at hF
 refine Zo [.slice acode code.length ccode] Try.func4 rfl (fun w0 _ => ?_)
 have H0 := Hold.init h
 refine Zs ?_
 refine Zq [.bool false] [0] [(0, .slice acode code.length ccode)] ?_
 refine Zs ?_
 refine Zs ?_
 obtain ⟨x1, hx1, hF⟩ := M.bind_some hF
 refine Zg 2 [(0, .slice acode code.length ccode), (31, .bool x1)] ?_ ?_
 ·refine Zb [.slice acode code.length ccode] 0 ?_
  refine Zy (.bool x1) (ZQ 13 #[.slice acode code.length ccode] (w_laws_big h code acode ccode rcode _ _ hx1)) ?_
  exact Zd [0, 31]
 refine Zc (x1) (fun hb1 => ?_) (fun hb1 => ?_)
 ·have hF := (M.ite_some hF).1 hb1
  refine Zs ?_
  refine Zq [.bool true] [2] [(2, .bool true)] ?_
  have hF := M.ret_some hF
  subst hF
  exact Run_ret1 rfl (Zt (.bool true)) ⟨rfl, H0⟩
 ·have hF := (M.ite_some hF).2 hb1
  refine Run_skip ?_
  refine Zs ?_
  refine Run_ops ?_
  refine Zr [.slice acode code.length ccode] 0 ?_
  obtain ⟨x2, hx2, hF⟩ := M.bind_some hF
  refine Ze ?_
  refine ZC 14 #[.slice acode code.length ccode] (w_spec_DrawPowersRepeat h code acode ccode rcode _ _ hx2) (fun v1 h1 hp1 => ?_)
  obtain ⟨a1, c1, rfl, H1⟩ := hp1
  have H2 : Hold h h1 [own cd90 a1 x2.length c1 x2] := H0.call H1 rfl
  refine Zr [.slice a1 x2.length c1] 2 ?_
  refine Zx ?_
  refine Zk [0, 3] [(0, .slice acode code.length ccode), (3, .slice a1 x2.length c1)] ?_
  refine Zs ?_
  obtain ⟨x3, hx3, hF⟩ := M.bind_some hF
  refine Run_regC (j := 11) (C := fun x => Hold h x [own cd90 a1 x2.length c1 x2]) (by kernel_rfl) H2 (L' := [(0, .slice acode code.length ccode), (3, .slice a1 x2.length c1), (4, .int .i64 x3.1), (5, .int .i64 x3.2.1), (6, .int .i64 x3.2.2.1), (7, .int .i64 x3.2.2.2)]) ?_ (fun h2 H3 => ?_)
  ·refine Zb [.slice a1 x2.length c1] 0 ?_
   refine Zy (.tuple #[.int .i64 x3.1, .int .i64 x3.2.1, .int .i64 x3.2.2.1, .int .i64 x3.2.2.2]) (Y_call (f := 15) (args := #[.slice a1 x2.length c1]) (v := .tuple #[.int .i64 x3.1, .int .i64 x3.2.1, .int .i64 x3.2.2.1, .int .i64 x3.2.2.2]) (by kernel_rfl) fun hx Hx => (w_impl_PowersRepeat hx x2 a1 c1 (Hx.rd 0 rfl) _ _ hx3).mono fun _ _ ⟨e, H'⟩ => ⟨e, Hx.call H' rfl⟩) ?_
   refine Zb [.tuple #[.int .i64 x3.1, .int .i64 x3.2.1, .int .i64 x3.2.2.1, .int .i64 x3.2.2.2], .int .i64 x3.1, .int .i64 x3.2.1, .int .i64 x3.2.2.1, .int .i64 x3.2.2.2, .int .i64 x3.1, .int .i64 x3.2.1, .int .i64 x3.2.2.1, .int .i64 x3.2.2.2] 2 ?_
   exact Zd [0, 3, 4, 5, 6, 7]
  have H4 : Hold h h2 [own cd90 a1 x2.length c1 x2] := H3
  refine Zs ?_
  obtain ⟨x4, hx4, hF⟩ := M.bind_some hF
  refine Run_regC (j := 11) (C := fun x => Hold h x [own cd90 a1 x2.length c1 x2]) (by kernel_rfl) H4 (L' := [(0, .slice acode code.length ccode), (3, .slice a1 x2.length c1), (4, .int .i64 x3.1), (5, .int .i64 x3.2.1), (6, .int .i64 x3.2.2.1), (7, .int .i64 x3.2.2.2), (8, .int .i64 x4.1), (9, .int .i64 x4.2.1), (10, .int .i64 x4.2.2.1), (11, .int .i64 x4.2.2.2)]) ?_ (fun h3 H5 => ?_)
  ·refine Zb [.slice a1 x2.length c1] 0 ?_
   refine Zy (.tuple #[.int .i64 x4.1, .int .i64 x4.2.1, .int .i64 x4.2.2.1, .int .i64 x4.2.2.2]) (Y_call (f := 16) (args := #[.slice a1 x2.length c1]) (v := .tuple #[.int .i64 x4.1, .int .i64 x4.2.1, .int .i64 x4.2.2.1, .int .i64 x4.2.2.2]) (by kernel_rfl) fun hx Hx => (w_spec_PowersRepeat hx x2 a1 c1 (Hx.rd 0 rfl) _ _ hx4).mono fun _ _ ⟨e, H'⟩ => ⟨e, Hx.call H' rfl⟩) ?_
   refine Zb [.tuple #[.int .i64 x4.1, .int .i64 x4.2.1, .int .i64 x4.2.2.1, .int .i64 x4.2.2.2], .int .i64 x4.1, .int .i64 x4.2.1, .int .i64 x4.2.2.1, .int .i64 x4.2.2.2, .int .i64 x4.1, .int .i64 x4.2.1, .int .i64 x4.2.2.1, .int .i64 x4.2.2.2] 2 ?_
   exact Zd [0, 3, 4, 5, 6, 7, 8, 9, 10, 11]
  have H6 : Hold h h3 [own cd90 a1 x2.length c1 x2] := H5
  refine Zs ?_
  refine Run_ops ?_
  refine Zr [.slice acode code.length ccode] 0 ?_
  obtain ⟨x5, hx5, hF⟩ := M.bind_some hF
  refine Ze ?_
  refine ZC 17 #[.slice acode code.length ccode] (w_spec_DrawIsRepeat h3 code acode ccode (rcode.at H6.ext) _ _ hx5) (fun v2 h4 hp2 => ?_)
  obtain ⟨a2, c2, rfl, H7⟩ := hp2
  have H8 : Hold h h4 [own cd90 a2 x5.1.length c2 x5.1, own cd90 a1 x2.length c1 x2] := H6.call H7 rfl
  refine Zr [.tuple #[.slice a2 x5.1.length c2, .int .i64 x5.2.1, .int .i64 x5.2.2.1, .int .i64 x5.2.2.2], .slice a2 x5.1.length c2, .int .i64 x5.2.1, .int .i64 x5.2.2.1, .int .i64 x5.2.2.2, .slice a2 x5.1.length c2, .int .i64 x5.2.1, .int .i64 x5.2.2.1, .int .i64 x5.2.2.2] 2 ?_
  refine Zx ?_
  refine Zk [3, 4, 5, 6, 7, 8, 9, 10, 11, 12, 13, 14, 15] [(3, .slice a1 x2.length c1), (4, .int .i64 x3.1), (5, .int .i64 x3.2.1), (6, .int .i64 x3.2.2.1), (7, .int .i64 x3.2.2.2), (8, .int .i64 x4.1), (9, .int .i64 x4.2.1), (10, .int .i64 x4.2.2.1), (11, .int .i64 x4.2.2.2), (12, .slice a2 x5.1.length c2), (13, .int .i64 x5.2.1), (14, .int .i64 x5.2.2.1), (15, .int .i64 x5.2.2.2)] ?_
  refine Zs ?_
  obtain ⟨x6, hx6, hF⟩ := M.bind_some hF
  refine Run_regC (j := 10) (C := fun x => Hold h x [own cd90 a2 x5.1.length c2 x5.1, own cd90 a1 x2.length c1 x2]) (by kernel_rfl) H8 (L' := [(3, .slice a1 x2.length c1), (4, .int .i64 x3.1), (5, .int .i64 x3.2.1), (6, .int .i64 x3.2.2.1), (7, .int .i64 x3.2.2.2), (8, .int .i64 x4.1), (9, .int .i64 x4.2.1), (10, .int .i64 x4.2.2.1), (11, .int .i64 x4.2.2.2), (12, .slice a2 x5.1.length c2), (13, .int .i64 x5.2.1), (14, .int .i64 x5.2.2.1), (15, .int .i64 x5.2.2.2), (16, .bool x6.1), (17, .int .i64 x6.2)]) ?_ (fun h5 H9 => ?_)
  ·refine Zb [.slice a2 x5.1.length c2, .int .i64 x5.2.1, .int .i64 x5.2.2.1, .int .i64 x5.2.2.2] 0 ?_
   refine Zy (.tuple #[.bool x6.1, .int .i64 x6.2]) (Y_call (f := 18) (args := #[.slice a2 x5.1.length c2, .int .i64 x5.2.1, .int .i64 x5.2.2.1, .int .i64 x5.2.2.2]) (v := .tuple #[.bool x6.1, .int .i64 x6.2]) (by kernel_rfl) fun hx Hx => (w_impl_IsRepeat hx x5.1 a2 c2 (Hx.rd 0 rfl) x5.2.1 x5.2.2.1 x5.2.2.2 _ _ hx6).mono fun _ _ ⟨e, H'⟩ => ⟨e, Hx.call H' rfl⟩) ?_
   refine Zb [.tuple #[.bool x6.1, .int .i64 x6.2], .bool x6.1, .int .i64 x6.2, .bool x6.1, .int .i64 x6.2] 5 ?_
   exact Zd [3, 4, 5, 6, 7, 8, 9, 10, 11, 12, 13, 14, 15, 16, 17]
  have H10 : Hold h h5 [own cd90 a2 x5.1.length c2 x5.1, own cd90 a1 x2.length c1 x2] := H9
  refine Zs ?_
  obtain ⟨x7, hx7, hF⟩ := M.bind_some hF
  refine Run_regC (j := 10) (C := fun x => Hold h x [own cd90 a2 x5.1.length c2 x5.1, own cd90 a1 x2.length c1 x2]) (by kernel_rfl) H10 (L' := [(3, .slice a1 x2.length c1), (4, .int .i64 x3.1), (5, .int .i64 x3.2.1), (6, .int .i64 x3.2.2.1), (7, .int .i64 x3.2.2.2), (8, .int .i64 x4.1), (9, .int .i64 x4.2.1), (10, .int .i64 x4.2.2.1), (11, .int .i64 x4.2.2.2), (16, .bool x6.1), (17, .int .i64 x6.2), (18, .bool x7.1), (19, .int .i64 x7.2)]) ?_ (fun h6 H11 => ?_)
  ·refine Zb [.slice a2 x5.1.length c2, .int .i64 x5.2.1, .int .i64 x5.2.2.1, .int .i64 x5.2.2.2] 0 ?_
   refine Zy (.tuple #[.bool x7.1, .int .i64 x7.2]) (Y_call (f := 19) (args := #[.slice a2 x5.1.length c2, .int .i64 x5.2.1, .int .i64 x5.2.2.1, .int .i64 x5.2.2.2]) (v := .tuple #[.bool x7.1, .int .i64 x7.2]) (by kernel_rfl) fun hx Hx => (w_spec_IsRepeat hx x5.1 a2 c2 (Hx.rd 0 rfl) x5.2.1 x5.2.2.1 x5.2.2.2 _ _ hx7).mono fun _ _ ⟨e, H'⟩ => ⟨e, Hx.call H' rfl⟩) ?_
   refine Zb [.tuple #[.bool x7.1, .int .i64 x7.2], .bool x7.1, .int .i64 x7.2, .bool x7.1, .int .i64 x7.2] 5 ?_
   exact Zd [3, 4, 5, 6, 7, 8, 9, 10, 11, 16, 17, 18, 19]
  have H12 : Hold h h6 [own cd90 a2 x5.1.length c2 x5.1, own cd90 a1 x2.length c1 x2] := H11
  refine Zs ?_
  refine Zs ?_
  refine Zg 28 [(3, .slice a1 x2.length c1), (4, .int .i64 x3.1), (5, .int .i64 x3.2.1), (6, .int .i64 x3.2.2.1), (7, .int .i64 x3.2.2.2), (98, .bool ((((((x3.2.2.2 != x4.2.2.2) || (x3.1 != x4.1)) || (x3.2.1 != x4.2.1)) || (x3.2.2.1 != x4.2.2.1)) || (x6.2 != x7.2)) || (!(x6.1 == x7.1))))] ?_ ?_
  ·refine Zb [.int .i64 x3.2.2.2, .int .i64 x4.2.2.2, .bool (x3.2.2.2 != x4.2.2.2)] 0 ?_
   refine QRun_seq 8 [(3, .slice a1 x2.length c1), (4, .int .i64 x3.1), (5, .int .i64 x3.2.1), (6, .int .i64 x3.2.2.1), (7, .int .i64 x3.2.2.2), (9, .int .i64 x4.2.1), (10, .int .i64 x4.2.2.1), (16, .bool x6.1), (17, .int .i64 x6.2), (18, .bool x7.1), (19, .int .i64 x7.2), (78, .bool ((x3.2.2.2 != x4.2.2.2) || (x3.1 != x4.1)))] ?_ ?_
   ·rcases Bool.eq_false_or_eq_true (x3.2.2.2 != x4.2.2.2) with hb2 | hb2
    ·refine Zv (x3.2.2.2 != x4.2.2.2) true hb2 ?_
     refine Zn ?_
     refine Zn ?_
     refine Zn ?_
     refine QRun_bool true ((x3.2.2.2 != x4.2.2.2) || (x3.1 != x4.1)) (by kernel_rfl) (fun w => by kernel_rfl) (by rw [hb2]; rfl) ?_
     exact Zd [3, 4, 5, 6, 7, 9, 10, 16, 17, 18, 19, 78]
    ·refine Zv (x3.2.2.2 != x4.2.2.2) false hb2 ?_
     refine Zb [.int .i64 x3.1, .int .i64 x4.1, .bool (x3.1 != x4.1)] 4 ?_
     refine QRun_bool (x3.1 != x4.1) ((x3.2.2.2 != x4.2.2.2) || (x3.1 != x4.1)) (by kernel_rfl) (fun w => by kernel_rfl) (by rw [hb2]; rfl) ?_
     exact Zd [3, 4, 5, 6, 7, 9, 10, 16, 17, 18, 19, 78]
   refine QRun_seq 13 [(3, .slice a1 x2.length c1), (4, .int .i64 x3.1), (5, .int .i64 x3.2.1), (6, .int .i64 x3.2.2.1), (7, .int .i64 x3.2.2.2), (10, .int .i64 x4.2.2.1), (16, .bool x6.1), (17, .int .i64 x6.2), (18, .bool x7.1), (19, .int .i64 x7.2), (83, .bool (((x3.2.2.2 != x4.2.2.2) || (x3.1 != x4.1)) || (x3.2.1 != x4.2.1)))] ?_ ?_
   ·rcases Bool.eq_false_or_eq_true ((x3.2.2.2 != x4.2.2.2) || (x3.1 != x4.1)) with hb3 | hb3
    ·refine Zv ((x3.2.2.2 != x4.2.2.2) || (x3.1 != x4.1)) true hb3 ?_
     refine Zn ?_
     refine Zn ?_
     refine Zn ?_
     refine QRun_bool true (((x3.2.2.2 != x4.2.2.2) || (x3.1 != x4.1)) || (x3.2.1 != x4.2.1)) (by kernel_rfl) (fun w => by kernel_rfl) (by rw [hb3]; rfl) ?_
     exact Zd [3, 4, 5, 6, 7, 10, 16, 17, 18, 19, 83]
    ·refine Zv ((x3.2.2.2 != x4.2.2.2) || (x3.1 != x4.1)) false hb3 ?_
     refine Zb [.int .i64 x3.2.1, .int .i64 x4.2.1, .bool (x3.2.1 != x4.2.1)] 9 ?_
     refine QRun_bool (x3.2.1 != x4.2.1) (((x3.2.2.2 != x4.2.2.2) || (x3.1 != x4.1)) || (x3.2.1 != x4.2.1)) (by kernel_rfl) (fun w => by kernel_rfl) (by rw [hb3]; rfl) ?_
     exact Zd [3, 4, 5, 6, 7, 10, 16, 17, 18, 19, 83]
   refine QRun_seq 18 [(3, .slice a1 x2.length c1), (4, .int .i64 x3.1), (5, .int .i64 x3.2.1), (6, .int .i64 x3.2.2.1), (7, .int .i64 x3.2.2.2), (16, .bool x6.1), (17, .int .i64 x6.2), (18, .bool x7.1), (19, .int .i64 x7.2), (88, .bool ((((x3.2.2.2 != x4.2.2.2) || (x3.1 != x4.1)) || (x3.2.1 != x4.2.1)) || (x3.2.2.1 != x4.2.2.1)))] ?_ ?_
   ·rcases Bool.eq_false_or_eq_true (((x3.2.2.2 != x4.2.2.2) || (x3.1 != x4.1)) || (x3.2.1 != x4.2.1)) with hb4 | hb4
    ·refine Zv (((x3.2.2.2 != x4.2.2.2) || (x3.1 != x4.1)) || (x3.2.1 != x4.2.1)) true hb4 ?_
     refine Zn ?_
     refine Zn ?_
     refine Zn ?_
     refine QRun_bool true ((((x3.2.2.2 != x4.2.2.2) || (x3.1 != x4.1)) || (x3.2.1 != x4.2.1)) || (x3.2.2.1 != x4.2.2.1)) (by kernel_rfl) (fun w => by kernel_rfl) (by rw [hb4]; rfl) ?_
     exact Zd [3, 4, 5, 6, 7, 16, 17, 18, 19, 88]
    ·refine Zv (((x3.2.2.2 != x4.2.2.2) || (x3.1 != x4.1)) || (x3.2.1 != x4.2.1)) false hb4 ?_
     refine Zb [.int .i64 x3.2.2.1, .int .i64 x4.2.2.1, .bool (x3.2.2.1 != x4.2.2.1)] 14 ?_
     refine QRun_bool (x3.2.2.1 != x4.2.2.1) ((((x3.2.2.2 != x4.2.2.2) || (x3.1 != x4.1)) || (x3.2.1 != x4.2.1)) || (x3.2.2.1 != x4.2.2.1)) (by kernel_rfl) (fun w => by kernel_rfl) (by rw [hb4]; rfl) ?_
     exact Zd [3, 4, 5, 6, 7, 16, 17, 18, 19, 88]
   refine QRun_seq 23 [(3, .slice a1 x2.length c1), (4, .int .i64 x3.1), (5, .int .i64 x3.2.1), (6, .int .i64 x3.2.2.1), (7, .int .i64 x3.2.2.2), (16, .bool x6.1), (18, .bool x7.1), (93, .bool (((((x3.2.2.2 != x4.2.2.2) || (x3.1 != x4.1)) || (x3.2.1 != x4.2.1)) || (x3.2.2.1 != x4.2.2.1)) || (x6.2 != x7.2)))] ?_ ?_
   ·rcases Bool.eq_false_or_eq_true ((((x3.2.2.2 != x4.2.2.2) || (x3.1 != x4.1)) || (x3.2.1 != x4.2.1)) || (x3.2.2.1 != x4.2.2.1)) with hb5 | hb5
    ·refine Zv ((((x3.2.2.2 != x4.2.2.2) || (x3.1 != x4.1)) || (x3.2.1 != x4.2.1)) || (x3.2.2.1 != x4.2.2.1)) true hb5 ?_
     refine Zn ?_
     refine Zn ?_
     refine Zn ?_
     refine QRun_bool true (((((x3.2.2.2 != x4.2.2.2) || (x3.1 != x4.1)) || (x3.2.1 != x4.2.1)) || (x3.2.2.1 != x4.2.2.1)) || (x6.2 != x7.2)) (by kernel_rfl) (fun w => by kernel_rfl) (by rw [hb5]; rfl) ?_
     exact Zd [3, 4, 5, 6, 7, 16, 18, 93]
    ·refine Zv ((((x3.2.2.2 != x4.2.2.2) || (x3.1 != x4.1)) || (x3.2.1 != x4.2.1)) || (x3.2.2.1 != x4.2.2.1)) false hb5 ?_
     refine Zb [.int .i64 x6.2, .int .i64 x7.2, .bool (x6.2 != x7.2)] 19 ?_
     refine QRun_bool (x6.2 != x7.2) (((((x3.2.2.2 != x4.2.2.2) || (x3.1 != x4.1)) || (x3.2.1 != x4.2.1)) || (x3.2.2.1 != x4.2.2.1)) || (x6.2 != x7.2)) (by kernel_rfl) (fun w => by kernel_rfl) (by rw [hb5]; rfl) ?_
     exact Zd [3, 4, 5, 6, 7, 16, 18, 93]
   refine QRun_seq 28 [(3, .slice a1 x2.length c1), (4, .int .i64 x3.1), (5, .int .i64 x3.2.1), (6, .int .i64 x3.2.2.1), (7, .int .i64 x3.2.2.2), (98, .bool ((((((x3.2.2.2 != x4.2.2.2) || (x3.1 != x4.1)) || (x3.2.1 != x4.2.1)) || (x3.2.2.1 != x4.2.2.1)) || (x6.2 != x7.2)) || (!(x6.1 == x7.1))))] ?_ ?_
   ·rcases Bool.eq_false_or_eq_true (((((x3.2.2.2 != x4.2.2.2) || (x3.1 != x4.1)) || (x3.2.1 != x4.2.1)) || (x3.2.2.1 != x4.2.2.1)) || (x6.2 != x7.2)) with hb6 | hb6
    ·refine Zv (((((x3.2.2.2 != x4.2.2.2) || (x3.1 != x4.1)) || (x3.2.1 != x4.2.1)) || (x3.2.2.1 != x4.2.2.1)) || (x6.2 != x7.2)) true hb6 ?_
     refine Zn ?_
     refine Zn ?_
     refine Zn ?_
     refine QRun_bool true ((((((x3.2.2.2 != x4.2.2.2) || (x3.1 != x4.1)) || (x3.2.1 != x4.2.1)) || (x3.2.2.1 != x4.2.2.1)) || (x6.2 != x7.2)) || (!(x6.1 == x7.1))) (by kernel_rfl) (fun w => by kernel_rfl) (by rw [hb6]; rfl) ?_
     exact Zd [3, 4, 5, 6, 7, 98]
    ·refine Zv (((((x3.2.2.2 != x4.2.2.2) || (x3.1 != x4.1)) || (x3.2.1 != x4.2.1)) || (x3.2.2.1 != x4.2.2.1)) || (x6.2 != x7.2)) false hb6 ?_
     refine Zb [.bool x6.1, .bool x7.1, .bool (!(x6.1 == x7.1))] 24 ?_
     refine QRun_bool (!(x6.1 == x7.1)) ((((((x3.2.2.2 != x4.2.2.2) || (x3.1 != x4.1)) || (x3.2.1 != x4.2.1)) || (x3.2.2.1 != x4.2.2.1)) || (x6.2 != x7.2)) || (!(x6.1 == x7.1))) (by kernel_rfl) (fun w => by kernel_rfl) (by rw [hb6]; rfl) ?_
     exact Zd [3, 4, 5, 6, 7, 98]
   exact Zd [3, 4, 5, 6, 7, 98]
  refine Zc ((((((x3.2.2.2 != x4.2.2.2) || (x3.1 != x4.1)) || (x3.2.1 != x4.2.1)) || (x3.2.2.1 != x4.2.2.1)) || (x6.2 != x7.2)) || (!(x6.1 == x7.1))) (fun hb7 => ?_) (fun hb7 => ?_)
  ·have hF := (M.ite_some hF).1 hb7
   refine Zs ?_
   refine Zq [.bool false] [2] [(2, .bool false)] ?_
   have hF := M.ret_some hF
   subst hF
   have H13 : Hold h h6 [] := H12.pk []
   exact Run_ret1 rfl (Zt (.bool false)) ⟨rfl, H13⟩
  ·have hF := (M.ite_some hF).2 hb7
   refine Run_skip ?_
   refine Zs ?_
   refine Zs ?_
   refine Zq [.int .i64 x3.2.2.2, .bool (x3.2.2.2 != 0)] [3, 4, 5, 6, 100] [(3, .slice a1 x2.length c1), (4, .int .i64 x3.1), (5, .int .i64 x3.2.1), (6, .int .i64 x3.2.2.1), (100, .bool (x3.2.2.2 != 0))] ?_
   refine Zc (x3.2.2.2 != 0) (fun hb8 => ?_) (fun hb8 => ?_)
   ·have hF := (M.ite_some hF).1 hb8
    refine Zs ?_
    refine Zq [.bool true] [2] [(2, .bool true)] ?_
    have hF := M.ret_some hF
    subst hF
    have H14 : Hold h h6 [] := H12.pk []
    exact Run_ret1 rfl (Zt (.bool true)) ⟨rfl, H14⟩
   ·have hF := (M.ite_some hF).2 hb8
    refine Run_skip ?_
    refine Zs ?_
    obtain ⟨x13, hx8, hF⟩ := M.bind_some hF
    refine Run_regC (j := 10) (C := fun x => Hold h x [own cd90 a2 x5.1.length c2 x5.1, own cd90 a1 x2.length c1 x2]) (by kernel_rfl) H12 (L' := [(3, .slice a1 x2.length c1), (4, .int .i64 x3.1), (5, .int .i64 x3.2.1), (6, .int .i64 x3.2.2.1), (20, .bool x13.1), (21, .int .i64 x13.2)]) ?_ (fun h7 H15 => ?_)
    ·refine Zb [.slice a1 x2.length c1, .int .i64 x3.1, .int .i64 x3.2.1, .int .i64 x3.2.2.1] 0 ?_
     refine Zy (.tuple #[.bool x13.1, .int .i64 x13.2]) (Y_call (f := 18) (args := #[.slice a1 x2.length c1, .int .i64 x3.1, .int .i64 x3.2.1, .int .i64 x3.2.2.1]) (v := .tuple #[.bool x13.1, .int .i64 x13.2]) (by kernel_rfl) fun hx Hx => (w_impl_IsRepeat hx x2 a1 c1 (Hx.rd 1 rfl) x3.1 x3.2.1 x3.2.2.1 _ _ hx8).mono fun _ _ ⟨e, H'⟩ => ⟨e, Hx.call H' rfl⟩) ?_
     refine Zb [.tuple #[.bool x13.1, .int .i64 x13.2], .bool x13.1, .int .i64 x13.2, .bool x13.1, .int .i64 x13.2] 5 ?_
     exact Zd [3, 4, 5, 6, 20, 21]
    have H16 : Hold h h7 [own cd90 a2 x5.1.length c2 x5.1, own cd90 a1 x2.length c1 x2] := H15
    refine Zs ?_
    refine Zs ?_
    refine Zg 6 [(3, .slice a1 x2.length c1), (4, .int .i64 x3.1), (5, .int .i64 x3.2.1), (6, .int .i64 x3.2.2.1), (114, .bool ((x13.2 != 0) || (!x13.1)))] ?_ ?_
    ·refine Zb [.int .i64 x13.2, .bool (x13.2 != 0)] 0 ?_
     refine QRun_seq 6 [(3, .slice a1 x2.length c1), (4, .int .i64 x3.1), (5, .int .i64 x3.2.1), (6, .int .i64 x3.2.2.1), (114, .bool ((x13.2 != 0) || (!x13.1)))] ?_ ?_
     ·rcases Bool.eq_false_or_eq_true (x13.2 != 0) with hb9 | hb9
      ·refine Zv (x13.2 != 0) true hb9 ?_
       refine Zn ?_
       refine Zn ?_
       refine QRun_bool true ((x13.2 != 0) || (!x13.1)) (by kernel_rfl) (fun w => by kernel_rfl) (by rw [hb9]; rfl) ?_
       exact Zd [3, 4, 5, 6, 114]
      ·refine Zv (x13.2 != 0) false hb9 ?_
       refine Zb [.bool x13.1, .bool (!x13.1)] 3 ?_
       refine QRun_bool (!x13.1) ((x13.2 != 0) || (!x13.1)) (by kernel_rfl) (fun w => by kernel_rfl) (by rw [hb9]; rfl) ?_
       exact Zd [3, 4, 5, 6, 114]
     exact Zd [3, 4, 5, 6, 114]
    refine Zc ((x13.2 != 0) || (!x13.1)) (fun hb10 => ?_) (fun hb10 => ?_)
    ·have hF := (M.ite_some hF).1 hb10
     refine Zs ?_
     refine Zq [.bool false] [2] [(2, .bool false)] ?_
     have hF := M.ret_some hF
     subst hF
     have H17 : Hold h h7 [] := H16.pk []
     exact Run_ret1 rfl (Zt (.bool false)) ⟨rfl, H17⟩
    ·have hF := (M.ite_some hF).2 hb10
     refine Run_skip ?_
     refine Zs ?_
     refine Zs ?_
     refine Zq [.int .i64 x3.1, .int .i64 x3.2.1, .int .i64 (w64 (x3.1 + x3.2.1)), .bool (decide ((w64 (x3.1 + x3.2.1)) < 100))] [3, 4, 5, 6, 118] [(3, .slice a1 x2.length c1), (4, .int .i64 x3.1), (5, .int .i64 x3.2.1), (6, .int .i64 x3.2.2.1), (118, .bool (decide ((w64 (x3.1 + x3.2.1)) < 100)))] ?_
     refine Zc (decide ((w64 (x3.1 + x3.2.1)) < 100)) (fun hb11 => ?_) (fun hb11 => ?_)
     ·have hF := (M.ite_some hF).1 hb11
      refine Zs ?_
      obtain ⟨x15, hx9, hF⟩ := M.bind_some hF
      refine Run_regC (j := 11) (C := fun x => Hold h x [own cd90 a2 x5.1.length c2 x5.1, own cd90 a1 x2.length c1 x2]) (by kernel_rfl) H16 (L' := [(3, .slice a1 x2.length c1), (5, .int .i64 x3.2.1), (6, .int .i64 x3.2.2.1), (22, .bool x15.1), (23, .int .i64 x15.2)]) ?_ (fun h8 H18 => ?_)
      ·refine Zb [.slice a1 x2.length c1, .int .i64 x3.1, .int .i64 (w64 (x3.1 + 1)), .int .i64 x3.2.1, .int .i64 x3.2.2.1] 0 ?_
       refine Zy (.tuple #[.bool x15.1, .int .i64 x15.2]) (Y_call (f := 18) (args := #[.slice a1 x2.length c1, .int .i64 (w64 (x3.1 + 1)), .int .i64 x3.2.1, .int .i64 x3.2.2.1]) (v := .tuple #[.bool x15.1, .int .i64 x15.2]) (by kernel_rfl) fun hx Hx => (w_impl_IsRepeat hx x2 a1 c1 (Hx.rd 1 rfl) (w64 (x3.1 + 1)) x3.2.1 x3.2.2.1 _ _ hx9).mono fun _ _ ⟨e, H'⟩ => ⟨e, Hx.call H' rfl⟩) ?_
       refine Zb [.tuple #[.bool x15.1, .int .i64 x15.2], .bool x15.1, .int .i64 x15.2, .bool x15.1, .int .i64 x15.2] 6 ?_
       exact Zd [3, 5, 6, 22, 23]
      have H19 : Hold h h8 [own cd90 a2 x5.1.length c2 x5.1, own cd90 a1 x2.length c1 x2] := H18
      refine Zs ?_
      refine Zg 10 [(3, .slice a1 x2.length c1), (5, .int .i64 x3.2.1), (6, .int .i64 x3.2.2.1), (137, .bool ((x15.2 != 3) && ((x15.2 != 0) || (!x15.1))))] ?_ ?_
      ·refine Zb [.int .i64 x15.2, .bool (x15.2 != 3)] 0 ?_
       refine QRun_seq 10 [(3, .slice a1 x2.length c1), (5, .int .i64 x3.2.1), (6, .int .i64 x3.2.2.1), (137, .bool ((x15.2 != 3) && ((x15.2 != 0) || (!x15.1))))] ?_ ?_
       ·rcases Bool.eq_false_or_eq_true (x15.2 != 3) with hb12 | hb12
        ·refine Zv (x15.2 != 3) true hb12 ?_
         refine Zb [.int .i64 x15.2, .bool (x15.2 != 0)] 3 ?_
         refine QRun_seq 9 [(3, .slice a1 x2.length c1), (5, .int .i64 x3.2.1), (6, .int .i64 x3.2.2.1), (130, .bool true), (136, .bool ((x15.2 != 0) || (!x15.1)))] ?_ ?_
         ·rcases Bool.eq_false_or_eq_true (x15.2 != 0) with hb13 | hb13
          ·refine Zv (x15.2 != 0) true hb13 ?_
           refine Zn ?_
           refine Zn ?_
           refine QRun_bool true ((x15.2 != 0) || (!x15.1)) (by kernel_rfl) (fun w => by kernel_rfl) (by rw [hb13]; rfl) ?_
           exact Zd [3, 5, 6, 130, 136]
          ·refine Zv (x15.2 != 0) false hb13 ?_
           refine Zb [.bool x15.1, .bool (!x15.1)] 6 ?_
           refine QRun_bool (!x15.1) ((x15.2 != 0) || (!x15.1)) (by kernel_rfl) (fun w => by kernel_rfl) (by rw [hb13]; rfl) ?_
           exact Zd [3, 5, 6, 130, 136]
         refine QRun_bool ((x15.2 != 0) || (!x15.1)) ((x15.2 != 3) && ((x15.2 != 0) || (!x15.1))) (by kernel_rfl) (fun w => by kernel_rfl) (by rw [hb12]; rfl) ?_
         exact Zd [3, 5, 6, 137]
        ·refine Zv (x15.2 != 3) false hb12 ?_
         refine Zn ?_
         refine Zn ?_
         refine Zn ?_
         refine Zn ?_
         refine Zn ?_
         refine Zn ?_
         refine QRun_bool false ((x15.2 != 3) && ((x15.2 != 0) || (!x15.1))) (by kernel_rfl) (fun w => by kernel_rfl) (by rw [hb12]; rfl) ?_
         exact Zd [3, 5, 6, 137]
       exact Zd [3, 5, 6, 137]
      refine Zc ((x15.2 != 3) && ((x15.2 != 0) || (!x15.1))) (fun hb14 => ?_) (fun hb14 => ?_)
      ·have hF := (M.ite_some hF).1 hb14
       refine Zs ?_
       refine Zq [.bool false] [2] [(2, .bool false)] ?_
       have hF := M.ret_some hF
       subst hF
       have H20 : Hold h h8 [] := H19.pk []
       exact Run_ret1 rfl (Zt (.bool false)) ⟨rfl, H20⟩
      ·have hF := (M.ite_some hF).2 hb14
       refine Run_skip ?_
       refine Zs ?_
       obtain ⟨x18, hx10, hF⟩ := M.bind_some hF
       refine Run_regC (j := 7) (C := fun x => Hold h x [own cd90 a2 x5.1.length c2 x5.1, own cd90 a1 x2.length c1 x2]) (by kernel_rfl) H19 (L' := [(3, .slice a1 x2.length c1), (5, .int .i64 x3.2.1), (6, .int .i64 x3.2.2.1), (24, .bool x18.1), (25, .int .i64 x18.2)]) ?_ (fun h9 H21 => ?_)
       ·refine Zb [.slice a1 x2.length c1] 0 ?_
        refine Zy (.tuple #[.bool x18.1, .int .i64 x18.2]) (Y_call (f := 20) (args := #[.slice a1 x2.length c1]) (v := .tuple #[.bool x18.1, .int .i64 x18.2]) (by kernel_rfl) fun hx Hx => (w_impl_IsIrreducible hx x2 a1 c1 (Hx.rd 1 rfl) _ _ hx10).mono fun _ _ ⟨e, H'⟩ => ⟨e, Hx.call H' rfl⟩) ?_
        refine Zb [.tuple #[.bool x18.1, .int .i64 x18.2], .bool x18.1, .int .i64 x18.2, .bool x18.1, .int .i64 x18.2] 2 ?_
        exact Zd [3, 5, 6, 24, 25]
       have H22 : Hold h h9 [own cd90 a2 x5.1.length c2 x5.1, own cd90 a1 x2.length c1 x2] := H21
       refine Zs ?_
       refine Run_ops ?_
       refine Zr [.slice a1 x2.length c1] 0 ?_
       obtain ⟨x19, hx11, hF⟩ := M.bind_some hF
       refine Ze ?_
       refine ZC 21 #[.slice a1 x2.length c1] (w_impl_CycleMean h9 x2 a1 c1 (H22.rd 1 rfl) _ _ hx11) (fun v3 h10 hp3 => ?_)
       obtain ⟨rfl, H23⟩ := hp3
       have H24 : Hold h h10 [own cd90 a2 x5.1.length c2 x5.1, own cd90 a1 x2.length c1 x2] := H22.call H23 rfl
       refine Zr [.tuple #[.agg #[.int .i64 x19.1.Num, .int .i64 x19.1.Den], .int .i64 x19.2], .agg #[.int .i64 x19.1.Num, .int .i64 x19.1.Den], .int .i64 x19.2] 2 ?_
       refine Ze ?_
       refine E_box (ty := 47) (cs := [.int .i64 0, .int .i64 0]) H24 (fun w => by kernel_rfl) (fun b1 h11 H25 => ?_)
       refine Ze ?_
       refine ZP 47 0 [.int .i64 x19.1.Num, .int .i64 x19.1.Den] (.agg #[.int .i64 x19.1.Num, .int .i64 x19.1.Den]) H25 (fun h12 H26 => ?_)
       refine Zr [.int .i64 x19.2] 7 ?_
       refine Zx ?_
       refine Zk [3, 5, 6, 24, 25, 26, 27] [(3, .slice a1 x2.length c1), (5, .int .i64 x3.2.1), (6, .int .i64 x3.2.2.1), (24, .bool x18.1), (25, .int .i64 x18.2), (26, pV b1), (27, .int .i64 x19.2)] ?_
       refine Zs ?_
       refine Zs ?_
       refine Zg 10 [(3, .slice a1 x2.length c1), (5, .int .i64 x3.2.1), (6, .int .i64 x3.2.2.1), (25, .int .i64 x18.2), (26, pV b1), (157, .bool (((x18.2 != 0) || (x19.2 != 0)) || (!x18.1)))] ?_ ?_
       ·refine Zb [.int .i64 x18.2, .bool (x18.2 != 0)] 0 ?_
        refine QRun_seq 6 [(3, .slice a1 x2.length c1), (5, .int .i64 x3.2.1), (6, .int .i64 x3.2.2.1), (24, .bool x18.1), (25, .int .i64 x18.2), (26, pV b1), (153, .bool ((x18.2 != 0) || (x19.2 != 0)))] ?_ ?_
        ·rcases Bool.eq_false_or_eq_true (x18.2 != 0) with hb15 | hb15
         ·refine Zv (x18.2 != 0) true hb15 ?_
          refine Zn ?_
          refine Zn ?_
          refine QRun_bool true ((x18.2 != 0) || (x19.2 != 0)) (by kernel_rfl) (fun w => by kernel_rfl) (by rw [hb15]; rfl) ?_
          exact Zd [3, 5, 6, 24, 25, 26, 153]
         ·refine Zv (x18.2 != 0) false hb15 ?_
          refine Zb [.int .i64 x19.2, .bool (x19.2 != 0)] 3 ?_
          refine QRun_bool (x19.2 != 0) ((x18.2 != 0) || (x19.2 != 0)) (by kernel_rfl) (fun w => by kernel_rfl) (by rw [hb15]; rfl) ?_
          exact Zd [3, 5, 6, 24, 25, 26, 153]
        refine QRun_seq 10 [(3, .slice a1 x2.length c1), (5, .int .i64 x3.2.1), (6, .int .i64 x3.2.2.1), (25, .int .i64 x18.2), (26, pV b1), (157, .bool (((x18.2 != 0) || (x19.2 != 0)) || (!x18.1)))] ?_ ?_
        ·rcases Bool.eq_false_or_eq_true ((x18.2 != 0) || (x19.2 != 0)) with hb16 | hb16
         ·refine Zv ((x18.2 != 0) || (x19.2 != 0)) true hb16 ?_
          refine Zn ?_
          refine Zn ?_
          refine QRun_bool true (((x18.2 != 0) || (x19.2 != 0)) || (!x18.1)) (by kernel_rfl) (fun w => by kernel_rfl) (by rw [hb16]; rfl) ?_
          exact Zd [3, 5, 6, 25, 26, 157]
         ·refine Zv ((x18.2 != 0) || (x19.2 != 0)) false hb16 ?_
          refine Zb [.bool x18.1, .bool (!x18.1)] 7 ?_
          refine QRun_bool (!x18.1) (((x18.2 != 0) || (x19.2 != 0)) || (!x18.1)) (by kernel_rfl) (fun w => by kernel_rfl) (by rw [hb16]; rfl) ?_
          exact Zd [3, 5, 6, 25, 26, 157]
        exact Zd [3, 5, 6, 25, 26, 157]
       refine Zc (((x18.2 != 0) || (x19.2 != 0)) || (!x18.1)) (fun hb17 => ?_) (fun hb17 => ?_)
       ·have hF := (M.ite_some hF).1 hb17
        refine Zs ?_
        refine Zq [.int .i64 x18.2, .bool (x18.2 == 0), .bool (x18.2 == 0)] [2] [(2, .bool (x18.2 == 0))] ?_
        have hF := M.ret_some hF
        subst hF
        have H27 : Hold h h12 [] := H26.pk []
        exact Run_ret1 rfl (Zt (.bool (x18.2 == 0))) ⟨rfl, H27⟩
       ·have hF := (M.ite_some hF).2 hb17
        refine Run_skip ?_
        refine Zs ?_
        obtain ⟨x22, hx12, hF⟩ := M.bind_some hF
        refine Run_regC (j := 7) (C := fun x => Hold h x [box b1 47 [.int .i64 x19.1.Num, .int .i64 x19.1.Den], own cd90 a2 x5.1.length c2 x5.1, own cd90 a1 x2.length c1 x2]) (by kernel_rfl) H26 (L' := [(5, .int .i64 x3.2.1), (6, .int .i64 x3.2.2.1), (26, pV b1), (28, .int .i64 x22.1), (29, .int .i64 x22.2)]) ?_ (fun h13 H28 => ?_)
        ·refine Zb [.slice a1 x2.length c1] 0 ?_
         refine Zy (.tuple #[.int .i64 x22.1, .int .i64 x22.2]) (Y_call (f := 22) (args := #[.slice a1 x2.length c1]) (v := .tuple #[.int .i64 x22.1, .int .i64 x22.2]) (by kernel_rfl) fun hx Hx => (w_impl_Cyclicity hx x2 a1 c1 (Hx.rd 2 rfl) _ _ hx12).mono fun _ _ ⟨e, H'⟩ => ⟨e, Hx.call H' rfl⟩) ?_
         refine Zb [.tuple #[.int .i64 x22.1, .int .i64 x22.2], .int .i64 x22.1, .int .i64 x22.2, .int .i64 x22.1, .int .i64 x22.2] 2 ?_
         exact Zd [5, 6, 26, 28, 29]
        have H29 : Hold h h13 [box b1 47 [.int .i64 x19.1.Num, .int .i64 x19.1.Den], own cd90 a2 x5.1.length c2 x5.1, own cd90 a1 x2.length c1 x2] := H28
        refine Zs ?_
        refine Zg 19 [(2, .bool ((((w64 (x3.2.2.1 * x19.1.Den)) == (w64 (x3.2.1 * x19.1.Num))) && (x22.2 == 0)) && (x3.2.1 == x22.1)))] ?_ ?_
        ·refine Zb [.int .i64 x3.2.2.1, .pointer (some ⟨b1, 1, none⟩)] 0 ?_
         refine Zy (.int .i64 x19.1.Den) (Zl 2 (⟨b1, 1, none⟩) (.int .i64 x19.1.Den) (H29.cell 0 rfl rfl)) ?_
         refine Zb [.int .i64 (w64 (x3.2.2.1 * x19.1.Den)), .int .i64 x3.2.1, pV b1] 3 ?_
         refine Zy (.int .i64 x19.1.Num) (Zl 2 (⟨b1, 0, none⟩) (.int .i64 x19.1.Num) (H29.cell 0 rfl rfl)) ?_
         refine Zb [.int .i64 (w64 (x3.2.1 * x19.1.Num)), .bool ((w64 (x3.2.2.1 * x19.1.Den)) == (w64 (x3.2.1 * x19.1.Num)))] 7 ?_
         refine QRun_seq 13 [(5, .int .i64 x3.2.1), (28, .int .i64 x22.1), (177, .bool (((w64 (x3.2.2.1 * x19.1.Den)) == (w64 (x3.2.1 * x19.1.Num))) && (x22.2 == 0)))] ?_ ?_
         ·rcases Bool.eq_false_or_eq_true ((w64 (x3.2.2.1 * x19.1.Den)) == (w64 (x3.2.1 * x19.1.Num))) with hb18 | hb18
          ·refine Zv ((w64 (x3.2.2.1 * x19.1.Den)) == (w64 (x3.2.1 * x19.1.Num))) true hb18 ?_
           refine Zb [.int .i64 x22.2, .bool (x22.2 == 0)] 10 ?_
           refine QRun_bool (x22.2 == 0) (((w64 (x3.2.2.1 * x19.1.Den)) == (w64 (x3.2.1 * x19.1.Num))) && (x22.2 == 0)) (by kernel_rfl) (fun w => by kernel_rfl) (by rw [hb18]; rfl) ?_
           exact Zd [5, 28, 177]
          ·refine Zv ((w64 (x3.2.2.1 * x19.1.Den)) == (w64 (x3.2.1 * x19.1.Num))) false hb18 ?_
           refine Zn ?_
           refine Zn ?_
           refine QRun_bool false (((w64 (x3.2.2.1 * x19.1.Den)) == (w64 (x3.2.1 * x19.1.Num))) && (x22.2 == 0)) (by kernel_rfl) (fun w => by kernel_rfl) (by rw [hb18]; rfl) ?_
           exact Zd [5, 28, 177]
         refine QRun_seq 18 [(182, .bool ((((w64 (x3.2.2.1 * x19.1.Den)) == (w64 (x3.2.1 * x19.1.Num))) && (x22.2 == 0)) && (x3.2.1 == x22.1)))] ?_ ?_
         ·rcases Bool.eq_false_or_eq_true (((w64 (x3.2.2.1 * x19.1.Den)) == (w64 (x3.2.1 * x19.1.Num))) && (x22.2 == 0)) with hb19 | hb19
          ·refine Zv (((w64 (x3.2.2.1 * x19.1.Den)) == (w64 (x3.2.1 * x19.1.Num))) && (x22.2 == 0)) true hb19 ?_
           refine Zb [.int .i64 x3.2.1, .int .i64 x22.1, .bool (x3.2.1 == x22.1)] 14 ?_
           refine QRun_bool (x3.2.1 == x22.1) ((((w64 (x3.2.2.1 * x19.1.Den)) == (w64 (x3.2.1 * x19.1.Num))) && (x22.2 == 0)) && (x3.2.1 == x22.1)) (by kernel_rfl) (fun w => by kernel_rfl) (by rw [hb19]; rfl) ?_
           exact Zd [182]
          ·refine Zv (((w64 (x3.2.2.1 * x19.1.Den)) == (w64 (x3.2.1 * x19.1.Num))) && (x22.2 == 0)) false hb19 ?_
           refine Zn ?_
           refine Zn ?_
           refine Zn ?_
           refine QRun_bool false ((((w64 (x3.2.2.1 * x19.1.Den)) == (w64 (x3.2.1 * x19.1.Num))) && (x22.2 == 0)) && (x3.2.1 == x22.1)) (by kernel_rfl) (fun w => by kernel_rfl) (by rw [hb19]; rfl) ?_
           exact Zd [182]
         refine Zb [.bool ((((w64 (x3.2.2.1 * x19.1.Den)) == (w64 (x3.2.1 * x19.1.Num))) && (x22.2 == 0)) && (x3.2.1 == x22.1))] 18 ?_
         exact Zd [2]
        have hF := M.ret_some hF
        subst hF
        have H30 : Hold h h13 [] := H29.pk []
        exact Run_ret1 rfl (Zt (.bool ((((w64 (x3.2.2.1 * x19.1.Den)) == (w64 (x3.2.1 * x19.1.Num))) && (x22.2 == 0)) && (x3.2.1 == x22.1)))) ⟨rfl, H30⟩
     ·have hF := (M.ite_some hF).2 hb11
      refine Run_skip ?_
      refine Zs ?_
      obtain ⟨x25, hx13, hF⟩ := M.bind_some hF
      refine Run_regC (j := 7) (C := fun x => Hold h x [own cd90 a2 x5.1.length c2 x5.1, own cd90 a1 x2.length c1 x2]) (by kernel_rfl) H16 (L' := [(3, .slice a1 x2.length c1), (5, .int .i64 x3.2.1), (6, .int .i64 x3.2.2.1), (24, .bool x25.1), (25, .int .i64 x25.2)]) ?_ (fun h14 H31 => ?_)
      ·refine Zb [.slice a1 x2.length c1] 0 ?_
       refine Zy (.tuple #[.bool x25.1, .int .i64 x25.2]) (Y_call (f := 20) (args := #[.slice a1 x2.length c1]) (v := .tuple #[.bool x25.1, .int .i64 x25.2]) (by kernel_rfl) fun hx Hx => (w_impl_IsIrreducible hx x2 a1 c1 (Hx.rd 1 rfl) _ _ hx13).mono fun _ _ ⟨e, H'⟩ => ⟨e, Hx.call H' rfl⟩) ?_
       refine Zb [.tuple #[.bool x25.1, .int .i64 x25.2], .bool x25.1, .int .i64 x25.2, .bool x25.1, .int .i64 x25.2] 2 ?_
       exact Zd [3, 5, 6, 24, 25]
      have H32 : Hold h h14 [own cd90 a2 x5.1.length c2 x5.1, own cd90 a1 x2.length c1 x2] := H31
      refine Zs ?_
      refine Run_ops ?_
      refine Zr [.slice a1 x2.length c1] 0 ?_
      obtain ⟨x26, hx14, hF⟩ := M.bind_some hF
      refine Ze ?_
      refine ZC 21 #[.slice a1 x2.length c1] (w_impl_CycleMean h14 x2 a1 c1 (H32.rd 1 rfl) _ _ hx14) (fun v4 h15 hp4 => ?_)
      obtain ⟨rfl, H33⟩ := hp4
      have H34 : Hold h h15 [own cd90 a2 x5.1.length c2 x5.1, own cd90 a1 x2.length c1 x2] := H32.call H33 rfl
      refine Zr [.tuple #[.agg #[.int .i64 x26.1.Num, .int .i64 x26.1.Den], .int .i64 x26.2], .agg #[.int .i64 x26.1.Num, .int .i64 x26.1.Den], .int .i64 x26.2] 2 ?_
      refine Ze ?_
      refine E_box (ty := 47) (cs := [.int .i64 0, .int .i64 0]) H34 (fun w => by kernel_rfl) (fun b2 h16 H35 => ?_)
      refine Ze ?_
      refine ZP 47 0 [.int .i64 x26.1.Num, .int .i64 x26.1.Den] (.agg #[.int .i64 x26.1.Num, .int .i64 x26.1.Den]) H35 (fun h17 H36 => ?_)
      refine Zr [.int .i64 x26.2] 7 ?_
      refine Zx ?_
      refine Zk [3, 5, 6, 24, 25, 26, 27] [(3, .slice a1 x2.length c1), (5, .int .i64 x3.2.1), (6, .int .i64 x3.2.2.1), (24, .bool x25.1), (25, .int .i64 x25.2), (26, pV b2), (27, .int .i64 x26.2)] ?_
      refine Zs ?_
      refine Zs ?_
      refine Zg 10 [(3, .slice a1 x2.length c1), (5, .int .i64 x3.2.1), (6, .int .i64 x3.2.2.1), (25, .int .i64 x25.2), (26, pV b2), (157, .bool (((x25.2 != 0) || (x26.2 != 0)) || (!x25.1)))] ?_ ?_
      ·refine Zb [.int .i64 x25.2, .bool (x25.2 != 0)] 0 ?_
       refine QRun_seq 6 [(3, .slice a1 x2.length c1), (5, .int .i64 x3.2.1), (6, .int .i64 x3.2.2.1), (24, .bool x25.1), (25, .int .i64 x25.2), (26, pV b2), (153, .bool ((x25.2 != 0) || (x26.2 != 0)))] ?_ ?_
       ·rcases Bool.eq_false_or_eq_true (x25.2 != 0) with hb20 | hb20
        ·refine Zv (x25.2 != 0) true hb20 ?_
         refine Zn ?_
         refine Zn ?_
         refine QRun_bool true ((x25.2 != 0) || (x26.2 != 0)) (by kernel_rfl) (fun w => by kernel_rfl) (by rw [hb20]; rfl) ?_
         exact Zd [3, 5, 6, 24, 25, 26, 153]
        ·refine Zv (x25.2 != 0) false hb20 ?_
         refine Zb [.int .i64 x26.2, .bool (x26.2 != 0)] 3 ?_
         refine QRun_bool (x26.2 != 0) ((x25.2 != 0) || (x26.2 != 0)) (by kernel_rfl) (fun w => by kernel_rfl) (by rw [hb20]; rfl) ?_
         exact Zd [3, 5, 6, 24, 25, 26, 153]
       refine QRun_seq 10 [(3, .slice a1 x2.length c1), (5, .int .i64 x3.2.1), (6, .int .i64 x3.2.2.1), (25, .int .i64 x25.2), (26, pV b2), (157, .bool (((x25.2 != 0) || (x26.2 != 0)) || (!x25.1)))] ?_ ?_
       ·rcases Bool.eq_false_or_eq_true ((x25.2 != 0) || (x26.2 != 0)) with hb21 | hb21
        ·refine Zv ((x25.2 != 0) || (x26.2 != 0)) true hb21 ?_
         refine Zn ?_
         refine Zn ?_
         refine QRun_bool true (((x25.2 != 0) || (x26.2 != 0)) || (!x25.1)) (by kernel_rfl) (fun w => by kernel_rfl) (by rw [hb21]; rfl) ?_
         exact Zd [3, 5, 6, 25, 26, 157]
        ·refine Zv ((x25.2 != 0) || (x26.2 != 0)) false hb21 ?_
         refine Zb [.bool x25.1, .bool (!x25.1)] 7 ?_
         refine QRun_bool (!x25.1) (((x25.2 != 0) || (x26.2 != 0)) || (!x25.1)) (by kernel_rfl) (fun w => by kernel_rfl) (by rw [hb21]; rfl) ?_
         exact Zd [3, 5, 6, 25, 26, 157]
       exact Zd [3, 5, 6, 25, 26, 157]
      refine Zc (((x25.2 != 0) || (x26.2 != 0)) || (!x25.1)) (fun hb22 => ?_) (fun hb22 => ?_)
      ·have hF := (M.ite_some hF).1 hb22
       refine Zs ?_
       refine Zq [.int .i64 x25.2, .bool (x25.2 == 0), .bool (x25.2 == 0)] [2] [(2, .bool (x25.2 == 0))] ?_
       have hF := M.ret_some hF
       subst hF
       have H37 : Hold h h17 [] := H36.pk []
       exact Run_ret1 rfl (Zt (.bool (x25.2 == 0))) ⟨rfl, H37⟩
      ·have hF := (M.ite_some hF).2 hb22
       refine Run_skip ?_
       refine Zs ?_
       obtain ⟨x29, hx15, hF⟩ := M.bind_some hF
       refine Run_regC (j := 7) (C := fun x => Hold h x [box b2 47 [.int .i64 x26.1.Num, .int .i64 x26.1.Den], own cd90 a2 x5.1.length c2 x5.1, own cd90 a1 x2.length c1 x2]) (by kernel_rfl) H36 (L' := [(5, .int .i64 x3.2.1), (6, .int .i64 x3.2.2.1), (26, pV b2), (28, .int .i64 x29.1), (29, .int .i64 x29.2)]) ?_ (fun h18 H38 => ?_)
       ·refine Zb [.slice a1 x2.length c1] 0 ?_
        refine Zy (.tuple #[.int .i64 x29.1, .int .i64 x29.2]) (Y_call (f := 22) (args := #[.slice a1 x2.length c1]) (v := .tuple #[.int .i64 x29.1, .int .i64 x29.2]) (by kernel_rfl) fun hx Hx => (w_impl_Cyclicity hx x2 a1 c1 (Hx.rd 2 rfl) _ _ hx15).mono fun _ _ ⟨e, H'⟩ => ⟨e, Hx.call H' rfl⟩) ?_
        refine Zb [.tuple #[.int .i64 x29.1, .int .i64 x29.2], .int .i64 x29.1, .int .i64 x29.2, .int .i64 x29.1, .int .i64 x29.2] 2 ?_
        exact Zd [5, 6, 26, 28, 29]
       have H39 : Hold h h18 [box b2 47 [.int .i64 x26.1.Num, .int .i64 x26.1.Den], own cd90 a2 x5.1.length c2 x5.1, own cd90 a1 x2.length c1 x2] := H38
       refine Zs ?_
       refine Zg 19 [(2, .bool ((((w64 (x3.2.2.1 * x26.1.Den)) == (w64 (x3.2.1 * x26.1.Num))) && (x29.2 == 0)) && (x3.2.1 == x29.1)))] ?_ ?_
       ·refine Zb [.int .i64 x3.2.2.1, .pointer (some ⟨b2, 1, none⟩)] 0 ?_
        refine Zy (.int .i64 x26.1.Den) (Zl 2 (⟨b2, 1, none⟩) (.int .i64 x26.1.Den) (H39.cell 0 rfl rfl)) ?_
        refine Zb [.int .i64 (w64 (x3.2.2.1 * x26.1.Den)), .int .i64 x3.2.1, pV b2] 3 ?_
        refine Zy (.int .i64 x26.1.Num) (Zl 2 (⟨b2, 0, none⟩) (.int .i64 x26.1.Num) (H39.cell 0 rfl rfl)) ?_
        refine Zb [.int .i64 (w64 (x3.2.1 * x26.1.Num)), .bool ((w64 (x3.2.2.1 * x26.1.Den)) == (w64 (x3.2.1 * x26.1.Num)))] 7 ?_
        refine QRun_seq 13 [(5, .int .i64 x3.2.1), (28, .int .i64 x29.1), (177, .bool (((w64 (x3.2.2.1 * x26.1.Den)) == (w64 (x3.2.1 * x26.1.Num))) && (x29.2 == 0)))] ?_ ?_
        ·rcases Bool.eq_false_or_eq_true ((w64 (x3.2.2.1 * x26.1.Den)) == (w64 (x3.2.1 * x26.1.Num))) with hb23 | hb23
         ·refine Zv ((w64 (x3.2.2.1 * x26.1.Den)) == (w64 (x3.2.1 * x26.1.Num))) true hb23 ?_
          refine Zb [.int .i64 x29.2, .bool (x29.2 == 0)] 10 ?_
          refine QRun_bool (x29.2 == 0) (((w64 (x3.2.2.1 * x26.1.Den)) == (w64 (x3.2.1 * x26.1.Num))) && (x29.2 == 0)) (by kernel_rfl) (fun w => by kernel_rfl) (by rw [hb23]; rfl) ?_
          exact Zd [5, 28, 177]
         ·refine Zv ((w64 (x3.2.2.1 * x26.1.Den)) == (w64 (x3.2.1 * x26.1.Num))) false hb23 ?_
          refine Zn ?_
          refine Zn ?_
          refine QRun_bool false (((w64 (x3.2.2.1 * x26.1.Den)) == (w64 (x3.2.1 * x26.1.Num))) && (x29.2 == 0)) (by kernel_rfl) (fun w => by kernel_rfl) (by rw [hb23]; rfl) ?_
          exact Zd [5, 28, 177]
        refine QRun_seq 18 [(182, .bool ((((w64 (x3.2.2.1 * x26.1.Den)) == (w64 (x3.2.1 * x26.1.Num))) && (x29.2 == 0)) && (x3.2.1 == x29.1)))] ?_ ?_
        ·rcases Bool.eq_false_or_eq_true (((w64 (x3.2.2.1 * x26.1.Den)) == (w64 (x3.2.1 * x26.1.Num))) && (x29.2 == 0)) with hb24 | hb24
         ·refine Zv (((w64 (x3.2.2.1 * x26.1.Den)) == (w64 (x3.2.1 * x26.1.Num))) && (x29.2 == 0)) true hb24 ?_
          refine Zb [.int .i64 x3.2.1, .int .i64 x29.1, .bool (x3.2.1 == x29.1)] 14 ?_
          refine QRun_bool (x3.2.1 == x29.1) ((((w64 (x3.2.2.1 * x26.1.Den)) == (w64 (x3.2.1 * x26.1.Num))) && (x29.2 == 0)) && (x3.2.1 == x29.1)) (by kernel_rfl) (fun w => by kernel_rfl) (by rw [hb24]; rfl) ?_
          exact Zd [182]
         ·refine Zv (((w64 (x3.2.2.1 * x26.1.Den)) == (w64 (x3.2.1 * x26.1.Num))) && (x29.2 == 0)) false hb24 ?_
          refine Zn ?_
          refine Zn ?_
          refine Zn ?_
          refine QRun_bool false ((((w64 (x3.2.2.1 * x26.1.Den)) == (w64 (x3.2.1 * x26.1.Num))) && (x29.2 == 0)) && (x3.2.1 == x29.1)) (by kernel_rfl) (fun w => by kernel_rfl) (by rw [hb24]; rfl) ?_
          exact Zd [182]
        refine Zb [.bool ((((w64 (x3.2.2.1 * x26.1.Den)) == (w64 (x3.2.1 * x26.1.Num))) && (x29.2 == 0)) && (x3.2.1 == x29.1))] 18 ?_
        exact Zd [2]
       have hF := M.ret_some hF
       subst hF
       have H40 : Hold h h18 [] := H39.pk []
       exact Run_ret1 rfl (Zt (.bool ((((w64 (x3.2.2.1 * x26.1.Den)) == (w64 (x3.2.1 * x26.1.Num))) && (x29.2 == 0)) && (x3.2.1 == x29.1)))) ⟨rfl, H40⟩

end Go.Proofs.Ytelopfgolahlpaa
