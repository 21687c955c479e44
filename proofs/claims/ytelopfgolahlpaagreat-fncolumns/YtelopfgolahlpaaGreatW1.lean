/-
  Walks: each Go function, called with what reads as plain data, returns what its plain program computes.
  Conditions: None beyond the given statement.
-/
import Derived.Test.YtelopfgolahlpaaGreatW0
namespace Go.Proofs.YtelopfgolahlpaaGreat
open Go
attribute [local irreducible] setL setB opA fineI idleI fineB evB okB markB markBs readyB readyBs chainB lk rho pickL dropSlot tailOK
set_option maxRecDepth 100000
set_option maxHeartbeats 4000000
theorem w_impl_cycleMean (h : Heap) (a_ : List (List Int)) (aa_ : Option Addr) (ca_ : Nat) (ra_ : Rd cd24 h (Lt h) aa_ ca_ a_) (n : Nat) (r : TRatio × Bool) (hF : impl_cycleMean a_ n = some r) :
  Fn Tryz.prog 51 #[.slice aa_ a_.length ca_] h fun v h' => v = .tuple #[.agg #[.int .i64 r.1.Num, .int .i64 r.1.Den], .bool r.2] ∧ Hold h h' [] := by
 unfold impl_cycleMean at hF
 refine Zo [.slice aa_ a_.length ca_] Tryz.func51 rfl (fun w0 _ => ?_)
 have H0 := Hold.init h
 refine Zs ?_
 refine Run_ops ?_
 refine Ze ?_
 refine E_box (ty := 44) (cs := [.int .i64 0, .int .i64 0]) H0 (fun w => by kernel_rfl) (fun b1 h1 H1 => ?_)
 refine Zr [.bool false] 1 ?_
 refine Zx ?_
 refine Zk [0, 2] [(0, .slice aa_ a_.length ca_), (2, pV b1)] ?_
 refine Zs ?_
 refine Zq [.slice aa_ a_.length ca_, .int .i64 (a_.length : Int), .int .i64 (a_.length : Int)] [0, 2, 4] [(0, .slice aa_ a_.length ca_), (2, pV b1), (4, .int .i64 (a_.length : Int))] ?_
 refine Zs ?_
 refine Run_ops ?_
 refine Zr [.int .i64 (a_.length : Int)] 0 ?_
 obtain ⟨l1, hl1, hF⟩ := M.bind_some hF
 have hl1 := M.make_some hl1
 refine Ze ?_
 refine E_make cd2 0 (kl := .i64) (kc := .i64) H1 cd2_ti Tryz.underlying24 (by decide) cd2_zero (by kernel_rfl) hl1 (fun a1 h2 H2 => ?_)
 refine Ze ?_
 refine E_lit1 (ey := 24) (n := l1.length) H2 (fun w => by kernel_rfl) rfl (fun a2 h3 H3 => ?_)
 refine Zr [.slice a2 1 1] 3 ?_
 refine Zx ?_
 refine Zk [0, 2, 4, 5] [(0, .slice aa_ a_.length ca_), (2, pV b1), (4, .int .i64 (a_.length : Int)), (5, .slice a2 1 1)] ?_
 refine Zs ?_
 refine Zs ?_
 refine Zq [.int .i64 (a_.length : Int), .int .i64 0] [0, 2, 4, 5, 19, 20] [(0, .slice aa_ a_.length ca_), (2, pV b1), (4, .int .i64 (a_.length : Int)), (5, .slice a2 1 1), (19, .int .i64 (a_.length : Int)), (20, .int .i64 0)] ?_
 obtain ⟨x1, gx1, hF⟩ := M.bind_some hF
 obtain ⟨hloy1, hhiy1, gx1⟩ := M.for_start gx1
 refine Run_join (fun L' h' => ∃ (a4 : Option Addr) (c2 : Nat), L' = [(2, pV b1), (4, .int .i64 (a_.length : Int)), (5, .slice a4 x1.length c2)] ∧ Hold h h' [box b1 44 [.int .i64 0, .int .i64 0], own cd24 a4 x1.length c2 x1]) ?_ ?_
 ·rintro _ h5 ⟨a4, c2, rfl, H5⟩
  refine Zs ?_
  refine Run_ops ?_
  refine Ze ?_
  refine E_box (ty := 44) (cs := [.int .i64 0, .int .i64 0]) H5 (fun w => by kernel_rfl) (fun b2 h9 H21 => ?_)
  refine Zx ?_
  refine Zk [2, 4, 5, 7] [(2, pV b1), (4, .int .i64 (a_.length : Int)), (5, .slice a4 x1.length c2), (7, pV b2)] ?_
  refine Zs ?_
  refine Zq [.bool false] [2, 4, 5, 7, 8] [(2, pV b1), (4, .int .i64 (a_.length : Int)), (5, .slice a4 x1.length c2), (7, pV b2), (8, .bool false)] ?_
  refine Zs ?_
  refine Zs ?_
  refine Zq [.int .i64 (a_.length : Int), .int .i64 0] [2, 4, 5, 7, 8, 33, 34] [(2, pV b1), (4, .int .i64 (a_.length : Int)), (5, .slice a4 x1.length c2), (7, pV b2), (8, .bool false), (33, .int .i64 (a_.length : Int)), (34, .int .i64 0)] ?_
  obtain ⟨x4, gx4, hF⟩ := M.bind_some hF
  obtain ⟨hloy2, hhiy2, gx4⟩ := M.for_start gx4
  refine Run_join (fun L' h' => L' = [(2, pV b1), (7, pV b2), (8, .bool x4.2)] ∧ Hold h h' [box b1 44 [.int .i64 0, .int .i64 0], box b2 44 [.int .i64 x4.1.Num, .int .i64 x4.1.Den]]) ?_ ?_
  ·rintro _ h11 ⟨rfl, H23⟩
   refine Zs ?_
   refine Run_ops ?_
   refine Zz (.agg #[.int .i64 x4.1.Num, .int .i64 x4.1.Den]) (Y_loadA (t := 44) (n := 2) (p := ⟨b2, 0, none⟩) (cs := [.int .i64 x4.1.Num, .int .i64 x4.1.Den]) (by kernel_rfl) (fun w => by kernel_rfl) (by kernel_rfl) rfl (H23.cells (n := 2) (off := 0) 1 rfl rfl)) ?_
   refine Zr [.bool x4.2] 1 ?_
   refine Ze ?_
   refine ZP 44 0 [.int .i64 x4.1.Num, .int .i64 x4.1.Den] (.agg #[.int .i64 x4.1.Num, .int .i64 x4.1.Den]) H23 (fun h26 H76 => ?_)
   refine Zr [.bool x4.2] 3 ?_
   refine Zx ?_
   refine Zk [2, 3] [(2, pV b1), (3, .bool x4.2)] ?_
   have hF := M.ret_some hF
   subst hF
   have H77 : Hold h h26 [] := H76.pk []
   exact Run_ret2 rfl (ResV_cell (n := 2) (cs := [.int .i64 x4.1.Num, .int .i64 x4.1.Den]) (by kernel_rfl) (fun w => by kernel_rfl) (by kernel_rfl) rfl (H76.cells (n := 2) (off := 0) 0 rfl rfl)) (Zt (.bool x4.2)) ⟨rfl, H77⟩
  ·refine Run_block ?_
   have H78 : Hold h h9 [box b1 44 [.int .i64 0, .int .i64 0], own cd24 a4 x1.length c2 x1, box b2 44 [.int .i64 0, .int .i64 0]] := H21.pk [1, 2, 0]
   refine Zk [2, 4, 5, 7, 8, 33, 34] [(2, pV b1), (4, .int .i64 (a_.length : Int)), (5, .slice a4 x1.length c2), (7, pV b2), (8, .bool false), (33, .int .i64 (a_.length : Int)), (34, .int .i64 0)] ?_
   refine Run_loop (fun m L' h' => ∃ (i2 : Int) (s2 : TRatio × Bool), 0 ≤ i2 ∧ M.forN (a_.length : Int) _ _ n m i2 s2 = some x4 ∧ L' = [(2, pV b1), (4, .int .i64 (a_.length : Int)), (5, .slice a4 x1.length c2), (7, pV b2), (8, .bool s2.2), (33, .int .i64 (a_.length : Int)), (34, .int .i64 i2)] ∧ Hold h h' [box b1 44 [.int .i64 0, .int .i64 0], own cd24 a4 x1.length c2 x1, box b2 44 [.int .i64 s2.1.Num, .int .i64 s2.1.Den]]) ((a_.length : Int) - 0 : Int).toNat ⟨0, ((⟨0, 0⟩ : TRatio), false), Int.le_refl _, gx4, rfl, H78⟩ ?_
   rintro my2 _ h10 ⟨i2, s2, hloy2', gx4, rfl, H22⟩
   refine Zs ?_
   refine Zq [.bool (decide (i2 < (a_.length : Int)))] [2, 4, 5, 7, 8, 33, 34, 35] [(2, pV b1), (4, .int .i64 (a_.length : Int)), (5, .slice a4 x1.length c2), (7, pV b2), (8, .bool s2.2), (33, .int .i64 (a_.length : Int)), (34, .int .i64 i2), (35, .bool (decide (i2 < (a_.length : Int))))] ?_
   refine Zs ?_
   refine Zc (decide (i2 < (a_.length : Int))) (fun hb2 => ?_) (fun hb2 => ?_)
   ·obtain ⟨my2, y2, rfl, hB2, hgoy2, houty2⟩ := M.for_go gx4 hb2
    have hlty2 := of_decide_eq_true hb2
    refine Run_skip ?_
    refine Zs ?_
    obtain ⟨s3, gs3, hB2⟩ := M.bind_some hB2
    refine Run_join (fun L' h' => L' = [(2, pV b1), (4, .int .i64 (a_.length : Int)), (5, .slice a4 x1.length c2), (7, pV b2), (8, .bool s3.2), (33, .int .i64 (a_.length : Int)), (34, .int .i64 i2)] ∧ Hold h h' [box b1 44 [.int .i64 0, .int .i64 0], own cd24 a4 x1.length c2 x1, box b2 44 [.int .i64 s3.1.Num, .int .i64 s3.1.Den]]) ?_ ?_
    ·rintro _ h25 ⟨rfl, H69⟩
     refine Zg 2 [(2, pV b1), (4, .int .i64 (a_.length : Int)), (5, .slice a4 x1.length c2), (7, pV b2), (8, .bool s3.2), (33, .int .i64 (a_.length : Int)), (34, .int .i64 (i2 + 1))] ?_ ?_
     ·refine Zy (.int .i64 (i2 + 1)) (Y_eq (v := .int .i64 (w64 (i2 + 1))) (Y_pure (fun w => by kernel_rfl)) (by rw [w64_eq _ (by omega)])) ?_
      refine Zb [.int .i64 (i2 + 1)] 1 ?_
      exact Zd [2, 4, 5, 7, 8, 33, 34]
     have hB2 := M.ret_some hB2
     have gx4 := hgoy2 _ hB2.symm
     exact Za [2, 4, 5, 7, 8, 33, 34] my2 ⟨i2 + 1, (s3.1, s3.2), by omega, gx4, rfl, H69⟩
    ·refine Run_block ?_
     refine Zs ?_
     refine Zq [.int .i64 i2, .int .i64 i2] [2, 4, 5, 7, 8, 9, 33, 34] [(2, pV b1), (4, .int .i64 (a_.length : Int)), (5, .slice a4 x1.length c2), (7, pV b2), (8, .bool s2.2), (9, .int .i64 i2), (33, .int .i64 (a_.length : Int)), (34, .int .i64 i2)] ?_
     refine Zs ?_
     refine Zs ?_
     obtain ⟨x5, hx3, gs3⟩ := M.bind_some gs3
     obtain ⟨hx3l, hx3u, hx3⟩ := M.idx_some hx3
     have H24 : Hold h h10 [own cd24 a4 x1.length c2 x1, box b1 44 [.int .i64 0, .int .i64 0], box b2 44 [.int .i64 s2.1.Num, .int .i64 s2.1.Den]] := H22.pk [1, 0, 2]
     have H25 := H24.toRows
     obtain ⟨a9, c6, H26⟩ := H25.pinRow hx3
     have H27 : Hold h h10 [box b1 44 [.int .i64 0, .int .i64 0], rowsP cd2 24 a4 x1.length c2 x1 [((a_.length : Int).toNat, a9, x5.length, c6, x5)], box b2 44 [.int .i64 s2.1.Num, .int .i64 s2.1.Den]] := H26.pk [1, 0, 2]
     obtain ⟨x6, hx4, gs3⟩ := M.bind_some gs3
     obtain ⟨hx4l, hx4u, hx4⟩ := M.idx_some hx4
     refine Zg 8 [(2, pV b1), (4, .int .i64 (a_.length : Int)), (5, .slice a4 x1.length c2), (7, pV b2), (8, .bool s2.2), (9, .int .i64 i2), (33, .int .i64 (a_.length : Int)), (34, .int .i64 i2), (44, .bool (x6 == (-1000000000000000)))] ?_ ?_
     ·refine Zb [.slice a4 x1.length c2, .int .i64 (a_.length : Int)] 0 ?_
      refine Zy (.pointer (some (adr a4 ((a_.length : Int).toNat * 1)))) (Zi 22 24 1 (a4) (x1.length) (c2) .i64 ((a_.length : Int)) Tryz.underlying22 ((H22.rd 1 rfl).cell hx3).1 hx3l hx3u) ?_
      refine Zy (.slice a9 x5.length c6) (Zl 24 (adr a4 ((a_.length : Int).toNat * 1)) (.slice a9 x5.length c6) (H27.cellPin 1 rfl 0 rfl)) ?_
      refine Zb [.int .i64 i2] 4 ?_
      refine Zy (.pointer (some (adr a9 (i2.toNat * 1)))) (Zi 24 2 1 (a9) (x5.length) (c6) .i64 (i2) Tryz.underlying24 ((H27.rdPin 1 rfl 0 rfl).cell hx4).1 hx4l hx4u) ?_
      refine Zy (.int .i64 x6) (Zl 2 (adr a9 (i2.toNat * 1)) (.int .i64 x6) (cd2_cell (H27.rdPin 1 rfl 0 rfl) hx4)) ?_
      refine Zb [.bool (x6 == (-1000000000000000))] 7 ?_
      exact Zd [2, 4, 5, 7, 8, 9, 33, 34, 44]
     refine Zc (x6 == (-1000000000000000)) (fun hb3 => ?_) (fun hb3 => ?_)
     ·have gs3 := (M.ite_some gs3).1 hb3
      refine Run_exit (k' := _) rfl ?_
      have H70 : Hold h h10 [rowsP cd2 24 a4 x1.length c2 x1 [((a_.length : Int).toNat, a9, x5.length, c6, x5)], box b1 44 [.int .i64 0, .int .i64 0], box b2 44 [.int .i64 s2.1.Num, .int .i64 s2.1.Den]] := H27.pk [1, 0, 2]
      have H71 := H70.ofRows
      have H72 : Hold h h10 [box b1 44 [.int .i64 0, .int .i64 0], own cd24 a4 x1.length c2 x1, box b2 44 [.int .i64 s2.1.Num, .int .i64 s2.1.Den]] := H71.pk [1, 0, 2]
      have gs3 := M.ret_some gs3
      subst gs3
      exact Zf [2, 4, 5, 7, 8, 33, 34] ⟨rfl, H72⟩
     ·have gs3 := (M.ite_some gs3).2 hb3
      refine Run_skip ?_
      refine Zs ?_
      refine Run_ops ?_
      refine Zr [.agg #[.int .i64 0, .int .i64 0]] 0 ?_
      refine Ze ?_
      refine E_box (ty := 44) (cs := [.int .i64 0, .int .i64 0]) H27 (fun w => by kernel_rfl) (fun b3 h12 H28 => ?_)
      refine Ze ?_
      refine ZP 44 0 [.int .i64 0, .int .i64 0] (.agg #[.int .i64 0, .int .i64 0]) H28 (fun h13 H29 => ?_)
      refine Zr [.bool false] 3 ?_
      refine Zx ?_
      refine Zk [2, 4, 5, 7, 8, 9, 10, 11, 33, 34] [(2, pV b1), (4, .int .i64 (a_.length : Int)), (5, .slice a4 x1.length c2), (7, pV b2), (8, .bool s2.2), (9, .int .i64 i2), (10, pV b3), (11, .bool false), (33, .int .i64 (a_.length : Int)), (34, .int .i64 i2)] ?_
      refine Zs ?_
      refine Zs ?_
      refine Zq [.int .i64 (a_.length : Int), .int .i64 0] [2, 4, 5, 7, 8, 9, 10, 11, 33, 34, 46, 47] [(2, pV b1), (4, .int .i64 (a_.length : Int)), (5, .slice a4 x1.length c2), (7, pV b2), (8, .bool s2.2), (9, .int .i64 i2), (10, pV b3), (11, .bool false), (33, .int .i64 (a_.length : Int)), (34, .int .i64 i2), (46, .int .i64 (a_.length : Int)), (47, .int .i64 0)] ?_
      obtain ⟨x7, gx7, gs3⟩ := M.bind_some gs3
      obtain ⟨hloy3, hhiy3, gx7⟩ := M.for_start gx7
      refine Run_join (fun L' h' => L' = [(2, pV b1), (4, .int .i64 (a_.length : Int)), (5, .slice a4 x1.length c2), (7, pV b2), (8, .bool s2.2), (10, pV b3), (33, .int .i64 (a_.length : Int)), (34, .int .i64 i2)] ∧ Hold h h' [box b1 44 [.int .i64 0, .int .i64 0], own cd24 a4 x1.length c2 x1, box b2 44 [.int .i64 s2.1.Num, .int .i64 s2.1.Den], box b3 44 [.int .i64 x7.1.Num, .int .i64 x7.1.Den]]) ?_ ?_
      ·rintro _ h15 ⟨rfl, H31⟩
       refine Zs ?_
       obtain ⟨x17, gx17, gs3⟩ := M.bind_some gs3
       refine Run_regC (j := 8) (C := fun x => Hold h x [box b1 44 [.int .i64 0, .int .i64 0], own cd24 a4 x1.length c2 x1, box b2 44 [.int .i64 s2.1.Num, .int .i64 s2.1.Den], box b3 44 [.int .i64 x7.1.Num, .int .i64 x7.1.Den]]) (by kernel_rfl) H31 (L' := [(2, pV b1), (4, .int .i64 (a_.length : Int)), (5, .slice a4 x1.length c2), (7, pV b2), (8, .bool s2.2), (10, pV b3), (33, .int .i64 (a_.length : Int)), (34, .int .i64 i2), (94, .bool x17)]) ?_ (fun h23 H62 => ?_)
       ·refine Zb [.bool s2.2, .bool (!s2.2)] 0 ?_
        refine QRun_seq 8 [(2, pV b1), (4, .int .i64 (a_.length : Int)), (5, .slice a4 x1.length c2), (7, pV b2), (8, .bool s2.2), (10, pV b3), (33, .int .i64 (a_.length : Int)), (34, .int .i64 i2), (94, .bool x17)] ?_ ?_
        ·rcases Bool.eq_false_or_eq_true (!s2.2) with hb8 | hb8
         ·refine Zv (!s2.2) true hb8 ?_
          have gx17 := M.ret_some ((M.ite_some gx17).1 hb8)
          refine Zn ?_
          refine Zn ?_
          refine Zn ?_
          refine Zn ?_
          refine Zv true x17 gx17 ?_
          exact Zd [2, 4, 5, 7, 8, 10, 33, 34, 94]
         ·refine Zv (!s2.2) false hb8 ?_
          have gx17 := (M.ite_some gx17).2 hb8
          obtain ⟨x18, hx13, gx17⟩ := M.bind_some gx17
          have gx17 := M.ret_some gx17
          refine Zy (.agg #[.int .i64 x7.1.Num, .int .i64 x7.1.Den]) (Y_cls fun hx Hx => (Y_loadA (t := 44) (n := 2) (p := ⟨b3, 0, none⟩) (cs := [.int .i64 x7.1.Num, .int .i64 x7.1.Den]) (by kernel_rfl) (fun w => by kernel_rfl) (by kernel_rfl) rfl (Hx.cells (n := 2) (off := 0) 3 rfl rfl))) ?_
          refine Zy (.agg #[.int .i64 s2.1.Num, .int .i64 s2.1.Den]) (Y_cls fun hx Hx => (Y_loadA (t := 44) (n := 2) (p := ⟨b2, 0, none⟩) (cs := [.int .i64 s2.1.Num, .int .i64 s2.1.Den]) (by kernel_rfl) (fun w => by kernel_rfl) (by kernel_rfl) rfl (Hx.cells (n := 2) (off := 0) 2 rfl rfl))) ?_
          refine Zy (.int .i64 x18) (Y_call (f := 86) (args := #[.agg #[.int .i64 x7.1.Num, .int .i64 x7.1.Den], .agg #[.int .i64 s2.1.Num, .int .i64 s2.1.Den]]) (v := .int .i64 x18) (by kernel_rfl) fun hx Hx => (w_impl_compareRatios hx x7.1 s2.1 _ _ hx13).mono fun _ _ ⟨e, H'⟩ => ⟨e, Hx.call H' rfl⟩) ?_
          refine Zb [.bool (decide (0 < x18))] 6 ?_
          refine Zv (decide (0 < x18)) x17 gx17 ?_
          exact Zd [2, 4, 5, 7, 8, 10, 33, 34, 94]
        exact Zd [2, 4, 5, 7, 8, 10, 33, 34, 94]
       have H63 : Hold h h23 [box b1 44 [.int .i64 0, .int .i64 0], own cd24 a4 x1.length c2 x1, box b2 44 [.int .i64 s2.1.Num, .int .i64 s2.1.Den], box b3 44 [.int .i64 x7.1.Num, .int .i64 x7.1.Den]] := H62
       refine Zc (x17) (fun hb9 => ?_) (fun hb9 => ?_)
       ·have gs3 := (M.ite_some gs3).1 hb9
        refine Run_ops ?_
        refine Zz (.agg #[.int .i64 x7.1.Num, .int .i64 x7.1.Den]) (Y_loadA (t := 44) (n := 2) (p := ⟨b3, 0, none⟩) (cs := [.int .i64 x7.1.Num, .int .i64 x7.1.Den]) (by kernel_rfl) (fun w => by kernel_rfl) (by kernel_rfl) rfl (H63.cells (n := 2) (off := 0) 3 rfl rfl)) ?_
        have H65 : Hold h h23 [box b2 44 [.int .i64 s2.1.Num, .int .i64 s2.1.Den], box b1 44 [.int .i64 0, .int .i64 0], own cd24 a4 x1.length c2 x1, box b3 44 [.int .i64 x7.1.Num, .int .i64 x7.1.Den]] := H63.pk [2, 0, 1, 3]
        refine Ze ?_
        refine ZP 44 0 [.int .i64 x7.1.Num, .int .i64 x7.1.Den] (.agg #[.int .i64 x7.1.Num, .int .i64 x7.1.Den]) H65 (fun h24 H64 => ?_)
        refine Zr [.bool true] 2 ?_
        refine Zx ?_
        refine Zk [2, 4, 5, 7, 8, 33, 34] [(2, pV b1), (4, .int .i64 (a_.length : Int)), (5, .slice a4 x1.length c2), (7, pV b2), (8, .bool true), (33, .int .i64 (a_.length : Int)), (34, .int .i64 i2)] ?_
        refine Run_blk ?_
        have H73 : Hold h h24 [box b1 44 [.int .i64 0, .int .i64 0], own cd24 a4 x1.length c2 x1, box b2 44 [.int .i64 x7.1.Num, .int .i64 x7.1.Den]] := H64.pk [1, 2, 0]
        have gs3 := M.ret_some gs3
        subst gs3
        exact Zf [2, 4, 5, 7, 8, 33, 34] ⟨rfl, H73⟩
       ·have gs3 := (M.ite_some gs3).2 hb9
        refine Run_skip ?_
        refine Run_blk ?_
        have H74 : Hold h h23 [box b1 44 [.int .i64 0, .int .i64 0], own cd24 a4 x1.length c2 x1, box b2 44 [.int .i64 s2.1.Num, .int .i64 s2.1.Den]] := H63.pk [0, 1, 2]
        have gs3 := M.ret_some gs3
        subst gs3
        exact Zf [2, 4, 5, 7, 8, 33, 34] ⟨rfl, H74⟩
      ·refine Run_block ?_
       have H66 : Hold h h13 [rowsP cd2 24 a4 x1.length c2 x1 [((a_.length : Int).toNat, a9, x5.length, c6, x5)], box b3 44 [.int .i64 0, .int .i64 0], box b1 44 [.int .i64 0, .int .i64 0], box b2 44 [.int .i64 s2.1.Num, .int .i64 s2.1.Den]] := H29.pk [2, 0, 1, 3]
       have H67 := H66.ofRows
       have H68 : Hold h h13 [box b1 44 [.int .i64 0, .int .i64 0], own cd24 a4 x1.length c2 x1, box b2 44 [.int .i64 s2.1.Num, .int .i64 s2.1.Den], box b3 44 [.int .i64 0, .int .i64 0]] := H67.pk [2, 0, 3, 1]
       refine Zk [2, 4, 5, 7, 8, 9, 10, 11, 33, 34, 46, 47] [(2, pV b1), (4, .int .i64 (a_.length : Int)), (5, .slice a4 x1.length c2), (7, pV b2), (8, .bool s2.2), (9, .int .i64 i2), (10, pV b3), (11, .bool false), (33, .int .i64 (a_.length : Int)), (34, .int .i64 i2), (46, .int .i64 (a_.length : Int)), (47, .int .i64 0)] ?_
       refine Run_loop (fun m L' h' => ∃ (i3 : Int) (s4 : TRatio × Bool), 0 ≤ i3 ∧ M.forN (a_.length : Int) _ _ n m i3 s4 = some x7 ∧ L' = [(2, pV b1), (4, .int .i64 (a_.length : Int)), (5, .slice a4 x1.length c2), (7, pV b2), (8, .bool s2.2), (9, .int .i64 i2), (10, pV b3), (11, .bool s4.2), (33, .int .i64 (a_.length : Int)), (34, .int .i64 i2), (46, .int .i64 (a_.length : Int)), (47, .int .i64 i3)] ∧ Hold h h' [box b1 44 [.int .i64 0, .int .i64 0], own cd24 a4 x1.length c2 x1, box b2 44 [.int .i64 s2.1.Num, .int .i64 s2.1.Den], box b3 44 [.int .i64 s4.1.Num, .int .i64 s4.1.Den]]) ((a_.length : Int) - 0 : Int).toNat ⟨0, ((⟨0, 0⟩ : TRatio), false), Int.le_refl _, gx7, rfl, H68⟩ ?_
       rintro my3 _ h14 ⟨i3, s4, hloy3', gx7, rfl, H30⟩
       refine Zs ?_
       refine Zq [.bool (decide (i3 < (a_.length : Int)))] [2, 4, 5, 7, 8, 9, 10, 11, 33, 34, 46, 47, 48] [(2, pV b1), (4, .int .i64 (a_.length : Int)), (5, .slice a4 x1.length c2), (7, pV b2), (8, .bool s2.2), (9, .int .i64 i2), (10, pV b3), (11, .bool s4.2), (33, .int .i64 (a_.length : Int)), (34, .int .i64 i2), (46, .int .i64 (a_.length : Int)), (47, .int .i64 i3), (48, .bool (decide (i3 < (a_.length : Int))))] ?_
       refine Zs ?_
       refine Zc (decide (i3 < (a_.length : Int))) (fun hb4 => ?_) (fun hb4 => ?_)
       ·obtain ⟨my3, y3, rfl, hB3, hgoy3, houty3⟩ := M.for_go gx7 hb4
        have hlty3 := of_decide_eq_true hb4
        refine Run_skip ?_
        refine Zs ?_
        obtain ⟨s5, gs5, hB3⟩ := M.bind_some hB3
        refine Run_join (fun L' h' => L' = [(2, pV b1), (4, .int .i64 (a_.length : Int)), (5, .slice a4 x1.length c2), (7, pV b2), (8, .bool s2.2), (9, .int .i64 i2), (10, pV b3), (11, .bool s5.2), (33, .int .i64 (a_.length : Int)), (34, .int .i64 i2), (46, .int .i64 (a_.length : Int)), (47, .int .i64 i3)] ∧ Hold h h' [box b1 44 [.int .i64 0, .int .i64 0], own cd24 a4 x1.length c2 x1, box b2 44 [.int .i64 s2.1.Num, .int .i64 s2.1.Den], box b3 44 [.int .i64 s5.1.Num, .int .i64 s5.1.Den]]) ?_ ?_
        ·rintro _ h22 ⟨rfl, H52⟩
         refine Zg 2 [(2, pV b1), (4, .int .i64 (a_.length : Int)), (5, .slice a4 x1.length c2), (7, pV b2), (8, .bool s2.2), (9, .int .i64 i2), (10, pV b3), (11, .bool s5.2), (33, .int .i64 (a_.length : Int)), (34, .int .i64 i2), (46, .int .i64 (a_.length : Int)), (47, .int .i64 (i3 + 1))] ?_ ?_
         ·refine Zy (.int .i64 (i3 + 1)) (Y_eq (v := .int .i64 (w64 (i3 + 1))) (Y_pure (fun w => by kernel_rfl)) (by rw [w64_eq _ (by omega)])) ?_
          refine Zb [.int .i64 (i3 + 1)] 1 ?_
          exact Zd [2, 4, 5, 7, 8, 9, 10, 11, 33, 34, 46, 47]
         have hB3 := M.ret_some hB3
         have gx7 := hgoy3 _ hB3.symm
         exact Za [2, 4, 5, 7, 8, 9, 10, 11, 33, 34, 46, 47] my3 ⟨i3 + 1, (s5.1, s5.2), by omega, gx7, rfl, H52⟩
        ·refine Run_block ?_
         refine Zs ?_
         refine Zq [.int .i64 i3, .int .i64 i3] [2, 4, 5, 7, 8, 9, 10, 11, 12, 33, 34, 46, 47] [(2, pV b1), (4, .int .i64 (a_.length : Int)), (5, .slice a4 x1.length c2), (7, pV b2), (8, .bool s2.2), (9, .int .i64 i2), (10, pV b3), (11, .bool s4.2), (12, .int .i64 i3), (33, .int .i64 (a_.length : Int)), (34, .int .i64 i2), (46, .int .i64 (a_.length : Int)), (47, .int .i64 i3)] ?_
         refine Zs ?_
         refine Zs ?_
         obtain ⟨x8, hx5, gs5⟩ := M.bind_some gs5
         obtain ⟨hx5l, hx5u, hx5⟩ := M.idx_some hx5
         have H32 : Hold h h14 [own cd24 a4 x1.length c2 x1, box b1 44 [.int .i64 0, .int .i64 0], box b2 44 [.int .i64 s2.1.Num, .int .i64 s2.1.Den], box b3 44 [.int .i64 s4.1.Num, .int .i64 s4.1.Den]] := H30.pk [1, 0, 2, 3]
         have H33 := H32.toRows
         obtain ⟨a10, c7, H34⟩ := H33.pinRow hx5
         have H35 : Hold h h14 [box b1 44 [.int .i64 0, .int .i64 0], rowsP cd2 24 a4 x1.length c2 x1 [(i3.toNat, a10, x8.length, c7, x8)], box b2 44 [.int .i64 s2.1.Num, .int .i64 s2.1.Den], box b3 44 [.int .i64 s4.1.Num, .int .i64 s4.1.Den]] := H34.pk [1, 0, 2, 3]
         obtain ⟨x9, hx6, gs5⟩ := M.bind_some gs5
         obtain ⟨hx6l, hx6u, hx6⟩ := M.idx_some hx6
         refine Zg 8 [(2, pV b1), (4, .int .i64 (a_.length : Int)), (5, .slice a4 x1.length c2), (7, pV b2), (8, .bool s2.2), (9, .int .i64 i2), (10, pV b3), (11, .bool s4.2), (12, .int .i64 i3), (33, .int .i64 (a_.length : Int)), (34, .int .i64 i2), (46, .int .i64 (a_.length : Int)), (47, .int .i64 i3), (57, .bool (x9 == (-1000000000000000)))] ?_ ?_
         ·refine Zb [.slice a4 x1.length c2, .int .i64 i3] 0 ?_
          refine Zy (.pointer (some (adr a4 (i3.toNat * 1)))) (Zi 22 24 1 (a4) (x1.length) (c2) .i64 (i3) Tryz.underlying22 ((H30.rd 1 rfl).cell hx5).1 hx5l hx5u) ?_
          refine Zy (.slice a10 x8.length c7) (Zl 24 (adr a4 (i3.toNat * 1)) (.slice a10 x8.length c7) (H35.cellPin 1 rfl 0 rfl)) ?_
          refine Zb [.int .i64 i2] 4 ?_
          refine Zy (.pointer (some (adr a10 (i2.toNat * 1)))) (Zi 24 2 1 (a10) (x8.length) (c7) .i64 (i2) Tryz.underlying24 ((H35.rdPin 1 rfl 0 rfl).cell hx6).1 hx6l hx6u) ?_
          refine Zy (.int .i64 x9) (Zl 2 (adr a10 (i2.toNat * 1)) (.int .i64 x9) (cd2_cell (H35.rdPin 1 rfl 0 rfl) hx6)) ?_
          refine Zb [.bool (x9 == (-1000000000000000))] 7 ?_
          exact Zd [2, 4, 5, 7, 8, 9, 10, 11, 12, 33, 34, 46, 47, 57]
         refine Zc (x9 == (-1000000000000000)) (fun hb5 => ?_) (fun hb5 => ?_)
         ·have gs5 := (M.ite_some gs5).1 hb5
          refine Run_exit (k' := _) rfl ?_
          have H53 : Hold h h14 [rowsP cd2 24 a4 x1.length c2 x1 [(i3.toNat, a10, x8.length, c7, x8)], box b1 44 [.int .i64 0, .int .i64 0], box b2 44 [.int .i64 s2.1.Num, .int .i64 s2.1.Den], box b3 44 [.int .i64 s4.1.Num, .int .i64 s4.1.Den]] := H35.pk [1, 0, 2, 3]
          have H54 := H53.ofRows
          have H55 : Hold h h14 [box b1 44 [.int .i64 0, .int .i64 0], own cd24 a4 x1.length c2 x1, box b2 44 [.int .i64 s2.1.Num, .int .i64 s2.1.Den], box b3 44 [.int .i64 s4.1.Num, .int .i64 s4.1.Den]] := H54.pk [1, 0, 2, 3]
          have gs5 := M.ret_some gs5
          subst gs5
          exact Zf [2, 4, 5, 7, 8, 9, 10, 11, 33, 34, 46, 47] ⟨rfl, H55⟩
         ·have gs5 := (M.ite_some gs5).2 hb5
          refine Run_skip ?_
          refine Zs ?_
          obtain ⟨x10, hx7, gs5⟩ := M.bind_some gs5
          obtain ⟨hx7l, hx7u, hx7⟩ := M.idx_some hx7
          have H36 : Hold h h14 [rowsP cd2 24 a4 x1.length c2 x1 [(i3.toNat, a10, x8.length, c7, x8)], box b1 44 [.int .i64 0, .int .i64 0], box b2 44 [.int .i64 s2.1.Num, .int .i64 s2.1.Den], box b3 44 [.int .i64 s4.1.Num, .int .i64 s4.1.Den]] := H35.pk [1, 0, 2, 3]
          obtain ⟨a11, c8, H37⟩ := H36.pinRow hx7
          have H38 : Hold h h14 [box b1 44 [.int .i64 0, .int .i64 0], rowsP cd2 24 a4 x1.length c2 x1 [((a_.length : Int).toNat, a11, x10.length, c8, x10), (i3.toNat, a10, x8.length, c7, x8)], box b2 44 [.int .i64 s2.1.Num, .int .i64 s2.1.Den], box b3 44 [.int .i64 s4.1.Num, .int .i64 s4.1.Den]] := H37.pk [1, 0, 2, 3]
          obtain ⟨x11, hx8, gs5⟩ := M.bind_some gs5
          obtain ⟨hx8l, hx8u, hx8⟩ := M.idx_some hx8
          obtain ⟨x12, hx9, gs5⟩ := M.bind_some gs5
          obtain ⟨hx9l, hx9u, hx9⟩ := M.idx_some hx9
          have H39 : Hold h h14 [rowsP cd2 24 a4 x1.length c2 x1 [((a_.length : Int).toNat, a11, x10.length, c8, x10), (i3.toNat, a10, x8.length, c7, x8)], box b1 44 [.int .i64 0, .int .i64 0], box b2 44 [.int .i64 s2.1.Num, .int .i64 s2.1.Den], box b3 44 [.int .i64 s4.1.Num, .int .i64 s4.1.Den]] := H38.pk [1, 0, 2, 3]
          obtain ⟨a12, c9, H40⟩ := H39.pinRow hx9
          have H41 : Hold h h14 [box b1 44 [.int .i64 0, .int .i64 0], rowsP cd2 24 a4 x1.length c2 x1 [(i3.toNat, a12, x12.length, c9, x12), ((a_.length : Int).toNat, a11, x10.length, c8, x10), (i3.toNat, a10, x8.length, c7, x8)], box b2 44 [.int .i64 s2.1.Num, .int .i64 s2.1.Den], box b3 44 [.int .i64 s4.1.Num, .int .i64 s4.1.Den]] := H40.pk [1, 0, 2, 3]
          obtain ⟨x13, hx10, gs5⟩ := M.bind_some gs5
          obtain ⟨hx10l, hx10u, hx10⟩ := M.idx_some hx10
          obtain ⟨x14, hx11, gs5⟩ := M.bind_some gs5
          refine Run_D (fun x => Hold h x [box b1 44 [.int .i64 0, .int .i64 0], rowsP cd2 24 a4 x1.length c2 x1 [(i3.toNat, a12, x12.length, c9, x12), ((a_.length : Int).toNat, a11, x10.length, c8, x10), (i3.toNat, a10, x8.length, c7, x8)], box b2 44 [.int .i64 s2.1.Num, .int .i64 s2.1.Den], box b3 44 [.int .i64 s4.1.Num, .int .i64 s4.1.Den]]) (fun x => Hold h x [box b1 44 [.int .i64 0, .int .i64 0], rowsP cd2 24 a4 x1.length c2 x1 [(i3.toNat, a12, x12.length, c9, x12), ((a_.length : Int).toNat, a11, x10.length, c8, x10), (i3.toNat, a10, x8.length, c7, x8)], box b2 44 [.int .i64 s2.1.Num, .int .i64 s2.1.Den], box b3 44 [.int .i64 s4.1.Num, .int .i64 s4.1.Den]]) mixed (by kernel_rfl) H41 Hold.stable (fun x Hy => (show Hold h x [box b1 44 [.int .i64 0, .int .i64 0], rowsP cd2 24 a4 x1.length c2 x1 [(i3.toNat, a12, x12.length, c9, x12), ((a_.length : Int).toNat, a11, x10.length, c8, x10), (i3.toNat, a10, x8.length, c7, x8)], box b2 44 [.int .i64 s2.1.Num, .int .i64 s2.1.Den], box b3 44 [.int .i64 s4.1.Num, .int .i64 s4.1.Den]] from Hy).pk [0, 1, 2, 3]) ?_
          refine ZB 19 [.slice a4 x1.length c2, .int .i64 (a_.length : Int)] 0 ?_
          refine ZY 18 2 (.pointer (some (adr a4 ((a_.length : Int).toNat * 1)))) (fun hx Hx => (YE.of (Zi 22 24 1 (a4) (x1.length) (c2) .i64 ((a_.length : Int)) Tryz.underlying22 ((H35.rdRows 1 rfl).cell hx7).1 hx7l hx7u))) ?_
          refine ZY 17 3 (.slice a11 x10.length c8) (fun hx Hx => (YE.of (Zl 24 (adr a4 ((a_.length : Int).toNat * 1)) (.slice a11 x10.length c8) (Hx.cellPin 1 rfl 1 rfl)))) ?_
          refine ZB 16 [.int .i64 i2] 4 ?_
          refine ZY 15 5 (.pointer (some (adr a11 (i2.toNat * 1)))) (fun hx Hx => (YE.of (Zi 24 2 1 (a11) (x10.length) (c8) .i64 (i2) Tryz.underlying24 ((H38.rdPin 1 rfl 0 rfl).cell hx8).1 hx8l hx8u))) ?_
          refine ZY 14 6 (.int .i64 x11) (fun hx Hx => (YE.of (Zl 2 (adr a11 (i2.toNat * 1)) (.int .i64 x11) (cd2_cell (Hx.rdPin 1 rfl 1 rfl) hx8)))) ?_
          refine ZB 12 [.slice a4 x1.length c2, .int .i64 i3] 7 ?_
          refine ZY 11 9 (.pointer (some (adr a4 (i3.toNat * 1)))) (fun hx Hx => (YE.of (Zi 22 24 1 (a4) (x1.length) (c2) .i64 (i3) Tryz.underlying22 ((H38.rdRows 1 rfl).cell hx9).1 hx9l hx9u))) ?_
          refine ZY 10 10 (.slice a12 x12.length c9) (fun hx Hx => (YE.of (Zl 24 (adr a4 (i3.toNat * 1)) (.slice a12 x12.length c9) (Hx.cellPin 1 rfl 0 rfl)))) ?_
          refine ZB 9 [.int .i64 i2] 11 ?_
          refine ZY 8 12 (.pointer (some (adr a12 (i2.toNat * 1)))) (fun hx Hx => (YE.of (Zi 24 2 1 (a12) (x12.length) (c9) .i64 (i2) Tryz.underlying24 ((H41.rdPin 1 rfl 0 rfl).cell hx10).1 hx10l hx10u))) ?_
          refine ZY 7 13 (.int .i64 x13) (fun hx Hx => (YE.of (Zl 2 (adr a12 (i2.toNat * 1)) (.int .i64 x13) (cd2_cell (Hx.rdPin 1 rfl 0 rfl) hx10)))) ?_
          refine ZB 3 [.int .i64 (w64 (x11 - x13)), .int .i64 (a_.length : Int), .int .i64 i3, .int .i64 (w64 ((a_.length : Int) - i3))] 14 ?_
          refine ZY 2 18 (.agg #[.int .i64 x14.Num, .int .i64 x14.Den]) (fun hx Hx => (YE_call (f := 53) (args := #[.int .i64 (w64 (x11 - x13)), .int .i64 (w64 ((a_.length : Int) - i3))]) (v := .agg #[.int .i64 x14.Num, .int .i64 x14.Den]) (by kernel_rfl) ((w_impl_ratioOf hx (w64 (x11 - x13)) (w64 ((a_.length : Int) - i3)) _ _ hx11).mono fun _ _ ⟨e, H'⟩ => ⟨e, H'.ext⟩))) ?_
          refine ZE 1 19 (fun h16 H42 => ?_)
          have H43 : Hold h h16 [box b1 44 [.int .i64 0, .int .i64 0], rowsP cd2 24 a4 x1.length c2 x1 [(i3.toNat, a12, x12.length, c9, x12), ((a_.length : Int).toNat, a11, x10.length, c8, x10), (i3.toNat, a10, x8.length, c7, x8)], box b2 44 [.int .i64 s2.1.Num, .int .i64 s2.1.Den], box b3 44 [.int .i64 s4.1.Num, .int .i64 s4.1.Den]] := H42
          refine E_box (ty := 44) (cs := [.int .i64 0, .int .i64 0]) H43 (fun w => by kernel_rfl) (fun b4 h17 H44 => ?_)
          refine ⟨fun x => Hold h x [box b1 44 [.int .i64 0, .int .i64 0], rowsP cd2 24 a4 x1.length c2 x1 [(i3.toNat, a12, x12.length, c9, x12), ((a_.length : Int).toNat, a11, x10.length, c8, x10), (i3.toNat, a10, x8.length, c7, x8)], box b2 44 [.int .i64 s2.1.Num, .int .i64 s2.1.Den], box b3 44 [.int .i64 s4.1.Num, .int .i64 s4.1.Den], box b4 44 [.int .i64 0, .int .i64 0]], fun x => Hold h x [box b4 44 [.int .i64 0, .int .i64 0], box b1 44 [.int .i64 0, .int .i64 0], rowsP cd2 24 a4 x1.length c2 x1 [(i3.toNat, a12, x12.length, c9, x12), ((a_.length : Int).toNat, a11, x10.length, c8, x10), (i3.toNat, a10, x8.length, c7, x8)], box b2 44 [.int .i64 s2.1.Num, .int .i64 s2.1.Den], box b3 44 [.int .i64 s4.1.Num, .int .i64 s4.1.Den]], H44, Hold.stable, fun x Hy => (show Hold h x [box b4 44 [.int .i64 0, .int .i64 0], box b1 44 [.int .i64 0, .int .i64 0], rowsP cd2 24 a4 x1.length c2 x1 [(i3.toNat, a12, x12.length, c9, x12), ((a_.length : Int).toNat, a11, x10.length, c8, x10), (i3.toNat, a10, x8.length, c7, x8)], box b2 44 [.int .i64 s2.1.Num, .int .i64 s2.1.Den], box b3 44 [.int .i64 s4.1.Num, .int .i64 s4.1.Den]] from Hy).pk [1, 2, 3, 4, 0], fun x Hy => (show Hold h x [box b1 44 [.int .i64 0, .int .i64 0], rowsP cd2 24 a4 x1.length c2 x1 [(i3.toNat, a12, x12.length, c9, x12), ((a_.length : Int).toNat, a11, x10.length, c8, x10), (i3.toNat, a10, x8.length, c7, x8)], box b2 44 [.int .i64 s2.1.Num, .int .i64 s2.1.Den], box b3 44 [.int .i64 s4.1.Num, .int .i64 s4.1.Den], box b4 44 [.int .i64 0, .int .i64 0]] from Hy).pk [0, 1, 2, 3], ?_⟩
          refine ZT 20 (fun h18 H45 => ?_)
          have H46 : Hold h h18 [box b4 44 [.int .i64 0, .int .i64 0], box b1 44 [.int .i64 0, .int .i64 0], rowsP cd2 24 a4 x1.length c2 x1 [(i3.toNat, a12, x12.length, c9, x12), ((a_.length : Int).toNat, a11, x10.length, c8, x10), (i3.toNat, a10, x8.length, c7, x8)], box b2 44 [.int .i64 s2.1.Num, .int .i64 s2.1.Den], box b3 44 [.int .i64 s4.1.Num, .int .i64 s4.1.Den]] := H45
          refine Ze ?_
          refine ZP 44 0 [.int .i64 x14.Num, .int .i64 x14.Den] (.agg #[.int .i64 x14.Num, .int .i64 x14.Den]) H46 (fun h19 H47 => ?_)
          refine Zx ?_
          refine Zk [2, 4, 5, 7, 8, 9, 10, 11, 13, 33, 34, 46, 47] [(2, pV b1), (4, .int .i64 (a_.length : Int)), (5, .slice a4 x1.length c2), (7, pV b2), (8, .bool s2.2), (9, .int .i64 i2), (10, pV b3), (11, .bool s4.2), (13, pV b4), (33, .int .i64 (a_.length : Int)), (34, .int .i64 i2), (46, .int .i64 (a_.length : Int)), (47, .int .i64 i3)] ?_
          refine Zs ?_
          obtain ⟨x15, gx15, gs5⟩ := M.bind_some gs5
          refine Run_regC (j := 8) (C := fun x => Hold h x [box b4 44 [.int .i64 x14.Num, .int .i64 x14.Den], box b1 44 [.int .i64 0, .int .i64 0], rowsP cd2 24 a4 x1.length c2 x1 [(i3.toNat, a12, x12.length, c9, x12), ((a_.length : Int).toNat, a11, x10.length, c8, x10), (i3.toNat, a10, x8.length, c7, x8)], box b2 44 [.int .i64 s2.1.Num, .int .i64 s2.1.Den], box b3 44 [.int .i64 s4.1.Num, .int .i64 s4.1.Den]]) (by kernel_rfl) H47 (L' := [(2, pV b1), (4, .int .i64 (a_.length : Int)), (5, .slice a4 x1.length c2), (7, pV b2), (8, .bool s2.2), (9, .int .i64 i2), (10, pV b3), (11, .bool s4.2), (13, pV b4), (33, .int .i64 (a_.length : Int)), (34, .int .i64 i2), (46, .int .i64 (a_.length : Int)), (47, .int .i64 i3), (84, .bool x15)]) ?_ (fun h20 H48 => ?_)
          ·refine Zb [.bool s4.2, .bool (!s4.2)] 0 ?_
           refine QRun_seq 8 [(2, pV b1), (4, .int .i64 (a_.length : Int)), (5, .slice a4 x1.length c2), (7, pV b2), (8, .bool s2.2), (9, .int .i64 i2), (10, pV b3), (11, .bool s4.2), (13, pV b4), (33, .int .i64 (a_.length : Int)), (34, .int .i64 i2), (46, .int .i64 (a_.length : Int)), (47, .int .i64 i3), (84, .bool x15)] ?_ ?_
           ·rcases Bool.eq_false_or_eq_true (!s4.2) with hb6 | hb6
            ·refine Zv (!s4.2) true hb6 ?_
             have gx15 := M.ret_some ((M.ite_some gx15).1 hb6)
             refine Zn ?_
             refine Zn ?_
             refine Zn ?_
             refine Zn ?_
             refine Zv true x15 gx15 ?_
             exact Zd [2, 4, 5, 7, 8, 9, 10, 11, 13, 33, 34, 46, 47, 84]
            ·refine Zv (!s4.2) false hb6 ?_
             have gx15 := (M.ite_some gx15).2 hb6
             obtain ⟨x16, hx12, gx15⟩ := M.bind_some gx15
             have gx15 := M.ret_some gx15
             refine Zy (.agg #[.int .i64 x14.Num, .int .i64 x14.Den]) (Y_cls fun hx Hx => (Y_loadA (t := 44) (n := 2) (p := ⟨b4, 0, none⟩) (cs := [.int .i64 x14.Num, .int .i64 x14.Den]) (by kernel_rfl) (fun w => by kernel_rfl) (by kernel_rfl) rfl (Hx.cells (n := 2) (off := 0) 0 rfl rfl))) ?_
             refine Zy (.agg #[.int .i64 s4.1.Num, .int .i64 s4.1.Den]) (Y_cls fun hx Hx => (Y_loadA (t := 44) (n := 2) (p := ⟨b3, 0, none⟩) (cs := [.int .i64 s4.1.Num, .int .i64 s4.1.Den]) (by kernel_rfl) (fun w => by kernel_rfl) (by kernel_rfl) rfl (Hx.cells (n := 2) (off := 0) 4 rfl rfl))) ?_
             refine Zy (.int .i64 x16) (Y_call (f := 86) (args := #[.agg #[.int .i64 x14.Num, .int .i64 x14.Den], .agg #[.int .i64 s4.1.Num, .int .i64 s4.1.Den]]) (v := .int .i64 x16) (by kernel_rfl) fun hx Hx => (w_impl_compareRatios hx x14 s4.1 _ _ hx12).mono fun _ _ ⟨e, H'⟩ => ⟨e, Hx.call H' rfl⟩) ?_
             refine Zb [.bool (decide (x16 < 0))] 6 ?_
             refine Zv (decide (x16 < 0)) x15 gx15 ?_
             exact Zd [2, 4, 5, 7, 8, 9, 10, 11, 13, 33, 34, 46, 47, 84]
           exact Zd [2, 4, 5, 7, 8, 9, 10, 11, 13, 33, 34, 46, 47, 84]
          have H49 : Hold h h20 [box b4 44 [.int .i64 x14.Num, .int .i64 x14.Den], box b1 44 [.int .i64 0, .int .i64 0], rowsP cd2 24 a4 x1.length c2 x1 [(i3.toNat, a12, x12.length, c9, x12), ((a_.length : Int).toNat, a11, x10.length, c8, x10), (i3.toNat, a10, x8.length, c7, x8)], box b2 44 [.int .i64 s2.1.Num, .int .i64 s2.1.Den], box b3 44 [.int .i64 s4.1.Num, .int .i64 s4.1.Den]] := H48
          refine Zc (x15) (fun hb7 => ?_) (fun hb7 => ?_)
          ·have gs5 := (M.ite_some gs5).1 hb7
           refine Run_ops ?_
           refine Zz (.agg #[.int .i64 x14.Num, .int .i64 x14.Den]) (Y_loadA (t := 44) (n := 2) (p := ⟨b4, 0, none⟩) (cs := [.int .i64 x14.Num, .int .i64 x14.Den]) (by kernel_rfl) (fun w => by kernel_rfl) (by kernel_rfl) rfl (H49.cells (n := 2) (off := 0) 0 rfl rfl)) ?_
           have H51 : Hold h h20 [box b3 44 [.int .i64 s4.1.Num, .int .i64 s4.1.Den], box b4 44 [.int .i64 x14.Num, .int .i64 x14.Den], box b1 44 [.int .i64 0, .int .i64 0], rowsP cd2 24 a4 x1.length c2 x1 [(i3.toNat, a12, x12.length, c9, x12), ((a_.length : Int).toNat, a11, x10.length, c8, x10), (i3.toNat, a10, x8.length, c7, x8)], box b2 44 [.int .i64 s2.1.Num, .int .i64 s2.1.Den]] := H49.pk [4, 0, 1, 2, 3]
           refine Ze ?_
           refine ZP 44 0 [.int .i64 x14.Num, .int .i64 x14.Den] (.agg #[.int .i64 x14.Num, .int .i64 x14.Den]) H51 (fun h21 H50 => ?_)
           refine Zr [.bool true] 2 ?_
           refine Zx ?_
           refine Zk [2, 4, 5, 7, 8, 9, 10, 11, 33, 34, 46, 47] [(2, pV b1), (4, .int .i64 (a_.length : Int)), (5, .slice a4 x1.length c2), (7, pV b2), (8, .bool s2.2), (9, .int .i64 i2), (10, pV b3), (11, .bool true), (33, .int .i64 (a_.length : Int)), (34, .int .i64 i2), (46, .int .i64 (a_.length : Int)), (47, .int .i64 i3)] ?_
           refine Run_blk ?_
           have H56 : Hold h h21 [rowsP cd2 24 a4 x1.length c2 x1 [(i3.toNat, a12, x12.length, c9, x12), ((a_.length : Int).toNat, a11, x10.length, c8, x10), (i3.toNat, a10, x8.length, c7, x8)], box b3 44 [.int .i64 x14.Num, .int .i64 x14.Den], box b4 44 [.int .i64 x14.Num, .int .i64 x14.Den], box b1 44 [.int .i64 0, .int .i64 0], box b2 44 [.int .i64 s2.1.Num, .int .i64 s2.1.Den]] := H50.pk [3, 0, 1, 2, 4]
           have H57 := H56.ofRows
           have H58 : Hold h h21 [box b1 44 [.int .i64 0, .int .i64 0], own cd24 a4 x1.length c2 x1, box b2 44 [.int .i64 s2.1.Num, .int .i64 s2.1.Den], box b3 44 [.int .i64 x14.Num, .int .i64 x14.Den]] := H57.pk [3, 0, 4, 1]
           have gs5 := M.ret_some gs5
           subst gs5
           exact Zf [2, 4, 5, 7, 8, 9, 10, 11, 33, 34, 46, 47] ⟨rfl, H58⟩
          ·have gs5 := (M.ite_some gs5).2 hb7
           refine Run_skip ?_
           refine Run_blk ?_
           have H59 : Hold h h20 [rowsP cd2 24 a4 x1.length c2 x1 [(i3.toNat, a12, x12.length, c9, x12), ((a_.length : Int).toNat, a11, x10.length, c8, x10), (i3.toNat, a10, x8.length, c7, x8)], box b4 44 [.int .i64 x14.Num, .int .i64 x14.Den], box b1 44 [.int .i64 0, .int .i64 0], box b2 44 [.int .i64 s2.1.Num, .int .i64 s2.1.Den], box b3 44 [.int .i64 s4.1.Num, .int .i64 s4.1.Den]] := H49.pk [2, 0, 1, 3, 4]
           have H60 := H59.ofRows
           have H61 : Hold h h20 [box b1 44 [.int .i64 0, .int .i64 0], own cd24 a4 x1.length c2 x1, box b2 44 [.int .i64 s2.1.Num, .int .i64 s2.1.Den], box b3 44 [.int .i64 s4.1.Num, .int .i64 s4.1.Den]] := H60.pk [2, 0, 3, 4]
           have gs5 := M.ret_some gs5
           subst gs5
           exact Zf [2, 4, 5, 7, 8, 9, 10, 11, 33, 34, 46, 47] ⟨rfl, H61⟩
       ·have gx7 := M.for_end gx7 hb4
        subst gx7
        refine Run_exit (k' := _) rfl ?_
        exact Zf [2, 4, 5, 7, 8, 10, 33, 34] ⟨rfl, H30⟩
   ·have gx4 := M.for_end gx4 hb2
    subst gx4
    refine Run_exit (k' := _) rfl ?_
    have H75 : Hold h h10 [box b1 44 [.int .i64 0, .int .i64 0], box b2 44 [.int .i64 s2.1.Num, .int .i64 s2.1.Den]] := H22.pk [0, 2]
    exact Zf [2, 7, 8] ⟨rfl, H75⟩
 ·refine Run_block ?_
  have hn1 := (H3.len 0 rfl)
  have H79 : Hold h h3 [own cd24 a2 ([l1].length) 1 [l1], box b1 44 [.int .i64 0, .int .i64 0]] := by rw [hn1]; exact H3
  have H80 : Hold h h3 [box b1 44 [.int .i64 0, .int .i64 0], own cd24 a2 ([l1].length) 1 [l1]] := H79.pk [1, 0]
  refine Run_keep [0, 2, 4, 5, 19, 20] (L' := [(0, .slice aa_ a_.length ca_), (2, pV b1), (4, .int .i64 (a_.length : Int)), (5, .slice a2 ([l1].length) 1), (19, .int .i64 (a_.length : Int)), (20, .int .i64 0)]) (by first | (rw [hn1]; kernel_rfl) | (simp only [hn1]; kernel_rfl) | kernel_rfl) ?_
  refine Run_loop (fun m L' h' => ∃ (i1 : Int) (s1 : (List (List Int))) (a3 : Option Addr) (c1 : Nat), 0 ≤ i1 ∧ M.forN (a_.length : Int) _ _ n m i1 s1 = some x1 ∧ L' = [(0, .slice aa_ a_.length ca_), (2, pV b1), (4, .int .i64 (a_.length : Int)), (5, .slice a3 s1.length c1), (19, .int .i64 (a_.length : Int)), (20, .int .i64 i1)] ∧ Hold h h' [box b1 44 [.int .i64 0, .int .i64 0], own cd24 a3 s1.length c1 s1]) ((a_.length : Int) - 0 : Int).toNat ⟨0, [l1], a2, 1, Int.le_refl _, gx1, rfl, H80⟩ ?_
  rintro my1 _ h4 ⟨i1, s1, a3, c1, hloy1', gx1, rfl, H4⟩
  refine Zs ?_
  refine Zq [.bool (decide (i1 < (a_.length : Int)))] [0, 2, 4, 5, 19, 20, 21] [(0, .slice aa_ a_.length ca_), (2, pV b1), (4, .int .i64 (a_.length : Int)), (5, .slice a3 s1.length c1), (19, .int .i64 (a_.length : Int)), (20, .int .i64 i1), (21, .bool (decide (i1 < (a_.length : Int))))] ?_
  refine Zs ?_
  refine Zc (decide (i1 < (a_.length : Int))) (fun hb1 => ?_) (fun hb1 => ?_)
  ·obtain ⟨my1, y1, rfl, hB1, hgoy1, houty1⟩ := M.for_go gx1 hb1
   have hlty1 := of_decide_eq_true hb1
   refine Run_skip ?_
   refine Zs ?_
   refine Run_block ?_
   refine Zs ?_
   refine Zq [.int .i64 i1, .int .i64 i1] [0, 2, 4, 5, 6, 19, 20] [(0, .slice aa_ a_.length ca_), (2, pV b1), (4, .int .i64 (a_.length : Int)), (5, .slice a3 s1.length c1), (6, .int .i64 i1), (19, .int .i64 (a_.length : Int)), (20, .int .i64 i1)] ?_
   refine Run_ops ?_
   obtain ⟨x2, hx1, hB1⟩ := M.bind_some hB1
   obtain ⟨hx1l, hx1u, hx1⟩ := M.idx_some hx1
   have H6 : Hold h h4 [own cd24 a3 s1.length c1 s1, box b1 44 [.int .i64 0, .int .i64 0]] := H4.pk [1, 0]
   have H7 := H6.toRows
   obtain ⟨a5, c3, H8⟩ := H7.pinRow hx1
   have H9 : Hold h h4 [box b1 44 [.int .i64 0, .int .i64 0], rowsP cd2 24 a3 s1.length c1 s1 [(i1.toNat, a5, x2.length, c3, x2)]] := H8.pk [1, 0]
   refine Zr [.slice a3 s1.length c1, .slice aa_ a_.length ca_, .slice a3 s1.length c1, .int .i64 i1] 0 ?_
   refine Zz (.pointer (some (adr a3 (i1.toNat * 1)))) (Zi 22 24 1 (a3) (s1.length) (c1) .i64 (i1) Tryz.underlying22 ((H4.rd 1 rfl).cell hx1).1 hx1l hx1u) ?_
   refine Zz (.slice a5 x2.length c3) (Zl 24 (adr a3 (i1.toNat * 1)) (.slice a5 x2.length c3) (H9.cellPin 1 rfl 0 rfl)) ?_
   obtain ⟨x3, hx2, hB1⟩ := M.bind_some hB1
   refine Ze ?_
   refine ZC 65 #[.slice aa_ a_.length ca_, .slice a5 x2.length c3] (w_impl_timesVector h4 a_ aa_ ca_ (ra_.at H9.ext) x2 a5 c3 (H9.rdPin 1 rfl 0 rfl) _ _ hx2) (fun v1 h6 hp1 => ?_)
   obtain ⟨a6, c4, rfl, H10⟩ := hp1
   have H11 : Hold h h6 [own cd2 a6 x3.length c4 x3, box b1 44 [.int .i64 0, .int .i64 0], rowsP cd2 24 a3 s1.length c1 s1 [(i1.toNat, a5, x2.length, c3, x2)]] := H9.call H10 rfl
   refine Ze ?_
   refine E_lit1 (ey := 24) (n := x3.length) H11 (fun w => by kernel_rfl) rfl (fun a7 h7 H12 => ?_)
   obtain ⟨l2, hl2, hB1⟩ := M.bind_some hB1
   have hl2 := M.app_some hl2
   have H13 : Hold h h7 [rowsP cd2 24 a3 s1.length c1 s1 [(i1.toNat, a5, x2.length, c3, x2)], own cd24 a7 1 1 [x3], box b1 44 [.int .i64 0, .int .i64 0]] := H12.pk [2, 0, 1]
   have H14 := H13.ofRows
   have H15 : Hold h h7 [own cd24 a7 1 1 [x3], own cd24 a3 s1.length c1 s1, box b1 44 [.int .i64 0, .int .i64 0]] := H14.pk [1, 0, 2]
   have H16 : Hold h h7 [own cd24 a3 s1.length c1 s1, own cd24 a7 1 1 [x3], box b1 44 [.int .i64 0, .int .i64 0]] := H15.pk [1, 0, 2]
   refine Ze ?_
   refine E_app (C := cd24) (t := 22) (ty := 22) (n := s1.length) (m := 1) H16 cd24_ti rfl Tryz.underlying22 (by decide) (by kernel_rfl) hl2 (fun a8 c5 h8 H17 => ?_)
   refine Zr [.slice a8 l2.length c5] 9 ?_
   refine Zx ?_
   refine Zk [0, 2, 4, 5, 19, 20] [(0, .slice aa_ a_.length ca_), (2, pV b1), (4, .int .i64 (a_.length : Int)), (5, .slice a8 l2.length c5), (19, .int .i64 (a_.length : Int)), (20, .int .i64 i1)] ?_
   refine Run_blk ?_
   refine Zg 2 [(0, .slice aa_ a_.length ca_), (2, pV b1), (4, .int .i64 (a_.length : Int)), (5, .slice a8 l2.length c5), (19, .int .i64 (a_.length : Int)), (20, .int .i64 (i1 + 1))] ?_ ?_
   ·refine Zy (.int .i64 (i1 + 1)) (Y_eq (v := .int .i64 (w64 (i1 + 1))) (Y_pure (fun w => by kernel_rfl)) (by rw [w64_eq _ (by omega)])) ?_
    refine Zb [.int .i64 (i1 + 1)] 1 ?_
    exact Zd [0, 2, 4, 5, 19, 20]
   have H18 : Hold h h8 [box b1 44 [.int .i64 0, .int .i64 0], own cd24 a8 l2.length c5 l2] := H17.pk [1, 0]
   have hB1 := M.ret_some hB1
   have gx1 := hgoy1 _ hB1.symm
   exact Za [0, 2, 4, 5, 19, 20] my1 ⟨i1 + 1, l2, a8, c5, by omega, gx1, rfl, H18⟩
  ·have gx1 := M.for_end gx1 hb1
   subst gx1
   refine Run_exit (k' := _) rfl ?_
   have H19 : Hold h h4 [own cd24 a3 s1.length c1 s1, box b1 44 [.int .i64 0, .int .i64 0]] := H4.pk [1, 0]
   have H20 : Hold h h4 [box b1 44 [.int .i64 0, .int .i64 0], own cd24 a3 s1.length c1 s1] := H19.pk [1, 0]
   exact Zf [2, 4, 5] ⟨a3, c1, rfl, H20⟩

theorem w_impl_shifted_1 (h : Heap) (i : Int) (j : Int) (z0 : List (List Int)) {Sz0 : Bs} (az0 : Option Addr) (cz0 : Nat) (rz0 : Rd cd24 h Sz0 az0 cz0 z0) (bz0 : Nat) (vz0 : VarAt h bz0 22 [.slice az0 z0.length cz0]) (z1 : TRatio) (bz1 : Nat) (vz1 : VarAt h bz1 44 [.int .i64 z1.Num, .int .i64 z1.Den]) (n : Nat) (r : Int) (hF : impl_shifted_1 i j z0 z1 n = some r) :
  Fn Tryz.prog 137 #[.int .i64 i, .int .i64 j, pV bz0, pV bz1] h fun v h' => v = .int .i64 r ∧ h' = h := by
 unfold impl_shifted_1 at hF
 refine Zo [.int .i64 i, .int .i64 j, pV bz0, pV bz1] Tryz.func137 rfl (fun w0 _ => ?_)
 refine Zs ?_
 refine Zq [.int .i64 0] [0, 1, 2, 3] [(0, .int .i64 i), (1, .int .i64 j), (2, pV bz0), (3, pV bz1)] ?_
 refine Zs ?_
 refine Zs ?_
 obtain ⟨x1, hx1, hF⟩ := M.bind_some hF
 obtain ⟨hx1l, hx1u, hx1⟩ := M.idx_some hx1
 obtain ⟨a1, c1, hc1, r1⟩ := rz0.row hx1
 obtain ⟨x2, hx2, hF⟩ := M.bind_some hF
 obtain ⟨hx2l, hx2u, hx2⟩ := M.idx_some hx2
 refine Zg 8 [(0, .int .i64 i), (1, .int .i64 j), (2, pV bz0), (3, pV bz1), (14, .bool (x2 == (-1000000000000000)))] ?_ ?_
 ·refine Zy (.slice az0 z0.length cz0) (Zl 22 (⟨bz0, 0, none⟩) (.slice az0 z0.length cz0) (VarAt.cell vz0 rfl)) ?_
  refine Zb [.int .i64 i] 1 ?_
  refine Zy (.pointer (some (adr az0 (i.toNat * 1)))) (Zi 22 24 1 (az0) (z0.length) (cz0) .i64 (i) Tryz.underlying22 (rz0.cell hx1).1 hx1l hx1u) ?_
  refine Zy (.slice a1 x1.length c1) (Zl 24 (adr az0 (i.toNat * 1)) (.slice a1 x1.length c1) hc1) ?_
  refine Zb [.int .i64 j] 4 ?_
  refine Zy (.pointer (some (adr a1 (j.toNat * 1)))) (Zi 24 2 1 (a1) (x1.length) (c1) .i64 (j) Tryz.underlying24 (r1.cell hx2).1 hx2l hx2u) ?_
  refine Zy (.int .i64 x2) (Zl 2 (adr a1 (j.toNat * 1)) (.int .i64 x2) (cd2_cell r1 hx2)) ?_
  refine Zb [.bool (x2 == (-1000000000000000))] 7 ?_
  exact Zd [0, 1, 2, 3, 14]
 refine Zc (x2 == (-1000000000000000)) (fun hb1 => ?_) (fun hb1 => ?_)
 ·have hF := (M.ite_some hF).1 hb1
  refine Zs ?_
  refine Zq [.int .i64 (-1000000000000000)] [6] [(6, .int .i64 (-1000000000000000))] ?_
  have hF := M.ret_some hF
  subst hF
  exact Run_ret1 rfl (Zt (.int .i64 (-1000000000000000))) ⟨rfl, rfl⟩
 ·have hF := (M.ite_some hF).2 hb1
  refine Run_skip ?_
  refine Zs ?_
  obtain ⟨x3, hx3, hF⟩ := M.bind_some hF
  obtain ⟨hx3l, hx3u, hx3⟩ := M.idx_some hx3
  obtain ⟨a2, c2, hc2, r2⟩ := rz0.row hx3
  obtain ⟨x4, hx4, hF⟩ := M.bind_some hF
  obtain ⟨hx4l, hx4u, hx4⟩ := M.idx_some hx4
  refine Run_draw 14 mixed (by kernel_rfl) (by kernel_rfl) (L' := [(6, .int .i64 (w64 ((w64 (z1.Den * x4)) - z1.Num)))]) ?_ ?_
  ·refine Zb [.pointer (some ⟨bz1, 1, none⟩)] 0 ?_
   refine Zy (.int .i64 z1.Den) (Zl 2 (⟨bz1, 1, none⟩) (.int .i64 z1.Den) (VarAt.cell vz1 rfl)) ?_
   refine Zy (.slice az0 z0.length cz0) (Zl 22 (⟨bz0, 0, none⟩) (.slice az0 z0.length cz0) (VarAt.cell vz0 rfl)) ?_
   refine Zb [.int .i64 i] 3 ?_
   refine Zy (.pointer (some (adr az0 (i.toNat * 1)))) (Zi 22 24 1 (az0) (z0.length) (cz0) .i64 (i) Tryz.underlying22 (rz0.cell hx3).1 hx3l hx3u) ?_
   refine Zy (.slice a2 x3.length c2) (Zl 24 (adr az0 (i.toNat * 1)) (.slice a2 x3.length c2) hc2) ?_
   refine Zb [.int .i64 j] 6 ?_
   refine Zy (.pointer (some (adr a2 (j.toNat * 1)))) (Zi 24 2 1 (a2) (x3.length) (c2) .i64 (j) Tryz.underlying24 (r2.cell hx4).1 hx4l hx4u) ?_
   refine Zy (.int .i64 x4) (Zl 2 (adr a2 (j.toNat * 1)) (.int .i64 x4) (cd2_cell r2 hx4)) ?_
   refine Zb [.int .i64 (w64 (z1.Den * x4)), pV bz1] 9 ?_
   refine Zy (.int .i64 z1.Num) (Zl 2 (⟨bz1, 0, none⟩) (.int .i64 z1.Num) (VarAt.cell vz1 rfl)) ?_
   refine Zb [.int .i64 (w64 ((w64 (z1.Den * x4)) - z1.Num)), .int .i64 (w64 ((w64 (z1.Den * x4)) - z1.Num))] 12 ?_
   exact Zd [6]
  have hF := M.ret_some hF
  subst hF
  exact Run_ret1 rfl (Zt (.int .i64 (w64 ((w64 (z1.Den * x4)) - z1.Num)))) ⟨rfl, rfl⟩

theorem w_impl_matrixBy_F_impl_shifted_1 (h : Heap) (m_ : Int) (n_ : Int) (entry0 : List (List Int)) (aentry0 : Option Addr) (centry0 : Nat) (rentry0 : Rd cd24 h (Lt h) aentry0 centry0 entry0) (bentry0 : Nat) (ventry0 : VarAt h bentry0 22 [.slice aentry0 entry0.length centry0]) (entry1 : TRatio) (bentry1 : Nat) (ventry1 : VarAt h bentry1 44 [.int .i64 entry1.Num, .int .i64 entry1.Den]) (n : Nat) (r : (List (List Int))) (hF : impl_matrixBy_F_impl_shifted_1 m_ n_ entry0 entry1 n = some r) :
  Fn Tryz.prog 109 #[.int .i64 m_, .int .i64 n_, .func (.func 137) #[] #[pV bentry0, pV bentry1]] h fun v h' => ∃ (a0 : Option Addr) (c0 : Nat), v = .slice a0 r.length c0 ∧ Hold h h' [own cd24 a0 r.length c0 r] := by
 unfold impl_matrixBy_F_impl_shifted_1 at hF
 refine Zo [.int .i64 m_, .int .i64 n_, .func (.func 137) #[] #[pV bentry0, pV bentry1]] Tryz.func109 rfl (fun w0 _ => ?_)
 have H0 := Hold.init h
 refine Zs ?_
 refine Zq [.slice none 0 0] [0, 1, 2] [(0, .int .i64 m_), (1, .int .i64 n_), (2, .func (.func 137) #[] #[pV bentry0, pV bentry1])] ?_
 refine Zs ?_
 refine Run_ops ?_
 refine Zr [.int .i64 m_] 0 ?_
 obtain ⟨l1, hl1, hF⟩ := M.bind_some hF
 have hl1 := M.make_some hl1
 refine Ze ?_
 refine E_make cd24 [] (kl := .i64) (kc := .i64) H0 cd24_ti Tryz.underlying22 (by decide) cd24_zero (by kernel_rfl) hl1 (fun a1 h1 H1 => ?_)
 refine Zr [.slice a1 l1.length l1.length] 2 ?_
 refine Zx ?_
 refine Zk [1, 2, 7] [(1, .int .i64 n_), (2, .func (.func 137) #[] #[pV bentry0, pV bentry1]), (7, .slice a1 l1.length l1.length)] ?_
 refine Zs ?_
 refine Zs ?_
 refine Zq [.slice a1 l1.length l1.length, .int .i64 (l1.length : Int), .int .i64 0] [1, 2, 7, 13, 14] [(1, .int .i64 n_), (2, .func (.func 137) #[] #[pV bentry0, pV bentry1]), (7, .slice a1 l1.length l1.length), (13, .int .i64 (l1.length : Int)), (14, .int .i64 0)] ?_
 obtain ⟨x1, gx1, hF⟩ := M.bind_some hF
 obtain ⟨hloy1, hhiy1, gx1⟩ := M.for_start gx1
 refine Run_join (fun L' h' => L' = [(7, .slice a1 l1.length l1.length)] ∧ Hold h h' [own cd24 a1 l1.length l1.length x1]) ?_ ?_
 ·rintro _ h3 ⟨rfl, H3⟩
  refine Zs ?_
  refine Zq [.slice a1 l1.length l1.length, .slice a1 l1.length l1.length] [6] [(6, .slice a1 l1.length l1.length)] ?_
  have hF := M.ret_some hF
  subst hF
  have H20 := H3.norm
  exact Run_ret1 rfl (Zt (.slice a1 l1.length l1.length)) ⟨a1, l1.length, (by simp only [(H3.len 0 rfl)]), H20⟩
 ·refine Run_block ?_
  refine Zk [1, 2, 7, 13, 14] [(1, .int .i64 n_), (2, .func (.func 137) #[] #[pV bentry0, pV bentry1]), (7, .slice a1 l1.length l1.length), (13, .int .i64 (l1.length : Int)), (14, .int .i64 0)] ?_
  refine Run_loop (fun m L' h' => ∃ (i1 : Int) (s1 : (List (List Int))), 0 ≤ i1 ∧ M.forN (l1.length : Int) _ _ n m i1 s1 = some x1 ∧ L' = [(1, .int .i64 n_), (2, .func (.func 137) #[] #[pV bentry0, pV bentry1]), (7, .slice a1 l1.length l1.length), (13, .int .i64 (l1.length : Int)), (14, .int .i64 i1)] ∧ Hold h h' [own cd24 a1 l1.length l1.length s1]) ((l1.length : Int) - 0 : Int).toNat ⟨0, l1, Int.le_refl _, gx1, rfl, H1⟩ ?_
  rintro my1 _ h2 ⟨i1, s1, hloy1', gx1, rfl, H2⟩
  refine Zs ?_
  refine Zq [.bool (decide (i1 < (l1.length : Int)))] [1, 2, 7, 13, 14, 15] [(1, .int .i64 n_), (2, .func (.func 137) #[] #[pV bentry0, pV bentry1]), (7, .slice a1 l1.length l1.length), (13, .int .i64 (l1.length : Int)), (14, .int .i64 i1), (15, .bool (decide (i1 < (l1.length : Int))))] ?_
  refine Zs ?_
  refine Zc (decide (i1 < (l1.length : Int))) (fun hb1 => ?_) (fun hb1 => ?_)
  ·obtain ⟨my1, y1, rfl, hB1, hgoy1, houty1⟩ := M.for_go gx1 hb1
   have hlty1 := of_decide_eq_true hb1
   refine Run_skip ?_
   refine Zs ?_
   refine Run_block ?_
   refine Zs ?_
   refine Zq [.int .i64 i1, .int .i64 i1] [1, 2, 7, 8, 13, 14] [(1, .int .i64 n_), (2, .func (.func 137) #[] #[pV bentry0, pV bentry1]), (7, .slice a1 l1.length l1.length), (8, .int .i64 i1), (13, .int .i64 (l1.length : Int)), (14, .int .i64 i1)] ?_
   refine Zs ?_
   refine Run_ops ?_
   refine Zr [.slice a1 l1.length l1.length, .int .i64 i1, .int .i64 n_] 0 ?_
   obtain ⟨l2, hl2, hB1⟩ := M.bind_some hB1
   have hl2 := M.make_some hl2
   refine Ze ?_
   refine E_make cd2 0 (kl := .i64) (kc := .i64) H2 cd2_ti Tryz.underlying24 (by decide) cd2_zero (by kernel_rfl) hl2 (fun a2 h4 H4 => ?_)
   obtain ⟨x2, hx1, hB1⟩ := M.bind_some hB1
   obtain ⟨hx1l, hx1u, hx1⟩ := M.idx_some hx1
   refine Zz (.pointer (some (adr a1 (i1.toNat * 1)))) (Zi 22 24 1 (a1) (l1.length) (l1.length) .i64 (i1) Tryz.underlying22 ((H4.rd 1 rfl).cell hx1).1 hx1l (by rw [← (H4.len 1 rfl)]; exact hx1u)) ?_
   obtain ⟨l3, hu1, hB1⟩ := M.bind_some hB1
   have hu1 := M.upd_some hu1
   have H6 : Hold h h4 [own cd24 a1 l1.length l1.length s1, own cd2 a2 l2.length l2.length l2] := H4.pk [1, 0]
   have H7 : Hold h h4 [own cd2 a2 l2.length l2.length l2, own cd24 a1 l1.length l1.length s1] := H6.pk [1, 0]
   have H8 : Hold h h4 [own cd24 a1 l1.length l1.length s1, own cd2 a2 l2.length l2.length l2] := H7.pk [1, 0]
   refine Ze ?_
   refine E_putRow (t := 24) (j := i1) H8 (by kernel_rfl) (by kernel_rfl) hu1 (fun h5 H5 => ?_)
   refine Zx ?_
   refine Zk [1, 2, 7, 8, 13, 14] [(1, .int .i64 n_), (2, .func (.func 137) #[] #[pV bentry0, pV bentry1]), (7, .slice a1 l1.length l1.length), (8, .int .i64 i1), (13, .int .i64 (l1.length : Int)), (14, .int .i64 i1)] ?_
   refine Zs ?_
   obtain ⟨x3, hx2, hB1⟩ := M.bind_some hB1
   obtain ⟨hx2l, hx2u, hx2⟩ := M.idx_some hx2
   have H9 := H5.toRows
   obtain ⟨a3, c1, H10⟩ := H9.pinRow hx2
   refine Zg 6 [(1, .int .i64 n_), (2, .func (.func 137) #[] #[pV bentry0, pV bentry1]), (7, .slice a1 l1.length l1.length), (8, .int .i64 i1), (13, .int .i64 (l1.length : Int)), (14, .int .i64 i1), (26, .int .i64 (x3.length : Int)), (27, .int .i64 0)] ?_ ?_
   ·refine Zb [.slice a1 l1.length l1.length, .int .i64 i1] 0 ?_
    refine Zy (.pointer (some (adr a1 (i1.toNat * 1)))) (Zi 22 24 1 (a1) (l1.length) (l1.length) .i64 (i1) Tryz.underlying22 ((H5.rd 0 rfl).cell hx2).1 hx2l (by rw [← (H5.len 0 rfl)]; exact hx2u)) ?_
    refine Zy (.slice a3 x3.length c1) (Zl 24 (adr a1 (i1.toNat * 1)) (.slice a3 x3.length c1) (H10.cellPin 0 rfl 0 rfl)) ?_
    refine Zb [.int .i64 (x3.length : Int), .int .i64 0] 4 ?_
    exact Zd [1, 2, 7, 8, 13, 14, 26, 27]
   obtain ⟨x4, gx4, hB1⟩ := M.bind_some hB1
   obtain ⟨hloy2, hhiy2, gx4⟩ := M.for_start gx4
   refine Run_join (fun L' h' => L' = [(1, .int .i64 n_), (2, .func (.func 137) #[] #[pV bentry0, pV bentry1]), (7, .slice a1 l1.length l1.length), (13, .int .i64 (l1.length : Int)), (14, .int .i64 i1)] ∧ Hold h h' [own cd24 a1 l1.length l1.length x4]) ?_ ?_
   ·rintro _ h7 ⟨rfl, H12⟩
    refine Run_blk ?_
    refine Zg 2 [(1, .int .i64 n_), (2, .func (.func 137) #[] #[pV bentry0, pV bentry1]), (7, .slice a1 l1.length l1.length), (13, .int .i64 (l1.length : Int)), (14, .int .i64 (i1 + 1))] ?_ ?_
    ·refine Zy (.int .i64 (i1 + 1)) (Y_eq (v := .int .i64 (w64 (i1 + 1))) (Y_pure (fun w => by kernel_rfl)) (by rw [w64_eq _ (by omega)])) ?_
     refine Zb [.int .i64 (i1 + 1)] 1 ?_
     exact Zd [1, 2, 7, 13, 14]
    have hB1 := M.ret_some hB1
    have gx1 := hgoy1 _ hB1.symm
    exact Za [1, 2, 7, 13, 14] my1 ⟨i1 + 1, x4, by omega, gx1, rfl, H12⟩
   ·refine Run_block ?_
    have H19 := H10.ofRows
    refine Zk [1, 2, 7, 8, 13, 14, 26, 27] [(1, .int .i64 n_), (2, .func (.func 137) #[] #[pV bentry0, pV bentry1]), (7, .slice a1 l1.length l1.length), (8, .int .i64 i1), (13, .int .i64 (l1.length : Int)), (14, .int .i64 i1), (26, .int .i64 (x3.length : Int)), (27, .int .i64 0)] ?_
    refine Run_loop (fun m L' h' => ∃ (i2 : Int) (s2 : (List (List Int))), 0 ≤ i2 ∧ M.forN (x3.length : Int) _ _ n m i2 s2 = some x4 ∧ L' = [(1, .int .i64 n_), (2, .func (.func 137) #[] #[pV bentry0, pV bentry1]), (7, .slice a1 l1.length l1.length), (8, .int .i64 i1), (13, .int .i64 (l1.length : Int)), (14, .int .i64 i1), (26, .int .i64 (x3.length : Int)), (27, .int .i64 i2)] ∧ Hold h h' [own cd24 a1 l1.length l1.length s2]) ((x3.length : Int) - 0 : Int).toNat ⟨0, l3, Int.le_refl _, gx4, rfl, H19⟩ ?_
    rintro my2 _ h6 ⟨i2, s2, hloy2', gx4, rfl, H11⟩
    refine Zs ?_
    refine Zq [.bool (decide (i2 < (x3.length : Int)))] [1, 2, 7, 8, 13, 14, 26, 27, 28] [(1, .int .i64 n_), (2, .func (.func 137) #[] #[pV bentry0, pV bentry1]), (7, .slice a1 l1.length l1.length), (8, .int .i64 i1), (13, .int .i64 (l1.length : Int)), (14, .int .i64 i1), (26, .int .i64 (x3.length : Int)), (27, .int .i64 i2), (28, .bool (decide (i2 < (x3.length : Int))))] ?_
    refine Zs ?_
    refine Zc (decide (i2 < (x3.length : Int))) (fun hb2 => ?_) (fun hb2 => ?_)
    ·obtain ⟨my2, y2, rfl, hB2, hgoy2, houty2⟩ := M.for_go gx4 hb2
     have hlty2 := of_decide_eq_true hb2
     refine Run_skip ?_
     refine Zs ?_
     refine Run_block ?_
     refine Zs ?_
     refine Zq [.int .i64 i2, .int .i64 i2] [1, 2, 7, 8, 9, 13, 14, 26, 27] [(1, .int .i64 n_), (2, .func (.func 137) #[] #[pV bentry0, pV bentry1]), (7, .slice a1 l1.length l1.length), (8, .int .i64 i1), (9, .int .i64 i2), (13, .int .i64 (l1.length : Int)), (14, .int .i64 i1), (26, .int .i64 (x3.length : Int)), (27, .int .i64 i2)] ?_
     obtain ⟨x5, hx3, hB2⟩ := M.bind_some hB2
     obtain ⟨hx3l, hx3u, hx3⟩ := M.idx_some hx3
     have H13 := H11.toRows
     obtain ⟨a4, c2, H14⟩ := H13.pinRow hx3
     obtain ⟨x6, hx4, hB2⟩ := M.bind_some hB2
     obtain ⟨x7, hx5, hB2⟩ := M.bind_some hB2
     obtain ⟨hx5l, hx5u, hx5⟩ := M.idx_some hx5
     refine Run_D (fun x => Hold h x [rowsP cd2 24 a1 l1.length l1.length s2 [(i1.toNat, a4, x5.length, c2, x5)]]) (fun x => Hold h x [rowsP cd2 24 a1 l1.length l1.length s2 [(i1.toNat, a4, x5.length, c2, x5)]]) mixed (by kernel_rfl) H14 Hold.stable (fun x Hy => (show Hold h x [rowsP cd2 24 a1 l1.length l1.length s2 [(i1.toNat, a4, x5.length, c2, x5)]] from Hy).pk [0]) ?_
     refine ZB 9 [.slice a1 l1.length l1.length, .int .i64 i1] 0 ?_
     refine ZY 8 2 (.pointer (some (adr a1 (i1.toNat * 1)))) (fun hx Hx => (YE.of (Zi 22 24 1 (a1) (l1.length) (l1.length) .i64 (i1) Tryz.underlying22 ((H11.rd 0 rfl).cell hx3).1 hx3l (by rw [← (H11.len 0 rfl)]; exact hx3u)))) ?_
     refine ZY 7 3 (.slice a4 x5.length c2) (fun hx Hx => (YE.of (Zl 24 (adr a1 (i1.toNat * 1)) (.slice a4 x5.length c2) (Hx.cellPin 0 rfl 0 rfl)))) ?_
     refine ZB 3 [.int .i64 i2, .func (.func 137) #[] #[pV bentry0, pV bentry1], .int .i64 i1, .int .i64 i2] 4 ?_
     refine ZY 2 8 (.int .i64 x6) (fun hx Hx => (YE.of (ZQ 137 #[.int .i64 i1, .int .i64 i2, pV bentry0, pV bentry1] (w_impl_shifted_1 hx i1 i2 entry0 aentry0 centry0 (rentry0.at Hx.ext) bentry0 (ventry0.at Hx.ext) entry1 bentry1 (ventry1.at Hx.ext) _ _ hx4)))) ?_
     refine ZY 1 9 (.pointer (some (adr a4 (i2.toNat * 1)))) (fun hx Hx => (YE.of (Zi 24 2 1 (a4) (x5.length) (c2) .i64 (i2) Tryz.underlying24 ((H14.rdPin 0 rfl 0 rfl).cell hx5).1 hx5l hx5u))) ?_
     refine ZT 10 (fun h8 H15 => ?_)
     have H16 : Hold h h8 [rowsP cd2 24 a1 l1.length l1.length s2 [(i1.toNat, a4, x5.length, c2, x5)]] := H15
     obtain ⟨l4, hu2, hB2⟩ := M.bind_some hB2
     have hu2 := M.upd_some hu2
     refine Ze ?_
     refine E_put2 (C := cd2) (t := 2) (sz := 1) (j := i2) (x := x6) (v := .int .i64 x6) (m2 := s2.set i1.toNat l4) H16 cd2_flat 0 rfl (by kernel_rfl) rfl (cd2_own _) (by kernel_rfl) hu2 rfl (fun h9 H17 => ?_)
     refine Zx ?_
     refine Zk [1, 2, 7, 8, 13, 14, 26, 27] [(1, .int .i64 n_), (2, .func (.func 137) #[] #[pV bentry0, pV bentry1]), (7, .slice a1 l1.length l1.length), (8, .int .i64 i1), (13, .int .i64 (l1.length : Int)), (14, .int .i64 i1), (26, .int .i64 (x3.length : Int)), (27, .int .i64 i2)] ?_
     refine Run_blk ?_
     refine Zg 2 [(1, .int .i64 n_), (2, .func (.func 137) #[] #[pV bentry0, pV bentry1]), (7, .slice a1 l1.length l1.length), (8, .int .i64 i1), (13, .int .i64 (l1.length : Int)), (14, .int .i64 i1), (26, .int .i64 (x3.length : Int)), (27, .int .i64 (i2 + 1))] ?_ ?_
     ·refine Zy (.int .i64 (i2 + 1)) (Y_eq (v := .int .i64 (w64 (i2 + 1))) (Y_pure (fun w => by kernel_rfl)) (by rw [w64_eq _ (by omega)])) ?_
      refine Zb [.int .i64 (i2 + 1)] 1 ?_
      exact Zd [1, 2, 7, 8, 13, 14, 26, 27]
     have H18 := H17.ofRows
     have hB2 := M.ret_some hB2
     have gx4 := hgoy2 _ hB2.symm
     exact Za [1, 2, 7, 8, 13, 14, 26, 27] my2 ⟨i2 + 1, (s2.set i1.toNat l4), by omega, gx4, rfl, H18⟩
    ·have gx4 := M.for_end gx4 hb2
     subst gx4
     refine Run_exit (k' := _) rfl ?_
     exact Zf [1, 2, 7, 13, 14] ⟨rfl, H11⟩
  ·have gx1 := M.for_end gx1 hb1
   subst gx1
   refine Run_exit (k' := _) rfl ?_
   exact Zf [7] ⟨rfl, H2⟩

theorem w_impl_shifted (h : Heap) (a_ : List (List Int)) (aa_ : Option Addr) (ca_ : Nat) (ra_ : Rd cd24 h (Lt h) aa_ ca_ a_) (r_ : TRatio) (n : Nat) (r : (List (List Int))) (hF : impl_shifted a_ r_ n = some r) :
  Fn Tryz.prog 94 #[.slice aa_ a_.length ca_, .agg #[.int .i64 r_.Num, .int .i64 r_.Den]] h fun v h' => ∃ (a0 : Option Addr) (c0 : Nat), v = .slice a0 r.length c0 ∧ Hold h h' [own cd24 a0 r.length c0 r] := by
 unfold impl_shifted at hF
 refine Zo [.slice aa_ a_.length ca_, .agg #[.int .i64 r_.Num, .int .i64 r_.Den]] Tryz.func94 rfl (fun w0 _ => ?_)
 have H0 := Hold.init h
 refine Zs ?_
 refine Run_ops ?_
 refine Ze ?_
 refine E_box (ty := 22) (cs := [.slice aa_ a_.length ca_]) H0 (fun w => by kernel_rfl) (fun b1 h1 H1 => ?_)
 refine Ze ?_
 refine E_box (ty := 44) (cs := [.int .i64 r_.Num, .int .i64 r_.Den]) H1 (fun w => by kernel_rfl) (fun b2 h2 H2 => ?_)
 refine Zr [.slice none 0 0] 2 ?_
 refine Zx ?_
 refine Zk [2, 3] [(2, pV b1), (3, pV b2)] ?_
 refine Zs ?_
 refine Run_ops ?_
 refine Zz (.slice aa_ a_.length ca_) (Zl 22 (⟨b1, 0, none⟩) (.slice aa_ a_.length ca_) (H2.cell 1 rfl rfl)) ?_
 refine Zr [.int .i64 (a_.length : Int)] 1 ?_
 refine Zz (.slice aa_ a_.length ca_) (Zl 22 (⟨b1, 0, none⟩) (.slice aa_ a_.length ca_) (H2.cell 1 rfl rfl)) ?_
 refine Zr [.int .i64 (a_.length : Int), .func (.func 137) #[] #[pV b1, pV b2]] 3 ?_
 obtain ⟨x1, hx1, hF⟩ := M.bind_some hF
 refine Ze ?_
 refine ZC 109 #[.int .i64 (a_.length : Int), .int .i64 (a_.length : Int), .func (.func 137) #[] #[pV b1, pV b2]] (w_impl_matrixBy_F_impl_shifted_1 h2 (a_.length : Int) (a_.length : Int) a_ aa_ ca_ (ra_.at H2.ext) b1 (H2.var 1 rfl) r_ b2 (H2.var 0 rfl) _ _ hx1) (fun v1 h3 hp1 => ?_)
 obtain ⟨a1, c1, rfl, H3⟩ := hp1
 have H4 : Hold h h3 [own cd24 a1 x1.length c1 x1, box b2 44 [.int .i64 r_.Num, .int .i64 r_.Den], box b1 22 [.slice aa_ a_.length ca_]] := H2.call H3 rfl
 refine Zr [.slice a1 x1.length c1] 6 ?_
 refine Zx ?_
 refine Zk [4] [(4, .slice a1 x1.length c1)] ?_
 have hF := M.ret_some hF
 subst hF
 have H5 : Hold h h3 [own cd24 a1 x1.length c1 x1] := H4.pk [0]
 exact Run_ret1 rfl (Zt (.slice a1 x1.length c1)) ⟨a1, c1, rfl, H5⟩

theorem w_impl_unitMatrix_1 (h : Heap) (i : Int) (j : Int) (n : Nat) (r : Int) (hF : impl_unitMatrix_1 i j n = some r) :
  Fn Tryz.prog 155 #[.int .i64 i, .int .i64 j] h fun v h' => v = .int .i64 r ∧ h' = h := by
 unfold impl_unitMatrix_1 at hF
 refine Zo [.int .i64 i, .int .i64 j] Tryz.func155 rfl (fun w0 _ => ?_)
 refine Zs ?_
 refine Zq [.int .i64 0] [0, 1] [(0, .int .i64 i), (1, .int .i64 j)] ?_
 refine Zs ?_
 refine Zs ?_
 refine Zq [.int .i64 i, .int .i64 j, .bool (i == j)] [7] [(7, .bool (i == j))] ?_
 refine Zc (i == j) (fun hb1 => ?_) (fun hb1 => ?_)
 ·have hF := (M.ite_some hF).1 hb1
  refine Zs ?_
  refine Zq [.int .i64 0] [4] [(4, .int .i64 0)] ?_
  have hF := M.ret_some hF
  subst hF
  exact Run_ret1 rfl (Zt (.int .i64 0)) ⟨rfl, rfl⟩
 ·have hF := (M.ite_some hF).2 hb1
  refine Run_skip ?_
  refine Zs ?_
  refine Zq [.int .i64 (-1000000000000000)] [4] [(4, .int .i64 (-1000000000000000))] ?_
  have hF := M.ret_some hF
  subst hF
  exact Run_ret1 rfl (Zt (.int .i64 (-1000000000000000))) ⟨rfl, rfl⟩

theorem w_impl_matrixBy_F_impl_unitMatrix_1 (h : Heap) (m_ : Int) (n_ : Int) (n : Nat) (r : (List (List Int))) (hF : impl_matrixBy_F_impl_unitMatrix_1 m_ n_ n = some r) :
  Fn Tryz.prog 109 #[.int .i64 m_, .int .i64 n_, .func (.func 155) #[] #[]] h fun v h' => ∃ (a0 : Option Addr) (c0 : Nat), v = .slice a0 r.length c0 ∧ Hold h h' [own cd24 a0 r.length c0 r] := by
 unfold impl_matrixBy_F_impl_unitMatrix_1 at hF
 refine Zo [.int .i64 m_, .int .i64 n_, .func (.func 155) #[] #[]] Tryz.func109 rfl (fun w0 _ => ?_)
 have H0 := Hold.init h
 refine Zs ?_
 refine Zq [.slice none 0 0] [0, 1, 2] [(0, .int .i64 m_), (1, .int .i64 n_), (2, .func (.func 155) #[] #[])] ?_
 refine Zs ?_
 refine Run_ops ?_
 refine Zr [.int .i64 m_] 0 ?_
 obtain ⟨l1, hl1, hF⟩ := M.bind_some hF
 have hl1 := M.make_some hl1
 refine Ze ?_
 refine E_make cd24 [] (kl := .i64) (kc := .i64) H0 cd24_ti Tryz.underlying22 (by decide) cd24_zero (by kernel_rfl) hl1 (fun a1 h1 H1 => ?_)
 refine Zr [.slice a1 l1.length l1.length] 2 ?_
 refine Zx ?_
 refine Zk [1, 2, 7] [(1, .int .i64 n_), (2, .func (.func 155) #[] #[]), (7, .slice a1 l1.length l1.length)] ?_
 refine Zs ?_
 refine Zs ?_
 refine Zq [.slice a1 l1.length l1.length, .int .i64 (l1.length : Int), .int .i64 0] [1, 2, 7, 13, 14] [(1, .int .i64 n_), (2, .func (.func 155) #[] #[]), (7, .slice a1 l1.length l1.length), (13, .int .i64 (l1.length : Int)), (14, .int .i64 0)] ?_
 obtain ⟨x1, gx1, hF⟩ := M.bind_some hF
 obtain ⟨hloy1, hhiy1, gx1⟩ := M.for_start gx1
 refine Run_join (fun L' h' => L' = [(7, .slice a1 l1.length l1.length)] ∧ Hold h h' [own cd24 a1 l1.length l1.length x1]) ?_ ?_
 ·rintro _ h3 ⟨rfl, H3⟩
  refine Zs ?_
  refine Zq [.slice a1 l1.length l1.length, .slice a1 l1.length l1.length] [6] [(6, .slice a1 l1.length l1.length)] ?_
  have hF := M.ret_some hF
  subst hF
  have H20 := H3.norm
  exact Run_ret1 rfl (Zt (.slice a1 l1.length l1.length)) ⟨a1, l1.length, (by simp only [(H3.len 0 rfl)]), H20⟩
 ·refine Run_block ?_
  refine Zk [1, 2, 7, 13, 14] [(1, .int .i64 n_), (2, .func (.func 155) #[] #[]), (7, .slice a1 l1.length l1.length), (13, .int .i64 (l1.length : Int)), (14, .int .i64 0)] ?_
  refine Run_loop (fun m L' h' => ∃ (i1 : Int) (s1 : (List (List Int))), 0 ≤ i1 ∧ M.forN (l1.length : Int) _ _ n m i1 s1 = some x1 ∧ L' = [(1, .int .i64 n_), (2, .func (.func 155) #[] #[]), (7, .slice a1 l1.length l1.length), (13, .int .i64 (l1.length : Int)), (14, .int .i64 i1)] ∧ Hold h h' [own cd24 a1 l1.length l1.length s1]) ((l1.length : Int) - 0 : Int).toNat ⟨0, l1, Int.le_refl _, gx1, rfl, H1⟩ ?_
  rintro my1 _ h2 ⟨i1, s1, hloy1', gx1, rfl, H2⟩
  refine Zs ?_
  refine Zq [.bool (decide (i1 < (l1.length : Int)))] [1, 2, 7, 13, 14, 15] [(1, .int .i64 n_), (2, .func (.func 155) #[] #[]), (7, .slice a1 l1.length l1.length), (13, .int .i64 (l1.length : Int)), (14, .int .i64 i1), (15, .bool (decide (i1 < (l1.length : Int))))] ?_
  refine Zs ?_
  refine Zc (decide (i1 < (l1.length : Int))) (fun hb1 => ?_) (fun hb1 => ?_)
  ·obtain ⟨my1, y1, rfl, hB1, hgoy1, houty1⟩ := M.for_go gx1 hb1
   have hlty1 := of_decide_eq_true hb1
   refine Run_skip ?_
   refine Zs ?_
   refine Run_block ?_
   refine Zs ?_
   refine Zq [.int .i64 i1, .int .i64 i1] [1, 2, 7, 8, 13, 14] [(1, .int .i64 n_), (2, .func (.func 155) #[] #[]), (7, .slice a1 l1.length l1.length), (8, .int .i64 i1), (13, .int .i64 (l1.length : Int)), (14, .int .i64 i1)] ?_
   refine Zs ?_
   refine Run_ops ?_
   refine Zr [.slice a1 l1.length l1.length, .int .i64 i1, .int .i64 n_] 0 ?_
   obtain ⟨l2, hl2, hB1⟩ := M.bind_some hB1
   have hl2 := M.make_some hl2
   refine Ze ?_
   refine E_make cd2 0 (kl := .i64) (kc := .i64) H2 cd2_ti Tryz.underlying24 (by decide) cd2_zero (by kernel_rfl) hl2 (fun a2 h4 H4 => ?_)
   obtain ⟨x2, hx1, hB1⟩ := M.bind_some hB1
   obtain ⟨hx1l, hx1u, hx1⟩ := M.idx_some hx1
   refine Zz (.pointer (some (adr a1 (i1.toNat * 1)))) (Zi 22 24 1 (a1) (l1.length) (l1.length) .i64 (i1) Tryz.underlying22 ((H4.rd 1 rfl).cell hx1).1 hx1l (by rw [← (H4.len 1 rfl)]; exact hx1u)) ?_
   obtain ⟨l3, hu1, hB1⟩ := M.bind_some hB1
   have hu1 := M.upd_some hu1
   have H6 : Hold h h4 [own cd24 a1 l1.length l1.length s1, own cd2 a2 l2.length l2.length l2] := H4.pk [1, 0]
   have H7 : Hold h h4 [own cd2 a2 l2.length l2.length l2, own cd24 a1 l1.length l1.length s1] := H6.pk [1, 0]
   have H8 : Hold h h4 [own cd24 a1 l1.length l1.length s1, own cd2 a2 l2.length l2.length l2] := H7.pk [1, 0]
   refine Ze ?_
   refine E_putRow (t := 24) (j := i1) H8 (by kernel_rfl) (by kernel_rfl) hu1 (fun h5 H5 => ?_)
   refine Zx ?_
   refine Zk [1, 2, 7, 8, 13, 14] [(1, .int .i64 n_), (2, .func (.func 155) #[] #[]), (7, .slice a1 l1.length l1.length), (8, .int .i64 i1), (13, .int .i64 (l1.length : Int)), (14, .int .i64 i1)] ?_
   refine Zs ?_
   obtain ⟨x3, hx2, hB1⟩ := M.bind_some hB1
   obtain ⟨hx2l, hx2u, hx2⟩ := M.idx_some hx2
   have H9 := H5.toRows
   obtain ⟨a3, c1, H10⟩ := H9.pinRow hx2
   refine Zg 6 [(1, .int .i64 n_), (2, .func (.func 155) #[] #[]), (7, .slice a1 l1.length l1.length), (8, .int .i64 i1), (13, .int .i64 (l1.length : Int)), (14, .int .i64 i1), (26, .int .i64 (x3.length : Int)), (27, .int .i64 0)] ?_ ?_
   ·refine Zb [.slice a1 l1.length l1.length, .int .i64 i1] 0 ?_
    refine Zy (.pointer (some (adr a1 (i1.toNat * 1)))) (Zi 22 24 1 (a1) (l1.length) (l1.length) .i64 (i1) Tryz.underlying22 ((H5.rd 0 rfl).cell hx2).1 hx2l (by rw [← (H5.len 0 rfl)]; exact hx2u)) ?_
    refine Zy (.slice a3 x3.length c1) (Zl 24 (adr a1 (i1.toNat * 1)) (.slice a3 x3.length c1) (H10.cellPin 0 rfl 0 rfl)) ?_
    refine Zb [.int .i64 (x3.length : Int), .int .i64 0] 4 ?_
    exact Zd [1, 2, 7, 8, 13, 14, 26, 27]
   obtain ⟨x4, gx4, hB1⟩ := M.bind_some hB1
   obtain ⟨hloy2, hhiy2, gx4⟩ := M.for_start gx4
   refine Run_join (fun L' h' => L' = [(1, .int .i64 n_), (2, .func (.func 155) #[] #[]), (7, .slice a1 l1.length l1.length), (13, .int .i64 (l1.length : Int)), (14, .int .i64 i1)] ∧ Hold h h' [own cd24 a1 l1.length l1.length x4]) ?_ ?_
   ·rintro _ h7 ⟨rfl, H12⟩
    refine Run_blk ?_
    refine Zg 2 [(1, .int .i64 n_), (2, .func (.func 155) #[] #[]), (7, .slice a1 l1.length l1.length), (13, .int .i64 (l1.length : Int)), (14, .int .i64 (i1 + 1))] ?_ ?_
    ·refine Zy (.int .i64 (i1 + 1)) (Y_eq (v := .int .i64 (w64 (i1 + 1))) (Y_pure (fun w => by kernel_rfl)) (by rw [w64_eq _ (by omega)])) ?_
     refine Zb [.int .i64 (i1 + 1)] 1 ?_
     exact Zd [1, 2, 7, 13, 14]
    have hB1 := M.ret_some hB1
    have gx1 := hgoy1 _ hB1.symm
    exact Za [1, 2, 7, 13, 14] my1 ⟨i1 + 1, x4, by omega, gx1, rfl, H12⟩
   ·refine Run_block ?_
    have H19 := H10.ofRows
    refine Zk [1, 2, 7, 8, 13, 14, 26, 27] [(1, .int .i64 n_), (2, .func (.func 155) #[] #[]), (7, .slice a1 l1.length l1.length), (8, .int .i64 i1), (13, .int .i64 (l1.length : Int)), (14, .int .i64 i1), (26, .int .i64 (x3.length : Int)), (27, .int .i64 0)] ?_
    refine Run_loop (fun m L' h' => ∃ (i2 : Int) (s2 : (List (List Int))), 0 ≤ i2 ∧ M.forN (x3.length : Int) _ _ n m i2 s2 = some x4 ∧ L' = [(1, .int .i64 n_), (2, .func (.func 155) #[] #[]), (7, .slice a1 l1.length l1.length), (8, .int .i64 i1), (13, .int .i64 (l1.length : Int)), (14, .int .i64 i1), (26, .int .i64 (x3.length : Int)), (27, .int .i64 i2)] ∧ Hold h h' [own cd24 a1 l1.length l1.length s2]) ((x3.length : Int) - 0 : Int).toNat ⟨0, l3, Int.le_refl _, gx4, rfl, H19⟩ ?_
    rintro my2 _ h6 ⟨i2, s2, hloy2', gx4, rfl, H11⟩
    refine Zs ?_
    refine Zq [.bool (decide (i2 < (x3.length : Int)))] [1, 2, 7, 8, 13, 14, 26, 27, 28] [(1, .int .i64 n_), (2, .func (.func 155) #[] #[]), (7, .slice a1 l1.length l1.length), (8, .int .i64 i1), (13, .int .i64 (l1.length : Int)), (14, .int .i64 i1), (26, .int .i64 (x3.length : Int)), (27, .int .i64 i2), (28, .bool (decide (i2 < (x3.length : Int))))] ?_
    refine Zs ?_
    refine Zc (decide (i2 < (x3.length : Int))) (fun hb2 => ?_) (fun hb2 => ?_)
    ·obtain ⟨my2, y2, rfl, hB2, hgoy2, houty2⟩ := M.for_go gx4 hb2
     have hlty2 := of_decide_eq_true hb2
     refine Run_skip ?_
     refine Zs ?_
     refine Run_block ?_
     refine Zs ?_
     refine Zq [.int .i64 i2, .int .i64 i2] [1, 2, 7, 8, 9, 13, 14, 26, 27] [(1, .int .i64 n_), (2, .func (.func 155) #[] #[]), (7, .slice a1 l1.length l1.length), (8, .int .i64 i1), (9, .int .i64 i2), (13, .int .i64 (l1.length : Int)), (14, .int .i64 i1), (26, .int .i64 (x3.length : Int)), (27, .int .i64 i2)] ?_
     obtain ⟨x5, hx3, hB2⟩ := M.bind_some hB2
     obtain ⟨hx3l, hx3u, hx3⟩ := M.idx_some hx3
     have H13 := H11.toRows
     obtain ⟨a4, c2, H14⟩ := H13.pinRow hx3
     obtain ⟨x6, hx4, hB2⟩ := M.bind_some hB2
     obtain ⟨x7, hx5, hB2⟩ := M.bind_some hB2
     obtain ⟨hx5l, hx5u, hx5⟩ := M.idx_some hx5
     refine Run_D (fun x => Hold h x [rowsP cd2 24 a1 l1.length l1.length s2 [(i1.toNat, a4, x5.length, c2, x5)]]) (fun x => Hold h x [rowsP cd2 24 a1 l1.length l1.length s2 [(i1.toNat, a4, x5.length, c2, x5)]]) mixed (by kernel_rfl) H14 Hold.stable (fun x Hy => (show Hold h x [rowsP cd2 24 a1 l1.length l1.length s2 [(i1.toNat, a4, x5.length, c2, x5)]] from Hy).pk [0]) ?_
     refine ZB 9 [.slice a1 l1.length l1.length, .int .i64 i1] 0 ?_
     refine ZY 8 2 (.pointer (some (adr a1 (i1.toNat * 1)))) (fun hx Hx => (YE.of (Zi 22 24 1 (a1) (l1.length) (l1.length) .i64 (i1) Tryz.underlying22 ((H11.rd 0 rfl).cell hx3).1 hx3l (by rw [← (H11.len 0 rfl)]; exact hx3u)))) ?_
     refine ZY 7 3 (.slice a4 x5.length c2) (fun hx Hx => (YE.of (Zl 24 (adr a1 (i1.toNat * 1)) (.slice a4 x5.length c2) (Hx.cellPin 0 rfl 0 rfl)))) ?_
     refine ZB 3 [.int .i64 i2, .func (.func 155) #[] #[], .int .i64 i1, .int .i64 i2] 4 ?_
     refine ZY 2 8 (.int .i64 x6) (fun hx Hx => (YE.of (ZQ 155 #[.int .i64 i1, .int .i64 i2] (w_impl_unitMatrix_1 hx i1 i2 _ _ hx4)))) ?_
     refine ZY 1 9 (.pointer (some (adr a4 (i2.toNat * 1)))) (fun hx Hx => (YE.of (Zi 24 2 1 (a4) (x5.length) (c2) .i64 (i2) Tryz.underlying24 ((H14.rdPin 0 rfl 0 rfl).cell hx5).1 hx5l hx5u))) ?_
     refine ZT 10 (fun h8 H15 => ?_)
     have H16 : Hold h h8 [rowsP cd2 24 a1 l1.length l1.length s2 [(i1.toNat, a4, x5.length, c2, x5)]] := H15
     obtain ⟨l4, hu2, hB2⟩ := M.bind_some hB2
     have hu2 := M.upd_some hu2
     refine Ze ?_
     refine E_put2 (C := cd2) (t := 2) (sz := 1) (j := i2) (x := x6) (v := .int .i64 x6) (m2 := s2.set i1.toNat l4) H16 cd2_flat 0 rfl (by kernel_rfl) rfl (cd2_own _) (by kernel_rfl) hu2 rfl (fun h9 H17 => ?_)
     refine Zx ?_
     refine Zk [1, 2, 7, 8, 13, 14, 26, 27] [(1, .int .i64 n_), (2, .func (.func 155) #[] #[]), (7, .slice a1 l1.length l1.length), (8, .int .i64 i1), (13, .int .i64 (l1.length : Int)), (14, .int .i64 i1), (26, .int .i64 (x3.length : Int)), (27, .int .i64 i2)] ?_
     refine Run_blk ?_
     refine Zg 2 [(1, .int .i64 n_), (2, .func (.func 155) #[] #[]), (7, .slice a1 l1.length l1.length), (8, .int .i64 i1), (13, .int .i64 (l1.length : Int)), (14, .int .i64 i1), (26, .int .i64 (x3.length : Int)), (27, .int .i64 (i2 + 1))] ?_ ?_
     ·refine Zy (.int .i64 (i2 + 1)) (Y_eq (v := .int .i64 (w64 (i2 + 1))) (Y_pure (fun w => by kernel_rfl)) (by rw [w64_eq _ (by omega)])) ?_
      refine Zb [.int .i64 (i2 + 1)] 1 ?_
      exact Zd [1, 2, 7, 8, 13, 14, 26, 27]
     have H18 := H17.ofRows
     have hB2 := M.ret_some hB2
     have gx4 := hgoy2 _ hB2.symm
     exact Za [1, 2, 7, 8, 13, 14, 26, 27] my2 ⟨i2 + 1, (s2.set i1.toNat l4), by omega, gx4, rfl, H18⟩
    ·have gx4 := M.for_end gx4 hb2
     subst gx4
     refine Run_exit (k' := _) rfl ?_
     exact Zf [1, 2, 7, 13, 14] ⟨rfl, H11⟩
  ·have gx1 := M.for_end gx1 hb1
   subst gx1
   refine Run_exit (k' := _) rfl ?_
   exact Zf [7] ⟨rfl, H2⟩

theorem w_impl_unitMatrix (h : Heap) (n_ : Int) (n : Nat) (r : (List (List Int))) (hF : impl_unitMatrix n_ n = some r) :
  Fn Tryz.prog 136 #[.int .i64 n_] h fun v h' => ∃ (a0 : Option Addr) (c0 : Nat), v = .slice a0 r.length c0 ∧ Hold h h' [own cd24 a0 r.length c0 r] := by
 unfold impl_unitMatrix at hF
 refine Zo [.int .i64 n_] Tryz.func136 rfl (fun w0 _ => ?_)
 have H0 := Hold.init h
 refine Zs ?_
 refine Zq [.slice none 0 0] [0] [(0, .int .i64 n_)] ?_
 refine Zs ?_
 refine Run_ops ?_
 refine Zr [.int .i64 n_, .int .i64 n_] 0 ?_
 obtain ⟨x1, hx1, hF⟩ := M.bind_some hF
 refine Ze ?_
 refine ZC 109 #[.int .i64 n_, .int .i64 n_, .func (.func 155) #[] #[]] (w_impl_matrixBy_F_impl_unitMatrix_1 h n_ n_ _ _ hx1) (fun v1 h1 hp1 => ?_)
 obtain ⟨a1, c1, rfl, H1⟩ := hp1
 have H2 : Hold h h1 [own cd24 a1 x1.length c1 x1] := H0.call H1 rfl
 refine Zr [.slice a1 x1.length c1] 3 ?_
 refine Zx ?_
 refine Zk [2] [(2, .slice a1 x1.length c1)] ?_
 have hF := M.ret_some hF
 subst hF
 exact Run_ret1 rfl (Zt (.slice a1 x1.length c1)) ⟨a1, c1, rfl, H2⟩

theorem w_impl_addMatrices_1 (h : Heap) (i : Int) (j : Int) (z0 : List (List Int)) {Sz0 : Bs} (az0 : Option Addr) (cz0 : Nat) (rz0 : Rd cd24 h Sz0 az0 cz0 z0) (bz0 : Nat) (vz0 : VarAt h bz0 22 [.slice az0 z0.length cz0]) (z1 : List (List Int)) {Sz1 : Bs} (az1 : Option Addr) (cz1 : Nat) (rz1 : Rd cd24 h Sz1 az1 cz1 z1) (bz1 : Nat) (vz1 : VarAt h bz1 22 [.slice az1 z1.length cz1]) (n : Nat) (r : Int) (hF : impl_addMatrices_1 i j z0 z1 n = some r) :
  Fn Tryz.prog 154 #[.int .i64 i, .int .i64 j, pV bz0, pV bz1] h fun v h' => v = .int .i64 r ∧ h' = h := by
 unfold impl_addMatrices_1 at hF
 refine Zo [.int .i64 i, .int .i64 j, pV bz0, pV bz1] Tryz.func154 rfl (fun w0 _ => ?_)
 refine Zs ?_
 refine Zq [.int .i64 0] [0, 1, 2, 3] [(0, .int .i64 i), (1, .int .i64 j), (2, pV bz0), (3, pV bz1)] ?_
 refine Zs ?_
 obtain ⟨x1, hx1, hF⟩ := M.bind_some hF
 obtain ⟨hx1l, hx1u, hx1⟩ := M.idx_some hx1
 obtain ⟨a1, c1, hc1, r1⟩ := rz0.row hx1
 obtain ⟨x2, hx2, hF⟩ := M.bind_some hF
 obtain ⟨hx2l, hx2u, hx2⟩ := M.idx_some hx2
 obtain ⟨x3, hx3, hF⟩ := M.bind_some hF
 obtain ⟨hx3l, hx3u, hx3⟩ := M.idx_some hx3
 obtain ⟨a2, c2, hc2, r2⟩ := rz1.row hx3
 obtain ⟨x4, hx4, hF⟩ := M.bind_some hF
 obtain ⟨hx4l, hx4u, hx4⟩ := M.idx_some hx4
 refine Run_draw 16 mixed (by kernel_rfl) (by kernel_rfl) (L' := [(6, .int .i64 (mx x2 x4))]) ?_ ?_
 ·refine Zy (.slice az0 z0.length cz0) (Zl 22 (⟨bz0, 0, none⟩) (.slice az0 z0.length cz0) (VarAt.cell vz0 rfl)) ?_
  refine Zb [.int .i64 i] 1 ?_
  refine Zy (.pointer (some (adr az0 (i.toNat * 1)))) (Zi 22 24 1 (az0) (z0.length) (cz0) .i64 (i) Tryz.underlying22 (rz0.cell hx1).1 hx1l hx1u) ?_
  refine Zy (.slice a1 x1.length c1) (Zl 24 (adr az0 (i.toNat * 1)) (.slice a1 x1.length c1) hc1) ?_
  refine Zb [.int .i64 j] 4 ?_
  refine Zy (.pointer (some (adr a1 (j.toNat * 1)))) (Zi 24 2 1 (a1) (x1.length) (c1) .i64 (j) Tryz.underlying24 (r1.cell hx2).1 hx2l hx2u) ?_
  refine Zy (.int .i64 x2) (Zl 2 (adr a1 (j.toNat * 1)) (.int .i64 x2) (cd2_cell r1 hx2)) ?_
  refine Zy (.slice az1 z1.length cz1) (Zl 22 (⟨bz1, 0, none⟩) (.slice az1 z1.length cz1) (VarAt.cell vz1 rfl)) ?_
  refine Zb [.int .i64 i] 8 ?_
  refine Zy (.pointer (some (adr az1 (i.toNat * 1)))) (Zi 22 24 1 (az1) (z1.length) (cz1) .i64 (i) Tryz.underlying22 (rz1.cell hx3).1 hx3l hx3u) ?_
  refine Zy (.slice a2 x3.length c2) (Zl 24 (adr az1 (i.toNat * 1)) (.slice a2 x3.length c2) hc2) ?_
  refine Zb [.int .i64 j] 11 ?_
  refine Zy (.pointer (some (adr a2 (j.toNat * 1)))) (Zi 24 2 1 (a2) (x3.length) (c2) .i64 (j) Tryz.underlying24 (r2.cell hx4).1 hx4l hx4u) ?_
  refine Zy (.int .i64 x4) (Zl 2 (adr a2 (j.toNat * 1)) (.int .i64 x4) (cd2_cell r2 hx4)) ?_
  refine Zb [.int .i64 (mx x2 x4), .int .i64 (mx x2 x4)] 14 ?_
  exact Zd [6]
 have hF := M.ret_some hF
 subst hF
 exact Run_ret1 rfl (Zt (.int .i64 (mx x2 x4))) ⟨rfl, rfl⟩

theorem w_impl_matrixBy_F_impl_addMatrices_1 (h : Heap) (m_ : Int) (n_ : Int) (entry0 : List (List Int)) (aentry0 : Option Addr) (centry0 : Nat) (rentry0 : Rd cd24 h (Lt h) aentry0 centry0 entry0) (bentry0 : Nat) (ventry0 : VarAt h bentry0 22 [.slice aentry0 entry0.length centry0]) (entry1 : List (List Int)) (aentry1 : Option Addr) (centry1 : Nat) (rentry1 : Rd cd24 h (Lt h) aentry1 centry1 entry1) (bentry1 : Nat) (ventry1 : VarAt h bentry1 22 [.slice aentry1 entry1.length centry1]) (n : Nat) (r : (List (List Int))) (hF : impl_matrixBy_F_impl_addMatrices_1 m_ n_ entry0 entry1 n = some r) :
  Fn Tryz.prog 109 #[.int .i64 m_, .int .i64 n_, .func (.func 154) #[] #[pV bentry0, pV bentry1]] h fun v h' => ∃ (a0 : Option Addr) (c0 : Nat), v = .slice a0 r.length c0 ∧ Hold h h' [own cd24 a0 r.length c0 r] := by
 unfold impl_matrixBy_F_impl_addMatrices_1 at hF
 refine Zo [.int .i64 m_, .int .i64 n_, .func (.func 154) #[] #[pV bentry0, pV bentry1]] Tryz.func109 rfl (fun w0 _ => ?_)
 have H0 := Hold.init h
 refine Zs ?_
 refine Zq [.slice none 0 0] [0, 1, 2] [(0, .int .i64 m_), (1, .int .i64 n_), (2, .func (.func 154) #[] #[pV bentry0, pV bentry1])] ?_
 refine Zs ?_
 refine Run_ops ?_
 refine Zr [.int .i64 m_] 0 ?_
 obtain ⟨l1, hl1, hF⟩ := M.bind_some hF
 have hl1 := M.make_some hl1
 refine Ze ?_
 refine E_make cd24 [] (kl := .i64) (kc := .i64) H0 cd24_ti Tryz.underlying22 (by decide) cd24_zero (by kernel_rfl) hl1 (fun a1 h1 H1 => ?_)
 refine Zr [.slice a1 l1.length l1.length] 2 ?_
 refine Zx ?_
 refine Zk [1, 2, 7] [(1, .int .i64 n_), (2, .func (.func 154) #[] #[pV bentry0, pV bentry1]), (7, .slice a1 l1.length l1.length)] ?_
 refine Zs ?_
 refine Zs ?_
 refine Zq [.slice a1 l1.length l1.length, .int .i64 (l1.length : Int), .int .i64 0] [1, 2, 7, 13, 14] [(1, .int .i64 n_), (2, .func (.func 154) #[] #[pV bentry0, pV bentry1]), (7, .slice a1 l1.length l1.length), (13, .int .i64 (l1.length : Int)), (14, .int .i64 0)] ?_
 obtain ⟨x1, gx1, hF⟩ := M.bind_some hF
 obtain ⟨hloy1, hhiy1, gx1⟩ := M.for_start gx1
 refine Run_join (fun L' h' => L' = [(7, .slice a1 l1.length l1.length)] ∧ Hold h h' [own cd24 a1 l1.length l1.length x1]) ?_ ?_
 ·rintro _ h3 ⟨rfl, H3⟩
  refine Zs ?_
  refine Zq [.slice a1 l1.length l1.length, .slice a1 l1.length l1.length] [6] [(6, .slice a1 l1.length l1.length)] ?_
  have hF := M.ret_some hF
  subst hF
  have H20 := H3.norm
  exact Run_ret1 rfl (Zt (.slice a1 l1.length l1.length)) ⟨a1, l1.length, (by simp only [(H3.len 0 rfl)]), H20⟩
 ·refine Run_block ?_
  refine Zk [1, 2, 7, 13, 14] [(1, .int .i64 n_), (2, .func (.func 154) #[] #[pV bentry0, pV bentry1]), (7, .slice a1 l1.length l1.length), (13, .int .i64 (l1.length : Int)), (14, .int .i64 0)] ?_
  refine Run_loop (fun m L' h' => ∃ (i1 : Int) (s1 : (List (List Int))), 0 ≤ i1 ∧ M.forN (l1.length : Int) _ _ n m i1 s1 = some x1 ∧ L' = [(1, .int .i64 n_), (2, .func (.func 154) #[] #[pV bentry0, pV bentry1]), (7, .slice a1 l1.length l1.length), (13, .int .i64 (l1.length : Int)), (14, .int .i64 i1)] ∧ Hold h h' [own cd24 a1 l1.length l1.length s1]) ((l1.length : Int) - 0 : Int).toNat ⟨0, l1, Int.le_refl _, gx1, rfl, H1⟩ ?_
  rintro my1 _ h2 ⟨i1, s1, hloy1', gx1, rfl, H2⟩
  refine Zs ?_
  refine Zq [.bool (decide (i1 < (l1.length : Int)))] [1, 2, 7, 13, 14, 15] [(1, .int .i64 n_), (2, .func (.func 154) #[] #[pV bentry0, pV bentry1]), (7, .slice a1 l1.length l1.length), (13, .int .i64 (l1.length : Int)), (14, .int .i64 i1), (15, .bool (decide (i1 < (l1.length : Int))))] ?_
  refine Zs ?_
  refine Zc (decide (i1 < (l1.length : Int))) (fun hb1 => ?_) (fun hb1 => ?_)
  ·obtain ⟨my1, y1, rfl, hB1, hgoy1, houty1⟩ := M.for_go gx1 hb1
   have hlty1 := of_decide_eq_true hb1
   refine Run_skip ?_
   refine Zs ?_
   refine Run_block ?_
   refine Zs ?_
   refine Zq [.int .i64 i1, .int .i64 i1] [1, 2, 7, 8, 13, 14] [(1, .int .i64 n_), (2, .func (.func 154) #[] #[pV bentry0, pV bentry1]), (7, .slice a1 l1.length l1.length), (8, .int .i64 i1), (13, .int .i64 (l1.length : Int)), (14, .int .i64 i1)] ?_
   refine Zs ?_
   refine Run_ops ?_
   refine Zr [.slice a1 l1.length l1.length, .int .i64 i1, .int .i64 n_] 0 ?_
   obtain ⟨l2, hl2, hB1⟩ := M.bind_some hB1
   have hl2 := M.make_some hl2
   refine Ze ?_
   refine E_make cd2 0 (kl := .i64) (kc := .i64) H2 cd2_ti Tryz.underlying24 (by decide) cd2_zero (by kernel_rfl) hl2 (fun a2 h4 H4 => ?_)
   obtain ⟨x2, hx1, hB1⟩ := M.bind_some hB1
   obtain ⟨hx1l, hx1u, hx1⟩ := M.idx_some hx1
   refine Zz (.pointer (some (adr a1 (i1.toNat * 1)))) (Zi 22 24 1 (a1) (l1.length) (l1.length) .i64 (i1) Tryz.underlying22 ((H4.rd 1 rfl).cell hx1).1 hx1l (by rw [← (H4.len 1 rfl)]; exact hx1u)) ?_
   obtain ⟨l3, hu1, hB1⟩ := M.bind_some hB1
   have hu1 := M.upd_some hu1
   have H6 : Hold h h4 [own cd24 a1 l1.length l1.length s1, own cd2 a2 l2.length l2.length l2] := H4.pk [1, 0]
   have H7 : Hold h h4 [own cd2 a2 l2.length l2.length l2, own cd24 a1 l1.length l1.length s1] := H6.pk [1, 0]
   have H8 : Hold h h4 [own cd24 a1 l1.length l1.length s1, own cd2 a2 l2.length l2.length l2] := H7.pk [1, 0]
   refine Ze ?_
   refine E_putRow (t := 24) (j := i1) H8 (by kernel_rfl) (by kernel_rfl) hu1 (fun h5 H5 => ?_)
   refine Zx ?_
   refine Zk [1, 2, 7, 8, 13, 14] [(1, .int .i64 n_), (2, .func (.func 154) #[] #[pV bentry0, pV bentry1]), (7, .slice a1 l1.length l1.length), (8, .int .i64 i1), (13, .int .i64 (l1.length : Int)), (14, .int .i64 i1)] ?_
   refine Zs ?_
   obtain ⟨x3, hx2, hB1⟩ := M.bind_some hB1
   obtain ⟨hx2l, hx2u, hx2⟩ := M.idx_some hx2
   have H9 := H5.toRows
   obtain ⟨a3, c1, H10⟩ := H9.pinRow hx2
   refine Zg 6 [(1, .int .i64 n_), (2, .func (.func 154) #[] #[pV bentry0, pV bentry1]), (7, .slice a1 l1.length l1.length), (8, .int .i64 i1), (13, .int .i64 (l1.length : Int)), (14, .int .i64 i1), (26, .int .i64 (x3.length : Int)), (27, .int .i64 0)] ?_ ?_
   ·refine Zb [.slice a1 l1.length l1.length, .int .i64 i1] 0 ?_
    refine Zy (.pointer (some (adr a1 (i1.toNat * 1)))) (Zi 22 24 1 (a1) (l1.length) (l1.length) .i64 (i1) Tryz.underlying22 ((H5.rd 0 rfl).cell hx2).1 hx2l (by rw [← (H5.len 0 rfl)]; exact hx2u)) ?_
    refine Zy (.slice a3 x3.length c1) (Zl 24 (adr a1 (i1.toNat * 1)) (.slice a3 x3.length c1) (H10.cellPin 0 rfl 0 rfl)) ?_
    refine Zb [.int .i64 (x3.length : Int), .int .i64 0] 4 ?_
    exact Zd [1, 2, 7, 8, 13, 14, 26, 27]
   obtain ⟨x4, gx4, hB1⟩ := M.bind_some hB1
   obtain ⟨hloy2, hhiy2, gx4⟩ := M.for_start gx4
   refine Run_join (fun L' h' => L' = [(1, .int .i64 n_), (2, .func (.func 154) #[] #[pV bentry0, pV bentry1]), (7, .slice a1 l1.length l1.length), (13, .int .i64 (l1.length : Int)), (14, .int .i64 i1)] ∧ Hold h h' [own cd24 a1 l1.length l1.length x4]) ?_ ?_
   ·rintro _ h7 ⟨rfl, H12⟩
    refine Run_blk ?_
    refine Zg 2 [(1, .int .i64 n_), (2, .func (.func 154) #[] #[pV bentry0, pV bentry1]), (7, .slice a1 l1.length l1.length), (13, .int .i64 (l1.length : Int)), (14, .int .i64 (i1 + 1))] ?_ ?_
    ·refine Zy (.int .i64 (i1 + 1)) (Y_eq (v := .int .i64 (w64 (i1 + 1))) (Y_pure (fun w => by kernel_rfl)) (by rw [w64_eq _ (by omega)])) ?_
     refine Zb [.int .i64 (i1 + 1)] 1 ?_
     exact Zd [1, 2, 7, 13, 14]
    have hB1 := M.ret_some hB1
    have gx1 := hgoy1 _ hB1.symm
    exact Za [1, 2, 7, 13, 14] my1 ⟨i1 + 1, x4, by omega, gx1, rfl, H12⟩
   ·refine Run_block ?_
    have H19 := H10.ofRows
    refine Zk [1, 2, 7, 8, 13, 14, 26, 27] [(1, .int .i64 n_), (2, .func (.func 154) #[] #[pV bentry0, pV bentry1]), (7, .slice a1 l1.length l1.length), (8, .int .i64 i1), (13, .int .i64 (l1.length : Int)), (14, .int .i64 i1), (26, .int .i64 (x3.length : Int)), (27, .int .i64 0)] ?_
    refine Run_loop (fun m L' h' => ∃ (i2 : Int) (s2 : (List (List Int))), 0 ≤ i2 ∧ M.forN (x3.length : Int) _ _ n m i2 s2 = some x4 ∧ L' = [(1, .int .i64 n_), (2, .func (.func 154) #[] #[pV bentry0, pV bentry1]), (7, .slice a1 l1.length l1.length), (8, .int .i64 i1), (13, .int .i64 (l1.length : Int)), (14, .int .i64 i1), (26, .int .i64 (x3.length : Int)), (27, .int .i64 i2)] ∧ Hold h h' [own cd24 a1 l1.length l1.length s2]) ((x3.length : Int) - 0 : Int).toNat ⟨0, l3, Int.le_refl _, gx4, rfl, H19⟩ ?_
    rintro my2 _ h6 ⟨i2, s2, hloy2', gx4, rfl, H11⟩
    refine Zs ?_
    refine Zq [.bool (decide (i2 < (x3.length : Int)))] [1, 2, 7, 8, 13, 14, 26, 27, 28] [(1, .int .i64 n_), (2, .func (.func 154) #[] #[pV bentry0, pV bentry1]), (7, .slice a1 l1.length l1.length), (8, .int .i64 i1), (13, .int .i64 (l1.length : Int)), (14, .int .i64 i1), (26, .int .i64 (x3.length : Int)), (27, .int .i64 i2), (28, .bool (decide (i2 < (x3.length : Int))))] ?_
    refine Zs ?_
    refine Zc (decide (i2 < (x3.length : Int))) (fun hb2 => ?_) (fun hb2 => ?_)
    ·obtain ⟨my2, y2, rfl, hB2, hgoy2, houty2⟩ := M.for_go gx4 hb2
     have hlty2 := of_decide_eq_true hb2
     refine Run_skip ?_
     refine Zs ?_
     refine Run_block ?_
     refine Zs ?_
     refine Zq [.int .i64 i2, .int .i64 i2] [1, 2, 7, 8, 9, 13, 14, 26, 27] [(1, .int .i64 n_), (2, .func (.func 154) #[] #[pV bentry0, pV bentry1]), (7, .slice a1 l1.length l1.length), (8, .int .i64 i1), (9, .int .i64 i2), (13, .int .i64 (l1.length : Int)), (14, .int .i64 i1), (26, .int .i64 (x3.length : Int)), (27, .int .i64 i2)] ?_
     obtain ⟨x5, hx3, hB2⟩ := M.bind_some hB2
     obtain ⟨hx3l, hx3u, hx3⟩ := M.idx_some hx3
     have H13 := H11.toRows
     obtain ⟨a4, c2, H14⟩ := H13.pinRow hx3
     obtain ⟨x6, hx4, hB2⟩ := M.bind_some hB2
     obtain ⟨x7, hx5, hB2⟩ := M.bind_some hB2
     obtain ⟨hx5l, hx5u, hx5⟩ := M.idx_some hx5
     refine Run_D (fun x => Hold h x [rowsP cd2 24 a1 l1.length l1.length s2 [(i1.toNat, a4, x5.length, c2, x5)]]) (fun x => Hold h x [rowsP cd2 24 a1 l1.length l1.length s2 [(i1.toNat, a4, x5.length, c2, x5)]]) mixed (by kernel_rfl) H14 Hold.stable (fun x Hy => (show Hold h x [rowsP cd2 24 a1 l1.length l1.length s2 [(i1.toNat, a4, x5.length, c2, x5)]] from Hy).pk [0]) ?_
     refine ZB 9 [.slice a1 l1.length l1.length, .int .i64 i1] 0 ?_
     refine ZY 8 2 (.pointer (some (adr a1 (i1.toNat * 1)))) (fun hx Hx => (YE.of (Zi 22 24 1 (a1) (l1.length) (l1.length) .i64 (i1) Tryz.underlying22 ((H11.rd 0 rfl).cell hx3).1 hx3l (by rw [← (H11.len 0 rfl)]; exact hx3u)))) ?_
     refine ZY 7 3 (.slice a4 x5.length c2) (fun hx Hx => (YE.of (Zl 24 (adr a1 (i1.toNat * 1)) (.slice a4 x5.length c2) (Hx.cellPin 0 rfl 0 rfl)))) ?_
     refine ZB 3 [.int .i64 i2, .func (.func 154) #[] #[pV bentry0, pV bentry1], .int .i64 i1, .int .i64 i2] 4 ?_
     refine ZY 2 8 (.int .i64 x6) (fun hx Hx => (YE.of (ZQ 154 #[.int .i64 i1, .int .i64 i2, pV bentry0, pV bentry1] (w_impl_addMatrices_1 hx i1 i2 entry0 aentry0 centry0 (rentry0.at Hx.ext) bentry0 (ventry0.at Hx.ext) entry1 aentry1 centry1 (rentry1.at Hx.ext) bentry1 (ventry1.at Hx.ext) _ _ hx4)))) ?_
     refine ZY 1 9 (.pointer (some (adr a4 (i2.toNat * 1)))) (fun hx Hx => (YE.of (Zi 24 2 1 (a4) (x5.length) (c2) .i64 (i2) Tryz.underlying24 ((H14.rdPin 0 rfl 0 rfl).cell hx5).1 hx5l hx5u))) ?_
     refine ZT 10 (fun h8 H15 => ?_)
     have H16 : Hold h h8 [rowsP cd2 24 a1 l1.length l1.length s2 [(i1.toNat, a4, x5.length, c2, x5)]] := H15
     obtain ⟨l4, hu2, hB2⟩ := M.bind_some hB2
     have hu2 := M.upd_some hu2
     refine Ze ?_
     refine E_put2 (C := cd2) (t := 2) (sz := 1) (j := i2) (x := x6) (v := .int .i64 x6) (m2 := s2.set i1.toNat l4) H16 cd2_flat 0 rfl (by kernel_rfl) rfl (cd2_own _) (by kernel_rfl) hu2 rfl (fun h9 H17 => ?_)
     refine Zx ?_
     refine Zk [1, 2, 7, 8, 13, 14, 26, 27] [(1, .int .i64 n_), (2, .func (.func 154) #[] #[pV bentry0, pV bentry1]), (7, .slice a1 l1.length l1.length), (8, .int .i64 i1), (13, .int .i64 (l1.length : Int)), (14, .int .i64 i1), (26, .int .i64 (x3.length : Int)), (27, .int .i64 i2)] ?_
     refine Run_blk ?_
     refine Zg 2 [(1, .int .i64 n_), (2, .func (.func 154) #[] #[pV bentry0, pV bentry1]), (7, .slice a1 l1.length l1.length), (8, .int .i64 i1), (13, .int .i64 (l1.length : Int)), (14, .int .i64 i1), (26, .int .i64 (x3.length : Int)), (27, .int .i64 (i2 + 1))] ?_ ?_
     ·refine Zy (.int .i64 (i2 + 1)) (Y_eq (v := .int .i64 (w64 (i2 + 1))) (Y_pure (fun w => by kernel_rfl)) (by rw [w64_eq _ (by omega)])) ?_
      refine Zb [.int .i64 (i2 + 1)] 1 ?_
      exact Zd [1, 2, 7, 8, 13, 14, 26, 27]
     have H18 := H17.ofRows
     have hB2 := M.ret_some hB2
     have gx4 := hgoy2 _ hB2.symm
     exact Za [1, 2, 7, 8, 13, 14, 26, 27] my2 ⟨i2 + 1, (s2.set i1.toNat l4), by omega, gx4, rfl, H18⟩
    ·have gx4 := M.for_end gx4 hb2
     subst gx4
     refine Run_exit (k' := _) rfl ?_
     exact Zf [1, 2, 7, 13, 14] ⟨rfl, H11⟩
  ·have gx1 := M.for_end gx1 hb1
   subst gx1
   refine Run_exit (k' := _) rfl ?_
   exact Zf [7] ⟨rfl, H2⟩

theorem w_impl_addMatrices (h : Heap) (a_ : List (List Int)) (aa_ : Option Addr) (ca_ : Nat) (ra_ : Rd cd24 h (Lt h) aa_ ca_ a_) (b : List (List Int)) (ab : Option Addr) (cb : Nat) (rb : Rd cd24 h (Lt h) ab cb b) (n : Nat) (r : (List (List Int))) (hF : impl_addMatrices a_ b n = some r) :
  Fn Tryz.prog 135 #[.slice aa_ a_.length ca_, .slice ab b.length cb] h fun v h' => ∃ (a0 : Option Addr) (c0 : Nat), v = .slice a0 r.length c0 ∧ Hold h h' [own cd24 a0 r.length c0 r] := by
 unfold impl_addMatrices at hF
 refine Zo [.slice aa_ a_.length ca_, .slice ab b.length cb] Tryz.func135 rfl (fun w0 _ => ?_)
 have H0 := Hold.init h
 refine Zs ?_
 refine Run_ops ?_
 refine Ze ?_
 refine E_box (ty := 22) (cs := [.slice aa_ a_.length ca_]) H0 (fun w => by kernel_rfl) (fun b1 h1 H1 => ?_)
 refine Ze ?_
 refine E_box (ty := 22) (cs := [.slice ab b.length cb]) H1 (fun w => by kernel_rfl) (fun b2 h2 H2 => ?_)
 refine Zr [.slice none 0 0] 2 ?_
 refine Zx ?_
 refine Zk [2, 3] [(2, pV b1), (3, pV b2)] ?_
 refine Zs ?_
 obtain ⟨x1, hx1, hF⟩ := M.bind_some hF
 obtain ⟨hx1l, hx1u, hx1⟩ := M.idx_some hx1
 obtain ⟨a1, c1, hc1, r1⟩ := ra_.row hx1
 refine Run_D (fun x => Hold h x [box b2 22 [.slice ab b.length cb], box b1 22 [.slice aa_ a_.length ca_]]) (fun x => Hold h x [box b2 22 [.slice ab b.length cb], box b1 22 [.slice aa_ a_.length ca_]]) mixed (by kernel_rfl) H2 Hold.stable (fun x Hy => (show Hold h x [box b2 22 [.slice ab b.length cb], box b1 22 [.slice aa_ a_.length ca_]] from Hy).pk [0, 1]) ?_
 refine ZY 8 0 (.slice aa_ a_.length ca_) (fun hx Hx => (YE.of (Zl 22 (⟨b1, 0, none⟩) (.slice aa_ a_.length ca_) (Hx.cell 1 rfl rfl)))) ?_
 refine ZB 7 [.int .i64 (a_.length : Int)] 1 ?_
 refine ZY 6 2 (.slice aa_ a_.length ca_) (fun hx Hx => (YE.of (Zl 22 (⟨b1, 0, none⟩) (.slice aa_ a_.length ca_) (Hx.cell 1 rfl rfl)))) ?_
 refine ZY 5 3 (.pointer (some (adr aa_ (0 * 1)))) (fun hx Hx => (YE.of (Zi 22 24 1 (aa_) (a_.length) (ca_) .i64 (0) Tryz.underlying22 ((ra_.at H2.ext).cell hx1).1 hx1l hx1u))) ?_
 refine ZY 4 4 (.slice a1 x1.length c1) (fun hx Hx => (YE.of (Zl 24 (adr aa_ (0 * 1)) (.slice a1 x1.length c1) (cell_at Hx.ext hc1)))) ?_
 refine ZB 2 [.int .i64 (x1.length : Int), .func (.func 154) #[] #[pV b1, pV b2]] 5 ?_
 refine ZT 7 (fun h3 H3 => ?_)
 have H4 : Hold h h3 [box b2 22 [.slice ab b.length cb], box b1 22 [.slice aa_ a_.length ca_]] := H3
 obtain ⟨x2, hx2, hF⟩ := M.bind_some hF
 refine Ze ?_
 refine ZC 109 #[.int .i64 (a_.length : Int), .int .i64 (x1.length : Int), .func (.func 154) #[] #[pV b1, pV b2]] (w_impl_matrixBy_F_impl_addMatrices_1 h3 (a_.length : Int) (x1.length : Int) a_ aa_ ca_ (ra_.at H4.ext) b1 (H4.var 1 rfl) b ab cb (rb.at H4.ext) b2 (H4.var 0 rfl) _ _ hx2) (fun v1 h4 hp1 => ?_)
 obtain ⟨a2, c2, rfl, H5⟩ := hp1
 have H6 : Hold h h4 [own cd24 a2 x2.length c2 x2, box b2 22 [.slice ab b.length cb], box b1 22 [.slice aa_ a_.length ca_]] := H4.call H5 rfl
 refine Zr [.slice a2 x2.length c2] 8 ?_
 refine Zx ?_
 refine Zk [4] [(4, .slice a2 x2.length c2)] ?_
 have hF := M.ret_some hF
 subst hF
 have H7 : Hold h h4 [own cd24 a2 x2.length c2 x2] := H6.pk [0]
 exact Run_ret1 rfl (Zt (.slice a2 x2.length c2)) ⟨a2, c2, rfl, H7⟩

theorem w_impl_starOf (h : Heap) (a_ : List (List Int)) (aa_ : Option Addr) (ca_ : Nat) (ra_ : Rd cd24 h (Lt h) aa_ ca_ a_) (n : Nat) (r : (List (List Int)) × Bool) (hF : impl_starOf a_ n = some r) :
  Fn Tryz.prog 93 #[.slice aa_ a_.length ca_] h fun v h' => ∃ (a0 : Option Addr) (c0 : Nat), v = .tuple #[.slice a0 r.1.length c0, .bool r.2] ∧ Hold h h' [own cd24 a0 r.1.length c0 r.1] := by
 unfold impl_starOf at hF
 refine Zo [.slice aa_ a_.length ca_] Tryz.func93 rfl (fun w0 _ => ?_)
 have H0 := Hold.init h
 refine Zs ?_
 refine Zq [.slice none 0 0, .bool false] [0] [(0, .slice aa_ a_.length ca_)] ?_
 refine Zs ?_
 refine Run_ops ?_
 refine Zr [.slice aa_ a_.length ca_, .slice aa_ a_.length ca_, .int .i64 (a_.length : Int)] 0 ?_
 obtain ⟨x1, hx1, hF⟩ := M.bind_some hF
 refine Ze ?_
 refine ZC 136 #[.int .i64 (a_.length : Int)] (w_impl_unitMatrix h (a_.length : Int) _ _ hx1) (fun v1 h1 hp1 => ?_)
 obtain ⟨a1, c1, rfl, H1⟩ := hp1
 have H2 : Hold h h1 [own cd24 a1 x1.length c1 x1] := H0.call H1 rfl
 obtain ⟨x2, hx2, hF⟩ := M.bind_some hF
 refine Ze ?_
 refine ZC 135 #[.slice aa_ a_.length ca_, .slice a1 x1.length c1] (w_impl_addMatrices h1 a_ aa_ ca_ (ra_.at H2.ext) x1 a1 c1 (H2.rd 0 rfl) _ _ hx2) (fun v2 h2 hp2 => ?_)
 obtain ⟨a2, c2, rfl, H3⟩ := hp2
 have H4 : Hold h h2 [own cd24 a2 x2.length c2 x2, own cd24 a1 x1.length c1 x1] := H2.call H3 rfl
 refine Zr [.slice a2 x2.length c2] 5 ?_
 refine Zx ?_
 refine Zk [4] [(4, .slice a2 x2.length c2)] ?_
 refine Zs ?_
 refine Zs ?_
 refine Zq [.slice a2 x2.length c2, .int .i64 (x2.length : Int), .int .i64 0] [4, 15, 16] [(4, .slice a2 x2.length c2), (15, .int .i64 (x2.length : Int)), (16, .int .i64 0)] ?_
 obtain ⟨x3, gx3, hF⟩ := M.bind_some hF
 obtain ⟨hloy1, hhiy1, gx3⟩ := M.for_start gx3
 refine Run_join (fun L' h' => ∃ (s2 : (List (List Int))), x3 = .inl s2 ∧ L' = [(4, .slice a2 x2.length c2)] ∧ Hold h h' [own cd24 a2 x2.length c2 s2]) ?_ ?_
 ·rintro _ h4 ⟨s2, es2, rfl, H6⟩
  have hF := M.cont_inl' hF es2
  refine Zs ?_
  refine Zs ?_
  refine Zq [.slice a2 x2.length c2, .int .i64 (x2.length : Int), .int .i64 0] [4, 70, 71] [(4, .slice a2 x2.length c2), (70, .int .i64 (x2.length : Int)), (71, .int .i64 0)] ?_
  obtain ⟨x17, gx17, hF⟩ := M.bind_some hF
  obtain ⟨hloy4, hhiy4, gx17⟩ := M.for_start gx17
  refine Run_join (fun L' h' => ∃ (s6 : Unit), x17 = .inl s6 ∧ L' = [(4, .slice a2 x2.length c2)] ∧ Hold h h' [own cd24 a2 x2.length c2 s2]) ?_ ?_
  ·rintro _ h12 ⟨s6, es6, rfl, H26⟩
   have hF := M.cont_inl' hF es6
   refine Zs ?_
   refine Zq [.slice a2 x2.length c2, .slice a2 x2.length c2, .bool true] [2, 3] [(2, .slice a2 x2.length c2), (3, .bool true)] ?_
   have hF := M.ret_some hF
   subst hF
   have H32 := H26.norm
   exact Run_ret2 rfl (Zt (.slice a2 x2.length c2)) (Zt (.bool true)) ⟨a2, c2, (by simp only [(H26.len 0 rfl)]), H32⟩
  ·refine Run_block ?_
   refine Zk [4, 70, 71] [(4, .slice a2 x2.length c2), (70, .int .i64 (x2.length : Int)), (71, .int .i64 0)] ?_
   refine Run_loop (fun m L' h' => ∃ (i4 : Int) (s5 : Unit), 0 ≤ i4 ∧ M.forN (x2.length : Int) _ _ n m i4 s5 = some x17 ∧ L' = [(4, .slice a2 x2.length c2), (70, .int .i64 (x2.length : Int)), (71, .int .i64 i4)] ∧ Hold h h' [own cd24 a2 x2.length c2 s2]) ((x2.length : Int) - 0 : Int).toNat ⟨0, (), Int.le_refl _, gx17, rfl, H6⟩ ?_
   rintro my4 _ h11 ⟨i4, s5, hloy4', gx17, rfl, H25⟩
   refine Zs ?_
   refine Zq [.bool (decide (i4 < (x2.length : Int)))] [4, 70, 71, 72] [(4, .slice a2 x2.length c2), (70, .int .i64 (x2.length : Int)), (71, .int .i64 i4), (72, .bool (decide (i4 < (x2.length : Int))))] ?_
   refine Zs ?_
   refine Zc (decide (i4 < (x2.length : Int))) (fun hb5 => ?_) (fun hb5 => ?_)
   ·obtain ⟨my4, y4, rfl, hB4, hgoy4, houty4⟩ := M.for_go gx17 hb5
    have hlty4 := of_decide_eq_true hb5
    refine Run_skip ?_
    refine Zs ?_
    refine Run_block ?_
    refine Zs ?_
    refine Zq [.int .i64 i4, .int .i64 i4] [4, 8, 70, 71] [(4, .slice a2 x2.length c2), (8, .int .i64 i4), (70, .int .i64 (x2.length : Int)), (71, .int .i64 i4)] ?_
    refine Zs ?_
    obtain ⟨x18, hx14, hB4⟩ := M.bind_some hB4
    obtain ⟨hx14l, hx14u, hx14⟩ := M.idx_some hx14
    have H27 := H25.toRows
    obtain ⟨a8, c8, H28⟩ := H27.pinRow hx14
    obtain ⟨x19, hx15, hB4⟩ := M.bind_some hB4
    obtain ⟨hx15l, hx15u, hx15⟩ := M.idx_some hx15
    refine Zg 8 [(4, .slice a2 x2.length c2), (70, .int .i64 (x2.length : Int)), (71, .int .i64 i4), (81, .bool (decide (0 < x19)))] ?_ ?_
    ·refine Zb [.slice a2 x2.length c2, .int .i64 i4] 0 ?_
     refine Zy (.pointer (some (adr a2 (i4.toNat * 1)))) (Zi 22 24 1 (a2) (x2.length) (c2) .i64 (i4) Tryz.underlying22 ((H25.rd 0 rfl).cell hx14).1 hx14l (by rw [← (H25.len 0 rfl)]; exact hx14u)) ?_
     refine Zy (.slice a8 x18.length c8) (Zl 24 (adr a2 (i4.toNat * 1)) (.slice a8 x18.length c8) (H28.cellPin 0 rfl 0 rfl)) ?_
     refine Zb [.int .i64 i4] 4 ?_
     refine Zy (.pointer (some (adr a8 (i4.toNat * 1)))) (Zi 24 2 1 (a8) (x18.length) (c8) .i64 (i4) Tryz.underlying24 ((H28.rdPin 0 rfl 0 rfl).cell hx15).1 hx15l hx15u) ?_
     refine Zy (.int .i64 x19) (Zl 2 (adr a8 (i4.toNat * 1)) (.int .i64 x19) (cd2_cell (H28.rdPin 0 rfl 0 rfl) hx15)) ?_
     refine Zb [.bool (decide (0 < x19))] 7 ?_
     exact Zd [4, 70, 71, 81]
    refine Zc (decide (0 < x19)) (fun hb6 => ?_) (fun hb6 => ?_)
    ·have hB4 := (M.ite_some hB4).1 hb6
     refine Zs ?_
     refine Zq [.slice none 0 0, .bool false] [2, 3] [(2, .slice none 0 0), (3, .bool false)] ?_
     have hB4 := M.ret_some hB4
     have gx17 := houty4 _ hB4.symm
     have hF := M.cont_inr' hF gx17
     have hF := M.ret_some hF
     subst hF
     have H29 := H28.empty cd24
     have H30 : Hold h h11 [own cd24 none 0 0 []] := H29.pk [0]
     exact Run_ret2 rfl (Zt (.slice none 0 0)) (Zt (.bool false)) ⟨none, 0, rfl, H30⟩
    ·have hB4 := (M.ite_some hB4).2 hb6
     refine Run_skip ?_
     refine Run_blk ?_
     refine Zg 2 [(4, .slice a2 x2.length c2), (70, .int .i64 (x2.length : Int)), (71, .int .i64 (i4 + 1))] ?_ ?_
     ·refine Zy (.int .i64 (i4 + 1)) (Y_eq (v := .int .i64 (w64 (i4 + 1))) (Y_pure (fun w => by kernel_rfl)) (by rw [w64_eq _ (by omega)])) ?_
      refine Zb [.int .i64 (i4 + 1)] 1 ?_
      exact Zd [4, 70, 71]
     have H31 := H28.ofRows
     have hB4 := M.ret_some hB4
     have gx17 := hgoy4 _ hB4.symm
     exact Za [4, 70, 71] my4 ⟨i4 + 1, (), by omega, gx17, rfl, H31⟩
   ·have gx17 := M.for_end gx17 hb5
    subst gx17
    refine Run_exit (k' := _) rfl ?_
    exact Zf [4] ⟨(), rfl, rfl, H25⟩
 ·refine Run_block ?_
  have H33 : Hold h h2 [own cd24 a2 x2.length c2 x2] := H4.pk [0]
  refine Zk [4, 15, 16] [(4, .slice a2 x2.length c2), (15, .int .i64 (x2.length : Int)), (16, .int .i64 0)] ?_
  refine Run_loop (fun m L' h' => ∃ (i1 : Int) (s1 : (List (List Int))), 0 ≤ i1 ∧ M.forN (x2.length : Int) _ _ n m i1 s1 = some x3 ∧ L' = [(4, .slice a2 x2.length c2), (15, .int .i64 (x2.length : Int)), (16, .int .i64 i1)] ∧ Hold h h' [own cd24 a2 x2.length c2 s1]) ((x2.length : Int) - 0 : Int).toNat ⟨0, x2, Int.le_refl _, gx3, rfl, H33⟩ ?_
  rintro my1 _ h3 ⟨i1, s1, hloy1', gx3, rfl, H5⟩
  refine Zs ?_
  refine Zq [.bool (decide (i1 < (x2.length : Int)))] [4, 15, 16, 17] [(4, .slice a2 x2.length c2), (15, .int .i64 (x2.length : Int)), (16, .int .i64 i1), (17, .bool (decide (i1 < (x2.length : Int))))] ?_
  refine Zs ?_
  refine Zc (decide (i1 < (x2.length : Int))) (fun hb1 => ?_) (fun hb1 => ?_)
  ·obtain ⟨my1, y1, rfl, hB1, hgoy1, houty1⟩ := M.for_go gx3 hb1
   have hlty1 := of_decide_eq_true hb1
   refine Run_skip ?_
   refine Zs ?_
   refine Run_block ?_
   refine Zs ?_
   refine Zq [.int .i64 i1, .int .i64 i1] [4, 5, 15, 16] [(4, .slice a2 x2.length c2), (5, .int .i64 i1), (15, .int .i64 (x2.length : Int)), (16, .int .i64 i1)] ?_
   refine Zs ?_
   refine Zs ?_
   obtain ⟨x4, hx3, hB1⟩ := M.bind_some hB1
   obtain ⟨hx3l, hx3u, hx3⟩ := M.idx_some hx3
   have H7 := H5.toRows
   obtain ⟨a3, c3, H8⟩ := H7.pinRow hx3
   obtain ⟨x5, hx4, hB1⟩ := M.bind_some hB1
   obtain ⟨hx4l, hx4u, hx4⟩ := M.idx_some hx4
   refine Zg 8 [(4, .slice a2 x2.length c2), (5, .int .i64 i1), (15, .int .i64 (x2.length : Int)), (16, .int .i64 i1), (26, .bool (decide (0 < x5)))] ?_ ?_
   ·refine Zb [.slice a2 x2.length c2, .int .i64 i1] 0 ?_
    refine Zy (.pointer (some (adr a2 (i1.toNat * 1)))) (Zi 22 24 1 (a2) (x2.length) (c2) .i64 (i1) Tryz.underlying22 ((H5.rd 0 rfl).cell hx3).1 hx3l (by rw [← (H5.len 0 rfl)]; exact hx3u)) ?_
    refine Zy (.slice a3 x4.length c3) (Zl 24 (adr a2 (i1.toNat * 1)) (.slice a3 x4.length c3) (H8.cellPin 0 rfl 0 rfl)) ?_
    refine Zb [.int .i64 i1] 4 ?_
    refine Zy (.pointer (some (adr a3 (i1.toNat * 1)))) (Zi 24 2 1 (a3) (x4.length) (c3) .i64 (i1) Tryz.underlying24 ((H8.rdPin 0 rfl 0 rfl).cell hx4).1 hx4l hx4u) ?_
    refine Zy (.int .i64 x5) (Zl 2 (adr a3 (i1.toNat * 1)) (.int .i64 x5) (cd2_cell (H8.rdPin 0 rfl 0 rfl) hx4)) ?_
    refine Zb [.bool (decide (0 < x5))] 7 ?_
    exact Zd [4, 5, 15, 16, 26]
   refine Zc (decide (0 < x5)) (fun hb2 => ?_) (fun hb2 => ?_)
   ·have hB1 := (M.ite_some hB1).1 hb2
    refine Zs ?_
    refine Zq [.slice none 0 0, .bool false] [2, 3] [(2, .slice none 0 0), (3, .bool false)] ?_
    have hB1 := M.ret_some hB1
    have gx3 := houty1 _ hB1.symm
    have hF := M.cont_inr' hF gx3
    have hF := M.ret_some hF
    subst hF
    have H9 := H8.empty cd24
    have H10 : Hold h h3 [own cd24 none 0 0 []] := H9.pk [0]
    exact Run_ret2 rfl (Zt (.slice none 0 0)) (Zt (.bool false)) ⟨none, 0, rfl, H10⟩
   ·have hB1 := (M.ite_some hB1).2 hb2
    refine Run_skip ?_
    refine Zs ?_
    refine Zq [.slice a2 x2.length c2, .int .i64 (x2.length : Int), .int .i64 0] [4, 5, 15, 16, 28, 29] [(4, .slice a2 x2.length c2), (5, .int .i64 i1), (15, .int .i64 (x2.length : Int)), (16, .int .i64 i1), (28, .int .i64 (x2.length : Int)), (29, .int .i64 0)] ?_
    obtain ⟨x6, gx6, hB1⟩ := M.bind_some hB1
    obtain ⟨hloy2, hhiy2, gx6⟩ := M.for_start gx6
    refine Run_join (fun L' h' => L' = [(4, .slice a2 x2.length c2), (15, .int .i64 (x2.length : Int)), (16, .int .i64 i1)] ∧ Hold h h' [own cd24 a2 x2.length c2 x6]) ?_ ?_
    ·rintro _ h6 ⟨rfl, H12⟩
     refine Run_blk ?_
     refine Zg 2 [(4, .slice a2 x2.length c2), (15, .int .i64 (x2.length : Int)), (16, .int .i64 (i1 + 1))] ?_ ?_
     ·refine Zy (.int .i64 (i1 + 1)) (Y_eq (v := .int .i64 (w64 (i1 + 1))) (Y_pure (fun w => by kernel_rfl)) (by rw [w64_eq _ (by omega)])) ?_
      refine Zb [.int .i64 (i1 + 1)] 1 ?_
      exact Zd [4, 15, 16]
     have hB1 := M.ret_some hB1
     have gx3 := hgoy1 _ hB1.symm
     exact Za [4, 15, 16] my1 ⟨i1 + 1, x6, by omega, gx3, rfl, H12⟩
    ·refine Run_block ?_
     have H24 := H8.ofRows
     refine Zk [4, 5, 15, 16, 28, 29] [(4, .slice a2 x2.length c2), (5, .int .i64 i1), (15, .int .i64 (x2.length : Int)), (16, .int .i64 i1), (28, .int .i64 (x2.length : Int)), (29, .int .i64 0)] ?_
     refine Run_loop (fun m L' h' => ∃ (i2 : Int) (s3 : (List (List Int))), 0 ≤ i2 ∧ M.forN (x2.length : Int) _ _ n m i2 s3 = some x6 ∧ L' = [(4, .slice a2 x2.length c2), (5, .int .i64 i1), (15, .int .i64 (x2.length : Int)), (16, .int .i64 i1), (28, .int .i64 (x2.length : Int)), (29, .int .i64 i2)] ∧ Hold h h' [own cd24 a2 x2.length c2 s3]) ((x2.length : Int) - 0 : Int).toNat ⟨0, s1, Int.le_refl _, gx6, rfl, H24⟩ ?_
     rintro my2 _ h5 ⟨i2, s3, hloy2', gx6, rfl, H11⟩
     refine Zs ?_
     refine Zq [.bool (decide (i2 < (x2.length : Int)))] [4, 5, 15, 16, 28, 29, 30] [(4, .slice a2 x2.length c2), (5, .int .i64 i1), (15, .int .i64 (x2.length : Int)), (16, .int .i64 i1), (28, .int .i64 (x2.length : Int)), (29, .int .i64 i2), (30, .bool (decide (i2 < (x2.length : Int))))] ?_
     refine Zs ?_
     refine Zc (decide (i2 < (x2.length : Int))) (fun hb3 => ?_) (fun hb3 => ?_)
     ·obtain ⟨my2, y2, rfl, hB2, hgoy2, houty2⟩ := M.for_go gx6 hb3
      have hlty2 := of_decide_eq_true hb3
      refine Run_skip ?_
      refine Zs ?_
      refine Run_block ?_
      refine Zs ?_
      refine Zq [.int .i64 i2, .int .i64 i2] [4, 5, 6, 15, 16, 28, 29] [(4, .slice a2 x2.length c2), (5, .int .i64 i1), (6, .int .i64 i2), (15, .int .i64 (x2.length : Int)), (16, .int .i64 i1), (28, .int .i64 (x2.length : Int)), (29, .int .i64 i2)] ?_
      refine Zs ?_
      refine Zq [.slice a2 x2.length c2, .int .i64 (x2.length : Int), .int .i64 0] [4, 5, 6, 15, 16, 28, 29, 33, 34] [(4, .slice a2 x2.length c2), (5, .int .i64 i1), (6, .int .i64 i2), (15, .int .i64 (x2.length : Int)), (16, .int .i64 i1), (28, .int .i64 (x2.length : Int)), (29, .int .i64 i2), (33, .int .i64 (x2.length : Int)), (34, .int .i64 0)] ?_
      obtain ⟨x7, gx7, hB2⟩ := M.bind_some hB2
      obtain ⟨hloy3, hhiy3, gx7⟩ := M.for_start gx7
      refine Run_join (fun L' h' => L' = [(4, .slice a2 x2.length c2), (5, .int .i64 i1), (15, .int .i64 (x2.length : Int)), (16, .int .i64 i1), (28, .int .i64 (x2.length : Int)), (29, .int .i64 i2)] ∧ Hold h h' [own cd24 a2 x2.length c2 x7]) ?_ ?_
      ·rintro _ h8 ⟨rfl, H14⟩
       refine Run_blk ?_
       refine Zg 2 [(4, .slice a2 x2.length c2), (5, .int .i64 i1), (15, .int .i64 (x2.length : Int)), (16, .int .i64 i1), (28, .int .i64 (x2.length : Int)), (29, .int .i64 (i2 + 1))] ?_ ?_
       ·refine Zy (.int .i64 (i2 + 1)) (Y_eq (v := .int .i64 (w64 (i2 + 1))) (Y_pure (fun w => by kernel_rfl)) (by rw [w64_eq _ (by omega)])) ?_
        refine Zb [.int .i64 (i2 + 1)] 1 ?_
        exact Zd [4, 5, 15, 16, 28, 29]
       have hB2 := M.ret_some hB2
       have gx6 := hgoy2 _ hB2.symm
       exact Za [4, 5, 15, 16, 28, 29] my2 ⟨i2 + 1, x7, by omega, gx6, rfl, H14⟩
      ·refine Run_block ?_
       refine Zk [4, 5, 6, 15, 16, 28, 29, 33, 34] [(4, .slice a2 x2.length c2), (5, .int .i64 i1), (6, .int .i64 i2), (15, .int .i64 (x2.length : Int)), (16, .int .i64 i1), (28, .int .i64 (x2.length : Int)), (29, .int .i64 i2), (33, .int .i64 (x2.length : Int)), (34, .int .i64 0)] ?_
       refine Run_loop (fun m L' h' => ∃ (i3 : Int) (s4 : (List (List Int))), 0 ≤ i3 ∧ M.forN (x2.length : Int) _ _ n m i3 s4 = some x7 ∧ L' = [(4, .slice a2 x2.length c2), (5, .int .i64 i1), (6, .int .i64 i2), (15, .int .i64 (x2.length : Int)), (16, .int .i64 i1), (28, .int .i64 (x2.length : Int)), (29, .int .i64 i2), (33, .int .i64 (x2.length : Int)), (34, .int .i64 i3)] ∧ Hold h h' [own cd24 a2 x2.length c2 s4]) ((x2.length : Int) - 0 : Int).toNat ⟨0, s3, Int.le_refl _, gx7, rfl, H11⟩ ?_
       rintro my3 _ h7 ⟨i3, s4, hloy3', gx7, rfl, H13⟩
       refine Zs ?_
       refine Zq [.bool (decide (i3 < (x2.length : Int)))] [4, 5, 6, 15, 16, 28, 29, 33, 34, 35] [(4, .slice a2 x2.length c2), (5, .int .i64 i1), (6, .int .i64 i2), (15, .int .i64 (x2.length : Int)), (16, .int .i64 i1), (28, .int .i64 (x2.length : Int)), (29, .int .i64 i2), (33, .int .i64 (x2.length : Int)), (34, .int .i64 i3), (35, .bool (decide (i3 < (x2.length : Int))))] ?_
       refine Zs ?_
       refine Zc (decide (i3 < (x2.length : Int))) (fun hb4 => ?_) (fun hb4 => ?_)
       ·obtain ⟨my3, y3, rfl, hB3, hgoy3, houty3⟩ := M.for_go gx7 hb4
        have hlty3 := of_decide_eq_true hb4
        refine Run_skip ?_
        refine Zs ?_
        refine Run_block ?_
        refine Zs ?_
        refine Zq [.int .i64 i3, .int .i64 i3] [4, 5, 6, 7, 15, 16, 28, 29, 33, 34] [(4, .slice a2 x2.length c2), (5, .int .i64 i1), (6, .int .i64 i2), (7, .int .i64 i3), (15, .int .i64 (x2.length : Int)), (16, .int .i64 i1), (28, .int .i64 (x2.length : Int)), (29, .int .i64 i2), (33, .int .i64 (x2.length : Int)), (34, .int .i64 i3)] ?_
        obtain ⟨x8, hx5, hB3⟩ := M.bind_some hB3
        obtain ⟨hx5l, hx5u, hx5⟩ := M.idx_some hx5
        have H15 := H13.toRows
        obtain ⟨a4, c4, H16⟩ := H15.pinRow hx5
        obtain ⟨x9, hx6, hB3⟩ := M.bind_some hB3
        obtain ⟨hx6l, hx6u, hx6⟩ := M.idx_some hx6
        obtain ⟨a5, c5, H17⟩ := H16.pinRow hx6
        obtain ⟨x10, hx7, hB3⟩ := M.bind_some hB3
        obtain ⟨hx7l, hx7u, hx7⟩ := M.idx_some hx7
        obtain ⟨x11, hx8, hB3⟩ := M.bind_some hB3
        obtain ⟨hx8l, hx8u, hx8⟩ := M.idx_some hx8
        obtain ⟨a6, c6, H18⟩ := H17.pinRow hx8
        obtain ⟨x12, hx9, hB3⟩ := M.bind_some hB3
        obtain ⟨hx9l, hx9u, hx9⟩ := M.idx_some hx9
        obtain ⟨x13, hx10, hB3⟩ := M.bind_some hB3
        obtain ⟨hx10l, hx10u, hx10⟩ := M.idx_some hx10
        obtain ⟨a7, c7, H19⟩ := H18.pinRow hx10
        obtain ⟨x14, hx11, hB3⟩ := M.bind_some hB3
        obtain ⟨hx11l, hx11u, hx11⟩ := M.idx_some hx11
        obtain ⟨x15, hx12, hB3⟩ := M.bind_some hB3
        obtain ⟨x16, hx13, hB3⟩ := M.bind_some hB3
        obtain ⟨hx13l, hx13u, hx13⟩ := M.idx_some hx13
        refine Run_D (fun x => Hold h x [rowsP cd2 24 a2 x2.length c2 s4 [(i1.toNat, a7, x13.length, c7, x13), (i2.toNat, a6, x11.length, c6, x11), (i2.toNat, a5, x9.length, c5, x9), (i2.toNat, a4, x8.length, c4, x8)]]) (fun x => Hold h x [rowsP cd2 24 a2 x2.length c2 s4 [(i1.toNat, a7, x13.length, c7, x13), (i2.toNat, a6, x11.length, c6, x11), (i2.toNat, a5, x9.length, c5, x9), (i2.toNat, a4, x8.length, c4, x8)]]) mixed (by kernel_rfl) H19 Hold.stable (fun x Hy => (show Hold h x [rowsP cd2 24 a2 x2.length c2 s4 [(i1.toNat, a7, x13.length, c7, x13), (i2.toNat, a6, x11.length, c6, x11), (i2.toNat, a5, x9.length, c5, x9), (i2.toNat, a4, x8.length, c4, x8)]] from Hy).pk [0]) ?_
        refine ZB 28 [.slice a2 x2.length c2, .int .i64 i2] 0 ?_
        refine ZY 27 2 (.pointer (some (adr a2 (i2.toNat * 1)))) (fun hx Hx => (YE.of (Zi 22 24 1 (a2) (x2.length) (c2) .i64 (i2) Tryz.underlying22 ((H13.rd 0 rfl).cell hx5).1 hx5l (by rw [← (H13.len 0 rfl)]; exact hx5u)))) ?_
        refine ZY 26 3 (.slice a4 x8.length c4) (fun hx Hx => (YE.of (Zl 24 (adr a2 (i2.toNat * 1)) (.slice a4 x8.length c4) (Hx.cellPin 0 rfl 3 rfl)))) ?_
        refine ZB 23 [.int .i64 i3, .slice a2 x2.length c2, .int .i64 i2] 4 ?_
        refine ZY 22 7 (.pointer (some (adr a2 (i2.toNat * 1)))) (fun hx Hx => (YE.of (Zi 22 24 1 (a2) (x2.length) (c2) .i64 (i2) Tryz.underlying22 ((H16.rdRows 0 rfl).cell hx6).1 hx6l (by rw [← (H16.lenRows 0 rfl)]; exact hx6u)))) ?_
        refine ZY 21 8 (.slice a5 x9.length c5) (fun hx Hx => (YE.of (Zl 24 (adr a2 (i2.toNat * 1)) (.slice a5 x9.length c5) (Hx.cellPin 0 rfl 2 rfl)))) ?_
        refine ZB 20 [.int .i64 i3] 9 ?_
        refine ZY 19 10 (.pointer (some (adr a5 (i3.toNat * 1)))) (fun hx Hx => (YE.of (Zi 24 2 1 (a5) (x9.length) (c5) .i64 (i3) Tryz.underlying24 ((H17.rdPin 0 rfl 0 rfl).cell hx7).1 hx7l hx7u))) ?_
        refine ZY 18 11 (.int .i64 x10) (fun hx Hx => (YE.of (Zl 2 (adr a5 (i3.toNat * 1)) (.int .i64 x10) (cd2_cell (Hx.rdPin 0 rfl 2 rfl) hx7)))) ?_
        refine ZB 16 [.slice a2 x2.length c2, .int .i64 i2] 12 ?_
        refine ZY 15 14 (.pointer (some (adr a2 (i2.toNat * 1)))) (fun hx Hx => (YE.of (Zi 22 24 1 (a2) (x2.length) (c2) .i64 (i2) Tryz.underlying22 ((H17.rdRows 0 rfl).cell hx8).1 hx8l (by rw [← (H17.lenRows 0 rfl)]; exact hx8u)))) ?_
        refine ZY 14 15 (.slice a6 x11.length c6) (fun hx Hx => (YE.of (Zl 24 (adr a2 (i2.toNat * 1)) (.slice a6 x11.length c6) (Hx.cellPin 0 rfl 1 rfl)))) ?_
        refine ZB 13 [.int .i64 i1] 16 ?_
        refine ZY 12 17 (.pointer (some (adr a6 (i1.toNat * 1)))) (fun hx Hx => (YE.of (Zi 24 2 1 (a6) (x11.length) (c6) .i64 (i1) Tryz.underlying24 ((H18.rdPin 0 rfl 0 rfl).cell hx9).1 hx9l hx9u))) ?_
        refine ZY 11 18 (.int .i64 x12) (fun hx Hx => (YE.of (Zl 2 (adr a6 (i1.toNat * 1)) (.int .i64 x12) (cd2_cell (Hx.rdPin 0 rfl 1 rfl) hx9)))) ?_
        refine ZB 9 [.slice a2 x2.length c2, .int .i64 i1] 19 ?_
        refine ZY 8 21 (.pointer (some (adr a2 (i1.toNat * 1)))) (fun hx Hx => (YE.of (Zi 22 24 1 (a2) (x2.length) (c2) .i64 (i1) Tryz.underlying22 ((H18.rdRows 0 rfl).cell hx10).1 hx10l (by rw [← (H18.lenRows 0 rfl)]; exact hx10u)))) ?_
        refine ZY 7 22 (.slice a7 x13.length c7) (fun hx Hx => (YE.of (Zl 24 (adr a2 (i1.toNat * 1)) (.slice a7 x13.length c7) (Hx.cellPin 0 rfl 0 rfl)))) ?_
        refine ZB 6 [.int .i64 i3] 23 ?_
        refine ZY 5 24 (.pointer (some (adr a7 (i3.toNat * 1)))) (fun hx Hx => (YE.of (Zi 24 2 1 (a7) (x13.length) (c7) .i64 (i3) Tryz.underlying24 ((H19.rdPin 0 rfl 0 rfl).cell hx11).1 hx11l hx11u))) ?_
        refine ZY 4 25 (.int .i64 x14) (fun hx Hx => (YE.of (Zl 2 (adr a7 (i3.toNat * 1)) (.int .i64 x14) (cd2_cell (Hx.rdPin 0 rfl 0 rfl) hx11)))) ?_
        refine ZY 3 26 (.int .i64 x15) (fun hx Hx => (YE.of (ZQ 67 #[.int .i64 x12, .int .i64 x14] (w_impl_times hx x12 x14 _ _ hx12)))) ?_
        refine ZB 2 [.int .i64 (mx x10 x15)] 27 ?_
        refine ZY 1 28 (.pointer (some (adr a4 (i3.toNat * 1)))) (fun hx Hx => (YE.of (Zi 24 2 1 (a4) (x8.length) (c4) .i64 (i3) Tryz.underlying24 ((H19.rdPin 0 rfl 3 rfl).cell hx13).1 hx13l hx13u))) ?_
        refine ZT 29 (fun h9 H20 => ?_)
        have H21 : Hold h h9 [rowsP cd2 24 a2 x2.length c2 s4 [(i1.toNat, a7, x13.length, c7, x13), (i2.toNat, a6, x11.length, c6, x11), (i2.toNat, a5, x9.length, c5, x9), (i2.toNat, a4, x8.length, c4, x8)]] := H20
        obtain ⟨l1, hu1, hB3⟩ := M.bind_some hB3
        have hu1 := M.upd_some hu1
        refine Ze ?_
        refine E_put2 (C := cd2) (t := 2) (sz := 1) (j := i3) (x := (mx x10 x15)) (v := .int .i64 (mx x10 x15)) (m2 := s4.set i2.toNat l1) H21 cd2_flat 3 rfl (by kernel_rfl) rfl (cd2_own _) (by kernel_rfl) hu1 rfl (fun h10 H22 => ?_)
        refine Zx ?_
        refine Zk [4, 5, 6, 15, 16, 28, 29, 33, 34] [(4, .slice a2 x2.length c2), (5, .int .i64 i1), (6, .int .i64 i2), (15, .int .i64 (x2.length : Int)), (16, .int .i64 i1), (28, .int .i64 (x2.length : Int)), (29, .int .i64 i2), (33, .int .i64 (x2.length : Int)), (34, .int .i64 i3)] ?_
        refine Run_blk ?_
        refine Zg 2 [(4, .slice a2 x2.length c2), (5, .int .i64 i1), (6, .int .i64 i2), (15, .int .i64 (x2.length : Int)), (16, .int .i64 i1), (28, .int .i64 (x2.length : Int)), (29, .int .i64 i2), (33, .int .i64 (x2.length : Int)), (34, .int .i64 (i3 + 1))] ?_ ?_
        ·refine Zy (.int .i64 (i3 + 1)) (Y_eq (v := .int .i64 (w64 (i3 + 1))) (Y_pure (fun w => by kernel_rfl)) (by rw [w64_eq _ (by omega)])) ?_
         refine Zb [.int .i64 (i3 + 1)] 1 ?_
         exact Zd [4, 5, 6, 15, 16, 28, 29, 33, 34]
        have H23 := H22.ofRows
        have hB3 := M.ret_some hB3
        have gx7 := hgoy3 _ hB3.symm
        exact Za [4, 5, 6, 15, 16, 28, 29, 33, 34] my3 ⟨i3 + 1, (s4.set i2.toNat l1), by omega, gx7, rfl, H23⟩
       ·have gx7 := M.for_end gx7 hb4
        subst gx7
        refine Run_exit (k' := _) rfl ?_
        exact Zf [4, 5, 15, 16, 28, 29] ⟨rfl, H13⟩
     ·have gx6 := M.for_end gx6 hb3
      subst gx6
      refine Run_exit (k' := _) rfl ?_
      exact Zf [4, 15, 16] ⟨rfl, H11⟩
  ·have gx3 := M.for_end gx3 hb1
   subst gx3
   refine Run_exit (k' := _) rfl ?_
   exact Zf [4] ⟨s1, rfl, rfl, H5⟩

theorem w_impl_criticalMatrix_1 (h : Heap) (i : Int) (j : Int) (z0 : List (List Int)) {Sz0 : Bs} (az0 : Option Addr) (cz0 : Nat) (rz0 : Rd cd24 h Sz0 az0 cz0 z0) (bz0 : Nat) (vz0 : VarAt h bz0 22 [.slice az0 z0.length cz0]) (z1 : List (List Int)) {Sz1 : Bs} (az1 : Option Addr) (cz1 : Nat) (rz1 : Rd cd24 h Sz1 az1 cz1 z1) (bz1 : Nat) (vz1 : VarAt h bz1 22 [.slice az1 z1.length cz1]) (z2 : List (List Int)) {Sz2 : Bs} (az2 : Option Addr) (cz2 : Nat) (rz2 : Rd cd24 h Sz2 az2 cz2 z2) (bz2 : Nat) (vz2 : VarAt h bz2 22 [.slice az2 z2.length cz2]) (n : Nat) (r : Int) (hF : impl_criticalMatrix_1 i j z0 z1 z2 n = some r) :
  Fn Tryz.prog 112 #[.int .i64 i, .int .i64 j, pV bz0, pV bz1, pV bz2] h fun v h' => v = .int .i64 r ∧ h' = h := by
 unfold impl_criticalMatrix_1 at hF
 refine Zo [.int .i64 i, .int .i64 j, pV bz0, pV bz1, pV bz2] Tryz.func112 rfl (fun w0 _ => ?_)
 refine Zs ?_
 refine Zq [.int .i64 0] [0, 1, 2, 3, 4] [(0, .int .i64 i), (1, .int .i64 j), (2, pV bz0), (3, pV bz1), (4, pV bz2)] ?_
 refine Zs ?_
 refine Zs ?_
 obtain ⟨x1, hx1, hF⟩ := M.bind_some hF
 obtain ⟨hx1l, hx1u, hx1⟩ := M.idx_some hx1
 obtain ⟨a1, c1, hc1, r1⟩ := rz0.row hx1
 obtain ⟨x2, hx2, hF⟩ := M.bind_some hF
 obtain ⟨hx2l, hx2u, hx2⟩ := M.idx_some hx2
 obtain ⟨x3, gx3, hF⟩ := M.bind_some hF
 obtain ⟨x6, gx6, hF⟩ := M.bind_some hF
 refine Run_draw 36 mixed (by kernel_rfl) (by kernel_rfl) (L' := [(0, .int .i64 i), (1, .int .i64 j), (4, pV bz2), (43, .bool x6)]) ?_ ?_
 ·refine Zy (.slice az0 z0.length cz0) (Zl 22 (⟨bz0, 0, none⟩) (.slice az0 z0.length cz0) (VarAt.cell vz0 rfl)) ?_
  refine Zb [.int .i64 i] 1 ?_
  refine Zy (.pointer (some (adr az0 (i.toNat * 1)))) (Zi 22 24 1 (az0) (z0.length) (cz0) .i64 (i) Tryz.underlying22 (rz0.cell hx1).1 hx1l hx1u) ?_
  refine Zy (.slice a1 x1.length c1) (Zl 24 (adr az0 (i.toNat * 1)) (.slice a1 x1.length c1) hc1) ?_
  refine Zb [.int .i64 j] 4 ?_
  refine Zy (.pointer (some (adr a1 (j.toNat * 1)))) (Zi 24 2 1 (a1) (x1.length) (c1) .i64 (j) Tryz.underlying24 (r1.cell hx2).1 hx2l hx2u) ?_
  refine Zy (.int .i64 x2) (Zl 2 (adr a1 (j.toNat * 1)) (.int .i64 x2) (cd2_cell r1 hx2)) ?_
  refine Zb [.bool (x2 == (-1000000000000000))] 7 ?_
  refine QRun_seq 18 [(0, .int .i64 i), (1, .int .i64 j), (2, pV bz0), (3, pV bz1), (4, pV bz2), (25, .bool x3)] ?_ ?_
  ·rcases Bool.eq_false_or_eq_true (x2 == (-1000000000000000)) with hb1 | hb1
   ·refine Zv (x2 == (-1000000000000000)) true hb1 ?_
    have gx3 := M.ret_some ((M.ite_some gx3).1 hb1)
    refine Zn ?_
    refine Zn ?_
    refine Zn ?_
    refine Zn ?_
    refine Zn ?_
    refine Zn ?_
    refine Zn ?_
    refine Zn ?_
    refine Zv true x3 gx3 ?_
    exact Zd [0, 1, 2, 3, 4, 25]
   ·refine Zv (x2 == (-1000000000000000)) false hb1 ?_
    have gx3 := (M.ite_some gx3).2 hb1
    obtain ⟨x4, hx3, gx3⟩ := M.bind_some gx3
    obtain ⟨hx3l, hx3u, hx3⟩ := M.idx_some hx3
    obtain ⟨a2, c2, hc2, r2⟩ := rz1.row hx3
    obtain ⟨x5, hx4, gx3⟩ := M.bind_some gx3
    obtain ⟨hx4l, hx4u, hx4⟩ := M.idx_some hx4
    have gx3 := M.ret_some gx3
    refine Zy (.slice az1 z1.length cz1) (Zl 22 (⟨bz1, 0, none⟩) (.slice az1 z1.length cz1) (VarAt.cell vz1 rfl)) ?_
    refine Zb [.int .i64 j] 10 ?_
    refine Zy (.pointer (some (adr az1 (j.toNat * 1)))) (Zi 22 24 1 (az1) (z1.length) (cz1) .i64 (j) Tryz.underlying22 (rz1.cell hx3).1 hx3l hx3u) ?_
    refine Zy (.slice a2 x4.length c2) (Zl 24 (adr az1 (j.toNat * 1)) (.slice a2 x4.length c2) hc2) ?_
    refine Zb [.int .i64 i] 13 ?_
    refine Zy (.pointer (some (adr a2 (i.toNat * 1)))) (Zi 24 2 1 (a2) (x4.length) (c2) .i64 (i) Tryz.underlying24 (r2.cell hx4).1 hx4l hx4u) ?_
    refine Zy (.int .i64 x5) (Zl 2 (adr a2 (i.toNat * 1)) (.int .i64 x5) (cd2_cell r2 hx4)) ?_
    refine Zb [.bool (x5 == (-1000000000000000))] 16 ?_
    refine Zv (x5 == (-1000000000000000)) x3 gx3 ?_
    exact Zd [0, 1, 2, 3, 4, 25]
  refine QRun_seq 36 [(0, .int .i64 i), (1, .int .i64 j), (4, pV bz2), (43, .bool x6)] ?_ ?_
  ·rcases Bool.eq_false_or_eq_true x3 with hb2 | hb2
   ·refine Zv x3 true hb2 ?_
    have gx6 := M.ret_some ((M.ite_some gx6).1 hb2)
    refine Zn ?_
    refine Zn ?_
    refine Zn ?_
    refine Zn ?_
    refine Zn ?_
    refine Zn ?_
    refine Zn ?_
    refine Zn ?_
    refine Zn ?_
    refine Zn ?_
    refine Zn ?_
    refine Zn ?_
    refine Zn ?_
    refine Zn ?_
    refine Zn ?_
    refine Zn ?_
    refine Zv true x6 gx6 ?_
    exact Zd [0, 1, 4, 43]
   ·refine Zv x3 false hb2 ?_
    have gx6 := (M.ite_some gx6).2 hb2
    obtain ⟨x7, hx5, gx6⟩ := M.bind_some gx6
    obtain ⟨hx5l, hx5u, hx5⟩ := M.idx_some hx5
    obtain ⟨a3, c3, hc3, r3⟩ := rz0.row hx5
    obtain ⟨x8, hx6, gx6⟩ := M.bind_some gx6
    obtain ⟨hx6l, hx6u, hx6⟩ := M.idx_some hx6
    obtain ⟨x9, hx7, gx6⟩ := M.bind_some gx6
    obtain ⟨hx7l, hx7u, hx7⟩ := M.idx_some hx7
    obtain ⟨a4, c4, hc4, r4⟩ := rz1.row hx7
    obtain ⟨x10, hx8, gx6⟩ := M.bind_some gx6
    obtain ⟨hx8l, hx8u, hx8⟩ := M.idx_some hx8
    have gx6 := M.ret_some gx6
    refine Zy (.slice az0 z0.length cz0) (Zl 22 (⟨bz0, 0, none⟩) (.slice az0 z0.length cz0) (VarAt.cell vz0 rfl)) ?_
    refine Zb [.int .i64 i] 20 ?_
    refine Zy (.pointer (some (adr az0 (i.toNat * 1)))) (Zi 22 24 1 (az0) (z0.length) (cz0) .i64 (i) Tryz.underlying22 (rz0.cell hx5).1 hx5l hx5u) ?_
    refine Zy (.slice a3 x7.length c3) (Zl 24 (adr az0 (i.toNat * 1)) (.slice a3 x7.length c3) hc3) ?_
    refine Zb [.int .i64 j] 23 ?_
    refine Zy (.pointer (some (adr a3 (j.toNat * 1)))) (Zi 24 2 1 (a3) (x7.length) (c3) .i64 (j) Tryz.underlying24 (r3.cell hx6).1 hx6l hx6u) ?_
    refine Zy (.int .i64 x8) (Zl 2 (adr a3 (j.toNat * 1)) (.int .i64 x8) (cd2_cell r3 hx6)) ?_
    refine Zy (.slice az1 z1.length cz1) (Zl 22 (⟨bz1, 0, none⟩) (.slice az1 z1.length cz1) (VarAt.cell vz1 rfl)) ?_
    refine Zb [.int .i64 j] 27 ?_
    refine Zy (.pointer (some (adr az1 (j.toNat * 1)))) (Zi 22 24 1 (az1) (z1.length) (cz1) .i64 (j) Tryz.underlying22 (rz1.cell hx7).1 hx7l hx7u) ?_
    refine Zy (.slice a4 x9.length c4) (Zl 24 (adr az1 (j.toNat * 1)) (.slice a4 x9.length c4) hc4) ?_
    refine Zb [.int .i64 i] 30 ?_
    refine Zy (.pointer (some (adr a4 (i.toNat * 1)))) (Zi 24 2 1 (a4) (x9.length) (c4) .i64 (i) Tryz.underlying24 (r4.cell hx8).1 hx8l hx8u) ?_
    refine Zy (.int .i64 x10) (Zl 2 (adr a4 (i.toNat * 1)) (.int .i64 x10) (cd2_cell r4 hx8)) ?_
    refine Zb [.int .i64 (w64 (x8 + x10)), .bool ((w64 (x8 + x10)) != 0)] 33 ?_
    refine Zv ((w64 (x8 + x10)) != 0) x6 gx6 ?_
    exact Zd [0, 1, 4, 43]
  exact Zd [0, 1, 4, 43]
 refine Zc (x6) (fun hb3 => ?_) (fun hb3 => ?_)
 ·have hF := (M.ite_some hF).1 hb3
  refine Zs ?_
  refine Zq [.int .i64 (-1000000000000000)] [7] [(7, .int .i64 (-1000000000000000))] ?_
  have hF := M.ret_some hF
  subst hF
  exact Run_ret1 rfl (Zt (.int .i64 (-1000000000000000))) ⟨rfl, rfl⟩
 ·have hF := (M.ite_some hF).2 hb3
  refine Run_skip ?_
  refine Zs ?_
  obtain ⟨x11, hx9, hF⟩ := M.bind_some hF
  obtain ⟨hx9l, hx9u, hx9⟩ := M.idx_some hx9
  obtain ⟨a5, c5, hc5, r5⟩ := rz2.row hx9
  obtain ⟨x12, hx10, hF⟩ := M.bind_some hF
  obtain ⟨hx10l, hx10u, hx10⟩ := M.idx_some hx10
  refine Zg 8 [(7, .int .i64 x12)] ?_ ?_
  ·refine Zy (.slice az2 z2.length cz2) (Zl 22 (⟨bz2, 0, none⟩) (.slice az2 z2.length cz2) (VarAt.cell vz2 rfl)) ?_
   refine Zb [.int .i64 i] 1 ?_
   refine Zy (.pointer (some (adr az2 (i.toNat * 1)))) (Zi 22 24 1 (az2) (z2.length) (cz2) .i64 (i) Tryz.underlying22 (rz2.cell hx9).1 hx9l hx9u) ?_
   refine Zy (.slice a5 x11.length c5) (Zl 24 (adr az2 (i.toNat * 1)) (.slice a5 x11.length c5) hc5) ?_
   refine Zb [.int .i64 j] 4 ?_
   refine Zy (.pointer (some (adr a5 (j.toNat * 1)))) (Zi 24 2 1 (a5) (x11.length) (c5) .i64 (j) Tryz.underlying24 (r5.cell hx10).1 hx10l hx10u) ?_
   refine Zy (.int .i64 x12) (Zl 2 (adr a5 (j.toNat * 1)) (.int .i64 x12) (cd2_cell r5 hx10)) ?_
   refine Zb [.int .i64 x12] 7 ?_
   exact Zd [7]
  have hF := M.ret_some hF
  subst hF
  exact Run_ret1 rfl (Zt (.int .i64 x12)) ⟨rfl, rfl⟩

theorem w_impl_matrixBy_F_impl_criticalMatrix_1 (h : Heap) (m_ : Int) (n_ : Int) (entry0 : List (List Int)) (aentry0 : Option Addr) (centry0 : Nat) (rentry0 : Rd cd24 h (Lt h) aentry0 centry0 entry0) (bentry0 : Nat) (ventry0 : VarAt h bentry0 22 [.slice aentry0 entry0.length centry0]) (entry1 : List (List Int)) (aentry1 : Option Addr) (centry1 : Nat) (rentry1 : Rd cd24 h (Lt h) aentry1 centry1 entry1) (bentry1 : Nat) (ventry1 : VarAt h bentry1 22 [.slice aentry1 entry1.length centry1]) (entry2 : List (List Int)) (aentry2 : Option Addr) (centry2 : Nat) (rentry2 : Rd cd24 h (Lt h) aentry2 centry2 entry2) (bentry2 : Nat) (ventry2 : VarAt h bentry2 22 [.slice aentry2 entry2.length centry2]) (n : Nat) (r : (List (List Int))) (hF : impl_matrixBy_F_impl_criticalMatrix_1 m_ n_ entry0 entry1 entry2 n = some r) :
  Fn Tryz.prog 109 #[.int .i64 m_, .int .i64 n_, .func (.func 112) #[] #[pV bentry0, pV bentry1, pV bentry2]] h fun v h' => ∃ (a0 : Option Addr) (c0 : Nat), v = .slice a0 r.length c0 ∧ Hold h h' [own cd24 a0 r.length c0 r] := by
 unfold impl_matrixBy_F_impl_criticalMatrix_1 at hF
 refine Zo [.int .i64 m_, .int .i64 n_, .func (.func 112) #[] #[pV bentry0, pV bentry1, pV bentry2]] Tryz.func109 rfl (fun w0 _ => ?_)
 have H0 := Hold.init h
 refine Zs ?_
 refine Zq [.slice none 0 0] [0, 1, 2] [(0, .int .i64 m_), (1, .int .i64 n_), (2, .func (.func 112) #[] #[pV bentry0, pV bentry1, pV bentry2])] ?_
 refine Zs ?_
 refine Run_ops ?_
 refine Zr [.int .i64 m_] 0 ?_
 obtain ⟨l1, hl1, hF⟩ := M.bind_some hF
 have hl1 := M.make_some hl1
 refine Ze ?_
 refine E_make cd24 [] (kl := .i64) (kc := .i64) H0 cd24_ti Tryz.underlying22 (by decide) cd24_zero (by kernel_rfl) hl1 (fun a1 h1 H1 => ?_)
 refine Zr [.slice a1 l1.length l1.length] 2 ?_
 refine Zx ?_
 refine Zk [1, 2, 7] [(1, .int .i64 n_), (2, .func (.func 112) #[] #[pV bentry0, pV bentry1, pV bentry2]), (7, .slice a1 l1.length l1.length)] ?_
 refine Zs ?_
 refine Zs ?_
 refine Zq [.slice a1 l1.length l1.length, .int .i64 (l1.length : Int), .int .i64 0] [1, 2, 7, 13, 14] [(1, .int .i64 n_), (2, .func (.func 112) #[] #[pV bentry0, pV bentry1, pV bentry2]), (7, .slice a1 l1.length l1.length), (13, .int .i64 (l1.length : Int)), (14, .int .i64 0)] ?_
 obtain ⟨x1, gx1, hF⟩ := M.bind_some hF
 obtain ⟨hloy1, hhiy1, gx1⟩ := M.for_start gx1
 refine Run_join (fun L' h' => L' = [(7, .slice a1 l1.length l1.length)] ∧ Hold h h' [own cd24 a1 l1.length l1.length x1]) ?_ ?_
 ·rintro _ h3 ⟨rfl, H3⟩
  refine Zs ?_
  refine Zq [.slice a1 l1.length l1.length, .slice a1 l1.length l1.length] [6] [(6, .slice a1 l1.length l1.length)] ?_
  have hF := M.ret_some hF
  subst hF
  have H20 := H3.norm
  exact Run_ret1 rfl (Zt (.slice a1 l1.length l1.length)) ⟨a1, l1.length, (by simp only [(H3.len 0 rfl)]), H20⟩
 ·refine Run_block ?_
  refine Zk [1, 2, 7, 13, 14] [(1, .int .i64 n_), (2, .func (.func 112) #[] #[pV bentry0, pV bentry1, pV bentry2]), (7, .slice a1 l1.length l1.length), (13, .int .i64 (l1.length : Int)), (14, .int .i64 0)] ?_
  refine Run_loop (fun m L' h' => ∃ (i1 : Int) (s1 : (List (List Int))), 0 ≤ i1 ∧ M.forN (l1.length : Int) _ _ n m i1 s1 = some x1 ∧ L' = [(1, .int .i64 n_), (2, .func (.func 112) #[] #[pV bentry0, pV bentry1, pV bentry2]), (7, .slice a1 l1.length l1.length), (13, .int .i64 (l1.length : Int)), (14, .int .i64 i1)] ∧ Hold h h' [own cd24 a1 l1.length l1.length s1]) ((l1.length : Int) - 0 : Int).toNat ⟨0, l1, Int.le_refl _, gx1, rfl, H1⟩ ?_
  rintro my1 _ h2 ⟨i1, s1, hloy1', gx1, rfl, H2⟩
  refine Zs ?_
  refine Zq [.bool (decide (i1 < (l1.length : Int)))] [1, 2, 7, 13, 14, 15] [(1, .int .i64 n_), (2, .func (.func 112) #[] #[pV bentry0, pV bentry1, pV bentry2]), (7, .slice a1 l1.length l1.length), (13, .int .i64 (l1.length : Int)), (14, .int .i64 i1), (15, .bool (decide (i1 < (l1.length : Int))))] ?_
  refine Zs ?_
  refine Zc (decide (i1 < (l1.length : Int))) (fun hb1 => ?_) (fun hb1 => ?_)
  ·obtain ⟨my1, y1, rfl, hB1, hgoy1, houty1⟩ := M.for_go gx1 hb1
   have hlty1 := of_decide_eq_true hb1
   refine Run_skip ?_
   refine Zs ?_
   refine Run_block ?_
   refine Zs ?_
   refine Zq [.int .i64 i1, .int .i64 i1] [1, 2, 7, 8, 13, 14] [(1, .int .i64 n_), (2, .func (.func 112) #[] #[pV bentry0, pV bentry1, pV bentry2]), (7, .slice a1 l1.length l1.length), (8, .int .i64 i1), (13, .int .i64 (l1.length : Int)), (14, .int .i64 i1)] ?_
   refine Zs ?_
   refine Run_ops ?_
   refine Zr [.slice a1 l1.length l1.length, .int .i64 i1, .int .i64 n_] 0 ?_
   obtain ⟨l2, hl2, hB1⟩ := M.bind_some hB1
   have hl2 := M.make_some hl2
   refine Ze ?_
   refine E_make cd2 0 (kl := .i64) (kc := .i64) H2 cd2_ti Tryz.underlying24 (by decide) cd2_zero (by kernel_rfl) hl2 (fun a2 h4 H4 => ?_)
   obtain ⟨x2, hx1, hB1⟩ := M.bind_some hB1
   obtain ⟨hx1l, hx1u, hx1⟩ := M.idx_some hx1
   refine Zz (.pointer (some (adr a1 (i1.toNat * 1)))) (Zi 22 24 1 (a1) (l1.length) (l1.length) .i64 (i1) Tryz.underlying22 ((H4.rd 1 rfl).cell hx1).1 hx1l (by rw [← (H4.len 1 rfl)]; exact hx1u)) ?_
   obtain ⟨l3, hu1, hB1⟩ := M.bind_some hB1
   have hu1 := M.upd_some hu1
   have H6 : Hold h h4 [own cd24 a1 l1.length l1.length s1, own cd2 a2 l2.length l2.length l2] := H4.pk [1, 0]
   have H7 : Hold h h4 [own cd2 a2 l2.length l2.length l2, own cd24 a1 l1.length l1.length s1] := H6.pk [1, 0]
   have H8 : Hold h h4 [own cd24 a1 l1.length l1.length s1, own cd2 a2 l2.length l2.length l2] := H7.pk [1, 0]
   refine Ze ?_
   refine E_putRow (t := 24) (j := i1) H8 (by kernel_rfl) (by kernel_rfl) hu1 (fun h5 H5 => ?_)
   refine Zx ?_
   refine Zk [1, 2, 7, 8, 13, 14] [(1, .int .i64 n_), (2, .func (.func 112) #[] #[pV bentry0, pV bentry1, pV bentry2]), (7, .slice a1 l1.length l1.length), (8, .int .i64 i1), (13, .int .i64 (l1.length : Int)), (14, .int .i64 i1)] ?_
   refine Zs ?_
   obtain ⟨x3, hx2, hB1⟩ := M.bind_some hB1
   obtain ⟨hx2l, hx2u, hx2⟩ := M.idx_some hx2
   have H9 := H5.toRows
   obtain ⟨a3, c1, H10⟩ := H9.pinRow hx2
   refine Zg 6 [(1, .int .i64 n_), (2, .func (.func 112) #[] #[pV bentry0, pV bentry1, pV bentry2]), (7, .slice a1 l1.length l1.length), (8, .int .i64 i1), (13, .int .i64 (l1.length : Int)), (14, .int .i64 i1), (26, .int .i64 (x3.length : Int)), (27, .int .i64 0)] ?_ ?_
   ·refine Zb [.slice a1 l1.length l1.length, .int .i64 i1] 0 ?_
    refine Zy (.pointer (some (adr a1 (i1.toNat * 1)))) (Zi 22 24 1 (a1) (l1.length) (l1.length) .i64 (i1) Tryz.underlying22 ((H5.rd 0 rfl).cell hx2).1 hx2l (by rw [← (H5.len 0 rfl)]; exact hx2u)) ?_
    refine Zy (.slice a3 x3.length c1) (Zl 24 (adr a1 (i1.toNat * 1)) (.slice a3 x3.length c1) (H10.cellPin 0 rfl 0 rfl)) ?_
    refine Zb [.int .i64 (x3.length : Int), .int .i64 0] 4 ?_
    exact Zd [1, 2, 7, 8, 13, 14, 26, 27]
   obtain ⟨x4, gx4, hB1⟩ := M.bind_some hB1
   obtain ⟨hloy2, hhiy2, gx4⟩ := M.for_start gx4
   refine Run_join (fun L' h' => L' = [(1, .int .i64 n_), (2, .func (.func 112) #[] #[pV bentry0, pV bentry1, pV bentry2]), (7, .slice a1 l1.length l1.length), (13, .int .i64 (l1.length : Int)), (14, .int .i64 i1)] ∧ Hold h h' [own cd24 a1 l1.length l1.length x4]) ?_ ?_
   ·rintro _ h7 ⟨rfl, H12⟩
    refine Run_blk ?_
    refine Zg 2 [(1, .int .i64 n_), (2, .func (.func 112) #[] #[pV bentry0, pV bentry1, pV bentry2]), (7, .slice a1 l1.length l1.length), (13, .int .i64 (l1.length : Int)), (14, .int .i64 (i1 + 1))] ?_ ?_
    ·refine Zy (.int .i64 (i1 + 1)) (Y_eq (v := .int .i64 (w64 (i1 + 1))) (Y_pure (fun w => by kernel_rfl)) (by rw [w64_eq _ (by omega)])) ?_
     refine Zb [.int .i64 (i1 + 1)] 1 ?_
     exact Zd [1, 2, 7, 13, 14]
    have hB1 := M.ret_some hB1
    have gx1 := hgoy1 _ hB1.symm
    exact Za [1, 2, 7, 13, 14] my1 ⟨i1 + 1, x4, by omega, gx1, rfl, H12⟩
   ·refine Run_block ?_
    have H19 := H10.ofRows
    refine Zk [1, 2, 7, 8, 13, 14, 26, 27] [(1, .int .i64 n_), (2, .func (.func 112) #[] #[pV bentry0, pV bentry1, pV bentry2]), (7, .slice a1 l1.length l1.length), (8, .int .i64 i1), (13, .int .i64 (l1.length : Int)), (14, .int .i64 i1), (26, .int .i64 (x3.length : Int)), (27, .int .i64 0)] ?_
    refine Run_loop (fun m L' h' => ∃ (i2 : Int) (s2 : (List (List Int))), 0 ≤ i2 ∧ M.forN (x3.length : Int) _ _ n m i2 s2 = some x4 ∧ L' = [(1, .int .i64 n_), (2, .func (.func 112) #[] #[pV bentry0, pV bentry1, pV bentry2]), (7, .slice a1 l1.length l1.length), (8, .int .i64 i1), (13, .int .i64 (l1.length : Int)), (14, .int .i64 i1), (26, .int .i64 (x3.length : Int)), (27, .int .i64 i2)] ∧ Hold h h' [own cd24 a1 l1.length l1.length s2]) ((x3.length : Int) - 0 : Int).toNat ⟨0, l3, Int.le_refl _, gx4, rfl, H19⟩ ?_
    rintro my2 _ h6 ⟨i2, s2, hloy2', gx4, rfl, H11⟩
    refine Zs ?_
    refine Zq [.bool (decide (i2 < (x3.length : Int)))] [1, 2, 7, 8, 13, 14, 26, 27, 28] [(1, .int .i64 n_), (2, .func (.func 112) #[] #[pV bentry0, pV bentry1, pV bentry2]), (7, .slice a1 l1.length l1.length), (8, .int .i64 i1), (13, .int .i64 (l1.length : Int)), (14, .int .i64 i1), (26, .int .i64 (x3.length : Int)), (27, .int .i64 i2), (28, .bool (decide (i2 < (x3.length : Int))))] ?_
    refine Zs ?_
    refine Zc (decide (i2 < (x3.length : Int))) (fun hb2 => ?_) (fun hb2 => ?_)
    ·obtain ⟨my2, y2, rfl, hB2, hgoy2, houty2⟩ := M.for_go gx4 hb2
     have hlty2 := of_decide_eq_true hb2
     refine Run_skip ?_
     refine Zs ?_
     refine Run_block ?_
     refine Zs ?_
     refine Zq [.int .i64 i2, .int .i64 i2] [1, 2, 7, 8, 9, 13, 14, 26, 27] [(1, .int .i64 n_), (2, .func (.func 112) #[] #[pV bentry0, pV bentry1, pV bentry2]), (7, .slice a1 l1.length l1.length), (8, .int .i64 i1), (9, .int .i64 i2), (13, .int .i64 (l1.length : Int)), (14, .int .i64 i1), (26, .int .i64 (x3.length : Int)), (27, .int .i64 i2)] ?_
     obtain ⟨x5, hx3, hB2⟩ := M.bind_some hB2
     obtain ⟨hx3l, hx3u, hx3⟩ := M.idx_some hx3
     have H13 := H11.toRows
     obtain ⟨a4, c2, H14⟩ := H13.pinRow hx3
     obtain ⟨x6, hx4, hB2⟩ := M.bind_some hB2
     obtain ⟨x7, hx5, hB2⟩ := M.bind_some hB2
     obtain ⟨hx5l, hx5u, hx5⟩ := M.idx_some hx5
     refine Run_D (fun x => Hold h x [rowsP cd2 24 a1 l1.length l1.length s2 [(i1.toNat, a4, x5.length, c2, x5)]]) (fun x => Hold h x [rowsP cd2 24 a1 l1.length l1.length s2 [(i1.toNat, a4, x5.length, c2, x5)]]) mixed (by kernel_rfl) H14 Hold.stable (fun x Hy => (show Hold h x [rowsP cd2 24 a1 l1.length l1.length s2 [(i1.toNat, a4, x5.length, c2, x5)]] from Hy).pk [0]) ?_
     refine ZB 9 [.slice a1 l1.length l1.length, .int .i64 i1] 0 ?_
     refine ZY 8 2 (.pointer (some (adr a1 (i1.toNat * 1)))) (fun hx Hx => (YE.of (Zi 22 24 1 (a1) (l1.length) (l1.length) .i64 (i1) Tryz.underlying22 ((H11.rd 0 rfl).cell hx3).1 hx3l (by rw [← (H11.len 0 rfl)]; exact hx3u)))) ?_
     refine ZY 7 3 (.slice a4 x5.length c2) (fun hx Hx => (YE.of (Zl 24 (adr a1 (i1.toNat * 1)) (.slice a4 x5.length c2) (Hx.cellPin 0 rfl 0 rfl)))) ?_
     refine ZB 3 [.int .i64 i2, .func (.func 112) #[] #[pV bentry0, pV bentry1, pV bentry2], .int .i64 i1, .int .i64 i2] 4 ?_
     refine ZY 2 8 (.int .i64 x6) (fun hx Hx => (YE.of (ZQ 112 #[.int .i64 i1, .int .i64 i2, pV bentry0, pV bentry1, pV bentry2] (w_impl_criticalMatrix_1 hx i1 i2 entry0 aentry0 centry0 (rentry0.at Hx.ext) bentry0 (ventry0.at Hx.ext) entry1 aentry1 centry1 (rentry1.at Hx.ext) bentry1 (ventry1.at Hx.ext) entry2 aentry2 centry2 (rentry2.at Hx.ext) bentry2 (ventry2.at Hx.ext) _ _ hx4)))) ?_
     refine ZY 1 9 (.pointer (some (adr a4 (i2.toNat * 1)))) (fun hx Hx => (YE.of (Zi 24 2 1 (a4) (x5.length) (c2) .i64 (i2) Tryz.underlying24 ((H14.rdPin 0 rfl 0 rfl).cell hx5).1 hx5l hx5u))) ?_
     refine ZT 10 (fun h8 H15 => ?_)
     have H16 : Hold h h8 [rowsP cd2 24 a1 l1.length l1.length s2 [(i1.toNat, a4, x5.length, c2, x5)]] := H15
     obtain ⟨l4, hu2, hB2⟩ := M.bind_some hB2
     have hu2 := M.upd_some hu2
     refine Ze ?_
     refine E_put2 (C := cd2) (t := 2) (sz := 1) (j := i2) (x := x6) (v := .int .i64 x6) (m2 := s2.set i1.toNat l4) H16 cd2_flat 0 rfl (by kernel_rfl) rfl (cd2_own _) (by kernel_rfl) hu2 rfl (fun h9 H17 => ?_)
     refine Zx ?_
     refine Zk [1, 2, 7, 8, 13, 14, 26, 27] [(1, .int .i64 n_), (2, .func (.func 112) #[] #[pV bentry0, pV bentry1, pV bentry2]), (7, .slice a1 l1.length l1.length), (8, .int .i64 i1), (13, .int .i64 (l1.length : Int)), (14, .int .i64 i1), (26, .int .i64 (x3.length : Int)), (27, .int .i64 i2)] ?_
     refine Run_blk ?_
     refine Zg 2 [(1, .int .i64 n_), (2, .func (.func 112) #[] #[pV bentry0, pV bentry1, pV bentry2]), (7, .slice a1 l1.length l1.length), (8, .int .i64 i1), (13, .int .i64 (l1.length : Int)), (14, .int .i64 i1), (26, .int .i64 (x3.length : Int)), (27, .int .i64 (i2 + 1))] ?_ ?_
     ·refine Zy (.int .i64 (i2 + 1)) (Y_eq (v := .int .i64 (w64 (i2 + 1))) (Y_pure (fun w => by kernel_rfl)) (by rw [w64_eq _ (by omega)])) ?_
      refine Zb [.int .i64 (i2 + 1)] 1 ?_
      exact Zd [1, 2, 7, 8, 13, 14, 26, 27]
     have H18 := H17.ofRows
     have hB2 := M.ret_some hB2
     have gx4 := hgoy2 _ hB2.symm
     exact Za [1, 2, 7, 8, 13, 14, 26, 27] my2 ⟨i2 + 1, (s2.set i1.toNat l4), by omega, gx4, rfl, H18⟩
    ·have gx4 := M.for_end gx4 hb2
     subst gx4
     refine Run_exit (k' := _) rfl ?_
     exact Zf [1, 2, 7, 13, 14] ⟨rfl, H11⟩
  ·have gx1 := M.for_end gx1 hb1
   subst gx1
   refine Run_exit (k' := _) rfl ?_
   exact Zf [7] ⟨rfl, H2⟩

theorem w_impl_criticalMatrix (h : Heap) (a_ : List (List Int)) (aa_ : Option Addr) (ca_ : Nat) (ra_ : Rd cd24 h (Lt h) aa_ ca_ a_) (mean : TRatio) (n : Nat) (r : (List (List Int))) (hF : impl_criticalMatrix a_ mean n = some r) :
  Fn Tryz.prog 70 #[.slice aa_ a_.length ca_, .agg #[.int .i64 mean.Num, .int .i64 mean.Den]] h fun v h' => ∃ (a0 : Option Addr) (c0 : Nat), v = .slice a0 r.length c0 ∧ Hold h h' [own cd24 a0 r.length c0 r] := by
 unfold impl_criticalMatrix at hF
 refine Zo [.slice aa_ a_.length ca_, .agg #[.int .i64 mean.Num, .int .i64 mean.Den]] Tryz.func70 rfl (fun w0 _ => ?_)
 have H0 := Hold.init h
 refine Zs ?_
 refine Run_ops ?_
 refine Ze ?_
 refine E_box (ty := 22) (cs := [.slice aa_ a_.length ca_]) H0 (fun w => by kernel_rfl) (fun b1 h1 H1 => ?_)
 refine Ze ?_
 refine E_box (ty := 44) (cs := [.int .i64 mean.Num, .int .i64 mean.Den]) H1 (fun w => by kernel_rfl) (fun b2 h2 H2 => ?_)
 refine Zr [.slice none 0 0] 2 ?_
 refine Zx ?_
 refine Zk [2, 3] [(2, pV b1), (3, pV b2)] ?_
 refine Zs ?_
 refine Run_ops ?_
 refine Zz (.slice aa_ a_.length ca_) (Zl 22 (⟨b1, 0, none⟩) (.slice aa_ a_.length ca_) (H2.cell 1 rfl rfl)) ?_
 refine Zz (.agg #[.int .i64 mean.Num, .int .i64 mean.Den]) (Y_loadA (t := 44) (n := 2) (p := ⟨b2, 0, none⟩) (cs := [.int .i64 mean.Num, .int .i64 mean.Den]) (by kernel_rfl) (fun w => by kernel_rfl) (by kernel_rfl) rfl (H2.cells (n := 2) (off := 0) 0 rfl rfl)) ?_
 obtain ⟨x1, hx1, hF⟩ := M.bind_some hF
 refine Ze ?_
 refine ZC 94 #[.slice aa_ a_.length ca_, .agg #[.int .i64 mean.Num, .int .i64 mean.Den]] (w_impl_shifted h2 a_ aa_ ca_ (ra_.at H2.ext) mean _ _ hx1) (fun v1 h3 hp1 => ?_)
 obtain ⟨a1, c1, rfl, H3⟩ := hp1
 have H4 : Hold h h3 [own cd24 a1 x1.length c1 x1, box b2 44 [.int .i64 mean.Num, .int .i64 mean.Den], box b1 22 [.slice aa_ a_.length ca_]] := H2.call H3 rfl
 refine Ze ?_
 refine E_box (ty := 22) (cs := [.slice none 0 0]) H4 (fun w => by kernel_rfl) (fun b3 h4 H5 => ?_)
 refine Ze ?_
 refine ZP 22 0 [.slice a1 x1.length c1] (.slice a1 x1.length c1) H5 (fun h5 H6 => ?_)
 refine Zx ?_
 refine Zk [2, 5] [(2, pV b1), (5, pV b3)] ?_
 refine Zs ?_
 refine Run_ops ?_
 refine Zz (.slice a1 x1.length c1) (Zl 22 (⟨b3, 0, none⟩) (.slice a1 x1.length c1) (H6.cell 0 rfl rfl)) ?_
 obtain ⟨x2, hx2, hF⟩ := M.bind_some hF
 refine Ze ?_
 refine ZC 93 #[.slice a1 x1.length c1] (w_impl_starOf h5 x1 a1 c1 (H6.rd 1 rfl) _ _ hx2) (fun v2 h6 hp2 => ?_)
 obtain ⟨a2, c2, rfl, H7⟩ := hp2
 have H8 : Hold h h6 [own cd24 a2 x2.1.length c2 x2.1, box b3 22 [.slice a1 x1.length c1], own cd24 a1 x1.length c1 x1, box b2 44 [.int .i64 mean.Num, .int .i64 mean.Den], box b1 22 [.slice aa_ a_.length ca_]] := H6.call H7 rfl
 refine Zr [.tuple #[.slice a2 x2.1.length c2, .bool x2.2], .slice a2 x2.1.length c2, .bool x2.2] 2 ?_
 refine Ze ?_
 refine E_box (ty := 22) (cs := [.slice none 0 0]) H8 (fun w => by kernel_rfl) (fun b4 h7 H9 => ?_)
 refine Ze ?_
 refine ZP 22 0 [.slice a2 x2.1.length c2] (.slice a2 x2.1.length c2) H9 (fun h8 H10 => ?_)
 refine Zr [.bool x2.2] 7 ?_
 refine Zx ?_
 refine Zk [2, 5, 6] [(2, pV b1), (5, pV b3), (6, pV b4)] ?_
 refine Zs ?_
 refine Run_ops ?_
 refine Zz (.slice aa_ a_.length ca_) (Zl 22 (⟨b1, 0, none⟩) (.slice aa_ a_.length ca_) (H10.cell 5 rfl rfl)) ?_
 refine Zr [.int .i64 (a_.length : Int)] 1 ?_
 refine Zz (.slice aa_ a_.length ca_) (Zl 22 (⟨b1, 0, none⟩) (.slice aa_ a_.length ca_) (H10.cell 5 rfl rfl)) ?_
 refine Zr [.int .i64 (a_.length : Int), .func (.func 112) #[] #[pV b3, pV b4, pV b1]] 3 ?_
 obtain ⟨x3, hx3, hF⟩ := M.bind_some hF
 refine Ze ?_
 refine ZC 109 #[.int .i64 (a_.length : Int), .int .i64 (a_.length : Int), .func (.func 112) #[] #[pV b3, pV b4, pV b1]] (w_impl_matrixBy_F_impl_criticalMatrix_1 h8 (a_.length : Int) (a_.length : Int) x1 a1 c1 (H10.rd 3 rfl) b3 (H10.var 2 rfl) x2.1 a2 c2 (H10.rd 1 rfl) b4 (H10.var 0 rfl) a_ aa_ ca_ (ra_.at H10.ext) b1 (H10.var 5 rfl) _ _ hx3) (fun v3 h9 hp3 => ?_)
 obtain ⟨a3, c3, rfl, H11⟩ := hp3
 have H12 : Hold h h9 [own cd24 a3 x3.length c3 x3, box b4 22 [.slice a2 x2.1.length c2], own cd24 a2 x2.1.length c2 x2.1, box b3 22 [.slice a1 x1.length c1], own cd24 a1 x1.length c1 x1, box b2 44 [.int .i64 mean.Num, .int .i64 mean.Den], box b1 22 [.slice aa_ a_.length ca_]] := H10.call H11 rfl
 refine Zr [.slice a3 x3.length c3] 6 ?_
 refine Zx ?_
 refine Zk [4] [(4, .slice a3 x3.length c3)] ?_
 have hF := M.ret_some hF
 subst hF
 have H13 : Hold h h9 [own cd24 a3 x3.length c3 x3] := H12.pk [0]
 exact Run_ret1 rfl (Zt (.slice a3 x3.length c3)) ⟨a3, c3, rfl, H13⟩

theorem w_impl_criticalOf (h : Heap) (a_ : List (List Int)) (aa_ : Option Addr) (ca_ : Nat) (ra_ : Rd cd24 h (Lt h) aa_ ca_ a_) (n : Nat) (r : (List (List Int)) × Int) (hF : impl_criticalOf a_ n = some r) :
  Fn Tryz.prog 38 #[.slice aa_ a_.length ca_] h fun v h' => ∃ (a0 : Option Addr) (c0 : Nat), v = .tuple #[.slice a0 r.1.length c0, .int .i64 r.2] ∧ Hold h h' [own cd24 a0 r.1.length c0 r.1] := by
 unfold impl_criticalOf at hF
 refine Zo [.slice aa_ a_.length ca_] Tryz.func38 rfl (fun w0 _ => ?_)
 have H0 := Hold.init h
 refine Zs ?_
 refine Zq [.slice none 0 0, .int .i64 0] [0] [(0, .slice aa_ a_.length ca_)] ?_
 refine Zs ?_
 refine Zs ?_
 obtain ⟨x1, hx1, hF⟩ := M.bind_some hF
 refine Run_regC (j := 3) (C := fun x => Hold h x []) (by kernel_rfl) H0 (L' := [(0, .slice aa_ a_.length ca_), (8, .bool (!x1))]) ?_ (fun h1 H1 => ?_)
 ·refine Zb [.slice aa_ a_.length ca_] 0 ?_
  refine Zy (.bool x1) (Y_call (f := 50) (args := #[.slice aa_ a_.length ca_]) (v := .bool x1) (by kernel_rfl) fun hx Hx => (w_impl_isSquare hx a_ aa_ ca_ (ra_.at Hx.ext) _ _ hx1).mono fun _ _ ⟨e, H'⟩ => ⟨e, Hx.call H' rfl⟩) ?_
  refine Zb [.bool (!x1)] 2 ?_
  exact Zd [0, 8]
 have H2 : Hold h h1 [] := H1
 refine Zc (!x1) (fun hb1 => ?_) (fun hb1 => ?_)
 ·have hF := (M.ite_some hF).1 hb1
  refine Zs ?_
  refine Zq [.slice none 0 0, .int .i64 1] [2, 3] [(2, .slice none 0 0), (3, .int .i64 1)] ?_
  have hF := M.ret_some hF
  subst hF
  have H3 := H2.empty cd24
  exact Run_ret2 rfl (Zt (.slice none 0 0)) (Zt (.int .i64 1)) ⟨none, 0, rfl, H3⟩
 ·have hF := (M.ite_some hF).2 hb1
  refine Run_skip ?_
  refine Zs ?_
  refine Run_ops ?_
  refine Zr [.slice aa_ a_.length ca_] 0 ?_
  obtain ⟨x2, hx2, hF⟩ := M.bind_some hF
  refine Ze ?_
  refine ZC 51 #[.slice aa_ a_.length ca_] (w_impl_cycleMean h1 a_ aa_ ca_ (ra_.at H2.ext) _ _ hx2) (fun v1 h2 hp1 => ?_)
  obtain ⟨rfl, H4⟩ := hp1
  have H5 : Hold h h2 [] := H2.call H4 rfl
  refine Zr [.tuple #[.agg #[.int .i64 x2.1.Num, .int .i64 x2.1.Den], .bool x2.2], .agg #[.int .i64 x2.1.Num, .int .i64 x2.1.Den], .bool x2.2] 2 ?_
  refine Ze ?_
  refine E_box (ty := 44) (cs := [.int .i64 0, .int .i64 0]) H5 (fun w => by kernel_rfl) (fun b1 h3 H6 => ?_)
  refine Ze ?_
  refine ZP 44 0 [.int .i64 x2.1.Num, .int .i64 x2.1.Den] (.agg #[.int .i64 x2.1.Num, .int .i64 x2.1.Den]) H6 (fun h4 H7 => ?_)
  refine Zr [.bool x2.2] 7 ?_
  refine Zx ?_
  refine Zk [0, 4, 5] [(0, .slice aa_ a_.length ca_), (4, pV b1), (5, .bool x2.2)] ?_
  refine Zs ?_
  refine Zs ?_
  refine Zq [.bool x2.2, .bool (!x2.2)] [0, 4, 15] [(0, .slice aa_ a_.length ca_), (4, pV b1), (15, .bool (!x2.2))] ?_
  refine Zc (!x2.2) (fun hb2 => ?_) (fun hb2 => ?_)
  ·have hF := (M.ite_some hF).1 hb2
   refine Zs ?_
   refine Zq [.slice none 0 0, .int .i64 4] [2, 3] [(2, .slice none 0 0), (3, .int .i64 4)] ?_
   have hF := M.ret_some hF
   subst hF
   have H8 := H7.empty cd24
   have H9 : Hold h h4 [own cd24 none 0 0 []] := H8.pk [0]
   exact Run_ret2 rfl (Zt (.slice none 0 0)) (Zt (.int .i64 4)) ⟨none, 0, rfl, H9⟩
  ·have hF := (M.ite_some hF).2 hb2
   refine Run_skip ?_
   refine Zs ?_
   refine Run_ops ?_
   refine Zr [.slice aa_ a_.length ca_] 0 ?_
   refine Zz (.agg #[.int .i64 x2.1.Num, .int .i64 x2.1.Den]) (Y_loadA (t := 44) (n := 2) (p := ⟨b1, 0, none⟩) (cs := [.int .i64 x2.1.Num, .int .i64 x2.1.Den]) (by kernel_rfl) (fun w => by kernel_rfl) (by kernel_rfl) rfl (H7.cells (n := 2) (off := 0) 0 rfl rfl)) ?_
   obtain ⟨x3, hx3, hF⟩ := M.bind_some hF
   refine Ze ?_
   refine ZC 70 #[.slice aa_ a_.length ca_, .agg #[.int .i64 x2.1.Num, .int .i64 x2.1.Den]] (w_impl_criticalMatrix h4 a_ aa_ ca_ (ra_.at H7.ext) x2.1 _ _ hx3) (fun v2 h5 hp2 => ?_)
   obtain ⟨a1, c1, rfl, H10⟩ := hp2
   have H11 : Hold h h5 [own cd24 a1 x3.length c1 x3, box b1 44 [.int .i64 x2.1.Num, .int .i64 x2.1.Den]] := H7.call H10 rfl
   refine Zr [.slice a1 x3.length c1, .int .i64 0] 3 ?_
   refine Zx ?_
   refine Zk [2, 3] [(2, .slice a1 x3.length c1), (3, .int .i64 0)] ?_
   have hF := M.ret_some hF
   subst hF
   have H12 : Hold h h5 [own cd24 a1 x3.length c1 x3] := H11.pk [0]
   exact Run_ret2 rfl (Zt (.slice a1 x3.length c1)) (Zt (.int .i64 0)) ⟨a1, c1, rfl, H12⟩

theorem w_impl_reaching (h : Heap) (a_ : List (List Int)) (aa_ : Option Addr) (ca_ : Nat) (ra_ : Rd cd24 h (Lt h) aa_ ca_ a_) (n : Nat) (r : (List (List Bool))) (hF : impl_reaching a_ n = some r) :
  Fn Tryz.prog 114 #[.slice aa_ a_.length ca_] h fun v h' => ∃ (a0 : Option Addr) (c0 : Nat), v = .slice a0 r.length c0 ∧ Hold h h' [own cd101 a0 r.length c0 r] := by
 unfold impl_reaching at hF
 refine Zo [.slice aa_ a_.length ca_] Tryz.func114 rfl (fun w0 _ => ?_)
 have H0 := Hold.init h
 refine Zs ?_
 refine Zq [.slice none 0 0] [0] [(0, .slice aa_ a_.length ca_)] ?_
 refine Zs ?_
 refine Zq [.slice aa_ a_.length ca_, .int .i64 (a_.length : Int), .int .i64 (a_.length : Int)] [0, 3] [(0, .slice aa_ a_.length ca_), (3, .int .i64 (a_.length : Int))] ?_
 refine Zs ?_
 refine Run_ops ?_
 refine Zr [.int .i64 (a_.length : Int)] 0 ?_
 obtain ⟨l1, hl1, hF⟩ := M.bind_some hF
 have hl1 := M.make_some hl1
 refine Ze ?_
 refine E_make cd101 [] (kl := .i64) (kc := .i64) H0 cd101_ti Tryz.underlying99 (by decide) cd101_zero (by kernel_rfl) hl1 (fun a1 h1 H1 => ?_)
 refine Zr [.slice a1 l1.length l1.length] 2 ?_
 refine Zx ?_
 refine Zk [0, 3, 4] [(0, .slice aa_ a_.length ca_), (3, .int .i64 (a_.length : Int)), (4, .slice a1 l1.length l1.length)] ?_
 refine Zs ?_
 refine Zs ?_
 refine Zq [.slice a1 l1.length l1.length, .int .i64 (l1.length : Int), .int .i64 0] [0, 3, 4, 15, 16] [(0, .slice aa_ a_.length ca_), (3, .int .i64 (a_.length : Int)), (4, .slice a1 l1.length l1.length), (15, .int .i64 (l1.length : Int)), (16, .int .i64 0)] ?_
 obtain ⟨x1, gx1, hF⟩ := M.bind_some hF
 obtain ⟨hloy1, hhiy1, gx1⟩ := M.for_start gx1
 refine Run_join (fun L' h' => L' = [(3, .int .i64 (a_.length : Int)), (4, .slice a1 l1.length l1.length)] ∧ Hold h h' [own cd101 a1 l1.length l1.length x1]) ?_ ?_
 ·rintro _ h3 ⟨rfl, H3⟩
  refine Zs ?_
  refine Zs ?_
  refine Zq [.int .i64 (a_.length : Int), .int .i64 0] [3, 4, 49, 50] [(3, .int .i64 (a_.length : Int)), (4, .slice a1 l1.length l1.length), (49, .int .i64 (a_.length : Int)), (50, .int .i64 0)] ?_
  obtain ⟨x9, gx9, hF⟩ := M.bind_some hF
  obtain ⟨hloy3, hhiy3, gx9⟩ := M.for_start gx9
  refine Run_join (fun L' h' => L' = [(4, .slice a1 l1.length l1.length)] ∧ Hold h h' [own cd101 a1 l1.length l1.length x9]) ?_ ?_
  ·rintro _ h14 ⟨rfl, H23⟩
   refine Zs ?_
   refine Zq [.slice a1 l1.length l1.length, .slice a1 l1.length l1.length] [2] [(2, .slice a1 l1.length l1.length)] ?_
   have hF := M.ret_some hF
   subst hF
   have H45 := H23.norm
   exact Run_ret1 rfl (Zt (.slice a1 l1.length l1.length)) ⟨a1, l1.length, (by simp only [(H23.len 0 rfl)]), H45⟩
  ·refine Run_block ?_
   refine Zk [3, 4, 49, 50] [(3, .int .i64 (a_.length : Int)), (4, .slice a1 l1.length l1.length), (49, .int .i64 (a_.length : Int)), (50, .int .i64 0)] ?_
   refine Run_loop (fun m L' h' => ∃ (i3 : Int) (s4 : (List (List Bool))), 0 ≤ i3 ∧ M.forN (a_.length : Int) _ _ n m i3 s4 = some x9 ∧ L' = [(3, .int .i64 (a_.length : Int)), (4, .slice a1 l1.length l1.length), (49, .int .i64 (a_.length : Int)), (50, .int .i64 i3)] ∧ Hold h h' [own cd101 a1 l1.length l1.length s4]) ((a_.length : Int) - 0 : Int).toNat ⟨0, x1, Int.le_refl _, gx9, rfl, H3⟩ ?_
   rintro my3 _ h13 ⟨i3, s4, hloy3', gx9, rfl, H22⟩
   refine Zs ?_
   refine Zq [.bool (decide (i3 < (a_.length : Int)))] [3, 4, 49, 50, 51] [(3, .int .i64 (a_.length : Int)), (4, .slice a1 l1.length l1.length), (49, .int .i64 (a_.length : Int)), (50, .int .i64 i3), (51, .bool (decide (i3 < (a_.length : Int))))] ?_
   refine Zs ?_
   refine Zc (decide (i3 < (a_.length : Int))) (fun hb4 => ?_) (fun hb4 => ?_)
   ·obtain ⟨my3, y3, rfl, hB3, hgoy3, houty3⟩ := M.for_go gx9 hb4
    have hlty3 := of_decide_eq_true hb4
    refine Run_skip ?_
    refine Zs ?_
    refine Run_block ?_
    refine Zs ?_
    refine Zq [.int .i64 i3, .int .i64 i3] [3, 4, 7, 49, 50] [(3, .int .i64 (a_.length : Int)), (4, .slice a1 l1.length l1.length), (7, .int .i64 i3), (49, .int .i64 (a_.length : Int)), (50, .int .i64 i3)] ?_
    refine Zs ?_
    refine Zq [.int .i64 (a_.length : Int), .int .i64 0] [3, 4, 7, 49, 50, 53, 54] [(3, .int .i64 (a_.length : Int)), (4, .slice a1 l1.length l1.length), (7, .int .i64 i3), (49, .int .i64 (a_.length : Int)), (50, .int .i64 i3), (53, .int .i64 (a_.length : Int)), (54, .int .i64 0)] ?_
    obtain ⟨x10, gx10, hB3⟩ := M.bind_some hB3
    obtain ⟨hloy4, hhiy4, gx10⟩ := M.for_start gx10
    refine Run_join (fun L' h' => L' = [(3, .int .i64 (a_.length : Int)), (4, .slice a1 l1.length l1.length), (49, .int .i64 (a_.length : Int)), (50, .int .i64 i3)] ∧ Hold h h' [own cd101 a1 l1.length l1.length x10]) ?_ ?_
    ·rintro _ h16 ⟨rfl, H25⟩
     refine Run_blk ?_
     refine Zg 2 [(3, .int .i64 (a_.length : Int)), (4, .slice a1 l1.length l1.length), (49, .int .i64 (a_.length : Int)), (50, .int .i64 (i3 + 1))] ?_ ?_
     ·refine Zy (.int .i64 (i3 + 1)) (Y_eq (v := .int .i64 (w64 (i3 + 1))) (Y_pure (fun w => by kernel_rfl)) (by rw [w64_eq _ (by omega)])) ?_
      refine Zb [.int .i64 (i3 + 1)] 1 ?_
      exact Zd [3, 4, 49, 50]
     have hB3 := M.ret_some hB3
     have gx9 := hgoy3 _ hB3.symm
     exact Za [3, 4, 49, 50] my3 ⟨i3 + 1, x10, by omega, gx9, rfl, H25⟩
    ·refine Run_block ?_
     refine Zk [3, 4, 7, 49, 50, 53, 54] [(3, .int .i64 (a_.length : Int)), (4, .slice a1 l1.length l1.length), (7, .int .i64 i3), (49, .int .i64 (a_.length : Int)), (50, .int .i64 i3), (53, .int .i64 (a_.length : Int)), (54, .int .i64 0)] ?_
     refine Run_loop (fun m L' h' => ∃ (i4 : Int) (s5 : (List (List Bool))), 0 ≤ i4 ∧ M.forN (a_.length : Int) _ _ n m i4 s5 = some x10 ∧ L' = [(3, .int .i64 (a_.length : Int)), (4, .slice a1 l1.length l1.length), (7, .int .i64 i3), (49, .int .i64 (a_.length : Int)), (50, .int .i64 i3), (53, .int .i64 (a_.length : Int)), (54, .int .i64 i4)] ∧ Hold h h' [own cd101 a1 l1.length l1.length s5]) ((a_.length : Int) - 0 : Int).toNat ⟨0, s4, Int.le_refl _, gx10, rfl, H22⟩ ?_
     rintro my4 _ h15 ⟨i4, s5, hloy4', gx10, rfl, H24⟩
     refine Zs ?_
     refine Zq [.bool (decide (i4 < (a_.length : Int)))] [3, 4, 7, 49, 50, 53, 54, 55] [(3, .int .i64 (a_.length : Int)), (4, .slice a1 l1.length l1.length), (7, .int .i64 i3), (49, .int .i64 (a_.length : Int)), (50, .int .i64 i3), (53, .int .i64 (a_.length : Int)), (54, .int .i64 i4), (55, .bool (decide (i4 < (a_.length : Int))))] ?_
     refine Zs ?_
     refine Zc (decide (i4 < (a_.length : Int))) (fun hb5 => ?_) (fun hb5 => ?_)
     ·obtain ⟨my4, y4, rfl, hB4, hgoy4, houty4⟩ := M.for_go gx10 hb5
      have hlty4 := of_decide_eq_true hb5
      refine Run_skip ?_
      refine Zs ?_
      refine Run_block ?_
      refine Zs ?_
      refine Zq [.int .i64 i4, .int .i64 i4] [3, 4, 7, 8, 49, 50, 53, 54] [(3, .int .i64 (a_.length : Int)), (4, .slice a1 l1.length l1.length), (7, .int .i64 i3), (8, .int .i64 i4), (49, .int .i64 (a_.length : Int)), (50, .int .i64 i3), (53, .int .i64 (a_.length : Int)), (54, .int .i64 i4)] ?_
      refine Zs ?_
      refine Zq [.int .i64 (a_.length : Int), .int .i64 0] [3, 4, 7, 8, 49, 50, 53, 54, 57, 58] [(3, .int .i64 (a_.length : Int)), (4, .slice a1 l1.length l1.length), (7, .int .i64 i3), (8, .int .i64 i4), (49, .int .i64 (a_.length : Int)), (50, .int .i64 i3), (53, .int .i64 (a_.length : Int)), (54, .int .i64 i4), (57, .int .i64 (a_.length : Int)), (58, .int .i64 0)] ?_
      obtain ⟨x11, gx11, hB4⟩ := M.bind_some hB4
      obtain ⟨hloy5, hhiy5, gx11⟩ := M.for_start gx11
      refine Run_join (fun L' h' => L' = [(3, .int .i64 (a_.length : Int)), (4, .slice a1 l1.length l1.length), (7, .int .i64 i3), (49, .int .i64 (a_.length : Int)), (50, .int .i64 i3), (53, .int .i64 (a_.length : Int)), (54, .int .i64 i4)] ∧ Hold h h' [own cd101 a1 l1.length l1.length x11]) ?_ ?_
      ·rintro _ h18 ⟨rfl, H27⟩
       refine Run_blk ?_
       refine Zg 2 [(3, .int .i64 (a_.length : Int)), (4, .slice a1 l1.length l1.length), (7, .int .i64 i3), (49, .int .i64 (a_.length : Int)), (50, .int .i64 i3), (53, .int .i64 (a_.length : Int)), (54, .int .i64 (i4 + 1))] ?_ ?_
       ·refine Zy (.int .i64 (i4 + 1)) (Y_eq (v := .int .i64 (w64 (i4 + 1))) (Y_pure (fun w => by kernel_rfl)) (by rw [w64_eq _ (by omega)])) ?_
        refine Zb [.int .i64 (i4 + 1)] 1 ?_
        exact Zd [3, 4, 7, 49, 50, 53, 54]
       have hB4 := M.ret_some hB4
       have gx10 := hgoy4 _ hB4.symm
       exact Za [3, 4, 7, 49, 50, 53, 54] my4 ⟨i4 + 1, x11, by omega, gx10, rfl, H27⟩
      ·refine Run_block ?_
       refine Zk [3, 4, 7, 8, 49, 50, 53, 54, 57, 58] [(3, .int .i64 (a_.length : Int)), (4, .slice a1 l1.length l1.length), (7, .int .i64 i3), (8, .int .i64 i4), (49, .int .i64 (a_.length : Int)), (50, .int .i64 i3), (53, .int .i64 (a_.length : Int)), (54, .int .i64 i4), (57, .int .i64 (a_.length : Int)), (58, .int .i64 0)] ?_
       refine Run_loop (fun m L' h' => ∃ (i5 : Int) (s6 : (List (List Bool))), 0 ≤ i5 ∧ M.forN (a_.length : Int) _ _ n m i5 s6 = some x11 ∧ L' = [(3, .int .i64 (a_.length : Int)), (4, .slice a1 l1.length l1.length), (7, .int .i64 i3), (8, .int .i64 i4), (49, .int .i64 (a_.length : Int)), (50, .int .i64 i3), (53, .int .i64 (a_.length : Int)), (54, .int .i64 i4), (57, .int .i64 (a_.length : Int)), (58, .int .i64 i5)] ∧ Hold h h' [own cd101 a1 l1.length l1.length s6]) ((a_.length : Int) - 0 : Int).toNat ⟨0, s5, Int.le_refl _, gx11, rfl, H24⟩ ?_
       rintro my5 _ h17 ⟨i5, s6, hloy5', gx11, rfl, H26⟩
       refine Zs ?_
       refine Zq [.bool (decide (i5 < (a_.length : Int)))] [3, 4, 7, 8, 49, 50, 53, 54, 57, 58, 59] [(3, .int .i64 (a_.length : Int)), (4, .slice a1 l1.length l1.length), (7, .int .i64 i3), (8, .int .i64 i4), (49, .int .i64 (a_.length : Int)), (50, .int .i64 i3), (53, .int .i64 (a_.length : Int)), (54, .int .i64 i4), (57, .int .i64 (a_.length : Int)), (58, .int .i64 i5), (59, .bool (decide (i5 < (a_.length : Int))))] ?_
       refine Zs ?_
       refine Zc (decide (i5 < (a_.length : Int))) (fun hb6 => ?_) (fun hb6 => ?_)
       ·obtain ⟨my5, y5, rfl, hB5, hgoy5, houty5⟩ := M.for_go gx11 hb6
        have hlty5 := of_decide_eq_true hb6
        refine Run_skip ?_
        refine Zs ?_
        refine Run_block ?_
        refine Zs ?_
        refine Zq [.int .i64 i5, .int .i64 i5] [3, 4, 7, 8, 9, 49, 50, 53, 54, 57, 58] [(3, .int .i64 (a_.length : Int)), (4, .slice a1 l1.length l1.length), (7, .int .i64 i3), (8, .int .i64 i4), (9, .int .i64 i5), (49, .int .i64 (a_.length : Int)), (50, .int .i64 i3), (53, .int .i64 (a_.length : Int)), (54, .int .i64 i4), (57, .int .i64 (a_.length : Int)), (58, .int .i64 i5)] ?_
        obtain ⟨s7, gs7, hB5⟩ := M.bind_some hB5
        refine Run_join (fun L' h' => L' = [(3, .int .i64 (a_.length : Int)), (4, .slice a1 l1.length l1.length), (7, .int .i64 i3), (8, .int .i64 i4), (49, .int .i64 (a_.length : Int)), (50, .int .i64 i3), (53, .int .i64 (a_.length : Int)), (54, .int .i64 i4), (57, .int .i64 (a_.length : Int)), (58, .int .i64 i5)] ∧ Hold h h' [own cd101 a1 l1.length l1.length s7]) ?_ ?_
        ·rintro _ h25 ⟨rfl, H41⟩
         refine Run_blk ?_
         refine Zg 2 [(3, .int .i64 (a_.length : Int)), (4, .slice a1 l1.length l1.length), (7, .int .i64 i3), (8, .int .i64 i4), (49, .int .i64 (a_.length : Int)), (50, .int .i64 i3), (53, .int .i64 (a_.length : Int)), (54, .int .i64 i4), (57, .int .i64 (a_.length : Int)), (58, .int .i64 (i5 + 1))] ?_ ?_
         ·refine Zy (.int .i64 (i5 + 1)) (Y_eq (v := .int .i64 (w64 (i5 + 1))) (Y_pure (fun w => by kernel_rfl)) (by rw [w64_eq _ (by omega)])) ?_
          refine Zb [.int .i64 (i5 + 1)] 1 ?_
          exact Zd [3, 4, 7, 8, 49, 50, 53, 54, 57, 58]
         have hB5 := M.ret_some hB5
         have gx11 := hgoy5 _ hB5.symm
         exact Za [3, 4, 7, 8, 49, 50, 53, 54, 57, 58] my5 ⟨i5 + 1, s7, by omega, gx11, rfl, H41⟩
        ·obtain ⟨x12, hx7, gs7⟩ := M.bind_some gs7
         obtain ⟨hx7l, hx7u, hx7⟩ := M.idx_some hx7
         have H28 := H26.toRows
         obtain ⟨a5, c3, H29⟩ := H28.pinRow hx7
         obtain ⟨x13, hx8, gs7⟩ := M.bind_some gs7
         obtain ⟨hx8l, hx8u, hx8⟩ := M.idx_some hx8
         obtain ⟨a6, c4, H30⟩ := H29.pinRow hx8
         obtain ⟨x14, hx9, gs7⟩ := M.bind_some gs7
         obtain ⟨hx9l, hx9u, hx9⟩ := M.idx_some hx9
         obtain ⟨a7, c5, H31⟩ := H30.pinRow hx9
         obtain ⟨x15, hx10, gs7⟩ := M.bind_some gs7
         obtain ⟨hx10l, hx10u, hx10⟩ := M.idx_some hx10
         refine Run_D (fun x => Hold h x [rowsP cd4 101 a1 l1.length l1.length s6 [(i4.toNat, a7, x14.length, c5, x14), (i4.toNat, a6, x13.length, c4, x13), (i3.toNat, a5, x12.length, c3, x12)]]) (fun x => Hold h x [rowsP cd4 101 a1 l1.length l1.length s6 [(i4.toNat, a7, x14.length, c5, x14), (i4.toNat, a6, x13.length, c4, x13), (i3.toNat, a5, x12.length, c3, x12)]]) mixed (by kernel_rfl) H31 Hold.stable (fun x Hy => (show Hold h x [rowsP cd4 101 a1 l1.length l1.length s6 [(i4.toNat, a7, x14.length, c5, x14), (i4.toNat, a6, x13.length, c4, x13), (i3.toNat, a5, x12.length, c3, x12)]] from Hy).pk [0]) ?_
         refine ZB 30 [.slice a1 l1.length l1.length, .int .i64 i4] 0 ?_
         refine ZY 29 2 (.pointer (some (adr a1 (i4.toNat * 1)))) (fun hx Hx => (YE.of (Zi 99 101 1 (a1) (l1.length) (l1.length) .i64 (i4) Tryz.underlying99 ((H29.rdRows 0 rfl).cell hx8).1 hx8l (by rw [← (H29.lenRows 0 rfl)]; exact hx8u)))) ?_
         refine ZY 28 3 (.slice a6 x13.length c4) (fun hx Hx => (YE.of (Zl 101 (adr a1 (i4.toNat * 1)) (.slice a6 x13.length c4) (Hx.cellPin 0 rfl 1 rfl)))) ?_
         refine ZB 25 [.int .i64 i5, .slice a1 l1.length l1.length, .int .i64 i4] 4 ?_
         refine ZY 24 7 (.pointer (some (adr a1 (i4.toNat * 1)))) (fun hx Hx => (YE.of (Zi 99 101 1 (a1) (l1.length) (l1.length) .i64 (i4) Tryz.underlying99 ((H30.rdRows 0 rfl).cell hx9).1 hx9l (by rw [← (H30.lenRows 0 rfl)]; exact hx9u)))) ?_
         refine ZY 23 8 (.slice a7 x14.length c5) (fun hx Hx => (YE.of (Zl 101 (adr a1 (i4.toNat * 1)) (.slice a7 x14.length c5) (Hx.cellPin 0 rfl 0 rfl)))) ?_
         refine ZB 22 [.int .i64 i5] 9 ?_
         refine ZY 21 10 (.pointer (some (adr a7 (i5.toNat * 1)))) (fun hx Hx => (YE.of (Zi 101 4 1 (a7) (x14.length) (c5) .i64 (i5) Tryz.underlying101 ((H31.rdPin 0 rfl 0 rfl).cell hx10).1 hx10l hx10u))) ?_
         refine ZY 20 11 (.bool x15) (fun hx Hx => (YE.of (Zl 4 (adr a7 (i5.toNat * 1)) (.bool x15) (cd4_cell (Hx.rdPin 0 rfl 0 rfl) hx10)))) ?_
         rcases Bool.eq_false_or_eq_true x15 with hb7 | hb7
         ·have gs7 := (M.ite_some gs7).1 hb7
          refine ZL 19 12 x15 true hb7 ?_
          obtain ⟨x16, hx11, gs7⟩ := M.bind_some gs7
          obtain ⟨hx11l, hx11u, hx11⟩ := M.idx_some hx11
          refine ZN 18 13 ?_
          refine ZN 17 14 ?_
          refine ZN 16 15 ?_
          refine ZN 15 16 ?_
          refine ZN 14 17 ?_
          refine ZN 13 18 ?_
          refine ZN 12 19 ?_
          refine ZN 11 20 ?_
          refine ZN 10 21 ?_
          refine ZN 9 22 ?_
          refine ZN 8 23 ?_
          refine ZN 7 24 ?_
          refine ZN 6 25 ?_
          refine ZN 5 26 ?_
          refine ZN 4 27 ?_
          refine ZN 3 28 ?_
          refine ZB 2 [.bool true] 29 ?_
          refine ZY 1 30 (.pointer (some (adr a6 (i5.toNat * 1)))) (fun hx Hx => (YE.of (Zi 101 4 1 (a6) (x13.length) (c4) .i64 (i5) Tryz.underlying101 ((H31.rdPin 0 rfl 1 rfl).cell hx11).1 hx11l hx11u))) ?_
          refine ZT 31 (fun h19 H32 => ?_)
          have H33 : Hold h h19 [rowsP cd4 101 a1 l1.length l1.length s6 [(i4.toNat, a7, x14.length, c5, x14), (i4.toNat, a6, x13.length, c4, x13), (i3.toNat, a5, x12.length, c3, x12)]] := H32
          obtain ⟨l6, hu4, gs7⟩ := M.bind_some gs7
          have hu4 := M.upd_some hu4
          refine Ze ?_
          refine E_put2 (C := cd4) (t := 4) (sz := 1) (j := i5) (x := true) (v := .bool true) (m2 := s6.set i4.toNat l6) H33 cd4_flat 1 rfl (by kernel_rfl) rfl (cd4_own _) (by kernel_rfl) hu4 rfl (fun h20 H34 => ?_)
          refine Zx ?_
          refine Zk [3, 4, 7, 8, 49, 50, 53, 54, 57, 58] [(3, .int .i64 (a_.length : Int)), (4, .slice a1 l1.length l1.length), (7, .int .i64 i3), (8, .int .i64 i4), (49, .int .i64 (a_.length : Int)), (50, .int .i64 i3), (53, .int .i64 (a_.length : Int)), (54, .int .i64 i4), (57, .int .i64 (a_.length : Int)), (58, .int .i64 i5)] ?_
          have H42 := H34.ofRows
          have gs7 := M.ret_some gs7
          subst gs7
          exact Zf [3, 4, 7, 8, 49, 50, 53, 54, 57, 58] ⟨rfl, H42⟩
         ·have gs7 := (M.ite_some gs7).2 hb7
          refine ZL 19 12 x15 false hb7 ?_
          obtain ⟨x17, hx12, gs7⟩ := M.bind_some gs7
          obtain ⟨hx12l, hx12u, hx12⟩ := M.idx_some hx12
          refine ZB 17 [.slice a1 l1.length l1.length, .int .i64 i4] 13 ?_
          refine ZY 16 15 (.pointer (some (adr a1 (i4.toNat * 1)))) (fun hx Hx => (YE.of (Zi 99 101 1 (a1) (l1.length) (l1.length) .i64 (i4) Tryz.underlying99 ((H31.rdRows 0 rfl).cell hx9).1 hx9l (by rw [← (H31.lenRows 0 rfl)]; exact hx9u)))) ?_
          refine ZY 15 16 (.slice a7 x14.length c5) (fun hx Hx => (YE.of (Zl 101 (adr a1 (i4.toNat * 1)) (.slice a7 x14.length c5) (Hx.cellPin 0 rfl 0 rfl)))) ?_
          refine ZB 14 [.int .i64 i3] 17 ?_
          refine ZY 13 18 (.pointer (some (adr a7 (i3.toNat * 1)))) (fun hx Hx => (YE.of (Zi 101 4 1 (a7) (x14.length) (c5) .i64 (i3) Tryz.underlying101 ((H31.rdPin 0 rfl 0 rfl).cell hx12).1 hx12l hx12u))) ?_
          refine ZY 12 19 (.bool x17) (fun hx Hx => (YE.of (Zl 4 (adr a7 (i3.toNat * 1)) (.bool x17) (cd4_cell (Hx.rdPin 0 rfl 0 rfl) hx12)))) ?_
          rcases Bool.eq_false_or_eq_true x17 with hb8 | hb8
          ·have gs7 := (M.ite_some gs7).1 hb8
           refine ZL 11 20 x17 true hb8 ?_
           obtain ⟨x18, hx13, gs7⟩ := M.bind_some gs7
           obtain ⟨hx13l, hx13u, hx13⟩ := M.idx_some hx13
           obtain ⟨x19, hx14, gs7⟩ := M.bind_some gs7
           obtain ⟨hx14l, hx14u, hx14⟩ := M.idx_some hx14
           refine ZB 9 [.slice a1 l1.length l1.length, .int .i64 i3] 21 ?_
           refine ZY 8 23 (.pointer (some (adr a1 (i3.toNat * 1)))) (fun hx Hx => (YE.of (Zi 99 101 1 (a1) (l1.length) (l1.length) .i64 (i3) Tryz.underlying99 ((H31.rdRows 0 rfl).cell hx7).1 hx7l (by rw [← (H31.lenRows 0 rfl)]; exact hx7u)))) ?_
           refine ZY 7 24 (.slice a5 x12.length c3) (fun hx Hx => (YE.of (Zl 101 (adr a1 (i3.toNat * 1)) (.slice a5 x12.length c3) (Hx.cellPin 0 rfl 2 rfl)))) ?_
           refine ZB 6 [.int .i64 i5] 25 ?_
           refine ZY 5 26 (.pointer (some (adr a5 (i5.toNat * 1)))) (fun hx Hx => (YE.of (Zi 101 4 1 (a5) (x12.length) (c3) .i64 (i5) Tryz.underlying101 ((H31.rdPin 0 rfl 2 rfl).cell hx13).1 hx13l hx13u))) ?_
           refine ZY 4 27 (.bool x18) (fun hx Hx => (YE.of (Zl 4 (adr a5 (i5.toNat * 1)) (.bool x18) (cd4_cell (Hx.rdPin 0 rfl 2 rfl) hx13)))) ?_
           refine ZB 2 [.bool x18, .bool x18] 28 ?_
           refine ZY 1 30 (.pointer (some (adr a6 (i5.toNat * 1)))) (fun hx Hx => (YE.of (Zi 101 4 1 (a6) (x13.length) (c4) .i64 (i5) Tryz.underlying101 ((H31.rdPin 0 rfl 1 rfl).cell hx14).1 hx14l hx14u))) ?_
           refine ZT 31 (fun h21 H35 => ?_)
           have H36 : Hold h h21 [rowsP cd4 101 a1 l1.length l1.length s6 [(i4.toNat, a7, x14.length, c5, x14), (i4.toNat, a6, x13.length, c4, x13), (i3.toNat, a5, x12.length, c3, x12)]] := H35
           obtain ⟨l7, hu5, gs7⟩ := M.bind_some gs7
           have hu5 := M.upd_some hu5
           refine Ze ?_
           refine E_put2 (C := cd4) (t := 4) (sz := 1) (j := i5) (x := x18) (v := .bool x18) (m2 := s6.set i4.toNat l7) H36 cd4_flat 1 rfl (by kernel_rfl) rfl (cd4_own _) (by kernel_rfl) hu5 rfl (fun h22 H37 => ?_)
           refine Zx ?_
           refine Zk [3, 4, 7, 8, 49, 50, 53, 54, 57, 58] [(3, .int .i64 (a_.length : Int)), (4, .slice a1 l1.length l1.length), (7, .int .i64 i3), (8, .int .i64 i4), (49, .int .i64 (a_.length : Int)), (50, .int .i64 i3), (53, .int .i64 (a_.length : Int)), (54, .int .i64 i4), (57, .int .i64 (a_.length : Int)), (58, .int .i64 i5)] ?_
           have H43 := H37.ofRows
           have gs7 := M.ret_some gs7
           subst gs7
           exact Zf [3, 4, 7, 8, 49, 50, 53, 54, 57, 58] ⟨rfl, H43⟩
          ·have gs7 := (M.ite_some gs7).2 hb8
           refine ZL 11 20 x17 false hb8 ?_
           obtain ⟨x20, hx15, gs7⟩ := M.bind_some gs7
           obtain ⟨hx15l, hx15u, hx15⟩ := M.idx_some hx15
           refine ZN 10 21 ?_
           refine ZN 9 22 ?_
           refine ZN 8 23 ?_
           refine ZN 7 24 ?_
           refine ZN 6 25 ?_
           refine ZN 5 26 ?_
           refine ZN 4 27 ?_
           refine ZB 2 [.bool false, .bool false] 28 ?_
           refine ZY 1 30 (.pointer (some (adr a6 (i5.toNat * 1)))) (fun hx Hx => (YE.of (Zi 101 4 1 (a6) (x13.length) (c4) .i64 (i5) Tryz.underlying101 ((H31.rdPin 0 rfl 1 rfl).cell hx15).1 hx15l hx15u))) ?_
           refine ZT 31 (fun h23 H38 => ?_)
           have H39 : Hold h h23 [rowsP cd4 101 a1 l1.length l1.length s6 [(i4.toNat, a7, x14.length, c5, x14), (i4.toNat, a6, x13.length, c4, x13), (i3.toNat, a5, x12.length, c3, x12)]] := H38
           obtain ⟨l8, hu6, gs7⟩ := M.bind_some gs7
           have hu6 := M.upd_some hu6
           refine Ze ?_
           refine E_put2 (C := cd4) (t := 4) (sz := 1) (j := i5) (x := false) (v := .bool false) (m2 := s6.set i4.toNat l8) H39 cd4_flat 1 rfl (by kernel_rfl) rfl (cd4_own _) (by kernel_rfl) hu6 rfl (fun h24 H40 => ?_)
           refine Zx ?_
           refine Zk [3, 4, 7, 8, 49, 50, 53, 54, 57, 58] [(3, .int .i64 (a_.length : Int)), (4, .slice a1 l1.length l1.length), (7, .int .i64 i3), (8, .int .i64 i4), (49, .int .i64 (a_.length : Int)), (50, .int .i64 i3), (53, .int .i64 (a_.length : Int)), (54, .int .i64 i4), (57, .int .i64 (a_.length : Int)), (58, .int .i64 i5)] ?_
           have H44 := H40.ofRows
           have gs7 := M.ret_some gs7
           subst gs7
           exact Zf [3, 4, 7, 8, 49, 50, 53, 54, 57, 58] ⟨rfl, H44⟩
       ·have gx11 := M.for_end gx11 hb6
        subst gx11
        refine Run_exit (k' := _) rfl ?_
        exact Zf [3, 4, 7, 49, 50, 53, 54] ⟨rfl, H26⟩
     ·have gx10 := M.for_end gx10 hb5
      subst gx10
      refine Run_exit (k' := _) rfl ?_
      exact Zf [3, 4, 49, 50] ⟨rfl, H24⟩
   ·have gx9 := M.for_end gx9 hb4
    subst gx9
    refine Run_exit (k' := _) rfl ?_
    exact Zf [4] ⟨rfl, H22⟩
 ·refine Run_block ?_
  refine Zk [0, 3, 4, 15, 16] [(0, .slice aa_ a_.length ca_), (3, .int .i64 (a_.length : Int)), (4, .slice a1 l1.length l1.length), (15, .int .i64 (l1.length : Int)), (16, .int .i64 0)] ?_
  refine Run_loop (fun m L' h' => ∃ (i1 : Int) (s1 : (List (List Bool))), 0 ≤ i1 ∧ M.forN (l1.length : Int) _ _ n m i1 s1 = some x1 ∧ L' = [(0, .slice aa_ a_.length ca_), (3, .int .i64 (a_.length : Int)), (4, .slice a1 l1.length l1.length), (15, .int .i64 (l1.length : Int)), (16, .int .i64 i1)] ∧ Hold h h' [own cd101 a1 l1.length l1.length s1]) ((l1.length : Int) - 0 : Int).toNat ⟨0, l1, Int.le_refl _, gx1, rfl, H1⟩ ?_
  rintro my1 _ h2 ⟨i1, s1, hloy1', gx1, rfl, H2⟩
  refine Zs ?_
  refine Zq [.bool (decide (i1 < (l1.length : Int)))] [0, 3, 4, 15, 16, 17] [(0, .slice aa_ a_.length ca_), (3, .int .i64 (a_.length : Int)), (4, .slice a1 l1.length l1.length), (15, .int .i64 (l1.length : Int)), (16, .int .i64 i1), (17, .bool (decide (i1 < (l1.length : Int))))] ?_
  refine Zs ?_
  refine Zc (decide (i1 < (l1.length : Int))) (fun hb1 => ?_) (fun hb1 => ?_)
  ·obtain ⟨my1, y1, rfl, hB1, hgoy1, houty1⟩ := M.for_go gx1 hb1
   have hlty1 := of_decide_eq_true hb1
   refine Run_skip ?_
   refine Zs ?_
   refine Run_block ?_
   refine Zs ?_
   refine Zq [.int .i64 i1, .int .i64 i1] [0, 3, 4, 5, 15, 16] [(0, .slice aa_ a_.length ca_), (3, .int .i64 (a_.length : Int)), (4, .slice a1 l1.length l1.length), (5, .int .i64 i1), (15, .int .i64 (l1.length : Int)), (16, .int .i64 i1)] ?_
   refine Zs ?_
   refine Run_ops ?_
   refine Zr [.slice a1 l1.length l1.length, .int .i64 i1, .int .i64 (a_.length : Int)] 0 ?_
   obtain ⟨l2, hl2, hB1⟩ := M.bind_some hB1
   have hl2 := M.make_some hl2
   refine Ze ?_
   refine E_make cd4 false (kl := .i64) (kc := .i64) H2 cd4_ti Tryz.underlying101 (by decide) cd4_zero (by kernel_rfl) hl2 (fun a2 h4 H4 => ?_)
   obtain ⟨x2, hx1, hB1⟩ := M.bind_some hB1
   obtain ⟨hx1l, hx1u, hx1⟩ := M.idx_some hx1
   refine Zz (.pointer (some (adr a1 (i1.toNat * 1)))) (Zi 99 101 1 (a1) (l1.length) (l1.length) .i64 (i1) Tryz.underlying99 ((H4.rd 1 rfl).cell hx1).1 hx1l (by rw [← (H4.len 1 rfl)]; exact hx1u)) ?_
   obtain ⟨l3, hu1, hB1⟩ := M.bind_some hB1
   have hu1 := M.upd_some hu1
   have H6 : Hold h h4 [own cd101 a1 l1.length l1.length s1, own cd4 a2 l2.length l2.length l2] := H4.pk [1, 0]
   have H7 : Hold h h4 [own cd4 a2 l2.length l2.length l2, own cd101 a1 l1.length l1.length s1] := H6.pk [1, 0]
   have H8 : Hold h h4 [own cd101 a1 l1.length l1.length s1, own cd4 a2 l2.length l2.length l2] := H7.pk [1, 0]
   refine Ze ?_
   refine E_putRow (t := 101) (j := i1) H8 (by kernel_rfl) (by kernel_rfl) hu1 (fun h5 H5 => ?_)
   refine Zx ?_
   refine Zk [0, 3, 4, 5, 15, 16] [(0, .slice aa_ a_.length ca_), (3, .int .i64 (a_.length : Int)), (4, .slice a1 l1.length l1.length), (5, .int .i64 i1), (15, .int .i64 (l1.length : Int)), (16, .int .i64 i1)] ?_
   refine Zs ?_
   refine Zq [.int .i64 (a_.length : Int), .int .i64 0] [0, 3, 4, 5, 15, 16, 24, 25] [(0, .slice aa_ a_.length ca_), (3, .int .i64 (a_.length : Int)), (4, .slice a1 l1.length l1.length), (5, .int .i64 i1), (15, .int .i64 (l1.length : Int)), (16, .int .i64 i1), (24, .int .i64 (a_.length : Int)), (25, .int .i64 0)] ?_
   obtain ⟨x3, gx3, hB1⟩ := M.bind_some hB1
   obtain ⟨hloy2, hhiy2, gx3⟩ := M.for_start gx3
   refine Run_join (fun L' h' => L' = [(0, .slice aa_ a_.length ca_), (3, .int .i64 (a_.length : Int)), (4, .slice a1 l1.length l1.length), (15, .int .i64 (l1.length : Int)), (16, .int .i64 i1)] ∧ Hold h h' [own cd101 a1 l1.length l1.length x3]) ?_ ?_
   ·rintro _ h7 ⟨rfl, H10⟩
    refine Run_blk ?_
    refine Zg 2 [(0, .slice aa_ a_.length ca_), (3, .int .i64 (a_.length : Int)), (4, .slice a1 l1.length l1.length), (15, .int .i64 (l1.length : Int)), (16, .int .i64 (i1 + 1))] ?_ ?_
    ·refine Zy (.int .i64 (i1 + 1)) (Y_eq (v := .int .i64 (w64 (i1 + 1))) (Y_pure (fun w => by kernel_rfl)) (by rw [w64_eq _ (by omega)])) ?_
     refine Zb [.int .i64 (i1 + 1)] 1 ?_
     exact Zd [0, 3, 4, 15, 16]
    have hB1 := M.ret_some hB1
    have gx1 := hgoy1 _ hB1.symm
    exact Za [0, 3, 4, 15, 16] my1 ⟨i1 + 1, x3, by omega, gx1, rfl, H10⟩
   ·refine Run_block ?_
    refine Zk [0, 3, 4, 5, 15, 16, 24, 25] [(0, .slice aa_ a_.length ca_), (3, .int .i64 (a_.length : Int)), (4, .slice a1 l1.length l1.length), (5, .int .i64 i1), (15, .int .i64 (l1.length : Int)), (16, .int .i64 i1), (24, .int .i64 (a_.length : Int)), (25, .int .i64 0)] ?_
    refine Run_loop (fun m L' h' => ∃ (i2 : Int) (s2 : (List (List Bool))), 0 ≤ i2 ∧ M.forN (a_.length : Int) _ _ n m i2 s2 = some x3 ∧ L' = [(0, .slice aa_ a_.length ca_), (3, .int .i64 (a_.length : Int)), (4, .slice a1 l1.length l1.length), (5, .int .i64 i1), (15, .int .i64 (l1.length : Int)), (16, .int .i64 i1), (24, .int .i64 (a_.length : Int)), (25, .int .i64 i2)] ∧ Hold h h' [own cd101 a1 l1.length l1.length s2]) ((a_.length : Int) - 0 : Int).toNat ⟨0, l3, Int.le_refl _, gx3, rfl, H5⟩ ?_
    rintro my2 _ h6 ⟨i2, s2, hloy2', gx3, rfl, H9⟩
    refine Zs ?_
    refine Zq [.bool (decide (i2 < (a_.length : Int)))] [0, 3, 4, 5, 15, 16, 24, 25, 26] [(0, .slice aa_ a_.length ca_), (3, .int .i64 (a_.length : Int)), (4, .slice a1 l1.length l1.length), (5, .int .i64 i1), (15, .int .i64 (l1.length : Int)), (16, .int .i64 i1), (24, .int .i64 (a_.length : Int)), (25, .int .i64 i2), (26, .bool (decide (i2 < (a_.length : Int))))] ?_
    refine Zs ?_
    refine Zc (decide (i2 < (a_.length : Int))) (fun hb2 => ?_) (fun hb2 => ?_)
    ·obtain ⟨my2, y2, rfl, hB2, hgoy2, houty2⟩ := M.for_go gx3 hb2
     have hlty2 := of_decide_eq_true hb2
     refine Run_skip ?_
     refine Zs ?_
     refine Run_block ?_
     refine Zs ?_
     refine Zq [.int .i64 i2, .int .i64 i2] [0, 3, 4, 5, 6, 15, 16, 24, 25] [(0, .slice aa_ a_.length ca_), (3, .int .i64 (a_.length : Int)), (4, .slice a1 l1.length l1.length), (5, .int .i64 i1), (6, .int .i64 i2), (15, .int .i64 (l1.length : Int)), (16, .int .i64 i1), (24, .int .i64 (a_.length : Int)), (25, .int .i64 i2)] ?_
     obtain ⟨s3, gs3, hB2⟩ := M.bind_some hB2
     refine Run_join (fun L' h' => L' = [(0, .slice aa_ a_.length ca_), (3, .int .i64 (a_.length : Int)), (4, .slice a1 l1.length l1.length), (5, .int .i64 i1), (15, .int .i64 (l1.length : Int)), (16, .int .i64 i1), (24, .int .i64 (a_.length : Int)), (25, .int .i64 i2)] ∧ Hold h h' [own cd101 a1 l1.length l1.length s3]) ?_ ?_
     ·rintro _ h12 ⟨rfl, H19⟩
      refine Run_blk ?_
      refine Zg 2 [(0, .slice aa_ a_.length ca_), (3, .int .i64 (a_.length : Int)), (4, .slice a1 l1.length l1.length), (5, .int .i64 i1), (15, .int .i64 (l1.length : Int)), (16, .int .i64 i1), (24, .int .i64 (a_.length : Int)), (25, .int .i64 (i2 + 1))] ?_ ?_
      ·refine Zy (.int .i64 (i2 + 1)) (Y_eq (v := .int .i64 (w64 (i2 + 1))) (Y_pure (fun w => by kernel_rfl)) (by rw [w64_eq _ (by omega)])) ?_
       refine Zb [.int .i64 (i2 + 1)] 1 ?_
       exact Zd [0, 3, 4, 5, 15, 16, 24, 25]
      have hB2 := M.ret_some hB2
      have gx3 := hgoy2 _ hB2.symm
      exact Za [0, 3, 4, 5, 15, 16, 24, 25] my2 ⟨i2 + 1, s3, by omega, gx3, rfl, H19⟩
     ·obtain ⟨x4, hx2, gs3⟩ := M.bind_some gs3
      obtain ⟨hx2l, hx2u, hx2⟩ := M.idx_some hx2
      have H11 := H9.toRows
      obtain ⟨a3, c1, H12⟩ := H11.pinRow hx2
      refine Run_D (fun x => Hold h x [rowsP cd4 101 a1 l1.length l1.length s2 [(i1.toNat, a3, x4.length, c1, x4)]]) (fun x => Hold h x [rowsP cd4 101 a1 l1.length l1.length s2 [(i1.toNat, a3, x4.length, c1, x4)]]) mixed (by kernel_rfl) H12 Hold.stable (fun x Hy => (show Hold h x [rowsP cd4 101 a1 l1.length l1.length s2 [(i1.toNat, a3, x4.length, c1, x4)]] from Hy).pk [0]) ?_
      refine ZB 18 [.slice a1 l1.length l1.length, .int .i64 i1] 0 ?_
      refine ZY 17 2 (.pointer (some (adr a1 (i1.toNat * 1)))) (fun hx Hx => (YE.of (Zi 99 101 1 (a1) (l1.length) (l1.length) .i64 (i1) Tryz.underlying99 ((H9.rd 0 rfl).cell hx2).1 hx2l (by rw [← (H9.len 0 rfl)]; exact hx2u)))) ?_
      refine ZY 16 3 (.slice a3 x4.length c1) (fun hx Hx => (YE.of (Zl 101 (adr a1 (i1.toNat * 1)) (.slice a3 x4.length c1) (Hx.cellPin 0 rfl 0 rfl)))) ?_
      refine ZB 12 [.int .i64 i2, .int .i64 i1, .int .i64 i2, .bool (i1 == i2)] 4 ?_
      rcases Bool.eq_false_or_eq_true (i1 == i2) with hb3 | hb3
      ·have gs3 := (M.ite_some gs3).1 hb3
       refine ZL 11 8 (i1 == i2) true hb3 ?_
       obtain ⟨x5, hx3, gs3⟩ := M.bind_some gs3
       obtain ⟨hx3l, hx3u, hx3⟩ := M.idx_some hx3
       refine ZN 10 9 ?_
       refine ZN 9 10 ?_
       refine ZN 8 11 ?_
       refine ZN 7 12 ?_
       refine ZN 6 13 ?_
       refine ZN 5 14 ?_
       refine ZN 4 15 ?_
       refine ZN 3 16 ?_
       refine ZB 2 [.bool true] 17 ?_
       refine ZY 1 18 (.pointer (some (adr a3 (i2.toNat * 1)))) (fun hx Hx => (YE.of (Zi 101 4 1 (a3) (x4.length) (c1) .i64 (i2) Tryz.underlying101 ((H12.rdPin 0 rfl 0 rfl).cell hx3).1 hx3l hx3u))) ?_
       refine ZT 19 (fun h8 H13 => ?_)
       have H14 : Hold h h8 [rowsP cd4 101 a1 l1.length l1.length s2 [(i1.toNat, a3, x4.length, c1, x4)]] := H13
       obtain ⟨l4, hu2, gs3⟩ := M.bind_some gs3
       have hu2 := M.upd_some hu2
       refine Ze ?_
       refine E_put2 (C := cd4) (t := 4) (sz := 1) (j := i2) (x := true) (v := .bool true) (m2 := s2.set i1.toNat l4) H14 cd4_flat 0 rfl (by kernel_rfl) rfl (cd4_own _) (by kernel_rfl) hu2 rfl (fun h9 H15 => ?_)
       refine Zx ?_
       refine Zk [0, 3, 4, 5, 15, 16, 24, 25] [(0, .slice aa_ a_.length ca_), (3, .int .i64 (a_.length : Int)), (4, .slice a1 l1.length l1.length), (5, .int .i64 i1), (15, .int .i64 (l1.length : Int)), (16, .int .i64 i1), (24, .int .i64 (a_.length : Int)), (25, .int .i64 i2)] ?_
       have H20 := H15.ofRows
       have gs3 := M.ret_some gs3
       subst gs3
       exact Zf [0, 3, 4, 5, 15, 16, 24, 25] ⟨rfl, H20⟩
      ·have gs3 := (M.ite_some gs3).2 hb3
       refine ZL 11 8 (i1 == i2) false hb3 ?_
       obtain ⟨x6, hx4, gs3⟩ := M.bind_some gs3
       obtain ⟨hx4l, hx4u, hx4⟩ := M.idx_some hx4
       obtain ⟨a4, c2, hc1, r1⟩ := ra_.row hx4
       obtain ⟨x7, hx5, gs3⟩ := M.bind_some gs3
       obtain ⟨hx5l, hx5u, hx5⟩ := M.idx_some hx5
       obtain ⟨x8, hx6, gs3⟩ := M.bind_some gs3
       obtain ⟨hx6l, hx6u, hx6⟩ := M.idx_some hx6
       refine ZB 9 [.slice aa_ a_.length ca_, .int .i64 i2] 9 ?_
       refine ZY 8 11 (.pointer (some (adr aa_ (i2.toNat * 1)))) (fun hx Hx => (YE.of (Zi 22 24 1 (aa_) (a_.length) (ca_) .i64 (i2) Tryz.underlying22 ((ra_.at H12.ext).cell hx4).1 hx4l hx4u))) ?_
       refine ZY 7 12 (.slice a4 x6.length c2) (fun hx Hx => (YE.of (Zl 24 (adr aa_ (i2.toNat * 1)) (.slice a4 x6.length c2) (cell_at Hx.ext hc1)))) ?_
       refine ZB 6 [.int .i64 i1] 13 ?_
       refine ZY 5 14 (.pointer (some (adr a4 (i1.toNat * 1)))) (fun hx Hx => (YE.of (Zi 24 2 1 (a4) (x6.length) (c2) .i64 (i1) Tryz.underlying24 ((r1.at H12.ext).cell hx5).1 hx5l hx5u))) ?_
       refine ZY 4 15 (.int .i64 x7) (fun hx Hx => (YE.of (Zl 2 (adr a4 (i1.toNat * 1)) (.int .i64 x7) (cd2_cell (r1.at Hx.ext) hx5)))) ?_
       refine ZB 2 [.bool (x7 != (-1000000000000000)), .bool (x7 != (-1000000000000000))] 16 ?_
       refine ZY 1 18 (.pointer (some (adr a3 (i2.toNat * 1)))) (fun hx Hx => (YE.of (Zi 101 4 1 (a3) (x4.length) (c1) .i64 (i2) Tryz.underlying101 ((H12.rdPin 0 rfl 0 rfl).cell hx6).1 hx6l hx6u))) ?_
       refine ZT 19 (fun h10 H16 => ?_)
       have H17 : Hold h h10 [rowsP cd4 101 a1 l1.length l1.length s2 [(i1.toNat, a3, x4.length, c1, x4)]] := H16
       obtain ⟨l5, hu3, gs3⟩ := M.bind_some gs3
       have hu3 := M.upd_some hu3
       refine Ze ?_
       refine E_put2 (C := cd4) (t := 4) (sz := 1) (j := i2) (x := (x7 != (-1000000000000000))) (v := .bool (x7 != (-1000000000000000))) (m2 := s2.set i1.toNat l5) H17 cd4_flat 0 rfl (by kernel_rfl) rfl (cd4_own _) (by kernel_rfl) hu3 rfl (fun h11 H18 => ?_)
       refine Zx ?_
       refine Zk [0, 3, 4, 5, 15, 16, 24, 25] [(0, .slice aa_ a_.length ca_), (3, .int .i64 (a_.length : Int)), (4, .slice a1 l1.length l1.length), (5, .int .i64 i1), (15, .int .i64 (l1.length : Int)), (16, .int .i64 i1), (24, .int .i64 (a_.length : Int)), (25, .int .i64 i2)] ?_
       have H21 := H18.ofRows
       have gs3 := M.ret_some gs3
       subst gs3
       exact Zf [0, 3, 4, 5, 15, 16, 24, 25] ⟨rfl, H21⟩
    ·have gx3 := M.for_end gx3 hb2
     subst gx3
     refine Run_exit (k' := _) rfl ?_
     exact Zf [0, 3, 4, 15, 16] ⟨rfl, H9⟩
  ·have gx1 := M.for_end gx1 hb1
   subst gx1
   refine Run_exit (k' := _) rfl ?_
   exact Zf [3, 4] ⟨rfl, H2⟩

theorem w_impl_componentsOf (h : Heap) (a_ : List (List Int)) (aa_ : Option Addr) (ca_ : Nat) (ra_ : Rd cd24 h (Lt h) aa_ ca_ a_) (n : Nat) (r : (List (List Int))) (hF : impl_componentsOf a_ n = some r) :
  Fn Tryz.prog 73 #[.slice aa_ a_.length ca_] h fun v h' => ∃ (a0 : Option Addr) (c0 : Nat), v = .slice a0 r.length c0 ∧ Hold h h' [own cd24 a0 r.length c0 r] := by
 unfold impl_componentsOf at hF
 refine Zo [.slice aa_ a_.length ca_] Tryz.func73 rfl (fun w0 _ => ?_)
 have H0 := Hold.init h
 refine Zs ?_
 refine Zq [.slice none 0 0] [0] [(0, .slice aa_ a_.length ca_)] ?_
 refine Zs ?_
 refine Run_ops ?_
 refine Zr [.slice aa_ a_.length ca_] 0 ?_
 obtain ⟨x1, hx1, hF⟩ := M.bind_some hF
 refine Ze ?_
 refine ZC 114 #[.slice aa_ a_.length ca_] (w_impl_reaching h a_ aa_ ca_ ra_ _ _ hx1) (fun v1 h1 hp1 => ?_)
 obtain ⟨a1, c1, rfl, H1⟩ := hp1
 have H2 : Hold h h1 [own cd101 a1 x1.length c1 x1] := H0.call H1 rfl
 refine Zr [.slice a1 x1.length c1] 2 ?_
 refine Zx ?_
 refine Zk [0, 3] [(0, .slice aa_ a_.length ca_), (3, .slice a1 x1.length c1)] ?_
 refine Zs ?_
 refine Zq [.slice none 0 0] [0, 3, 4] [(0, .slice aa_ a_.length ca_), (3, .slice a1 x1.length c1), (4, .slice none 0 0)] ?_
 refine Zs ?_
 refine Zs ?_
 refine Zq [.slice aa_ a_.length ca_, .int .i64 (a_.length : Int), .int .i64 0] [0, 3, 4, 11, 12] [(0, .slice aa_ a_.length ca_), (3, .slice a1 x1.length c1), (4, .slice none 0 0), (11, .int .i64 (a_.length : Int)), (12, .int .i64 0)] ?_
 obtain ⟨x2, gx2, hF⟩ := M.bind_some hF
 obtain ⟨hloy1, hhiy1, gx2⟩ := M.for_start gx2
 refine Run_join (fun L' h' => ∃ (a3 : Option Addr) (c3 : Nat), L' = [(4, .slice a3 x2.length c3)] ∧ Hold h h' [own cd24 a3 x2.length c3 x2]) ?_ ?_
 ·rintro _ h3 ⟨a3, c3, rfl, H4⟩
  refine Zs ?_
  refine Zq [.slice a3 x2.length c3, .slice a3 x2.length c3] [2] [(2, .slice a3 x2.length c3)] ?_
  have hF := M.ret_some hF
  subst hF
  exact Run_ret1 rfl (Zt (.slice a3 x2.length c3)) ⟨a3, c3, rfl, H4⟩
 ·refine Run_block ?_
  have H43 := H2.empty cd24
  have H44 : Hold h h1 [own cd101 a1 x1.length c1 x1, own cd24 none 0 0 []] := H43.pk [1, 0]
  refine Zk [0, 3, 4, 11, 12] [(0, .slice aa_ a_.length ca_), (3, .slice a1 x1.length c1), (4, .slice none 0 0), (11, .int .i64 (a_.length : Int)), (12, .int .i64 0)] ?_
  refine Run_loop (fun m L' h' => ∃ (i1 : Int) (s1 : (List (List Int))) (a2 : Option Addr) (c2 : Nat), 0 ≤ i1 ∧ M.forN (a_.length : Int) _ _ n m i1 s1 = some x2 ∧ L' = [(0, .slice aa_ a_.length ca_), (3, .slice a1 x1.length c1), (4, .slice a2 s1.length c2), (11, .int .i64 (a_.length : Int)), (12, .int .i64 i1)] ∧ Hold h h' [own cd101 a1 x1.length c1 x1, own cd24 a2 s1.length c2 s1]) ((a_.length : Int) - 0 : Int).toNat ⟨0, [], none, 0, Int.le_refl _, gx2, rfl, H44⟩ ?_
  rintro my1 _ h2 ⟨i1, s1, a2, c2, hloy1', gx2, rfl, H3⟩
  refine Zs ?_
  refine Zq [.bool (decide (i1 < (a_.length : Int)))] [0, 3, 4, 11, 12, 13] [(0, .slice aa_ a_.length ca_), (3, .slice a1 x1.length c1), (4, .slice a2 s1.length c2), (11, .int .i64 (a_.length : Int)), (12, .int .i64 i1), (13, .bool (decide (i1 < (a_.length : Int))))] ?_
  refine Zs ?_
  refine Zc (decide (i1 < (a_.length : Int))) (fun hb1 => ?_) (fun hb1 => ?_)
  ·obtain ⟨my1, y1, rfl, hB1, hgoy1, houty1⟩ := M.for_go gx2 hb1
   have hlty1 := of_decide_eq_true hb1
   refine Run_skip ?_
   refine Zs ?_
   refine Run_block ?_
   refine Zs ?_
   refine Zq [.int .i64 i1, .int .i64 i1] [0, 3, 4, 5, 11, 12] [(0, .slice aa_ a_.length ca_), (3, .slice a1 x1.length c1), (4, .slice a2 s1.length c2), (5, .int .i64 i1), (11, .int .i64 (a_.length : Int)), (12, .int .i64 i1)] ?_
   refine Zs ?_
   refine Zq [.slice none 0 0] [0, 3, 4, 5, 6, 11, 12] [(0, .slice aa_ a_.length ca_), (3, .slice a1 x1.length c1), (4, .slice a2 s1.length c2), (5, .int .i64 i1), (6, .slice none 0 0), (11, .int .i64 (a_.length : Int)), (12, .int .i64 i1)] ?_
   refine Zs ?_
   refine Zs ?_
   refine Zq [.slice aa_ a_.length ca_, .int .i64 (a_.length : Int), .int .i64 0] [0, 3, 4, 5, 6, 11, 12, 16, 17] [(0, .slice aa_ a_.length ca_), (3, .slice a1 x1.length c1), (4, .slice a2 s1.length c2), (5, .int .i64 i1), (6, .slice none 0 0), (11, .int .i64 (a_.length : Int)), (12, .int .i64 i1), (16, .int .i64 (a_.length : Int)), (17, .int .i64 0)] ?_
   obtain ⟨x3, gx3, hB1⟩ := M.bind_some hB1
   obtain ⟨hloy2, hhiy2, gx3⟩ := M.for_start gx3
   refine Run_join (fun L' h' => ∃ (a5 : Option Addr) (c5 : Nat), L' = [(0, .slice aa_ a_.length ca_), (3, .slice a1 x1.length c1), (4, .slice a2 s1.length c2), (5, .int .i64 i1), (6, .slice a5 x3.length c5), (11, .int .i64 (a_.length : Int)), (12, .int .i64 i1)] ∧ Hold h h' [own cd101 a1 x1.length c1 x1, own cd24 a2 s1.length c2 s1, own cd2 a5 x3.length c5 x3]) ?_ ?_
   ·rintro _ h5 ⟨a5, c5, rfl, H6⟩
    refine Zs ?_
    obtain ⟨x9, hx6, hB1⟩ := M.bind_some hB1
    obtain ⟨hx6l, hx6u, hx6⟩ := M.idx_some hx6
    refine Zg 5 [(0, .slice aa_ a_.length ca_), (3, .slice a1 x1.length c1), (4, .slice a2 s1.length c2), (6, .slice a5 x3.length c5), (11, .int .i64 (a_.length : Int)), (12, .int .i64 i1), (45, .bool (x9 == i1))] ?_ ?_
    ·refine Zb [.slice a5 x3.length c5] 0 ?_
     refine Zy (.pointer (some (adr a5 (0 * 1)))) (Zi 24 2 1 (a5) (x3.length) (c5) .i64 (0) Tryz.underlying24 ((H6.rd 2 rfl).cell hx6).1 hx6l hx6u) ?_
     refine Zy (.int .i64 x9) (Zl 2 (adr a5 (0 * 1)) (.int .i64 x9) (cd2_cell (H6.rd 2 rfl) hx6)) ?_
     refine Zb [.int .i64 i1, .bool (x9 == i1)] 3 ?_
     exact Zd [0, 3, 4, 6, 11, 12, 45]
    obtain ⟨s4, gs4, hB1⟩ := M.bind_some hB1
    refine Run_join (fun L' h' => ∃ (a13 : Option Addr), ∃ (c11 : Nat), L' = [(0, .slice aa_ a_.length ca_), (3, .slice a1 x1.length c1), (4, .slice a13 s4.length c11), (11, .int .i64 (a_.length : Int)), (12, .int .i64 i1)] ∧ Hold h h' [own cd101 a1 x1.length c1 x1, own cd24 a13 s4.length c11 s4]) ?_ ?_
    ·rintro _ h11 ⟨a13, c11, rfl, H33⟩
     refine Run_blk ?_
     refine Zg 2 [(0, .slice aa_ a_.length ca_), (3, .slice a1 x1.length c1), (4, .slice a13 s4.length c11), (11, .int .i64 (a_.length : Int)), (12, .int .i64 (i1 + 1))] ?_ ?_
     ·refine Zy (.int .i64 (i1 + 1)) (Y_eq (v := .int .i64 (w64 (i1 + 1))) (Y_pure (fun w => by kernel_rfl)) (by rw [w64_eq _ (by omega)])) ?_
      refine Zb [.int .i64 (i1 + 1)] 1 ?_
      exact Zd [0, 3, 4, 11, 12]
     have H37 : Hold h h11 [own cd24 a13 s4.length c11 s4, own cd101 a1 x1.length c1 x1] := H33.pk [1, 0]
     have H38 : Hold h h11 [own cd101 a1 x1.length c1 x1, own cd24 a13 s4.length c11 s4] := H37.pk [1, 0]
     have hB1 := M.ret_some hB1
     have gx2 := hgoy1 _ hB1.symm
     exact Za [0, 3, 4, 11, 12] my1 ⟨i1 + 1, s4, a13, c11, by omega, gx2, rfl, H38⟩
    ·refine Zc (x9 == i1) (fun hb5 => ?_) (fun hb5 => ?_)
     ·have gs4 := (M.ite_some gs4).1 hb5
      refine Run_ops ?_
      refine Zr [.slice a2 s1.length c2, .slice a5 x3.length c5] 0 ?_
      have H28 : Hold h h5 [own cd2 a5 x3.length c5 x3, own cd101 a1 x1.length c1 x1, own cd24 a2 s1.length c2 s1] := H6.pk [2, 0, 1]
      refine Ze ?_
      refine E_lit1 (ey := 24) (n := x3.length) H28 (fun w => by kernel_rfl) rfl (fun a11 h9 H27 => ?_)
      obtain ⟨l2, hl2, gs4⟩ := M.bind_some gs4
      have hl2 := M.app_some hl2
      have H29 : Hold h h9 [own cd24 a2 s1.length c2 s1, own cd24 a11 1 1 [x3], own cd101 a1 x1.length c1 x1] := H27.pk [2, 0, 1]
      have H30 : Hold h h9 [own cd24 a11 1 1 [x3], own cd24 a2 s1.length c2 s1, own cd101 a1 x1.length c1 x1] := H29.pk [1, 0, 2]
      have H31 : Hold h h9 [own cd24 a2 s1.length c2 s1, own cd24 a11 1 1 [x3], own cd101 a1 x1.length c1 x1] := H30.pk [1, 0, 2]
      refine Ze ?_
      refine E_app (C := cd24) (t := 22) (ty := 22) (n := s1.length) (m := 1) H31 cd24_ti rfl Tryz.underlying22 (by decide) (by kernel_rfl) hl2 (fun a12 c10 h10 H32 => ?_)
      refine Zr [.slice a12 l2.length c10] 4 ?_
      refine Zx ?_
      refine Zk [0, 3, 4, 11, 12] [(0, .slice aa_ a_.length ca_), (3, .slice a1 x1.length c1), (4, .slice a12 l2.length c10), (11, .int .i64 (a_.length : Int)), (12, .int .i64 i1)] ?_
      have H34 : Hold h h10 [own cd101 a1 x1.length c1 x1, own cd24 a12 l2.length c10 l2] := H32.pk [1, 0]
      have gs4 := M.ret_some gs4
      subst gs4
      exact Zf [0, 3, 4, 11, 12] ⟨a12, c10, rfl, H34⟩
     ·have gs4 := (M.ite_some gs4).2 hb5
      refine Run_skip ?_
      have H35 : Hold h h5 [own cd24 a2 s1.length c2 s1, own cd101 a1 x1.length c1 x1, own cd2 a5 x3.length c5 x3] := H6.pk [1, 0, 2]
      have H36 : Hold h h5 [own cd101 a1 x1.length c1 x1, own cd24 a2 s1.length c2 s1] := H35.pk [1, 0]
      have gs4 := M.ret_some gs4
      subst gs4
      exact Zf [0, 3, 4, 11, 12] ⟨a2, c2, rfl, H36⟩
   ·refine Run_block ?_
    have H39 := H3.empty cd2
    have H40 : Hold h h2 [own cd101 a1 x1.length c1 x1, own cd24 a2 s1.length c2 s1, own cd2 none 0 0 []] := H39.pk [1, 2, 0]
    refine Zk [0, 3, 4, 5, 6, 11, 12, 16, 17] [(0, .slice aa_ a_.length ca_), (3, .slice a1 x1.length c1), (4, .slice a2 s1.length c2), (5, .int .i64 i1), (6, .slice none 0 0), (11, .int .i64 (a_.length : Int)), (12, .int .i64 i1), (16, .int .i64 (a_.length : Int)), (17, .int .i64 0)] ?_
    refine Run_loop (fun m L' h' => ∃ (i2 : Int) (s2 : (List Int)) (a4 : Option Addr) (c4 : Nat), 0 ≤ i2 ∧ M.forN (a_.length : Int) _ _ n m i2 s2 = some x3 ∧ L' = [(0, .slice aa_ a_.length ca_), (3, .slice a1 x1.length c1), (4, .slice a2 s1.length c2), (5, .int .i64 i1), (6, .slice a4 s2.length c4), (11, .int .i64 (a_.length : Int)), (12, .int .i64 i1), (16, .int .i64 (a_.length : Int)), (17, .int .i64 i2)] ∧ Hold h h' [own cd101 a1 x1.length c1 x1, own cd24 a2 s1.length c2 s1, own cd2 a4 s2.length c4 s2]) ((a_.length : Int) - 0 : Int).toNat ⟨0, [], none, 0, Int.le_refl _, gx3, rfl, H40⟩ ?_
    rintro my2 _ h4 ⟨i2, s2, a4, c4, hloy2', gx3, rfl, H5⟩
    refine Zs ?_
    refine Zq [.bool (decide (i2 < (a_.length : Int)))] [0, 3, 4, 5, 6, 11, 12, 16, 17, 18] [(0, .slice aa_ a_.length ca_), (3, .slice a1 x1.length c1), (4, .slice a2 s1.length c2), (5, .int .i64 i1), (6, .slice a4 s2.length c4), (11, .int .i64 (a_.length : Int)), (12, .int .i64 i1), (16, .int .i64 (a_.length : Int)), (17, .int .i64 i2), (18, .bool (decide (i2 < (a_.length : Int))))] ?_
    refine Zs ?_
    refine Zc (decide (i2 < (a_.length : Int))) (fun hb2 => ?_) (fun hb2 => ?_)
    ·obtain ⟨my2, y2, rfl, hB2, hgoy2, houty2⟩ := M.for_go gx3 hb2
     have hlty2 := of_decide_eq_true hb2
     refine Run_skip ?_
     refine Zs ?_
     refine Run_block ?_
     refine Zs ?_
     refine Zq [.int .i64 i2, .int .i64 i2] [0, 3, 4, 5, 6, 7, 11, 12, 16, 17] [(0, .slice aa_ a_.length ca_), (3, .slice a1 x1.length c1), (4, .slice a2 s1.length c2), (5, .int .i64 i1), (6, .slice a4 s2.length c4), (7, .int .i64 i2), (11, .int .i64 (a_.length : Int)), (12, .int .i64 i1), (16, .int .i64 (a_.length : Int)), (17, .int .i64 i2)] ?_
     refine Zs ?_
     obtain ⟨x4, hx2, hB2⟩ := M.bind_some hB2
     obtain ⟨hx2l, hx2u, hx2⟩ := M.idx_some hx2
     have H7 := H5.toRows
     obtain ⟨a6, c6, H8⟩ := H7.pinRow hx2
     obtain ⟨x5, hx3, hB2⟩ := M.bind_some hB2
     obtain ⟨hx3l, hx3u, hx3⟩ := M.idx_some hx3
     obtain ⟨x6, gx6, hB2⟩ := M.bind_some hB2
     refine Zg 16 [(0, .slice aa_ a_.length ca_), (3, .slice a1 x1.length c1), (4, .slice a2 s1.length c2), (5, .int .i64 i1), (6, .slice a4 s2.length c4), (7, .int .i64 i2), (11, .int .i64 (a_.length : Int)), (12, .int .i64 i1), (16, .int .i64 (a_.length : Int)), (17, .int .i64 i2), (35, .bool x6)] ?_ ?_
     ·refine Zb [.slice a1 x1.length c1, .int .i64 i1] 0 ?_
      refine Zy (.pointer (some (adr a1 (i1.toNat * 1)))) (Zi 99 101 1 (a1) (x1.length) (c1) .i64 (i1) Tryz.underlying99 ((H5.rd 0 rfl).cell hx2).1 hx2l hx2u) ?_
      refine Zy (.slice a6 x4.length c6) (Zl 101 (adr a1 (i1.toNat * 1)) (.slice a6 x4.length c6) (H8.cellPin 0 rfl 0 rfl)) ?_
      refine Zb [.int .i64 i2] 4 ?_
      refine Zy (.pointer (some (adr a6 (i2.toNat * 1)))) (Zi 101 4 1 (a6) (x4.length) (c6) .i64 (i2) Tryz.underlying101 ((H8.rdPin 0 rfl 0 rfl).cell hx3).1 hx3l hx3u) ?_
      refine Zy (.bool x5) (Zl 4 (adr a6 (i2.toNat * 1)) (.bool x5) (cd4_cell (H8.rdPin 0 rfl 0 rfl) hx3)) ?_
      refine QRun_seq 16 [(0, .slice aa_ a_.length ca_), (3, .slice a1 x1.length c1), (4, .slice a2 s1.length c2), (5, .int .i64 i1), (6, .slice a4 s2.length c4), (7, .int .i64 i2), (11, .int .i64 (a_.length : Int)), (12, .int .i64 i1), (16, .int .i64 (a_.length : Int)), (17, .int .i64 i2), (35, .bool x6)] ?_ ?_
      ·rcases Bool.eq_false_or_eq_true x5 with hb3 | hb3
       ·refine Zv x5 true hb3 ?_
        have gx6 := (M.ite_some gx6).1 hb3
        obtain ⟨x7, hx4, gx6⟩ := M.bind_some gx6
        obtain ⟨hx4l, hx4u, hx4⟩ := M.idx_some hx4
        obtain ⟨a7, c7, H9⟩ := H8.pinRow hx4
        obtain ⟨x8, hx5, gx6⟩ := M.bind_some gx6
        obtain ⟨hx5l, hx5u, hx5⟩ := M.idx_some hx5
        have gx6 := M.ret_some gx6
        refine Zb [.slice a1 x1.length c1, .int .i64 i2] 8 ?_
        refine Zy (.pointer (some (adr a1 (i2.toNat * 1)))) (Zi 99 101 1 (a1) (x1.length) (c1) .i64 (i2) Tryz.underlying99 ((H8.rdRows 0 rfl).cell hx4).1 hx4l hx4u) ?_
        refine Zy (.slice a7 x7.length c7) (Zl 101 (adr a1 (i2.toNat * 1)) (.slice a7 x7.length c7) (H9.cellPin 0 rfl 0 rfl)) ?_
        refine Zb [.int .i64 i1] 12 ?_
        refine Zy (.pointer (some (adr a7 (i1.toNat * 1)))) (Zi 101 4 1 (a7) (x7.length) (c7) .i64 (i1) Tryz.underlying101 ((H9.rdPin 0 rfl 0 rfl).cell hx5).1 hx5l hx5u) ?_
        refine Zy (.bool x8) (Zl 4 (adr a7 (i1.toNat * 1)) (.bool x8) (cd4_cell (H9.rdPin 0 rfl 0 rfl) hx5)) ?_
        refine Zv x8 x6 gx6 ?_
        exact Zd [0, 3, 4, 5, 6, 7, 11, 12, 16, 17, 35]
       ·refine Zv x5 false hb3 ?_
        have gx6 := M.ret_some ((M.ite_some gx6).2 hb3)
        refine Zn ?_
        refine Zn ?_
        refine Zn ?_
        refine Zn ?_
        refine Zn ?_
        refine Zn ?_
        refine Zn ?_
        refine Zv false x6 gx6 ?_
        exact Zd [0, 3, 4, 5, 6, 7, 11, 12, 16, 17, 35]
      exact Zd [0, 3, 4, 5, 6, 7, 11, 12, 16, 17, 35]
     obtain ⟨s3, gs3, hB2⟩ := M.bind_some hB2
     refine Run_join (fun L' h' => ∃ (a10 : Option Addr), ∃ (c9 : Nat), L' = [(0, .slice aa_ a_.length ca_), (3, .slice a1 x1.length c1), (4, .slice a2 s1.length c2), (5, .int .i64 i1), (6, .slice a10 s3.length c9), (11, .int .i64 (a_.length : Int)), (12, .int .i64 i1), (16, .int .i64 (a_.length : Int)), (17, .int .i64 i2)] ∧ Hold h h' [own cd101 a1 x1.length c1 x1, own cd24 a2 s1.length c2 s1, own cd2 a10 s3.length c9 s3]) ?_ ?_
     ·rintro _ h8 ⟨a10, c9, rfl, H15⟩
      refine Run_blk ?_
      refine Zg 2 [(0, .slice aa_ a_.length ca_), (3, .slice a1 x1.length c1), (4, .slice a2 s1.length c2), (5, .int .i64 i1), (6, .slice a10 s3.length c9), (11, .int .i64 (a_.length : Int)), (12, .int .i64 i1), (16, .int .i64 (a_.length : Int)), (17, .int .i64 (i2 + 1))] ?_ ?_
      ·refine Zy (.int .i64 (i2 + 1)) (Y_eq (v := .int .i64 (w64 (i2 + 1))) (Y_pure (fun w => by kernel_rfl)) (by rw [w64_eq _ (by omega)])) ?_
       refine Zb [.int .i64 (i2 + 1)] 1 ?_
       exact Zd [0, 3, 4, 5, 6, 11, 12, 16, 17]
      have H23 : Hold h h8 [own cd2 a10 s3.length c9 s3, own cd101 a1 x1.length c1 x1, own cd24 a2 s1.length c2 s1] := H15.pk [2, 0, 1]
      have H24 : Hold h h8 [own cd101 a1 x1.length c1 x1, own cd24 a2 s1.length c2 s1, own cd2 a10 s3.length c9 s3] := H23.pk [1, 2, 0]
      have hB2 := M.ret_some hB2
      have gx3 := hgoy2 _ hB2.symm
      exact Za [0, 3, 4, 5, 6, 11, 12, 16, 17] my2 ⟨i2 + 1, s3, a10, c9, by omega, gx3, rfl, H24⟩
     ·refine Zc (x6) (fun hb4 => ?_) (fun hb4 => ?_)
      ·have gs3 := (M.ite_some gs3).1 hb4
       refine Run_ops ?_
       refine Zr [.slice a4 s2.length c4, .int .i64 i2] 0 ?_
       refine Ze ?_
       refine E_lit (C := cd2) (n := 1) (l := ([i2] : List Int)) (cs := [.int .i64 i2]) H8 (fun w => by kernel_rfl) (Enc.consE (cd2_own i2 _) (Enc.nil _ _) rfl) rfl (by decide) (fun a8 h6 H10 => ?_)
       obtain ⟨l1, hl1, gs3⟩ := M.bind_some gs3
       have hl1 := M.app_some hl1
       have H11 : Hold h h6 [own cd2 a4 s2.length c4 s2, own cd2 a8 1 1 ([i2] : List Int), rowsP cd4 101 a1 x1.length c1 x1 [(i1.toNat, a6, x4.length, c6, x4)], own cd24 a2 s1.length c2 s1] := H10.pk [3, 0, 1, 2]
       have H12 : Hold h h6 [own cd2 a8 1 1 ([i2] : List Int), own cd2 a4 s2.length c4 s2, rowsP cd4 101 a1 x1.length c1 x1 [(i1.toNat, a6, x4.length, c6, x4)], own cd24 a2 s1.length c2 s1] := H11.pk [1, 0, 2, 3]
       have H13 : Hold h h6 [own cd2 a4 s2.length c4 s2, own cd2 a8 1 1 ([i2] : List Int), rowsP cd4 101 a1 x1.length c1 x1 [(i1.toNat, a6, x4.length, c6, x4)], own cd24 a2 s1.length c2 s1] := H12.pk [1, 0, 2, 3]
       refine Ze ?_
       refine E_app (C := cd2) (t := 24) (ty := 24) (n := s2.length) (m := 1) H13 cd2_ti rfl Tryz.underlying24 (by decide) (by kernel_rfl) hl1 (fun a9 c8 h7 H14 => ?_)
       refine Zr [.slice a9 l1.length c8] 4 ?_
       refine Zx ?_
       refine Zk [0, 3, 4, 5, 6, 11, 12, 16, 17] [(0, .slice aa_ a_.length ca_), (3, .slice a1 x1.length c1), (4, .slice a2 s1.length c2), (5, .int .i64 i1), (6, .slice a9 l1.length c8), (11, .int .i64 (a_.length : Int)), (12, .int .i64 i1), (16, .int .i64 (a_.length : Int)), (17, .int .i64 i2)] ?_
       have H16 : Hold h h7 [rowsP cd4 101 a1 x1.length c1 x1 [(i1.toNat, a6, x4.length, c6, x4)], own cd2 a9 l1.length c8 l1, own cd24 a2 s1.length c2 s1] := H14.pk [1, 0, 2]
       have H17 := H16.ofRows
       have H18 : Hold h h7 [own cd2 a9 l1.length c8 l1, own cd101 a1 x1.length c1 x1, own cd24 a2 s1.length c2 s1] := H17.pk [1, 0, 2]
       have H19 : Hold h h7 [own cd101 a1 x1.length c1 x1, own cd24 a2 s1.length c2 s1, own cd2 a9 l1.length c8 l1] := H18.pk [1, 2, 0]
       have gs3 := M.ret_some gs3
       subst gs3
       exact Zf [0, 3, 4, 5, 6, 11, 12, 16, 17] ⟨a9, c8, rfl, H19⟩
      ·have gs3 := (M.ite_some gs3).2 hb4
       refine Run_skip ?_
       have H20 := H8.ofRows
       have H21 : Hold h h4 [own cd2 a4 s2.length c4 s2, own cd101 a1 x1.length c1 x1, own cd24 a2 s1.length c2 s1] := H20.pk [2, 0, 1]
       have H22 : Hold h h4 [own cd101 a1 x1.length c1 x1, own cd24 a2 s1.length c2 s1, own cd2 a4 s2.length c4 s2] := H21.pk [1, 2, 0]
       have gs3 := M.ret_some gs3
       subst gs3
       exact Zf [0, 3, 4, 5, 6, 11, 12, 16, 17] ⟨a4, c4, rfl, H22⟩
    ·have gx3 := M.for_end gx3 hb2
     subst gx3
     refine Run_exit (k' := _) rfl ?_
     have H25 : Hold h h4 [own cd2 a4 s2.length c4 s2, own cd101 a1 x1.length c1 x1, own cd24 a2 s1.length c2 s1] := H5.pk [2, 0, 1]
     have H26 : Hold h h4 [own cd101 a1 x1.length c1 x1, own cd24 a2 s1.length c2 s1, own cd2 a4 s2.length c4 s2] := H25.pk [1, 2, 0]
     exact Zf [0, 3, 4, 5, 6, 11, 12] ⟨a4, c4, rfl, H26⟩
  ·have gx2 := M.for_end gx2 hb1
   subst gx2
   refine Run_exit (k' := _) rfl ?_
   have H41 : Hold h h2 [own cd24 a2 s1.length c2 s1, own cd101 a1 x1.length c1 x1] := H3.pk [1, 0]
   have H42 : Hold h h2 [own cd24 a2 s1.length c2 s1] := H41.pk [0]
   exact Zf [4] ⟨a2, c2, rfl, H42⟩

theorem w_impl_criticalComponents_1 (h : Heap) (component : List Int) {Scomponent : Bs} (acomponent : Option Addr) (ccomponent : Nat) (rcomponent : Rd cd2 h Scomponent acomponent ccomponent component) (z0 : List (List Int)) {Sz0 : Bs} (az0 : Option Addr) (cz0 : Nat) (rz0 : Rd cd24 h Sz0 az0 cz0 z0) (bz0 : Nat) (vz0 : VarAt h bz0 22 [.slice az0 z0.length cz0]) (n : Nat) (r : Bool) (hF : impl_criticalComponents_1 component z0 n = some r) :
  Fn Tryz.prog 74 #[.slice acomponent component.length ccomponent, pV bz0] h fun v h' => v = .bool r ∧ h' = h := by
 unfold impl_criticalComponents_1 at hF
 refine Zo [.slice acomponent component.length ccomponent, pV bz0] Tryz.func74 rfl (fun w0 _ => ?_)
 refine Zs ?_
 refine Zq [.bool false] [0, 1] [(0, .slice acomponent component.length ccomponent), (1, pV bz0)] ?_
 refine Zs ?_
 obtain ⟨x1, hx1, hF⟩ := M.bind_some hF
 obtain ⟨hx1l, hx1u, hx1⟩ := M.idx_some hx1
 refine Zg 4 [(0, .slice acomponent component.length ccomponent), (1, pV bz0), (4, .int .i64 x1)] ?_ ?_
 ·refine Zb [.slice acomponent component.length ccomponent] 0 ?_
  refine Zy (.pointer (some (adr acomponent (0 * 1)))) (Zi 24 2 1 (acomponent) (component.length) (ccomponent) .i64 (0) Tryz.underlying24 (rcomponent.cell hx1).1 hx1l hx1u) ?_
  refine Zy (.int .i64 x1) (Zl 2 (adr acomponent (0 * 1)) (.int .i64 x1) (cd2_cell rcomponent hx1)) ?_
  refine Zb [.int .i64 x1] 3 ?_
  exact Zd [0, 1, 4]
 refine Zs ?_
 obtain ⟨x2, gx2, hF⟩ := M.bind_some hF
 refine Zg 14 [(3, .bool x2)] ?_ ?_
 ·refine Zb [.slice acomponent component.length ccomponent, .int .i64 (component.length : Int), .bool ((component.length : Int) == 1)] 0 ?_
  refine QRun_seq 13 [(20, .bool x2)] ?_ ?_
  ·rcases Bool.eq_false_or_eq_true ((component.length : Int) == 1) with hb1 | hb1
   ·refine Zv ((component.length : Int) == 1) true hb1 ?_
    have gx2 := (M.ite_some gx2).1 hb1
    obtain ⟨x3, hx2, gx2⟩ := M.bind_some gx2
    obtain ⟨hx2l, hx2u, hx2⟩ := M.idx_some hx2
    obtain ⟨a1, c1, hc1, r1⟩ := rz0.row hx2
    obtain ⟨x4, hx3, gx2⟩ := M.bind_some gx2
    obtain ⟨hx3l, hx3u, hx3⟩ := M.idx_some hx3
    have gx2 := M.ret_some gx2
    refine Zy (.slice az0 z0.length cz0) (Zl 22 (⟨bz0, 0, none⟩) (.slice az0 z0.length cz0) (VarAt.cell vz0 rfl)) ?_
    refine Zb [.int .i64 x1] 5 ?_
    refine Zy (.pointer (some (adr az0 (x1.toNat * 1)))) (Zi 22 24 1 (az0) (z0.length) (cz0) .i64 (x1) Tryz.underlying22 (rz0.cell hx2).1 hx2l hx2u) ?_
    refine Zy (.slice a1 x3.length c1) (Zl 24 (adr az0 (x1.toNat * 1)) (.slice a1 x3.length c1) hc1) ?_
    refine Zb [.int .i64 x1] 8 ?_
    refine Zy (.pointer (some (adr a1 (x1.toNat * 1)))) (Zi 24 2 1 (a1) (x3.length) (c1) .i64 (x1) Tryz.underlying24 (r1.cell hx3).1 hx3l hx3u) ?_
    refine Zy (.int .i64 x4) (Zl 2 (adr a1 (x1.toNat * 1)) (.int .i64 x4) (cd2_cell r1 hx3)) ?_
    refine Zb [.bool (x4 == (-1000000000000000))] 11 ?_
    refine Zv (x4 == (-1000000000000000)) x2 gx2 ?_
    exact Zd [20]
   ·refine Zv ((component.length : Int) == 1) false hb1 ?_
    have gx2 := M.ret_some ((M.ite_some gx2).2 hb1)
    refine Zn ?_
    refine Zn ?_
    refine Zn ?_
    refine Zn ?_
    refine Zn ?_
    refine Zn ?_
    refine Zn ?_
    refine Zn ?_
    refine Zv false x2 gx2 ?_
    exact Zd [20]
  refine Zb [.bool x2] 13 ?_
  exact Zd [3]
 have hF := M.ret_some hF
 subst hF
 exact Run_ret1 rfl (Zt (.bool x2)) ⟨rfl, rfl⟩

theorem w_slices_IndexFunc_row_F_impl_criticalComponents_1 (h : Heap) (s_ : List (List Int)) {Ss_ : Bs} (as_ : Option Addr) (cs_ : Nat) (rs_ : Rd cd24 h Ss_ as_ cs_ s_) (f0 : List (List Int)) {Sf0 : Bs} (af0 : Option Addr) (cf0 : Nat) (rf0 : Rd cd24 h Sf0 af0 cf0 f0) (bf0 : Nat) (vf0 : VarAt h bf0 22 [.slice af0 f0.length cf0]) (n : Nat) (r : Int) (hF : slices_IndexFunc_row_F_impl_criticalComponents_1 s_ f0 n = some r) :
  Fn Tryz.prog 113 #[.slice as_ s_.length cs_, .func (.func 74) #[] #[pV bf0]] h fun v h' => v = .int .i64 r ∧ h' = h := by
 unfold slices_IndexFunc_row_F_impl_criticalComponents_1 at hF
 refine Zo [.slice as_ s_.length cs_, .func (.func 74) #[] #[pV bf0]] Tryz.func113 rfl (fun w0 _ => ?_)
 refine Zs ?_
 refine Zq [.int .i64 0] [0, 1] [(0, .slice as_ s_.length cs_), (1, .func (.func 74) #[] #[pV bf0])] ?_
 refine Zs ?_
 refine Zs ?_
 refine Zq [.slice as_ s_.length cs_, .int .i64 (s_.length : Int), .int .i64 0] [0, 1, 7, 8] [(0, .slice as_ s_.length cs_), (1, .func (.func 74) #[] #[pV bf0]), (7, .int .i64 (s_.length : Int)), (8, .int .i64 0)] ?_
 obtain ⟨x1, gx1, hF⟩ := M.bind_some hF
 obtain ⟨hloy1, hhiy1, gx1⟩ := M.for_start gx1
 refine Run_join (fun L' h' => ∃ (s2 : Unit), x1 = .inl s2 ∧ L' = [] ∧ h = h') ?_ ?_
 ·rintro _ _ ⟨s2, es2, rfl, rfl⟩
  have hF := M.cont_inl' hF es2
  refine Zs ?_
  refine Zq [.int .i64 (-1)] [4] [(4, .int .i64 (-1))] ?_
  have hF := M.ret_some hF
  subst hF
  exact Run_ret1 rfl (Zt (.int .i64 (-1))) ⟨rfl, rfl⟩
 ·refine Run_block ?_
  refine Zk [0, 1, 7, 8] [(0, .slice as_ s_.length cs_), (1, .func (.func 74) #[] #[pV bf0]), (7, .int .i64 (s_.length : Int)), (8, .int .i64 0)] ?_
  refine Run_loop (fun m L' h' => ∃ (i1 : Int) (s1 : Unit), 0 ≤ i1 ∧ M.forN (s_.length : Int) _ _ n m i1 s1 = some x1 ∧ L' = [(0, .slice as_ s_.length cs_), (1, .func (.func 74) #[] #[pV bf0]), (7, .int .i64 (s_.length : Int)), (8, .int .i64 i1)] ∧ h = h') ((s_.length : Int) - 0 : Int).toNat ⟨0, (), Int.le_refl _, gx1, rfl, rfl⟩ ?_
  rintro my1 _ _ ⟨i1, s1, hloy1', gx1, rfl, rfl⟩
  refine Zs ?_
  refine Zq [.bool (decide (i1 < (s_.length : Int)))] [0, 1, 7, 8, 9] [(0, .slice as_ s_.length cs_), (1, .func (.func 74) #[] #[pV bf0]), (7, .int .i64 (s_.length : Int)), (8, .int .i64 i1), (9, .bool (decide (i1 < (s_.length : Int))))] ?_
  refine Zs ?_
  refine Zc (decide (i1 < (s_.length : Int))) (fun hb1 => ?_) (fun hb1 => ?_)
  ·obtain ⟨my1, y1, rfl, hB1, hgoy1, houty1⟩ := M.for_go gx1 hb1
   have hlty1 := of_decide_eq_true hb1
   refine Run_skip ?_
   refine Zs ?_
   refine Run_block ?_
   refine Zs ?_
   refine Zq [.int .i64 i1, .int .i64 i1] [0, 1, 5, 7, 8] [(0, .slice as_ s_.length cs_), (1, .func (.func 74) #[] #[pV bf0]), (5, .int .i64 i1), (7, .int .i64 (s_.length : Int)), (8, .int .i64 i1)] ?_
   refine Zs ?_
   obtain ⟨x2, hx1, hB1⟩ := M.bind_some hB1
   obtain ⟨hx1l, hx1u, hx1⟩ := M.idx_some hx1
   obtain ⟨a1, c1, hc1, r1⟩ := rs_.row hx1
   obtain ⟨x3, hx2, hB1⟩ := M.bind_some hB1
   refine Zg 6 [(0, .slice as_ s_.length cs_), (1, .func (.func 74) #[] #[pV bf0]), (5, .int .i64 i1), (7, .int .i64 (s_.length : Int)), (8, .int .i64 i1), (16, .bool x3)] ?_ ?_
   ·refine Zb [.func (.func 74) #[] #[pV bf0], .slice as_ s_.length cs_, .int .i64 i1] 0 ?_
    refine Zy (.pointer (some (adr as_ (i1.toNat * 1)))) (Zi 22 24 1 (as_) (s_.length) (cs_) .i64 (i1) Tryz.underlying22 (rs_.cell hx1).1 hx1l hx1u) ?_
    refine Zy (.slice a1 x2.length c1) (Zl 24 (adr as_ (i1.toNat * 1)) (.slice a1 x2.length c1) hc1) ?_
    refine Zy (.bool x3) (ZQ 74 #[.slice a1 x2.length c1, pV bf0] (w_impl_criticalComponents_1 h x2 a1 c1 r1 f0 af0 cf0 rf0 bf0 vf0 _ _ hx2)) ?_
    exact Zd [0, 1, 5, 7, 8, 16]
   refine Zc (x3) (fun hb2 => ?_) (fun hb2 => ?_)
   ·have hB1 := (M.ite_some hB1).1 hb2
    refine Zs ?_
    refine Zq [.int .i64 i1, .int .i64 i1] [4] [(4, .int .i64 i1)] ?_
    have hB1 := M.ret_some hB1
    have gx1 := houty1 _ hB1.symm
    have hF := M.cont_inr' hF gx1
    have hF := M.ret_some hF
    subst hF
    exact Run_ret1 rfl (Zt (.int .i64 i1)) ⟨rfl, rfl⟩
   ·have hB1 := (M.ite_some hB1).2 hb2
    refine Run_skip ?_
    refine Run_blk ?_
    refine Zg 2 [(0, .slice as_ s_.length cs_), (1, .func (.func 74) #[] #[pV bf0]), (7, .int .i64 (s_.length : Int)), (8, .int .i64 (i1 + 1))] ?_ ?_
    ·refine Zy (.int .i64 (i1 + 1)) (Y_eq (v := .int .i64 (w64 (i1 + 1))) (Y_pure (fun w => by kernel_rfl)) (by rw [w64_eq _ (by omega)])) ?_
     refine Zb [.int .i64 (i1 + 1)] 1 ?_
     exact Zd [0, 1, 7, 8]
    have hB1 := M.ret_some hB1
    have gx1 := hgoy1 _ hB1.symm
    exact Za [0, 1, 7, 8] my1 ⟨i1 + 1, (), by omega, gx1, rfl, rfl⟩
  ·have gx1 := M.for_end gx1 hb1
   subst gx1
   refine Run_exit (k' := _) rfl ?_
   exact Zf [] ⟨(), rfl, rfl, rfl⟩

theorem w_slices_DeleteFunc_row_F_impl_criticalComponents_1 (h hE : Heap) (it : Item) (s_ : List (List Int)) (as_ : Option Addr) (cs_ : Nat) (del0 : List (List Int)) (adel0 : Option Addr) (cdel0 : Nat) (rdel0 : Rd cd24 h (Lt h) adel0 cdel0 del0) (bdel0 : Nat) (HM : Hold h hE [lrows cd2 24 as_ s_.length cs_ s_, box bdel0 22 [.slice adel0 del0.length cdel0], it]) (n : Nat) (r : (List (List Int))) (hF : slices_DeleteFunc_row_F_impl_criticalComponents_1 s_ del0 n = some r) :
  Fn Tryz.prog 72 #[.slice as_ s_.length cs_, .func (.func 74) #[] #[pV bdel0]] hE fun v h' => ∃ (a0 : Option Addr) (c0 : Nat), v = .slice a0 r.length c0 ∧ Rd cd24 h' (Lt h') a0 c0 r ∧ Hold h h' [box bdel0 22 [.slice adel0 del0.length cdel0], it] := by
 unfold slices_DeleteFunc_row_F_impl_criticalComponents_1 at hF
 refine Zo [.slice as_ s_.length cs_, .func (.func 74) #[] #[pV bdel0]] Tryz.func72 rfl (fun w0 _ => ?_)
 refine Zs ?_
 refine Zq [.slice none 0 0] [0, 1] [(0, .slice as_ s_.length cs_), (1, .func (.func 74) #[] #[pV bdel0])] ?_
 refine Zs ?_
 obtain ⟨x1, hx1, hF⟩ := M.bind_some hF
 refine Zg 4 [(0, .slice as_ s_.length cs_), (1, .func (.func 74) #[] #[pV bdel0]), (5, .int .i64 x1)] ?_ ?_
 ·refine Zb [.slice as_ s_.length cs_, .func (.func 74) #[] #[pV bdel0]] 0 ?_
  refine Zy (.int .i64 x1) (ZQ 113 #[.slice as_ s_.length cs_, .func (.func 74) #[] #[pV bdel0]] (w_slices_IndexFunc_row_F_impl_criticalComponents_1 hE s_ as_ cs_ (HM.rdL 0 rfl) del0 adel0 cdel0 (rdel0.at HM.ext) bdel0 (HM.var 1 rfl) _ _ hx1)) ?_
  refine Zb [.int .i64 x1] 3 ?_
  exact Zd [0, 1, 5]
 refine Zs ?_
 refine Zs ?_
 refine Zq [.int .i64 x1, .bool (x1 == (-1))] [0, 1, 5, 12] [(0, .slice as_ s_.length cs_), (1, .func (.func 74) #[] #[pV bdel0]), (5, .int .i64 x1), (12, .bool (x1 == (-1)))] ?_
 refine Zc (x1 == (-1)) (fun hb1 => ?_) (fun hb1 => ?_)
 ·have hF := (M.ite_some hF).1 hb1
  refine Zs ?_
  refine Zq [.slice as_ s_.length cs_, .slice as_ s_.length cs_] [4] [(4, .slice as_ s_.length cs_)] ?_
  have hF := M.ret_some hF
  subst hF
  have rV1 := (HM.rdL 0 rfl)
  have H1 : Hold h hE [box bdel0 22 [.slice adel0 del0.length cdel0], it] := HM.pk [1, 2]
  exact Run_ret1 rfl (Zt (.slice as_ s_.length cs_)) ⟨as_, cs_, rfl, rV1, H1⟩
 ·have hF := (M.ite_some hF).2 hb1
  refine Run_skip ?_
  refine Zs ?_
  refine Zs ?_
  refine Zq [.int .i64 x1, .int .i64 (w64 (x1 + 1)), .int .i64 (w64 (x1 + 1))] [0, 1, 5, 6] [(0, .slice as_ s_.length cs_), (1, .func (.func 74) #[] #[pV bdel0]), (5, .int .i64 x1), (6, .int .i64 (w64 (x1 + 1)))] ?_
  obtain ⟨x2, gx2, hF⟩ := M.bind_some hF
  obtain ⟨hloy1, hhiy1, gx2⟩ := M.for_start gx2
  refine Run_join (fun L' h' => L' = [(0, .slice as_ s_.length cs_), (5, .int .i64 x2.2)] ∧ Hold h h' [lrows cd2 24 as_ s_.length cs_ x2.1, box bdel0 22 [.slice adel0 del0.length cdel0], it]) ?_ ?_
  ·rintro _ h2 ⟨rfl, H3⟩
   refine Zs ?_
   refine Run_ops ?_
   obtain ⟨x6, hx5, hF⟩ := M.bind_some hF
   obtain ⟨hx5a, hx5b, hx5c, hx5d⟩ := M.sub_some hx5
   have hn1 : x6.length = (s_.length : Int).toNat - (x2.2 : Int).toNat := by rw [hx5d, List.length_take, List.length_drop]; omega
   refine Zr [.slice as_ s_.length cs_, .int .i64 x2.2] 0 ?_
   refine Zz (.slice (sliceA as_ cs_ x2.2.toNat 1) ((s_.length : Int).toNat - (x2.2 : Int).toNat) (cs_ - x2.2.toNat)) (Y_slice (t := 22) (e := 24) (sz := 1) (a := as_) (n := s_.length) (cap := cs_) (lo := (some (.i64, x2.2))) (hi := none) (x := x2.2) (y := (s_.length : Int)) (by kernel_rfl) Tryz.underlying22 (by kernel_rfl) (by rw [← (H3.lenL 0 rfl)]; exact (H3.rdL 0 rfl).fits) rfl rfl hx5a hx5b (by have := (H3.lenL 0 rfl); have := hx5c; omega)) ?_
   refine Ze ?_
   refine E_clearL (C := cd2) (t := 22) (ty := 0) (ey := 24) (n := s_.length) (m := (s_.length : Int).toNat - (x2.2 : Int).toNat) (c2 := cs_ - x2.2.toNat) (k := x2.2.toNat) H3 cd24_ti Tryz.underlying22 (by kernel_rfl) (by have := H3.lenL 0 rfl; omega) (by have := H3.lenL 0 rfl; omega) (fun h5 H6 => ?_)
   have hn2 : s_.length = (x2.1.take x2.2.toNat ++ List.replicate ((s_.length : Int).toNat - (x2.2 : Int).toNat) []).length := by have := H6.lenL 0 rfl; exact this.symm
   refine Zx ?_
   refine Zk [0, 5] [(0, .slice as_ s_.length cs_), (5, .int .i64 x2.2)] ?_
   refine Zs ?_
   obtain ⟨x7, hx6, hF⟩ := M.bind_some hF
   obtain ⟨hx6a, hx6b, hx6c, hx6d⟩ := M.sub_some hx6
   have hx6q : x7 = (x2.1.take x2.2.toNat ++ List.replicate ((s_.length : Int).toNat - (x2.2 : Int).toNat) []).take x2.2.toNat := by rw [hx6d]; rfl
   have H8 := Hold.cutL (k := x2.2.toNat) H6 (by have := H6.lenL 0 rfl; omega)
   have H9 : Hold h h5 [lrows cd2 24 as_ x7.length cs_ x7, box bdel0 22 [.slice adel0 del0.length cdel0], it] := by rw [hx6q]; exact H8.normL
   refine Zg 4 [(4, .slice as_ x7.length cs_)] ?_ ?_
   ·refine Zb [.slice as_ s_.length cs_, .int .i64 x2.2] 0 ?_
    refine Zy (.slice as_ x7.length cs_) (Y_eq (Y_slice (t := 22) (e := 24) (sz := 1) (a := as_) (n := s_.length) (cap := cs_) (lo := none) (hi := (some (.i64, x2.2))) (x := 0) (y := x2.2) (by kernel_rfl) Tryz.underlying22 (by kernel_rfl) (by rw [← (H6.lenL 0 rfl)]; exact (H6.rdL 0 rfl).fits) rfl rfl hx6a hx6b (by have := (H6.lenL 0 rfl); have := hx6c; omega)) (by rw [show sliceA as_ cs_ (0 : Int).toNat 1 = as_ from sliceA0 (H9.rdL 0 rfl)]; congr 1; simp only [hx6q, List.length_take]; omega)) ?_
    refine Zb [.slice as_ x7.length cs_] 3 ?_
    exact Zd [4]
   have hF := M.ret_some hF
   subst hF
   have rV2 := (H9.rdL 0 rfl)
   have H10 : Hold h h5 [box bdel0 22 [.slice adel0 del0.length cdel0], it] := H9.pk [1, 2]
   exact Run_ret1 rfl (Zt (.slice as_ x7.length cs_)) ⟨as_, cs_, rfl, rV2, H10⟩
  ·refine Run_block ?_
   refine Zk [0, 1, 5, 6] [(0, .slice as_ s_.length cs_), (1, .func (.func 74) #[] #[pV bdel0]), (5, .int .i64 x1), (6, .int .i64 (w64 (x1 + 1)))] ?_
   refine Run_loop (fun m L' h' => ∃ (i1 : Int) (s1 : (List (List Int)) × Int), w64 (x1 + 1) ≤ i1 ∧ M.forN (s_.length : Int) _ _ n m i1 s1 = some x2 ∧ L' = [(0, .slice as_ s_.length cs_), (1, .func (.func 74) #[] #[pV bdel0]), (5, .int .i64 s1.2), (6, .int .i64 i1)] ∧ Hold h h' [lrows cd2 24 as_ s_.length cs_ s1.1, box bdel0 22 [.slice adel0 del0.length cdel0], it]) ((s_.length : Int) - (w64 (x1 + 1)) : Int).toNat ⟨w64 (x1 + 1), (s_, x1), Int.le_refl _, gx2, rfl, HM⟩ ?_
   rintro my1 _ h1 ⟨i1, s1, hloy1', gx2, rfl, H2⟩
   refine Zs ?_
   refine Zs ?_
   refine Zq [.int .i64 i1, .slice as_ s_.length cs_, .int .i64 (s_.length : Int), .bool (decide (i1 < (s_.length : Int)))] [0, 1, 5, 6, 19] [(0, .slice as_ s_.length cs_), (1, .func (.func 74) #[] #[pV bdel0]), (5, .int .i64 s1.2), (6, .int .i64 i1), (19, .bool (decide (i1 < (s_.length : Int))))] ?_
   refine Zc (decide (i1 < (s_.length : Int))) (fun hb2 => ?_) (fun hb2 => ?_)
   ·obtain ⟨my1, y1, rfl, hB1, hgoy1, houty1⟩ := M.for_go gx2 hb2
    have hlty1 := of_decide_eq_true hb2
    refine Run_skip ?_
    refine Zs ?_
    refine Run_block ?_
    refine Zs ?_
    obtain ⟨x3, hx2, hB1⟩ := M.bind_some hB1
    obtain ⟨hx2l, hx2u, hx2⟩ := M.idx_some hx2
    obtain ⟨a1, c1, hc1, r1⟩ := (H2.rdL 0 rfl).row hx2
    refine Zg 5 [(0, .slice as_ s_.length cs_), (1, .func (.func 74) #[] #[pV bdel0]), (5, .int .i64 s1.2), (6, .int .i64 i1), (7, .slice a1 x3.length c1)] ?_ ?_
    ·refine Zb [.slice as_ s_.length cs_, .int .i64 i1] 0 ?_
     refine Zy (.pointer (some (adr as_ (i1.toNat * 1)))) (Zi 22 24 1 (as_) (s_.length) (cs_) .i64 (i1) Tryz.underlying22 ((H2.rdL 0 rfl).cell hx2).1 hx2l (by rw [← (H2.lenL 0 rfl)]; exact hx2u)) ?_
     refine Zy (.slice a1 x3.length c1) (Zl 24 (adr as_ (i1.toNat * 1)) (.slice a1 x3.length c1) hc1) ?_
     refine Zb [.slice a1 x3.length c1] 4 ?_
     exact Zd [0, 1, 5, 6, 7]
    refine Zs ?_
    obtain ⟨x4, hx3, hB1⟩ := M.bind_some hB1
    refine Zg 4 [(0, .slice as_ s_.length cs_), (1, .func (.func 74) #[] #[pV bdel0]), (5, .int .i64 s1.2), (6, .int .i64 i1), (7, .slice a1 x3.length c1), (29, .bool (!x4))] ?_ ?_
    ·refine Zb [.func (.func 74) #[] #[pV bdel0], .slice a1 x3.length c1] 0 ?_
     refine Zy (.bool x4) (ZQ 74 #[.slice a1 x3.length c1, pV bdel0] (w_impl_criticalComponents_1 h1 x3 a1 c1 r1 del0 adel0 cdel0 (rdel0.at H2.ext) bdel0 (H2.var 1 rfl) _ _ hx3)) ?_
     refine Zb [.bool (!x4)] 3 ?_
     exact Zd [0, 1, 5, 6, 7, 29]
    obtain ⟨s2, gs2, hB1⟩ := M.bind_some hB1
    refine Run_join (fun L' h' => L' = [(0, .slice as_ s_.length cs_), (1, .func (.func 74) #[] #[pV bdel0]), (5, .int .i64 s2.2), (6, .int .i64 i1)] ∧ Hold h h' [lrows cd2 24 as_ s_.length cs_ s2.1, box bdel0 22 [.slice adel0 del0.length cdel0], it]) ?_ ?_
    ·rintro _ h4 ⟨rfl, H5⟩
     refine Run_blk ?_
     refine Zg 3 [(0, .slice as_ s_.length cs_), (1, .func (.func 74) #[] #[pV bdel0]), (5, .int .i64 s2.2), (6, .int .i64 (i1 + 1))] ?_ ?_
     ·refine Zb [.int .i64 i1] 0 ?_
      refine Zy (.int .i64 (i1 + 1)) (Y_eq (v := .int .i64 (w64 (i1 + 1))) (Y_pure (fun w => by kernel_rfl)) (by rw [w64_eq _ (by omega)])) ?_
      refine Zb [.int .i64 (i1 + 1)] 2 ?_
      exact Zd [0, 1, 5, 6]
     have hB1 := M.ret_some hB1
     have gx2 := hgoy1 _ hB1.symm
     exact Za [0, 1, 5, 6] my1 ⟨i1 + 1, (s2.1, s2.2), by omega, gx2, rfl, H5⟩
    ·refine Zc (!x4) (fun hb3 => ?_) (fun hb3 => ?_)
     ·have gs2 := (M.ite_some gs2).1 hb3
      refine Zs ?_
      refine Run_ops ?_
      obtain ⟨x5, hx4, gs2⟩ := M.bind_some gs2
      obtain ⟨hx4l, hx4u, hx4⟩ := M.idx_some hx4
      refine Zr [.slice as_ s_.length cs_, .int .i64 s1.2, .slice a1 x3.length c1] 0 ?_
      refine Zz (.pointer (some (adr as_ (s1.2.toNat * 1)))) (Zi 22 24 1 (as_) (s_.length) (cs_) .i64 (s1.2) Tryz.underlying22 ((H2.rdL 0 rfl).cell hx4).1 hx4l (by rw [← (H2.lenL 0 rfl)]; exact hx4u)) ?_
      obtain ⟨l1, hu1, gs2⟩ := M.bind_some gs2
      have hu1 := M.upd_some hu1
      refine Ze ?_
      refine E_putL (t := 24) (j := s1.2) H2 hx2 hc1 (by kernel_rfl) (by kernel_rfl) hu1 (fun h3 H4 => ?_)
      refine Zx ?_
      refine Zk [0, 1, 5, 6] [(0, .slice as_ s_.length cs_), (1, .func (.func 74) #[] #[pV bdel0]), (5, .int .i64 s1.2), (6, .int .i64 i1)] ?_
      refine Zq [.int .i64 s1.2, .int .i64 (w64 (s1.2 + 1)), .int .i64 (w64 (s1.2 + 1))] [0, 1, 5, 6] [(0, .slice as_ s_.length cs_), (1, .func (.func 74) #[] #[pV bdel0]), (5, .int .i64 (w64 (s1.2 + 1))), (6, .int .i64 i1)] ?_
      have gs2 := M.ret_some gs2
      subst gs2
      exact Zf [0, 1, 5, 6] ⟨rfl, H4⟩
     ·have gs2 := (M.ite_some gs2).2 hb3
      refine Run_skip ?_
      have gs2 := M.ret_some gs2
      subst gs2
      exact Zf [0, 1, 5, 6] ⟨rfl, H2⟩
   ·have gx2 := M.for_end gx2 hb2
    subst gx2
    refine Run_exit (k' := _) rfl ?_
    exact Zf [0, 5] ⟨rfl, H2⟩

theorem w_impl_criticalComponents (h : Heap) (critical : List (List Int)) (acritical : Option Addr) (ccritical : Nat) (rcritical : Rd cd24 h (Lt h) acritical ccritical critical) (n : Nat) (r : (List (List Int))) (hF : impl_criticalComponents critical n = some r) :
  Fn Tryz.prog 40 #[.slice acritical critical.length ccritical] h fun v h' => ∃ (a0 : Option Addr) (c0 : Nat), v = .slice a0 r.length c0 ∧ Rd cd24 h' (Lt h') a0 c0 r ∧ Hold h h' [] := by
 unfold impl_criticalComponents at hF
 refine Zo [.slice acritical critical.length ccritical] Tryz.func40 rfl (fun w0 _ => ?_)
 have H0 := Hold.init h
 refine Zs ?_
 refine Run_ops ?_
 refine Ze ?_
 refine E_box (ty := 22) (cs := [.slice acritical critical.length ccritical]) H0 (fun w => by kernel_rfl) (fun b1 h1 H1 => ?_)
 refine Zr [.slice none 0 0] 1 ?_
 refine Zx ?_
 refine Zk [1] [(1, pV b1)] ?_
 refine Zs ?_
 refine Run_ops ?_
 refine Zz (.slice acritical critical.length ccritical) (Zl 22 (⟨b1, 0, none⟩) (.slice acritical critical.length ccritical) (H1.cell 0 rfl rfl)) ?_
 obtain ⟨x1, hx1, hF⟩ := M.bind_some hF
 refine Ze ?_
 refine ZC 73 #[.slice acritical critical.length ccritical] (w_impl_componentsOf h1 critical acritical ccritical (rcritical.at H1.ext) _ _ hx1) (fun v1 h2 hp1 => ?_)
 obtain ⟨a1, c1, rfl, H2⟩ := hp1
 have H3 : Hold h h2 [own cd24 a1 x1.length c1 x1, box b1 22 [.slice acritical critical.length ccritical]] := H1.call H2 rfl
 refine Zr [.func (.func 74) #[] #[pV b1]] 2 ?_
 obtain ⟨x2, hx2, hF⟩ := M.bind_some hF
 have H4 := H3.toL
 have H5 : Hold h h2 [lrows cd2 24 a1 x1.length c1 x1, box b1 22 [.slice acritical critical.length ccritical], bun []] := Hold.bundle (S := [lrows cd2 24 a1 x1.length c1 x1, box b1 22 [.slice acritical critical.length ccritical]]) (R := []) H4
 refine Ze ?_
 refine ZC 72 #[.slice a1 x1.length c1, .func (.func 74) #[] #[pV b1]] (w_slices_DeleteFunc_row_F_impl_criticalComponents_1 h h2 _ x1 a1 c1 critical acritical ccritical rcritical b1 H5 _ _ hx2) (fun v2 h3 hp2 => ?_)
 obtain ⟨a2, c2, rfl, rV1, H6⟩ := hp2
 have H7 : Hold h h3 [box b1 22 [.slice acritical critical.length ccritical]] := Hold.unbundle (S := [box b1 22 [.slice acritical critical.length ccritical]]) (R := []) H6 (Hold.tailBase (S := [lrows cd2 24 a1 x1.length c1 x1, box b1 22 [.slice acritical critical.length ccritical]]) (R := []) H4)
 refine Zr [.slice a2 x2.length c2] 4 ?_
 refine Zx ?_
 refine Zk [2] [(2, .slice a2 x2.length c2)] ?_
 have hF := M.ret_some hF
 subst hF
 have rV2 := rV1
 have H8 : Hold h h3 [] := H7.pk []
 exact Run_ret1 rfl (Zt (.slice a2 x2.length c2)) ⟨a2, c2, rfl, rV2, H8⟩

theorem w_impl_transposed_1 (h : Heap) (i : Int) (j : Int) (z0 : List (List Int)) {Sz0 : Bs} (az0 : Option Addr) (cz0 : Nat) (rz0 : Rd cd24 h Sz0 az0 cz0 z0) (bz0 : Nat) (vz0 : VarAt h bz0 22 [.slice az0 z0.length cz0]) (n : Nat) (r : Int) (hF : impl_transposed_1 i j z0 n = some r) :
  Fn Tryz.prog 138 #[.int .i64 i, .int .i64 j, pV bz0] h fun v h' => v = .int .i64 r ∧ h' = h := by
 unfold impl_transposed_1 at hF
 refine Zo [.int .i64 i, .int .i64 j, pV bz0] Tryz.func138 rfl (fun w0 _ => ?_)
 refine Zs ?_
 refine Zq [.int .i64 0] [0, 1, 2] [(0, .int .i64 i), (1, .int .i64 j), (2, pV bz0)] ?_
 refine Zs ?_
 obtain ⟨x1, hx1, hF⟩ := M.bind_some hF
 obtain ⟨hx1l, hx1u, hx1⟩ := M.idx_some hx1
 obtain ⟨a1, c1, hc1, r1⟩ := rz0.row hx1
 obtain ⟨x2, hx2, hF⟩ := M.bind_some hF
 obtain ⟨hx2l, hx2u, hx2⟩ := M.idx_some hx2
 refine Zg 8 [(5, .int .i64 x2)] ?_ ?_
 ·refine Zy (.slice az0 z0.length cz0) (Zl 22 (⟨bz0, 0, none⟩) (.slice az0 z0.length cz0) (VarAt.cell vz0 rfl)) ?_
  refine Zb [.int .i64 j] 1 ?_
  refine Zy (.pointer (some (adr az0 (j.toNat * 1)))) (Zi 22 24 1 (az0) (z0.length) (cz0) .i64 (j) Tryz.underlying22 (rz0.cell hx1).1 hx1l hx1u) ?_
  refine Zy (.slice a1 x1.length c1) (Zl 24 (adr az0 (j.toNat * 1)) (.slice a1 x1.length c1) hc1) ?_
  refine Zb [.int .i64 i] 4 ?_
  refine Zy (.pointer (some (adr a1 (i.toNat * 1)))) (Zi 24 2 1 (a1) (x1.length) (c1) .i64 (i) Tryz.underlying24 (r1.cell hx2).1 hx2l hx2u) ?_
  refine Zy (.int .i64 x2) (Zl 2 (adr a1 (i.toNat * 1)) (.int .i64 x2) (cd2_cell r1 hx2)) ?_
  refine Zb [.int .i64 x2] 7 ?_
  exact Zd [5]
 have hF := M.ret_some hF
 subst hF
 exact Run_ret1 rfl (Zt (.int .i64 x2)) ⟨rfl, rfl⟩

end Go.Proofs.YtelopfgolahlpaaGreat
