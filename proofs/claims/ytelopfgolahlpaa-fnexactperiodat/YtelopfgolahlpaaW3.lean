/-
  Walks: each Go function, called with what reads as plain data, returns what its plain program computes.
  Conditions: None beyond the given statement.
-/
import Derived.Test.YtelopfgolahlpaaW2
namespace Go.Proofs.Ytelopfgolahlpaa
open Go
attribute [local irreducible] setL setB opA fineI idleI fineB evB okB markB markBs readyB readyBs chainB lk rho pickL dropSlot tailOK
set_option maxRecDepth 100000 in
set_option maxHeartbeats 4000000 in
theorem w_impl_componentsOf (h : Heap) (a_ : List (List Int)) (aa_ : Option Addr) (ca_ : Nat) (ra_ : Rd cd90 h (Lt h) aa_ ca_ a_) (n : Nat) (r : (List (List Int))) (hF : impl_componentsOf a_ n = some r) :
    Fn Try.prog 58 #[.slice aa_ a_.length ca_] h fun v h' => ∃ (a0 : Option Addr) (c0 : Nat), v = .slice a0 r.length c0 ∧ Hold h h' [own cd90 a0 r.length c0 r] := by
  unfold impl_componentsOf at hF
  refine Fn_enter (args := [.slice aa_ a_.length ca_]) Try.func58 rfl (by kernel_rfl) (by kernel_rfl) (fun w0 _ => ?_)
  have H0 := Hold.init h
  refine Zs ?_
  refine Zq [.slice none 0 0] [0] [(0, .slice aa_ a_.length ca_)] ?_
  refine Zs ?_
  refine Run_ops ?_
  refine Zr [.slice aa_ a_.length ca_] 0 ?_
  obtain ⟨x1, hx1, hF⟩ := M.bind_some hF
  refine Run_E (by kernel_rfl) ?_
  refine E_call (f := 103) (args := #[.slice aa_ a_.length ca_]) (w_impl_reaching h a_ aa_ ca_ ra_ _ _ hx1) (by kernel_rfl) (fun v1 h1 hp1 => ?_)
  obtain ⟨a1, c1, rfl, H1⟩ := hp1
  have H2 : Hold h h1 [own cd132 a1 x1.length c1 x1] := H0.call H1 rfl
  refine Zr [.slice a1 x1.length c1] 2 ?_
  refine Run_nil (by kernel_rfl) ?_
  refine Zk [0, 3] [(0, .slice aa_ a_.length ca_), (3, .slice a1 x1.length c1)] ?_
  refine Zs ?_
  refine Zq [.slice none 0 0] [0, 3, 4] [(0, .slice aa_ a_.length ca_), (3, .slice a1 x1.length c1), (4, .slice none 0 0)] ?_
  refine Zs ?_
  refine Zs ?_
  refine Zq [.slice aa_ a_.length ca_, .int .i64 (a_.length : Int), .int .i64 0] [0, 3, 4, 11, 12] [(0, .slice aa_ a_.length ca_), (3, .slice a1 x1.length c1), (4, .slice none 0 0), (11, .int .i64 (a_.length : Int)), (12, .int .i64 0)] ?_
  obtain ⟨x2, gx2, hF⟩ := M.bind_some hF
  obtain ⟨hloy1, hhiy1, gx2⟩ := M.for_start gx2
  refine Run_join (fun L' h' => ∃ (a3 : Option Addr) (c3 : Nat), L' = [(4, .slice a3 x2.length c3)] ∧ Hold h h' [own cd90 a3 x2.length c3 x2]) ?_ ?_
  · rintro _ h3 ⟨a3, c3, rfl, H4⟩
    refine Zs ?_
    refine Zq [.slice a3 x2.length c3, .slice a3 x2.length c3] [2] [(2, .slice a3 x2.length c3)] ?_
    have hF := M.ret_some hF
    subst hF
    exact Run_ret1 rfl (ResV_tmp (v := .slice a3 x2.length c3) (by kernel_rfl)) ⟨a3, c3, rfl, H4⟩
  · refine Run_block ?_
    have H43 := H2.empty cd90
    have H44 : Hold h h1 [own cd132 a1 x1.length c1 x1, own cd90 none 0 0 []] := H43.pick [1, 0] (by kernel_rfl)
    refine Zk [0, 3, 4, 11, 12] [(0, .slice aa_ a_.length ca_), (3, .slice a1 x1.length c1), (4, .slice none 0 0), (11, .int .i64 (a_.length : Int)), (12, .int .i64 0)] ?_
    refine Run_loop (fun m L' h' => ∃ (i1 : Int) (s1 : (List (List Int))) (a2 : Option Addr) (c2 : Nat), 0 ≤ i1 ∧ M.forN (a_.length : Int) _ _ n m i1 s1 = some x2 ∧ L' = [(0, .slice aa_ a_.length ca_), (3, .slice a1 x1.length c1), (4, .slice a2 s1.length c2), (11, .int .i64 (a_.length : Int)), (12, .int .i64 i1)] ∧ Hold h h' [own cd132 a1 x1.length c1 x1, own cd90 a2 s1.length c2 s1]) ((a_.length : Int) - 0 : Int).toNat ⟨0, [], none, 0, Int.le_refl _, gx2, rfl, H44⟩ ?_
    rintro my1 _ h2 ⟨i1, s1, a2, c2, hloy1', gx2, rfl, H3⟩
    refine Zs ?_
    refine Zq [.bool (decide (i1 < (a_.length : Int)))] [0, 3, 4, 11, 12, 13] [(0, .slice aa_ a_.length ca_), (3, .slice a1 x1.length c1), (4, .slice a2 s1.length c2), (11, .int .i64 (a_.length : Int)), (12, .int .i64 i1), (13, .bool (decide (i1 < (a_.length : Int))))] ?_
    refine Zs ?_
    refine Zc (decide (i1 < (a_.length : Int))) (fun hb1 => ?_) (fun hb1 => ?_)
    · obtain ⟨my1, y1, rfl, hB1, hgoy1, houty1⟩ := M.for_go gx2 hb1
      have hlty1 := of_decide_eq_true hb1
      refine Run_skip ?_
      refine Zs ?_
      refine Run_block ?_
      refine Zs ?_
      refine Zq [.int .i64 i1, .int .i64 i1] [0, 3, 4, 5, 11, 12] [(0, .slice aa_ a_.length ca_), (3, .slice a1 x1.length c1), (4, .slice a2 s1.length c2), (5, .int .i64 i1), (11, .int .i64 (a_.length : Int)), (12, .int .i64 i1)] ?_
      refine Zs ?_
      refine Zq [.slice none 0 0] [0, 3, 4, 5, 6, 11, 12] [(0, .slice aa_ a_.length ca_), (3, .slice a1 x1.length c1), (4, .slice a2 s1.length c2), (5, .int .i64 i1), (6, .slice none 0 0), (11, .int .i64 (a_.length : Int)), (12, .int .i64 i1)] ?_
      refine Zs ?_
      refine Zs ?_
      refine Zq [.slice aa_ a_.length ca_, .int .i64 (a_.length : Int), .int .i64 0] [0, 3, 4, 5, 6, 11, 12, 16, 17] [(0, .slice aa_ a_.length ca_), (3, .slice a1 x1.length c1), (4, .slice a2 s1.length c2), (5, .int .i64 i1), (6, .slice none 0 0), (11, .int .i64 (a_.length : Int)), (12, .int .i64 i1), (16, .int .i64 (a_.length : Int)), (17, .int .i64 0)] ?_
      obtain ⟨x3, gx3, hB1⟩ := M.bind_some hB1
      obtain ⟨hloy2, hhiy2, gx3⟩ := M.for_start gx3
      refine Run_join (fun L' h' => ∃ (a5 : Option Addr) (c5 : Nat), L' = [(0, .slice aa_ a_.length ca_), (3, .slice a1 x1.length c1), (4, .slice a2 s1.length c2), (5, .int .i64 i1), (6, .slice a5 x3.length c5), (11, .int .i64 (a_.length : Int)), (12, .int .i64 i1)] ∧ Hold h h' [own cd132 a1 x1.length c1 x1, own cd90 a2 s1.length c2 s1, own cd2 a5 x3.length c5 x3]) ?_ ?_
      · rintro _ h5 ⟨a5, c5, rfl, H6⟩
        refine Zs ?_
        obtain ⟨x9, hx6, hB1⟩ := M.bind_some hB1
        obtain ⟨hx6l, hx6u, hx6⟩ := M.idx_some hx6
        refine Zg 5 [(0, .slice aa_ a_.length ca_), (3, .slice a1 x1.length c1), (4, .slice a2 s1.length c2), (6, .slice a5 x3.length c5), (11, .int .i64 (a_.length : Int)), (12, .int .i64 i1), (45, .bool (x9 == i1))] ?_ ?_
        · refine Zb [.slice a5 x3.length c5] 0 ?_
          refine Zy (.pointer (some (adr a5 (0 * 1)))) (Zi 90 2 1 (a5) (x3.length) (c5) .i64 (0) Try.underlying90 ((H6.rd 2 rfl).cell hx6).1 hx6l hx6u) ?_
          refine Zy (.int .i64 x9) (Zl 2 (adr a5 (0 * 1)) (.int .i64 x9) (cd2_cell (H6.rd 2 rfl) hx6)) ?_
          refine Zb [.int .i64 i1, .bool (x9 == i1)] 3 ?_
          exact Zd [0, 3, 4, 6, 11, 12, 45]
        obtain ⟨s4, gs4, hB1⟩ := M.bind_some hB1
        refine Run_join (fun L' h' => ∃ (a13 : Option Addr), ∃ (c11 : Nat), L' = [(0, .slice aa_ a_.length ca_), (3, .slice a1 x1.length c1), (4, .slice a13 s4.length c11), (11, .int .i64 (a_.length : Int)), (12, .int .i64 i1)] ∧ Hold h h' [own cd132 a1 x1.length c1 x1, own cd90 a13 s4.length c11 s4]) ?_ ?_
        · rintro _ h11 ⟨a13, c11, rfl, H33⟩
          refine Run_blk ?_
          refine Zg 2 [(0, .slice aa_ a_.length ca_), (3, .slice a1 x1.length c1), (4, .slice a13 s4.length c11), (11, .int .i64 (a_.length : Int)), (12, .int .i64 (i1 + 1))] ?_ ?_
          · refine Zy (.int .i64 (i1 + 1)) (Y_eq (v := .int .i64 (w64 (i1 + 1))) (Y_pure (fun w => by kernel_rfl)) (by rw [w64_eq _ (by omega)])) ?_
            refine Zb [.int .i64 (i1 + 1)] 1 ?_
            exact Zd [0, 3, 4, 11, 12]
          have H37 : Hold h h11 [own cd90 a13 s4.length c11 s4, own cd132 a1 x1.length c1 x1] := H33.pick [1, 0] (by kernel_rfl)
          have H38 : Hold h h11 [own cd132 a1 x1.length c1 x1, own cd90 a13 s4.length c11 s4] := H37.pick [1, 0] (by kernel_rfl)
          have hB1 := M.ret_some hB1
          have gx2 := hgoy1 _ hB1.symm
          exact Run_again [0, 3, 4, 11, 12] (by kernel_rfl) my1 (Nat.lt_succ_self _) ⟨i1 + 1, s4, a13, c11, by omega, gx2, rfl, H38⟩
        · refine Zc (x9 == i1) (fun hb5 => ?_) (fun hb5 => ?_)
          · have gs4 := (M.ite_some gs4).1 hb5
            refine Run_ops ?_
            refine Zr [.slice a2 s1.length c2, .slice a5 x3.length c5] 0 ?_
            have H28 : Hold h h5 [own cd2 a5 x3.length c5 x3, own cd132 a1 x1.length c1 x1, own cd90 a2 s1.length c2 s1] := H6.pick [2, 0, 1] (by kernel_rfl)
            refine Run_E (by kernel_rfl) ?_
            refine E_lit1 (ey := 90) (n := x3.length) H28 (fun w => by kernel_rfl) rfl (fun a11 h9 H27 => ?_)
            obtain ⟨l2, hl2, gs4⟩ := M.bind_some gs4
            have hl2 := M.app_some hl2
            have H29 : Hold h h9 [own cd90 a2 s1.length c2 s1, own cd90 a11 1 1 [x3], own cd132 a1 x1.length c1 x1] := H27.pick [2, 0, 1] (by kernel_rfl)
            have H30 : Hold h h9 [own cd90 a11 1 1 [x3], own cd90 a2 s1.length c2 s1, own cd132 a1 x1.length c1 x1] := H29.pick [1, 0, 2] (by kernel_rfl)
            have H31 : Hold h h9 [own cd90 a2 s1.length c2 s1, own cd90 a11 1 1 [x3], own cd132 a1 x1.length c1 x1] := H30.pick [1, 0, 2] (by kernel_rfl)
            refine Run_E (by kernel_rfl) ?_
            refine E_app (C := cd90) (t := 37) (ty := 37) (n := s1.length) (m := 1) H31 cd90_ti rfl Try.underlying37 (by decide) (by kernel_rfl) hl2 (fun a12 c10 h10 H32 => ?_)
            refine Zr [.slice a12 l2.length c10] 4 ?_
            refine Run_nil (by kernel_rfl) ?_
            refine Zk [0, 3, 4, 11, 12] [(0, .slice aa_ a_.length ca_), (3, .slice a1 x1.length c1), (4, .slice a12 l2.length c10), (11, .int .i64 (a_.length : Int)), (12, .int .i64 i1)] ?_
            have H34 : Hold h h10 [own cd132 a1 x1.length c1 x1, own cd90 a12 l2.length c10 l2] := H32.pick [1, 0] (by kernel_rfl)
            have gs4 := M.ret_some gs4
            subst gs4
            exact Run_fall [0, 3, 4, 11, 12] (by kernel_rfl) ⟨a12, c10, rfl, H34⟩
          · have gs4 := (M.ite_some gs4).2 hb5
            refine Run_skip ?_
            have H35 : Hold h h5 [own cd90 a2 s1.length c2 s1, own cd132 a1 x1.length c1 x1, own cd2 a5 x3.length c5 x3] := H6.pick [1, 0, 2] (by kernel_rfl)
            have H36 : Hold h h5 [own cd132 a1 x1.length c1 x1, own cd90 a2 s1.length c2 s1] := H35.pick [1, 0] (by kernel_rfl)
            have gs4 := M.ret_some gs4
            subst gs4
            exact Run_fall [0, 3, 4, 11, 12] (by kernel_rfl) ⟨a2, c2, rfl, H36⟩
      · refine Run_block ?_
        have H39 := H3.empty cd2
        have H40 : Hold h h2 [own cd132 a1 x1.length c1 x1, own cd90 a2 s1.length c2 s1, own cd2 none 0 0 []] := H39.pick [1, 2, 0] (by kernel_rfl)
        refine Zk [0, 3, 4, 5, 6, 11, 12, 16, 17] [(0, .slice aa_ a_.length ca_), (3, .slice a1 x1.length c1), (4, .slice a2 s1.length c2), (5, .int .i64 i1), (6, .slice none 0 0), (11, .int .i64 (a_.length : Int)), (12, .int .i64 i1), (16, .int .i64 (a_.length : Int)), (17, .int .i64 0)] ?_
        refine Run_loop (fun m L' h' => ∃ (i2 : Int) (s2 : (List Int)) (a4 : Option Addr) (c4 : Nat), 0 ≤ i2 ∧ M.forN (a_.length : Int) _ _ n m i2 s2 = some x3 ∧ L' = [(0, .slice aa_ a_.length ca_), (3, .slice a1 x1.length c1), (4, .slice a2 s1.length c2), (5, .int .i64 i1), (6, .slice a4 s2.length c4), (11, .int .i64 (a_.length : Int)), (12, .int .i64 i1), (16, .int .i64 (a_.length : Int)), (17, .int .i64 i2)] ∧ Hold h h' [own cd132 a1 x1.length c1 x1, own cd90 a2 s1.length c2 s1, own cd2 a4 s2.length c4 s2]) ((a_.length : Int) - 0 : Int).toNat ⟨0, [], none, 0, Int.le_refl _, gx3, rfl, H40⟩ ?_
        rintro my2 _ h4 ⟨i2, s2, a4, c4, hloy2', gx3, rfl, H5⟩
        refine Zs ?_
        refine Zq [.bool (decide (i2 < (a_.length : Int)))] [0, 3, 4, 5, 6, 11, 12, 16, 17, 18] [(0, .slice aa_ a_.length ca_), (3, .slice a1 x1.length c1), (4, .slice a2 s1.length c2), (5, .int .i64 i1), (6, .slice a4 s2.length c4), (11, .int .i64 (a_.length : Int)), (12, .int .i64 i1), (16, .int .i64 (a_.length : Int)), (17, .int .i64 i2), (18, .bool (decide (i2 < (a_.length : Int))))] ?_
        refine Zs ?_
        refine Zc (decide (i2 < (a_.length : Int))) (fun hb2 => ?_) (fun hb2 => ?_)
        · obtain ⟨my2, y2, rfl, hB2, hgoy2, houty2⟩ := M.for_go gx3 hb2
          have hlty2 := of_decide_eq_true hb2
          refine Run_skip ?_
          refine Zs ?_
          refine Run_block ?_
          refine Zs ?_
          refine Zq [.int .i64 i2, .int .i64 i2] [0, 3, 4, 5, 6, 7, 11, 12, 16, 17] [(0, .slice aa_ a_.length ca_), (3, .slice a1 x1.length c1), (4, .slice a2 s1.length c2), (5, .int .i64 i1), (6, .slice a4 s2.length c4), (7, .int .i64 i2), (11, .int .i64 (a_.length : Int)), (12, .int .i64 i1), (16, .int .i64 (a_.length : Int)), (17, .int .i64 i2)] ?_
          refine Zs ?_
          obtain ⟨x4, hx2, hB2⟩ := M.bind_some hB2
          obtain ⟨hx2l, hx2u, hx2⟩ := M.idx_some hx2
          have H7 := H5.toRows
          obtain ⟨a6, c6, H8⟩ := H7.pinRow hx2
          obtain ⟨x5, hx3, hB2⟩ := M.bind_some hB2
          obtain ⟨hx3l, hx3u, hx3⟩ := M.idx_some hx3
          obtain ⟨x6, gx6, hB2⟩ := M.bind_some hB2
          refine Zg 16 [(0, .slice aa_ a_.length ca_), (3, .slice a1 x1.length c1), (4, .slice a2 s1.length c2), (5, .int .i64 i1), (6, .slice a4 s2.length c4), (7, .int .i64 i2), (11, .int .i64 (a_.length : Int)), (12, .int .i64 i1), (16, .int .i64 (a_.length : Int)), (17, .int .i64 i2), (35, .bool x6)] ?_ ?_
          · refine Zb [.slice a1 x1.length c1, .int .i64 i1] 0 ?_
            refine Zy (.pointer (some (adr a1 (i1.toNat * 1)))) (Zi 130 132 1 (a1) (x1.length) (c1) .i64 (i1) Try.underlying130 ((H5.rd 0 rfl).cell hx2).1 hx2l hx2u) ?_
            refine Zy (.slice a6 x4.length c6) (Zl 132 (adr a1 (i1.toNat * 1)) (.slice a6 x4.length c6) (H8.cellPin 0 rfl 0 rfl)) ?_
            refine Zb [.int .i64 i2] 4 ?_
            refine Zy (.pointer (some (adr a6 (i2.toNat * 1)))) (Zi 132 4 1 (a6) (x4.length) (c6) .i64 (i2) Try.underlying132 ((H8.rdPin 0 rfl 0 rfl).cell hx3).1 hx3l hx3u) ?_
            refine Zy (.bool x5) (Zl 4 (adr a6 (i2.toNat * 1)) (.bool x5) (cd4_cell (H8.rdPin 0 rfl 0 rfl) hx3)) ?_
            refine QRun_seq 16 [(0, .slice aa_ a_.length ca_), (3, .slice a1 x1.length c1), (4, .slice a2 s1.length c2), (5, .int .i64 i1), (6, .slice a4 s2.length c4), (7, .int .i64 i2), (11, .int .i64 (a_.length : Int)), (12, .int .i64 i1), (16, .int .i64 (a_.length : Int)), (17, .int .i64 i2), (35, .bool x6)] ?_ ?_
            · rcases Bool.eq_false_or_eq_true x5 with hb3 | hb3
              · refine QRun_bool x5 true (by kernel_rfl) (fun w => by kernel_rfl) hb3 ?_
                have gx6 := (M.ite_some gx6).1 hb3
                obtain ⟨x7, hx4, gx6⟩ := M.bind_some gx6
                obtain ⟨hx4l, hx4u, hx4⟩ := M.idx_some hx4
                obtain ⟨a7, c7, H9⟩ := H8.pinRow hx4
                obtain ⟨x8, hx5, gx6⟩ := M.bind_some gx6
                obtain ⟨hx5l, hx5u, hx5⟩ := M.idx_some hx5
                have gx6 := M.ret_some gx6
                refine Zb [.slice a1 x1.length c1, .int .i64 i2] 8 ?_
                refine Zy (.pointer (some (adr a1 (i2.toNat * 1)))) (Zi 130 132 1 (a1) (x1.length) (c1) .i64 (i2) Try.underlying130 ((H8.rdRows 0 rfl).cell hx4).1 hx4l hx4u) ?_
                refine Zy (.slice a7 x7.length c7) (Zl 132 (adr a1 (i2.toNat * 1)) (.slice a7 x7.length c7) (H9.cellPin 0 rfl 0 rfl)) ?_
                refine Zb [.int .i64 i1] 12 ?_
                refine Zy (.pointer (some (adr a7 (i1.toNat * 1)))) (Zi 132 4 1 (a7) (x7.length) (c7) .i64 (i1) Try.underlying132 ((H9.rdPin 0 rfl 0 rfl).cell hx5).1 hx5l hx5u) ?_
                refine Zy (.bool x8) (Zl 4 (adr a7 (i1.toNat * 1)) (.bool x8) (cd4_cell (H9.rdPin 0 rfl 0 rfl) hx5)) ?_
                refine QRun_bool x8 x6 (by kernel_rfl) (fun w => by kernel_rfl) gx6 ?_
                exact Zd [0, 3, 4, 5, 6, 7, 11, 12, 16, 17, 35]
              · refine QRun_bool x5 false (by kernel_rfl) (fun w => by kernel_rfl) hb3 ?_
                have gx6 := M.ret_some ((M.ite_some gx6).2 hb3)
                refine QRun_n (by kernel_rfl) ?_
                refine QRun_n (by kernel_rfl) ?_
                refine QRun_n (by kernel_rfl) ?_
                refine QRun_n (by kernel_rfl) ?_
                refine QRun_n (by kernel_rfl) ?_
                refine QRun_n (by kernel_rfl) ?_
                refine QRun_n (by kernel_rfl) ?_
                refine QRun_bool false x6 (by kernel_rfl) (fun w => by kernel_rfl) gx6 ?_
                exact Zd [0, 3, 4, 5, 6, 7, 11, 12, 16, 17, 35]
            exact Zd [0, 3, 4, 5, 6, 7, 11, 12, 16, 17, 35]
          obtain ⟨s3, gs3, hB2⟩ := M.bind_some hB2
          refine Run_join (fun L' h' => ∃ (a10 : Option Addr), ∃ (c9 : Nat), L' = [(0, .slice aa_ a_.length ca_), (3, .slice a1 x1.length c1), (4, .slice a2 s1.length c2), (5, .int .i64 i1), (6, .slice a10 s3.length c9), (11, .int .i64 (a_.length : Int)), (12, .int .i64 i1), (16, .int .i64 (a_.length : Int)), (17, .int .i64 i2)] ∧ Hold h h' [own cd132 a1 x1.length c1 x1, own cd90 a2 s1.length c2 s1, own cd2 a10 s3.length c9 s3]) ?_ ?_
          · rintro _ h8 ⟨a10, c9, rfl, H15⟩
            refine Run_blk ?_
            refine Zg 2 [(0, .slice aa_ a_.length ca_), (3, .slice a1 x1.length c1), (4, .slice a2 s1.length c2), (5, .int .i64 i1), (6, .slice a10 s3.length c9), (11, .int .i64 (a_.length : Int)), (12, .int .i64 i1), (16, .int .i64 (a_.length : Int)), (17, .int .i64 (i2 + 1))] ?_ ?_
            · refine Zy (.int .i64 (i2 + 1)) (Y_eq (v := .int .i64 (w64 (i2 + 1))) (Y_pure (fun w => by kernel_rfl)) (by rw [w64_eq _ (by omega)])) ?_
              refine Zb [.int .i64 (i2 + 1)] 1 ?_
              exact Zd [0, 3, 4, 5, 6, 11, 12, 16, 17]
            have H23 : Hold h h8 [own cd2 a10 s3.length c9 s3, own cd132 a1 x1.length c1 x1, own cd90 a2 s1.length c2 s1] := H15.pick [2, 0, 1] (by kernel_rfl)
            have H24 : Hold h h8 [own cd132 a1 x1.length c1 x1, own cd90 a2 s1.length c2 s1, own cd2 a10 s3.length c9 s3] := H23.pick [1, 2, 0] (by kernel_rfl)
            have hB2 := M.ret_some hB2
            have gx3 := hgoy2 _ hB2.symm
            exact Run_again [0, 3, 4, 5, 6, 11, 12, 16, 17] (by kernel_rfl) my2 (Nat.lt_succ_self _) ⟨i2 + 1, s3, a10, c9, by omega, gx3, rfl, H24⟩
          · refine Zc (x6) (fun hb4 => ?_) (fun hb4 => ?_)
            · have gs3 := (M.ite_some gs3).1 hb4
              refine Run_ops ?_
              refine Zr [.slice a4 s2.length c4, .int .i64 i2] 0 ?_
              refine Run_E (by kernel_rfl) ?_
              refine E_lit (C := cd2) (n := 1) (l := ([i2] : List Int)) (cs := [.int .i64 i2]) H8 (fun w => by kernel_rfl) (Enc.consE (cd2_own i2 _) (Enc.nil _ _) rfl) rfl (by decide) (fun a8 h6 H10 => ?_)
              obtain ⟨l1, hl1, gs3⟩ := M.bind_some gs3
              have hl1 := M.app_some hl1
              have H11 : Hold h h6 [own cd2 a4 s2.length c4 s2, own cd2 a8 1 1 ([i2] : List Int), rowsP cd4 132 a1 x1.length c1 x1 [(i1.toNat, a6, x4.length, c6, x4)], own cd90 a2 s1.length c2 s1] := H10.pick [3, 0, 1, 2] (by kernel_rfl)
              have H12 : Hold h h6 [own cd2 a8 1 1 ([i2] : List Int), own cd2 a4 s2.length c4 s2, rowsP cd4 132 a1 x1.length c1 x1 [(i1.toNat, a6, x4.length, c6, x4)], own cd90 a2 s1.length c2 s1] := H11.pick [1, 0, 2, 3] (by kernel_rfl)
              have H13 : Hold h h6 [own cd2 a4 s2.length c4 s2, own cd2 a8 1 1 ([i2] : List Int), rowsP cd4 132 a1 x1.length c1 x1 [(i1.toNat, a6, x4.length, c6, x4)], own cd90 a2 s1.length c2 s1] := H12.pick [1, 0, 2, 3] (by kernel_rfl)
              refine Run_E (by kernel_rfl) ?_
              refine E_app (C := cd2) (t := 90) (ty := 90) (n := s2.length) (m := 1) H13 cd2_ti rfl Try.underlying90 (by decide) (by kernel_rfl) hl1 (fun a9 c8 h7 H14 => ?_)
              refine Zr [.slice a9 l1.length c8] 4 ?_
              refine Run_nil (by kernel_rfl) ?_
              refine Zk [0, 3, 4, 5, 6, 11, 12, 16, 17] [(0, .slice aa_ a_.length ca_), (3, .slice a1 x1.length c1), (4, .slice a2 s1.length c2), (5, .int .i64 i1), (6, .slice a9 l1.length c8), (11, .int .i64 (a_.length : Int)), (12, .int .i64 i1), (16, .int .i64 (a_.length : Int)), (17, .int .i64 i2)] ?_
              have H16 : Hold h h7 [rowsP cd4 132 a1 x1.length c1 x1 [(i1.toNat, a6, x4.length, c6, x4)], own cd2 a9 l1.length c8 l1, own cd90 a2 s1.length c2 s1] := H14.pick [1, 0, 2] (by kernel_rfl)
              have H17 := H16.ofRows
              have H18 : Hold h h7 [own cd2 a9 l1.length c8 l1, own cd132 a1 x1.length c1 x1, own cd90 a2 s1.length c2 s1] := H17.pick [1, 0, 2] (by kernel_rfl)
              have H19 : Hold h h7 [own cd132 a1 x1.length c1 x1, own cd90 a2 s1.length c2 s1, own cd2 a9 l1.length c8 l1] := H18.pick [1, 2, 0] (by kernel_rfl)
              have gs3 := M.ret_some gs3
              subst gs3
              exact Run_fall [0, 3, 4, 5, 6, 11, 12, 16, 17] (by kernel_rfl) ⟨a9, c8, rfl, H19⟩
            · have gs3 := (M.ite_some gs3).2 hb4
              refine Run_skip ?_
              have H20 := H8.ofRows
              have H21 : Hold h h4 [own cd2 a4 s2.length c4 s2, own cd132 a1 x1.length c1 x1, own cd90 a2 s1.length c2 s1] := H20.pick [2, 0, 1] (by kernel_rfl)
              have H22 : Hold h h4 [own cd132 a1 x1.length c1 x1, own cd90 a2 s1.length c2 s1, own cd2 a4 s2.length c4 s2] := H21.pick [1, 2, 0] (by kernel_rfl)
              have gs3 := M.ret_some gs3
              subst gs3
              exact Run_fall [0, 3, 4, 5, 6, 11, 12, 16, 17] (by kernel_rfl) ⟨a4, c4, rfl, H22⟩
        · have gx3 := M.for_end gx3 hb2
          subst gx3
          refine Run_exit (k' := _) rfl ?_
          have H25 : Hold h h4 [own cd2 a4 s2.length c4 s2, own cd132 a1 x1.length c1 x1, own cd90 a2 s1.length c2 s1] := H5.pick [2, 0, 1] (by kernel_rfl)
          have H26 : Hold h h4 [own cd132 a1 x1.length c1 x1, own cd90 a2 s1.length c2 s1, own cd2 a4 s2.length c4 s2] := H25.pick [1, 2, 0] (by kernel_rfl)
          exact Run_fall [0, 3, 4, 5, 6, 11, 12] (by kernel_rfl) ⟨a4, c4, rfl, H26⟩
    · have gx2 := M.for_end gx2 hb1
      subst gx2
      refine Run_exit (k' := _) rfl ?_
      have H41 : Hold h h2 [own cd90 a2 s1.length c2 s1, own cd132 a1 x1.length c1 x1] := H3.pick [1, 0] (by kernel_rfl)
      have H42 : Hold h h2 [own cd90 a2 s1.length c2 s1] := H41.pick [0] (by kernel_rfl)
      exact Run_fall [4] (by kernel_rfl) ⟨a2, c2, rfl, H42⟩

set_option maxRecDepth 100000 in
set_option maxHeartbeats 4000000 in
theorem w_impl_criticalComponents_1 (h : Heap) (component : List Int) {Scomponent : Bs} (acomponent : Option Addr) (ccomponent : Nat) (rcomponent : Rd cd2 h Scomponent acomponent ccomponent component) (z0 : List (List Int)) {Sz0 : Bs} (az0 : Option Addr) (cz0 : Nat) (rz0 : Rd cd90 h Sz0 az0 cz0 z0) (bz0 : Nat) (vz0 : VarAt h bz0 37 [.slice az0 z0.length cz0]) (n : Nat) (r : Bool) (hF : impl_criticalComponents_1 component z0 n = some r) :
    Fn Try.prog 110 #[.slice acomponent component.length ccomponent, .pointer (some ⟨bz0, 0, none⟩)] h fun v h' => v = .bool r ∧ h' = h := by
  unfold impl_criticalComponents_1 at hF
  refine Fn_enter (args := [.slice acomponent component.length ccomponent, .pointer (some ⟨bz0, 0, none⟩)]) Try.func110 rfl (by kernel_rfl) (by kernel_rfl) (fun w0 _ => ?_)
  refine Zs ?_
  refine Zq [.bool false] [0, 1] [(0, .slice acomponent component.length ccomponent), (1, .pointer (some ⟨bz0, 0, none⟩))] ?_
  refine Zs ?_
  obtain ⟨x1, hx1, hF⟩ := M.bind_some hF
  obtain ⟨hx1l, hx1u, hx1⟩ := M.idx_some hx1
  refine Zg 4 [(0, .slice acomponent component.length ccomponent), (1, .pointer (some ⟨bz0, 0, none⟩)), (4, .int .i64 x1)] ?_ ?_
  · refine Zb [.slice acomponent component.length ccomponent] 0 ?_
    refine Zy (.pointer (some (adr acomponent (0 * 1)))) (Zi 90 2 1 (acomponent) (component.length) (ccomponent) .i64 (0) Try.underlying90 (rcomponent.cell hx1).1 hx1l hx1u) ?_
    refine Zy (.int .i64 x1) (Zl 2 (adr acomponent (0 * 1)) (.int .i64 x1) (cd2_cell rcomponent hx1)) ?_
    refine Zb [.int .i64 x1] 3 ?_
    exact Zd [0, 1, 4]
  refine Zs ?_
  obtain ⟨x2, gx2, hF⟩ := M.bind_some hF
  refine Zg 14 [(3, .bool x2)] ?_ ?_
  · refine Zb [.slice acomponent component.length ccomponent, .int .i64 (component.length : Int), .bool ((component.length : Int) == 1)] 0 ?_
    refine QRun_seq 13 [(20, .bool x2)] ?_ ?_
    · rcases Bool.eq_false_or_eq_true ((component.length : Int) == 1) with hb1 | hb1
      · refine QRun_bool ((component.length : Int) == 1) true (by kernel_rfl) (fun w => by kernel_rfl) hb1 ?_
        have gx2 := (M.ite_some gx2).1 hb1
        obtain ⟨x3, hx2, gx2⟩ := M.bind_some gx2
        obtain ⟨hx2l, hx2u, hx2⟩ := M.idx_some hx2
        obtain ⟨a1, c1, hc1, r1⟩ := rz0.row hx2
        obtain ⟨x4, hx3, gx2⟩ := M.bind_some gx2
        obtain ⟨hx3l, hx3u, hx3⟩ := M.idx_some hx3
        have gx2 := M.ret_some gx2
        refine Zy (.slice az0 z0.length cz0) (Zl 37 (⟨bz0, 0, none⟩) (.slice az0 z0.length cz0) (VarAt.cell vz0 rfl)) ?_
        refine Zb [.int .i64 x1] 5 ?_
        refine Zy (.pointer (some (adr az0 (x1.toNat * 1)))) (Zi 37 90 1 (az0) (z0.length) (cz0) .i64 (x1) Try.underlying37 (rz0.cell hx2).1 hx2l hx2u) ?_
        refine Zy (.slice a1 x3.length c1) (Zl 90 (adr az0 (x1.toNat * 1)) (.slice a1 x3.length c1) hc1) ?_
        refine Zb [.int .i64 x1] 8 ?_
        refine Zy (.pointer (some (adr a1 (x1.toNat * 1)))) (Zi 90 2 1 (a1) (x3.length) (c1) .i64 (x1) Try.underlying90 (r1.cell hx3).1 hx3l hx3u) ?_
        refine Zy (.int .i64 x4) (Zl 2 (adr a1 (x1.toNat * 1)) (.int .i64 x4) (cd2_cell r1 hx3)) ?_
        refine Zb [.bool (x4 == (-1000000000000000))] 11 ?_
        refine QRun_bool (x4 == (-1000000000000000)) x2 (by kernel_rfl) (fun w => by kernel_rfl) gx2 ?_
        exact Zd [20]
      · refine QRun_bool ((component.length : Int) == 1) false (by kernel_rfl) (fun w => by kernel_rfl) hb1 ?_
        have gx2 := M.ret_some ((M.ite_some gx2).2 hb1)
        refine QRun_n (by kernel_rfl) ?_
        refine QRun_n (by kernel_rfl) ?_
        refine QRun_n (by kernel_rfl) ?_
        refine QRun_n (by kernel_rfl) ?_
        refine QRun_n (by kernel_rfl) ?_
        refine QRun_n (by kernel_rfl) ?_
        refine QRun_n (by kernel_rfl) ?_
        refine QRun_n (by kernel_rfl) ?_
        refine QRun_bool false x2 (by kernel_rfl) (fun w => by kernel_rfl) gx2 ?_
        exact Zd [20]
    refine Zb [.bool x2] 13 ?_
    exact Zd [3]
  have hF := M.ret_some hF
  subst hF
  exact Run_ret1 rfl (ResV_tmp (v := .bool x2) (by kernel_rfl)) ⟨rfl, rfl⟩

set_option maxRecDepth 100000 in
set_option maxHeartbeats 4000000 in
theorem w_slices_IndexFunc_row_F_impl_criticalComponents_1 (h : Heap) (s_ : List (List Int)) {Ss_ : Bs} (as_ : Option Addr) (cs_ : Nat) (rs_ : Rd cd90 h Ss_ as_ cs_ s_) (f0 : List (List Int)) {Sf0 : Bs} (af0 : Option Addr) (cf0 : Nat) (rf0 : Rd cd90 h Sf0 af0 cf0 f0) (bf0 : Nat) (vf0 : VarAt h bf0 37 [.slice af0 f0.length cf0]) (n : Nat) (r : Int) (hF : slices_IndexFunc_row_F_impl_criticalComponents_1 s_ f0 n = some r) :
    Fn Try.prog 133 #[.slice as_ s_.length cs_, .func (.func 110) #[] #[.pointer (some ⟨bf0, 0, none⟩)]] h fun v h' => v = .int .i64 r ∧ h' = h := by
  unfold slices_IndexFunc_row_F_impl_criticalComponents_1 at hF
  refine Fn_enter (args := [.slice as_ s_.length cs_, .func (.func 110) #[] #[.pointer (some ⟨bf0, 0, none⟩)]]) Try.func133 rfl (by kernel_rfl) (by kernel_rfl) (fun w0 _ => ?_)
  refine Zs ?_
  refine Zq [.int .i64 0] [0, 1] [(0, .slice as_ s_.length cs_), (1, .func (.func 110) #[] #[.pointer (some ⟨bf0, 0, none⟩)])] ?_
  refine Zs ?_
  refine Zs ?_
  refine Zq [.slice as_ s_.length cs_, .int .i64 (s_.length : Int), .int .i64 0] [0, 1, 7, 8] [(0, .slice as_ s_.length cs_), (1, .func (.func 110) #[] #[.pointer (some ⟨bf0, 0, none⟩)]), (7, .int .i64 (s_.length : Int)), (8, .int .i64 0)] ?_
  obtain ⟨x1, gx1, hF⟩ := M.bind_some hF
  obtain ⟨hloy1, hhiy1, gx1⟩ := M.for_start gx1
  refine Run_join (fun L' h' => ∃ (s2 : Unit), x1 = .inl s2 ∧ L' = [] ∧ h = h') ?_ ?_
  · rintro _ _ ⟨s2, es2, rfl, rfl⟩
    have hF := M.cont_inl' hF es2
    refine Zs ?_
    refine Zq [.int .i64 (-1)] [4] [(4, .int .i64 (-1))] ?_
    have hF := M.ret_some hF
    subst hF
    exact Run_ret1 rfl (ResV_tmp (v := .int .i64 (-1)) (by kernel_rfl)) ⟨rfl, rfl⟩
  · refine Run_block ?_
    refine Zk [0, 1, 7, 8] [(0, .slice as_ s_.length cs_), (1, .func (.func 110) #[] #[.pointer (some ⟨bf0, 0, none⟩)]), (7, .int .i64 (s_.length : Int)), (8, .int .i64 0)] ?_
    refine Run_loop (fun m L' h' => ∃ (i1 : Int) (s1 : Unit), 0 ≤ i1 ∧ M.forN (s_.length : Int) _ _ n m i1 s1 = some x1 ∧ L' = [(0, .slice as_ s_.length cs_), (1, .func (.func 110) #[] #[.pointer (some ⟨bf0, 0, none⟩)]), (7, .int .i64 (s_.length : Int)), (8, .int .i64 i1)] ∧ h = h') ((s_.length : Int) - 0 : Int).toNat ⟨0, (), Int.le_refl _, gx1, rfl, rfl⟩ ?_
    rintro my1 _ _ ⟨i1, s1, hloy1', gx1, rfl, rfl⟩
    refine Zs ?_
    refine Zq [.bool (decide (i1 < (s_.length : Int)))] [0, 1, 7, 8, 9] [(0, .slice as_ s_.length cs_), (1, .func (.func 110) #[] #[.pointer (some ⟨bf0, 0, none⟩)]), (7, .int .i64 (s_.length : Int)), (8, .int .i64 i1), (9, .bool (decide (i1 < (s_.length : Int))))] ?_
    refine Zs ?_
    refine Zc (decide (i1 < (s_.length : Int))) (fun hb1 => ?_) (fun hb1 => ?_)
    · obtain ⟨my1, y1, rfl, hB1, hgoy1, houty1⟩ := M.for_go gx1 hb1
      have hlty1 := of_decide_eq_true hb1
      refine Run_skip ?_
      refine Zs ?_
      refine Run_block ?_
      refine Zs ?_
      refine Zq [.int .i64 i1, .int .i64 i1] [0, 1, 5, 7, 8] [(0, .slice as_ s_.length cs_), (1, .func (.func 110) #[] #[.pointer (some ⟨bf0, 0, none⟩)]), (5, .int .i64 i1), (7, .int .i64 (s_.length : Int)), (8, .int .i64 i1)] ?_
      refine Zs ?_
      obtain ⟨x2, hx1, hB1⟩ := M.bind_some hB1
      obtain ⟨hx1l, hx1u, hx1⟩ := M.idx_some hx1
      obtain ⟨a1, c1, hc1, r1⟩ := rs_.row hx1
      obtain ⟨x3, hx2, hB1⟩ := M.bind_some hB1
      refine Zg 6 [(0, .slice as_ s_.length cs_), (1, .func (.func 110) #[] #[.pointer (some ⟨bf0, 0, none⟩)]), (5, .int .i64 i1), (7, .int .i64 (s_.length : Int)), (8, .int .i64 i1), (16, .bool x3)] ?_ ?_
      · refine Zb [.func (.func 110) #[] #[.pointer (some ⟨bf0, 0, none⟩)], .slice as_ s_.length cs_, .int .i64 i1] 0 ?_
        refine Zy (.pointer (some (adr as_ (i1.toNat * 1)))) (Zi 37 90 1 (as_) (s_.length) (cs_) .i64 (i1) Try.underlying37 (rs_.cell hx1).1 hx1l hx1u) ?_
        refine Zy (.slice a1 x2.length c1) (Zl 90 (adr as_ (i1.toNat * 1)) (.slice a1 x2.length c1) hc1) ?_
        refine Zy (.bool x3) (Y_callq (f := 110) (args := #[.slice a1 x2.length c1, .pointer (some ⟨bf0, 0, none⟩)]) (v := .bool x3) (by kernel_rfl) (w_impl_criticalComponents_1 h x2 a1 c1 r1 f0 af0 cf0 rf0 bf0 vf0 _ _ hx2)) ?_
        exact Zd [0, 1, 5, 7, 8, 16]
      refine Zc (x3) (fun hb2 => ?_) (fun hb2 => ?_)
      · have hB1 := (M.ite_some hB1).1 hb2
        refine Zs ?_
        refine Zq [.int .i64 i1, .int .i64 i1] [4] [(4, .int .i64 i1)] ?_
        have hB1 := M.ret_some hB1
        have gx1 := houty1 _ hB1.symm
        have hF := M.cont_inr' hF gx1
        have hF := M.ret_some hF
        subst hF
        exact Run_ret1 rfl (ResV_tmp (v := .int .i64 i1) (by kernel_rfl)) ⟨rfl, rfl⟩
      · have hB1 := (M.ite_some hB1).2 hb2
        refine Run_skip ?_
        refine Run_blk ?_
        refine Zg 2 [(0, .slice as_ s_.length cs_), (1, .func (.func 110) #[] #[.pointer (some ⟨bf0, 0, none⟩)]), (7, .int .i64 (s_.length : Int)), (8, .int .i64 (i1 + 1))] ?_ ?_
        · refine Zy (.int .i64 (i1 + 1)) (Y_eq (v := .int .i64 (w64 (i1 + 1))) (Y_pure (fun w => by kernel_rfl)) (by rw [w64_eq _ (by omega)])) ?_
          refine Zb [.int .i64 (i1 + 1)] 1 ?_
          exact Zd [0, 1, 7, 8]
        have hB1 := M.ret_some hB1
        have gx1 := hgoy1 _ hB1.symm
        exact Run_again [0, 1, 7, 8] (by kernel_rfl) my1 (Nat.lt_succ_self _) ⟨i1 + 1, (), by omega, gx1, rfl, rfl⟩
    · have gx1 := M.for_end gx1 hb1
      subst gx1
      refine Run_exit (k' := _) rfl ?_
      exact Run_fall [] (by kernel_rfl) ⟨(), rfl, rfl, rfl⟩

set_option maxRecDepth 100000 in
set_option maxHeartbeats 4000000 in
theorem w_slices_DeleteFunc_row_F_impl_criticalComponents_1 (h hE : Heap) (it : Item) (s_ : List (List Int)) (as_ : Option Addr) (cs_ : Nat) (del0 : List (List Int)) (adel0 : Option Addr) (cdel0 : Nat) (rdel0 : Rd cd90 h (Lt h) adel0 cdel0 del0) (bdel0 : Nat) (HM : Hold h hE [lrows cd2 90 as_ s_.length cs_ s_, box bdel0 37 [.slice adel0 del0.length cdel0], it]) (n : Nat) (r : (List (List Int))) (hF : slices_DeleteFunc_row_F_impl_criticalComponents_1 s_ del0 n = some r) :
    Fn Try.prog 109 #[.slice as_ s_.length cs_, .func (.func 110) #[] #[.pointer (some ⟨bdel0, 0, none⟩)]] hE fun v h' => ∃ (a0 : Option Addr) (c0 : Nat), v = .slice a0 r.length c0 ∧ Rd cd90 h' (Lt h') a0 c0 r ∧ Hold h h' [box bdel0 37 [.slice adel0 del0.length cdel0], it] := by
  unfold slices_DeleteFunc_row_F_impl_criticalComponents_1 at hF
  refine Fn_enter (args := [.slice as_ s_.length cs_, .func (.func 110) #[] #[.pointer (some ⟨bdel0, 0, none⟩)]]) Try.func109 rfl (by kernel_rfl) (by kernel_rfl) (fun w0 _ => ?_)
  refine Zs ?_
  refine Zq [.slice none 0 0] [0, 1] [(0, .slice as_ s_.length cs_), (1, .func (.func 110) #[] #[.pointer (some ⟨bdel0, 0, none⟩)])] ?_
  refine Zs ?_
  obtain ⟨x1, hx1, hF⟩ := M.bind_some hF
  refine Zg 4 [(0, .slice as_ s_.length cs_), (1, .func (.func 110) #[] #[.pointer (some ⟨bdel0, 0, none⟩)]), (5, .int .i64 x1)] ?_ ?_
  · refine Zb [.slice as_ s_.length cs_, .func (.func 110) #[] #[.pointer (some ⟨bdel0, 0, none⟩)]] 0 ?_
    refine Zy (.int .i64 x1) (Y_callq (f := 133) (args := #[.slice as_ s_.length cs_, .func (.func 110) #[] #[.pointer (some ⟨bdel0, 0, none⟩)]]) (v := .int .i64 x1) (by kernel_rfl) (w_slices_IndexFunc_row_F_impl_criticalComponents_1 hE s_ as_ cs_ (HM.rdL 0 rfl) del0 adel0 cdel0 (rdel0.at HM.ext) bdel0 (HM.var 1 rfl) _ _ hx1)) ?_
    refine Zb [.int .i64 x1] 3 ?_
    exact Zd [0, 1, 5]
  refine Zs ?_
  refine Zs ?_
  refine Zq [.int .i64 x1, .bool (x1 == (-1))] [0, 1, 5, 12] [(0, .slice as_ s_.length cs_), (1, .func (.func 110) #[] #[.pointer (some ⟨bdel0, 0, none⟩)]), (5, .int .i64 x1), (12, .bool (x1 == (-1)))] ?_
  refine Zc (x1 == (-1)) (fun hb1 => ?_) (fun hb1 => ?_)
  · have hF := (M.ite_some hF).1 hb1
    refine Zs ?_
    refine Zq [.slice as_ s_.length cs_, .slice as_ s_.length cs_] [4] [(4, .slice as_ s_.length cs_)] ?_
    have hF := M.ret_some hF
    subst hF
    have rV1 := (HM.rdL 0 rfl)
    have H1 : Hold h hE [box bdel0 37 [.slice adel0 del0.length cdel0], it] := HM.pick [1, 2] (by kernel_rfl)
    exact Run_ret1 rfl (ResV_tmp (v := .slice as_ s_.length cs_) (by kernel_rfl)) ⟨as_, cs_, rfl, rV1, H1⟩
  · have hF := (M.ite_some hF).2 hb1
    refine Run_skip ?_
    refine Zs ?_
    refine Zs ?_
    refine Zq [.int .i64 x1, .int .i64 (w64 (x1 + 1)), .int .i64 (w64 (x1 + 1))] [0, 1, 5, 6] [(0, .slice as_ s_.length cs_), (1, .func (.func 110) #[] #[.pointer (some ⟨bdel0, 0, none⟩)]), (5, .int .i64 x1), (6, .int .i64 (w64 (x1 + 1)))] ?_
    obtain ⟨x2, gx2, hF⟩ := M.bind_some hF
    obtain ⟨hloy1, hhiy1, gx2⟩ := M.for_start gx2
    refine Run_join (fun L' h' => L' = [(0, .slice as_ s_.length cs_), (5, .int .i64 x2.2)] ∧ Hold h h' [lrows cd2 90 as_ s_.length cs_ x2.1, box bdel0 37 [.slice adel0 del0.length cdel0], it]) ?_ ?_
    · rintro _ h2 ⟨rfl, H3⟩
      refine Zs ?_
      refine Run_ops ?_
      obtain ⟨x6, hx5, hF⟩ := M.bind_some hF
      obtain ⟨hx5a, hx5b, hx5c, hx5d⟩ := M.sub_some hx5
      have hn1 : x6.length = (s_.length : Int).toNat - (x2.2 : Int).toNat := by rw [hx5d, List.length_take, List.length_drop]; omega
      refine Zr [.slice as_ s_.length cs_, .int .i64 x2.2] 0 ?_
      refine Zz (.slice (sliceA as_ cs_ x2.2.toNat 1) ((s_.length : Int).toNat - (x2.2 : Int).toNat) (cs_ - x2.2.toNat)) (Y_slice (t := 37) (e := 90) (sz := 1) (a := as_) (n := s_.length) (cap := cs_) (lo := (some (.i64, x2.2))) (hi := none) (x := x2.2) (y := (s_.length : Int)) (by kernel_rfl) Try.underlying37 (by kernel_rfl) (by rw [← (H3.lenL 0 rfl)]; exact (H3.rdL 0 rfl).fits) rfl rfl hx5a hx5b (by have := (H3.lenL 0 rfl); have := hx5c; omega)) ?_
      refine Run_E (by kernel_rfl) ?_
      refine E_clearL (C := cd2) (t := 37) (ty := 0) (ey := 90) (n := s_.length) (m := (s_.length : Int).toNat - (x2.2 : Int).toNat) (c2 := cs_ - x2.2.toNat) (k := x2.2.toNat) H3 cd90_ti Try.underlying37 (by kernel_rfl) (by have := H3.lenL 0 rfl; omega) (by have := H3.lenL 0 rfl; omega) (fun h5 H6 => ?_)
      have hn2 : s_.length = (x2.1.take x2.2.toNat ++ List.replicate ((s_.length : Int).toNat - (x2.2 : Int).toNat) []).length := by have := H6.lenL 0 rfl; exact this.symm
      refine Run_nil (by kernel_rfl) ?_
      refine Zk [0, 5] [(0, .slice as_ s_.length cs_), (5, .int .i64 x2.2)] ?_
      refine Zs ?_
      obtain ⟨x7, hx6, hF⟩ := M.bind_some hF
      obtain ⟨hx6a, hx6b, hx6c, hx6d⟩ := M.sub_some hx6
      have hx6q : x7 = (x2.1.take x2.2.toNat ++ List.replicate ((s_.length : Int).toNat - (x2.2 : Int).toNat) []).take x2.2.toNat := by rw [hx6d]; rfl
      have H8 := Hold.cutL (k := x2.2.toNat) H6 (by have := H6.lenL 0 rfl; omega)
      have H9 : Hold h h5 [lrows cd2 90 as_ x7.length cs_ x7, box bdel0 37 [.slice adel0 del0.length cdel0], it] := by rw [hx6q]; exact H8.normL
      refine Zg 4 [(4, .slice as_ x7.length cs_)] ?_ ?_
      · refine Zb [.slice as_ s_.length cs_, .int .i64 x2.2] 0 ?_
        refine Zy (.slice as_ x7.length cs_) (Y_eq (Y_slice (t := 37) (e := 90) (sz := 1) (a := as_) (n := s_.length) (cap := cs_) (lo := none) (hi := (some (.i64, x2.2))) (x := 0) (y := x2.2) (by kernel_rfl) Try.underlying37 (by kernel_rfl) (by rw [← (H6.lenL 0 rfl)]; exact (H6.rdL 0 rfl).fits) rfl rfl hx6a hx6b (by have := (H6.lenL 0 rfl); have := hx6c; omega)) (by rw [show sliceA as_ cs_ (0 : Int).toNat 1 = as_ from sliceA0 (H9.rdL 0 rfl)]; congr 1; simp only [hx6q, List.length_take]; omega)) ?_
        refine Zb [.slice as_ x7.length cs_] 3 ?_
        exact Zd [4]
      have hF := M.ret_some hF
      subst hF
      have rV2 := (H9.rdL 0 rfl)
      have H10 : Hold h h5 [box bdel0 37 [.slice adel0 del0.length cdel0], it] := H9.pick [1, 2] (by kernel_rfl)
      exact Run_ret1 rfl (ResV_tmp (v := .slice as_ x7.length cs_) (by kernel_rfl)) ⟨as_, cs_, rfl, rV2, H10⟩
    · refine Run_block ?_
      refine Zk [0, 1, 5, 6] [(0, .slice as_ s_.length cs_), (1, .func (.func 110) #[] #[.pointer (some ⟨bdel0, 0, none⟩)]), (5, .int .i64 x1), (6, .int .i64 (w64 (x1 + 1)))] ?_
      refine Run_loop (fun m L' h' => ∃ (i1 : Int) (s1 : (List (List Int)) × Int), w64 (x1 + 1) ≤ i1 ∧ M.forN (s_.length : Int) _ _ n m i1 s1 = some x2 ∧ L' = [(0, .slice as_ s_.length cs_), (1, .func (.func 110) #[] #[.pointer (some ⟨bdel0, 0, none⟩)]), (5, .int .i64 s1.2), (6, .int .i64 i1)] ∧ Hold h h' [lrows cd2 90 as_ s_.length cs_ s1.1, box bdel0 37 [.slice adel0 del0.length cdel0], it]) ((s_.length : Int) - (w64 (x1 + 1)) : Int).toNat ⟨w64 (x1 + 1), (s_, x1), Int.le_refl _, gx2, rfl, HM⟩ ?_
      rintro my1 _ h1 ⟨i1, s1, hloy1', gx2, rfl, H2⟩
      refine Zs ?_
      refine Zs ?_
      refine Zq [.int .i64 i1, .slice as_ s_.length cs_, .int .i64 (s_.length : Int), .bool (decide (i1 < (s_.length : Int)))] [0, 1, 5, 6, 19] [(0, .slice as_ s_.length cs_), (1, .func (.func 110) #[] #[.pointer (some ⟨bdel0, 0, none⟩)]), (5, .int .i64 s1.2), (6, .int .i64 i1), (19, .bool (decide (i1 < (s_.length : Int))))] ?_
      refine Zc (decide (i1 < (s_.length : Int))) (fun hb2 => ?_) (fun hb2 => ?_)
      · obtain ⟨my1, y1, rfl, hB1, hgoy1, houty1⟩ := M.for_go gx2 hb2
        have hlty1 := of_decide_eq_true hb2
        refine Run_skip ?_
        refine Zs ?_
        refine Run_block ?_
        refine Zs ?_
        obtain ⟨x3, hx2, hB1⟩ := M.bind_some hB1
        obtain ⟨hx2l, hx2u, hx2⟩ := M.idx_some hx2
        obtain ⟨a1, c1, hc1, r1⟩ := (H2.rdL 0 rfl).row hx2
        refine Zg 5 [(0, .slice as_ s_.length cs_), (1, .func (.func 110) #[] #[.pointer (some ⟨bdel0, 0, none⟩)]), (5, .int .i64 s1.2), (6, .int .i64 i1), (7, .slice a1 x3.length c1)] ?_ ?_
        · refine Zb [.slice as_ s_.length cs_, .int .i64 i1] 0 ?_
          refine Zy (.pointer (some (adr as_ (i1.toNat * 1)))) (Zi 37 90 1 (as_) (s_.length) (cs_) .i64 (i1) Try.underlying37 ((H2.rdL 0 rfl).cell hx2).1 hx2l (by rw [← (H2.lenL 0 rfl)]; exact hx2u)) ?_
          refine Zy (.slice a1 x3.length c1) (Zl 90 (adr as_ (i1.toNat * 1)) (.slice a1 x3.length c1) hc1) ?_
          refine Zb [.slice a1 x3.length c1] 4 ?_
          exact Zd [0, 1, 5, 6, 7]
        refine Zs ?_
        obtain ⟨x4, hx3, hB1⟩ := M.bind_some hB1
        refine Zg 4 [(0, .slice as_ s_.length cs_), (1, .func (.func 110) #[] #[.pointer (some ⟨bdel0, 0, none⟩)]), (5, .int .i64 s1.2), (6, .int .i64 i1), (7, .slice a1 x3.length c1), (29, .bool (!x4))] ?_ ?_
        · refine Zb [.func (.func 110) #[] #[.pointer (some ⟨bdel0, 0, none⟩)], .slice a1 x3.length c1] 0 ?_
          refine Zy (.bool x4) (Y_callq (f := 110) (args := #[.slice a1 x3.length c1, .pointer (some ⟨bdel0, 0, none⟩)]) (v := .bool x4) (by kernel_rfl) (w_impl_criticalComponents_1 h1 x3 a1 c1 r1 del0 adel0 cdel0 (rdel0.at H2.ext) bdel0 (H2.var 1 rfl) _ _ hx3)) ?_
          refine Zb [.bool (!x4)] 3 ?_
          exact Zd [0, 1, 5, 6, 7, 29]
        obtain ⟨s2, gs2, hB1⟩ := M.bind_some hB1
        refine Run_join (fun L' h' => L' = [(0, .slice as_ s_.length cs_), (1, .func (.func 110) #[] #[.pointer (some ⟨bdel0, 0, none⟩)]), (5, .int .i64 s2.2), (6, .int .i64 i1)] ∧ Hold h h' [lrows cd2 90 as_ s_.length cs_ s2.1, box bdel0 37 [.slice adel0 del0.length cdel0], it]) ?_ ?_
        · rintro _ h4 ⟨rfl, H5⟩
          refine Run_blk ?_
          refine Zg 3 [(0, .slice as_ s_.length cs_), (1, .func (.func 110) #[] #[.pointer (some ⟨bdel0, 0, none⟩)]), (5, .int .i64 s2.2), (6, .int .i64 (i1 + 1))] ?_ ?_
          · refine Zb [.int .i64 i1] 0 ?_
            refine Zy (.int .i64 (i1 + 1)) (Y_eq (v := .int .i64 (w64 (i1 + 1))) (Y_pure (fun w => by kernel_rfl)) (by rw [w64_eq _ (by omega)])) ?_
            refine Zb [.int .i64 (i1 + 1)] 2 ?_
            exact Zd [0, 1, 5, 6]
          have hB1 := M.ret_some hB1
          have gx2 := hgoy1 _ hB1.symm
          exact Run_again [0, 1, 5, 6] (by kernel_rfl) my1 (Nat.lt_succ_self _) ⟨i1 + 1, (s2.1, s2.2), by omega, gx2, rfl, H5⟩
        · refine Zc (!x4) (fun hb3 => ?_) (fun hb3 => ?_)
          · have gs2 := (M.ite_some gs2).1 hb3
            refine Zs ?_
            refine Run_ops ?_
            obtain ⟨x5, hx4, gs2⟩ := M.bind_some gs2
            obtain ⟨hx4l, hx4u, hx4⟩ := M.idx_some hx4
            refine Zr [.slice as_ s_.length cs_, .int .i64 s1.2, .slice a1 x3.length c1] 0 ?_
            refine Zz (.pointer (some (adr as_ (s1.2.toNat * 1)))) (Zi 37 90 1 (as_) (s_.length) (cs_) .i64 (s1.2) Try.underlying37 ((H2.rdL 0 rfl).cell hx4).1 hx4l (by rw [← (H2.lenL 0 rfl)]; exact hx4u)) ?_
            obtain ⟨l1, hu1, gs2⟩ := M.bind_some gs2
            have hu1 := M.upd_some hu1
            refine Run_E (by kernel_rfl) ?_
            refine E_putL (t := 90) (j := s1.2) H2 hx2 hc1 (by kernel_rfl) (by kernel_rfl) hu1 (fun h3 H4 => ?_)
            refine Run_nil (by kernel_rfl) ?_
            refine Zk [0, 1, 5, 6] [(0, .slice as_ s_.length cs_), (1, .func (.func 110) #[] #[.pointer (some ⟨bdel0, 0, none⟩)]), (5, .int .i64 s1.2), (6, .int .i64 i1)] ?_
            refine Zq [.int .i64 s1.2, .int .i64 (w64 (s1.2 + 1)), .int .i64 (w64 (s1.2 + 1))] [0, 1, 5, 6] [(0, .slice as_ s_.length cs_), (1, .func (.func 110) #[] #[.pointer (some ⟨bdel0, 0, none⟩)]), (5, .int .i64 (w64 (s1.2 + 1))), (6, .int .i64 i1)] ?_
            have gs2 := M.ret_some gs2
            subst gs2
            exact Run_fall [0, 1, 5, 6] (by kernel_rfl) ⟨rfl, H4⟩
          · have gs2 := (M.ite_some gs2).2 hb3
            refine Run_skip ?_
            have gs2 := M.ret_some gs2
            subst gs2
            exact Run_fall [0, 1, 5, 6] (by kernel_rfl) ⟨rfl, H2⟩
      · have gx2 := M.for_end gx2 hb2
        subst gx2
        refine Run_exit (k' := _) rfl ?_
        exact Run_fall [0, 5] (by kernel_rfl) ⟨rfl, H2⟩

set_option maxRecDepth 100000 in
set_option maxHeartbeats 4000000 in
theorem w_impl_criticalComponents (h : Heap) (critical : List (List Int)) (acritical : Option Addr) (ccritical : Nat) (rcritical : Rd cd90 h (Lt h) acritical ccritical critical) (n : Nat) (r : (List (List Int))) (hF : impl_criticalComponents critical n = some r) :
    Fn Try.prog 62 #[.slice acritical critical.length ccritical] h fun v h' => ∃ (a0 : Option Addr) (c0 : Nat), v = .slice a0 r.length c0 ∧ Rd cd90 h' (Lt h') a0 c0 r ∧ Hold h h' [] := by
  unfold impl_criticalComponents at hF
  refine Fn_enter (args := [.slice acritical critical.length ccritical]) Try.func62 rfl (by kernel_rfl) (by kernel_rfl) (fun w0 _ => ?_)
  have H0 := Hold.init h
  refine Zs ?_
  refine Run_ops ?_
  refine Run_E (by kernel_rfl) ?_
  refine E_box (ty := 37) (cs := [.slice acritical critical.length ccritical]) H0 (fun w => by kernel_rfl) (fun b1 h1 H1 => ?_)
  refine Zr [.slice none 0 0] 1 ?_
  refine Run_nil (by kernel_rfl) ?_
  refine Zk [1] [(1, .pointer (some ⟨b1, 0, none⟩))] ?_
  refine Zs ?_
  refine Run_ops ?_
  refine Zz (.slice acritical critical.length ccritical) (Zl 37 (⟨b1, 0, none⟩) (.slice acritical critical.length ccritical) (H1.cell 0 rfl rfl)) ?_
  obtain ⟨x1, hx1, hF⟩ := M.bind_some hF
  refine Run_E (by kernel_rfl) ?_
  refine E_call (f := 58) (args := #[.slice acritical critical.length ccritical]) (w_impl_componentsOf h1 critical acritical ccritical (rcritical.at H1.ext) _ _ hx1) (by kernel_rfl) (fun v1 h2 hp1 => ?_)
  obtain ⟨a1, c1, rfl, H2⟩ := hp1
  have H3 : Hold h h2 [own cd90 a1 x1.length c1 x1, box b1 37 [.slice acritical critical.length ccritical]] := H1.call H2 rfl
  refine Zr [.func (.func 110) #[] #[.pointer (some ⟨b1, 0, none⟩)]] 2 ?_
  obtain ⟨x2, hx2, hF⟩ := M.bind_some hF
  have H4 := H3.toL
  have H5 : Hold h h2 [lrows cd2 90 a1 x1.length c1 x1, box b1 37 [.slice acritical critical.length ccritical], bun []] := Hold.bundle (S := [lrows cd2 90 a1 x1.length c1 x1, box b1 37 [.slice acritical critical.length ccritical]]) (R := []) H4
  refine Run_E (by kernel_rfl) ?_
  refine E_call (f := 109) (args := #[.slice a1 x1.length c1, .func (.func 110) #[] #[.pointer (some ⟨b1, 0, none⟩)]]) (w_slices_DeleteFunc_row_F_impl_criticalComponents_1 h h2 _ x1 a1 c1 critical acritical ccritical rcritical b1 H5 _ _ hx2) (by kernel_rfl) (fun v2 h3 hp2 => ?_)
  obtain ⟨a2, c2, rfl, rV1, H6⟩ := hp2
  have H7 : Hold h h3 [box b1 37 [.slice acritical critical.length ccritical]] := Hold.unbundle (S := [box b1 37 [.slice acritical critical.length ccritical]]) (R := []) H6 (Hold.tailBase (S := [lrows cd2 90 a1 x1.length c1 x1, box b1 37 [.slice acritical critical.length ccritical]]) (R := []) H4)
  refine Zr [.slice a2 x2.length c2] 4 ?_
  refine Run_nil (by kernel_rfl) ?_
  refine Zk [2] [(2, .slice a2 x2.length c2)] ?_
  have hF := M.ret_some hF
  subst hF
  have rV2 := rV1
  have H8 : Hold h h3 [] := H7.pick [] (by kernel_rfl)
  exact Run_ret1 rfl (ResV_tmp (v := .slice a2 x2.length c2) (by kernel_rfl)) ⟨a2, c2, rfl, rV2, H8⟩

set_option maxRecDepth 100000 in
set_option maxHeartbeats 4000000 in
theorem w_slices_Index_int (h : Heap) (s_ : List Int) {Ss_ : Bs} (as_ : Option Addr) (cs_ : Nat) (rs_ : Rd cd2 h Ss_ as_ cs_ s_) (v_ : Int) (n : Nat) (r : Int) (hF : slices_Index_int s_ v_ n = some r) :
    Fn Try.prog 117 #[.slice as_ s_.length cs_, .int .i64 v_] h fun v h' => v = .int .i64 r ∧ h' = h := by
  unfold slices_Index_int at hF
  refine Fn_enter (args := [.slice as_ s_.length cs_, .int .i64 v_]) Try.func117 rfl (by kernel_rfl) (by kernel_rfl) (fun w0 _ => ?_)
  refine Zs ?_
  refine Zq [.int .i64 0] [0, 1] [(0, .slice as_ s_.length cs_), (1, .int .i64 v_)] ?_
  refine Zs ?_
  refine Zs ?_
  refine Zq [.slice as_ s_.length cs_, .int .i64 (s_.length : Int), .int .i64 0] [0, 1, 7, 8] [(0, .slice as_ s_.length cs_), (1, .int .i64 v_), (7, .int .i64 (s_.length : Int)), (8, .int .i64 0)] ?_
  obtain ⟨x1, gx1, hF⟩ := M.bind_some hF
  obtain ⟨hloy1, hhiy1, gx1⟩ := M.for_start gx1
  refine Run_join (fun L' h' => ∃ (s2 : Unit), x1 = .inl s2 ∧ L' = [] ∧ h = h') ?_ ?_
  · rintro _ _ ⟨s2, es2, rfl, rfl⟩
    have hF := M.cont_inl' hF es2
    refine Zs ?_
    refine Zq [.int .i64 (-1)] [4] [(4, .int .i64 (-1))] ?_
    have hF := M.ret_some hF
    subst hF
    exact Run_ret1 rfl (ResV_tmp (v := .int .i64 (-1)) (by kernel_rfl)) ⟨rfl, rfl⟩
  · refine Run_block ?_
    refine Zk [0, 1, 7, 8] [(0, .slice as_ s_.length cs_), (1, .int .i64 v_), (7, .int .i64 (s_.length : Int)), (8, .int .i64 0)] ?_
    refine Run_loop (fun m L' h' => ∃ (i1 : Int) (s1 : Unit), 0 ≤ i1 ∧ M.forN (s_.length : Int) _ _ n m i1 s1 = some x1 ∧ L' = [(0, .slice as_ s_.length cs_), (1, .int .i64 v_), (7, .int .i64 (s_.length : Int)), (8, .int .i64 i1)] ∧ h = h') ((s_.length : Int) - 0 : Int).toNat ⟨0, (), Int.le_refl _, gx1, rfl, rfl⟩ ?_
    rintro my1 _ _ ⟨i1, s1, hloy1', gx1, rfl, rfl⟩
    refine Zs ?_
    refine Zq [.bool (decide (i1 < (s_.length : Int)))] [0, 1, 7, 8, 9] [(0, .slice as_ s_.length cs_), (1, .int .i64 v_), (7, .int .i64 (s_.length : Int)), (8, .int .i64 i1), (9, .bool (decide (i1 < (s_.length : Int))))] ?_
    refine Zs ?_
    refine Zc (decide (i1 < (s_.length : Int))) (fun hb1 => ?_) (fun hb1 => ?_)
    · obtain ⟨my1, y1, rfl, hB1, hgoy1, houty1⟩ := M.for_go gx1 hb1
      have hlty1 := of_decide_eq_true hb1
      refine Run_skip ?_
      refine Zs ?_
      refine Run_block ?_
      refine Zs ?_
      refine Zq [.int .i64 i1, .int .i64 i1] [0, 1, 5, 7, 8] [(0, .slice as_ s_.length cs_), (1, .int .i64 v_), (5, .int .i64 i1), (7, .int .i64 (s_.length : Int)), (8, .int .i64 i1)] ?_
      refine Zs ?_
      obtain ⟨x2, hx1, hB1⟩ := M.bind_some hB1
      obtain ⟨hx1l, hx1u, hx1⟩ := M.idx_some hx1
      refine Zg 6 [(0, .slice as_ s_.length cs_), (1, .int .i64 v_), (5, .int .i64 i1), (7, .int .i64 (s_.length : Int)), (8, .int .i64 i1), (16, .bool (v_ == x2))] ?_ ?_
      · refine Zb [.int .i64 v_, .slice as_ s_.length cs_, .int .i64 i1] 0 ?_
        refine Zy (.pointer (some (adr as_ (i1.toNat * 1)))) (Zi 90 2 1 (as_) (s_.length) (cs_) .i64 (i1) Try.underlying90 (rs_.cell hx1).1 hx1l hx1u) ?_
        refine Zy (.int .i64 x2) (Zl 2 (adr as_ (i1.toNat * 1)) (.int .i64 x2) (cd2_cell rs_ hx1)) ?_
        refine Zb [.bool (v_ == x2)] 5 ?_
        exact Zd [0, 1, 5, 7, 8, 16]
      refine Zc (v_ == x2) (fun hb2 => ?_) (fun hb2 => ?_)
      · have hB1 := (M.ite_some hB1).1 hb2
        refine Zs ?_
        refine Zq [.int .i64 i1, .int .i64 i1] [4] [(4, .int .i64 i1)] ?_
        have hB1 := M.ret_some hB1
        have gx1 := houty1 _ hB1.symm
        have hF := M.cont_inr' hF gx1
        have hF := M.ret_some hF
        subst hF
        exact Run_ret1 rfl (ResV_tmp (v := .int .i64 i1) (by kernel_rfl)) ⟨rfl, rfl⟩
      · have hB1 := (M.ite_some hB1).2 hb2
        refine Run_skip ?_
        refine Run_blk ?_
        refine Zg 2 [(0, .slice as_ s_.length cs_), (1, .int .i64 v_), (7, .int .i64 (s_.length : Int)), (8, .int .i64 (i1 + 1))] ?_ ?_
        · refine Zy (.int .i64 (i1 + 1)) (Y_eq (v := .int .i64 (w64 (i1 + 1))) (Y_pure (fun w => by kernel_rfl)) (by rw [w64_eq _ (by omega)])) ?_
          refine Zb [.int .i64 (i1 + 1)] 1 ?_
          exact Zd [0, 1, 7, 8]
        have hB1 := M.ret_some hB1
        have gx1 := hgoy1 _ hB1.symm
        exact Run_again [0, 1, 7, 8] (by kernel_rfl) my1 (Nat.lt_succ_self _) ⟨i1 + 1, (), by omega, gx1, rfl, rfl⟩
    · have gx1 := M.for_end gx1 hb1
      subst gx1
      refine Run_exit (k' := _) rfl ?_
      exact Run_fall [] (by kernel_rfl) ⟨(), rfl, rfl, rfl⟩

set_option maxRecDepth 100000 in
set_option maxHeartbeats 4000000 in
theorem w_slices_Contains_int (h : Heap) (s_ : List Int) {Ss_ : Bs} (as_ : Option Addr) (cs_ : Nat) (rs_ : Rd cd2 h Ss_ as_ cs_ s_) (v_ : Int) (n : Nat) (r : Bool) (hF : slices_Contains_int s_ v_ n = some r) :
    Fn Try.prog 73 #[.slice as_ s_.length cs_, .int .i64 v_] h fun v h' => v = .bool r ∧ h' = h := by
  unfold slices_Contains_int at hF
  refine Fn_enter (args := [.slice as_ s_.length cs_, .int .i64 v_]) Try.func73 rfl (by kernel_rfl) (by kernel_rfl) (fun w0 _ => ?_)
  refine Zs ?_
  refine Zq [.bool false] [0, 1] [(0, .slice as_ s_.length cs_), (1, .int .i64 v_)] ?_
  refine Zs ?_
  obtain ⟨x1, hx1, hF⟩ := M.bind_some hF
  refine Zg 5 [(4, .bool (decide (0 ≤ x1)))] ?_ ?_
  · refine Zb [.slice as_ s_.length cs_, .int .i64 v_] 0 ?_
    refine Zy (.int .i64 x1) (Y_callq (f := 117) (args := #[.slice as_ s_.length cs_, .int .i64 v_]) (v := .int .i64 x1) (by kernel_rfl) (w_slices_Index_int h s_ as_ cs_ rs_ v_ _ _ hx1)) ?_
    refine Zb [.bool (decide (0 ≤ x1)), .bool (decide (0 ≤ x1))] 3 ?_
    exact Zd [4]
  have hF := M.ret_some hF
  subst hF
  exact Run_ret1 rfl (ResV_tmp (v := .bool (decide (0 ≤ x1))) (by kernel_rfl)) ⟨rfl, rfl⟩

set_option maxRecDepth 100000 in
set_option maxHeartbeats 4000000 in
theorem w_impl_periodOf (h : Heap) (a_ : List (List Int)) (aa_ : Option Addr) (ca_ : Nat) (ra_ : Rd cd90 h (Lt h) aa_ ca_ a_) (component : List Int) (acomponent : Option Addr) (ccomponent : Nat) (rcomponent : Rd cd2 h (Lt h) acomponent ccomponent component) (n : Nat) (r : Int) (hF : impl_periodOf a_ component n = some r) :
    Fn Try.prog 63 #[.slice aa_ a_.length ca_, .slice acomponent component.length ccomponent] h fun v h' => v = .int .i64 r ∧ Hold h h' [] := by
  unfold impl_periodOf at hF
  refine Fn_enter (args := [.slice aa_ a_.length ca_, .slice acomponent component.length ccomponent]) Try.func63 rfl (by kernel_rfl) (by kernel_rfl) (fun w0 _ => ?_)
  have H0 := Hold.init h
  refine Zs ?_
  refine Zq [.int .i64 0] [0, 1] [(0, .slice aa_ a_.length ca_), (1, .slice acomponent component.length ccomponent)] ?_
  refine Zs ?_
  refine Run_ops ?_
  refine Zr [.slice aa_ a_.length ca_, .int .i64 (a_.length : Int)] 0 ?_
  obtain ⟨l1, hl1, hF⟩ := M.bind_some hF
  have hl1 := M.make_some hl1
  refine Run_E (by kernel_rfl) ?_
  refine E_make cd2 0 (kl := .i64) (kc := .i64) H0 cd2_ti Try.underlying90 (by decide) cd2_zero (by kernel_rfl) hl1 (fun a1 h1 H1 => ?_)
  refine Zr [.slice a1 l1.length l1.length] 3 ?_
  refine Run_nil (by kernel_rfl) ?_
  refine Zk [0, 1, 5] [(0, .slice aa_ a_.length ca_), (1, .slice acomponent component.length ccomponent), (5, .slice a1 l1.length l1.length)] ?_
  refine Zs ?_
  refine Zs ?_
  refine Zq [.slice a1 l1.length l1.length, .int .i64 (l1.length : Int), .int .i64 0] [0, 1, 5, 17, 18] [(0, .slice aa_ a_.length ca_), (1, .slice acomponent component.length ccomponent), (5, .slice a1 l1.length l1.length), (17, .int .i64 (l1.length : Int)), (18, .int .i64 0)] ?_
  obtain ⟨x1, gx1, hF⟩ := M.bind_some hF
  obtain ⟨hloy1, hhiy1, gx1⟩ := M.for_start gx1
  refine Run_join (fun L' h' => L' = [(0, .slice aa_ a_.length ca_), (1, .slice acomponent component.length ccomponent), (5, .slice a1 l1.length l1.length)] ∧ Hold h h' [own cd2 a1 l1.length l1.length x1]) ?_ ?_
  · rintro _ h3 ⟨rfl, H3⟩
    refine Zs ?_
    refine Run_ops ?_
    obtain ⟨x3, hx2, hF⟩ := M.bind_some hF
    obtain ⟨hx2l, hx2u, hx2⟩ := M.idx_some hx2
    obtain ⟨x4, hx3, hF⟩ := M.bind_some hF
    obtain ⟨hx3l, hx3u, hx3⟩ := M.idx_some hx3
    refine Zr [.slice a1 l1.length l1.length, .slice acomponent component.length ccomponent] 0 ?_
    refine Zz (.pointer (some (adr acomponent (0 * 1)))) (Zi 90 2 1 (acomponent) (component.length) (ccomponent) .i64 (0) Try.underlying90 ((rcomponent.at H3.ext).cell hx2).1 hx2l hx2u) ?_
    refine Zz (.int .i64 x3) (Zl 2 (adr acomponent (0 * 1)) (.int .i64 x3) (cd2_cell (rcomponent.at H3.ext) hx2)) ?_
    refine Zz (.pointer (some (adr a1 (x3.toNat * 1)))) (Zi 90 2 1 (a1) (l1.length) (l1.length) .i64 (x3) Try.underlying90 ((H3.rd 0 rfl).cell hx3).1 hx3l (by rw [← (H3.len 0 rfl)]; exact hx3u)) ?_
    obtain ⟨l3, hu2, hF⟩ := M.bind_some hF
    have hu2 := M.upd_some hu2
    refine Run_E (by kernel_rfl) ?_
    refine E_put (C := cd2) (t := 2) (sz := 1) (j := x3) (x := 0) (v := .int .i64 0) H3 cd2_flat (by kernel_rfl) rfl (cd2_own _) (by kernel_rfl) hu2 (fun h5 H5 => ?_)
    refine Run_nil (by kernel_rfl) ?_
    refine Zk [0, 1, 5] [(0, .slice aa_ a_.length ca_), (1, .slice acomponent component.length ccomponent), (5, .slice a1 l1.length l1.length)] ?_
    refine Zs ?_
    refine Run_ops ?_
    obtain ⟨x5, hx4, hF⟩ := M.bind_some hF
    obtain ⟨hx4l, hx4u, hx4⟩ := M.idx_some hx4
    refine Zr [.slice acomponent component.length ccomponent] 0 ?_
    refine Zz (.pointer (some (adr acomponent (0 * 1)))) (Zi 90 2 1 (acomponent) (component.length) (ccomponent) .i64 (0) Try.underlying90 ((rcomponent.at H5.ext).cell hx4).1 hx4l hx4u) ?_
    refine Zz (.int .i64 x5) (Zl 2 (adr acomponent (0 * 1)) (.int .i64 x5) (cd2_cell (rcomponent.at H5.ext) hx4)) ?_
    refine Run_E (by kernel_rfl) ?_
    refine E_lit (C := cd2) (n := 1) (l := ([x5] : List Int)) (cs := [.int .i64 x5]) H5 (fun w => by kernel_rfl) (Enc.consE (cd2_own x5 _) (Enc.nil _ _) rfl) rfl (by decide) (fun a2 h6 H6 => ?_)
    refine Zr [.slice a2 1 1] 4 ?_
    refine Run_nil (by kernel_rfl) ?_
    refine Zk [0, 1, 5, 7] [(0, .slice aa_ a_.length ca_), (1, .slice acomponent component.length ccomponent), (5, .slice a1 l1.length l1.length), (7, .slice a2 1 1)] ?_
    refine Zs ?_
    refine Zq [.int .i64 0] [0, 1, 5, 7, 8] [(0, .slice aa_ a_.length ca_), (1, .slice acomponent component.length ccomponent), (5, .slice a1 l1.length l1.length), (7, .slice a2 1 1), (8, .int .i64 0)] ?_
    refine Zs ?_
    refine Zs ?_
    refine Zq [.int .i64 0] [0, 1, 5, 7, 8, 9] [(0, .slice aa_ a_.length ca_), (1, .slice acomponent component.length ccomponent), (5, .slice a1 l1.length l1.length), (7, .slice a2 1 1), (8, .int .i64 0), (9, .int .i64 0)] ?_
    obtain ⟨x6, gx6, hF⟩ := M.bind_some hF
    refine Run_join (fun L' h' => L' = [(8, .int .i64 x6.2.2.1)] ∧ Hold h h' []) ?_ ?_
    · rintro _ h8 ⟨rfl, H8⟩
      refine Zs ?_
      refine Zq [.int .i64 x6.2.2.1, .int .i64 x6.2.2.1] [4] [(4, .int .i64 x6.2.2.1)] ?_
      have hF := M.ret_some hF
      subst hF
      exact Run_ret1 rfl (ResV_tmp (v := .int .i64 x6.2.2.1) (by kernel_rfl)) ⟨rfl, H8⟩
    · refine Run_block ?_
      have hn1 := (H6.len 0 rfl)
      have H32 : Hold h h6 [own cd2 a2 (([x5] : List Int).length) 1 ([x5] : List Int), own cd2 a1 l1.length l1.length l3] := by rw [hn1]; exact H6
      have H33 : Hold h h6 [own cd2 a1 l1.length l1.length l3, own cd2 a2 (([x5] : List Int).length) 1 ([x5] : List Int)] := H32.pick [1, 0] (by kernel_rfl)
      refine Run_keep [0, 1, 5, 7, 8, 9] (L' := [(0, .slice aa_ a_.length ca_), (1, .slice acomponent component.length ccomponent), (5, .slice a1 l1.length l1.length), (7, .slice a2 (([x5] : List Int).length) 1), (8, .int .i64 0), (9, .int .i64 0)]) (by first | (rw [hn1]; kernel_rfl) | (simp only [hn1]; kernel_rfl) | kernel_rfl) ?_
      refine Run_loop (fun m L' h' => ∃ (s2 : (List Int) × (List Int) × Int × Int) (a3 : Option Addr) (c1 : Nat), M.loopN _ n m s2 = some x6 ∧ L' = [(0, .slice aa_ a_.length ca_), (1, .slice acomponent component.length ccomponent), (5, .slice a1 l1.length l1.length), (7, .slice a3 s2.2.1.length c1), (8, .int .i64 s2.2.2.1), (9, .int .i64 s2.2.2.2)] ∧ Hold h h' [own cd2 a1 l1.length l1.length s2.1, own cd2 a3 s2.2.1.length c1 s2.2.1]) n ⟨(l3, ([x5] : List Int), 0, 0), a2, 1, gx6, rfl, H33⟩ ?_
      rintro my2 _ h7 ⟨s2, a3, c1, gx6, rfl, H7⟩
      obtain ⟨my2, y2, rfl, hB2, hgoy2, houty2⟩ := M.loop_some gx6
      refine Zs ?_
      refine Zs ?_
      refine Zq [.int .i64 s2.2.2.2, .slice a3 s2.2.1.length c1, .int .i64 (s2.2.1.length : Int), .bool (decide (s2.2.2.2 < (s2.2.1.length : Int)))] [0, 1, 5, 7, 8, 9, 37] [(0, .slice aa_ a_.length ca_), (1, .slice acomponent component.length ccomponent), (5, .slice a1 l1.length l1.length), (7, .slice a3 s2.2.1.length c1), (8, .int .i64 s2.2.2.1), (9, .int .i64 s2.2.2.2), (37, .bool (decide (s2.2.2.2 < (s2.2.1.length : Int))))] ?_
      refine Zc (decide (s2.2.2.2 < (s2.2.1.length : Int))) (fun hb2 => ?_) (fun hb2 => ?_)
      · have hB2 := (M.ite_some hB2).1 hb2
        refine Run_skip ?_
        refine Zs ?_
        refine Run_block ?_
        refine Zs ?_
        obtain ⟨x7, hx5, hB2⟩ := M.bind_some hB2
        obtain ⟨hx5l, hx5u, hx5⟩ := M.idx_some hx5
        refine Zg 5 [(0, .slice aa_ a_.length ca_), (1, .slice acomponent component.length ccomponent), (5, .slice a1 l1.length l1.length), (7, .slice a3 s2.2.1.length c1), (8, .int .i64 s2.2.2.1), (9, .int .i64 s2.2.2.2), (10, .int .i64 x7)] ?_ ?_
        · refine Zb [.slice a3 s2.2.1.length c1, .int .i64 s2.2.2.2] 0 ?_
          refine Zy (.pointer (some (adr a3 (s2.2.2.2.toNat * 1)))) (Zi 90 2 1 (a3) (s2.2.1.length) (c1) .i64 (s2.2.2.2) Try.underlying90 ((H7.rd 1 rfl).cell hx5).1 hx5l hx5u) ?_
          refine Zy (.int .i64 x7) (Zl 2 (adr a3 (s2.2.2.2.toNat * 1)) (.int .i64 x7) (cd2_cell (H7.rd 1 rfl) hx5)) ?_
          refine Zb [.int .i64 x7] 4 ?_
          exact Zd [0, 1, 5, 7, 8, 9, 10]
        refine Zs ?_
        refine Zq [.slice acomponent component.length ccomponent, .int .i64 (component.length : Int), .int .i64 0] [0, 1, 5, 7, 8, 9, 10, 44, 45, 46] [(0, .slice aa_ a_.length ca_), (1, .slice acomponent component.length ccomponent), (5, .slice a1 l1.length l1.length), (7, .slice a3 s2.2.1.length c1), (8, .int .i64 s2.2.2.1), (9, .int .i64 s2.2.2.2), (10, .int .i64 x7), (44, .slice acomponent component.length ccomponent), (45, .int .i64 (component.length : Int)), (46, .int .i64 0)] ?_
        obtain ⟨x8, gx8, hB2⟩ := M.bind_some hB2
        obtain ⟨hloy3, hhiy3, gx8⟩ := M.for_start gx8
        refine Run_join (fun L' h' => ∃ (a6 : Option Addr) (c4 : Nat), L' = [(0, .slice aa_ a_.length ca_), (1, .slice acomponent component.length ccomponent), (5, .slice a1 l1.length l1.length), (7, .slice a6 x8.2.1.length c4), (8, .int .i64 x8.2.2), (9, .int .i64 s2.2.2.2)] ∧ Hold h h' [own cd2 a1 l1.length l1.length x8.1, own cd2 a6 x8.2.1.length c4 x8.2.1]) ?_ ?_
        · rintro _ h10 ⟨a6, c4, rfl, H10⟩
          refine Run_blk ?_
          refine Zq [.int .i64 s2.2.2.2, .int .i64 (w64 (s2.2.2.2 + 1)), .int .i64 (w64 (s2.2.2.2 + 1))] [0, 1, 5, 7, 8, 9] [(0, .slice aa_ a_.length ca_), (1, .slice acomponent component.length ccomponent), (5, .slice a1 l1.length l1.length), (7, .slice a6 x8.2.1.length c4), (8, .int .i64 x8.2.2), (9, .int .i64 (w64 (s2.2.2.2 + 1)))] ?_
          have H27 : Hold h h10 [own cd2 a6 x8.2.1.length c4 x8.2.1, own cd2 a1 l1.length l1.length x8.1] := H10.pick [1, 0] (by kernel_rfl)
          have H28 : Hold h h10 [own cd2 a1 l1.length l1.length x8.1, own cd2 a6 x8.2.1.length c4 x8.2.1] := H27.pick [1, 0] (by kernel_rfl)
          have hB2 := M.ret_some hB2
          have gx6 := hgoy2 _ hB2.symm
          exact Run_again [0, 1, 5, 7, 8, 9] (by kernel_rfl) my2 (Nat.lt_succ_self _) ⟨(x8.1, x8.2.1, x8.2.2, (w64 (s2.2.2.2 + 1))), a6, c4, gx6, rfl, H28⟩
        · refine Run_block ?_
          have H29 : Hold h h7 [own cd2 a3 s2.2.1.length c1 s2.2.1, own cd2 a1 l1.length l1.length s2.1] := H7.pick [1, 0] (by kernel_rfl)
          have H30 : Hold h h7 [own cd2 a1 l1.length l1.length s2.1, own cd2 a3 s2.2.1.length c1 s2.2.1] := H29.pick [1, 0] (by kernel_rfl)
          refine Zk [0, 1, 5, 7, 8, 9, 10, 44, 45, 46] [(0, .slice aa_ a_.length ca_), (1, .slice acomponent component.length ccomponent), (5, .slice a1 l1.length l1.length), (7, .slice a3 s2.2.1.length c1), (8, .int .i64 s2.2.2.1), (9, .int .i64 s2.2.2.2), (10, .int .i64 x7), (44, .slice acomponent component.length ccomponent), (45, .int .i64 (component.length : Int)), (46, .int .i64 0)] ?_
          refine Run_loop (fun m L' h' => ∃ (i2 : Int) (s3 : (List Int) × (List Int) × Int) (a5 : Option Addr) (c3 : Nat), 0 ≤ i2 ∧ M.forN (component.length : Int) _ _ n m i2 s3 = some x8 ∧ L' = [(0, .slice aa_ a_.length ca_), (1, .slice acomponent component.length ccomponent), (5, .slice a1 l1.length l1.length), (7, .slice a5 s3.2.1.length c3), (8, .int .i64 s3.2.2), (9, .int .i64 s2.2.2.2), (10, .int .i64 x7), (44, .slice acomponent component.length ccomponent), (45, .int .i64 (component.length : Int)), (46, .int .i64 i2)] ∧ Hold h h' [own cd2 a1 l1.length l1.length s3.1, own cd2 a5 s3.2.1.length c3 s3.2.1]) ((component.length : Int) - 0 : Int).toNat ⟨0, (s2.1, s2.2.1, s2.2.2.1), a3, c1, Int.le_refl _, gx8, rfl, H30⟩ ?_
          rintro my3 _ h9 ⟨i2, s3, a5, c3, hloy3', gx8, rfl, H9⟩
          refine Zs ?_
          refine Zq [.bool (decide (i2 < (component.length : Int)))] [0, 1, 5, 7, 8, 9, 10, 44, 45, 46, 47] [(0, .slice aa_ a_.length ca_), (1, .slice acomponent component.length ccomponent), (5, .slice a1 l1.length l1.length), (7, .slice a5 s3.2.1.length c3), (8, .int .i64 s3.2.2), (9, .int .i64 s2.2.2.2), (10, .int .i64 x7), (44, .slice acomponent component.length ccomponent), (45, .int .i64 (component.length : Int)), (46, .int .i64 i2), (47, .bool (decide (i2 < (component.length : Int))))] ?_
          refine Zs ?_
          refine Zc (decide (i2 < (component.length : Int))) (fun hb3 => ?_) (fun hb3 => ?_)
          · obtain ⟨my3, y3, rfl, hB3, hgoy3, houty3⟩ := M.for_go gx8 hb3
            have hlty3 := of_decide_eq_true hb3
            refine Run_skip ?_
            refine Zs ?_
            refine Run_block ?_
            refine Zs ?_
            obtain ⟨x9, hx6, hB3⟩ := M.bind_some hB3
            obtain ⟨hx6l, hx6u, hx6⟩ := M.idx_some hx6
            refine Zg 3 [(0, .slice aa_ a_.length ca_), (1, .slice acomponent component.length ccomponent), (5, .slice a1 l1.length l1.length), (7, .slice a5 s3.2.1.length c3), (8, .int .i64 s3.2.2), (9, .int .i64 s2.2.2.2), (10, .int .i64 x7), (12, .int .i64 x9), (44, .slice acomponent component.length ccomponent), (45, .int .i64 (component.length : Int)), (46, .int .i64 i2)] ?_ ?_
            · refine Zy (.pointer (some (adr acomponent (i2.toNat * 1)))) (Zi 90 2 1 (acomponent) (component.length) (ccomponent) .i64 (i2) Try.underlying90 ((rcomponent.at H9.ext).cell hx6).1 hx6l hx6u) ?_
              refine Zy (.int .i64 x9) (Zl 2 (adr acomponent (i2.toNat * 1)) (.int .i64 x9) (cd2_cell (rcomponent.at H9.ext) hx6)) ?_
              refine Zb [.int .i64 x9] 2 ?_
              exact Zd [0, 1, 5, 7, 8, 9, 10, 12, 44, 45, 46]
            refine Run_block ?_
            refine Zs ?_
            obtain ⟨x10, hx7, hB3⟩ := M.bind_some hB3
            obtain ⟨hx7l, hx7u, hx7⟩ := M.idx_some hx7
            obtain ⟨a7, c5, hc1, r1⟩ := ra_.row hx7
            obtain ⟨x11, hx8, hB3⟩ := M.bind_some hB3
            obtain ⟨hx8l, hx8u, hx8⟩ := M.idx_some hx8
            refine Zg 9 [(0, .slice aa_ a_.length ca_), (1, .slice acomponent component.length ccomponent), (5, .slice a1 l1.length l1.length), (7, .slice a5 s3.2.1.length c3), (8, .int .i64 s3.2.2), (9, .int .i64 s2.2.2.2), (10, .int .i64 x7), (12, .int .i64 x9), (44, .slice acomponent component.length ccomponent), (45, .int .i64 (component.length : Int)), (46, .int .i64 i2), (63, .bool (x11 == (-1000000000000000)))] ?_ ?_
            · refine Zb [.slice aa_ a_.length ca_, .int .i64 x9] 0 ?_
              refine Zy (.pointer (some (adr aa_ (x9.toNat * 1)))) (Zi 37 90 1 (aa_) (a_.length) (ca_) .i64 (x9) Try.underlying37 ((ra_.at H9.ext).cell hx7).1 hx7l hx7u) ?_
              refine Zy (.slice a7 x10.length c5) (Zl 90 (adr aa_ (x9.toNat * 1)) (.slice a7 x10.length c5) (cell_at H9.ext hc1)) ?_
              refine Zb [.int .i64 x7] 4 ?_
              refine Zy (.pointer (some (adr a7 (x7.toNat * 1)))) (Zi 90 2 1 (a7) (x10.length) (c5) .i64 (x7) Try.underlying90 ((r1.at H9.ext).cell hx8).1 hx8l hx8u) ?_
              refine Zy (.int .i64 x11) (Zl 2 (adr a7 (x7.toNat * 1)) (.int .i64 x11) (cd2_cell (r1.at H9.ext) hx8)) ?_
              refine Zb [.bool (x11 == (-1000000000000000)), .bool (x11 == (-1000000000000000))] 7 ?_
              exact Zd [0, 1, 5, 7, 8, 9, 10, 12, 44, 45, 46, 63]
            obtain ⟨s4, gs4, hB3⟩ := M.bind_some hB3
            refine Run_join (fun L' h' => ∃ (a10 : Option Addr), ∃ (c7 : Nat), L' = [(0, .slice aa_ a_.length ca_), (1, .slice acomponent component.length ccomponent), (5, .slice a1 l1.length l1.length), (7, .slice a10 s4.2.1.length c7), (8, .int .i64 s4.2.2), (9, .int .i64 s2.2.2.2), (10, .int .i64 x7), (44, .slice acomponent component.length ccomponent), (45, .int .i64 (component.length : Int)), (46, .int .i64 i2)] ∧ Hold h h' [own cd2 a1 l1.length l1.length s4.1, own cd2 a10 s4.2.1.length c7 s4.2.1]) ?_ ?_
            · rintro _ h14 ⟨a10, c7, rfl, H17⟩
              refine Run_blk ?_
              refine Run_blk ?_
              refine Zg 2 [(0, .slice aa_ a_.length ca_), (1, .slice acomponent component.length ccomponent), (5, .slice a1 l1.length l1.length), (7, .slice a10 s4.2.1.length c7), (8, .int .i64 s4.2.2), (9, .int .i64 s2.2.2.2), (10, .int .i64 x7), (44, .slice acomponent component.length ccomponent), (45, .int .i64 (component.length : Int)), (46, .int .i64 (i2 + 1))] ?_ ?_
              · refine Zy (.int .i64 (i2 + 1)) (Y_eq (v := .int .i64 (w64 (i2 + 1))) (Y_pure (fun w => by kernel_rfl)) (by rw [w64_eq _ (by omega)])) ?_
                refine Zb [.int .i64 (i2 + 1)] 1 ?_
                exact Zd [0, 1, 5, 7, 8, 9, 10, 44, 45, 46]
              have H23 : Hold h h14 [own cd2 a10 s4.2.1.length c7 s4.2.1, own cd2 a1 l1.length l1.length s4.1] := H17.pick [1, 0] (by kernel_rfl)
              have H24 : Hold h h14 [own cd2 a1 l1.length l1.length s4.1, own cd2 a10 s4.2.1.length c7 s4.2.1] := H23.pick [1, 0] (by kernel_rfl)
              have hB3 := M.ret_some hB3
              have gx8 := hgoy3 _ hB3.symm
              exact Run_again [0, 1, 5, 7, 8, 9, 10, 44, 45, 46] (by kernel_rfl) my3 (Nat.lt_succ_self _) ⟨i2 + 1, (s4.1, s4.2.1, s4.2.2), a10, c7, by omega, gx8, rfl, H24⟩
            · refine Zc (x11 == (-1000000000000000)) (fun hb4 => ?_) (fun hb4 => ?_)
              · have gs4 := (M.ite_some gs4).1 hb4
                refine Run_skip ?_
                have H18 : Hold h h9 [own cd2 a5 s3.2.1.length c3 s3.2.1, own cd2 a1 l1.length l1.length s3.1] := H9.pick [1, 0] (by kernel_rfl)
                have H19 : Hold h h9 [own cd2 a1 l1.length l1.length s3.1, own cd2 a5 s3.2.1.length c3 s3.2.1] := H18.pick [1, 0] (by kernel_rfl)
                have gs4 := M.ret_some gs4
                subst gs4
                exact Run_fall [0, 1, 5, 7, 8, 9, 10, 44, 45, 46] (by kernel_rfl) ⟨a5, c3, rfl, H19⟩
              · have gs4 := (M.ite_some gs4).2 hb4
                refine Zs ?_
                obtain ⟨x12, hx9, gs4⟩ := M.bind_some gs4
                obtain ⟨hx9l, hx9u, hx9⟩ := M.idx_some hx9
                refine Zg 6 [(0, .slice aa_ a_.length ca_), (1, .slice acomponent component.length ccomponent), (5, .slice a1 l1.length l1.length), (7, .slice a5 s3.2.1.length c3), (8, .int .i64 s3.2.2), (9, .int .i64 s2.2.2.2), (10, .int .i64 x7), (12, .int .i64 x9), (44, .slice acomponent component.length ccomponent), (45, .int .i64 (component.length : Int)), (46, .int .i64 i2), (72, .bool (decide (x12 < 0)))] ?_ ?_
                · refine Zb [.slice a1 l1.length l1.length, .int .i64 x9] 0 ?_
                  refine Zy (.pointer (some (adr a1 (x9.toNat * 1)))) (Zi 90 2 1 (a1) (l1.length) (l1.length) .i64 (x9) Try.underlying90 ((H9.rd 0 rfl).cell hx9).1 hx9l (by rw [← (H9.len 0 rfl)]; exact hx9u)) ?_
                  refine Zy (.int .i64 x12) (Zl 2 (adr a1 (x9.toNat * 1)) (.int .i64 x12) (cd2_cell (H9.rd 0 rfl) hx9)) ?_
                  refine Zb [.bool (decide (x12 < 0)), .bool (decide (x12 < 0))] 4 ?_
                  exact Zd [0, 1, 5, 7, 8, 9, 10, 12, 44, 45, 46, 72]
                refine Zc (decide (x12 < 0)) (fun hb5 => ?_) (fun hb5 => ?_)
                · have gs4 := (M.ite_some gs4).1 hb5
                  refine Zs ?_
                  refine Run_ops ?_
                  obtain ⟨x13, hx10, gs4⟩ := M.bind_some gs4
                  obtain ⟨hx10l, hx10u, hx10⟩ := M.idx_some hx10
                  obtain ⟨x14, hx11, gs4⟩ := M.bind_some gs4
                  obtain ⟨hx11l, hx11u, hx11⟩ := M.idx_some hx11
                  refine Zr [.slice a1 l1.length l1.length, .int .i64 x9, .slice a1 l1.length l1.length, .int .i64 x7] 0 ?_
                  refine Zz (.pointer (some (adr a1 (x7.toNat * 1)))) (Zi 90 2 1 (a1) (l1.length) (l1.length) .i64 (x7) Try.underlying90 ((H9.rd 0 rfl).cell hx10).1 hx10l (by rw [← (H9.len 0 rfl)]; exact hx10u)) ?_
                  refine Zz (.int .i64 x13) (Zl 2 (adr a1 (x7.toNat * 1)) (.int .i64 x13) (cd2_cell (H9.rd 0 rfl) hx10)) ?_
                  refine Zr [.int .i64 (w64 (x13 + 1))] 6 ?_
                  refine Zz (.pointer (some (adr a1 (x9.toNat * 1)))) (Zi 90 2 1 (a1) (l1.length) (l1.length) .i64 (x9) Try.underlying90 ((H9.rd 0 rfl).cell hx11).1 hx11l (by rw [← (H9.len 0 rfl)]; exact hx11u)) ?_
                  obtain ⟨l4, hu3, gs4⟩ := M.bind_some gs4
                  have hu3 := M.upd_some hu3
                  refine Run_E (by kernel_rfl) ?_
                  refine E_put (C := cd2) (t := 2) (sz := 1) (j := x9) (x := (w64 (x13 + 1))) (v := .int .i64 (w64 (x13 + 1))) H9 cd2_flat (by kernel_rfl) rfl (cd2_own _) (by kernel_rfl) hu3 (fun h11 H11 => ?_)
                  refine Run_nil (by kernel_rfl) ?_
                  refine Zk [0, 1, 5, 7, 8, 9, 10, 12, 44, 45, 46] [(0, .slice aa_ a_.length ca_), (1, .slice acomponent component.length ccomponent), (5, .slice a1 l1.length l1.length), (7, .slice a5 s3.2.1.length c3), (8, .int .i64 s3.2.2), (9, .int .i64 s2.2.2.2), (10, .int .i64 x7), (12, .int .i64 x9), (44, .slice acomponent component.length ccomponent), (45, .int .i64 (component.length : Int)), (46, .int .i64 i2)] ?_
                  refine Run_ops ?_
                  refine Zr [.slice a5 s3.2.1.length c3, .int .i64 x9] 0 ?_
                  refine Run_E (by kernel_rfl) ?_
                  refine E_lit (C := cd2) (n := 1) (l := ([x9] : List Int)) (cs := [.int .i64 x9]) H11 (fun w => by kernel_rfl) (Enc.consE (cd2_own x9 _) (Enc.nil _ _) rfl) rfl (by decide) (fun a8 h12 H12 => ?_)
                  obtain ⟨l5, hl2, gs4⟩ := M.bind_some gs4
                  have hl2 := M.app_some hl2
                  have H13 : Hold h h12 [own cd2 a5 s3.2.1.length c3 s3.2.1, own cd2 a8 1 1 ([x9] : List Int), own cd2 a1 l1.length l1.length l4] := H12.pick [2, 0, 1] (by kernel_rfl)
                  have H14 : Hold h h12 [own cd2 a8 1 1 ([x9] : List Int), own cd2 a5 s3.2.1.length c3 s3.2.1, own cd2 a1 l1.length l1.length l4] := H13.pick [1, 0, 2] (by kernel_rfl)
                  have H15 : Hold h h12 [own cd2 a5 s3.2.1.length c3 s3.2.1, own cd2 a8 1 1 ([x9] : List Int), own cd2 a1 l1.length l1.length l4] := H14.pick [1, 0, 2] (by kernel_rfl)
                  refine Run_E (by kernel_rfl) ?_
                  refine E_app (C := cd2) (t := 90) (ty := 90) (n := s3.2.1.length) (m := 1) H15 cd2_ti rfl Try.underlying90 (by decide) (by kernel_rfl) hl2 (fun a9 c6 h13 H16 => ?_)
                  refine Zr [.slice a9 l5.length c6] 4 ?_
                  refine Run_nil (by kernel_rfl) ?_
                  refine Zk [0, 1, 5, 7, 8, 9, 10, 44, 45, 46] [(0, .slice aa_ a_.length ca_), (1, .slice acomponent component.length ccomponent), (5, .slice a1 l1.length l1.length), (7, .slice a9 l5.length c6), (8, .int .i64 s3.2.2), (9, .int .i64 s2.2.2.2), (10, .int .i64 x7), (44, .slice acomponent component.length ccomponent), (45, .int .i64 (component.length : Int)), (46, .int .i64 i2)] ?_
                  have H20 : Hold h h13 [own cd2 a1 l1.length l1.length l4, own cd2 a9 l5.length c6 l5] := H16.pick [1, 0] (by kernel_rfl)
                  have gs4 := M.ret_some gs4
                  subst gs4
                  exact Run_fall [0, 1, 5, 7, 8, 9, 10, 44, 45, 46] (by kernel_rfl) ⟨a9, c6, rfl, H20⟩
                · have gs4 := (M.ite_some gs4).2 hb5
                  obtain ⟨x15, hx12, gs4⟩ := M.bind_some gs4
                  obtain ⟨hx12l, hx12u, hx12⟩ := M.idx_some hx12
                  obtain ⟨x16, hx13, gs4⟩ := M.bind_some gs4
                  obtain ⟨hx13l, hx13u, hx13⟩ := M.idx_some hx13
                  obtain ⟨x17, hx14, gs4⟩ := M.bind_some gs4
                  obtain ⟨x18, hx15, gs4⟩ := M.bind_some gs4
                  refine Run_draw 14 mixed (by kernel_rfl) (by kernel_rfl) (L' := [(0, .slice aa_ a_.length ca_), (1, .slice acomponent component.length ccomponent), (5, .slice a1 l1.length l1.length), (7, .slice a5 s3.2.1.length c3), (8, .int .i64 x18), (9, .int .i64 s2.2.2.2), (10, .int .i64 x7), (44, .slice acomponent component.length ccomponent), (45, .int .i64 (component.length : Int)), (46, .int .i64 i2)]) ?_ ?_
                  · refine Zb [.slice a1 l1.length l1.length, .int .i64 x7] 0 ?_
                    refine Zy (.pointer (some (adr a1 (x7.toNat * 1)))) (Zi 90 2 1 (a1) (l1.length) (l1.length) .i64 (x7) Try.underlying90 ((H9.rd 0 rfl).cell hx12).1 hx12l (by rw [← (H9.len 0 rfl)]; exact hx12u)) ?_
                    refine Zy (.int .i64 x15) (Zl 2 (adr a1 (x7.toNat * 1)) (.int .i64 x15) (cd2_cell (H9.rd 0 rfl) hx12)) ?_
                    refine Zb [.int .i64 (w64 (x15 + 1)), .slice a1 l1.length l1.length, .int .i64 x9] 4 ?_
                    refine Zy (.pointer (some (adr a1 (x9.toNat * 1)))) (Zi 90 2 1 (a1) (l1.length) (l1.length) .i64 (x9) Try.underlying90 ((H9.rd 0 rfl).cell hx13).1 hx13l (by rw [← (H9.len 0 rfl)]; exact hx13u)) ?_
                    refine Zy (.int .i64 x16) (Zl 2 (adr a1 (x9.toNat * 1)) (.int .i64 x16) (cd2_cell (H9.rd 0 rfl) hx13)) ?_
                    refine Zb [.int .i64 (w64 ((w64 (x15 + 1)) - x16))] 9 ?_
                    refine Zy (.int .i64 x17) (Y_callq (f := 111) (args := #[.int .i64 (w64 ((w64 (x15 + 1)) - x16))]) (v := .int .i64 x17) (by kernel_rfl) (w_impl_absOf h9 (w64 ((w64 (x15 + 1)) - x16)) _ _ hx14)) ?_
                    refine Zb [.int .i64 s3.2.2] 11 ?_
                    refine Zy (.int .i64 x18) (Y_callq (f := 64) (args := #[.int .i64 x17, .int .i64 s3.2.2]) (v := .int .i64 x18) (by kernel_rfl) (w_impl_divisorOf h9 x17 s3.2.2 _ _ hx15)) ?_
                    refine Zb [.int .i64 x18] 13 ?_
                    exact Zd [0, 1, 5, 7, 8, 9, 10, 44, 45, 46]
                  have H21 : Hold h h9 [own cd2 a5 s3.2.1.length c3 s3.2.1, own cd2 a1 l1.length l1.length s3.1] := H9.pick [1, 0] (by kernel_rfl)
                  have H22 : Hold h h9 [own cd2 a1 l1.length l1.length s3.1, own cd2 a5 s3.2.1.length c3 s3.2.1] := H21.pick [1, 0] (by kernel_rfl)
                  have gs4 := M.ret_some gs4
                  subst gs4
                  exact Run_fall [0, 1, 5, 7, 8, 9, 10, 44, 45, 46] (by kernel_rfl) ⟨a5, c3, rfl, H22⟩
          · have gx8 := M.for_end gx8 hb3
            subst gx8
            refine Run_exit (k' := _) rfl ?_
            have H25 : Hold h h9 [own cd2 a5 s3.2.1.length c3 s3.2.1, own cd2 a1 l1.length l1.length s3.1] := H9.pick [1, 0] (by kernel_rfl)
            have H26 : Hold h h9 [own cd2 a1 l1.length l1.length s3.1, own cd2 a5 s3.2.1.length c3 s3.2.1] := H25.pick [1, 0] (by kernel_rfl)
            exact Run_fall [0, 1, 5, 7, 8, 9] (by kernel_rfl) ⟨a5, c3, rfl, H26⟩
      · have hB2 := (M.ite_some hB2).2 hb2
        refine Run_exit (k' := _) rfl ?_
        have H31 : Hold h h7 [] := H7.pick [] (by kernel_rfl)
        have hB2 := M.ret_some hB2
        have gx6 := houty2 _ hB2.symm
        subst gx6
        exact Run_fall [8] (by kernel_rfl) ⟨rfl, H31⟩
  · refine Run_block ?_
    refine Zk [0, 1, 5, 17, 18] [(0, .slice aa_ a_.length ca_), (1, .slice acomponent component.length ccomponent), (5, .slice a1 l1.length l1.length), (17, .int .i64 (l1.length : Int)), (18, .int .i64 0)] ?_
    refine Run_loop (fun m L' h' => ∃ (i1 : Int) (s1 : (List Int)), 0 ≤ i1 ∧ M.forN (l1.length : Int) _ _ n m i1 s1 = some x1 ∧ L' = [(0, .slice aa_ a_.length ca_), (1, .slice acomponent component.length ccomponent), (5, .slice a1 l1.length l1.length), (17, .int .i64 (l1.length : Int)), (18, .int .i64 i1)] ∧ Hold h h' [own cd2 a1 l1.length l1.length s1]) ((l1.length : Int) - 0 : Int).toNat ⟨0, l1, Int.le_refl _, gx1, rfl, H1⟩ ?_
    rintro my1 _ h2 ⟨i1, s1, hloy1', gx1, rfl, H2⟩
    refine Zs ?_
    refine Zq [.bool (decide (i1 < (l1.length : Int)))] [0, 1, 5, 17, 18, 19] [(0, .slice aa_ a_.length ca_), (1, .slice acomponent component.length ccomponent), (5, .slice a1 l1.length l1.length), (17, .int .i64 (l1.length : Int)), (18, .int .i64 i1), (19, .bool (decide (i1 < (l1.length : Int))))] ?_
    refine Zs ?_
    refine Zc (decide (i1 < (l1.length : Int))) (fun hb1 => ?_) (fun hb1 => ?_)
    · obtain ⟨my1, y1, rfl, hB1, hgoy1, houty1⟩ := M.for_go gx1 hb1
      have hlty1 := of_decide_eq_true hb1
      refine Run_skip ?_
      refine Zs ?_
      refine Run_block ?_
      refine Zs ?_
      refine Zq [.int .i64 i1, .int .i64 i1] [0, 1, 5, 6, 17, 18] [(0, .slice aa_ a_.length ca_), (1, .slice acomponent component.length ccomponent), (5, .slice a1 l1.length l1.length), (6, .int .i64 i1), (17, .int .i64 (l1.length : Int)), (18, .int .i64 i1)] ?_
      refine Run_ops ?_
      obtain ⟨x2, hx1, hB1⟩ := M.bind_some hB1
      obtain ⟨hx1l, hx1u, hx1⟩ := M.idx_some hx1
      refine Zr [.slice a1 l1.length l1.length, .int .i64 i1] 0 ?_
      refine Zz (.pointer (some (adr a1 (i1.toNat * 1)))) (Zi 90 2 1 (a1) (l1.length) (l1.length) .i64 (i1) Try.underlying90 ((H2.rd 0 rfl).cell hx1).1 hx1l (by rw [← (H2.len 0 rfl)]; exact hx1u)) ?_
      obtain ⟨l2, hu1, hB1⟩ := M.bind_some hB1
      have hu1 := M.upd_some hu1
      refine Run_E (by kernel_rfl) ?_
      refine E_put (C := cd2) (t := 2) (sz := 1) (j := i1) (x := (-1)) (v := .int .i64 (-1)) H2 cd2_flat (by kernel_rfl) rfl (cd2_own _) (by kernel_rfl) hu1 (fun h4 H4 => ?_)
      refine Run_nil (by kernel_rfl) ?_
      refine Zk [0, 1, 5, 17, 18] [(0, .slice aa_ a_.length ca_), (1, .slice acomponent component.length ccomponent), (5, .slice a1 l1.length l1.length), (17, .int .i64 (l1.length : Int)), (18, .int .i64 i1)] ?_
      refine Run_blk ?_
      refine Zg 2 [(0, .slice aa_ a_.length ca_), (1, .slice acomponent component.length ccomponent), (5, .slice a1 l1.length l1.length), (17, .int .i64 (l1.length : Int)), (18, .int .i64 (i1 + 1))] ?_ ?_
      · refine Zy (.int .i64 (i1 + 1)) (Y_eq (v := .int .i64 (w64 (i1 + 1))) (Y_pure (fun w => by kernel_rfl)) (by rw [w64_eq _ (by omega)])) ?_
        refine Zb [.int .i64 (i1 + 1)] 1 ?_
        exact Zd [0, 1, 5, 17, 18]
      have hB1 := M.ret_some hB1
      have gx1 := hgoy1 _ hB1.symm
      exact Run_again [0, 1, 5, 17, 18] (by kernel_rfl) my1 (Nat.lt_succ_self _) ⟨i1 + 1, l2, by omega, gx1, rfl, H4⟩
    · have gx1 := M.for_end gx1 hb1
      subst gx1
      refine Run_exit (k' := _) rfl ?_
      exact Run_fall [0, 1, 5] (by kernel_rfl) ⟨rfl, H2⟩

set_option maxRecDepth 100000 in
set_option maxHeartbeats 4000000 in
theorem w_impl_PeriodAt (h : Heap) (a_ : List (List Int)) (aa_ : Option Addr) (ca_ : Nat) (ra_ : Rd cd90 h (Lt h) aa_ ca_ a_) (node : Int) (n : Nat) (r : Int × Int) (hF : impl_PeriodAt a_ node n = some r) :
    Fn Try.prog 26 #[.slice aa_ a_.length ca_, .int .i64 node] h fun v h' => v = .tuple #[.int .i64 r.1, .int .i64 r.2] ∧ Hold h h' [] := by
  unfold impl_PeriodAt at hF
  refine Fn_enter (args := [.slice aa_ a_.length ca_, .int .i64 node]) Try.func26 rfl (by kernel_rfl) (by kernel_rfl) (fun w0 _ => ?_)
  have H0 := Hold.init h
  refine Zs ?_
  refine Zq [.int .i64 0, .int .i64 0] [0, 1] [(0, .slice aa_ a_.length ca_), (1, .int .i64 node)] ?_
  refine Zs ?_
  refine Run_ops ?_
  refine Zr [.slice aa_ a_.length ca_] 0 ?_
  obtain ⟨x1, hx1, hF⟩ := M.bind_some hF
  refine Run_E (by kernel_rfl) ?_
  refine E_call (f := 61) (args := #[.slice aa_ a_.length ca_]) (w_impl_criticalOf h a_ aa_ ca_ ra_ _ _ hx1) (by kernel_rfl) (fun v1 h1 hp1 => ?_)
  obtain ⟨a1, c1, rfl, H1⟩ := hp1
  have H2 : Hold h h1 [own cd90 a1 x1.1.length c1 x1.1] := H0.call H1 rfl
  refine Zr [.tuple #[.slice a1 x1.1.length c1, .int .i64 x1.2], .slice a1 x1.1.length c1, .int .i64 x1.2, .slice a1 x1.1.length c1, .int .i64 x1.2] 2 ?_
  refine Run_nil (by kernel_rfl) ?_
  refine Zk [0, 1, 6, 7] [(0, .slice aa_ a_.length ca_), (1, .int .i64 node), (6, .slice a1 x1.1.length c1), (7, .int .i64 x1.2)] ?_
  refine Zs ?_
  refine Zs ?_
  refine Zq [.int .i64 x1.2, .bool (x1.2 != 0)] [0, 1, 6, 7, 16] [(0, .slice aa_ a_.length ca_), (1, .int .i64 node), (6, .slice a1 x1.1.length c1), (7, .int .i64 x1.2), (16, .bool (x1.2 != 0))] ?_
  refine Zc (x1.2 != 0) (fun hb1 => ?_) (fun hb1 => ?_)
  · have hF := (M.ite_some hF).1 hb1
    refine Zs ?_
    refine Zq [.int .i64 x1.2, .int .i64 0, .int .i64 x1.2] [4, 5] [(4, .int .i64 0), (5, .int .i64 x1.2)] ?_
    have hF := M.ret_some hF
    subst hF
    have H3 : Hold h h1 [] := H2.pick [] (by kernel_rfl)
    exact Run_ret2 rfl (ResV_tmp (v := .int .i64 0) (by kernel_rfl)) (ResV_tmp (v := .int .i64 x1.2) (by kernel_rfl)) ⟨rfl, H3⟩
  · have hF := (M.ite_some hF).2 hb1
    refine Run_skip ?_
    refine Zs ?_
    refine Zs ?_
    obtain ⟨x2, hx2, hF⟩ := M.bind_some hF
    refine Zg 4 [(1, .int .i64 node), (6, .slice a1 x1.1.length c1), (21, .bool (!x2))] ?_ ?_
    · refine Zb [.slice aa_ a_.length ca_, .int .i64 node] 0 ?_
      refine Zy (.bool x2) (Y_callq (f := 72) (args := #[.slice aa_ a_.length ca_, .int .i64 node]) (v := .bool x2) (by kernel_rfl) (w_impl_isNode h1 a_ aa_ ca_ (ra_.at H2.ext) node _ _ hx2)) ?_
      refine Zb [.bool (!x2)] 3 ?_
      exact Zd [1, 6, 21]
    refine Zc (!x2) (fun hb2 => ?_) (fun hb2 => ?_)
    · have hF := (M.ite_some hF).1 hb2
      refine Zs ?_
      refine Zq [.int .i64 0, .int .i64 2] [4, 5] [(4, .int .i64 0), (5, .int .i64 2)] ?_
      have hF := M.ret_some hF
      subst hF
      have H4 : Hold h h1 [] := H2.pick [] (by kernel_rfl)
      exact Run_ret2 rfl (ResV_tmp (v := .int .i64 0) (by kernel_rfl)) (ResV_tmp (v := .int .i64 2) (by kernel_rfl)) ⟨rfl, H4⟩
    · have hF := (M.ite_some hF).2 hb2
      refine Run_skip ?_
      refine Zs ?_
      refine Zs ?_
      refine Run_ops ?_
      refine Zr [.slice a1 x1.1.length c1] 0 ?_
      obtain ⟨x3, hx3, hF⟩ := M.bind_some hF
      refine Run_E (by kernel_rfl) ?_
      refine E_call (f := 62) (args := #[.slice a1 x1.1.length c1]) (w_impl_criticalComponents h1 x1.1 a1 c1 (H2.rd 0 rfl) _ _ hx3) (by kernel_rfl) (fun v2 h2 hp2 => ?_)
      obtain ⟨a2, c2, rfl, rV1, H5⟩ := hp2
      have H6 : Hold h h2 [own cd90 a1 x1.1.length c1 x1.1] := H2.call H5 rfl
      refine Zr [.int .i64 (x3.length : Int), .int .i64 0] 2 ?_
      refine Run_nil (by kernel_rfl) ?_
      refine Zk [1, 6, 23, 24, 25] [(1, .int .i64 node), (6, .slice a1 x1.1.length c1), (23, .slice a2 x3.length c2), (24, .int .i64 (x3.length : Int)), (25, .int .i64 0)] ?_
      have rB1 := (H6.rd 0 rfl)
      have rB2 := rV1
      have HB1 : Hold h h2 [] := H6.pick [] (by kernel_rfl)
      obtain ⟨h, hEq⟩ : ∃ q : Heap, q = h2 := ⟨_, rfl⟩
      subst hEq
      have H7 := Hold.init h
      obtain ⟨x4, gx4, hF⟩ := M.bind_some hF
      obtain ⟨hloy1, hhiy1, gx4⟩ := M.for_start gx4
      refine Run_join (fun L' h' => ∃ (s2 : Unit), x4 = .inl s2 ∧ L' = [] ∧ Hold h h' []) ?_ ?_
      · rintro _ h4 ⟨s2, es2, rfl, H9⟩
        have hF := M.cont_inl' hF es2
        refine Zs ?_
        refine Zq [.int .i64 0, .int .i64 5] [4, 5] [(4, .int .i64 0), (5, .int .i64 5)] ?_
        have hF := M.ret_some hF
        subst hF
        exact Run_ret2 rfl (ResV_tmp (v := .int .i64 0) (by kernel_rfl)) (ResV_tmp (v := .int .i64 5) (by kernel_rfl)) ⟨rfl, (HB1.trans0 H9)⟩
      · refine Run_block ?_
        refine Zk [1, 6, 23, 24, 25] [(1, .int .i64 node), (6, .slice a1 x1.1.length c1), (23, .slice a2 x3.length c2), (24, .int .i64 (x3.length : Int)), (25, .int .i64 0)] ?_
        refine Run_loop (fun m L' h' => ∃ (i1 : Int) (s1 : Unit), 0 ≤ i1 ∧ M.forN (x3.length : Int) _ _ n m i1 s1 = some x4 ∧ L' = [(1, .int .i64 node), (6, .slice a1 x1.1.length c1), (23, .slice a2 x3.length c2), (24, .int .i64 (x3.length : Int)), (25, .int .i64 i1)] ∧ Hold h h' []) ((x3.length : Int) - 0 : Int).toNat ⟨0, (), Int.le_refl _, gx4, rfl, H7⟩ ?_
        rintro my1 _ h3 ⟨i1, s1, hloy1', gx4, rfl, H8⟩
        refine Zs ?_
        refine Zq [.bool (decide (i1 < (x3.length : Int)))] [1, 6, 23, 24, 25, 26] [(1, .int .i64 node), (6, .slice a1 x1.1.length c1), (23, .slice a2 x3.length c2), (24, .int .i64 (x3.length : Int)), (25, .int .i64 i1), (26, .bool (decide (i1 < (x3.length : Int))))] ?_
        refine Zs ?_
        refine Zc (decide (i1 < (x3.length : Int))) (fun hb3 => ?_) (fun hb3 => ?_)
        · obtain ⟨my1, y1, rfl, hB1, hgoy1, houty1⟩ := M.for_go gx4 hb3
          have hlty1 := of_decide_eq_true hb3
          refine Run_skip ?_
          refine Zs ?_
          refine Run_block ?_
          refine Zs ?_
          obtain ⟨x5, hx4, hB1⟩ := M.bind_some hB1
          obtain ⟨hx4l, hx4u, hx4⟩ := M.idx_some hx4
          obtain ⟨a3, c3, hc1, r1⟩ := rB2.row hx4
          refine Zg 3 [(1, .int .i64 node), (6, .slice a1 x1.1.length c1), (9, .slice a3 x5.length c3), (23, .slice a2 x3.length c2), (24, .int .i64 (x3.length : Int)), (25, .int .i64 i1)] ?_ ?_
          · refine Zy (.pointer (some (adr a2 (i1.toNat * 1)))) (Zi 37 90 1 (a2) (x3.length) (c2) .i64 (i1) Try.underlying37 ((rB2.at H8.ext).cell hx4).1 hx4l hx4u) ?_
            refine Zy (.slice a3 x5.length c3) (Zl 90 (adr a2 (i1.toNat * 1)) (.slice a3 x5.length c3) (cell_at H8.ext hc1)) ?_
            refine Zb [.slice a3 x5.length c3] 2 ?_
            exact Zd [1, 6, 9, 23, 24, 25]
          refine Zs ?_
          obtain ⟨x6, hx5, hB1⟩ := M.bind_some hB1
          refine Zg 3 [(1, .int .i64 node), (6, .slice a1 x1.1.length c1), (9, .slice a3 x5.length c3), (23, .slice a2 x3.length c2), (24, .int .i64 (x3.length : Int)), (25, .int .i64 i1), (31, .bool x6)] ?_ ?_
          · refine Zb [.slice a3 x5.length c3, .int .i64 node] 0 ?_
            refine Zy (.bool x6) (Y_callq (f := 73) (args := #[.slice a3 x5.length c3, .int .i64 node]) (v := .bool x6) (by kernel_rfl) (w_slices_Contains_int h3 x5 a3 c3 (r1.at H8.ext) node _ _ hx5)) ?_
            exact Zd [1, 6, 9, 23, 24, 25, 31]
          refine Zc (x6) (fun hb4 => ?_) (fun hb4 => ?_)
          · have hB1 := (M.ite_some hB1).1 hb4
            refine Zs ?_
            obtain ⟨x7, hx6, hB1⟩ := M.bind_some hB1
            refine Run_regC (j := 5) (C := fun x => Hold h x []) (by kernel_rfl) H8 (L' := [(4, .int .i64 x7), (5, .int .i64 0)]) ?_ (fun h5 H10 => ?_)
            · refine Zb [.slice a1 x1.1.length c1, .slice a3 x5.length c3] 0 ?_
              refine Zy (.int .i64 x7) (Y_call (f := 63) (args := #[.slice a1 x1.1.length c1, .slice a3 x5.length c3]) (v := .int .i64 x7) (by kernel_rfl) fun hx Hx => (w_impl_periodOf hx x1.1 a1 c1 (rB1.at Hx.ext) x5 a3 c3 (r1.at Hx.ext) _ _ hx6).mono fun _ _ ⟨e, H'⟩ => ⟨e, Hx.call H' rfl⟩) ?_
              refine Zb [.int .i64 x7, .int .i64 0] 3 ?_
              exact Zd [4, 5]
            have H11 : Hold h h5 [] := H10
            have hB1 := M.ret_some hB1
            have gx4 := houty1 _ hB1.symm
            have hF := M.cont_inr' hF gx4
            have hF := M.ret_some hF
            subst hF
            exact Run_ret2 rfl (ResV_tmp (v := .int .i64 x7) (by kernel_rfl)) (ResV_tmp (v := .int .i64 0) (by kernel_rfl)) ⟨rfl, (HB1.trans0 H11)⟩
          · have hB1 := (M.ite_some hB1).2 hb4
            refine Run_skip ?_
            refine Run_blk ?_
            refine Zg 2 [(1, .int .i64 node), (6, .slice a1 x1.1.length c1), (23, .slice a2 x3.length c2), (24, .int .i64 (x3.length : Int)), (25, .int .i64 (i1 + 1))] ?_ ?_
            · refine Zy (.int .i64 (i1 + 1)) (Y_eq (v := .int .i64 (w64 (i1 + 1))) (Y_pure (fun w => by kernel_rfl)) (by rw [w64_eq _ (by omega)])) ?_
              refine Zb [.int .i64 (i1 + 1)] 1 ?_
              exact Zd [1, 6, 23, 24, 25]
            have hB1 := M.ret_some hB1
            have gx4 := hgoy1 _ hB1.symm
            exact Run_again [1, 6, 23, 24, 25] (by kernel_rfl) my1 (Nat.lt_succ_self _) ⟨i1 + 1, (), by omega, gx4, rfl, H8⟩
        · have gx4 := M.for_end gx4 hb3
          subst gx4
          refine Run_exit (k' := _) rfl ?_
          exact Run_fall [] (by kernel_rfl) ⟨(), rfl, rfl, H8⟩

set_option maxRecDepth 100000 in
set_option maxHeartbeats 4000000 in
theorem w_laws_eqInt64S (h : Heap) (a_ : List Int) {Sa_ : Bs} (aa_ : Option Addr) (ca_ : Nat) (ra_ : Rd cd2 h Sa_ aa_ ca_ a_) (b : List Int) {Sb : Bs} (ab : Option Addr) (cb : Nat) (rb : Rd cd2 h Sb ab cb b) (n : Nat) (r : Bool) (hF : laws_eqInt64S a_ b n = some r) :
    Fn Try.prog 74 #[.slice aa_ a_.length ca_, .slice ab b.length cb] h fun v h' => v = .bool r ∧ h' = h := by
  unfold laws_eqInt64S at hF
  refine Fn_enter (args := [.slice aa_ a_.length ca_, .slice ab b.length cb]) Try.func74 rfl (by kernel_rfl) (by kernel_rfl) (fun w0 _ => ?_)
  refine Zs ?_
  refine Zq [.bool false] [0, 1] [(0, .slice aa_ a_.length ca_), (1, .slice ab b.length cb)] ?_
  refine Zs ?_
  refine Zs ?_
  refine Zq [.slice aa_ a_.length ca_, .int .i64 (a_.length : Int), .slice ab b.length cb, .int .i64 (b.length : Int), .bool ((a_.length : Int) != (b.length : Int))] [0, 1, 10] [(0, .slice aa_ a_.length ca_), (1, .slice ab b.length cb), (10, .bool ((a_.length : Int) != (b.length : Int)))] ?_
  refine Zc ((a_.length : Int) != (b.length : Int)) (fun hb1 => ?_) (fun hb1 => ?_)
  · have hF := (M.ite_some hF).1 hb1
    refine Zs ?_
    refine Zq [.bool false] [4] [(4, .bool false)] ?_
    have hF := M.ret_some hF
    subst hF
    exact Run_ret1 rfl (ResV_tmp (v := .bool false) (by kernel_rfl)) ⟨rfl, rfl⟩
  · have hF := (M.ite_some hF).2 hb1
    refine Run_skip ?_
    refine Zs ?_
    refine Zs ?_
    refine Zq [.int .i64 0] [0, 1, 5] [(0, .slice aa_ a_.length ca_), (1, .slice ab b.length cb), (5, .int .i64 0)] ?_
    obtain ⟨x1, gx1, hF⟩ := M.bind_some hF
    obtain ⟨hloy1, hhiy1, gx1⟩ := M.for_start gx1
    refine Run_join (fun L' h' => ∃ (s2 : Unit), x1 = .inl s2 ∧ L' = [] ∧ h = h') ?_ ?_
    · rintro _ _ ⟨s2, es2, rfl, rfl⟩
      have hF := M.cont_inl' hF es2
      refine Zs ?_
      refine Zq [.bool true] [4] [(4, .bool true)] ?_
      have hF := M.ret_some hF
      subst hF
      exact Run_ret1 rfl (ResV_tmp (v := .bool true) (by kernel_rfl)) ⟨rfl, rfl⟩
    · refine Run_block ?_
      refine Zk [0, 1, 5] [(0, .slice aa_ a_.length ca_), (1, .slice ab b.length cb), (5, .int .i64 0)] ?_
      refine Run_loop (fun m L' h' => ∃ (i1 : Int) (s1 : Unit), 0 ≤ i1 ∧ M.forN (a_.length : Int) _ _ n m i1 s1 = some x1 ∧ L' = [(0, .slice aa_ a_.length ca_), (1, .slice ab b.length cb), (5, .int .i64 i1)] ∧ h = h') ((a_.length : Int) - 0 : Int).toNat ⟨0, (), Int.le_refl _, gx1, rfl, rfl⟩ ?_
      rintro my1 _ _ ⟨i1, s1, hloy1', gx1, rfl, rfl⟩
      refine Zs ?_
      refine Zs ?_
      refine Zq [.int .i64 i1, .slice aa_ a_.length ca_, .int .i64 (a_.length : Int), .bool (decide (i1 < (a_.length : Int)))] [0, 1, 5, 14] [(0, .slice aa_ a_.length ca_), (1, .slice ab b.length cb), (5, .int .i64 i1), (14, .bool (decide (i1 < (a_.length : Int))))] ?_
      refine Zc (decide (i1 < (a_.length : Int))) (fun hb2 => ?_) (fun hb2 => ?_)
      · obtain ⟨my1, y1, rfl, hB1, hgoy1, houty1⟩ := M.for_go gx1 hb2
        have hlty1 := of_decide_eq_true hb2
        refine Run_skip ?_
        refine Zs ?_
        refine Run_block ?_
        refine Zs ?_
        obtain ⟨x2, hx1, hB1⟩ := M.bind_some hB1
        obtain ⟨hx1l, hx1u, hx1⟩ := M.idx_some hx1
        obtain ⟨x3, hx2, hB1⟩ := M.bind_some hB1
        obtain ⟨hx2l, hx2u, hx2⟩ := M.idx_some hx2
        refine Run_draw 9 mixed (by kernel_rfl) (by kernel_rfl) (L' := [(0, .slice aa_ a_.length ca_), (1, .slice ab b.length cb), (5, .int .i64 i1), (25, .bool (x2 != x3))]) ?_ ?_
        · refine Zb [.slice aa_ a_.length ca_, .int .i64 i1] 0 ?_
          refine Zy (.pointer (some (adr aa_ (i1.toNat * 1)))) (Zi 90 2 1 (aa_) (a_.length) (ca_) .i64 (i1) Try.underlying90 (ra_.cell hx1).1 hx1l hx1u) ?_
          refine Zy (.int .i64 x2) (Zl 2 (adr aa_ (i1.toNat * 1)) (.int .i64 x2) (cd2_cell ra_ hx1)) ?_
          refine Zb [.slice ab b.length cb, .int .i64 i1] 4 ?_
          refine Zy (.pointer (some (adr ab (i1.toNat * 1)))) (Zi 90 2 1 (ab) (b.length) (cb) .i64 (i1) Try.underlying90 (rb.cell hx2).1 hx2l hx2u) ?_
          refine Zy (.int .i64 x3) (Zl 2 (adr ab (i1.toNat * 1)) (.int .i64 x3) (cd2_cell rb hx2)) ?_
          refine Zb [.bool (x2 != x3)] 8 ?_
          exact Zd [0, 1, 5, 25]
        refine Zc (x2 != x3) (fun hb3 => ?_) (fun hb3 => ?_)
        · have hB1 := (M.ite_some hB1).1 hb3
          refine Zs ?_
          refine Zq [.bool false] [4] [(4, .bool false)] ?_
          have hB1 := M.ret_some hB1
          have gx1 := houty1 _ hB1.symm
          have hF := M.cont_inr' hF gx1
          have hF := M.ret_some hF
          subst hF
          exact Run_ret1 rfl (ResV_tmp (v := .bool false) (by kernel_rfl)) ⟨rfl, rfl⟩
        · have hB1 := (M.ite_some hB1).2 hb3
          refine Run_skip ?_
          refine Run_blk ?_
          refine Zg 3 [(0, .slice aa_ a_.length ca_), (1, .slice ab b.length cb), (5, .int .i64 (i1 + 1))] ?_ ?_
          · refine Zb [.int .i64 i1] 0 ?_
            refine Zy (.int .i64 (i1 + 1)) (Y_eq (v := .int .i64 (w64 (i1 + 1))) (Y_pure (fun w => by kernel_rfl)) (by rw [w64_eq _ (by omega)])) ?_
            refine Zb [.int .i64 (i1 + 1)] 2 ?_
            exact Zd [0, 1, 5]
          have hB1 := M.ret_some hB1
          have gx1 := hgoy1 _ hB1.symm
          exact Run_again [0, 1, 5] (by kernel_rfl) my1 (Nat.lt_succ_self _) ⟨i1 + 1, (), by omega, gx1, rfl, rfl⟩
      · have gx1 := M.for_end gx1 hb2
        subst gx1
        refine Run_exit (k' := _) rfl ?_
        exact Run_fall [] (by kernel_rfl) ⟨(), rfl, rfl, rfl⟩

set_option maxRecDepth 100000 in
set_option maxHeartbeats 4000000 in
theorem w_laws_eqInt64SS (h : Heap) (a_ : List (List Int)) {Sa_ : Bs} (aa_ : Option Addr) (ca_ : Nat) (ra_ : Rd cd90 h Sa_ aa_ ca_ a_) (b : List (List Int)) {Sb : Bs} (ab : Option Addr) (cb : Nat) (rb : Rd cd90 h Sb ab cb b) (n : Nat) (r : Bool) (hF : laws_eqInt64SS a_ b n = some r) :
    Fn Try.prog 27 #[.slice aa_ a_.length ca_, .slice ab b.length cb] h fun v h' => v = .bool r ∧ h' = h := by
  unfold laws_eqInt64SS at hF
  refine Fn_enter (args := [.slice aa_ a_.length ca_, .slice ab b.length cb]) Try.func27 rfl (by kernel_rfl) (by kernel_rfl) (fun w0 _ => ?_)
  refine Zs ?_
  refine Zq [.bool false] [0, 1] [(0, .slice aa_ a_.length ca_), (1, .slice ab b.length cb)] ?_
  refine Zs ?_
  refine Zs ?_
  refine Zq [.slice aa_ a_.length ca_, .int .i64 (a_.length : Int), .slice ab b.length cb, .int .i64 (b.length : Int), .bool ((a_.length : Int) != (b.length : Int))] [0, 1, 10] [(0, .slice aa_ a_.length ca_), (1, .slice ab b.length cb), (10, .bool ((a_.length : Int) != (b.length : Int)))] ?_
  refine Zc ((a_.length : Int) != (b.length : Int)) (fun hb1 => ?_) (fun hb1 => ?_)
  · have hF := (M.ite_some hF).1 hb1
    refine Zs ?_
    refine Zq [.bool false] [4] [(4, .bool false)] ?_
    have hF := M.ret_some hF
    subst hF
    exact Run_ret1 rfl (ResV_tmp (v := .bool false) (by kernel_rfl)) ⟨rfl, rfl⟩
  · have hF := (M.ite_some hF).2 hb1
    refine Run_skip ?_
    refine Zs ?_
    refine Zs ?_
    refine Zq [.int .i64 0] [0, 1, 5] [(0, .slice aa_ a_.length ca_), (1, .slice ab b.length cb), (5, .int .i64 0)] ?_
    obtain ⟨x1, gx1, hF⟩ := M.bind_some hF
    obtain ⟨hloy1, hhiy1, gx1⟩ := M.for_start gx1
    refine Run_join (fun L' h' => ∃ (s2 : Unit), x1 = .inl s2 ∧ L' = [] ∧ h = h') ?_ ?_
    · rintro _ _ ⟨s2, es2, rfl, rfl⟩
      have hF := M.cont_inl' hF es2
      refine Zs ?_
      refine Zq [.bool true] [4] [(4, .bool true)] ?_
      have hF := M.ret_some hF
      subst hF
      exact Run_ret1 rfl (ResV_tmp (v := .bool true) (by kernel_rfl)) ⟨rfl, rfl⟩
    · refine Run_block ?_
      refine Zk [0, 1, 5] [(0, .slice aa_ a_.length ca_), (1, .slice ab b.length cb), (5, .int .i64 0)] ?_
      refine Run_loop (fun m L' h' => ∃ (i1 : Int) (s1 : Unit), 0 ≤ i1 ∧ M.forN (a_.length : Int) _ _ n m i1 s1 = some x1 ∧ L' = [(0, .slice aa_ a_.length ca_), (1, .slice ab b.length cb), (5, .int .i64 i1)] ∧ h = h') ((a_.length : Int) - 0 : Int).toNat ⟨0, (), Int.le_refl _, gx1, rfl, rfl⟩ ?_
      rintro my1 _ _ ⟨i1, s1, hloy1', gx1, rfl, rfl⟩
      refine Zs ?_
      refine Zs ?_
      refine Zq [.int .i64 i1, .slice aa_ a_.length ca_, .int .i64 (a_.length : Int), .bool (decide (i1 < (a_.length : Int)))] [0, 1, 5, 14] [(0, .slice aa_ a_.length ca_), (1, .slice ab b.length cb), (5, .int .i64 i1), (14, .bool (decide (i1 < (a_.length : Int))))] ?_
      refine Zc (decide (i1 < (a_.length : Int))) (fun hb2 => ?_) (fun hb2 => ?_)
      · obtain ⟨my1, y1, rfl, hB1, hgoy1, houty1⟩ := M.for_go gx1 hb2
        have hlty1 := of_decide_eq_true hb2
        refine Run_skip ?_
        refine Zs ?_
        refine Run_block ?_
        refine Zs ?_
        obtain ⟨x2, hx1, hB1⟩ := M.bind_some hB1
        obtain ⟨hx1l, hx1u, hx1⟩ := M.idx_some hx1
        obtain ⟨a1, c1, hc1, r1⟩ := ra_.row hx1
        obtain ⟨x3, hx2, hB1⟩ := M.bind_some hB1
        obtain ⟨hx2l, hx2u, hx2⟩ := M.idx_some hx2
        obtain ⟨a2, c2, hc2, r2⟩ := rb.row hx2
        obtain ⟨x4, hx3, hB1⟩ := M.bind_some hB1
        refine Run_draw 10 mixed (by kernel_rfl) (by kernel_rfl) (L' := [(0, .slice aa_ a_.length ca_), (1, .slice ab b.length cb), (5, .int .i64 i1), (26, .bool (!x4))]) ?_ ?_
        · refine Zb [.slice aa_ a_.length ca_, .int .i64 i1] 0 ?_
          refine Zy (.pointer (some (adr aa_ (i1.toNat * 1)))) (Zi 37 90 1 (aa_) (a_.length) (ca_) .i64 (i1) Try.underlying37 (ra_.cell hx1).1 hx1l hx1u) ?_
          refine Zy (.slice a1 x2.length c1) (Zl 90 (adr aa_ (i1.toNat * 1)) (.slice a1 x2.length c1) hc1) ?_
          refine Zb [.slice ab b.length cb, .int .i64 i1] 4 ?_
          refine Zy (.pointer (some (adr ab (i1.toNat * 1)))) (Zi 37 90 1 (ab) (b.length) (cb) .i64 (i1) Try.underlying37 (rb.cell hx2).1 hx2l hx2u) ?_
          refine Zy (.slice a2 x3.length c2) (Zl 90 (adr ab (i1.toNat * 1)) (.slice a2 x3.length c2) hc2) ?_
          refine Zy (.bool x4) (Y_callq (f := 74) (args := #[.slice a1 x2.length c1, .slice a2 x3.length c2]) (v := .bool x4) (by kernel_rfl) (w_laws_eqInt64S h x2 a1 c1 r1 x3 a2 c2 r2 _ _ hx3)) ?_
          refine Zb [.bool (!x4)] 9 ?_
          exact Zd [0, 1, 5, 26]
        refine Zc (!x4) (fun hb3 => ?_) (fun hb3 => ?_)
        · have hB1 := (M.ite_some hB1).1 hb3
          refine Zs ?_
          refine Zq [.bool false] [4] [(4, .bool false)] ?_
          have hB1 := M.ret_some hB1
          have gx1 := houty1 _ hB1.symm
          have hF := M.cont_inr' hF gx1
          have hF := M.ret_some hF
          subst hF
          exact Run_ret1 rfl (ResV_tmp (v := .bool false) (by kernel_rfl)) ⟨rfl, rfl⟩
        · have hB1 := (M.ite_some hB1).2 hb3
          refine Run_skip ?_
          refine Run_blk ?_
          refine Zg 3 [(0, .slice aa_ a_.length ca_), (1, .slice ab b.length cb), (5, .int .i64 (i1 + 1))] ?_ ?_
          · refine Zb [.int .i64 i1] 0 ?_
            refine Zy (.int .i64 (i1 + 1)) (Y_eq (v := .int .i64 (w64 (i1 + 1))) (Y_pure (fun w => by kernel_rfl)) (by rw [w64_eq _ (by omega)])) ?_
            refine Zb [.int .i64 (i1 + 1)] 2 ?_
            exact Zd [0, 1, 5]
          have hB1 := M.ret_some hB1
          have gx1 := hgoy1 _ hB1.symm
          exact Run_again [0, 1, 5] (by kernel_rfl) my1 (Nat.lt_succ_self _) ⟨i1 + 1, (), by omega, gx1, rfl, rfl⟩
      · have gx1 := M.for_end gx1 hb2
        subst gx1
        refine Run_exit (k' := _) rfl ?_
        exact Run_fall [] (by kernel_rfl) ⟨(), rfl, rfl, rfl⟩

set_option maxRecDepth 100000 in
set_option maxHeartbeats 4000000 in
theorem w_laws_FnExactPeriodAt (h : Heap) (aA : List (List Int)) (aaA : Option Addr) (caA : Nat) (raA : Rd cd90 h (Lt h) aaA caA aA) (aNode : Int) (n : Nat) (r : Bool) (hF : laws_FnExactPeriodAt aA aNode n = some r) :
    Fn Try.prog 5 #[.slice aaA aA.length caA, .int .i64 aNode] h fun v h' => v = .bool r ∧ Hold h h' [] := by
  unfold laws_FnExactPeriodAt at hF
  refine Fn_enter (args := [.slice aaA aA.length caA, .int .i64 aNode]) Try.func5 rfl (by kernel_rfl) (by kernel_rfl) (fun w0 _ => ?_)
  have H0 := Hold.init h
  refine Zs ?_
  refine Zq [.bool false] [0, 1] [(0, .slice aaA aA.length caA), (1, .int .i64 aNode)] ?_
  refine Zs ?_
  refine Zq [.int .i64 1048576] [0, 1, 5] [(0, .slice aaA aA.length caA), (1, .int .i64 aNode), (5, .int .i64 1048576)] ?_
  refine Zs ?_
  obtain ⟨x1, hx1, hF⟩ := M.bind_some hF
  refine Zg 4 [(0, .slice aaA aA.length caA), (1, .int .i64 aNode), (5, .int .i64 x1)] ?_ ?_
  · refine Zb [.slice aaA aA.length caA, .int .i64 1048576] 0 ?_
    refine Zy (.int .i64 x1) (Y_callq (f := 23) (args := #[.slice aaA aA.length caA, .int .i64 1048576]) (v := .int .i64 x1) (by kernel_rfl) (w_laws_szInt64SS h aA aaA caA raA 1048576 _ _ hx1)) ?_
    refine Zb [.int .i64 x1] 3 ?_
    exact Zd [0, 1, 5]
  refine Zs ?_
  refine Zs ?_
  refine Zq [.int .i64 x1, .bool (decide (x1 < 0))] [0, 1, 15] [(0, .slice aaA aA.length caA), (1, .int .i64 aNode), (15, .bool (decide (x1 < 0)))] ?_
  refine Zc (decide (x1 < 0)) (fun hb1 => ?_) (fun hb1 => ?_)
  · have hF := (M.ite_some hF).1 hb1
    refine Zs ?_
    refine Zq [.bool true] [4] [(4, .bool true)] ?_
    have hF := M.ret_some hF
    subst hF
    exact Run_ret1 rfl (ResV_tmp (v := .bool true) (by kernel_rfl)) ⟨rfl, H0⟩
  · have hF := (M.ite_some hF).2 hb1
    refine Run_skip ?_
    refine Zs ?_
    refine Run_ops ?_
    refine Zr [.slice aaA aA.length caA] 0 ?_
    obtain ⟨x2, hx2, hF⟩ := M.bind_some hF
    refine Run_E (by kernel_rfl) ?_
    refine E_call (f := 25) (args := #[.slice aaA aA.length caA]) (w_laws_toInt64SS h aA aaA caA raA _ _ hx2) (by kernel_rfl) (fun v1 h1 hp1 => ?_)
    obtain ⟨a1, c1, rfl, H1⟩ := hp1
    have H2 : Hold h h1 [own cd90 a1 x2.length c1 x2] := H0.call H1 rfl
    refine Zr [.int .i64 aNode] 2 ?_
    obtain ⟨x3, hx3, hF⟩ := M.bind_some hF
    refine Run_E (by kernel_rfl) ?_
    refine E_call (f := 24) (args := #[.slice a1 x2.length c1, .int .i64 aNode]) (w_spec_PeriodAt h1 x2 a1 c1 (H2.rd 0 rfl) aNode _ _ hx3) (by kernel_rfl) (fun v2 h2 hp2 => ?_)
    obtain ⟨rfl, H3⟩ := hp2
    have H4 : Hold h h2 [own cd90 a1 x2.length c1 x2] := H2.call H3 rfl
    refine Zr [.tuple #[.int .i64 x3.1, .int .i64 x3.2], .int .i64 x3.1, .int .i64 x3.2, .int .i64 x3.1, .int .i64 x3.2] 4 ?_
    refine Run_nil (by kernel_rfl) ?_
    refine Zk [0, 1, 6, 7] [(0, .slice aaA aA.length caA), (1, .int .i64 aNode), (6, .int .i64 x3.1), (7, .int .i64 x3.2)] ?_
    refine Zs ?_
    refine Run_ops ?_
    refine Zr [.slice aaA aA.length caA] 0 ?_
    obtain ⟨x4, hx4, hF⟩ := M.bind_some hF
    refine Run_E (by kernel_rfl) ?_
    refine E_call (f := 25) (args := #[.slice aaA aA.length caA]) (w_laws_toInt64SS h2 aA aaA caA (raA.at H4.ext) _ _ hx4) (by kernel_rfl) (fun v3 h3 hp3 => ?_)
    obtain ⟨a2, c2, rfl, H5⟩ := hp3
    have H6 : Hold h h3 [own cd90 a2 x4.length c2 x4, own cd90 a1 x2.length c1 x2] := H4.call H5 rfl
    refine Zr [.slice a2 x4.length c2] 2 ?_
    refine Run_nil (by kernel_rfl) ?_
    refine Zk [0, 1, 6, 7, 8] [(0, .slice aaA aA.length caA), (1, .int .i64 aNode), (6, .int .i64 x3.1), (7, .int .i64 x3.2), (8, .slice a2 x4.length c2)] ?_
    refine Zs ?_
    obtain ⟨x5, hx5, hF⟩ := M.bind_some hF
    refine Run_regC (j := 8) (C := fun x => Hold h x [own cd90 a2 x4.length c2 x4, own cd90 a1 x2.length c1 x2]) (by kernel_rfl) H6 (L' := [(0, .slice aaA aA.length caA), (6, .int .i64 x3.1), (7, .int .i64 x3.2), (8, .slice a2 x4.length c2), (9, .int .i64 x5.1), (10, .int .i64 x5.2)]) ?_ (fun h4 H7 => ?_)
    · refine Zb [.slice a2 x4.length c2, .int .i64 aNode] 0 ?_
      refine Zy (.tuple #[.int .i64 x5.1, .int .i64 x5.2]) (Y_call (f := 26) (args := #[.slice a2 x4.length c2, .int .i64 aNode]) (v := .tuple #[.int .i64 x5.1, .int .i64 x5.2]) (by kernel_rfl) fun hx Hx => (w_impl_PeriodAt hx x4 a2 c2 (Hx.rd 0 rfl) aNode _ _ hx5).mono fun _ _ ⟨e, H'⟩ => ⟨e, Hx.call H' rfl⟩) ?_
      refine Zb [.tuple #[.int .i64 x5.1, .int .i64 x5.2], .int .i64 x5.1, .int .i64 x5.2, .int .i64 x5.1, .int .i64 x5.2] 3 ?_
      exact Zd [0, 6, 7, 8, 9, 10]
    have H8 : Hold h h4 [own cd90 a2 x4.length c2 x4, own cd90 a1 x2.length c1 x2] := H7
    refine Zs ?_
    refine Zs ?_
    refine Zg 8 [(0, .slice aaA aA.length caA), (8, .slice a2 x4.length c2), (38, .bool ((x5.1 != x3.1) || (x5.2 != x3.2)))] ?_ ?_
    · refine Zb [.int .i64 x5.1, .int .i64 x3.1, .bool (x5.1 != x3.1)] 0 ?_
      refine QRun_seq 8 [(0, .slice aaA aA.length caA), (8, .slice a2 x4.length c2), (38, .bool ((x5.1 != x3.1) || (x5.2 != x3.2)))] ?_ ?_
      · rcases Bool.eq_false_or_eq_true (x5.1 != x3.1) with hb2 | hb2
        · refine QRun_bool (x5.1 != x3.1) true (by kernel_rfl) (fun w => by kernel_rfl) hb2 ?_
          refine QRun_n (by kernel_rfl) ?_
          refine QRun_n (by kernel_rfl) ?_
          refine QRun_n (by kernel_rfl) ?_
          refine QRun_bool true ((x5.1 != x3.1) || (x5.2 != x3.2)) (by kernel_rfl) (fun w => by kernel_rfl) (by rw [hb2]; rfl) ?_
          exact Zd [0, 8, 38]
        · refine QRun_bool (x5.1 != x3.1) false (by kernel_rfl) (fun w => by kernel_rfl) hb2 ?_
          refine Zb [.int .i64 x5.2, .int .i64 x3.2, .bool (x5.2 != x3.2)] 4 ?_
          refine QRun_bool (x5.2 != x3.2) ((x5.1 != x3.1) || (x5.2 != x3.2)) (by kernel_rfl) (fun w => by kernel_rfl) (by rw [hb2]; rfl) ?_
          exact Zd [0, 8, 38]
      exact Zd [0, 8, 38]
    refine Zc ((x5.1 != x3.1) || (x5.2 != x3.2)) (fun hb3 => ?_) (fun hb3 => ?_)
    · have hF := (M.ite_some hF).1 hb3
      refine Zs ?_
      refine Zq [.bool false] [4] [(4, .bool false)] ?_
      have hF := M.ret_some hF
      subst hF
      have H9 : Hold h h4 [] := H8.pick [] (by kernel_rfl)
      exact Run_ret1 rfl (ResV_tmp (v := .bool false) (by kernel_rfl)) ⟨rfl, H9⟩
    · have hF := (M.ite_some hF).2 hb3
      refine Run_skip ?_
      refine Zs ?_
      refine Zs ?_
      refine Run_ops ?_
      refine Zr [.slice a2 x4.length c2, .slice aaA aA.length caA] 0 ?_
      obtain ⟨x7, hx6, hF⟩ := M.bind_some hF
      refine Run_E (by kernel_rfl) ?_
      refine E_call (f := 25) (args := #[.slice aaA aA.length caA]) (w_laws_toInt64SS h4 aA aaA caA (raA.at H8.ext) _ _ hx6) (by kernel_rfl) (fun v4 h5 hp4 => ?_)
      obtain ⟨a3, c3, rfl, H10⟩ := hp4
      have H11 : Hold h h5 [own cd90 a3 x7.length c3 x7, own cd90 a2 x4.length c2 x4, own cd90 a1 x2.length c1 x2] := H8.call H10 rfl
      obtain ⟨x8, hx7, hF⟩ := M.bind_some hF
      refine Zz (.bool x8) (Y_callq (f := 27) (args := #[.slice a2 x4.length c2, .slice a3 x7.length c3]) (v := .bool x8) (by kernel_rfl) (w_laws_eqInt64SS h5 x4 a2 c2 (H11.rd 1 rfl) x7 a3 c3 (H11.rd 0 rfl) _ _ hx7)) ?_
      refine Zr [.bool (!x8)] 4 ?_
      refine Run_nil (by kernel_rfl) ?_
      refine Zk [43] [(43, .bool (!x8))] ?_
      refine Zc (!x8) (fun hb4 => ?_) (fun hb4 => ?_)
      · have hF := (M.ite_some hF).1 hb4
        refine Zs ?_
        refine Zq [.bool false] [4] [(4, .bool false)] ?_
        have hF := M.ret_some hF
        subst hF
        have H12 : Hold h h5 [] := H11.pick [] (by kernel_rfl)
        exact Run_ret1 rfl (ResV_tmp (v := .bool false) (by kernel_rfl)) ⟨rfl, H12⟩
      · have hF := (M.ite_some hF).2 hb4
        refine Run_skip ?_
        refine Zs ?_
        refine Zq [.bool true] [4] [(4, .bool true)] ?_
        have hF := M.ret_some hF
        subst hF
        have H13 : Hold h h5 [] := H11.pick [] (by kernel_rfl)
        exact Run_ret1 rfl (ResV_tmp (v := .bool true) (by kernel_rfl)) ⟨rfl, H13⟩

end Go.Proofs.Ytelopfgolahlpaa
