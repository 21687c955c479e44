/-
  Walks: each Go function, called with what reads as plain data, returns what its plain program computes.
  Conditions: None beyond the given statement.
-/
import Derived.Test.YtelopfgolahlpaaGreatW0
namespace Go.Proofs.YtelopfgolahlpaaGreat
open Go
attribute [local irreducible] setL setB opA fineI idleI fineB evB okB markB markBs readyB readyBs chainB lk rho pickL dropSlot tailOK
set_option maxRecDepth 100000 in
set_option maxHeartbeats 4000000 in
theorem w_spec_l03Star (h : Heap) (a_ : List (List Int)) (aa_ : Option Addr) (ca_ : Nat) (ra_ : Rd cd24 h (Lt h) aa_ ca_ a_) (n : Nat) (r : (List (List Int)) × Bool) (hF : spec_l03Star a_ n = some r) :
    Fn Tryz.prog 58 #[.slice aa_ a_.length ca_] h fun v h' => ∃ (a0 : Option Addr) (c0 : Nat), v = .tuple #[.slice a0 r.1.length c0, .bool r.2] ∧ Hold h h' [own cd24 a0 r.1.length c0 r.1] := by
  unfold spec_l03Star at hF
  refine Fn_enter (args := [.slice aa_ a_.length ca_]) Tryz.func58 rfl (by kernel_rfl) (by kernel_rfl) (fun w0 _ => ?_)
  have H0 := Hold.init h
  refine Zs ?_
  refine Zq [.slice none 0 0, .bool false] [0] [(0, .slice aa_ a_.length ca_)] ?_
  refine Zs ?_
  refine Zq [.slice aa_ a_.length ca_, .int .i64 (a_.length : Int), .int .i64 (a_.length : Int)] [0, 4] [(0, .slice aa_ a_.length ca_), (4, .int .i64 (a_.length : Int))] ?_
  refine Zs ?_
  refine Run_ops ?_
  refine Zr [.int .i64 (a_.length : Int)] 0 ?_
  obtain ⟨x1, hx1, hF⟩ := M.bind_some hF
  refine Run_E (by kernel_rfl) ?_
  refine E_call (f := 99) (args := #[.int .i64 (a_.length : Int)]) (w_spec_l02Unit h (a_.length : Int) _ _ hx1) (by kernel_rfl) (fun v1 h1 hp1 => ?_)
  obtain ⟨a1, c1, rfl, H1⟩ := hp1
  have H2 : Hold h h1 [own cd24 a1 x1.length c1 x1] := H0.call H1 rfl
  refine Zr [.slice a1 x1.length c1] 2 ?_
  refine Run_nil (by kernel_rfl) ?_
  refine Zk [0, 4, 5] [(0, .slice aa_ a_.length ca_), (4, .int .i64 (a_.length : Int)), (5, .slice a1 x1.length c1)] ?_
  refine Zs ?_
  refine Zs ?_
  refine Zq [.int .i64 0] [0, 4, 5, 6] [(0, .slice aa_ a_.length ca_), (4, .int .i64 (a_.length : Int)), (5, .slice a1 x1.length c1), (6, .int .i64 0)] ?_
  obtain ⟨x2, gx2, hF⟩ := M.bind_some hF
  obtain ⟨hloy1, hhiy1, gx2⟩ := M.for_start gx2
  refine Run_join (fun L' h' => ∃ (a3 : Option Addr) (c3 : Nat), L' = [(0, .slice aa_ a_.length ca_), (4, .int .i64 (a_.length : Int)), (5, .slice a3 x2.length c3)] ∧ Hold h h' [own cd24 a3 x2.length c3 x2]) ?_ ?_
  · rintro _ h3 ⟨a3, c3, rfl, H4⟩
    refine Zs ?_
    refine Run_ops ?_
    refine Zr [.int .i64 (a_.length : Int)] 0 ?_
    obtain ⟨x6, hx5, hF⟩ := M.bind_some hF
    refine Run_E (by kernel_rfl) ?_
    refine E_call (f := 99) (args := #[.int .i64 (a_.length : Int)]) (w_spec_l02Unit h3 (a_.length : Int) _ _ hx5) (by kernel_rfl) (fun v5 h7 hp5 => ?_)
    obtain ⟨a7, c7, rfl, H12⟩ := hp5
    have H13 : Hold h h7 [own cd24 a7 x6.length c7 x6, own cd24 a3 x2.length c3 x2] := H4.call H12 rfl
    refine Zr [.slice aa_ a_.length ca_, .slice a3 x2.length c3] 2 ?_
    obtain ⟨x7, hx6, hF⟩ := M.bind_some hF
    refine Run_E (by kernel_rfl) ?_
    refine E_call (f := 101) (args := #[.slice aa_ a_.length ca_, .slice a3 x2.length c3]) (w_spec_l02Multiply h7 a_ aa_ ca_ (ra_.at H13.ext) x2 a3 c3 (H13.rd 1 rfl) _ _ hx6) (by kernel_rfl) (fun v6 h8 hp6 => ?_)
    obtain ⟨a8, c8, rfl, H14⟩ := hp6
    have H15 : Hold h h8 [own cd24 a8 x7.length c8 x7, own cd24 a7 x6.length c7 x6, own cd24 a3 x2.length c3 x2] := H13.call H14 rfl
    obtain ⟨x8, hx7, hF⟩ := M.bind_some hF
    refine Run_E (by kernel_rfl) ?_
    refine E_call (f := 100) (args := #[.slice a7 x6.length c7, .slice a8 x7.length c8]) (w_spec_l02Add h8 x6 a7 c7 (H15.rd 1 rfl) x7 a8 c8 (H15.rd 0 rfl) _ _ hx7) (by kernel_rfl) (fun v7 h9 hp7 => ?_)
    obtain ⟨a9, c9, rfl, H16⟩ := hp7
    have H17 : Hold h h9 [own cd24 a9 x8.length c9 x8, own cd24 a8 x7.length c8 x7, own cd24 a7 x6.length c7 x6, own cd24 a3 x2.length c3 x2] := H15.call H16 rfl
    refine Zr [.slice a9 x8.length c9] 6 ?_
    refine Run_nil (by kernel_rfl) ?_
    refine Zk [5, 7] [(5, .slice a3 x2.length c3), (7, .slice a9 x8.length c9)] ?_
    refine Zs ?_
    obtain ⟨x9, hx8, hF⟩ := M.bind_some hF
    refine Zg 6 [(2, .slice a3 x2.length c3), (3, .bool x9)] ?_ ?_
    · refine Zb [.slice a3 x2.length c3, .slice a9 x8.length c9, .slice a3 x2.length c3] 0 ?_
      refine Zy (.bool x9) (Y_callq (f := 102) (args := #[.slice a9 x8.length c9, .slice a3 x2.length c3]) (v := .bool x9) (by kernel_rfl) (w_spec_l02Same h9 x8 a9 c9 (H17.rd 0 rfl) x2 a3 c3 (H17.rd 3 rfl) _ _ hx8)) ?_
      refine Zb [.slice a3 x2.length c3, .bool x9] 4 ?_
      exact Zd [2, 3]
    have hF := M.ret_some hF
    subst hF
    have H18 : Hold h h9 [own cd24 a3 x2.length c3 x2, own cd24 a9 x8.length c9 x8, own cd24 a8 x7.length c8 x7, own cd24 a7 x6.length c7 x6] := H17.pick [3, 0, 1, 2] (by kernel_rfl)
    have H19 : Hold h h9 [own cd24 a3 x2.length c3 x2] := H18.pick [0] (by kernel_rfl)
    exact Run_ret2 rfl (ResV_tmp (v := .slice a3 x2.length c3) (by kernel_rfl)) (ResV_tmp (v := .bool x9) (by kernel_rfl)) ⟨a3, c3, rfl, H19⟩
  · refine Run_block ?_
    refine Zk [0, 4, 5, 6] [(0, .slice aa_ a_.length ca_), (4, .int .i64 (a_.length : Int)), (5, .slice a1 x1.length c1), (6, .int .i64 0)] ?_
    refine Run_loop (fun m L' h' => ∃ (i1 : Int) (s1 : (List (List Int))) (a2 : Option Addr) (c2 : Nat), 0 ≤ i1 ∧ M.forN (a_.length : Int) _ _ n m i1 s1 = some x2 ∧ L' = [(0, .slice aa_ a_.length ca_), (4, .int .i64 (a_.length : Int)), (5, .slice a2 s1.length c2), (6, .int .i64 i1)] ∧ Hold h h' [own cd24 a2 s1.length c2 s1]) ((a_.length : Int) - 0 : Int).toNat ⟨0, x1, a1, c1, Int.le_refl _, gx2, rfl, H2⟩ ?_
    rintro my1 _ h2 ⟨i1, s1, a2, c2, hloy1', gx2, rfl, H3⟩
    refine Zs ?_
    refine Zs ?_
    refine Zq [.int .i64 i1, .int .i64 (a_.length : Int), .bool (decide (i1 < (a_.length : Int)))] [0, 4, 5, 6, 14] [(0, .slice aa_ a_.length ca_), (4, .int .i64 (a_.length : Int)), (5, .slice a2 s1.length c2), (6, .int .i64 i1), (14, .bool (decide (i1 < (a_.length : Int))))] ?_
    refine Zc (decide (i1 < (a_.length : Int))) (fun hb1 => ?_) (fun hb1 => ?_)
    · obtain ⟨my1, y1, rfl, hB1, hgoy1, houty1⟩ := M.for_go gx2 hb1
      have hlty1 := of_decide_eq_true hb1
      refine Run_skip ?_
      refine Zs ?_
      refine Run_block ?_
      refine Run_ops ?_
      refine Zr [.int .i64 (a_.length : Int)] 0 ?_
      obtain ⟨x3, hx2, hB1⟩ := M.bind_some hB1
      refine Run_E (by kernel_rfl) ?_
      refine E_call (f := 99) (args := #[.int .i64 (a_.length : Int)]) (w_spec_l02Unit h2 (a_.length : Int) _ _ hx2) (by kernel_rfl) (fun v2 h4 hp2 => ?_)
      obtain ⟨a4, c4, rfl, H5⟩ := hp2
      have H6 : Hold h h4 [own cd24 a4 x3.length c4 x3, own cd24 a2 s1.length c2 s1] := H3.call H5 rfl
      refine Zr [.slice aa_ a_.length ca_, .slice a2 s1.length c2] 2 ?_
      obtain ⟨x4, hx3, hB1⟩ := M.bind_some hB1
      refine Run_E (by kernel_rfl) ?_
      refine E_call (f := 101) (args := #[.slice aa_ a_.length ca_, .slice a2 s1.length c2]) (w_spec_l02Multiply h4 a_ aa_ ca_ (ra_.at H6.ext) s1 a2 c2 (H6.rd 1 rfl) _ _ hx3) (by kernel_rfl) (fun v3 h5 hp3 => ?_)
      obtain ⟨a5, c5, rfl, H7⟩ := hp3
      have H8 : Hold h h5 [own cd24 a5 x4.length c5 x4, own cd24 a4 x3.length c4 x3, own cd24 a2 s1.length c2 s1] := H6.call H7 rfl
      obtain ⟨x5, hx4, hB1⟩ := M.bind_some hB1
      refine Run_E (by kernel_rfl) ?_
      refine E_call (f := 100) (args := #[.slice a4 x3.length c4, .slice a5 x4.length c5]) (w_spec_l02Add h5 x3 a4 c4 (H8.rd 1 rfl) x4 a5 c5 (H8.rd 0 rfl) _ _ hx4) (by kernel_rfl) (fun v4 h6 hp4 => ?_)
      obtain ⟨a6, c6, rfl, H9⟩ := hp4
      have H10 : Hold h h6 [own cd24 a6 x5.length c6 x5, own cd24 a5 x4.length c5 x4, own cd24 a4 x3.length c4 x3, own cd24 a2 s1.length c2 s1] := H8.call H9 rfl
      refine Zr [.slice a6 x5.length c6] 6 ?_
      refine Run_nil (by kernel_rfl) ?_
      refine Zk [0, 4, 5, 6] [(0, .slice aa_ a_.length ca_), (4, .int .i64 (a_.length : Int)), (5, .slice a6 x5.length c6), (6, .int .i64 i1)] ?_
      refine Run_blk ?_
      refine Zg 3 [(0, .slice aa_ a_.length ca_), (4, .int .i64 (a_.length : Int)), (5, .slice a6 x5.length c6), (6, .int .i64 (i1 + 1))] ?_ ?_
      · refine Zb [.int .i64 i1] 0 ?_
        refine Zy (.int .i64 (i1 + 1)) (Y_eq (v := .int .i64 (w64 (i1 + 1))) (Y_pure (fun w => by kernel_rfl)) (by rw [w64_eq _ (by omega)])) ?_
        refine Zb [.int .i64 (i1 + 1)] 2 ?_
        exact Zd [0, 4, 5, 6]
      have H11 : Hold h h6 [own cd24 a6 x5.length c6 x5] := H10.pick [0] (by kernel_rfl)
      have hB1 := M.ret_some hB1
      have gx2 := hgoy1 _ hB1.symm
      exact Run_again [0, 4, 5, 6] (by kernel_rfl) my1 (Nat.lt_succ_self _) ⟨i1 + 1, x5, a6, c6, by omega, gx2, rfl, H11⟩
    · have gx2 := M.for_end gx2 hb1
      subst gx2
      refine Run_exit (k' := _) rfl ?_
      exact Run_fall [0, 4, 5] (by kernel_rfl) ⟨a2, c2, rfl, H3⟩

set_option maxRecDepth 100000 in
set_option maxHeartbeats 4000000 in
theorem w_spec_l06Arcs (h : Heap) (a_ : List (List Int)) (aa_ : Option Addr) (ca_ : Nat) (ra_ : Rd cd24 h (Lt h) aa_ ca_ a_) (n : Nat) (r : (List (List Int))) (hF : spec_l06Arcs a_ n = some r) :
    Fn Tryz.prog 44 #[.slice aa_ a_.length ca_] h fun v h' => ∃ (a0 : Option Addr) (c0 : Nat), v = .slice a0 r.length c0 ∧ Hold h h' [own cd24 a0 r.length c0 r] := by
  unfold spec_l06Arcs at hF
  refine Fn_enter (args := [.slice aa_ a_.length ca_]) Tryz.func44 rfl (by kernel_rfl) (by kernel_rfl) (fun w0 _ => ?_)
  have H0 := Hold.init h
  refine Zs ?_
  refine Zq [.slice none 0 0] [0] [(0, .slice aa_ a_.length ca_)] ?_
  refine Zs ?_
  refine Run_ops ?_
  refine Zr [.slice aa_ a_.length ca_] 0 ?_
  obtain ⟨x1, hx1, hF⟩ := M.bind_some hF
  refine Run_E (by kernel_rfl) ?_
  refine E_call (f := 54) (args := #[.slice aa_ a_.length ca_]) (w_spec_l04Best h a_ aa_ ca_ ra_ _ _ hx1) (by kernel_rfl) (fun v1 h1 hp1 => ?_)
  obtain ⟨a1, c1, rfl, H1⟩ := hp1
  have H2 : Hold h h1 [own cd2 a1 x1.1.length c1 x1.1] := H0.call H1 rfl
  refine Zr [.tuple #[.slice a1 x1.1.length c1, .bool x1.2], .slice a1 x1.1.length c1, .bool x1.2, .slice a1 x1.1.length c1, .bool x1.2] 2 ?_
  refine Run_nil (by kernel_rfl) ?_
  refine Zk [0, 3] [(0, .slice aa_ a_.length ca_), (3, .slice a1 x1.1.length c1)] ?_
  refine Zs ?_
  refine Run_ops ?_
  refine Zr [.slice aa_ a_.length ca_, .slice a1 x1.1.length c1] 0 ?_
  obtain ⟨x2, hx2, hF⟩ := M.bind_some hF
  refine Run_E (by kernel_rfl) ?_
  refine E_call (f := 55) (args := #[.slice aa_ a_.length ca_, .slice a1 x1.1.length c1]) (w_spec_l04Mean h1 a_ aa_ ca_ (ra_.at H2.ext) x1.1 a1 c1 (H2.rd 0 rfl) _ _ hx2) (by kernel_rfl) (fun v2 h2 hp2 => ?_)
  obtain ⟨rfl, H3⟩ := hp2
  have H4 : Hold h h2 [own cd2 a1 x1.1.length c1 x1.1] := H2.call H3 rfl
  refine Zr [.tuple #[.agg #[.int .i64 x2.1.Num, .int .i64 x2.1.Den], .bool x2.2], .agg #[.int .i64 x2.1.Num, .int .i64 x2.1.Den], .bool x2.2] 3 ?_
  refine Run_E (by kernel_rfl) ?_
  refine E_box (ty := 44) (cs := [.int .i64 0, .int .i64 0]) H4 (fun w => by kernel_rfl) (fun b1 h3 H5 => ?_)
  refine Run_E (by kernel_rfl) ?_
  refine E_bput (t := 44) (off := 0) (us := [.int .i64 x2.1.Num, .int .i64 x2.1.Den]) (v := .agg #[.int .i64 x2.1.Num, .int .i64 x2.1.Den]) H5 (by kernel_rfl) (by kernel_rfl) rfl (by kernel_rfl) rfl (fun h4 H6 => ?_)
  refine Zr [.bool x2.2] 8 ?_
  refine Run_nil (by kernel_rfl) ?_
  refine Zk [0, 5] [(0, .slice aa_ a_.length ca_), (5, .pointer (some ⟨b1, 0, none⟩))] ?_
  refine Zs ?_
  refine Run_ops ?_
  refine Zr [.slice aa_ a_.length ca_] 0 ?_
  refine Zz (.agg #[.int .i64 x2.1.Num, .int .i64 x2.1.Den]) (Y_loadA (t := 44) (n := 2) (p := ⟨b1, 0, none⟩) (cs := [.int .i64 x2.1.Num, .int .i64 x2.1.Den]) (by kernel_rfl) (fun w => by kernel_rfl) (by kernel_rfl) rfl (H6.cells (n := 2) (off := 0) 0 rfl rfl)) ?_
  obtain ⟨x3, hx3, hF⟩ := M.bind_some hF
  refine Run_E (by kernel_rfl) ?_
  refine E_call (f := 59) (args := #[.slice aa_ a_.length ca_, .agg #[.int .i64 x2.1.Num, .int .i64 x2.1.Den]]) (w_spec_l04Shift h4 a_ aa_ ca_ (ra_.at H6.ext) x2.1 _ _ hx3) (by kernel_rfl) (fun v3 h5 hp3 => ?_)
  obtain ⟨a2, c2, rfl, H7⟩ := hp3
  have H8 : Hold h h5 [own cd24 a2 x3.length c2 x3, box b1 44 [.int .i64 x2.1.Num, .int .i64 x2.1.Den], own cd2 a1 x1.1.length c1 x1.1] := H6.call H7 rfl
  refine Zr [.slice a2 x3.length c2] 3 ?_
  refine Run_nil (by kernel_rfl) ?_
  refine Zk [0, 7] [(0, .slice aa_ a_.length ca_), (7, .slice a2 x3.length c2)] ?_
  refine Zs ?_
  refine Run_ops ?_
  refine Zr [.slice a2 x3.length c2] 0 ?_
  obtain ⟨x4, hx4, hF⟩ := M.bind_some hF
  refine Run_E (by kernel_rfl) ?_
  refine E_call (f := 58) (args := #[.slice a2 x3.length c2]) (w_spec_l03Star h5 x3 a2 c2 (H8.rd 0 rfl) _ _ hx4) (by kernel_rfl) (fun v4 h6 hp4 => ?_)
  obtain ⟨a3, c3, rfl, H9⟩ := hp4
  have H10 : Hold h h6 [own cd24 a3 x4.1.length c3 x4.1, own cd24 a2 x3.length c2 x3, box b1 44 [.int .i64 x2.1.Num, .int .i64 x2.1.Den], own cd2 a1 x1.1.length c1 x1.1] := H8.call H9 rfl
  refine Zr [.tuple #[.slice a3 x4.1.length c3, .bool x4.2], .slice a3 x4.1.length c3, .bool x4.2, .slice a3 x4.1.length c3, .bool x4.2] 2 ?_
  refine Run_nil (by kernel_rfl) ?_
  refine Zk [0, 7, 8] [(0, .slice aa_ a_.length ca_), (7, .slice a2 x3.length c2), (8, .slice a3 x4.1.length c3)] ?_
  refine Zs ?_
  refine Run_ops ?_
  refine Run_E (by kernel_rfl) ?_
  refine E_lit (C := cd24) (n := 0) (l := []) (cs := []) H10 (fun w => by kernel_rfl) (Enc.nil _ _) rfl (by decide) (fun a4 h7 H11 => ?_)
  refine Zr [.slice a4 0 0] 1 ?_
  refine Run_nil (by kernel_rfl) ?_
  refine Zk [0, 7, 8, 10] [(0, .slice aa_ a_.length ca_), (7, .slice a2 x3.length c2), (8, .slice a3 x4.1.length c3), (10, .slice a4 0 0)] ?_
  refine Zs ?_
  refine Zs ?_
  refine Zq [.int .i64 0] [0, 7, 8, 10, 11] [(0, .slice aa_ a_.length ca_), (7, .slice a2 x3.length c2), (8, .slice a3 x4.1.length c3), (10, .slice a4 0 0), (11, .int .i64 0)] ?_
  obtain ⟨x5, gx5, hF⟩ := M.bind_some hF
  obtain ⟨hloy1, hhiy1, gx5⟩ := M.for_start gx5
  refine Run_join (fun L' h' => ∃ (a6 : Option Addr) (c5 : Nat), L' = [(10, .slice a6 x5.length c5)] ∧ Hold h h' [own cd24 a6 x5.length c5 x5]) ?_ ?_
  · rintro _ h9 ⟨a6, c5, rfl, H13⟩
    refine Zs ?_
    refine Zq [.slice a6 x5.length c5, .slice a6 x5.length c5] [2] [(2, .slice a6 x5.length c5)] ?_
    have hF := M.ret_some hF
    subst hF
    exact Run_ret1 rfl (ResV_tmp (v := .slice a6 x5.length c5) (by kernel_rfl)) ⟨a6, c5, rfl, H13⟩
  · refine Run_block ?_
    have hn1 := (H11.len 0 rfl)
    have H50 : Hold h h7 [own cd24 a4 (([] : List (List Int)).length) 0 ([] : List (List Int)), own cd24 a3 x4.1.length c3 x4.1, own cd24 a2 x3.length c2 x3, box b1 44 [.int .i64 x2.1.Num, .int .i64 x2.1.Den], own cd2 a1 x1.1.length c1 x1.1] := by rw [hn1]; exact H11
    have H51 : Hold h h7 [own cd24 a2 x3.length c2 x3, own cd24 a3 x4.1.length c3 x4.1, own cd24 a4 (([] : List (List Int)).length) 0 ([] : List (List Int))] := H50.pick [2, 1, 0] (by kernel_rfl)
    refine Run_keep [0, 7, 8, 10, 11] (L' := [(0, .slice aa_ a_.length ca_), (7, .slice a2 x3.length c2), (8, .slice a3 x4.1.length c3), (10, .slice a4 (([] : List (List Int)).length) 0), (11, .int .i64 0)]) (by first | (rw [hn1]; kernel_rfl) | (simp only [hn1]; kernel_rfl) | kernel_rfl) ?_
    refine Run_loop (fun m L' h' => ∃ (i1 : Int) (s1 : (List (List Int))) (a5 : Option Addr) (c4 : Nat), 0 ≤ i1 ∧ M.forN (a_.length : Int) _ _ n m i1 s1 = some x5 ∧ L' = [(0, .slice aa_ a_.length ca_), (7, .slice a2 x3.length c2), (8, .slice a3 x4.1.length c3), (10, .slice a5 s1.length c4), (11, .int .i64 i1)] ∧ Hold h h' [own cd24 a2 x3.length c2 x3, own cd24 a3 x4.1.length c3 x4.1, own cd24 a5 s1.length c4 s1]) ((a_.length : Int) - 0 : Int).toNat ⟨0, ([] : List (List Int)), a4, 0, Int.le_refl _, gx5, rfl, H51⟩ ?_
    rintro my1 _ h8 ⟨i1, s1, a5, c4, hloy1', gx5, rfl, H12⟩
    refine Zs ?_
    refine Zs ?_
    refine Zq [.int .i64 i1, .slice aa_ a_.length ca_, .int .i64 (a_.length : Int), .bool (decide (i1 < (a_.length : Int)))] [0, 7, 8, 10, 11, 36] [(0, .slice aa_ a_.length ca_), (7, .slice a2 x3.length c2), (8, .slice a3 x4.1.length c3), (10, .slice a5 s1.length c4), (11, .int .i64 i1), (36, .bool (decide (i1 < (a_.length : Int))))] ?_
    refine Zc (decide (i1 < (a_.length : Int))) (fun hb1 => ?_) (fun hb1 => ?_)
    · obtain ⟨my1, y1, rfl, hB1, hgoy1, houty1⟩ := M.for_go gx5 hb1
      have hlty1 := of_decide_eq_true hb1
      refine Run_skip ?_
      refine Zs ?_
      refine Run_block ?_
      refine Zs ?_
      refine Zq [.int .i64 0] [0, 7, 8, 10, 11, 12] [(0, .slice aa_ a_.length ca_), (7, .slice a2 x3.length c2), (8, .slice a3 x4.1.length c3), (10, .slice a5 s1.length c4), (11, .int .i64 i1), (12, .int .i64 0)] ?_
      obtain ⟨x6, gx6, hB1⟩ := M.bind_some hB1
      obtain ⟨hloy2, hhiy2, gx6⟩ := M.for_start gx6
      refine Run_join (fun L' h' => ∃ (a8 : Option Addr) (c7 : Nat), L' = [(0, .slice aa_ a_.length ca_), (7, .slice a2 x3.length c2), (8, .slice a3 x4.1.length c3), (10, .slice a8 x6.length c7), (11, .int .i64 i1)] ∧ Hold h h' [own cd24 a2 x3.length c2 x3, own cd24 a3 x4.1.length c3 x4.1, own cd24 a8 x6.length c7 x6]) ?_ ?_
      · rintro _ h11 ⟨a8, c7, rfl, H15⟩
        refine Run_blk ?_
        refine Zg 3 [(0, .slice aa_ a_.length ca_), (7, .slice a2 x3.length c2), (8, .slice a3 x4.1.length c3), (10, .slice a8 x6.length c7), (11, .int .i64 (i1 + 1))] ?_ ?_
        · refine Zb [.int .i64 i1] 0 ?_
          refine Zy (.int .i64 (i1 + 1)) (Y_eq (v := .int .i64 (w64 (i1 + 1))) (Y_pure (fun w => by kernel_rfl)) (by rw [w64_eq _ (by omega)])) ?_
          refine Zb [.int .i64 (i1 + 1)] 2 ?_
          exact Zd [0, 7, 8, 10, 11]
        have H44 : Hold h h11 [own cd24 a8 x6.length c7 x6, own cd24 a2 x3.length c2 x3, own cd24 a3 x4.1.length c3 x4.1] := H15.pick [2, 0, 1] (by kernel_rfl)
        have H45 : Hold h h11 [own cd24 a2 x3.length c2 x3, own cd24 a3 x4.1.length c3 x4.1, own cd24 a8 x6.length c7 x6] := H44.pick [1, 2, 0] (by kernel_rfl)
        have hB1 := M.ret_some hB1
        have gx5 := hgoy1 _ hB1.symm
        exact Run_again [0, 7, 8, 10, 11] (by kernel_rfl) my1 (Nat.lt_succ_self _) ⟨i1 + 1, x6, a8, c7, by omega, gx5, rfl, H45⟩
      · refine Run_block ?_
        have H46 : Hold h h8 [own cd24 a5 s1.length c4 s1, own cd24 a2 x3.length c2 x3, own cd24 a3 x4.1.length c3 x4.1] := H12.pick [2, 0, 1] (by kernel_rfl)
        have H47 : Hold h h8 [own cd24 a2 x3.length c2 x3, own cd24 a3 x4.1.length c3 x4.1, own cd24 a5 s1.length c4 s1] := H46.pick [1, 2, 0] (by kernel_rfl)
        refine Zk [0, 7, 8, 10, 11, 12] [(0, .slice aa_ a_.length ca_), (7, .slice a2 x3.length c2), (8, .slice a3 x4.1.length c3), (10, .slice a5 s1.length c4), (11, .int .i64 i1), (12, .int .i64 0)] ?_
        refine Run_loop (fun m L' h' => ∃ (i2 : Int) (s2 : (List (List Int))) (a7 : Option Addr) (c6 : Nat), 0 ≤ i2 ∧ M.forN (a_.length : Int) _ _ n m i2 s2 = some x6 ∧ L' = [(0, .slice aa_ a_.length ca_), (7, .slice a2 x3.length c2), (8, .slice a3 x4.1.length c3), (10, .slice a7 s2.length c6), (11, .int .i64 i1), (12, .int .i64 i2)] ∧ Hold h h' [own cd24 a2 x3.length c2 x3, own cd24 a3 x4.1.length c3 x4.1, own cd24 a7 s2.length c6 s2]) ((a_.length : Int) - 0 : Int).toNat ⟨0, s1, a5, c4, Int.le_refl _, gx6, rfl, H47⟩ ?_
        rintro my2 _ h10 ⟨i2, s2, a7, c6, hloy2', gx6, rfl, H14⟩
        refine Zs ?_
        refine Zs ?_
        refine Zq [.int .i64 i2, .slice aa_ a_.length ca_, .int .i64 (a_.length : Int), .bool (decide (i2 < (a_.length : Int)))] [0, 7, 8, 10, 11, 12, 42] [(0, .slice aa_ a_.length ca_), (7, .slice a2 x3.length c2), (8, .slice a3 x4.1.length c3), (10, .slice a7 s2.length c6), (11, .int .i64 i1), (12, .int .i64 i2), (42, .bool (decide (i2 < (a_.length : Int))))] ?_
        refine Zc (decide (i2 < (a_.length : Int))) (fun hb2 => ?_) (fun hb2 => ?_)
        · obtain ⟨my2, y2, rfl, hB2, hgoy2, houty2⟩ := M.for_go gx6 hb2
          have hlty2 := of_decide_eq_true hb2
          refine Run_skip ?_
          refine Zs ?_
          refine Run_block ?_
          refine Zs ?_
          obtain ⟨x7, hx5, hB2⟩ := M.bind_some hB2
          obtain ⟨hx5l, hx5u, hx5⟩ := M.idx_some hx5
          have H16 := H14.toRows
          obtain ⟨a9, c8, H17⟩ := H16.pinRow hx5
          obtain ⟨x8, hx6, hB2⟩ := M.bind_some hB2
          obtain ⟨hx6l, hx6u, hx6⟩ := M.idx_some hx6
          obtain ⟨x9, hx7, hB2⟩ := M.bind_some hB2
          obtain ⟨hx7l, hx7u, hx7⟩ := M.idx_some hx7
          have H18 : Hold h h10 [own cd24 a3 x4.1.length c3 x4.1, rowsP cd2 24 a2 x3.length c2 x3 [(i2.toNat, a9, x7.length, c8, x7)], own cd24 a7 s2.length c6 s2] := H17.pick [1, 0, 2] (by kernel_rfl)
          have H19 := H18.toRows
          obtain ⟨a10, c9, H20⟩ := H19.pinRow hx7
          have H21 : Hold h h10 [rowsP cd2 24 a2 x3.length c2 x3 [(i2.toNat, a9, x7.length, c8, x7)], rowsP cd2 24 a3 x4.1.length c3 x4.1 [(i1.toNat, a10, x9.length, c9, x9)], own cd24 a7 s2.length c6 s2] := H20.pick [1, 0, 2] (by kernel_rfl)
          obtain ⟨x10, hx8, hB2⟩ := M.bind_some hB2
          obtain ⟨hx8l, hx8u, hx8⟩ := M.idx_some hx8
          obtain ⟨x11, hx9, hB2⟩ := M.bind_some hB2
          refine Run_draw 16 mixed (by kernel_rfl) (by kernel_rfl) (L' := [(0, .slice aa_ a_.length ca_), (7, .slice a2 x3.length c2), (8, .slice a3 x4.1.length c3), (10, .slice a7 s2.length c6), (11, .int .i64 i1), (12, .int .i64 i2), (60, .bool (x11 == 0))]) ?_ ?_
          · refine Zb [.slice a2 x3.length c2, .int .i64 i2] 0 ?_
            refine Zy (.pointer (some (adr a2 (i2.toNat * 1)))) (Zi 22 24 1 (a2) (x3.length) (c2) .i64 (i2) Tryz.underlying22 ((H14.rd 0 rfl).cell hx5).1 hx5l hx5u) ?_
            refine Zy (.slice a9 x7.length c8) (Zl 24 (adr a2 (i2.toNat * 1)) (.slice a9 x7.length c8) (H17.cellPin 0 rfl 0 rfl)) ?_
            refine Zb [.int .i64 i1] 4 ?_
            refine Zy (.pointer (some (adr a9 (i1.toNat * 1)))) (Zi 24 2 1 (a9) (x7.length) (c8) .i64 (i1) Tryz.underlying24 ((H17.rdPin 0 rfl 0 rfl).cell hx6).1 hx6l hx6u) ?_
            refine Zy (.int .i64 x8) (Zl 2 (adr a9 (i1.toNat * 1)) (.int .i64 x8) (cd2_cell (H17.rdPin 0 rfl 0 rfl) hx6)) ?_
            refine Zb [.slice a3 x4.1.length c3, .int .i64 i1] 7 ?_
            refine Zy (.pointer (some (adr a3 (i1.toNat * 1)))) (Zi 22 24 1 (a3) (x4.1.length) (c3) .i64 (i1) Tryz.underlying22 ((H17.rd 1 rfl).cell hx7).1 hx7l hx7u) ?_
            refine Zy (.slice a10 x9.length c9) (Zl 24 (adr a3 (i1.toNat * 1)) (.slice a10 x9.length c9) (H21.cellPin 1 rfl 0 rfl)) ?_
            refine Zb [.int .i64 i2] 11 ?_
            refine Zy (.pointer (some (adr a10 (i2.toNat * 1)))) (Zi 24 2 1 (a10) (x9.length) (c9) .i64 (i2) Tryz.underlying24 ((H21.rdPin 1 rfl 0 rfl).cell hx8).1 hx8l hx8u) ?_
            refine Zy (.int .i64 x10) (Zl 2 (adr a10 (i2.toNat * 1)) (.int .i64 x10) (cd2_cell (H21.rdPin 1 rfl 0 rfl) hx8)) ?_
            refine Zy (.int .i64 x11) (Y_callq (f := 80) (args := #[.int .i64 x8, .int .i64 x10]) (v := .int .i64 x11) (by kernel_rfl) (w_spec_l01Times h10 x8 x10 _ _ hx9)) ?_
            refine Zb [.bool (x11 == 0)] 15 ?_
            exact Zd [0, 7, 8, 10, 11, 12, 60]
          obtain ⟨s3, gs3, hB2⟩ := M.bind_some hB2
          refine Run_join (fun L' h' => ∃ (a14 : Option Addr), ∃ (c11 : Nat), L' = [(0, .slice aa_ a_.length ca_), (7, .slice a2 x3.length c2), (8, .slice a3 x4.1.length c3), (10, .slice a14 s3.length c11), (11, .int .i64 i1), (12, .int .i64 i2)] ∧ Hold h h' [own cd24 a2 x3.length c2 x3, own cd24 a3 x4.1.length c3 x4.1, own cd24 a14 s3.length c11 s3]) ?_ ?_
          · rintro _ h15 ⟨a14, c11, rfl, H28⟩
            refine Run_blk ?_
            refine Zg 3 [(0, .slice aa_ a_.length ca_), (7, .slice a2 x3.length c2), (8, .slice a3 x4.1.length c3), (10, .slice a14 s3.length c11), (11, .int .i64 i1), (12, .int .i64 (i2 + 1))] ?_ ?_
            · refine Zb [.int .i64 i2] 0 ?_
              refine Zy (.int .i64 (i2 + 1)) (Y_eq (v := .int .i64 (w64 (i2 + 1))) (Y_pure (fun w => by kernel_rfl)) (by rw [w64_eq _ (by omega)])) ?_
              refine Zb [.int .i64 (i2 + 1)] 2 ?_
              exact Zd [0, 7, 8, 10, 11, 12]
            have H40 : Hold h h15 [own cd24 a14 s3.length c11 s3, own cd24 a2 x3.length c2 x3, own cd24 a3 x4.1.length c3 x4.1] := H28.pick [2, 0, 1] (by kernel_rfl)
            have H41 : Hold h h15 [own cd24 a2 x3.length c2 x3, own cd24 a3 x4.1.length c3 x4.1, own cd24 a14 s3.length c11 s3] := H40.pick [1, 2, 0] (by kernel_rfl)
            have hB2 := M.ret_some hB2
            have gx6 := hgoy2 _ hB2.symm
            exact Run_again [0, 7, 8, 10, 11, 12] (by kernel_rfl) my2 (Nat.lt_succ_self _) ⟨i2 + 1, s3, a14, c11, by omega, gx6, rfl, H41⟩
          · refine Zc (x11 == 0) (fun hb3 => ?_) (fun hb3 => ?_)
            · have gs3 := (M.ite_some gs3).1 hb3
              refine Run_ops ?_
              refine Zr [.slice a7 s2.length c6, .int .i64 i1, .int .i64 i2] 0 ?_
              refine Run_E (by kernel_rfl) ?_
              refine E_lit (C := cd2) (n := 2) (l := ([i1, i2] : List Int)) (cs := [.int .i64 i1, .int .i64 i2]) H21 (fun w => by kernel_rfl) (Enc.consE (cd2_own i1 _) (Enc.consE (cd2_own i2 _) (Enc.nil _ _) rfl) rfl) rfl (by decide) (fun a11 h12 H22 => ?_)
              refine Run_E (by kernel_rfl) ?_
              refine E_lit1 (ey := 24) (n := 2) H22 (fun w => by kernel_rfl) rfl (fun a12 h13 H23 => ?_)
              obtain ⟨l1, hl1, gs3⟩ := M.bind_some gs3
              have hl1 := M.app_some hl1
              have H24 : Hold h h13 [own cd24 a7 s2.length c6 s2, own cd24 a12 1 1 [([i1, i2] : List Int)], rowsP cd2 24 a2 x3.length c2 x3 [(i2.toNat, a9, x7.length, c8, x7)], rowsP cd2 24 a3 x4.1.length c3 x4.1 [(i1.toNat, a10, x9.length, c9, x9)]] := H23.pick [3, 0, 1, 2] (by kernel_rfl)
              have H25 : Hold h h13 [own cd24 a12 1 1 [([i1, i2] : List Int)], own cd24 a7 s2.length c6 s2, rowsP cd2 24 a2 x3.length c2 x3 [(i2.toNat, a9, x7.length, c8, x7)], rowsP cd2 24 a3 x4.1.length c3 x4.1 [(i1.toNat, a10, x9.length, c9, x9)]] := H24.pick [1, 0, 2, 3] (by kernel_rfl)
              have H26 : Hold h h13 [own cd24 a7 s2.length c6 s2, own cd24 a12 1 1 [([i1, i2] : List Int)], rowsP cd2 24 a2 x3.length c2 x3 [(i2.toNat, a9, x7.length, c8, x7)], rowsP cd2 24 a3 x4.1.length c3 x4.1 [(i1.toNat, a10, x9.length, c9, x9)]] := H25.pick [1, 0, 2, 3] (by kernel_rfl)
              refine Run_E (by kernel_rfl) ?_
              refine E_app (C := cd24) (t := 22) (ty := 22) (n := s2.length) (m := 1) H26 cd24_ti rfl Tryz.underlying22 (by decide) (by kernel_rfl) hl1 (fun a13 c10 h14 H27 => ?_)
              refine Zr [.slice a13 l1.length c10] 6 ?_
              refine Run_nil (by kernel_rfl) ?_
              refine Zk [0, 7, 8, 10, 11, 12] [(0, .slice aa_ a_.length ca_), (7, .slice a2 x3.length c2), (8, .slice a3 x4.1.length c3), (10, .slice a13 l1.length c10), (11, .int .i64 i1), (12, .int .i64 i2)] ?_
              have H29 : Hold h h14 [rowsP cd2 24 a2 x3.length c2 x3 [(i2.toNat, a9, x7.length, c8, x7)], own cd24 a13 l1.length c10 l1, rowsP cd2 24 a3 x4.1.length c3 x4.1 [(i1.toNat, a10, x9.length, c9, x9)]] := H27.pick [1, 0, 2] (by kernel_rfl)
              have H30 := H29.ofRows
              have H31 : Hold h h14 [rowsP cd2 24 a3 x4.1.length c3 x4.1 [(i1.toNat, a10, x9.length, c9, x9)], own cd24 a2 x3.length c2 x3, own cd24 a13 l1.length c10 l1] := H30.pick [2, 0, 1] (by kernel_rfl)
              have H32 := H31.ofRows
              have H33 : Hold h h14 [own cd24 a13 l1.length c10 l1, own cd24 a3 x4.1.length c3 x4.1, own cd24 a2 x3.length c2 x3] := H32.pick [2, 0, 1] (by kernel_rfl)
              have H34 : Hold h h14 [own cd24 a2 x3.length c2 x3, own cd24 a3 x4.1.length c3 x4.1, own cd24 a13 l1.length c10 l1] := H33.pick [2, 1, 0] (by kernel_rfl)
              have gs3 := M.ret_some gs3
              subst gs3
              exact Run_fall [0, 7, 8, 10, 11, 12] (by kernel_rfl) ⟨a13, c10, rfl, H34⟩
            · have gs3 := (M.ite_some gs3).2 hb3
              refine Run_skip ?_
              have H35 := H21.ofRows
              have H36 : Hold h h10 [rowsP cd2 24 a3 x4.1.length c3 x4.1 [(i1.toNat, a10, x9.length, c9, x9)], own cd24 a2 x3.length c2 x3, own cd24 a7 s2.length c6 s2] := H35.pick [1, 0, 2] (by kernel_rfl)
              have H37 := H36.ofRows
              have H38 : Hold h h10 [own cd24 a7 s2.length c6 s2, own cd24 a3 x4.1.length c3 x4.1, own cd24 a2 x3.length c2 x3] := H37.pick [2, 0, 1] (by kernel_rfl)
              have H39 : Hold h h10 [own cd24 a2 x3.length c2 x3, own cd24 a3 x4.1.length c3 x4.1, own cd24 a7 s2.length c6 s2] := H38.pick [2, 1, 0] (by kernel_rfl)
              have gs3 := M.ret_some gs3
              subst gs3
              exact Run_fall [0, 7, 8, 10, 11, 12] (by kernel_rfl) ⟨a7, c6, rfl, H39⟩
        · have gx6 := M.for_end gx6 hb2
          subst gx6
          refine Run_exit (k' := _) rfl ?_
          have H42 : Hold h h10 [own cd24 a7 s2.length c6 s2, own cd24 a2 x3.length c2 x3, own cd24 a3 x4.1.length c3 x4.1] := H14.pick [2, 0, 1] (by kernel_rfl)
          have H43 : Hold h h10 [own cd24 a2 x3.length c2 x3, own cd24 a3 x4.1.length c3 x4.1, own cd24 a7 s2.length c6 s2] := H42.pick [1, 2, 0] (by kernel_rfl)
          exact Run_fall [0, 7, 8, 10, 11] (by kernel_rfl) ⟨a7, c6, rfl, H43⟩
    · have gx5 := M.for_end gx5 hb1
      subst gx5
      refine Run_exit (k' := _) rfl ?_
      have H48 : Hold h h8 [own cd24 a5 s1.length c4 s1, own cd24 a2 x3.length c2 x3, own cd24 a3 x4.1.length c3 x4.1] := H12.pick [2, 0, 1] (by kernel_rfl)
      have H49 : Hold h h8 [own cd24 a5 s1.length c4 s1] := H48.pick [0] (by kernel_rfl)
      exact Run_fall [10] (by kernel_rfl) ⟨a5, c4, rfl, H49⟩

set_option maxRecDepth 100000 in
set_option maxHeartbeats 4000000 in
theorem w_spec_l06Nodes (h : Heap) (a_ : List (List Int)) (aa_ : Option Addr) (ca_ : Nat) (ra_ : Rd cd24 h (Lt h) aa_ ca_ a_) (n : Nat) (r : (List Int)) (hF : spec_l06Nodes a_ n = some r) :
    Fn Tryz.prog 36 #[.slice aa_ a_.length ca_] h fun v h' => ∃ (a0 : Option Addr) (c0 : Nat), v = .slice a0 r.length c0 ∧ Hold h h' [own cd2 a0 r.length c0 r] := by
  unfold spec_l06Nodes at hF
  refine Fn_enter (args := [.slice aa_ a_.length ca_]) Tryz.func36 rfl (by kernel_rfl) (by kernel_rfl) (fun w0 _ => ?_)
  have H0 := Hold.init h
  refine Zs ?_
  refine Zq [.slice none 0 0] [0] [(0, .slice aa_ a_.length ca_)] ?_
  refine Zs ?_
  refine Run_ops ?_
  refine Zr [.slice aa_ a_.length ca_] 0 ?_
  obtain ⟨x1, hx1, hF⟩ := M.bind_some hF
  refine Run_E (by kernel_rfl) ?_
  refine E_call (f := 44) (args := #[.slice aa_ a_.length ca_]) (w_spec_l06Arcs h a_ aa_ ca_ ra_ _ _ hx1) (by kernel_rfl) (fun v1 h1 hp1 => ?_)
  obtain ⟨a1, c1, rfl, H1⟩ := hp1
  have H2 : Hold h h1 [own cd24 a1 x1.length c1 x1] := H0.call H1 rfl
  refine Zr [.slice a1 x1.length c1] 2 ?_
  refine Run_nil (by kernel_rfl) ?_
  refine Zk [3] [(3, .slice a1 x1.length c1)] ?_
  refine Zs ?_
  refine Run_ops ?_
  refine Run_E (by kernel_rfl) ?_
  refine E_lit (C := cd2) (n := 0) (l := ([] : List Int)) (cs := []) H2 (fun w => by kernel_rfl) (Enc.nil _ _) rfl (by decide) (fun a2 h2 H3 => ?_)
  refine Zr [.slice a2 0 0] 1 ?_
  refine Run_nil (by kernel_rfl) ?_
  refine Zk [3, 4] [(3, .slice a1 x1.length c1), (4, .slice a2 0 0)] ?_
  refine Zs ?_
  refine Zs ?_
  refine Zq [.int .i64 0] [3, 4, 5] [(3, .slice a1 x1.length c1), (4, .slice a2 0 0), (5, .int .i64 0)] ?_
  obtain ⟨x2, gx2, hF⟩ := M.bind_some hF
  obtain ⟨hloy1, hhiy1, gx2⟩ := M.for_start gx2
  refine Run_join (fun L' h' => ∃ (a4 : Option Addr) (c3 : Nat), L' = [(4, .slice a4 x2.length c3)] ∧ Hold h h' [own cd2 a4 x2.length c3 x2]) ?_ ?_
  · rintro _ h4 ⟨a4, c3, rfl, H5⟩
    refine Zs ?_
    refine Zq [.slice a4 x2.length c3, .slice a4 x2.length c3] [2] [(2, .slice a4 x2.length c3)] ?_
    have hF := M.ret_some hF
    subst hF
    exact Run_ret1 rfl (ResV_tmp (v := .slice a4 x2.length c3) (by kernel_rfl)) ⟨a4, c3, rfl, H5⟩
  · refine Run_block ?_
    have hn1 := (H3.len 0 rfl)
    have H26 : Hold h h2 [own cd2 a2 (([] : List Int).length) 0 ([] : List Int), own cd24 a1 x1.length c1 x1] := by rw [hn1]; exact H3
    have H27 : Hold h h2 [own cd24 a1 x1.length c1 x1, own cd2 a2 (([] : List Int).length) 0 ([] : List Int)] := H26.pick [1, 0] (by kernel_rfl)
    refine Run_keep [3, 4, 5] (L' := [(3, .slice a1 x1.length c1), (4, .slice a2 (([] : List Int).length) 0), (5, .int .i64 0)]) (by first | (rw [hn1]; kernel_rfl) | (simp only [hn1]; kernel_rfl) | kernel_rfl) ?_
    refine Run_loop (fun m L' h' => ∃ (i1 : Int) (s1 : (List Int)) (a3 : Option Addr) (c2 : Nat), 0 ≤ i1 ∧ M.forN (x1.length : Int) _ _ n m i1 s1 = some x2 ∧ L' = [(3, .slice a1 x1.length c1), (4, .slice a3 s1.length c2), (5, .int .i64 i1)] ∧ Hold h h' [own cd24 a1 x1.length c1 x1, own cd2 a3 s1.length c2 s1]) ((x1.length : Int) - 0 : Int).toNat ⟨0, ([] : List Int), a2, 0, Int.le_refl _, gx2, rfl, H27⟩ ?_
    rintro my1 _ h3 ⟨i1, s1, a3, c2, hloy1', gx2, rfl, H4⟩
    refine Zs ?_
    refine Zs ?_
    refine Zq [.int .i64 i1, .slice a1 x1.length c1, .int .i64 (x1.length : Int), .bool (decide (i1 < (x1.length : Int)))] [3, 4, 5, 12] [(3, .slice a1 x1.length c1), (4, .slice a3 s1.length c2), (5, .int .i64 i1), (12, .bool (decide (i1 < (x1.length : Int))))] ?_
    refine Zc (decide (i1 < (x1.length : Int))) (fun hb1 => ?_) (fun hb1 => ?_)
    · obtain ⟨my1, y1, rfl, hB1, hgoy1, houty1⟩ := M.for_go gx2 hb1
      have hlty1 := of_decide_eq_true hb1
      refine Run_skip ?_
      refine Zs ?_
      refine Run_block ?_
      refine Zs ?_
      obtain ⟨x3, hx2, hB1⟩ := M.bind_some hB1
      obtain ⟨hx2l, hx2u, hx2⟩ := M.idx_some hx2
      have H6 := H4.toRows
      obtain ⟨a5, c4, H7⟩ := H6.pinRow hx2
      obtain ⟨x4, hx3, hB1⟩ := M.bind_some hB1
      obtain ⟨hx3l, hx3u, hx3⟩ := M.idx_some hx3
      obtain ⟨x5, hx4, hB1⟩ := M.bind_some hB1
      refine Zg 9 [(3, .slice a1 x1.length c1), (4, .slice a3 s1.length c2), (5, .int .i64 i1), (23, .bool (!x5))] ?_ ?_
      · refine Zb [.slice a3 s1.length c2, .slice a1 x1.length c1, .int .i64 i1] 0 ?_
        refine Zy (.pointer (some (adr a1 (i1.toNat * 1)))) (Zi 22 24 1 (a1) (x1.length) (c1) .i64 (i1) Tryz.underlying22 ((H4.rd 0 rfl).cell hx2).1 hx2l hx2u) ?_
        refine Zy (.slice a5 x3.length c4) (Zl 24 (adr a1 (i1.toNat * 1)) (.slice a5 x3.length c4) (H7.cellPin 0 rfl 0 rfl)) ?_
        refine Zy (.pointer (some (adr a5 (0 * 1)))) (Zi 24 2 1 (a5) (x3.length) (c4) .i64 (0) Tryz.underlying24 ((H7.rdPin 0 rfl 0 rfl).cell hx3).1 hx3l hx3u) ?_
        refine Zy (.int .i64 x4) (Zl 2 (adr a5 (0 * 1)) (.int .i64 x4) (cd2_cell (H7.rdPin 0 rfl 0 rfl) hx3)) ?_
        refine Zy (.bool x5) (Y_callq (f := 69) (args := #[.slice a3 s1.length c2, .int .i64 x4]) (v := .bool x5) (by kernel_rfl) (w_spec_l01Has h3 s1 a3 c2 (H7.rd 1 rfl) x4 _ _ hx4)) ?_
        refine Zb [.bool (!x5)] 8 ?_
        exact Zd [3, 4, 5, 23]
      obtain ⟨s2, gs2, hB1⟩ := M.bind_some hB1
      refine Run_join (fun L' h' => ∃ (a9 : Option Addr), ∃ (c7 : Nat), L' = [(3, .slice a1 x1.length c1), (4, .slice a9 s2.length c7), (5, .int .i64 i1)] ∧ Hold h h' [own cd24 a1 x1.length c1 x1, own cd2 a9 s2.length c7 s2]) ?_ ?_
      · rintro _ h7 ⟨a9, c7, rfl, H14⟩
        refine Run_blk ?_
        refine Zg 3 [(3, .slice a1 x1.length c1), (4, .slice a9 s2.length c7), (5, .int .i64 (i1 + 1))] ?_ ?_
        · refine Zb [.int .i64 i1] 0 ?_
          refine Zy (.int .i64 (i1 + 1)) (Y_eq (v := .int .i64 (w64 (i1 + 1))) (Y_pure (fun w => by kernel_rfl)) (by rw [w64_eq _ (by omega)])) ?_
          refine Zb [.int .i64 (i1 + 1)] 2 ?_
          exact Zd [3, 4, 5]
        have H22 : Hold h h7 [own cd2 a9 s2.length c7 s2, own cd24 a1 x1.length c1 x1] := H14.pick [1, 0] (by kernel_rfl)
        have H23 : Hold h h7 [own cd24 a1 x1.length c1 x1, own cd2 a9 s2.length c7 s2] := H22.pick [1, 0] (by kernel_rfl)
        have hB1 := M.ret_some hB1
        have gx2 := hgoy1 _ hB1.symm
        exact Run_again [3, 4, 5] (by kernel_rfl) my1 (Nat.lt_succ_self _) ⟨i1 + 1, s2, a9, c7, by omega, gx2, rfl, H23⟩
      · refine Zc (!x5) (fun hb2 => ?_) (fun hb2 => ?_)
        · have gs2 := (M.ite_some gs2).1 hb2
          refine Run_ops ?_
          obtain ⟨x6, hx5, gs2⟩ := M.bind_some gs2
          obtain ⟨hx5l, hx5u, hx5⟩ := M.idx_some hx5
          obtain ⟨a6, c5, H8⟩ := H7.pinRow hx5
          obtain ⟨x7, hx6, gs2⟩ := M.bind_some gs2
          obtain ⟨hx6l, hx6u, hx6⟩ := M.idx_some hx6
          refine Zr [.slice a3 s1.length c2, .slice a1 x1.length c1, .int .i64 i1] 0 ?_
          refine Zz (.pointer (some (adr a1 (i1.toNat * 1)))) (Zi 22 24 1 (a1) (x1.length) (c1) .i64 (i1) Tryz.underlying22 ((H7.rdRows 0 rfl).cell hx5).1 hx5l hx5u) ?_
          refine Zz (.slice a6 x6.length c5) (Zl 24 (adr a1 (i1.toNat * 1)) (.slice a6 x6.length c5) (H8.cellPin 0 rfl 0 rfl)) ?_
          refine Zz (.pointer (some (adr a6 (0 * 1)))) (Zi 24 2 1 (a6) (x6.length) (c5) .i64 (0) Tryz.underlying24 ((H8.rdPin 0 rfl 0 rfl).cell hx6).1 hx6l hx6u) ?_
          refine Zz (.int .i64 x7) (Zl 2 (adr a6 (0 * 1)) (.int .i64 x7) (cd2_cell (H8.rdPin 0 rfl 0 rfl) hx6)) ?_
          refine Run_E (by kernel_rfl) ?_
          refine E_lit (C := cd2) (n := 1) (l := ([x7] : List Int)) (cs := [.int .i64 x7]) H8 (fun w => by kernel_rfl) (Enc.consE (cd2_own x7 _) (Enc.nil _ _) rfl) rfl (by decide) (fun a7 h5 H9 => ?_)
          obtain ⟨l1, hl1, gs2⟩ := M.bind_some gs2
          have hl1 := M.app_some hl1
          have H10 : Hold h h5 [own cd2 a3 s1.length c2 s1, own cd2 a7 1 1 ([x7] : List Int), rowsP cd2 24 a1 x1.length c1 x1 [(i1.toNat, a6, x6.length, c5, x6), (i1.toNat, a5, x3.length, c4, x3)]] := H9.pick [2, 0, 1] (by kernel_rfl)
          have H11 : Hold h h5 [own cd2 a7 1 1 ([x7] : List Int), own cd2 a3 s1.length c2 s1, rowsP cd2 24 a1 x1.length c1 x1 [(i1.toNat, a6, x6.length, c5, x6), (i1.toNat, a5, x3.length, c4, x3)]] := H10.pick [1, 0, 2] (by kernel_rfl)
          have H12 : Hold h h5 [own cd2 a3 s1.length c2 s1, own cd2 a7 1 1 ([x7] : List Int), rowsP cd2 24 a1 x1.length c1 x1 [(i1.toNat, a6, x6.length, c5, x6), (i1.toNat, a5, x3.length, c4, x3)]] := H11.pick [1, 0, 2] (by kernel_rfl)
          refine Run_E (by kernel_rfl) ?_
          refine E_app (C := cd2) (t := 24) (ty := 24) (n := s1.length) (m := 1) H12 cd2_ti rfl Tryz.underlying24 (by decide) (by kernel_rfl) hl1 (fun a8 c6 h6 H13 => ?_)
          refine Zr [.slice a8 l1.length c6] 9 ?_
          refine Run_nil (by kernel_rfl) ?_
          refine Zk [3, 4, 5] [(3, .slice a1 x1.length c1), (4, .slice a8 l1.length c6), (5, .int .i64 i1)] ?_
          have H15 : Hold h h6 [rowsP cd2 24 a1 x1.length c1 x1 [(i1.toNat, a6, x6.length, c5, x6), (i1.toNat, a5, x3.length, c4, x3)], own cd2 a8 l1.length c6 l1] := H13.pick [1, 0] (by kernel_rfl)
          have H16 := H15.ofRows
          have H17 : Hold h h6 [own cd2 a8 l1.length c6 l1, own cd24 a1 x1.length c1 x1] := H16.pick [1, 0] (by kernel_rfl)
          have H18 : Hold h h6 [own cd24 a1 x1.length c1 x1, own cd2 a8 l1.length c6 l1] := H17.pick [1, 0] (by kernel_rfl)
          have gs2 := M.ret_some gs2
          subst gs2
          exact Run_fall [3, 4, 5] (by kernel_rfl) ⟨a8, c6, rfl, H18⟩
        · have gs2 := (M.ite_some gs2).2 hb2
          refine Run_skip ?_
          have H19 := H7.ofRows
          have H20 : Hold h h3 [own cd2 a3 s1.length c2 s1, own cd24 a1 x1.length c1 x1] := H19.pick [1, 0] (by kernel_rfl)
          have H21 : Hold h h3 [own cd24 a1 x1.length c1 x1, own cd2 a3 s1.length c2 s1] := H20.pick [1, 0] (by kernel_rfl)
          have gs2 := M.ret_some gs2
          subst gs2
          exact Run_fall [3, 4, 5] (by kernel_rfl) ⟨a3, c2, rfl, H21⟩
    · have gx2 := M.for_end gx2 hb1
      subst gx2
      refine Run_exit (k' := _) rfl ?_
      have H24 : Hold h h3 [own cd2 a3 s1.length c2 s1, own cd24 a1 x1.length c1 x1] := H4.pick [1, 0] (by kernel_rfl)
      have H25 : Hold h h3 [own cd2 a3 s1.length c2 s1] := H24.pick [0] (by kernel_rfl)
      exact Run_fall [4] (by kernel_rfl) ⟨a3, c2, rfl, H25⟩

set_option maxRecDepth 100000 in
set_option maxHeartbeats 4000000 in
theorem w_spec_CriticalNodes (h : Heap) (a_ : List (List Int)) (aa_ : Option Addr) (ca_ : Nat) (ra_ : Rd cd24 h (Lt h) aa_ ca_ a_) (n : Nat) (r : (List Int) × Int) (hF : spec_CriticalNodes a_ n = some r) :
    Fn Tryz.prog 7 #[.slice aa_ a_.length ca_] h fun v h' => ∃ (a0 : Option Addr) (c0 : Nat), v = .tuple #[.slice a0 r.1.length c0, .int .i64 r.2] ∧ Hold h h' [own cd2 a0 r.1.length c0 r.1] := by
  unfold spec_CriticalNodes at hF
  refine Fn_enter (args := [.slice aa_ a_.length ca_]) Tryz.func7 rfl (by kernel_rfl) (by kernel_rfl) (fun w0 _ => ?_)
  have H0 := Hold.init h
  refine Zs ?_
  refine Zq [.slice none 0 0, .int .i64 0] [0] [(0, .slice aa_ a_.length ca_)] ?_
  refine Zs ?_
  obtain ⟨x1, hx1, hF⟩ := M.bind_some hF
  refine Run_regC (j := 3) (C := fun x => Hold h x []) (by kernel_rfl) H0 (L' := [(0, .slice aa_ a_.length ca_), (4, .int .i64 x1)]) ?_ (fun h1 H1 => ?_)
  · refine Zb [.slice aa_ a_.length ca_] 0 ?_
    refine Zy (.int .i64 x1) (Y_call (f := 35) (args := #[.slice aa_ a_.length ca_]) (v := .int .i64 x1) (by kernel_rfl) fun hx Hx => (w_spec_l06Code hx a_ aa_ ca_ (ra_.at Hx.ext) _ _ hx1).mono fun _ _ ⟨e, H'⟩ => ⟨e, Hx.call H' rfl⟩) ?_
    refine Zb [.int .i64 x1] 2 ?_
    exact Zd [0, 4]
  have H2 : Hold h h1 [] := H1
  refine Zs ?_
  refine Zs ?_
  refine Zq [.int .i64 x1, .bool (x1 != 0)] [0, 4, 8] [(0, .slice aa_ a_.length ca_), (4, .int .i64 x1), (8, .bool (x1 != 0))] ?_
  refine Zc (x1 != 0) (fun hb1 => ?_) (fun hb1 => ?_)
  · have hF := (M.ite_some hF).1 hb1
    refine Zs ?_
    refine Zq [.int .i64 x1, .slice none 0 0, .int .i64 x1] [2, 3] [(2, .slice none 0 0), (3, .int .i64 x1)] ?_
    have hF := M.ret_some hF
    subst hF
    have H3 := H2.empty cd2
    exact Run_ret2 rfl (ResV_tmp (v := .slice none 0 0) (by kernel_rfl)) (ResV_tmp (v := .int .i64 x1) (by kernel_rfl)) ⟨none, 0, rfl, H3⟩
  · have hF := (M.ite_some hF).2 hb1
    refine Run_skip ?_
    refine Zs ?_
    refine Run_ops ?_
    refine Zr [.slice aa_ a_.length ca_] 0 ?_
    obtain ⟨x2, hx2, hF⟩ := M.bind_some hF
    refine Run_E (by kernel_rfl) ?_
    refine E_call (f := 36) (args := #[.slice aa_ a_.length ca_]) (w_spec_l06Nodes h1 a_ aa_ ca_ (ra_.at H2.ext) _ _ hx2) (by kernel_rfl) (fun v1 h2 hp1 => ?_)
    obtain ⟨a1, c1, rfl, H4⟩ := hp1
    have H5 : Hold h h2 [own cd2 a1 x2.length c1 x2] := H2.call H4 rfl
    refine Zr [.slice a1 x2.length c1, .int .i64 0] 2 ?_
    refine Run_nil (by kernel_rfl) ?_
    refine Zk [2, 3] [(2, .slice a1 x2.length c1), (3, .int .i64 0)] ?_
    have hF := M.ret_some hF
    subst hF
    exact Run_ret2 rfl (ResV_tmp (v := .slice a1 x2.length c1) (by kernel_rfl)) (ResV_tmp (v := .int .i64 0) (by kernel_rfl)) ⟨a1, c1, rfl, H5⟩

set_option maxRecDepth 100000 in
set_option maxHeartbeats 4000000 in
theorem w_impl_within (h : Heap) (n_ : Int) (low : Int) (high : Int) (n : Nat) (r : Bool) (hF : impl_within n_ low high n = some r) :
    Fn Tryz.prog 128 #[.int .i64 n_, .int .i64 low, .int .i64 high] h fun v h' => v = .bool r ∧ h' = h := by
  unfold impl_within at hF
  refine Fn_enter (args := [.int .i64 n_, .int .i64 low, .int .i64 high]) Tryz.func128 rfl (by kernel_rfl) (by kernel_rfl) (fun w0 _ => ?_)
  refine Zs ?_
  refine Zq [.bool false] [0, 1, 2] [(0, .int .i64 n_), (1, .int .i64 low), (2, .int .i64 high)] ?_
  refine Zs ?_
  refine Zg 9 [(6, .bool ((decide (low ≤ n_)) && (decide (n_ ≤ high))))] ?_ ?_
  · refine Zb [.int .i64 n_, .int .i64 low, .bool (decide (low ≤ n_))] 0 ?_
    refine QRun_seq 8 [(14, .bool ((decide (low ≤ n_)) && (decide (n_ ≤ high))))] ?_ ?_
    · rcases Bool.eq_false_or_eq_true (decide (low ≤ n_)) with hb1 | hb1
      · refine QRun_bool (decide (low ≤ n_)) true (by kernel_rfl) (fun w => by kernel_rfl) hb1 ?_
        refine Zb [.int .i64 n_, .int .i64 high, .bool (decide (n_ ≤ high))] 4 ?_
        refine QRun_bool (decide (n_ ≤ high)) ((decide (low ≤ n_)) && (decide (n_ ≤ high))) (by kernel_rfl) (fun w => by kernel_rfl) (by rw [hb1]; rfl) ?_
        exact Zd [14]
      · refine QRun_bool (decide (low ≤ n_)) false (by kernel_rfl) (fun w => by kernel_rfl) hb1 ?_
        refine QRun_n (by kernel_rfl) ?_
        refine QRun_n (by kernel_rfl) ?_
        refine QRun_n (by kernel_rfl) ?_
        refine QRun_bool false ((decide (low ≤ n_)) && (decide (n_ ≤ high))) (by kernel_rfl) (fun w => by kernel_rfl) (by rw [hb1]; rfl) ?_
        exact Zd [14]
    refine Zb [.bool ((decide (low ≤ n_)) && (decide (n_ ≤ high)))] 8 ?_
    exact Zd [6]
  have hF := M.ret_some hF
  subst hF
  exact Run_ret1 rfl (ResV_tmp (v := .bool ((decide (low ≤ n_)) && (decide (n_ ≤ high)))) (by kernel_rfl)) ⟨rfl, rfl⟩

set_option maxRecDepth 100000 in
set_option maxHeartbeats 4000000 in
theorem w_impl_isFinite (h : Heap) (n_ : Int) (n : Nat) (r : Bool) (hF : impl_isFinite n_ n = some r) :
    Fn Tryz.prog 145 #[.int .i64 n_] h fun v h' => v = .bool r ∧ h' = h := by
  unfold impl_isFinite at hF
  refine Fn_enter (args := [.int .i64 n_]) Tryz.func145 rfl (by kernel_rfl) (by kernel_rfl) (fun w0 _ => ?_)
  refine Zs ?_
  refine Zq [.bool false] [0] [(0, .int .i64 n_)] ?_
  refine Zs ?_
  obtain ⟨x1, hx1, hF⟩ := M.bind_some hF
  refine Zg 3 [(2, .bool x1)] ?_ ?_
  · refine Zb [.int .i64 n_] 0 ?_
    refine Zy (.bool x1) (Y_callq (f := 128) (args := #[.int .i64 n_, .int .i64 (-1000000), .int .i64 1000000]) (v := .bool x1) (by kernel_rfl) (w_impl_within h n_ (-1000000) 1000000 _ _ hx1)) ?_
    refine Zb [.bool x1] 2 ?_
    exact Zd [2]
  have hF := M.ret_some hF
  subst hF
  exact Run_ret1 rfl (ResV_tmp (v := .bool x1) (by kernel_rfl)) ⟨rfl, rfl⟩

set_option maxRecDepth 100000 in
set_option maxHeartbeats 4000000 in
theorem w_impl_IsValue (h : Heap) (a_ : Int) (n : Nat) (r : Bool) (hF : impl_IsValue a_ n = some r) :
    Fn Tryz.prog 141 #[.int .i64 a_] h fun v h' => v = .bool r ∧ h' = h := by
  unfold impl_IsValue at hF
  refine Fn_enter (args := [.int .i64 a_]) Tryz.func141 rfl (by kernel_rfl) (by kernel_rfl) (fun w0 _ => ?_)
  refine Zs ?_
  refine Zq [.bool false] [0] [(0, .int .i64 a_)] ?_
  refine Zs ?_
  obtain ⟨x1, gx1, hF⟩ := M.bind_some hF
  refine Zg 7 [(2, .bool x1)] ?_ ?_
  · refine Zb [.int .i64 a_, .bool (a_ == (-1000000000000000))] 0 ?_
    refine QRun_seq 6 [(8, .bool x1)] ?_ ?_
    · rcases Bool.eq_false_or_eq_true (a_ == (-1000000000000000)) with hb1 | hb1
      · refine QRun_bool (a_ == (-1000000000000000)) true (by kernel_rfl) (fun w => by kernel_rfl) hb1 ?_
        have gx1 := M.ret_some ((M.ite_some gx1).1 hb1)
        refine QRun_n (by kernel_rfl) ?_
        refine QRun_n (by kernel_rfl) ?_
        refine QRun_bool true x1 (by kernel_rfl) (fun w => by kernel_rfl) gx1 ?_
        exact Zd [8]
      · refine QRun_bool (a_ == (-1000000000000000)) false (by kernel_rfl) (fun w => by kernel_rfl) hb1 ?_
        have gx1 := (M.ite_some gx1).2 hb1
        obtain ⟨x2, hx1, gx1⟩ := M.bind_some gx1
        have gx1 := M.ret_some gx1
        refine Zb [.int .i64 a_] 3 ?_
        refine Zy (.bool x2) (Y_callq (f := 145) (args := #[.int .i64 a_]) (v := .bool x2) (by kernel_rfl) (w_impl_isFinite h a_ _ _ hx1)) ?_
        refine QRun_bool x2 x1 (by kernel_rfl) (fun w => by kernel_rfl) gx1 ?_
        exact Zd [8]
    refine Zb [.bool x1] 6 ?_
    exact Zd [2]
  have hF := M.ret_some hF
  subst hF
  exact Run_ret1 rfl (ResV_tmp (v := .bool x1) (by kernel_rfl)) ⟨rfl, rfl⟩

set_option maxRecDepth 100000 in
set_option maxHeartbeats 4000000 in
theorem w_impl_areValues_1 (h : Heap) (n_ : Int) (n : Nat) (r : Bool) (hF : impl_areValues_1 n_ n = some r) :
    Fn Tryz.prog 140 #[.int .i64 n_] h fun v h' => v = .bool r ∧ h' = h := by
  unfold impl_areValues_1 at hF
  refine Fn_enter (args := [.int .i64 n_]) Tryz.func140 rfl (by kernel_rfl) (by kernel_rfl) (fun w0 _ => ?_)
  refine Zs ?_
  refine Zq [.bool false] [0] [(0, .int .i64 n_)] ?_
  refine Zs ?_
  obtain ⟨x1, hx1, hF⟩ := M.bind_some hF
  refine Zg 4 [(2, .bool (!x1))] ?_ ?_
  · refine Zb [.int .i64 n_] 0 ?_
    refine Zy (.bool x1) (Y_callq (f := 141) (args := #[.int .i64 n_]) (v := .bool x1) (by kernel_rfl) (w_impl_IsValue h n_ _ _ hx1)) ?_
    refine Zb [.bool (!x1), .bool (!x1)] 2 ?_
    exact Zd [2]
  have hF := M.ret_some hF
  subst hF
  exact Run_ret1 rfl (ResV_tmp (v := .bool (!x1)) (by kernel_rfl)) ⟨rfl, rfl⟩

set_option maxRecDepth 100000 in
set_option maxHeartbeats 4000000 in
theorem w_slices_IndexFunc_int_F_impl_areValues_1 (h : Heap) (s_ : List Int) {Ss_ : Bs} (as_ : Option Addr) (cs_ : Nat) (rs_ : Rd cd2 h Ss_ as_ cs_ s_) (n : Nat) (r : Int) (hF : slices_IndexFunc_int_F_impl_areValues_1 s_ n = some r) :
    Fn Tryz.prog 156 #[.slice as_ s_.length cs_, .func (.func 140) #[] #[]] h fun v h' => v = .int .i64 r ∧ h' = h := by
  unfold slices_IndexFunc_int_F_impl_areValues_1 at hF
  refine Fn_enter (args := [.slice as_ s_.length cs_, .func (.func 140) #[] #[]]) Tryz.func156 rfl (by kernel_rfl) (by kernel_rfl) (fun w0 _ => ?_)
  refine Zs ?_
  refine Zq [.int .i64 0] [0, 1] [(0, .slice as_ s_.length cs_), (1, .func (.func 140) #[] #[])] ?_
  refine Zs ?_
  refine Zs ?_
  refine Zq [.slice as_ s_.length cs_, .int .i64 (s_.length : Int), .int .i64 0] [0, 1, 7, 8] [(0, .slice as_ s_.length cs_), (1, .func (.func 140) #[] #[]), (7, .int .i64 (s_.length : Int)), (8, .int .i64 0)] ?_
  obtain ⟨x1, gx1, hF⟩ := M.bind_some hF
  obtain ⟨hloy1, hhiy1, gx1⟩ := M.for_start gx1
  refine Run_join (fun L' h' => ∃ (s2 : Unit), x1 = .inl s2 ∧ L' = [] ∧ h = h') ?_ ?_
  · rintro _ _ ⟨s2, es2, rfl, rfl⟩
    have hF := M.cont_inl' hF es2
    refine Zs ?_
    refine Zq [.int .i64 (-1)] [4] [(4, .int .i64 (-1))] ?_
    have hF := M.ret_some hF
    subst hF
    exact Run_ret1 rfl (ResV_tmp (v := .int .i64 (-1)) (by kernel_rfl)) ⟨rfl, rfl⟩
  · refine Run_block ?_
    refine Zk [0, 1, 7, 8] [(0, .slice as_ s_.length cs_), (1, .func (.func 140) #[] #[]), (7, .int .i64 (s_.length : Int)), (8, .int .i64 0)] ?_
    refine Run_loop (fun m L' h' => ∃ (i1 : Int) (s1 : Unit), 0 ≤ i1 ∧ M.forN (s_.length : Int) _ _ n m i1 s1 = some x1 ∧ L' = [(0, .slice as_ s_.length cs_), (1, .func (.func 140) #[] #[]), (7, .int .i64 (s_.length : Int)), (8, .int .i64 i1)] ∧ h = h') ((s_.length : Int) - 0 : Int).toNat ⟨0, (), Int.le_refl _, gx1, rfl, rfl⟩ ?_
    rintro my1 _ _ ⟨i1, s1, hloy1', gx1, rfl, rfl⟩
    refine Zs ?_
    refine Zq [.bool (decide (i1 < (s_.length : Int)))] [0, 1, 7, 8, 9] [(0, .slice as_ s_.length cs_), (1, .func (.func 140) #[] #[]), (7, .int .i64 (s_.length : Int)), (8, .int .i64 i1), (9, .bool (decide (i1 < (s_.length : Int))))] ?_
    refine Zs ?_
    refine Zc (decide (i1 < (s_.length : Int))) (fun hb1 => ?_) (fun hb1 => ?_)
    · obtain ⟨my1, y1, rfl, hB1, hgoy1, houty1⟩ := M.for_go gx1 hb1
      have hlty1 := of_decide_eq_true hb1
      refine Run_skip ?_
      refine Zs ?_
      refine Run_block ?_
      refine Zs ?_
      refine Zq [.int .i64 i1, .int .i64 i1] [0, 1, 5, 7, 8] [(0, .slice as_ s_.length cs_), (1, .func (.func 140) #[] #[]), (5, .int .i64 i1), (7, .int .i64 (s_.length : Int)), (8, .int .i64 i1)] ?_
      refine Zs ?_
      obtain ⟨x2, hx1, hB1⟩ := M.bind_some hB1
      obtain ⟨hx1l, hx1u, hx1⟩ := M.idx_some hx1
      obtain ⟨x3, hx2, hB1⟩ := M.bind_some hB1
      refine Zg 6 [(0, .slice as_ s_.length cs_), (1, .func (.func 140) #[] #[]), (5, .int .i64 i1), (7, .int .i64 (s_.length : Int)), (8, .int .i64 i1), (16, .bool x3)] ?_ ?_
      · refine Zb [.func (.func 140) #[] #[], .slice as_ s_.length cs_, .int .i64 i1] 0 ?_
        refine Zy (.pointer (some (adr as_ (i1.toNat * 1)))) (Zi 24 2 1 (as_) (s_.length) (cs_) .i64 (i1) Tryz.underlying24 (rs_.cell hx1).1 hx1l hx1u) ?_
        refine Zy (.int .i64 x2) (Zl 2 (adr as_ (i1.toNat * 1)) (.int .i64 x2) (cd2_cell rs_ hx1)) ?_
        refine Zy (.bool x3) (Y_callq (f := 140) (args := #[.int .i64 x2]) (v := .bool x3) (by kernel_rfl) (w_impl_areValues_1 h x2 _ _ hx2)) ?_
        exact Zd [0, 1, 5, 7, 8, 16]
      refine Zc (x3) (fun hb2 => ?_) (fun hb2 => ?_)
      · have hB1 := (M.ite_some hB1).1 hb2
        refine Zs ?_
        refine Zq [.int .i64 i1, .int .i64 i1] [4] [(4, .int .i64 i1)] ?_
        have hB1 := M.ret_some hB1
        have gx1 := houty1 _ hB1.symm
        have hF := M.cont_inr' hF gx1
        have hF := M.ret_some hF
        subst hF
        exact Run_ret1 rfl (ResV_tmp (v := .int .i64 i1) (by kernel_rfl)) ⟨rfl, rfl⟩
      · have hB1 := (M.ite_some hB1).2 hb2
        refine Run_skip ?_
        refine Run_blk ?_
        refine Zg 2 [(0, .slice as_ s_.length cs_), (1, .func (.func 140) #[] #[]), (7, .int .i64 (s_.length : Int)), (8, .int .i64 (i1 + 1))] ?_ ?_
        · refine Zy (.int .i64 (i1 + 1)) (Y_eq (v := .int .i64 (w64 (i1 + 1))) (Y_pure (fun w => by kernel_rfl)) (by rw [w64_eq _ (by omega)])) ?_
          refine Zb [.int .i64 (i1 + 1)] 1 ?_
          exact Zd [0, 1, 7, 8]
        have hB1 := M.ret_some hB1
        have gx1 := hgoy1 _ hB1.symm
        exact Run_again [0, 1, 7, 8] (by kernel_rfl) my1 (Nat.lt_succ_self _) ⟨i1 + 1, (), by omega, gx1, rfl, rfl⟩
    · have gx1 := M.for_end gx1 hb1
      subst gx1
      refine Run_exit (k' := _) rfl ?_
      exact Run_fall [] (by kernel_rfl) ⟨(), rfl, rfl, rfl⟩

set_option maxRecDepth 100000 in
set_option maxHeartbeats 4000000 in
theorem w_slices_ContainsFunc_int_F_impl_areValues_1 (h : Heap) (s_ : List Int) {Ss_ : Bs} (as_ : Option Addr) (cs_ : Nat) (rs_ : Rd cd2 h Ss_ as_ cs_ s_) (n : Nat) (r : Bool) (hF : slices_ContainsFunc_int_F_impl_areValues_1 s_ n = some r) :
    Fn Tryz.prog 139 #[.slice as_ s_.length cs_, .func (.func 140) #[] #[]] h fun v h' => v = .bool r ∧ h' = h := by
  unfold slices_ContainsFunc_int_F_impl_areValues_1 at hF
  refine Fn_enter (args := [.slice as_ s_.length cs_, .func (.func 140) #[] #[]]) Tryz.func139 rfl (by kernel_rfl) (by kernel_rfl) (fun w0 _ => ?_)
  refine Zs ?_
  refine Zq [.bool false] [0, 1] [(0, .slice as_ s_.length cs_), (1, .func (.func 140) #[] #[])] ?_
  refine Zs ?_
  obtain ⟨x1, hx1, hF⟩ := M.bind_some hF
  refine Zg 5 [(4, .bool (decide (0 ≤ x1)))] ?_ ?_
  · refine Zb [.slice as_ s_.length cs_, .func (.func 140) #[] #[]] 0 ?_
    refine Zy (.int .i64 x1) (Y_callq (f := 156) (args := #[.slice as_ s_.length cs_, .func (.func 140) #[] #[]]) (v := .int .i64 x1) (by kernel_rfl) (w_slices_IndexFunc_int_F_impl_areValues_1 h s_ as_ cs_ rs_ _ _ hx1)) ?_
    refine Zb [.bool (decide (0 ≤ x1)), .bool (decide (0 ≤ x1))] 3 ?_
    exact Zd [4]
  have hF := M.ret_some hF
  subst hF
  exact Run_ret1 rfl (ResV_tmp (v := .bool (decide (0 ≤ x1))) (by kernel_rfl)) ⟨rfl, rfl⟩

set_option maxRecDepth 100000 in
set_option maxHeartbeats 4000000 in
theorem w_impl_areValues (h : Heap) (list : List Int) {Slist : Bs} (alist : Option Addr) (clist : Nat) (rlist : Rd cd2 h Slist alist clist list) (n : Nat) (r : Bool) (hF : impl_areValues list n = some r) :
    Fn Tryz.prog 98 #[.slice alist list.length clist] h fun v h' => v = .bool r ∧ h' = h := by
  unfold impl_areValues at hF
  refine Fn_enter (args := [.slice alist list.length clist]) Tryz.func98 rfl (by kernel_rfl) (by kernel_rfl) (fun w0 _ => ?_)
  refine Zs ?_
  refine Zq [.bool false] [0] [(0, .slice alist list.length clist)] ?_
  refine Zs ?_
  obtain ⟨x1, hx1, hF⟩ := M.bind_some hF
  refine Zg 4 [(2, .bool (!x1))] ?_ ?_
  · refine Zb [.slice alist list.length clist] 0 ?_
    refine Zy (.bool x1) (Y_callq (f := 139) (args := #[.slice alist list.length clist, .func (.func 140) #[] #[]]) (v := .bool x1) (by kernel_rfl) (w_slices_ContainsFunc_int_F_impl_areValues_1 h list alist clist rlist _ _ hx1)) ?_
    refine Zb [.bool (!x1), .bool (!x1)] 2 ?_
    exact Zd [2]
  have hF := M.ret_some hF
  subst hF
  exact Run_ret1 rfl (ResV_tmp (v := .bool (!x1)) (by kernel_rfl)) ⟨rfl, rfl⟩

set_option maxRecDepth 100000 in
set_option maxHeartbeats 4000000 in
theorem w_impl_IsMatrix_1 (h : Heap) (row : List Int) {Srow : Bs} (arow : Option Addr) (crow : Nat) (rrow : Rd cd2 h Srow arow crow row) (z0 : List (List Int)) {Sz0 : Bs} (az0 : Option Addr) (cz0 : Nat) (rz0 : Rd cd24 h Sz0 az0 cz0 z0) (bz0 : Nat) (vz0 : VarAt h bz0 22 [.slice az0 z0.length cz0]) (n : Nat) (r : Bool) (hF : impl_IsMatrix_1 row z0 n = some r) :
    Fn Tryz.prog 129 #[.slice arow row.length crow, .pointer (some ⟨bz0, 0, none⟩)] h fun v h' => v = .bool r ∧ h' = h := by
  unfold impl_IsMatrix_1 at hF
  refine Fn_enter (args := [.slice arow row.length crow, .pointer (some ⟨bz0, 0, none⟩)]) Tryz.func129 rfl (by kernel_rfl) (by kernel_rfl) (fun w0 _ => ?_)
  refine Zs ?_
  refine Zq [.bool false] [0, 1] [(0, .slice arow row.length crow), (1, .pointer (some ⟨bz0, 0, none⟩))] ?_
  refine Zs ?_
  obtain ⟨x1, hx1, hF⟩ := M.bind_some hF
  obtain ⟨hx1l, hx1u, hx1⟩ := M.idx_some hx1
  obtain ⟨a1, c1, hc1, r1⟩ := rz0.row hx1
  obtain ⟨x2, gx2, hF⟩ := M.bind_some hF
  refine Zg 13 [(3, .bool x2)] ?_ ?_
  · refine Zb [.slice arow row.length crow, .int .i64 (row.length : Int)] 0 ?_
    refine Zy (.slice az0 z0.length cz0) (Zl 22 (⟨bz0, 0, none⟩) (.slice az0 z0.length cz0) (VarAt.cell vz0 rfl)) ?_
    refine Zy (.pointer (some (adr az0 (0 * 1)))) (Zi 22 24 1 (az0) (z0.length) (cz0) .i64 (0) Tryz.underlying22 (rz0.cell hx1).1 hx1l hx1u) ?_
    refine Zy (.slice a1 x1.length c1) (Zl 24 (adr az0 (0 * 1)) (.slice a1 x1.length c1) hc1) ?_
    refine Zb [.int .i64 (x1.length : Int), .bool ((row.length : Int) != (x1.length : Int))] 5 ?_
    refine QRun_seq 12 [(15, .bool x2)] ?_ ?_
    · rcases Bool.eq_false_or_eq_true ((row.length : Int) != (x1.length : Int)) with hb1 | hb1
      · refine QRun_bool ((row.length : Int) != (x1.length : Int)) true (by kernel_rfl) (fun w => by kernel_rfl) hb1 ?_
        have gx2 := M.ret_some ((M.ite_some gx2).1 hb1)
        refine QRun_n (by kernel_rfl) ?_
        refine QRun_n (by kernel_rfl) ?_
        refine QRun_n (by kernel_rfl) ?_
        refine QRun_bool true x2 (by kernel_rfl) (fun w => by kernel_rfl) gx2 ?_
        exact Zd [15]
      · refine QRun_bool ((row.length : Int) != (x1.length : Int)) false (by kernel_rfl) (fun w => by kernel_rfl) hb1 ?_
        have gx2 := (M.ite_some gx2).2 hb1
        obtain ⟨x3, hx2, gx2⟩ := M.bind_some gx2
        have gx2 := M.ret_some gx2
        refine Zb [.slice arow row.length crow] 8 ?_
        refine Zy (.bool x3) (Y_callq (f := 98) (args := #[.slice arow row.length crow]) (v := .bool x3) (by kernel_rfl) (w_impl_areValues h row arow crow rrow _ _ hx2)) ?_
        refine Zb [.bool (!x3)] 10 ?_
        refine QRun_bool (!x3) x2 (by kernel_rfl) (fun w => by kernel_rfl) gx2 ?_
        exact Zd [15]
    refine Zb [.bool x2] 12 ?_
    exact Zd [3]
  have hF := M.ret_some hF
  subst hF
  exact Run_ret1 rfl (ResV_tmp (v := .bool x2) (by kernel_rfl)) ⟨rfl, rfl⟩

set_option maxRecDepth 100000 in
set_option maxHeartbeats 4000000 in
theorem w_slices_IndexFunc_row_F_impl_IsMatrix_1 (h : Heap) (s_ : List (List Int)) {Ss_ : Bs} (as_ : Option Addr) (cs_ : Nat) (rs_ : Rd cd24 h Ss_ as_ cs_ s_) (f0 : List (List Int)) {Sf0 : Bs} (af0 : Option Addr) (cf0 : Nat) (rf0 : Rd cd24 h Sf0 af0 cf0 f0) (bf0 : Nat) (vf0 : VarAt h bf0 22 [.slice af0 f0.length cf0]) (n : Nat) (r : Int) (hF : slices_IndexFunc_row_F_impl_IsMatrix_1 s_ f0 n = some r) :
    Fn Tryz.prog 113 #[.slice as_ s_.length cs_, .func (.func 129) #[] #[.pointer (some ⟨bf0, 0, none⟩)]] h fun v h' => v = .int .i64 r ∧ h' = h := by
  unfold slices_IndexFunc_row_F_impl_IsMatrix_1 at hF
  refine Fn_enter (args := [.slice as_ s_.length cs_, .func (.func 129) #[] #[.pointer (some ⟨bf0, 0, none⟩)]]) Tryz.func113 rfl (by kernel_rfl) (by kernel_rfl) (fun w0 _ => ?_)
  refine Zs ?_
  refine Zq [.int .i64 0] [0, 1] [(0, .slice as_ s_.length cs_), (1, .func (.func 129) #[] #[.pointer (some ⟨bf0, 0, none⟩)])] ?_
  refine Zs ?_
  refine Zs ?_
  refine Zq [.slice as_ s_.length cs_, .int .i64 (s_.length : Int), .int .i64 0] [0, 1, 7, 8] [(0, .slice as_ s_.length cs_), (1, .func (.func 129) #[] #[.pointer (some ⟨bf0, 0, none⟩)]), (7, .int .i64 (s_.length : Int)), (8, .int .i64 0)] ?_
  obtain ⟨x1, gx1, hF⟩ := M.bind_some hF
  obtain ⟨hloy1, hhiy1, gx1⟩ := M.for_start gx1
  refine Run_join (fun L' h' => ∃ (s2 : Unit), x1 = .inl s2 ∧ L' = [] ∧ h = h') ?_ ?_
  · rintro _ _ ⟨s2, es2, rfl, rfl⟩
    have hF := M.cont_inl' hF es2
    refine Zs ?_
    refine Zq [.int .i64 (-1)] [4] [(4, .int .i64 (-1))] ?_
    have hF := M.ret_some hF
    subst hF
    exact Run_ret1 rfl (ResV_tmp (v := .int .i64 (-1)) (by kernel_rfl)) ⟨rfl, rfl⟩
  · refine Run_block ?_
    refine Zk [0, 1, 7, 8] [(0, .slice as_ s_.length cs_), (1, .func (.func 129) #[] #[.pointer (some ⟨bf0, 0, none⟩)]), (7, .int .i64 (s_.length : Int)), (8, .int .i64 0)] ?_
    refine Run_loop (fun m L' h' => ∃ (i1 : Int) (s1 : Unit), 0 ≤ i1 ∧ M.forN (s_.length : Int) _ _ n m i1 s1 = some x1 ∧ L' = [(0, .slice as_ s_.length cs_), (1, .func (.func 129) #[] #[.pointer (some ⟨bf0, 0, none⟩)]), (7, .int .i64 (s_.length : Int)), (8, .int .i64 i1)] ∧ h = h') ((s_.length : Int) - 0 : Int).toNat ⟨0, (), Int.le_refl _, gx1, rfl, rfl⟩ ?_
    rintro my1 _ _ ⟨i1, s1, hloy1', gx1, rfl, rfl⟩
    refine Zs ?_
    refine Zq [.bool (decide (i1 < (s_.length : Int)))] [0, 1, 7, 8, 9] [(0, .slice as_ s_.length cs_), (1, .func (.func 129) #[] #[.pointer (some ⟨bf0, 0, none⟩)]), (7, .int .i64 (s_.length : Int)), (8, .int .i64 i1), (9, .bool (decide (i1 < (s_.length : Int))))] ?_
    refine Zs ?_
    refine Zc (decide (i1 < (s_.length : Int))) (fun hb1 => ?_) (fun hb1 => ?_)
    · obtain ⟨my1, y1, rfl, hB1, hgoy1, houty1⟩ := M.for_go gx1 hb1
      have hlty1 := of_decide_eq_true hb1
      refine Run_skip ?_
      refine Zs ?_
      refine Run_block ?_
      refine Zs ?_
      refine Zq [.int .i64 i1, .int .i64 i1] [0, 1, 5, 7, 8] [(0, .slice as_ s_.length cs_), (1, .func (.func 129) #[] #[.pointer (some ⟨bf0, 0, none⟩)]), (5, .int .i64 i1), (7, .int .i64 (s_.length : Int)), (8, .int .i64 i1)] ?_
      refine Zs ?_
      obtain ⟨x2, hx1, hB1⟩ := M.bind_some hB1
      obtain ⟨hx1l, hx1u, hx1⟩ := M.idx_some hx1
      obtain ⟨a1, c1, hc1, r1⟩ := rs_.row hx1
      obtain ⟨x3, hx2, hB1⟩ := M.bind_some hB1
      refine Zg 6 [(0, .slice as_ s_.length cs_), (1, .func (.func 129) #[] #[.pointer (some ⟨bf0, 0, none⟩)]), (5, .int .i64 i1), (7, .int .i64 (s_.length : Int)), (8, .int .i64 i1), (16, .bool x3)] ?_ ?_
      · refine Zb [.func (.func 129) #[] #[.pointer (some ⟨bf0, 0, none⟩)], .slice as_ s_.length cs_, .int .i64 i1] 0 ?_
        refine Zy (.pointer (some (adr as_ (i1.toNat * 1)))) (Zi 22 24 1 (as_) (s_.length) (cs_) .i64 (i1) Tryz.underlying22 (rs_.cell hx1).1 hx1l hx1u) ?_
        refine Zy (.slice a1 x2.length c1) (Zl 24 (adr as_ (i1.toNat * 1)) (.slice a1 x2.length c1) hc1) ?_
        refine Zy (.bool x3) (Y_callq (f := 129) (args := #[.slice a1 x2.length c1, .pointer (some ⟨bf0, 0, none⟩)]) (v := .bool x3) (by kernel_rfl) (w_impl_IsMatrix_1 h x2 a1 c1 r1 f0 af0 cf0 rf0 bf0 vf0 _ _ hx2)) ?_
        exact Zd [0, 1, 5, 7, 8, 16]
      refine Zc (x3) (fun hb2 => ?_) (fun hb2 => ?_)
      · have hB1 := (M.ite_some hB1).1 hb2
        refine Zs ?_
        refine Zq [.int .i64 i1, .int .i64 i1] [4] [(4, .int .i64 i1)] ?_
        have hB1 := M.ret_some hB1
        have gx1 := houty1 _ hB1.symm
        have hF := M.cont_inr' hF gx1
        have hF := M.ret_some hF
        subst hF
        exact Run_ret1 rfl (ResV_tmp (v := .int .i64 i1) (by kernel_rfl)) ⟨rfl, rfl⟩
      · have hB1 := (M.ite_some hB1).2 hb2
        refine Run_skip ?_
        refine Run_blk ?_
        refine Zg 2 [(0, .slice as_ s_.length cs_), (1, .func (.func 129) #[] #[.pointer (some ⟨bf0, 0, none⟩)]), (7, .int .i64 (s_.length : Int)), (8, .int .i64 (i1 + 1))] ?_ ?_
        · refine Zy (.int .i64 (i1 + 1)) (Y_eq (v := .int .i64 (w64 (i1 + 1))) (Y_pure (fun w => by kernel_rfl)) (by rw [w64_eq _ (by omega)])) ?_
          refine Zb [.int .i64 (i1 + 1)] 1 ?_
          exact Zd [0, 1, 7, 8]
        have hB1 := M.ret_some hB1
        have gx1 := hgoy1 _ hB1.symm
        exact Run_again [0, 1, 7, 8] (by kernel_rfl) my1 (Nat.lt_succ_self _) ⟨i1 + 1, (), by omega, gx1, rfl, rfl⟩
    · have gx1 := M.for_end gx1 hb1
      subst gx1
      refine Run_exit (k' := _) rfl ?_
      exact Run_fall [] (by kernel_rfl) ⟨(), rfl, rfl, rfl⟩

set_option maxRecDepth 100000 in
set_option maxHeartbeats 4000000 in
theorem w_slices_ContainsFunc_row_F_impl_IsMatrix_1 (h : Heap) (s_ : List (List Int)) {Ss_ : Bs} (as_ : Option Addr) (cs_ : Nat) (rs_ : Rd cd24 h Ss_ as_ cs_ s_) (f0 : List (List Int)) {Sf0 : Bs} (af0 : Option Addr) (cf0 : Nat) (rf0 : Rd cd24 h Sf0 af0 cf0 f0) (bf0 : Nat) (vf0 : VarAt h bf0 22 [.slice af0 f0.length cf0]) (n : Nat) (r : Bool) (hF : slices_ContainsFunc_row_F_impl_IsMatrix_1 s_ f0 n = some r) :
    Fn Tryz.prog 96 #[.slice as_ s_.length cs_, .func (.func 129) #[] #[.pointer (some ⟨bf0, 0, none⟩)]] h fun v h' => v = .bool r ∧ h' = h := by
  unfold slices_ContainsFunc_row_F_impl_IsMatrix_1 at hF
  refine Fn_enter (args := [.slice as_ s_.length cs_, .func (.func 129) #[] #[.pointer (some ⟨bf0, 0, none⟩)]]) Tryz.func96 rfl (by kernel_rfl) (by kernel_rfl) (fun w0 _ => ?_)
  refine Zs ?_
  refine Zq [.bool false] [0, 1] [(0, .slice as_ s_.length cs_), (1, .func (.func 129) #[] #[.pointer (some ⟨bf0, 0, none⟩)])] ?_
  refine Zs ?_
  obtain ⟨x1, hx1, hF⟩ := M.bind_some hF
  refine Zg 5 [(4, .bool (decide (0 ≤ x1)))] ?_ ?_
  · refine Zb [.slice as_ s_.length cs_, .func (.func 129) #[] #[.pointer (some ⟨bf0, 0, none⟩)]] 0 ?_
    refine Zy (.int .i64 x1) (Y_callq (f := 113) (args := #[.slice as_ s_.length cs_, .func (.func 129) #[] #[.pointer (some ⟨bf0, 0, none⟩)]]) (v := .int .i64 x1) (by kernel_rfl) (w_slices_IndexFunc_row_F_impl_IsMatrix_1 h s_ as_ cs_ rs_ f0 af0 cf0 rf0 bf0 vf0 _ _ hx1)) ?_
    refine Zb [.bool (decide (0 ≤ x1)), .bool (decide (0 ≤ x1))] 3 ?_
    exact Zd [4]
  have hF := M.ret_some hF
  subst hF
  exact Run_ret1 rfl (ResV_tmp (v := .bool (decide (0 ≤ x1))) (by kernel_rfl)) ⟨rfl, rfl⟩

set_option maxRecDepth 100000 in
set_option maxHeartbeats 4000000 in
theorem w_impl_IsMatrix (h : Heap) (a_ : List (List Int)) (aa_ : Option Addr) (ca_ : Nat) (ra_ : Rd cd24 h (Lt h) aa_ ca_ a_) (n : Nat) (r : Bool) (hF : impl_IsMatrix a_ n = some r) :
    Fn Tryz.prog 85 #[.slice aa_ a_.length ca_] h fun v h' => v = .bool r ∧ Hold h h' [] := by
  unfold impl_IsMatrix at hF
  refine Fn_enter (args := [.slice aa_ a_.length ca_]) Tryz.func85 rfl (by kernel_rfl) (by kernel_rfl) (fun w0 _ => ?_)
  have H0 := Hold.init h
  refine Zs ?_
  refine Run_ops ?_
  refine Run_E (by kernel_rfl) ?_
  refine E_box (ty := 22) (cs := [.slice aa_ a_.length ca_]) H0 (fun w => by kernel_rfl) (fun b1 h1 H1 => ?_)
  refine Zr [.bool false] 1 ?_
  refine Run_nil (by kernel_rfl) ?_
  refine Zk [1] [(1, .pointer (some ⟨b1, 0, none⟩))] ?_
  refine Zs ?_
  refine Zs ?_
  obtain ⟨x1, hx1, hF⟩ := M.bind_some hF
  obtain ⟨x2, gx2, hF⟩ := M.bind_some hF
  refine Zg 12 [(1, .pointer (some ⟨b1, 0, none⟩)), (14, .bool x2)] ?_ ?_
  · refine Zy (.slice aa_ a_.length ca_) (Zl 22 (⟨b1, 0, none⟩) (.slice aa_ a_.length ca_) (H1.cell 0 rfl rfl)) ?_
    refine Zb [.int .i64 (a_.length : Int)] 1 ?_
    refine Zy (.bool x1) (Y_callq (f := 128) (args := #[.int .i64 (a_.length : Int), .int .i64 1, .int .i64 10]) (v := .bool x1) (by kernel_rfl) (w_impl_within h1 (a_.length : Int) 1 10 _ _ hx1)) ?_
    refine Zb [.bool (!x1)] 3 ?_
    refine QRun_seq 12 [(1, .pointer (some ⟨b1, 0, none⟩)), (14, .bool x2)] ?_ ?_
    · rcases Bool.eq_false_or_eq_true (!x1) with hb1 | hb1
      · refine QRun_bool (!x1) true (by kernel_rfl) (fun w => by kernel_rfl) hb1 ?_
        have gx2 := M.ret_some ((M.ite_some gx2).1 hb1)
        refine QRun_n (by kernel_rfl) ?_
        refine QRun_n (by kernel_rfl) ?_
        refine QRun_n (by kernel_rfl) ?_
        refine QRun_n (by kernel_rfl) ?_
        refine QRun_n (by kernel_rfl) ?_
        refine QRun_n (by kernel_rfl) ?_
        refine QRun_bool true x2 (by kernel_rfl) (fun w => by kernel_rfl) gx2 ?_
        exact Zd [1, 14]
      · refine QRun_bool (!x1) false (by kernel_rfl) (fun w => by kernel_rfl) hb1 ?_
        have gx2 := (M.ite_some gx2).2 hb1
        obtain ⟨x3, hx2, gx2⟩ := M.bind_some gx2
        obtain ⟨hx2l, hx2u, hx2⟩ := M.idx_some hx2
        obtain ⟨a1, c1, hc1, r1⟩ := ra_.row hx2
        obtain ⟨x4, hx3, gx2⟩ := M.bind_some gx2
        have gx2 := M.ret_some gx2
        refine Zy (.slice aa_ a_.length ca_) (Zl 22 (⟨b1, 0, none⟩) (.slice aa_ a_.length ca_) (H1.cell 0 rfl rfl)) ?_
        refine Zy (.pointer (some (adr aa_ (0 * 1)))) (Zi 22 24 1 (aa_) (a_.length) (ca_) .i64 (0) Tryz.underlying22 ((ra_.at H1.ext).cell hx2).1 hx2l hx2u) ?_
        refine Zy (.slice a1 x3.length c1) (Zl 24 (adr aa_ (0 * 1)) (.slice a1 x3.length c1) (cell_at H1.ext hc1)) ?_
        refine Zb [.int .i64 (x3.length : Int)] 8 ?_
        refine Zy (.bool x4) (Y_callq (f := 128) (args := #[.int .i64 (x3.length : Int), .int .i64 1, .int .i64 10]) (v := .bool x4) (by kernel_rfl) (w_impl_within h1 (x3.length : Int) 1 10 _ _ hx3)) ?_
        refine Zb [.bool (!x4)] 10 ?_
        refine QRun_bool (!x4) x2 (by kernel_rfl) (fun w => by kernel_rfl) gx2 ?_
        exact Zd [1, 14]
    exact Zd [1, 14]
  refine Zc (x2) (fun hb2 => ?_) (fun hb2 => ?_)
  · have hF := (M.ite_some hF).1 hb2
    refine Zs ?_
    refine Zq [.bool false] [2] [(2, .bool false)] ?_
    have hF := M.ret_some hF
    subst hF
    have H2 : Hold h h1 [] := H1.pick [] (by kernel_rfl)
    exact Run_ret1 rfl (ResV_tmp (v := .bool false) (by kernel_rfl)) ⟨rfl, H2⟩
  · have hF := (M.ite_some hF).2 hb2
    refine Run_skip ?_
    refine Zs ?_
    obtain ⟨x5, hx4, hF⟩ := M.bind_some hF
    refine Zg 5 [(2, .bool (!x5))] ?_ ?_
    · refine Zy (.slice aa_ a_.length ca_) (Zl 22 (⟨b1, 0, none⟩) (.slice aa_ a_.length ca_) (H1.cell 0 rfl rfl)) ?_
      refine Zb [.func (.func 129) #[] #[.pointer (some ⟨b1, 0, none⟩)]] 1 ?_
      refine Zy (.bool x5) (Y_callq (f := 96) (args := #[.slice aa_ a_.length ca_, .func (.func 129) #[] #[.pointer (some ⟨b1, 0, none⟩)]]) (v := .bool x5) (by kernel_rfl) (w_slices_ContainsFunc_row_F_impl_IsMatrix_1 h1 a_ aa_ ca_ (ra_.at H1.ext) a_ aa_ ca_ (ra_.at H1.ext) b1 (H1.var 0 rfl) _ _ hx4)) ?_
      refine Zb [.bool (!x5), .bool (!x5)] 3 ?_
      exact Zd [2]
    have hF := M.ret_some hF
    subst hF
    have H3 : Hold h h1 [] := H1.pick [] (by kernel_rfl)
    exact Run_ret1 rfl (ResV_tmp (v := .bool (!x5)) (by kernel_rfl)) ⟨rfl, H3⟩

set_option maxRecDepth 100000 in
set_option maxHeartbeats 4000000 in
theorem w_impl_isSquare (h : Heap) (a_ : List (List Int)) (aa_ : Option Addr) (ca_ : Nat) (ra_ : Rd cd24 h (Lt h) aa_ ca_ a_) (n : Nat) (r : Bool) (hF : impl_isSquare a_ n = some r) :
    Fn Tryz.prog 50 #[.slice aa_ a_.length ca_] h fun v h' => v = .bool r ∧ Hold h h' [] := by
  unfold impl_isSquare at hF
  refine Fn_enter (args := [.slice aa_ a_.length ca_]) Tryz.func50 rfl (by kernel_rfl) (by kernel_rfl) (fun w0 _ => ?_)
  have H0 := Hold.init h
  refine Zs ?_
  refine Zq [.bool false] [0] [(0, .slice aa_ a_.length ca_)] ?_
  refine Zs ?_
  obtain ⟨x1, hx1, hF⟩ := M.bind_some hF
  obtain ⟨x2, gx2, hF⟩ := M.bind_some hF
  refine Run_regC (j := 12) (C := fun x => Hold h x []) (by kernel_rfl) H0 (L' := [(2, .bool x2)]) ?_ (fun h1 H1 => ?_)
  · refine Zb [.slice aa_ a_.length ca_] 0 ?_
    refine Zy (.bool x1) (Y_call (f := 85) (args := #[.slice aa_ a_.length ca_]) (v := .bool x1) (by kernel_rfl) fun hx Hx => (w_impl_IsMatrix hx a_ aa_ ca_ (ra_.at Hx.ext) _ _ hx1).mono fun _ _ ⟨e, H'⟩ => ⟨e, Hx.call H' rfl⟩) ?_
    refine QRun_seq 11 [(13, .bool x2)] ?_ ?_
    · rcases Bool.eq_false_or_eq_true x1 with hb1 | hb1
      · refine QRun_bool x1 true (by kernel_rfl) (fun w => by kernel_rfl) hb1 ?_
        have gx2 := (M.ite_some gx2).1 hb1
        obtain ⟨x3, hx2, gx2⟩ := M.bind_some gx2
        obtain ⟨hx2l, hx2u, hx2⟩ := M.idx_some hx2
        obtain ⟨a1, c1, hc1, r1⟩ := ra_.row hx2
        have gx2 := M.ret_some gx2
        refine Zb [.slice aa_ a_.length ca_, .int .i64 (a_.length : Int), .slice aa_ a_.length ca_] 3 ?_
        refine Zy (.pointer (some (adr aa_ (0 * 1)))) (Y_cls fun hx Hx => (Zi 22 24 1 (aa_) (a_.length) (ca_) .i64 (0) Tryz.underlying22 (ra_.cell hx2).1 hx2l hx2u)) ?_
        refine Zy (.slice a1 x3.length c1) (Y_cls fun hx Hx => (Zl 24 (adr aa_ (0 * 1)) (.slice a1 x3.length c1) (cell_at Hx.ext hc1))) ?_
        refine Zb [.int .i64 (x3.length : Int), .bool ((a_.length : Int) == (x3.length : Int))] 8 ?_
        refine QRun_bool ((a_.length : Int) == (x3.length : Int)) x2 (by kernel_rfl) (fun w => by kernel_rfl) gx2 ?_
        exact Zd [13]
      · refine QRun_bool x1 false (by kernel_rfl) (fun w => by kernel_rfl) hb1 ?_
        have gx2 := M.ret_some ((M.ite_some gx2).2 hb1)
        refine QRun_n (by kernel_rfl) ?_
        refine QRun_n (by kernel_rfl) ?_
        refine QRun_n (by kernel_rfl) ?_
        refine QRun_n (by kernel_rfl) ?_
        refine QRun_n (by kernel_rfl) ?_
        refine QRun_n (by kernel_rfl) ?_
        refine QRun_n (by kernel_rfl) ?_
        refine QRun_bool false x2 (by kernel_rfl) (fun w => by kernel_rfl) gx2 ?_
        exact Zd [13]
    refine Zb [.bool x2] 11 ?_
    exact Zd [2]
  have H2 : Hold h h1 [] := H1
  have hF := M.ret_some hF
  subst hF
  exact Run_ret1 rfl (ResV_tmp (v := .bool x2) (by kernel_rfl)) ⟨rfl, H2⟩

set_option maxRecDepth 100000 in
set_option maxHeartbeats 4000000 in
theorem w_impl_times (h : Heap) (a_ : Int) (b : Int) (n : Nat) (r : Int) (hF : impl_times a_ b n = some r) :
    Fn Tryz.prog 67 #[.int .i64 a_, .int .i64 b] h fun v h' => v = .int .i64 r ∧ h' = h := by
  unfold impl_times at hF
  refine Fn_enter (args := [.int .i64 a_, .int .i64 b]) Tryz.func67 rfl (by kernel_rfl) (by kernel_rfl) (fun w0 _ => ?_)
  refine Zs ?_
  refine Zq [.int .i64 0] [0, 1] [(0, .int .i64 a_), (1, .int .i64 b)] ?_
  refine Zs ?_
  refine Zs ?_
  refine Zg 6 [(0, .int .i64 a_), (1, .int .i64 b), (10, .bool ((a_ == (-1000000000000000)) || (b == (-1000000000000000))))] ?_ ?_
  · refine Zb [.int .i64 a_, .bool (a_ == (-1000000000000000))] 0 ?_
    refine QRun_seq 6 [(0, .int .i64 a_), (1, .int .i64 b), (10, .bool ((a_ == (-1000000000000000)) || (b == (-1000000000000000))))] ?_ ?_
    · rcases Bool.eq_false_or_eq_true (a_ == (-1000000000000000)) with hb1 | hb1
      · refine QRun_bool (a_ == (-1000000000000000)) true (by kernel_rfl) (fun w => by kernel_rfl) hb1 ?_
        refine QRun_n (by kernel_rfl) ?_
        refine QRun_n (by kernel_rfl) ?_
        refine QRun_bool true ((a_ == (-1000000000000000)) || (b == (-1000000000000000))) (by kernel_rfl) (fun w => by kernel_rfl) (by rw [hb1]; rfl) ?_
        exact Zd [0, 1, 10]
      · refine QRun_bool (a_ == (-1000000000000000)) false (by kernel_rfl) (fun w => by kernel_rfl) hb1 ?_
        refine Zb [.int .i64 b, .bool (b == (-1000000000000000))] 3 ?_
        refine QRun_bool (b == (-1000000000000000)) ((a_ == (-1000000000000000)) || (b == (-1000000000000000))) (by kernel_rfl) (fun w => by kernel_rfl) (by rw [hb1]; rfl) ?_
        exact Zd [0, 1, 10]
    exact Zd [0, 1, 10]
  refine Zc ((a_ == (-1000000000000000)) || (b == (-1000000000000000))) (fun hb2 => ?_) (fun hb2 => ?_)
  · have hF := (M.ite_some hF).1 hb2
    refine Zs ?_
    refine Zq [.int .i64 (-1000000000000000)] [4] [(4, .int .i64 (-1000000000000000))] ?_
    have hF := M.ret_some hF
    subst hF
    exact Run_ret1 rfl (ResV_tmp (v := .int .i64 (-1000000000000000)) (by kernel_rfl)) ⟨rfl, rfl⟩
  · have hF := (M.ite_some hF).2 hb2
    refine Run_skip ?_
    refine Zs ?_
    refine Zq [.int .i64 a_, .int .i64 b, .int .i64 (w64 (a_ + b)), .int .i64 (w64 (a_ + b))] [4] [(4, .int .i64 (w64 (a_ + b)))] ?_
    have hF := M.ret_some hF
    subst hF
    exact Run_ret1 rfl (ResV_tmp (v := .int .i64 (w64 (a_ + b))) (by kernel_rfl)) ⟨rfl, rfl⟩

set_option maxRecDepth 100000 in
set_option maxHeartbeats 4000000 in
theorem w_impl_timesVector (h : Heap) (a_ : List (List Int)) (aa_ : Option Addr) (ca_ : Nat) (ra_ : Rd cd24 h (Lt h) aa_ ca_ a_) (x_ : List Int) (ax_ : Option Addr) (cx_ : Nat) (rx_ : Rd cd2 h (Lt h) ax_ cx_ x_) (n : Nat) (r : (List Int)) (hF : impl_timesVector a_ x_ n = some r) :
    Fn Tryz.prog 65 #[.slice aa_ a_.length ca_, .slice ax_ x_.length cx_] h fun v h' => ∃ (a0 : Option Addr) (c0 : Nat), v = .slice a0 r.length c0 ∧ Hold h h' [own cd2 a0 r.length c0 r] := by
  unfold impl_timesVector at hF
  refine Fn_enter (args := [.slice aa_ a_.length ca_, .slice ax_ x_.length cx_]) Tryz.func65 rfl (by kernel_rfl) (by kernel_rfl) (fun w0 _ => ?_)
  have H0 := Hold.init h
  refine Zs ?_
  refine Zq [.slice none 0 0] [0, 1] [(0, .slice aa_ a_.length ca_), (1, .slice ax_ x_.length cx_)] ?_
  refine Zs ?_
  refine Run_ops ?_
  refine Zr [.slice aa_ a_.length ca_, .int .i64 (a_.length : Int)] 0 ?_
  obtain ⟨l1, hl1, hF⟩ := M.bind_some hF
  have hl1 := M.make_some hl1
  refine Run_E (by kernel_rfl) ?_
  refine E_make cd2 0 (kl := .i64) (kc := .i64) H0 cd2_ti Tryz.underlying24 (by decide) cd2_zero (by kernel_rfl) hl1 (fun a1 h1 H1 => ?_)
  refine Zr [.slice a1 l1.length l1.length] 3 ?_
  refine Run_nil (by kernel_rfl) ?_
  refine Zk [0, 1, 5] [(0, .slice aa_ a_.length ca_), (1, .slice ax_ x_.length cx_), (5, .slice a1 l1.length l1.length)] ?_
  refine Zs ?_
  refine Zs ?_
  refine Zq [.slice aa_ a_.length ca_, .int .i64 (a_.length : Int), .int .i64 0] [1, 5, 13, 14, 15] [(1, .slice ax_ x_.length cx_), (5, .slice a1 l1.length l1.length), (13, .slice aa_ a_.length ca_), (14, .int .i64 (a_.length : Int)), (15, .int .i64 0)] ?_
  obtain ⟨x1, gx1, hF⟩ := M.bind_some hF
  obtain ⟨hloy1, hhiy1, gx1⟩ := M.for_start gx1
  refine Run_join (fun L' h' => L' = [(5, .slice a1 l1.length l1.length)] ∧ Hold h h' [own cd2 a1 l1.length l1.length x1]) ?_ ?_
  · rintro _ h3 ⟨rfl, H3⟩
    refine Zs ?_
    refine Zq [.slice a1 l1.length l1.length, .slice a1 l1.length l1.length] [4] [(4, .slice a1 l1.length l1.length)] ?_
    have hF := M.ret_some hF
    subst hF
    have H10 := H3.norm
    exact Run_ret1 rfl (ResV_tmp (v := .slice a1 l1.length l1.length) (by kernel_rfl)) ⟨a1, l1.length, (by simp only [(H3.len 0 rfl)]), H10⟩
  · refine Run_block ?_
    refine Zk [1, 5, 13, 14, 15] [(1, .slice ax_ x_.length cx_), (5, .slice a1 l1.length l1.length), (13, .slice aa_ a_.length ca_), (14, .int .i64 (a_.length : Int)), (15, .int .i64 0)] ?_
    refine Run_loop (fun m L' h' => ∃ (i1 : Int) (s1 : (List Int)), 0 ≤ i1 ∧ M.forN (a_.length : Int) _ _ n m i1 s1 = some x1 ∧ L' = [(1, .slice ax_ x_.length cx_), (5, .slice a1 l1.length l1.length), (13, .slice aa_ a_.length ca_), (14, .int .i64 (a_.length : Int)), (15, .int .i64 i1)] ∧ Hold h h' [own cd2 a1 l1.length l1.length s1]) ((a_.length : Int) - 0 : Int).toNat ⟨0, l1, Int.le_refl _, gx1, rfl, H1⟩ ?_
    rintro my1 _ h2 ⟨i1, s1, hloy1', gx1, rfl, H2⟩
    refine Zs ?_
    refine Zq [.bool (decide (i1 < (a_.length : Int)))] [1, 5, 13, 14, 15, 16] [(1, .slice ax_ x_.length cx_), (5, .slice a1 l1.length l1.length), (13, .slice aa_ a_.length ca_), (14, .int .i64 (a_.length : Int)), (15, .int .i64 i1), (16, .bool (decide (i1 < (a_.length : Int))))] ?_
    refine Zs ?_
    refine Zc (decide (i1 < (a_.length : Int))) (fun hb1 => ?_) (fun hb1 => ?_)
    · obtain ⟨my1, y1, rfl, hB1, hgoy1, houty1⟩ := M.for_go gx1 hb1
      have hlty1 := of_decide_eq_true hb1
      refine Run_skip ?_
      refine Zs ?_
      refine Run_block ?_
      refine Zs ?_
      obtain ⟨x2, hx1, hB1⟩ := M.bind_some hB1
      obtain ⟨hx1l, hx1u, hx1⟩ := M.idx_some hx1
      obtain ⟨a2, c1, hc1, r1⟩ := ra_.row hx1
      refine Zg 5 [(1, .slice ax_ x_.length cx_), (5, .slice a1 l1.length l1.length), (6, .int .i64 i1), (7, .slice a2 x2.length c1), (13, .slice aa_ a_.length ca_), (14, .int .i64 (a_.length : Int)), (15, .int .i64 i1)] ?_ ?_
      · refine Zb [.int .i64 i1] 0 ?_
        refine Zy (.pointer (some (adr aa_ (i1.toNat * 1)))) (Zi 22 24 1 (aa_) (a_.length) (ca_) .i64 (i1) Tryz.underlying22 ((ra_.at H2.ext).cell hx1).1 hx1l hx1u) ?_
        refine Zy (.slice a2 x2.length c1) (Zl 24 (adr aa_ (i1.toNat * 1)) (.slice a2 x2.length c1) (cell_at H2.ext hc1)) ?_
        refine Zb [.int .i64 i1, .slice a2 x2.length c1] 3 ?_
        exact Zd [1, 5, 6, 7, 13, 14, 15]
      refine Zs ?_
      refine Run_ops ?_
      obtain ⟨x3, hx2, hB1⟩ := M.bind_some hB1
      obtain ⟨hx2l, hx2u, hx2⟩ := M.idx_some hx2
      refine Zr [.slice a1 l1.length l1.length, .int .i64 i1] 0 ?_
      refine Zz (.pointer (some (adr a1 (i1.toNat * 1)))) (Zi 24 2 1 (a1) (l1.length) (l1.length) .i64 (i1) Tryz.underlying24 ((H2.rd 0 rfl).cell hx2).1 hx2l (by rw [← (H2.len 0 rfl)]; exact hx2u)) ?_
      obtain ⟨l2, hu1, hB1⟩ := M.bind_some hB1
      have hu1 := M.upd_some hu1
      refine Run_E (by kernel_rfl) ?_
      refine E_put (C := cd2) (t := 2) (sz := 1) (j := i1) (x := (-1000000000000000)) (v := .int .i64 (-1000000000000000)) H2 cd2_flat (by kernel_rfl) rfl (cd2_own _) (by kernel_rfl) hu1 (fun h4 H4 => ?_)
      refine Run_nil (by kernel_rfl) ?_
      refine Zk [1, 5, 6, 7, 13, 14, 15] [(1, .slice ax_ x_.length cx_), (5, .slice a1 l1.length l1.length), (6, .int .i64 i1), (7, .slice a2 x2.length c1), (13, .slice aa_ a_.length ca_), (14, .int .i64 (a_.length : Int)), (15, .int .i64 i1)] ?_
      refine Zs ?_
      refine Zq [.slice a2 x2.length c1, .int .i64 (x2.length : Int), .int .i64 0] [1, 5, 6, 13, 14, 15, 23, 24, 25] [(1, .slice ax_ x_.length cx_), (5, .slice a1 l1.length l1.length), (6, .int .i64 i1), (13, .slice aa_ a_.length ca_), (14, .int .i64 (a_.length : Int)), (15, .int .i64 i1), (23, .slice a2 x2.length c1), (24, .int .i64 (x2.length : Int)), (25, .int .i64 0)] ?_
      obtain ⟨x4, gx4, hB1⟩ := M.bind_some hB1
      obtain ⟨hloy2, hhiy2, gx4⟩ := M.for_start gx4
      refine Run_join (fun L' h' => L' = [(1, .slice ax_ x_.length cx_), (5, .slice a1 l1.length l1.length), (13, .slice aa_ a_.length ca_), (14, .int .i64 (a_.length : Int)), (15, .int .i64 i1)] ∧ Hold h h' [own cd2 a1 l1.length l1.length x4]) ?_ ?_
      · rintro _ h6 ⟨rfl, H6⟩
        refine Run_blk ?_
        refine Zg 2 [(1, .slice ax_ x_.length cx_), (5, .slice a1 l1.length l1.length), (13, .slice aa_ a_.length ca_), (14, .int .i64 (a_.length : Int)), (15, .int .i64 (i1 + 1))] ?_ ?_
        · refine Zy (.int .i64 (i1 + 1)) (Y_eq (v := .int .i64 (w64 (i1 + 1))) (Y_pure (fun w => by kernel_rfl)) (by rw [w64_eq _ (by omega)])) ?_
          refine Zb [.int .i64 (i1 + 1)] 1 ?_
          exact Zd [1, 5, 13, 14, 15]
        have hB1 := M.ret_some hB1
        have gx1 := hgoy1 _ hB1.symm
        exact Run_again [1, 5, 13, 14, 15] (by kernel_rfl) my1 (Nat.lt_succ_self _) ⟨i1 + 1, x4, by omega, gx1, rfl, H6⟩
      · refine Run_block ?_
        refine Zk [1, 5, 6, 13, 14, 15, 23, 24, 25] [(1, .slice ax_ x_.length cx_), (5, .slice a1 l1.length l1.length), (6, .int .i64 i1), (13, .slice aa_ a_.length ca_), (14, .int .i64 (a_.length : Int)), (15, .int .i64 i1), (23, .slice a2 x2.length c1), (24, .int .i64 (x2.length : Int)), (25, .int .i64 0)] ?_
        refine Run_loop (fun m L' h' => ∃ (i2 : Int) (s2 : (List Int)), 0 ≤ i2 ∧ M.forN (x2.length : Int) _ _ n m i2 s2 = some x4 ∧ L' = [(1, .slice ax_ x_.length cx_), (5, .slice a1 l1.length l1.length), (6, .int .i64 i1), (13, .slice aa_ a_.length ca_), (14, .int .i64 (a_.length : Int)), (15, .int .i64 i1), (23, .slice a2 x2.length c1), (24, .int .i64 (x2.length : Int)), (25, .int .i64 i2)] ∧ Hold h h' [own cd2 a1 l1.length l1.length s2]) ((x2.length : Int) - 0 : Int).toNat ⟨0, l2, Int.le_refl _, gx4, rfl, H4⟩ ?_
        rintro my2 _ h5 ⟨i2, s2, hloy2', gx4, rfl, H5⟩
        refine Zs ?_
        refine Zq [.bool (decide (i2 < (x2.length : Int)))] [1, 5, 6, 13, 14, 15, 23, 24, 25, 26] [(1, .slice ax_ x_.length cx_), (5, .slice a1 l1.length l1.length), (6, .int .i64 i1), (13, .slice aa_ a_.length ca_), (14, .int .i64 (a_.length : Int)), (15, .int .i64 i1), (23, .slice a2 x2.length c1), (24, .int .i64 (x2.length : Int)), (25, .int .i64 i2), (26, .bool (decide (i2 < (x2.length : Int))))] ?_
        refine Zs ?_
        refine Zc (decide (i2 < (x2.length : Int))) (fun hb2 => ?_) (fun hb2 => ?_)
        · obtain ⟨my2, y2, rfl, hB2, hgoy2, houty2⟩ := M.for_go gx4 hb2
          have hlty2 := of_decide_eq_true hb2
          refine Run_skip ?_
          refine Zs ?_
          refine Run_block ?_
          refine Zs ?_
          obtain ⟨x5, hx3, hB2⟩ := M.bind_some hB2
          obtain ⟨hx3l, hx3u, hx3⟩ := M.idx_some hx3
          refine Zg 5 [(1, .slice ax_ x_.length cx_), (5, .slice a1 l1.length l1.length), (6, .int .i64 i1), (8, .int .i64 i2), (9, .int .i64 x5), (13, .slice aa_ a_.length ca_), (14, .int .i64 (a_.length : Int)), (15, .int .i64 i1), (23, .slice a2 x2.length c1), (24, .int .i64 (x2.length : Int)), (25, .int .i64 i2)] ?_ ?_
          · refine Zb [.int .i64 i2] 0 ?_
            refine Zy (.pointer (some (adr a2 (i2.toNat * 1)))) (Zi 24 2 1 (a2) (x2.length) (c1) .i64 (i2) Tryz.underlying24 ((r1.at H5.ext).cell hx3).1 hx3l hx3u) ?_
            refine Zy (.int .i64 x5) (Zl 2 (adr a2 (i2.toNat * 1)) (.int .i64 x5) (cd2_cell (r1.at H5.ext) hx3)) ?_
            refine Zb [.int .i64 i2, .int .i64 x5] 3 ?_
            exact Zd [1, 5, 6, 8, 9, 13, 14, 15, 23, 24, 25]
          obtain ⟨x6, hx4, hB2⟩ := M.bind_some hB2
          obtain ⟨hx4l, hx4u, hx4⟩ := M.idx_some hx4
          obtain ⟨x7, hx5, hB2⟩ := M.bind_some hB2
          obtain ⟨hx5l, hx5u, hx5⟩ := M.idx_some hx5
          obtain ⟨x8, hx6, hB2⟩ := M.bind_some hB2
          obtain ⟨x9, hx7, hB2⟩ := M.bind_some hB2
          obtain ⟨hx7l, hx7u, hx7⟩ := M.idx_some hx7
          refine Run_D (fun x => Hold h x [own cd2 a1 l1.length l1.length s2]) (fun x => Hold h x [own cd2 a1 l1.length l1.length s2]) mixed (by kernel_rfl) H5 Hold.stable (fun x Hy => (show Hold h x [own cd2 a1 l1.length l1.length s2] from Hy).pick [0] (by kernel_rfl)) ?_
          refine DR_b 11 [.slice a1 l1.length l1.length, .int .i64 i1, .slice a1 l1.length l1.length, .int .i64 i1] 0 (by kernel_rfl) (by kernel_rfl) (by kernel_rfl) (fun w => by kernel_rfl) ?_
          refine DR_y 10 (i := 4) (.pointer (some (adr a1 (i1.toNat * 1)))) (by kernel_rfl) (by kernel_rfl) (by kernel_rfl) (fun hx Hx => (YE.of (Zi 24 2 1 (a1) (l1.length) (l1.length) .i64 (i1) Tryz.underlying24 ((H5.rd 0 rfl).cell hx4).1 hx4l (by rw [← (H5.len 0 rfl)]; exact hx4u)))) ?_
          refine DR_y 9 (i := 5) (.int .i64 x6) (by kernel_rfl) (by kernel_rfl) (by kernel_rfl) (fun hx Hx => (YE.of (Zl 2 (adr a1 (i1.toNat * 1)) (.int .i64 x6) (cd2_cell (Hx.rd 0 rfl) hx4)))) ?_
          refine DR_b 6 [.int .i64 x5, .slice ax_ x_.length cx_, .int .i64 i2] 6 (by kernel_rfl) (by kernel_rfl) (by kernel_rfl) (fun w => by kernel_rfl) ?_
          refine DR_y 5 (i := 9) (.pointer (some (adr ax_ (i2.toNat * 1)))) (by kernel_rfl) (by kernel_rfl) (by kernel_rfl) (fun hx Hx => (YE.of (Zi 24 2 1 (ax_) (x_.length) (cx_) .i64 (i2) Tryz.underlying24 ((rx_.at H5.ext).cell hx5).1 hx5l hx5u))) ?_
          refine DR_y 4 (i := 10) (.int .i64 x7) (by kernel_rfl) (by kernel_rfl) (by kernel_rfl) (fun hx Hx => (YE.of (Zl 2 (adr ax_ (i2.toNat * 1)) (.int .i64 x7) (cd2_cell (rx_.at Hx.ext) hx5)))) ?_
          refine DR_y 3 (i := 11) (.int .i64 x8) (by kernel_rfl) (by kernel_rfl) (by kernel_rfl) (fun hx Hx => (YE.of (Y_callq (f := 67) (args := #[.int .i64 x5, .int .i64 x7]) (v := .int .i64 x8) (by kernel_rfl) (w_impl_times hx x5 x7 _ _ hx6)))) ?_
          refine DR_b 2 [.int .i64 (mx x6 x8)] 12 (by kernel_rfl) (by kernel_rfl) (by kernel_rfl) (fun w => by kernel_rfl) ?_
          refine DR_y 1 (i := 13) (.pointer (some (adr a1 (i1.toNat * 1)))) (by kernel_rfl) (by kernel_rfl) (by kernel_rfl) (fun hx Hx => (YE.of (Zi 24 2 1 (a1) (l1.length) (l1.length) .i64 (i1) Tryz.underlying24 ((H5.rd 0 rfl).cell hx7).1 hx7l (by rw [← (H5.len 0 rfl)]; exact hx7u)))) ?_
          refine DR_tail (i := 14) (by kernel_rfl) (by kernel_rfl) (by kernel_rfl) (fun h7 H7 => ?_)
          have H8 : Hold h h7 [own cd2 a1 l1.length l1.length s2] := H7
          obtain ⟨l3, hu2, hB2⟩ := M.bind_some hB2
          have hu2 := M.upd_some hu2
          refine Run_E (by kernel_rfl) ?_
          refine E_put (C := cd2) (t := 2) (sz := 1) (j := i1) (x := (mx x6 x8)) (v := .int .i64 (mx x6 x8)) H8 cd2_flat (by kernel_rfl) rfl (cd2_own _) (by kernel_rfl) hu2 (fun h8 H9 => ?_)
          refine Run_nil (by kernel_rfl) ?_
          refine Zk [1, 5, 6, 13, 14, 15, 23, 24, 25] [(1, .slice ax_ x_.length cx_), (5, .slice a1 l1.length l1.length), (6, .int .i64 i1), (13, .slice aa_ a_.length ca_), (14, .int .i64 (a_.length : Int)), (15, .int .i64 i1), (23, .slice a2 x2.length c1), (24, .int .i64 (x2.length : Int)), (25, .int .i64 i2)] ?_
          refine Run_blk ?_
          refine Zg 2 [(1, .slice ax_ x_.length cx_), (5, .slice a1 l1.length l1.length), (6, .int .i64 i1), (13, .slice aa_ a_.length ca_), (14, .int .i64 (a_.length : Int)), (15, .int .i64 i1), (23, .slice a2 x2.length c1), (24, .int .i64 (x2.length : Int)), (25, .int .i64 (i2 + 1))] ?_ ?_
          · refine Zy (.int .i64 (i2 + 1)) (Y_eq (v := .int .i64 (w64 (i2 + 1))) (Y_pure (fun w => by kernel_rfl)) (by rw [w64_eq _ (by omega)])) ?_
            refine Zb [.int .i64 (i2 + 1)] 1 ?_
            exact Zd [1, 5, 6, 13, 14, 15, 23, 24, 25]
          have hB2 := M.ret_some hB2
          have gx4 := hgoy2 _ hB2.symm
          exact Run_again [1, 5, 6, 13, 14, 15, 23, 24, 25] (by kernel_rfl) my2 (Nat.lt_succ_self _) ⟨i2 + 1, l3, by omega, gx4, rfl, H9⟩
        · have gx4 := M.for_end gx4 hb2
          subst gx4
          refine Run_exit (k' := _) rfl ?_
          exact Run_fall [1, 5, 13, 14, 15] (by kernel_rfl) ⟨rfl, H5⟩
    · have gx1 := M.for_end gx1 hb1
      subst gx1
      refine Run_exit (k' := _) rfl ?_
      exact Run_fall [5] (by kernel_rfl) ⟨rfl, H2⟩

set_option maxRecDepth 100000 in
set_option maxHeartbeats 4000000 in
theorem w_impl_absOf (h : Heap) (n_ : Int) (n : Nat) (r : Int) (hF : impl_absOf n_ n = some r) :
    Fn Tryz.prog 90 #[.int .i64 n_] h fun v h' => v = .int .i64 r ∧ h' = h := by
  unfold impl_absOf at hF
  refine Fn_enter (args := [.int .i64 n_]) Tryz.func90 rfl (by kernel_rfl) (by kernel_rfl) (fun w0 _ => ?_)
  refine Zs ?_
  refine Zq [.int .i64 0] [0] [(0, .int .i64 n_)] ?_
  refine Zs ?_
  refine Zs ?_
  refine Zq [.int .i64 n_, .bool (decide (n_ < 0))] [0, 4] [(0, .int .i64 n_), (4, .bool (decide (n_ < 0)))] ?_
  refine Zc (decide (n_ < 0)) (fun hb1 => ?_) (fun hb1 => ?_)
  · have hF := (M.ite_some hF).1 hb1
    refine Zs ?_
    refine Zq [.int .i64 n_, .int .i64 (w64 (0 - n_)), .int .i64 (w64 (0 - n_))] [2] [(2, .int .i64 (w64 (0 - n_)))] ?_
    have hF := M.ret_some hF
    subst hF
    exact Run_ret1 rfl (ResV_tmp (v := .int .i64 (w64 (0 - n_))) (by kernel_rfl)) ⟨rfl, rfl⟩
  · have hF := (M.ite_some hF).2 hb1
    refine Run_skip ?_
    refine Zs ?_
    refine Zq [.int .i64 n_, .int .i64 n_] [2] [(2, .int .i64 n_)] ?_
    have hF := M.ret_some hF
    subst hF
    exact Run_ret1 rfl (ResV_tmp (v := .int .i64 n_) (by kernel_rfl)) ⟨rfl, rfl⟩

set_option maxRecDepth 100000 in
set_option maxHeartbeats 4000000 in
theorem w_impl_divisorOf (h : Heap) (a_ : Int) (b : Int) (n : Nat) (r : Int) (hF : impl_divisorOf a_ b n = some r) :
    Fn Tryz.prog 89 #[.int .i64 a_, .int .i64 b] h fun v h' => v = .int .i64 r ∧ h' = h := by
  unfold impl_divisorOf at hF
  refine Fn_enter (args := [.int .i64 a_, .int .i64 b]) Tryz.func89 rfl (by kernel_rfl) (by kernel_rfl) (fun w0 _ => ?_)
  refine Zs ?_
  refine Zq [.int .i64 0] [0, 1] [(0, .int .i64 a_), (1, .int .i64 b)] ?_
  refine Zs ?_
  obtain ⟨x1, gx1, hF⟩ := M.bind_some hF
  refine Run_join (fun L' h' => L' = [(0, .int .i64 x1.1)] ∧ h = h') ?_ ?_
  · rintro _ _ ⟨rfl, rfl⟩
    refine Zs ?_
    refine Zq [.int .i64 x1.1, .int .i64 x1.1] [4] [(4, .int .i64 x1.1)] ?_
    have hF := M.ret_some hF
    subst hF
    exact Run_ret1 rfl (ResV_tmp (v := .int .i64 x1.1) (by kernel_rfl)) ⟨rfl, rfl⟩
  · refine Run_block ?_
    refine Zk [0, 1] [(0, .int .i64 a_), (1, .int .i64 b)] ?_
    refine Run_loop (fun m L' h' => ∃ (s1 : Int × Int), M.loopN _ n m s1 = some x1 ∧ L' = [(0, .int .i64 s1.1), (1, .int .i64 s1.2)] ∧ h = h') n ⟨(a_, b), gx1, rfl, rfl⟩ ?_
    rintro my1 _ _ ⟨s1, gx1, rfl, rfl⟩
    obtain ⟨my1, y1, rfl, hB1, hgoy1, houty1⟩ := M.loop_some gx1
    refine Zs ?_
    refine Zs ?_
    refine Zq [.int .i64 s1.2, .bool (decide (0 < s1.2))] [0, 1, 6] [(0, .int .i64 s1.1), (1, .int .i64 s1.2), (6, .bool (decide (0 < s1.2)))] ?_
    refine Zc (decide (0 < s1.2)) (fun hb1 => ?_) (fun hb1 => ?_)
    · have hB1 := (M.ite_some hB1).1 hb1
      refine Run_skip ?_
      refine Run_block ?_
      obtain ⟨u1, hz1, hB1⟩ := M.bind_some hB1
      have hz1 := M.guard_some hz1
      refine Run_draw 6 mixed (by kernel_rfl) (by kernel_rfl) (L' := [(0, .int .i64 s1.2), (1, .int .i64 (s1.1.tmod s1.2))]) ?_ ?_
      · refine Zb [.int .i64 s1.2, .int .i64 s1.1, .int .i64 s1.2] 0 ?_
        refine Zy (.int .i64 (s1.1.tmod s1.2)) (Y_rem (op := .rem) (k := .i64) (x := s1.1) (y := s1.2) (by kernel_rfl) hz1) ?_
        refine Zb [.int .i64 s1.2, .int .i64 (s1.1.tmod s1.2)] 4 ?_
        exact Zd [0, 1]
      refine Run_blk ?_
      have hB1 := M.ret_some hB1
      have gx1 := hgoy1 _ hB1.symm
      exact Run_again [0, 1] (by kernel_rfl) my1 (Nat.lt_succ_self _) ⟨(s1.2, (s1.1.tmod s1.2)), gx1, rfl, rfl⟩
    · have hB1 := (M.ite_some hB1).2 hb1
      refine Run_exit (k' := _) rfl ?_
      have hB1 := M.ret_some hB1
      have gx1 := houty1 _ hB1.symm
      subst gx1
      exact Run_fall [0] (by kernel_rfl) ⟨rfl, rfl⟩

set_option maxRecDepth 100000 in
set_option maxHeartbeats 4000000 in
theorem w_impl_ratioOf (h : Heap) (num : Int) (den : Int) (n : Nat) (r : TRatio) (hF : impl_ratioOf num den n = some r) :
    Fn Tryz.prog 53 #[.int .i64 num, .int .i64 den] h fun v h' => v = .agg #[.int .i64 r.Num, .int .i64 r.Den] ∧ Hold h h' [] := by
  unfold impl_ratioOf at hF
  refine Fn_enter (args := [.int .i64 num, .int .i64 den]) Tryz.func53 rfl (by kernel_rfl) (by kernel_rfl) (fun w0 _ => ?_)
  have H0 := Hold.init h
  refine Zs ?_
  refine Run_ops ?_
  refine Run_E (by kernel_rfl) ?_
  refine E_box (ty := 44) (cs := [.int .i64 0, .int .i64 0]) H0 (fun w => by kernel_rfl) (fun b1 h1 H1 => ?_)
  refine Run_nil (by kernel_rfl) ?_
  refine Zk [0, 1, 4] [(0, .int .i64 num), (1, .int .i64 den), (4, .pointer (some ⟨b1, 0, none⟩))] ?_
  refine Zs ?_
  refine Zs ?_
  refine Zq [.int .i64 den, .bool (decide (den < 0))] [0, 1, 4, 7] [(0, .int .i64 num), (1, .int .i64 den), (4, .pointer (some ⟨b1, 0, none⟩)), (7, .bool (decide (den < 0)))] ?_
  obtain ⟨s1, gs1, hF⟩ := M.bind_some hF
  refine Run_join (fun L' h' => L' = [(0, .int .i64 s1.1), (1, .int .i64 s1.2), (4, .pointer (some ⟨b1, 0, none⟩))] ∧ Hold h h' [box b1 44 [.int .i64 0, .int .i64 0]]) ?_ ?_
  · rintro _ h2 ⟨rfl, H2⟩
    refine Zs ?_
    obtain ⟨x1, hx1, hF⟩ := M.bind_some hF
    obtain ⟨x2, hx2, hF⟩ := M.bind_some hF
    refine Zg 5 [(0, .int .i64 s1.1), (1, .int .i64 s1.2), (4, .pointer (some ⟨b1, 0, none⟩)), (5, .int .i64 x2)] ?_ ?_
    · refine Zb [.int .i64 s1.1] 0 ?_
      refine Zy (.int .i64 x1) (Y_callq (f := 90) (args := #[.int .i64 s1.1]) (v := .int .i64 x1) (by kernel_rfl) (w_impl_absOf h2 s1.1 _ _ hx1)) ?_
      refine Zb [.int .i64 s1.2] 2 ?_
      refine Zy (.int .i64 x2) (Y_callq (f := 89) (args := #[.int .i64 x1, .int .i64 s1.2]) (v := .int .i64 x2) (by kernel_rfl) (w_impl_divisorOf h2 x1 s1.2 _ _ hx2)) ?_
      refine Zb [.int .i64 x2] 4 ?_
      exact Zd [0, 1, 4, 5]
    refine Zs ?_
    obtain ⟨u1, hz1, hF⟩ := M.bind_some hF
    have hz1 := M.guard_some hz1
    obtain ⟨u2, hz2, hF⟩ := M.bind_some hF
    have hz2 := M.guard_some hz2
    refine Run_D (fun x => Hold h x [box b1 44 [.int .i64 0, .int .i64 0]]) (fun x => Hold h x [box b1 44 [.int .i64 0, .int .i64 0]]) mixed (by kernel_rfl) H2 Hold.stable (fun x Hy => (show Hold h x [box b1 44 [.int .i64 0, .int .i64 0]] from Hy).pick [0] (by kernel_rfl)) ?_
    refine DR_b 6 [.int .i64 s1.1, .int .i64 x2] 0 (by kernel_rfl) (by kernel_rfl) (by kernel_rfl) (fun w => by kernel_rfl) ?_
    refine DR_y 5 (i := 2) (.int .i64 (w64 (s1.1.tdiv x2))) (by kernel_rfl) (by kernel_rfl) (by kernel_rfl) (fun hx Hx => (YE.of (Y_quo (op := .quo) (k := .i64) (x := s1.1) (y := x2) (by kernel_rfl) hz1))) ?_
    refine DR_b 3 [.int .i64 s1.2, .int .i64 x2] 3 (by kernel_rfl) (by kernel_rfl) (by kernel_rfl) (fun w => by kernel_rfl) ?_
    refine DR_y 2 (i := 5) (.int .i64 (w64 (s1.2.tdiv x2))) (by kernel_rfl) (by kernel_rfl) (by kernel_rfl) (fun hx Hx => (YE.of (Y_quo (op := .quo) (k := .i64) (x := s1.2) (y := x2) (by kernel_rfl) hz2))) ?_
    refine DR_b 1 [.agg #[.int .i64 (w64 (s1.1.tdiv x2)), .int .i64 (w64 (s1.2.tdiv x2))]] 6 (by kernel_rfl) (by kernel_rfl) (by kernel_rfl) (fun w => by kernel_rfl) ?_
    refine DR_tail (i := 7) (by kernel_rfl) (by kernel_rfl) (by kernel_rfl) (fun h3 H3 => ?_)
    have H4 : Hold h h3 [box b1 44 [.int .i64 0, .int .i64 0]] := H3
    refine Run_E (by kernel_rfl) ?_
    refine E_bput (t := 44) (off := 0) (us := [.int .i64 (w64 (s1.1.tdiv x2)), .int .i64 (w64 (s1.2.tdiv x2))]) (v := .agg #[.int .i64 (w64 (s1.1.tdiv x2)), .int .i64 (w64 (s1.2.tdiv x2))]) H4 (by kernel_rfl) (by kernel_rfl) rfl (by kernel_rfl) rfl (fun h4 H5 => ?_)
    refine Run_nil (by kernel_rfl) ?_
    refine Zk [4] [(4, .pointer (some ⟨b1, 0, none⟩))] ?_
    have hF := M.ret_some hF
    subst hF
    have H6 : Hold h h4 [] := H5.pick [] (by kernel_rfl)
    exact Run_ret1 rfl (ResV_cell (n := 2) (cs := [.int .i64 (w64 (s1.1.tdiv x2)), .int .i64 (w64 (s1.2.tdiv x2))]) (by kernel_rfl) (fun w => by kernel_rfl) (by kernel_rfl) rfl (H5.cells (n := 2) (off := 0) 0 rfl rfl)) ⟨rfl, H6⟩
  · refine Zc (decide (den < 0)) (fun hb1 => ?_) (fun hb1 => ?_)
    · have gs1 := (M.ite_some gs1).1 hb1
      refine Zq [.int .i64 num, .int .i64 (w64 (0 - num)), .int .i64 den, .int .i64 (w64 (0 - den)), .int .i64 (w64 (0 - num)), .int .i64 (w64 (0 - den))] [0, 1, 4] [(0, .int .i64 (w64 (0 - num))), (1, .int .i64 (w64 (0 - den))), (4, .pointer (some ⟨b1, 0, none⟩))] ?_
      have gs1 := M.ret_some gs1
      subst gs1
      exact Run_fall [0, 1, 4] (by kernel_rfl) ⟨rfl, H1⟩
    · have gs1 := (M.ite_some gs1).2 hb1
      refine Run_skip ?_
      have gs1 := M.ret_some gs1
      subst gs1
      exact Run_fall [0, 1, 4] (by kernel_rfl) ⟨rfl, H1⟩

set_option maxRecDepth 100000 in
set_option maxHeartbeats 4000000 in
theorem w_cmp_isNaN_i (h : Heap) (x_ : Int) (n : Nat) (r : Bool) (hF : cmp_isNaN_i x_ n = some r) :
    Fn Tryz.prog 151 #[.int .i64 x_] h fun v h' => v = .bool r ∧ h' = h := by
  unfold cmp_isNaN_i at hF
  refine Fn_enter (args := [.int .i64 x_]) Tryz.func151 rfl (by kernel_rfl) (by kernel_rfl) (fun w0 _ => ?_)
  refine Zs ?_
  refine Zq [.bool false] [0] [(0, .int .i64 x_)] ?_
  refine Zs ?_
  refine Zq [.int .i64 x_, .int .i64 x_, .bool (x_ != x_), .bool (x_ != x_)] [2] [(2, .bool (x_ != x_))] ?_
  have hF := M.ret_some hF
  subst hF
  exact Run_ret1 rfl (ResV_tmp (v := .bool (x_ != x_)) (by kernel_rfl)) ⟨rfl, rfl⟩

set_option maxRecDepth 100000 in
set_option maxHeartbeats 4000000 in
theorem w_cmp_Compare_i (h : Heap) (x_ : Int) (y_ : Int) (n : Nat) (r : Int) (hF : cmp_Compare_i x_ y_ n = some r) :
    Fn Tryz.prog 130 #[.int .i64 x_, .int .i64 y_] h fun v h' => v = .int .i64 r ∧ h' = h := by
  unfold cmp_Compare_i at hF
  refine Fn_enter (args := [.int .i64 x_, .int .i64 y_]) Tryz.func130 rfl (by kernel_rfl) (by kernel_rfl) (fun w0 _ => ?_)
  refine Zs ?_
  refine Zq [.int .i64 0] [0, 1] [(0, .int .i64 x_), (1, .int .i64 y_)] ?_
  refine Zs ?_
  obtain ⟨x1, hx1, hF⟩ := M.bind_some hF
  refine Zg 3 [(0, .int .i64 x_), (1, .int .i64 y_), (5, .bool x1)] ?_ ?_
  · refine Zb [.int .i64 x_] 0 ?_
    refine Zy (.bool x1) (Y_callq (f := 151) (args := #[.int .i64 x_]) (v := .bool x1) (by kernel_rfl) (w_cmp_isNaN_i h x_ _ _ hx1)) ?_
    refine Zb [.bool x1] 2 ?_
    exact Zd [0, 1, 5]
  refine Zs ?_
  obtain ⟨x2, hx2, hF⟩ := M.bind_some hF
  refine Zg 3 [(0, .int .i64 x_), (1, .int .i64 y_), (5, .bool x1), (6, .bool x2)] ?_ ?_
  · refine Zb [.int .i64 y_] 0 ?_
    refine Zy (.bool x2) (Y_callq (f := 151) (args := #[.int .i64 y_]) (v := .bool x2) (by kernel_rfl) (w_cmp_isNaN_i h y_ _ _ hx2)) ?_
    refine Zb [.bool x2] 2 ?_
    exact Zd [0, 1, 5, 6]
  refine Zs ?_
  refine Zs ?_
  refine Zq [.bool x1] [0, 1, 6, 11] [(0, .int .i64 x_), (1, .int .i64 y_), (6, .bool x2), (11, .bool x1)] ?_
  refine Zc (x1) (fun hb1 => ?_) (fun hb1 => ?_)
  · have hF := (M.ite_some hF).1 hb1
    refine Zs ?_
    refine Zs ?_
    refine Zq [.bool x2] [12] [(12, .bool x2)] ?_
    refine Zc (x2) (fun hb2 => ?_) (fun hb2 => ?_)
    · have hF := (M.ite_some hF).1 hb2
      refine Zs ?_
      refine Zq [.int .i64 0] [4] [(4, .int .i64 0)] ?_
      have hF := M.ret_some hF
      subst hF
      exact Run_ret1 rfl (ResV_tmp (v := .int .i64 0) (by kernel_rfl)) ⟨rfl, rfl⟩
    · have hF := (M.ite_some hF).2 hb2
      refine Run_skip ?_
      refine Zs ?_
      refine Zq [.int .i64 (-1)] [4] [(4, .int .i64 (-1))] ?_
      have hF := M.ret_some hF
      subst hF
      exact Run_ret1 rfl (ResV_tmp (v := .int .i64 (-1)) (by kernel_rfl)) ⟨rfl, rfl⟩
  · have hF := (M.ite_some hF).2 hb1
    refine Run_skip ?_
    refine Zs ?_
    refine Zs ?_
    refine Zq [.bool x2] [0, 1, 13] [(0, .int .i64 x_), (1, .int .i64 y_), (13, .bool x2)] ?_
    refine Zc (x2) (fun hb3 => ?_) (fun hb3 => ?_)
    · have hF := (M.ite_some hF).1 hb3
      refine Zs ?_
      refine Zq [.int .i64 1] [4] [(4, .int .i64 1)] ?_
      have hF := M.ret_some hF
      subst hF
      exact Run_ret1 rfl (ResV_tmp (v := .int .i64 1) (by kernel_rfl)) ⟨rfl, rfl⟩
    · have hF := (M.ite_some hF).2 hb3
      refine Run_skip ?_
      refine Zs ?_
      refine Zs ?_
      refine Zq [.int .i64 x_, .int .i64 y_, .bool (decide (x_ < y_))] [0, 1, 16] [(0, .int .i64 x_), (1, .int .i64 y_), (16, .bool (decide (x_ < y_)))] ?_
      refine Zc (decide (x_ < y_)) (fun hb4 => ?_) (fun hb4 => ?_)
      · have hF := (M.ite_some hF).1 hb4
        refine Zs ?_
        refine Zq [.int .i64 (-1)] [4] [(4, .int .i64 (-1))] ?_
        have hF := M.ret_some hF
        subst hF
        exact Run_ret1 rfl (ResV_tmp (v := .int .i64 (-1)) (by kernel_rfl)) ⟨rfl, rfl⟩
      · have hF := (M.ite_some hF).2 hb4
        refine Run_skip ?_
        refine Zs ?_
        refine Zs ?_
        refine Zq [.int .i64 x_, .int .i64 y_, .bool (decide (y_ < x_))] [19] [(19, .bool (decide (y_ < x_)))] ?_
        refine Zc (decide (y_ < x_)) (fun hb5 => ?_) (fun hb5 => ?_)
        · have hF := (M.ite_some hF).1 hb5
          refine Zs ?_
          refine Zq [.int .i64 1] [4] [(4, .int .i64 1)] ?_
          have hF := M.ret_some hF
          subst hF
          exact Run_ret1 rfl (ResV_tmp (v := .int .i64 1) (by kernel_rfl)) ⟨rfl, rfl⟩
        · have hF := (M.ite_some hF).2 hb5
          refine Run_skip ?_
          refine Zs ?_
          refine Zq [.int .i64 0] [4] [(4, .int .i64 0)] ?_
          have hF := M.ret_some hF
          subst hF
          exact Run_ret1 rfl (ResV_tmp (v := .int .i64 0) (by kernel_rfl)) ⟨rfl, rfl⟩

set_option maxRecDepth 100000 in
set_option maxHeartbeats 4000000 in
theorem w_impl_compareRatios (h : Heap) (a_ : TRatio) (b : TRatio) (n : Nat) (r : Int) (hF : impl_compareRatios a_ b n = some r) :
    Fn Tryz.prog 86 #[.agg #[.int .i64 a_.Num, .int .i64 a_.Den], .agg #[.int .i64 b.Num, .int .i64 b.Den]] h fun v h' => v = .int .i64 r ∧ Hold h h' [] := by
  unfold impl_compareRatios at hF
  refine Fn_enter (args := [.agg #[.int .i64 a_.Num, .int .i64 a_.Den], .agg #[.int .i64 b.Num, .int .i64 b.Den]]) Tryz.func86 rfl (by kernel_rfl) (by kernel_rfl) (fun w0 _ => ?_)
  have H0 := Hold.init h
  refine Zs ?_
  refine Run_ops ?_
  refine Run_E (by kernel_rfl) ?_
  refine E_box (ty := 44) (cs := [.int .i64 a_.Num, .int .i64 a_.Den]) H0 (fun w => by kernel_rfl) (fun b1 h1 H1 => ?_)
  refine Run_E (by kernel_rfl) ?_
  refine E_box (ty := 44) (cs := [.int .i64 b.Num, .int .i64 b.Den]) H1 (fun w => by kernel_rfl) (fun b2 h2 H2 => ?_)
  refine Zr [.int .i64 0] 2 ?_
  refine Run_nil (by kernel_rfl) ?_
  refine Zk [2, 3] [(2, .pointer (some ⟨b1, 0, none⟩)), (3, .pointer (some ⟨b2, 0, none⟩))] ?_
  refine Zs ?_
  obtain ⟨x1, hx1, hF⟩ := M.bind_some hF
  refine Zg 12 [(4, .int .i64 x1)] ?_ ?_
  · refine Zb [.pointer (some ⟨b1, 0, none⟩)] 0 ?_
    refine Zy (.int .i64 a_.Num) (Zl 2 (⟨b1, 0, none⟩) (.int .i64 a_.Num) (H2.cell 1 rfl rfl)) ?_
    refine Zb [.pointer (some ⟨b2, 1, none⟩)] 2 ?_
    refine Zy (.int .i64 b.Den) (Zl 2 (⟨b2, 1, none⟩) (.int .i64 b.Den) (H2.cell 0 rfl rfl)) ?_
    refine Zb [.int .i64 (w64 (a_.Num * b.Den)), .pointer (some ⟨b2, 0, none⟩)] 4 ?_
    refine Zy (.int .i64 b.Num) (Zl 2 (⟨b2, 0, none⟩) (.int .i64 b.Num) (H2.cell 0 rfl rfl)) ?_
    refine Zb [.pointer (some ⟨b1, 1, none⟩)] 7 ?_
    refine Zy (.int .i64 a_.Den) (Zl 2 (⟨b1, 1, none⟩) (.int .i64 a_.Den) (H2.cell 1 rfl rfl)) ?_
    refine Zb [.int .i64 (w64 (b.Num * a_.Den))] 9 ?_
    refine Zy (.int .i64 x1) (Y_callq (f := 130) (args := #[.int .i64 (w64 (a_.Num * b.Den)), .int .i64 (w64 (b.Num * a_.Den))]) (v := .int .i64 x1) (by kernel_rfl) (w_cmp_Compare_i h2 (w64 (a_.Num * b.Den)) (w64 (b.Num * a_.Den)) _ _ hx1)) ?_
    refine Zb [.int .i64 x1] 11 ?_
    exact Zd [4]
  have hF := M.ret_some hF
  subst hF
  have H3 : Hold h h2 [] := H2.pick [] (by kernel_rfl)
  exact Run_ret1 rfl (ResV_tmp (v := .int .i64 x1) (by kernel_rfl)) ⟨rfl, H3⟩

set_option maxRecDepth 100000 in
set_option maxHeartbeats 4000000 in
theorem w_impl_cycleMean (h : Heap) (a_ : List (List Int)) (aa_ : Option Addr) (ca_ : Nat) (ra_ : Rd cd24 h (Lt h) aa_ ca_ a_) (n : Nat) (r : TRatio × Bool) (hF : impl_cycleMean a_ n = some r) :
    Fn Tryz.prog 51 #[.slice aa_ a_.length ca_] h fun v h' => v = .tuple #[.agg #[.int .i64 r.1.Num, .int .i64 r.1.Den], .bool r.2] ∧ Hold h h' [] := by
  unfold impl_cycleMean at hF
  refine Fn_enter (args := [.slice aa_ a_.length ca_]) Tryz.func51 rfl (by kernel_rfl) (by kernel_rfl) (fun w0 _ => ?_)
  have H0 := Hold.init h
  refine Zs ?_
  refine Run_ops ?_
  refine Run_E (by kernel_rfl) ?_
  refine E_box (ty := 44) (cs := [.int .i64 0, .int .i64 0]) H0 (fun w => by kernel_rfl) (fun b1 h1 H1 => ?_)
  refine Zr [.bool false] 1 ?_
  refine Run_nil (by kernel_rfl) ?_
  refine Zk [0, 2] [(0, .slice aa_ a_.length ca_), (2, .pointer (some ⟨b1, 0, none⟩))] ?_
  refine Zs ?_
  refine Zq [.slice aa_ a_.length ca_, .int .i64 (a_.length : Int), .int .i64 (a_.length : Int)] [0, 2, 4] [(0, .slice aa_ a_.length ca_), (2, .pointer (some ⟨b1, 0, none⟩)), (4, .int .i64 (a_.length : Int))] ?_
  refine Zs ?_
  refine Run_ops ?_
  refine Zr [.int .i64 (a_.length : Int)] 0 ?_
  obtain ⟨l1, hl1, hF⟩ := M.bind_some hF
  have hl1 := M.make_some hl1
  refine Run_E (by kernel_rfl) ?_
  refine E_make cd2 0 (kl := .i64) (kc := .i64) H1 cd2_ti Tryz.underlying24 (by decide) cd2_zero (by kernel_rfl) hl1 (fun a1 h2 H2 => ?_)
  refine Run_E (by kernel_rfl) ?_
  refine E_lit1 (ey := 24) (n := l1.length) H2 (fun w => by kernel_rfl) rfl (fun a2 h3 H3 => ?_)
  refine Zr [.slice a2 1 1] 3 ?_
  refine Run_nil (by kernel_rfl) ?_
  refine Zk [0, 2, 4, 5] [(0, .slice aa_ a_.length ca_), (2, .pointer (some ⟨b1, 0, none⟩)), (4, .int .i64 (a_.length : Int)), (5, .slice a2 1 1)] ?_
  refine Zs ?_
  refine Zs ?_
  refine Zq [.int .i64 (a_.length : Int), .int .i64 0] [0, 2, 4, 5, 19, 20] [(0, .slice aa_ a_.length ca_), (2, .pointer (some ⟨b1, 0, none⟩)), (4, .int .i64 (a_.length : Int)), (5, .slice a2 1 1), (19, .int .i64 (a_.length : Int)), (20, .int .i64 0)] ?_
  obtain ⟨x1, gx1, hF⟩ := M.bind_some hF
  obtain ⟨hloy1, hhiy1, gx1⟩ := M.for_start gx1
  refine Run_join (fun L' h' => ∃ (a4 : Option Addr) (c2 : Nat), L' = [(2, .pointer (some ⟨b1, 0, none⟩)), (4, .int .i64 (a_.length : Int)), (5, .slice a4 x1.length c2)] ∧ Hold h h' [box b1 44 [.int .i64 0, .int .i64 0], own cd24 a4 x1.length c2 x1]) ?_ ?_
  · rintro _ h5 ⟨a4, c2, rfl, H5⟩
    refine Zs ?_
    refine Run_ops ?_
    refine Run_E (by kernel_rfl) ?_
    refine E_box (ty := 44) (cs := [.int .i64 0, .int .i64 0]) H5 (fun w => by kernel_rfl) (fun b2 h9 H21 => ?_)
    refine Run_nil (by kernel_rfl) ?_
    refine Zk [2, 4, 5, 7] [(2, .pointer (some ⟨b1, 0, none⟩)), (4, .int .i64 (a_.length : Int)), (5, .slice a4 x1.length c2), (7, .pointer (some ⟨b2, 0, none⟩))] ?_
    refine Zs ?_
    refine Zq [.bool false] [2, 4, 5, 7, 8] [(2, .pointer (some ⟨b1, 0, none⟩)), (4, .int .i64 (a_.length : Int)), (5, .slice a4 x1.length c2), (7, .pointer (some ⟨b2, 0, none⟩)), (8, .bool false)] ?_
    refine Zs ?_
    refine Zs ?_
    refine Zq [.int .i64 (a_.length : Int), .int .i64 0] [2, 4, 5, 7, 8, 33, 34] [(2, .pointer (some ⟨b1, 0, none⟩)), (4, .int .i64 (a_.length : Int)), (5, .slice a4 x1.length c2), (7, .pointer (some ⟨b2, 0, none⟩)), (8, .bool false), (33, .int .i64 (a_.length : Int)), (34, .int .i64 0)] ?_
    obtain ⟨x4, gx4, hF⟩ := M.bind_some hF
    obtain ⟨hloy2, hhiy2, gx4⟩ := M.for_start gx4
    refine Run_join (fun L' h' => L' = [(2, .pointer (some ⟨b1, 0, none⟩)), (7, .pointer (some ⟨b2, 0, none⟩)), (8, .bool x4.2)] ∧ Hold h h' [box b1 44 [.int .i64 0, .int .i64 0], box b2 44 [.int .i64 x4.1.Num, .int .i64 x4.1.Den]]) ?_ ?_
    · rintro _ h11 ⟨rfl, H23⟩
      refine Zs ?_
      refine Run_ops ?_
      refine Zz (.agg #[.int .i64 x4.1.Num, .int .i64 x4.1.Den]) (Y_loadA (t := 44) (n := 2) (p := ⟨b2, 0, none⟩) (cs := [.int .i64 x4.1.Num, .int .i64 x4.1.Den]) (by kernel_rfl) (fun w => by kernel_rfl) (by kernel_rfl) rfl (H23.cells (n := 2) (off := 0) 1 rfl rfl)) ?_
      refine Zr [.bool x4.2] 1 ?_
      refine Run_E (by kernel_rfl) ?_
      refine E_bput (t := 44) (off := 0) (us := [.int .i64 x4.1.Num, .int .i64 x4.1.Den]) (v := .agg #[.int .i64 x4.1.Num, .int .i64 x4.1.Den]) H23 (by kernel_rfl) (by kernel_rfl) rfl (by kernel_rfl) rfl (fun h26 H76 => ?_)
      refine Zr [.bool x4.2] 3 ?_
      refine Run_nil (by kernel_rfl) ?_
      refine Zk [2, 3] [(2, .pointer (some ⟨b1, 0, none⟩)), (3, .bool x4.2)] ?_
      have hF := M.ret_some hF
      subst hF
      have H77 : Hold h h26 [] := H76.pick [] (by kernel_rfl)
      exact Run_ret2 rfl (ResV_cell (n := 2) (cs := [.int .i64 x4.1.Num, .int .i64 x4.1.Den]) (by kernel_rfl) (fun w => by kernel_rfl) (by kernel_rfl) rfl (H76.cells (n := 2) (off := 0) 0 rfl rfl)) (ResV_tmp (v := .bool x4.2) (by kernel_rfl)) ⟨rfl, H77⟩
    · refine Run_block ?_
      have H78 : Hold h h9 [box b1 44 [.int .i64 0, .int .i64 0], own cd24 a4 x1.length c2 x1, box b2 44 [.int .i64 0, .int .i64 0]] := H21.pick [1, 2, 0] (by kernel_rfl)
      refine Zk [2, 4, 5, 7, 8, 33, 34] [(2, .pointer (some ⟨b1, 0, none⟩)), (4, .int .i64 (a_.length : Int)), (5, .slice a4 x1.length c2), (7, .pointer (some ⟨b2, 0, none⟩)), (8, .bool false), (33, .int .i64 (a_.length : Int)), (34, .int .i64 0)] ?_
      refine Run_loop (fun m L' h' => ∃ (i2 : Int) (s2 : TRatio × Bool), 0 ≤ i2 ∧ M.forN (a_.length : Int) _ _ n m i2 s2 = some x4 ∧ L' = [(2, .pointer (some ⟨b1, 0, none⟩)), (4, .int .i64 (a_.length : Int)), (5, .slice a4 x1.length c2), (7, .pointer (some ⟨b2, 0, none⟩)), (8, .bool s2.2), (33, .int .i64 (a_.length : Int)), (34, .int .i64 i2)] ∧ Hold h h' [box b1 44 [.int .i64 0, .int .i64 0], own cd24 a4 x1.length c2 x1, box b2 44 [.int .i64 s2.1.Num, .int .i64 s2.1.Den]]) ((a_.length : Int) - 0 : Int).toNat ⟨0, ((⟨0, 0⟩ : TRatio), false), Int.le_refl _, gx4, rfl, H78⟩ ?_
      rintro my2 _ h10 ⟨i2, s2, hloy2', gx4, rfl, H22⟩
      refine Zs ?_
      refine Zq [.bool (decide (i2 < (a_.length : Int)))] [2, 4, 5, 7, 8, 33, 34, 35] [(2, .pointer (some ⟨b1, 0, none⟩)), (4, .int .i64 (a_.length : Int)), (5, .slice a4 x1.length c2), (7, .pointer (some ⟨b2, 0, none⟩)), (8, .bool s2.2), (33, .int .i64 (a_.length : Int)), (34, .int .i64 i2), (35, .bool (decide (i2 < (a_.length : Int))))] ?_
      refine Zs ?_
      refine Zc (decide (i2 < (a_.length : Int))) (fun hb2 => ?_) (fun hb2 => ?_)
      · obtain ⟨my2, y2, rfl, hB2, hgoy2, houty2⟩ := M.for_go gx4 hb2
        have hlty2 := of_decide_eq_true hb2
        refine Run_skip ?_
        refine Zs ?_
        obtain ⟨s3, gs3, hB2⟩ := M.bind_some hB2
        refine Run_join (fun L' h' => L' = [(2, .pointer (some ⟨b1, 0, none⟩)), (4, .int .i64 (a_.length : Int)), (5, .slice a4 x1.length c2), (7, .pointer (some ⟨b2, 0, none⟩)), (8, .bool s3.2), (33, .int .i64 (a_.length : Int)), (34, .int .i64 i2)] ∧ Hold h h' [box b1 44 [.int .i64 0, .int .i64 0], own cd24 a4 x1.length c2 x1, box b2 44 [.int .i64 s3.1.Num, .int .i64 s3.1.Den]]) ?_ ?_
        · rintro _ h25 ⟨rfl, H69⟩
          refine Zg 2 [(2, .pointer (some ⟨b1, 0, none⟩)), (4, .int .i64 (a_.length : Int)), (5, .slice a4 x1.length c2), (7, .pointer (some ⟨b2, 0, none⟩)), (8, .bool s3.2), (33, .int .i64 (a_.length : Int)), (34, .int .i64 (i2 + 1))] ?_ ?_
          · refine Zy (.int .i64 (i2 + 1)) (Y_eq (v := .int .i64 (w64 (i2 + 1))) (Y_pure (fun w => by kernel_rfl)) (by rw [w64_eq _ (by omega)])) ?_
            refine Zb [.int .i64 (i2 + 1)] 1 ?_
            exact Zd [2, 4, 5, 7, 8, 33, 34]
          have hB2 := M.ret_some hB2
          have gx4 := hgoy2 _ hB2.symm
          exact Run_again [2, 4, 5, 7, 8, 33, 34] (by kernel_rfl) my2 (Nat.lt_succ_self _) ⟨i2 + 1, (s3.1, s3.2), by omega, gx4, rfl, H69⟩
        · refine Run_block ?_
          refine Zs ?_
          refine Zq [.int .i64 i2, .int .i64 i2] [2, 4, 5, 7, 8, 9, 33, 34] [(2, .pointer (some ⟨b1, 0, none⟩)), (4, .int .i64 (a_.length : Int)), (5, .slice a4 x1.length c2), (7, .pointer (some ⟨b2, 0, none⟩)), (8, .bool s2.2), (9, .int .i64 i2), (33, .int .i64 (a_.length : Int)), (34, .int .i64 i2)] ?_
          refine Zs ?_
          refine Zs ?_
          obtain ⟨x5, hx3, gs3⟩ := M.bind_some gs3
          obtain ⟨hx3l, hx3u, hx3⟩ := M.idx_some hx3
          have H24 : Hold h h10 [own cd24 a4 x1.length c2 x1, box b1 44 [.int .i64 0, .int .i64 0], box b2 44 [.int .i64 s2.1.Num, .int .i64 s2.1.Den]] := H22.pick [1, 0, 2] (by kernel_rfl)
          have H25 := H24.toRows
          obtain ⟨a9, c6, H26⟩ := H25.pinRow hx3
          have H27 : Hold h h10 [box b1 44 [.int .i64 0, .int .i64 0], rowsP cd2 24 a4 x1.length c2 x1 [((a_.length : Int).toNat, a9, x5.length, c6, x5)], box b2 44 [.int .i64 s2.1.Num, .int .i64 s2.1.Den]] := H26.pick [1, 0, 2] (by kernel_rfl)
          obtain ⟨x6, hx4, gs3⟩ := M.bind_some gs3
          obtain ⟨hx4l, hx4u, hx4⟩ := M.idx_some hx4
          refine Zg 8 [(2, .pointer (some ⟨b1, 0, none⟩)), (4, .int .i64 (a_.length : Int)), (5, .slice a4 x1.length c2), (7, .pointer (some ⟨b2, 0, none⟩)), (8, .bool s2.2), (9, .int .i64 i2), (33, .int .i64 (a_.length : Int)), (34, .int .i64 i2), (44, .bool (x6 == (-1000000000000000)))] ?_ ?_
          · refine Zb [.slice a4 x1.length c2, .int .i64 (a_.length : Int)] 0 ?_
            refine Zy (.pointer (some (adr a4 ((a_.length : Int).toNat * 1)))) (Zi 22 24 1 (a4) (x1.length) (c2) .i64 ((a_.length : Int)) Tryz.underlying22 ((H22.rd 1 rfl).cell hx3).1 hx3l hx3u) ?_
            refine Zy (.slice a9 x5.length c6) (Zl 24 (adr a4 ((a_.length : Int).toNat * 1)) (.slice a9 x5.length c6) (H27.cellPin 1 rfl 0 rfl)) ?_
            refine Zb [.int .i64 i2] 4 ?_
            refine Zy (.pointer (some (adr a9 (i2.toNat * 1)))) (Zi 24 2 1 (a9) (x5.length) (c6) .i64 (i2) Tryz.underlying24 ((H27.rdPin 1 rfl 0 rfl).cell hx4).1 hx4l hx4u) ?_
            refine Zy (.int .i64 x6) (Zl 2 (adr a9 (i2.toNat * 1)) (.int .i64 x6) (cd2_cell (H27.rdPin 1 rfl 0 rfl) hx4)) ?_
            refine Zb [.bool (x6 == (-1000000000000000))] 7 ?_
            exact Zd [2, 4, 5, 7, 8, 9, 33, 34, 44]
          refine Zc (x6 == (-1000000000000000)) (fun hb3 => ?_) (fun hb3 => ?_)
          · have gs3 := (M.ite_some gs3).1 hb3
            refine Run_exit (k' := _) rfl ?_
            have H70 : Hold h h10 [rowsP cd2 24 a4 x1.length c2 x1 [((a_.length : Int).toNat, a9, x5.length, c6, x5)], box b1 44 [.int .i64 0, .int .i64 0], box b2 44 [.int .i64 s2.1.Num, .int .i64 s2.1.Den]] := H27.pick [1, 0, 2] (by kernel_rfl)
            have H71 := H70.ofRows
            have H72 : Hold h h10 [box b1 44 [.int .i64 0, .int .i64 0], own cd24 a4 x1.length c2 x1, box b2 44 [.int .i64 s2.1.Num, .int .i64 s2.1.Den]] := H71.pick [1, 0, 2] (by kernel_rfl)
            have gs3 := M.ret_some gs3
            subst gs3
            exact Run_fall [2, 4, 5, 7, 8, 33, 34] (by kernel_rfl) ⟨rfl, H72⟩
          · have gs3 := (M.ite_some gs3).2 hb3
            refine Run_skip ?_
            refine Zs ?_
            refine Run_ops ?_
            refine Zr [.agg #[.int .i64 0, .int .i64 0]] 0 ?_
            refine Run_E (by kernel_rfl) ?_
            refine E_box (ty := 44) (cs := [.int .i64 0, .int .i64 0]) H27 (fun w => by kernel_rfl) (fun b3 h12 H28 => ?_)
            refine Run_E (by kernel_rfl) ?_
            refine E_bput (t := 44) (off := 0) (us := [.int .i64 0, .int .i64 0]) (v := .agg #[.int .i64 0, .int .i64 0]) H28 (by kernel_rfl) (by kernel_rfl) rfl (by kernel_rfl) rfl (fun h13 H29 => ?_)
            refine Zr [.bool false] 3 ?_
            refine Run_nil (by kernel_rfl) ?_
            refine Zk [2, 4, 5, 7, 8, 9, 10, 11, 33, 34] [(2, .pointer (some ⟨b1, 0, none⟩)), (4, .int .i64 (a_.length : Int)), (5, .slice a4 x1.length c2), (7, .pointer (some ⟨b2, 0, none⟩)), (8, .bool s2.2), (9, .int .i64 i2), (10, .pointer (some ⟨b3, 0, none⟩)), (11, .bool false), (33, .int .i64 (a_.length : Int)), (34, .int .i64 i2)] ?_
            refine Zs ?_
            refine Zs ?_
            refine Zq [.int .i64 (a_.length : Int), .int .i64 0] [2, 4, 5, 7, 8, 9, 10, 11, 33, 34, 46, 47] [(2, .pointer (some ⟨b1, 0, none⟩)), (4, .int .i64 (a_.length : Int)), (5, .slice a4 x1.length c2), (7, .pointer (some ⟨b2, 0, none⟩)), (8, .bool s2.2), (9, .int .i64 i2), (10, .pointer (some ⟨b3, 0, none⟩)), (11, .bool false), (33, .int .i64 (a_.length : Int)), (34, .int .i64 i2), (46, .int .i64 (a_.length : Int)), (47, .int .i64 0)] ?_
            obtain ⟨x7, gx7, gs3⟩ := M.bind_some gs3
            obtain ⟨hloy3, hhiy3, gx7⟩ := M.for_start gx7
            refine Run_join (fun L' h' => L' = [(2, .pointer (some ⟨b1, 0, none⟩)), (4, .int .i64 (a_.length : Int)), (5, .slice a4 x1.length c2), (7, .pointer (some ⟨b2, 0, none⟩)), (8, .bool s2.2), (10, .pointer (some ⟨b3, 0, none⟩)), (33, .int .i64 (a_.length : Int)), (34, .int .i64 i2)] ∧ Hold h h' [box b1 44 [.int .i64 0, .int .i64 0], own cd24 a4 x1.length c2 x1, box b2 44 [.int .i64 s2.1.Num, .int .i64 s2.1.Den], box b3 44 [.int .i64 x7.1.Num, .int .i64 x7.1.Den]]) ?_ ?_
            · rintro _ h15 ⟨rfl, H31⟩
              refine Zs ?_
              obtain ⟨x17, gx17, gs3⟩ := M.bind_some gs3
              refine Run_regC (j := 8) (C := fun x => Hold h x [box b1 44 [.int .i64 0, .int .i64 0], own cd24 a4 x1.length c2 x1, box b2 44 [.int .i64 s2.1.Num, .int .i64 s2.1.Den], box b3 44 [.int .i64 x7.1.Num, .int .i64 x7.1.Den]]) (by kernel_rfl) H31 (L' := [(2, .pointer (some ⟨b1, 0, none⟩)), (4, .int .i64 (a_.length : Int)), (5, .slice a4 x1.length c2), (7, .pointer (some ⟨b2, 0, none⟩)), (8, .bool s2.2), (10, .pointer (some ⟨b3, 0, none⟩)), (33, .int .i64 (a_.length : Int)), (34, .int .i64 i2), (94, .bool x17)]) ?_ (fun h23 H62 => ?_)
              · refine Zb [.bool s2.2, .bool (!s2.2)] 0 ?_
                refine QRun_seq 8 [(2, .pointer (some ⟨b1, 0, none⟩)), (4, .int .i64 (a_.length : Int)), (5, .slice a4 x1.length c2), (7, .pointer (some ⟨b2, 0, none⟩)), (8, .bool s2.2), (10, .pointer (some ⟨b3, 0, none⟩)), (33, .int .i64 (a_.length : Int)), (34, .int .i64 i2), (94, .bool x17)] ?_ ?_
                · rcases Bool.eq_false_or_eq_true (!s2.2) with hb8 | hb8
                  · refine QRun_bool (!s2.2) true (by kernel_rfl) (fun w => by kernel_rfl) hb8 ?_
                    have gx17 := M.ret_some ((M.ite_some gx17).1 hb8)
                    refine QRun_n (by kernel_rfl) ?_
                    refine QRun_n (by kernel_rfl) ?_
                    refine QRun_n (by kernel_rfl) ?_
                    refine QRun_n (by kernel_rfl) ?_
                    refine QRun_bool true x17 (by kernel_rfl) (fun w => by kernel_rfl) gx17 ?_
                    exact Zd [2, 4, 5, 7, 8, 10, 33, 34, 94]
                  · refine QRun_bool (!s2.2) false (by kernel_rfl) (fun w => by kernel_rfl) hb8 ?_
                    have gx17 := (M.ite_some gx17).2 hb8
                    obtain ⟨x18, hx13, gx17⟩ := M.bind_some gx17
                    have gx17 := M.ret_some gx17
                    refine Zy (.agg #[.int .i64 x7.1.Num, .int .i64 x7.1.Den]) (Y_cls fun hx Hx => (Y_loadA (t := 44) (n := 2) (p := ⟨b3, 0, none⟩) (cs := [.int .i64 x7.1.Num, .int .i64 x7.1.Den]) (by kernel_rfl) (fun w => by kernel_rfl) (by kernel_rfl) rfl (Hx.cells (n := 2) (off := 0) 3 rfl rfl))) ?_
                    refine Zy (.agg #[.int .i64 s2.1.Num, .int .i64 s2.1.Den]) (Y_cls fun hx Hx => (Y_loadA (t := 44) (n := 2) (p := ⟨b2, 0, none⟩) (cs := [.int .i64 s2.1.Num, .int .i64 s2.1.Den]) (by kernel_rfl) (fun w => by kernel_rfl) (by kernel_rfl) rfl (Hx.cells (n := 2) (off := 0) 2 rfl rfl))) ?_
                    refine Zy (.int .i64 x18) (Y_call (f := 86) (args := #[.agg #[.int .i64 x7.1.Num, .int .i64 x7.1.Den], .agg #[.int .i64 s2.1.Num, .int .i64 s2.1.Den]]) (v := .int .i64 x18) (by kernel_rfl) fun hx Hx => (w_impl_compareRatios hx x7.1 s2.1 _ _ hx13).mono fun _ _ ⟨e, H'⟩ => ⟨e, Hx.call H' rfl⟩) ?_
                    refine Zb [.bool (decide (0 < x18))] 6 ?_
                    refine QRun_bool (decide (0 < x18)) x17 (by kernel_rfl) (fun w => by kernel_rfl) gx17 ?_
                    exact Zd [2, 4, 5, 7, 8, 10, 33, 34, 94]
                exact Zd [2, 4, 5, 7, 8, 10, 33, 34, 94]
              have H63 : Hold h h23 [box b1 44 [.int .i64 0, .int .i64 0], own cd24 a4 x1.length c2 x1, box b2 44 [.int .i64 s2.1.Num, .int .i64 s2.1.Den], box b3 44 [.int .i64 x7.1.Num, .int .i64 x7.1.Den]] := H62
              refine Zc (x17) (fun hb9 => ?_) (fun hb9 => ?_)
              · have gs3 := (M.ite_some gs3).1 hb9
                refine Run_ops ?_
                refine Zz (.agg #[.int .i64 x7.1.Num, .int .i64 x7.1.Den]) (Y_loadA (t := 44) (n := 2) (p := ⟨b3, 0, none⟩) (cs := [.int .i64 x7.1.Num, .int .i64 x7.1.Den]) (by kernel_rfl) (fun w => by kernel_rfl) (by kernel_rfl) rfl (H63.cells (n := 2) (off := 0) 3 rfl rfl)) ?_
                have H65 : Hold h h23 [box b2 44 [.int .i64 s2.1.Num, .int .i64 s2.1.Den], box b1 44 [.int .i64 0, .int .i64 0], own cd24 a4 x1.length c2 x1, box b3 44 [.int .i64 x7.1.Num, .int .i64 x7.1.Den]] := H63.pick [2, 0, 1, 3] (by kernel_rfl)
                refine Run_E (by kernel_rfl) ?_
                refine E_bput (t := 44) (off := 0) (us := [.int .i64 x7.1.Num, .int .i64 x7.1.Den]) (v := .agg #[.int .i64 x7.1.Num, .int .i64 x7.1.Den]) H65 (by kernel_rfl) (by kernel_rfl) rfl (by kernel_rfl) rfl (fun h24 H64 => ?_)
                refine Zr [.bool true] 2 ?_
                refine Run_nil (by kernel_rfl) ?_
                refine Zk [2, 4, 5, 7, 8, 33, 34] [(2, .pointer (some ⟨b1, 0, none⟩)), (4, .int .i64 (a_.length : Int)), (5, .slice a4 x1.length c2), (7, .pointer (some ⟨b2, 0, none⟩)), (8, .bool true), (33, .int .i64 (a_.length : Int)), (34, .int .i64 i2)] ?_
                refine Run_blk ?_
                have H73 : Hold h h24 [box b1 44 [.int .i64 0, .int .i64 0], own cd24 a4 x1.length c2 x1, box b2 44 [.int .i64 x7.1.Num, .int .i64 x7.1.Den]] := H64.pick [1, 2, 0] (by kernel_rfl)
                have gs3 := M.ret_some gs3
                subst gs3
                exact Run_fall [2, 4, 5, 7, 8, 33, 34] (by kernel_rfl) ⟨rfl, H73⟩
              · have gs3 := (M.ite_some gs3).2 hb9
                refine Run_skip ?_
                refine Run_blk ?_
                have H74 : Hold h h23 [box b1 44 [.int .i64 0, .int .i64 0], own cd24 a4 x1.length c2 x1, box b2 44 [.int .i64 s2.1.Num, .int .i64 s2.1.Den]] := H63.pick [0, 1, 2] (by kernel_rfl)
                have gs3 := M.ret_some gs3
                subst gs3
                exact Run_fall [2, 4, 5, 7, 8, 33, 34] (by kernel_rfl) ⟨rfl, H74⟩
            · refine Run_block ?_
              have H66 : Hold h h13 [rowsP cd2 24 a4 x1.length c2 x1 [((a_.length : Int).toNat, a9, x5.length, c6, x5)], box b3 44 [.int .i64 0, .int .i64 0], box b1 44 [.int .i64 0, .int .i64 0], box b2 44 [.int .i64 s2.1.Num, .int .i64 s2.1.Den]] := H29.pick [2, 0, 1, 3] (by kernel_rfl)
              have H67 := H66.ofRows
              have H68 : Hold h h13 [box b1 44 [.int .i64 0, .int .i64 0], own cd24 a4 x1.length c2 x1, box b2 44 [.int .i64 s2.1.Num, .int .i64 s2.1.Den], box b3 44 [.int .i64 0, .int .i64 0]] := H67.pick [2, 0, 3, 1] (by kernel_rfl)
              refine Zk [2, 4, 5, 7, 8, 9, 10, 11, 33, 34, 46, 47] [(2, .pointer (some ⟨b1, 0, none⟩)), (4, .int .i64 (a_.length : Int)), (5, .slice a4 x1.length c2), (7, .pointer (some ⟨b2, 0, none⟩)), (8, .bool s2.2), (9, .int .i64 i2), (10, .pointer (some ⟨b3, 0, none⟩)), (11, .bool false), (33, .int .i64 (a_.length : Int)), (34, .int .i64 i2), (46, .int .i64 (a_.length : Int)), (47, .int .i64 0)] ?_
              refine Run_loop (fun m L' h' => ∃ (i3 : Int) (s4 : TRatio × Bool), 0 ≤ i3 ∧ M.forN (a_.length : Int) _ _ n m i3 s4 = some x7 ∧ L' = [(2, .pointer (some ⟨b1, 0, none⟩)), (4, .int .i64 (a_.length : Int)), (5, .slice a4 x1.length c2), (7, .pointer (some ⟨b2, 0, none⟩)), (8, .bool s2.2), (9, .int .i64 i2), (10, .pointer (some ⟨b3, 0, none⟩)), (11, .bool s4.2), (33, .int .i64 (a_.length : Int)), (34, .int .i64 i2), (46, .int .i64 (a_.length : Int)), (47, .int .i64 i3)] ∧ Hold h h' [box b1 44 [.int .i64 0, .int .i64 0], own cd24 a4 x1.length c2 x1, box b2 44 [.int .i64 s2.1.Num, .int .i64 s2.1.Den], box b3 44 [.int .i64 s4.1.Num, .int .i64 s4.1.Den]]) ((a_.length : Int) - 0 : Int).toNat ⟨0, ((⟨0, 0⟩ : TRatio), false), Int.le_refl _, gx7, rfl, H68⟩ ?_
              rintro my3 _ h14 ⟨i3, s4, hloy3', gx7, rfl, H30⟩
              refine Zs ?_
              refine Zq [.bool (decide (i3 < (a_.length : Int)))] [2, 4, 5, 7, 8, 9, 10, 11, 33, 34, 46, 47, 48] [(2, .pointer (some ⟨b1, 0, none⟩)), (4, .int .i64 (a_.length : Int)), (5, .slice a4 x1.length c2), (7, .pointer (some ⟨b2, 0, none⟩)), (8, .bool s2.2), (9, .int .i64 i2), (10, .pointer (some ⟨b3, 0, none⟩)), (11, .bool s4.2), (33, .int .i64 (a_.length : Int)), (34, .int .i64 i2), (46, .int .i64 (a_.length : Int)), (47, .int .i64 i3), (48, .bool (decide (i3 < (a_.length : Int))))] ?_
              refine Zs ?_
              refine Zc (decide (i3 < (a_.length : Int))) (fun hb4 => ?_) (fun hb4 => ?_)
              · obtain ⟨my3, y3, rfl, hB3, hgoy3, houty3⟩ := M.for_go gx7 hb4
                have hlty3 := of_decide_eq_true hb4
                refine Run_skip ?_
                refine Zs ?_
                obtain ⟨s5, gs5, hB3⟩ := M.bind_some hB3
                refine Run_join (fun L' h' => L' = [(2, .pointer (some ⟨b1, 0, none⟩)), (4, .int .i64 (a_.length : Int)), (5, .slice a4 x1.length c2), (7, .pointer (some ⟨b2, 0, none⟩)), (8, .bool s2.2), (9, .int .i64 i2), (10, .pointer (some ⟨b3, 0, none⟩)), (11, .bool s5.2), (33, .int .i64 (a_.length : Int)), (34, .int .i64 i2), (46, .int .i64 (a_.length : Int)), (47, .int .i64 i3)] ∧ Hold h h' [box b1 44 [.int .i64 0, .int .i64 0], own cd24 a4 x1.length c2 x1, box b2 44 [.int .i64 s2.1.Num, .int .i64 s2.1.Den], box b3 44 [.int .i64 s5.1.Num, .int .i64 s5.1.Den]]) ?_ ?_
                · rintro _ h22 ⟨rfl, H52⟩
                  refine Zg 2 [(2, .pointer (some ⟨b1, 0, none⟩)), (4, .int .i64 (a_.length : Int)), (5, .slice a4 x1.length c2), (7, .pointer (some ⟨b2, 0, none⟩)), (8, .bool s2.2), (9, .int .i64 i2), (10, .pointer (some ⟨b3, 0, none⟩)), (11, .bool s5.2), (33, .int .i64 (a_.length : Int)), (34, .int .i64 i2), (46, .int .i64 (a_.length : Int)), (47, .int .i64 (i3 + 1))] ?_ ?_
                  · refine Zy (.int .i64 (i3 + 1)) (Y_eq (v := .int .i64 (w64 (i3 + 1))) (Y_pure (fun w => by kernel_rfl)) (by rw [w64_eq _ (by omega)])) ?_
                    refine Zb [.int .i64 (i3 + 1)] 1 ?_
                    exact Zd [2, 4, 5, 7, 8, 9, 10, 11, 33, 34, 46, 47]
                  have hB3 := M.ret_some hB3
                  have gx7 := hgoy3 _ hB3.symm
                  exact Run_again [2, 4, 5, 7, 8, 9, 10, 11, 33, 34, 46, 47] (by kernel_rfl) my3 (Nat.lt_succ_self _) ⟨i3 + 1, (s5.1, s5.2), by omega, gx7, rfl, H52⟩
                · refine Run_block ?_
                  refine Zs ?_
                  refine Zq [.int .i64 i3, .int .i64 i3] [2, 4, 5, 7, 8, 9, 10, 11, 12, 33, 34, 46, 47] [(2, .pointer (some ⟨b1, 0, none⟩)), (4, .int .i64 (a_.length : Int)), (5, .slice a4 x1.length c2), (7, .pointer (some ⟨b2, 0, none⟩)), (8, .bool s2.2), (9, .int .i64 i2), (10, .pointer (some ⟨b3, 0, none⟩)), (11, .bool s4.2), (12, .int .i64 i3), (33, .int .i64 (a_.length : Int)), (34, .int .i64 i2), (46, .int .i64 (a_.length : Int)), (47, .int .i64 i3)] ?_
                  refine Zs ?_
                  refine Zs ?_
                  obtain ⟨x8, hx5, gs5⟩ := M.bind_some gs5
                  obtain ⟨hx5l, hx5u, hx5⟩ := M.idx_some hx5
                  have H32 : Hold h h14 [own cd24 a4 x1.length c2 x1, box b1 44 [.int .i64 0, .int .i64 0], box b2 44 [.int .i64 s2.1.Num, .int .i64 s2.1.Den], box b3 44 [.int .i64 s4.1.Num, .int .i64 s4.1.Den]] := H30.pick [1, 0, 2, 3] (by kernel_rfl)
                  have H33 := H32.toRows
                  obtain ⟨a10, c7, H34⟩ := H33.pinRow hx5
                  have H35 : Hold h h14 [box b1 44 [.int .i64 0, .int .i64 0], rowsP cd2 24 a4 x1.length c2 x1 [(i3.toNat, a10, x8.length, c7, x8)], box b2 44 [.int .i64 s2.1.Num, .int .i64 s2.1.Den], box b3 44 [.int .i64 s4.1.Num, .int .i64 s4.1.Den]] := H34.pick [1, 0, 2, 3] (by kernel_rfl)
                  obtain ⟨x9, hx6, gs5⟩ := M.bind_some gs5
                  obtain ⟨hx6l, hx6u, hx6⟩ := M.idx_some hx6
                  refine Zg 8 [(2, .pointer (some ⟨b1, 0, none⟩)), (4, .int .i64 (a_.length : Int)), (5, .slice a4 x1.length c2), (7, .pointer (some ⟨b2, 0, none⟩)), (8, .bool s2.2), (9, .int .i64 i2), (10, .pointer (some ⟨b3, 0, none⟩)), (11, .bool s4.2), (12, .int .i64 i3), (33, .int .i64 (a_.length : Int)), (34, .int .i64 i2), (46, .int .i64 (a_.length : Int)), (47, .int .i64 i3), (57, .bool (x9 == (-1000000000000000)))] ?_ ?_
                  · refine Zb [.slice a4 x1.length c2, .int .i64 i3] 0 ?_
                    refine Zy (.pointer (some (adr a4 (i3.toNat * 1)))) (Zi 22 24 1 (a4) (x1.length) (c2) .i64 (i3) Tryz.underlying22 ((H30.rd 1 rfl).cell hx5).1 hx5l hx5u) ?_
                    refine Zy (.slice a10 x8.length c7) (Zl 24 (adr a4 (i3.toNat * 1)) (.slice a10 x8.length c7) (H35.cellPin 1 rfl 0 rfl)) ?_
                    refine Zb [.int .i64 i2] 4 ?_
                    refine Zy (.pointer (some (adr a10 (i2.toNat * 1)))) (Zi 24 2 1 (a10) (x8.length) (c7) .i64 (i2) Tryz.underlying24 ((H35.rdPin 1 rfl 0 rfl).cell hx6).1 hx6l hx6u) ?_
                    refine Zy (.int .i64 x9) (Zl 2 (adr a10 (i2.toNat * 1)) (.int .i64 x9) (cd2_cell (H35.rdPin 1 rfl 0 rfl) hx6)) ?_
                    refine Zb [.bool (x9 == (-1000000000000000))] 7 ?_
                    exact Zd [2, 4, 5, 7, 8, 9, 10, 11, 12, 33, 34, 46, 47, 57]
                  refine Zc (x9 == (-1000000000000000)) (fun hb5 => ?_) (fun hb5 => ?_)
                  · have gs5 := (M.ite_some gs5).1 hb5
                    refine Run_exit (k' := _) rfl ?_
                    have H53 : Hold h h14 [rowsP cd2 24 a4 x1.length c2 x1 [(i3.toNat, a10, x8.length, c7, x8)], box b1 44 [.int .i64 0, .int .i64 0], box b2 44 [.int .i64 s2.1.Num, .int .i64 s2.1.Den], box b3 44 [.int .i64 s4.1.Num, .int .i64 s4.1.Den]] := H35.pick [1, 0, 2, 3] (by kernel_rfl)
                    have H54 := H53.ofRows
                    have H55 : Hold h h14 [box b1 44 [.int .i64 0, .int .i64 0], own cd24 a4 x1.length c2 x1, box b2 44 [.int .i64 s2.1.Num, .int .i64 s2.1.Den], box b3 44 [.int .i64 s4.1.Num, .int .i64 s4.1.Den]] := H54.pick [1, 0, 2, 3] (by kernel_rfl)
                    have gs5 := M.ret_some gs5
                    subst gs5
                    exact Run_fall [2, 4, 5, 7, 8, 9, 10, 11, 33, 34, 46, 47] (by kernel_rfl) ⟨rfl, H55⟩
                  · have gs5 := (M.ite_some gs5).2 hb5
                    refine Run_skip ?_
                    refine Zs ?_
                    obtain ⟨x10, hx7, gs5⟩ := M.bind_some gs5
                    obtain ⟨hx7l, hx7u, hx7⟩ := M.idx_some hx7
                    have H36 : Hold h h14 [rowsP cd2 24 a4 x1.length c2 x1 [(i3.toNat, a10, x8.length, c7, x8)], box b1 44 [.int .i64 0, .int .i64 0], box b2 44 [.int .i64 s2.1.Num, .int .i64 s2.1.Den], box b3 44 [.int .i64 s4.1.Num, .int .i64 s4.1.Den]] := H35.pick [1, 0, 2, 3] (by kernel_rfl)
                    obtain ⟨a11, c8, H37⟩ := H36.pinRow hx7
                    have H38 : Hold h h14 [box b1 44 [.int .i64 0, .int .i64 0], rowsP cd2 24 a4 x1.length c2 x1 [((a_.length : Int).toNat, a11, x10.length, c8, x10), (i3.toNat, a10, x8.length, c7, x8)], box b2 44 [.int .i64 s2.1.Num, .int .i64 s2.1.Den], box b3 44 [.int .i64 s4.1.Num, .int .i64 s4.1.Den]] := H37.pick [1, 0, 2, 3] (by kernel_rfl)
                    obtain ⟨x11, hx8, gs5⟩ := M.bind_some gs5
                    obtain ⟨hx8l, hx8u, hx8⟩ := M.idx_some hx8
                    obtain ⟨x12, hx9, gs5⟩ := M.bind_some gs5
                    obtain ⟨hx9l, hx9u, hx9⟩ := M.idx_some hx9
                    have H39 : Hold h h14 [rowsP cd2 24 a4 x1.length c2 x1 [((a_.length : Int).toNat, a11, x10.length, c8, x10), (i3.toNat, a10, x8.length, c7, x8)], box b1 44 [.int .i64 0, .int .i64 0], box b2 44 [.int .i64 s2.1.Num, .int .i64 s2.1.Den], box b3 44 [.int .i64 s4.1.Num, .int .i64 s4.1.Den]] := H38.pick [1, 0, 2, 3] (by kernel_rfl)
                    obtain ⟨a12, c9, H40⟩ := H39.pinRow hx9
                    have H41 : Hold h h14 [box b1 44 [.int .i64 0, .int .i64 0], rowsP cd2 24 a4 x1.length c2 x1 [(i3.toNat, a12, x12.length, c9, x12), ((a_.length : Int).toNat, a11, x10.length, c8, x10), (i3.toNat, a10, x8.length, c7, x8)], box b2 44 [.int .i64 s2.1.Num, .int .i64 s2.1.Den], box b3 44 [.int .i64 s4.1.Num, .int .i64 s4.1.Den]] := H40.pick [1, 0, 2, 3] (by kernel_rfl)
                    obtain ⟨x13, hx10, gs5⟩ := M.bind_some gs5
                    obtain ⟨hx10l, hx10u, hx10⟩ := M.idx_some hx10
                    obtain ⟨x14, hx11, gs5⟩ := M.bind_some gs5
                    refine Run_D (fun x => Hold h x [box b1 44 [.int .i64 0, .int .i64 0], rowsP cd2 24 a4 x1.length c2 x1 [(i3.toNat, a12, x12.length, c9, x12), ((a_.length : Int).toNat, a11, x10.length, c8, x10), (i3.toNat, a10, x8.length, c7, x8)], box b2 44 [.int .i64 s2.1.Num, .int .i64 s2.1.Den], box b3 44 [.int .i64 s4.1.Num, .int .i64 s4.1.Den]]) (fun x => Hold h x [box b1 44 [.int .i64 0, .int .i64 0], rowsP cd2 24 a4 x1.length c2 x1 [(i3.toNat, a12, x12.length, c9, x12), ((a_.length : Int).toNat, a11, x10.length, c8, x10), (i3.toNat, a10, x8.length, c7, x8)], box b2 44 [.int .i64 s2.1.Num, .int .i64 s2.1.Den], box b3 44 [.int .i64 s4.1.Num, .int .i64 s4.1.Den]]) mixed (by kernel_rfl) H41 Hold.stable (fun x Hy => (show Hold h x [box b1 44 [.int .i64 0, .int .i64 0], rowsP cd2 24 a4 x1.length c2 x1 [(i3.toNat, a12, x12.length, c9, x12), ((a_.length : Int).toNat, a11, x10.length, c8, x10), (i3.toNat, a10, x8.length, c7, x8)], box b2 44 [.int .i64 s2.1.Num, .int .i64 s2.1.Den], box b3 44 [.int .i64 s4.1.Num, .int .i64 s4.1.Den]] from Hy).pick [0, 1, 2, 3] (by kernel_rfl)) ?_
                    refine DR_b 19 [.slice a4 x1.length c2, .int .i64 (a_.length : Int)] 0 (by kernel_rfl) (by kernel_rfl) (by kernel_rfl) (fun w => by kernel_rfl) ?_
                    refine DR_y 18 (i := 2) (.pointer (some (adr a4 ((a_.length : Int).toNat * 1)))) (by kernel_rfl) (by kernel_rfl) (by kernel_rfl) (fun hx Hx => (YE.of (Zi 22 24 1 (a4) (x1.length) (c2) .i64 ((a_.length : Int)) Tryz.underlying22 ((H35.rdRows 1 rfl).cell hx7).1 hx7l hx7u))) ?_
                    refine DR_y 17 (i := 3) (.slice a11 x10.length c8) (by kernel_rfl) (by kernel_rfl) (by kernel_rfl) (fun hx Hx => (YE.of (Zl 24 (adr a4 ((a_.length : Int).toNat * 1)) (.slice a11 x10.length c8) (Hx.cellPin 1 rfl 1 rfl)))) ?_
                    refine DR_b 16 [.int .i64 i2] 4 (by kernel_rfl) (by kernel_rfl) (by kernel_rfl) (fun w => by kernel_rfl) ?_
                    refine DR_y 15 (i := 5) (.pointer (some (adr a11 (i2.toNat * 1)))) (by kernel_rfl) (by kernel_rfl) (by kernel_rfl) (fun hx Hx => (YE.of (Zi 24 2 1 (a11) (x10.length) (c8) .i64 (i2) Tryz.underlying24 ((H38.rdPin 1 rfl 0 rfl).cell hx8).1 hx8l hx8u))) ?_
                    refine DR_y 14 (i := 6) (.int .i64 x11) (by kernel_rfl) (by kernel_rfl) (by kernel_rfl) (fun hx Hx => (YE.of (Zl 2 (adr a11 (i2.toNat * 1)) (.int .i64 x11) (cd2_cell (Hx.rdPin 1 rfl 1 rfl) hx8)))) ?_
                    refine DR_b 12 [.slice a4 x1.length c2, .int .i64 i3] 7 (by kernel_rfl) (by kernel_rfl) (by kernel_rfl) (fun w => by kernel_rfl) ?_
                    refine DR_y 11 (i := 9) (.pointer (some (adr a4 (i3.toNat * 1)))) (by kernel_rfl) (by kernel_rfl) (by kernel_rfl) (fun hx Hx => (YE.of (Zi 22 24 1 (a4) (x1.length) (c2) .i64 (i3) Tryz.underlying22 ((H38.rdRows 1 rfl).cell hx9).1 hx9l hx9u))) ?_
                    refine DR_y 10 (i := 10) (.slice a12 x12.length c9) (by kernel_rfl) (by kernel_rfl) (by kernel_rfl) (fun hx Hx => (YE.of (Zl 24 (adr a4 (i3.toNat * 1)) (.slice a12 x12.length c9) (Hx.cellPin 1 rfl 0 rfl)))) ?_
                    refine DR_b 9 [.int .i64 i2] 11 (by kernel_rfl) (by kernel_rfl) (by kernel_rfl) (fun w => by kernel_rfl) ?_
                    refine DR_y 8 (i := 12) (.pointer (some (adr a12 (i2.toNat * 1)))) (by kernel_rfl) (by kernel_rfl) (by kernel_rfl) (fun hx Hx => (YE.of (Zi 24 2 1 (a12) (x12.length) (c9) .i64 (i2) Tryz.underlying24 ((H41.rdPin 1 rfl 0 rfl).cell hx10).1 hx10l hx10u))) ?_
                    refine DR_y 7 (i := 13) (.int .i64 x13) (by kernel_rfl) (by kernel_rfl) (by kernel_rfl) (fun hx Hx => (YE.of (Zl 2 (adr a12 (i2.toNat * 1)) (.int .i64 x13) (cd2_cell (Hx.rdPin 1 rfl 0 rfl) hx10)))) ?_
                    refine DR_b 3 [.int .i64 (w64 (x11 - x13)), .int .i64 (a_.length : Int), .int .i64 i3, .int .i64 (w64 ((a_.length : Int) - i3))] 14 (by kernel_rfl) (by kernel_rfl) (by kernel_rfl) (fun w => by kernel_rfl) ?_
                    refine DR_y 2 (i := 18) (.agg #[.int .i64 x14.Num, .int .i64 x14.Den]) (by kernel_rfl) (by kernel_rfl) (by kernel_rfl) (fun hx Hx => (YE_call (f := 53) (args := #[.int .i64 (w64 (x11 - x13)), .int .i64 (w64 ((a_.length : Int) - i3))]) (v := .agg #[.int .i64 x14.Num, .int .i64 x14.Den]) (by kernel_rfl) ((w_impl_ratioOf hx (w64 (x11 - x13)) (w64 ((a_.length : Int) - i3)) _ _ hx11).mono fun _ _ ⟨e, H'⟩ => ⟨e, H'.ext⟩))) ?_
                    refine DR_e 1 19 (by kernel_rfl) (by kernel_rfl) (by kernel_rfl) (fun h16 H42 => ?_)
                    have H43 : Hold h h16 [box b1 44 [.int .i64 0, .int .i64 0], rowsP cd2 24 a4 x1.length c2 x1 [(i3.toNat, a12, x12.length, c9, x12), ((a_.length : Int).toNat, a11, x10.length, c8, x10), (i3.toNat, a10, x8.length, c7, x8)], box b2 44 [.int .i64 s2.1.Num, .int .i64 s2.1.Den], box b3 44 [.int .i64 s4.1.Num, .int .i64 s4.1.Den]] := H42
                    refine E_box (ty := 44) (cs := [.int .i64 0, .int .i64 0]) H43 (fun w => by kernel_rfl) (fun b4 h17 H44 => ?_)
                    refine ⟨fun x => Hold h x [box b1 44 [.int .i64 0, .int .i64 0], rowsP cd2 24 a4 x1.length c2 x1 [(i3.toNat, a12, x12.length, c9, x12), ((a_.length : Int).toNat, a11, x10.length, c8, x10), (i3.toNat, a10, x8.length, c7, x8)], box b2 44 [.int .i64 s2.1.Num, .int .i64 s2.1.Den], box b3 44 [.int .i64 s4.1.Num, .int .i64 s4.1.Den], box b4 44 [.int .i64 0, .int .i64 0]], fun x => Hold h x [box b4 44 [.int .i64 0, .int .i64 0], box b1 44 [.int .i64 0, .int .i64 0], rowsP cd2 24 a4 x1.length c2 x1 [(i3.toNat, a12, x12.length, c9, x12), ((a_.length : Int).toNat, a11, x10.length, c8, x10), (i3.toNat, a10, x8.length, c7, x8)], box b2 44 [.int .i64 s2.1.Num, .int .i64 s2.1.Den], box b3 44 [.int .i64 s4.1.Num, .int .i64 s4.1.Den]], H44, Hold.stable, fun x Hy => (show Hold h x [box b4 44 [.int .i64 0, .int .i64 0], box b1 44 [.int .i64 0, .int .i64 0], rowsP cd2 24 a4 x1.length c2 x1 [(i3.toNat, a12, x12.length, c9, x12), ((a_.length : Int).toNat, a11, x10.length, c8, x10), (i3.toNat, a10, x8.length, c7, x8)], box b2 44 [.int .i64 s2.1.Num, .int .i64 s2.1.Den], box b3 44 [.int .i64 s4.1.Num, .int .i64 s4.1.Den]] from Hy).pick [1, 2, 3, 4, 0] (by kernel_rfl), fun x Hy => (show Hold h x [box b1 44 [.int .i64 0, .int .i64 0], rowsP cd2 24 a4 x1.length c2 x1 [(i3.toNat, a12, x12.length, c9, x12), ((a_.length : Int).toNat, a11, x10.length, c8, x10), (i3.toNat, a10, x8.length, c7, x8)], box b2 44 [.int .i64 s2.1.Num, .int .i64 s2.1.Den], box b3 44 [.int .i64 s4.1.Num, .int .i64 s4.1.Den], box b4 44 [.int .i64 0, .int .i64 0]] from Hy).pick [0, 1, 2, 3] (by kernel_rfl), ?_⟩
                    refine DR_tail (i := 20) (by kernel_rfl) (by kernel_rfl) (by kernel_rfl) (fun h18 H45 => ?_)
                    have H46 : Hold h h18 [box b4 44 [.int .i64 0, .int .i64 0], box b1 44 [.int .i64 0, .int .i64 0], rowsP cd2 24 a4 x1.length c2 x1 [(i3.toNat, a12, x12.length, c9, x12), ((a_.length : Int).toNat, a11, x10.length, c8, x10), (i3.toNat, a10, x8.length, c7, x8)], box b2 44 [.int .i64 s2.1.Num, .int .i64 s2.1.Den], box b3 44 [.int .i64 s4.1.Num, .int .i64 s4.1.Den]] := H45
                    refine Run_E (by kernel_rfl) ?_
                    refine E_bput (t := 44) (off := 0) (us := [.int .i64 x14.Num, .int .i64 x14.Den]) (v := .agg #[.int .i64 x14.Num, .int .i64 x14.Den]) H46 (by kernel_rfl) (by kernel_rfl) rfl (by kernel_rfl) rfl (fun h19 H47 => ?_)
                    refine Run_nil (by kernel_rfl) ?_
                    refine Zk [2, 4, 5, 7, 8, 9, 10, 11, 13, 33, 34, 46, 47] [(2, .pointer (some ⟨b1, 0, none⟩)), (4, .int .i64 (a_.length : Int)), (5, .slice a4 x1.length c2), (7, .pointer (some ⟨b2, 0, none⟩)), (8, .bool s2.2), (9, .int .i64 i2), (10, .pointer (some ⟨b3, 0, none⟩)), (11, .bool s4.2), (13, .pointer (some ⟨b4, 0, none⟩)), (33, .int .i64 (a_.length : Int)), (34, .int .i64 i2), (46, .int .i64 (a_.length : Int)), (47, .int .i64 i3)] ?_
                    refine Zs ?_
                    obtain ⟨x15, gx15, gs5⟩ := M.bind_some gs5
                    refine Run_regC (j := 8) (C := fun x => Hold h x [box b4 44 [.int .i64 x14.Num, .int .i64 x14.Den], box b1 44 [.int .i64 0, .int .i64 0], rowsP cd2 24 a4 x1.length c2 x1 [(i3.toNat, a12, x12.length, c9, x12), ((a_.length : Int).toNat, a11, x10.length, c8, x10), (i3.toNat, a10, x8.length, c7, x8)], box b2 44 [.int .i64 s2.1.Num, .int .i64 s2.1.Den], box b3 44 [.int .i64 s4.1.Num, .int .i64 s4.1.Den]]) (by kernel_rfl) H47 (L' := [(2, .pointer (some ⟨b1, 0, none⟩)), (4, .int .i64 (a_.length : Int)), (5, .slice a4 x1.length c2), (7, .pointer (some ⟨b2, 0, none⟩)), (8, .bool s2.2), (9, .int .i64 i2), (10, .pointer (some ⟨b3, 0, none⟩)), (11, .bool s4.2), (13, .pointer (some ⟨b4, 0, none⟩)), (33, .int .i64 (a_.length : Int)), (34, .int .i64 i2), (46, .int .i64 (a_.length : Int)), (47, .int .i64 i3), (84, .bool x15)]) ?_ (fun h20 H48 => ?_)
                    · refine Zb [.bool s4.2, .bool (!s4.2)] 0 ?_
                      refine QRun_seq 8 [(2, .pointer (some ⟨b1, 0, none⟩)), (4, .int .i64 (a_.length : Int)), (5, .slice a4 x1.length c2), (7, .pointer (some ⟨b2, 0, none⟩)), (8, .bool s2.2), (9, .int .i64 i2), (10, .pointer (some ⟨b3, 0, none⟩)), (11, .bool s4.2), (13, .pointer (some ⟨b4, 0, none⟩)), (33, .int .i64 (a_.length : Int)), (34, .int .i64 i2), (46, .int .i64 (a_.length : Int)), (47, .int .i64 i3), (84, .bool x15)] ?_ ?_
                      · rcases Bool.eq_false_or_eq_true (!s4.2) with hb6 | hb6
                        · refine QRun_bool (!s4.2) true (by kernel_rfl) (fun w => by kernel_rfl) hb6 ?_
                          have gx15 := M.ret_some ((M.ite_some gx15).1 hb6)
                          refine QRun_n (by kernel_rfl) ?_
                          refine QRun_n (by kernel_rfl) ?_
                          refine QRun_n (by kernel_rfl) ?_
                          refine QRun_n (by kernel_rfl) ?_
                          refine QRun_bool true x15 (by kernel_rfl) (fun w => by kernel_rfl) gx15 ?_
                          exact Zd [2, 4, 5, 7, 8, 9, 10, 11, 13, 33, 34, 46, 47, 84]
                        · refine QRun_bool (!s4.2) false (by kernel_rfl) (fun w => by kernel_rfl) hb6 ?_
                          have gx15 := (M.ite_some gx15).2 hb6
                          obtain ⟨x16, hx12, gx15⟩ := M.bind_some gx15
                          have gx15 := M.ret_some gx15
                          refine Zy (.agg #[.int .i64 x14.Num, .int .i64 x14.Den]) (Y_cls fun hx Hx => (Y_loadA (t := 44) (n := 2) (p := ⟨b4, 0, none⟩) (cs := [.int .i64 x14.Num, .int .i64 x14.Den]) (by kernel_rfl) (fun w => by kernel_rfl) (by kernel_rfl) rfl (Hx.cells (n := 2) (off := 0) 0 rfl rfl))) ?_
                          refine Zy (.agg #[.int .i64 s4.1.Num, .int .i64 s4.1.Den]) (Y_cls fun hx Hx => (Y_loadA (t := 44) (n := 2) (p := ⟨b3, 0, none⟩) (cs := [.int .i64 s4.1.Num, .int .i64 s4.1.Den]) (by kernel_rfl) (fun w => by kernel_rfl) (by kernel_rfl) rfl (Hx.cells (n := 2) (off := 0) 4 rfl rfl))) ?_
                          refine Zy (.int .i64 x16) (Y_call (f := 86) (args := #[.agg #[.int .i64 x14.Num, .int .i64 x14.Den], .agg #[.int .i64 s4.1.Num, .int .i64 s4.1.Den]]) (v := .int .i64 x16) (by kernel_rfl) fun hx Hx => (w_impl_compareRatios hx x14 s4.1 _ _ hx12).mono fun _ _ ⟨e, H'⟩ => ⟨e, Hx.call H' rfl⟩) ?_
                          refine Zb [.bool (decide (x16 < 0))] 6 ?_
                          refine QRun_bool (decide (x16 < 0)) x15 (by kernel_rfl) (fun w => by kernel_rfl) gx15 ?_
                          exact Zd [2, 4, 5, 7, 8, 9, 10, 11, 13, 33, 34, 46, 47, 84]
                      exact Zd [2, 4, 5, 7, 8, 9, 10, 11, 13, 33, 34, 46, 47, 84]
                    have H49 : Hold h h20 [box b4 44 [.int .i64 x14.Num, .int .i64 x14.Den], box b1 44 [.int .i64 0, .int .i64 0], rowsP cd2 24 a4 x1.length c2 x1 [(i3.toNat, a12, x12.length, c9, x12), ((a_.length : Int).toNat, a11, x10.length, c8, x10), (i3.toNat, a10, x8.length, c7, x8)], box b2 44 [.int .i64 s2.1.Num, .int .i64 s2.1.Den], box b3 44 [.int .i64 s4.1.Num, .int .i64 s4.1.Den]] := H48
                    refine Zc (x15) (fun hb7 => ?_) (fun hb7 => ?_)
                    · have gs5 := (M.ite_some gs5).1 hb7
                      refine Run_ops ?_
                      refine Zz (.agg #[.int .i64 x14.Num, .int .i64 x14.Den]) (Y_loadA (t := 44) (n := 2) (p := ⟨b4, 0, none⟩) (cs := [.int .i64 x14.Num, .int .i64 x14.Den]) (by kernel_rfl) (fun w => by kernel_rfl) (by kernel_rfl) rfl (H49.cells (n := 2) (off := 0) 0 rfl rfl)) ?_
                      have H51 : Hold h h20 [box b3 44 [.int .i64 s4.1.Num, .int .i64 s4.1.Den], box b4 44 [.int .i64 x14.Num, .int .i64 x14.Den], box b1 44 [.int .i64 0, .int .i64 0], rowsP cd2 24 a4 x1.length c2 x1 [(i3.toNat, a12, x12.length, c9, x12), ((a_.length : Int).toNat, a11, x10.length, c8, x10), (i3.toNat, a10, x8.length, c7, x8)], box b2 44 [.int .i64 s2.1.Num, .int .i64 s2.1.Den]] := H49.pick [4, 0, 1, 2, 3] (by kernel_rfl)
                      refine Run_E (by kernel_rfl) ?_
                      refine E_bput (t := 44) (off := 0) (us := [.int .i64 x14.Num, .int .i64 x14.Den]) (v := .agg #[.int .i64 x14.Num, .int .i64 x14.Den]) H51 (by kernel_rfl) (by kernel_rfl) rfl (by kernel_rfl) rfl (fun h21 H50 => ?_)
                      refine Zr [.bool true] 2 ?_
                      refine Run_nil (by kernel_rfl) ?_
                      refine Zk [2, 4, 5, 7, 8, 9, 10, 11, 33, 34, 46, 47] [(2, .pointer (some ⟨b1, 0, none⟩)), (4, .int .i64 (a_.length : Int)), (5, .slice a4 x1.length c2), (7, .pointer (some ⟨b2, 0, none⟩)), (8, .bool s2.2), (9, .int .i64 i2), (10, .pointer (some ⟨b3, 0, none⟩)), (11, .bool true), (33, .int .i64 (a_.length : Int)), (34, .int .i64 i2), (46, .int .i64 (a_.length : Int)), (47, .int .i64 i3)] ?_
                      refine Run_blk ?_
                      have H56 : Hold h h21 [rowsP cd2 24 a4 x1.length c2 x1 [(i3.toNat, a12, x12.length, c9, x12), ((a_.length : Int).toNat, a11, x10.length, c8, x10), (i3.toNat, a10, x8.length, c7, x8)], box b3 44 [.int .i64 x14.Num, .int .i64 x14.Den], box b4 44 [.int .i64 x14.Num, .int .i64 x14.Den], box b1 44 [.int .i64 0, .int .i64 0], box b2 44 [.int .i64 s2.1.Num, .int .i64 s2.1.Den]] := H50.pick [3, 0, 1, 2, 4] (by kernel_rfl)
                      have H57 := H56.ofRows
                      have H58 : Hold h h21 [box b1 44 [.int .i64 0, .int .i64 0], own cd24 a4 x1.length c2 x1, box b2 44 [.int .i64 s2.1.Num, .int .i64 s2.1.Den], box b3 44 [.int .i64 x14.Num, .int .i64 x14.Den]] := H57.pick [3, 0, 4, 1] (by kernel_rfl)
                      have gs5 := M.ret_some gs5
                      subst gs5
                      exact Run_fall [2, 4, 5, 7, 8, 9, 10, 11, 33, 34, 46, 47] (by kernel_rfl) ⟨rfl, H58⟩
                    · have gs5 := (M.ite_some gs5).2 hb7
                      refine Run_skip ?_
                      refine Run_blk ?_
                      have H59 : Hold h h20 [rowsP cd2 24 a4 x1.length c2 x1 [(i3.toNat, a12, x12.length, c9, x12), ((a_.length : Int).toNat, a11, x10.length, c8, x10), (i3.toNat, a10, x8.length, c7, x8)], box b4 44 [.int .i64 x14.Num, .int .i64 x14.Den], box b1 44 [.int .i64 0, .int .i64 0], box b2 44 [.int .i64 s2.1.Num, .int .i64 s2.1.Den], box b3 44 [.int .i64 s4.1.Num, .int .i64 s4.1.Den]] := H49.pick [2, 0, 1, 3, 4] (by kernel_rfl)
                      have H60 := H59.ofRows
                      have H61 : Hold h h20 [box b1 44 [.int .i64 0, .int .i64 0], own cd24 a4 x1.length c2 x1, box b2 44 [.int .i64 s2.1.Num, .int .i64 s2.1.Den], box b3 44 [.int .i64 s4.1.Num, .int .i64 s4.1.Den]] := H60.pick [2, 0, 3, 4] (by kernel_rfl)
                      have gs5 := M.ret_some gs5
                      subst gs5
                      exact Run_fall [2, 4, 5, 7, 8, 9, 10, 11, 33, 34, 46, 47] (by kernel_rfl) ⟨rfl, H61⟩
              · have gx7 := M.for_end gx7 hb4
                subst gx7
                refine Run_exit (k' := _) rfl ?_
                exact Run_fall [2, 4, 5, 7, 8, 10, 33, 34] (by kernel_rfl) ⟨rfl, H30⟩
      · have gx4 := M.for_end gx4 hb2
        subst gx4
        refine Run_exit (k' := _) rfl ?_
        have H75 : Hold h h10 [box b1 44 [.int .i64 0, .int .i64 0], box b2 44 [.int .i64 s2.1.Num, .int .i64 s2.1.Den]] := H22.pick [0, 2] (by kernel_rfl)
        exact Run_fall [2, 7, 8] (by kernel_rfl) ⟨rfl, H75⟩
  · refine Run_block ?_
    have hn1 := (H3.len 0 rfl)
    have H79 : Hold h h3 [own cd24 a2 ([l1].length) 1 [l1], box b1 44 [.int .i64 0, .int .i64 0]] := by rw [hn1]; exact H3
    have H80 : Hold h h3 [box b1 44 [.int .i64 0, .int .i64 0], own cd24 a2 ([l1].length) 1 [l1]] := H79.pick [1, 0] (by kernel_rfl)
    refine Run_keep [0, 2, 4, 5, 19, 20] (L' := [(0, .slice aa_ a_.length ca_), (2, .pointer (some ⟨b1, 0, none⟩)), (4, .int .i64 (a_.length : Int)), (5, .slice a2 ([l1].length) 1), (19, .int .i64 (a_.length : Int)), (20, .int .i64 0)]) (by first | (rw [hn1]; kernel_rfl) | (simp only [hn1]; kernel_rfl) | kernel_rfl) ?_
    refine Run_loop (fun m L' h' => ∃ (i1 : Int) (s1 : (List (List Int))) (a3 : Option Addr) (c1 : Nat), 0 ≤ i1 ∧ M.forN (a_.length : Int) _ _ n m i1 s1 = some x1 ∧ L' = [(0, .slice aa_ a_.length ca_), (2, .pointer (some ⟨b1, 0, none⟩)), (4, .int .i64 (a_.length : Int)), (5, .slice a3 s1.length c1), (19, .int .i64 (a_.length : Int)), (20, .int .i64 i1)] ∧ Hold h h' [box b1 44 [.int .i64 0, .int .i64 0], own cd24 a3 s1.length c1 s1]) ((a_.length : Int) - 0 : Int).toNat ⟨0, [l1], a2, 1, Int.le_refl _, gx1, rfl, H80⟩ ?_
    rintro my1 _ h4 ⟨i1, s1, a3, c1, hloy1', gx1, rfl, H4⟩
    refine Zs ?_
    refine Zq [.bool (decide (i1 < (a_.length : Int)))] [0, 2, 4, 5, 19, 20, 21] [(0, .slice aa_ a_.length ca_), (2, .pointer (some ⟨b1, 0, none⟩)), (4, .int .i64 (a_.length : Int)), (5, .slice a3 s1.length c1), (19, .int .i64 (a_.length : Int)), (20, .int .i64 i1), (21, .bool (decide (i1 < (a_.length : Int))))] ?_
    refine Zs ?_
    refine Zc (decide (i1 < (a_.length : Int))) (fun hb1 => ?_) (fun hb1 => ?_)
    · obtain ⟨my1, y1, rfl, hB1, hgoy1, houty1⟩ := M.for_go gx1 hb1
      have hlty1 := of_decide_eq_true hb1
      refine Run_skip ?_
      refine Zs ?_
      refine Run_block ?_
      refine Zs ?_
      refine Zq [.int .i64 i1, .int .i64 i1] [0, 2, 4, 5, 6, 19, 20] [(0, .slice aa_ a_.length ca_), (2, .pointer (some ⟨b1, 0, none⟩)), (4, .int .i64 (a_.length : Int)), (5, .slice a3 s1.length c1), (6, .int .i64 i1), (19, .int .i64 (a_.length : Int)), (20, .int .i64 i1)] ?_
      refine Run_ops ?_
      obtain ⟨x2, hx1, hB1⟩ := M.bind_some hB1
      obtain ⟨hx1l, hx1u, hx1⟩ := M.idx_some hx1
      have H6 : Hold h h4 [own cd24 a3 s1.length c1 s1, box b1 44 [.int .i64 0, .int .i64 0]] := H4.pick [1, 0] (by kernel_rfl)
      have H7 := H6.toRows
      obtain ⟨a5, c3, H8⟩ := H7.pinRow hx1
      have H9 : Hold h h4 [box b1 44 [.int .i64 0, .int .i64 0], rowsP cd2 24 a3 s1.length c1 s1 [(i1.toNat, a5, x2.length, c3, x2)]] := H8.pick [1, 0] (by kernel_rfl)
      refine Zr [.slice a3 s1.length c1, .slice aa_ a_.length ca_, .slice a3 s1.length c1, .int .i64 i1] 0 ?_
      refine Zz (.pointer (some (adr a3 (i1.toNat * 1)))) (Zi 22 24 1 (a3) (s1.length) (c1) .i64 (i1) Tryz.underlying22 ((H4.rd 1 rfl).cell hx1).1 hx1l hx1u) ?_
      refine Zz (.slice a5 x2.length c3) (Zl 24 (adr a3 (i1.toNat * 1)) (.slice a5 x2.length c3) (H9.cellPin 1 rfl 0 rfl)) ?_
      obtain ⟨x3, hx2, hB1⟩ := M.bind_some hB1
      refine Run_E (by kernel_rfl) ?_
      refine E_call (f := 65) (args := #[.slice aa_ a_.length ca_, .slice a5 x2.length c3]) (w_impl_timesVector h4 a_ aa_ ca_ (ra_.at H9.ext) x2 a5 c3 (H9.rdPin 1 rfl 0 rfl) _ _ hx2) (by kernel_rfl) (fun v1 h6 hp1 => ?_)
      obtain ⟨a6, c4, rfl, H10⟩ := hp1
      have H11 : Hold h h6 [own cd2 a6 x3.length c4 x3, box b1 44 [.int .i64 0, .int .i64 0], rowsP cd2 24 a3 s1.length c1 s1 [(i1.toNat, a5, x2.length, c3, x2)]] := H9.call H10 rfl
      refine Run_E (by kernel_rfl) ?_
      refine E_lit1 (ey := 24) (n := x3.length) H11 (fun w => by kernel_rfl) rfl (fun a7 h7 H12 => ?_)
      obtain ⟨l2, hl2, hB1⟩ := M.bind_some hB1
      have hl2 := M.app_some hl2
      have H13 : Hold h h7 [rowsP cd2 24 a3 s1.length c1 s1 [(i1.toNat, a5, x2.length, c3, x2)], own cd24 a7 1 1 [x3], box b1 44 [.int .i64 0, .int .i64 0]] := H12.pick [2, 0, 1] (by kernel_rfl)
      have H14 := H13.ofRows
      have H15 : Hold h h7 [own cd24 a7 1 1 [x3], own cd24 a3 s1.length c1 s1, box b1 44 [.int .i64 0, .int .i64 0]] := H14.pick [1, 0, 2] (by kernel_rfl)
      have H16 : Hold h h7 [own cd24 a3 s1.length c1 s1, own cd24 a7 1 1 [x3], box b1 44 [.int .i64 0, .int .i64 0]] := H15.pick [1, 0, 2] (by kernel_rfl)
      refine Run_E (by kernel_rfl) ?_
      refine E_app (C := cd24) (t := 22) (ty := 22) (n := s1.length) (m := 1) H16 cd24_ti rfl Tryz.underlying22 (by decide) (by kernel_rfl) hl2 (fun a8 c5 h8 H17 => ?_)
      refine Zr [.slice a8 l2.length c5] 9 ?_
      refine Run_nil (by kernel_rfl) ?_
      refine Zk [0, 2, 4, 5, 19, 20] [(0, .slice aa_ a_.length ca_), (2, .pointer (some ⟨b1, 0, none⟩)), (4, .int .i64 (a_.length : Int)), (5, .slice a8 l2.length c5), (19, .int .i64 (a_.length : Int)), (20, .int .i64 i1)] ?_
      refine Run_blk ?_
      refine Zg 2 [(0, .slice aa_ a_.length ca_), (2, .pointer (some ⟨b1, 0, none⟩)), (4, .int .i64 (a_.length : Int)), (5, .slice a8 l2.length c5), (19, .int .i64 (a_.length : Int)), (20, .int .i64 (i1 + 1))] ?_ ?_
      · refine Zy (.int .i64 (i1 + 1)) (Y_eq (v := .int .i64 (w64 (i1 + 1))) (Y_pure (fun w => by kernel_rfl)) (by rw [w64_eq _ (by omega)])) ?_
        refine Zb [.int .i64 (i1 + 1)] 1 ?_
        exact Zd [0, 2, 4, 5, 19, 20]
      have H18 : Hold h h8 [box b1 44 [.int .i64 0, .int .i64 0], own cd24 a8 l2.length c5 l2] := H17.pick [1, 0] (by kernel_rfl)
      have hB1 := M.ret_some hB1
      have gx1 := hgoy1 _ hB1.symm
      exact Run_again [0, 2, 4, 5, 19, 20] (by kernel_rfl) my1 (Nat.lt_succ_self _) ⟨i1 + 1, l2, a8, c5, by omega, gx1, rfl, H18⟩
    · have gx1 := M.for_end gx1 hb1
      subst gx1
      refine Run_exit (k' := _) rfl ?_
      have H19 : Hold h h4 [own cd24 a3 s1.length c1 s1, box b1 44 [.int .i64 0, .int .i64 0]] := H4.pick [1, 0] (by kernel_rfl)
      have H20 : Hold h h4 [box b1 44 [.int .i64 0, .int .i64 0], own cd24 a3 s1.length c1 s1] := H19.pick [1, 0] (by kernel_rfl)
      exact Run_fall [2, 4, 5] (by kernel_rfl) ⟨a3, c1, rfl, H20⟩

set_option maxRecDepth 100000 in
set_option maxHeartbeats 4000000 in
theorem w_impl_shifted_1 (h : Heap) (i : Int) (j : Int) (z0 : List (List Int)) {Sz0 : Bs} (az0 : Option Addr) (cz0 : Nat) (rz0 : Rd cd24 h Sz0 az0 cz0 z0) (bz0 : Nat) (vz0 : VarAt h bz0 22 [.slice az0 z0.length cz0]) (z1 : TRatio) (bz1 : Nat) (vz1 : VarAt h bz1 44 [.int .i64 z1.Num, .int .i64 z1.Den]) (n : Nat) (r : Int) (hF : impl_shifted_1 i j z0 z1 n = some r) :
    Fn Tryz.prog 137 #[.int .i64 i, .int .i64 j, .pointer (some ⟨bz0, 0, none⟩), .pointer (some ⟨bz1, 0, none⟩)] h fun v h' => v = .int .i64 r ∧ h' = h := by
  unfold impl_shifted_1 at hF
  refine Fn_enter (args := [.int .i64 i, .int .i64 j, .pointer (some ⟨bz0, 0, none⟩), .pointer (some ⟨bz1, 0, none⟩)]) Tryz.func137 rfl (by kernel_rfl) (by kernel_rfl) (fun w0 _ => ?_)
  refine Zs ?_
  refine Zq [.int .i64 0] [0, 1, 2, 3] [(0, .int .i64 i), (1, .int .i64 j), (2, .pointer (some ⟨bz0, 0, none⟩)), (3, .pointer (some ⟨bz1, 0, none⟩))] ?_
  refine Zs ?_
  refine Zs ?_
  obtain ⟨x1, hx1, hF⟩ := M.bind_some hF
  obtain ⟨hx1l, hx1u, hx1⟩ := M.idx_some hx1
  obtain ⟨a1, c1, hc1, r1⟩ := rz0.row hx1
  obtain ⟨x2, hx2, hF⟩ := M.bind_some hF
  obtain ⟨hx2l, hx2u, hx2⟩ := M.idx_some hx2
  refine Zg 8 [(0, .int .i64 i), (1, .int .i64 j), (2, .pointer (some ⟨bz0, 0, none⟩)), (3, .pointer (some ⟨bz1, 0, none⟩)), (14, .bool (x2 == (-1000000000000000)))] ?_ ?_
  · refine Zy (.slice az0 z0.length cz0) (Zl 22 (⟨bz0, 0, none⟩) (.slice az0 z0.length cz0) (VarAt.cell vz0 rfl)) ?_
    refine Zb [.int .i64 i] 1 ?_
    refine Zy (.pointer (some (adr az0 (i.toNat * 1)))) (Zi 22 24 1 (az0) (z0.length) (cz0) .i64 (i) Tryz.underlying22 (rz0.cell hx1).1 hx1l hx1u) ?_
    refine Zy (.slice a1 x1.length c1) (Zl 24 (adr az0 (i.toNat * 1)) (.slice a1 x1.length c1) hc1) ?_
    refine Zb [.int .i64 j] 4 ?_
    refine Zy (.pointer (some (adr a1 (j.toNat * 1)))) (Zi 24 2 1 (a1) (x1.length) (c1) .i64 (j) Tryz.underlying24 (r1.cell hx2).1 hx2l hx2u) ?_
    refine Zy (.int .i64 x2) (Zl 2 (adr a1 (j.toNat * 1)) (.int .i64 x2) (cd2_cell r1 hx2)) ?_
    refine Zb [.bool (x2 == (-1000000000000000))] 7 ?_
    exact Zd [0, 1, 2, 3, 14]
  refine Zc (x2 == (-1000000000000000)) (fun hb1 => ?_) (fun hb1 => ?_)
  · have hF := (M.ite_some hF).1 hb1
    refine Zs ?_
    refine Zq [.int .i64 (-1000000000000000)] [6] [(6, .int .i64 (-1000000000000000))] ?_
    have hF := M.ret_some hF
    subst hF
    exact Run_ret1 rfl (ResV_tmp (v := .int .i64 (-1000000000000000)) (by kernel_rfl)) ⟨rfl, rfl⟩
  · have hF := (M.ite_some hF).2 hb1
    refine Run_skip ?_
    refine Zs ?_
    obtain ⟨x3, hx3, hF⟩ := M.bind_some hF
    obtain ⟨hx3l, hx3u, hx3⟩ := M.idx_some hx3
    obtain ⟨a2, c2, hc2, r2⟩ := rz0.row hx3
    obtain ⟨x4, hx4, hF⟩ := M.bind_some hF
    obtain ⟨hx4l, hx4u, hx4⟩ := M.idx_some hx4
    refine Run_draw 14 mixed (by kernel_rfl) (by kernel_rfl) (L' := [(6, .int .i64 (w64 ((w64 (z1.Den * x4)) - z1.Num)))]) ?_ ?_
    · refine Zb [.pointer (some ⟨bz1, 1, none⟩)] 0 ?_
      refine Zy (.int .i64 z1.Den) (Zl 2 (⟨bz1, 1, none⟩) (.int .i64 z1.Den) (VarAt.cell vz1 rfl)) ?_
      refine Zy (.slice az0 z0.length cz0) (Zl 22 (⟨bz0, 0, none⟩) (.slice az0 z0.length cz0) (VarAt.cell vz0 rfl)) ?_
      refine Zb [.int .i64 i] 3 ?_
      refine Zy (.pointer (some (adr az0 (i.toNat * 1)))) (Zi 22 24 1 (az0) (z0.length) (cz0) .i64 (i) Tryz.underlying22 (rz0.cell hx3).1 hx3l hx3u) ?_
      refine Zy (.slice a2 x3.length c2) (Zl 24 (adr az0 (i.toNat * 1)) (.slice a2 x3.length c2) hc2) ?_
      refine Zb [.int .i64 j] 6 ?_
      refine Zy (.pointer (some (adr a2 (j.toNat * 1)))) (Zi 24 2 1 (a2) (x3.length) (c2) .i64 (j) Tryz.underlying24 (r2.cell hx4).1 hx4l hx4u) ?_
      refine Zy (.int .i64 x4) (Zl 2 (adr a2 (j.toNat * 1)) (.int .i64 x4) (cd2_cell r2 hx4)) ?_
      refine Zb [.int .i64 (w64 (z1.Den * x4)), .pointer (some ⟨bz1, 0, none⟩)] 9 ?_
      refine Zy (.int .i64 z1.Num) (Zl 2 (⟨bz1, 0, none⟩) (.int .i64 z1.Num) (VarAt.cell vz1 rfl)) ?_
      refine Zb [.int .i64 (w64 ((w64 (z1.Den * x4)) - z1.Num)), .int .i64 (w64 ((w64 (z1.Den * x4)) - z1.Num))] 12 ?_
      exact Zd [6]
    have hF := M.ret_some hF
    subst hF
    exact Run_ret1 rfl (ResV_tmp (v := .int .i64 (w64 ((w64 (z1.Den * x4)) - z1.Num))) (by kernel_rfl)) ⟨rfl, rfl⟩

set_option maxRecDepth 100000 in
set_option maxHeartbeats 4000000 in
theorem w_impl_matrixBy_F_impl_shifted_1 (h : Heap) (m_ : Int) (n_ : Int) (entry0 : List (List Int)) (aentry0 : Option Addr) (centry0 : Nat) (rentry0 : Rd cd24 h (Lt h) aentry0 centry0 entry0) (bentry0 : Nat) (ventry0 : VarAt h bentry0 22 [.slice aentry0 entry0.length centry0]) (entry1 : TRatio) (bentry1 : Nat) (ventry1 : VarAt h bentry1 44 [.int .i64 entry1.Num, .int .i64 entry1.Den]) (n : Nat) (r : (List (List Int))) (hF : impl_matrixBy_F_impl_shifted_1 m_ n_ entry0 entry1 n = some r) :
    Fn Tryz.prog 109 #[.int .i64 m_, .int .i64 n_, .func (.func 137) #[] #[.pointer (some ⟨bentry0, 0, none⟩), .pointer (some ⟨bentry1, 0, none⟩)]] h fun v h' => ∃ (a0 : Option Addr) (c0 : Nat), v = .slice a0 r.length c0 ∧ Hold h h' [own cd24 a0 r.length c0 r] := by
  unfold impl_matrixBy_F_impl_shifted_1 at hF
  refine Fn_enter (args := [.int .i64 m_, .int .i64 n_, .func (.func 137) #[] #[.pointer (some ⟨bentry0, 0, none⟩), .pointer (some ⟨bentry1, 0, none⟩)]]) Tryz.func109 rfl (by kernel_rfl) (by kernel_rfl) (fun w0 _ => ?_)
  have H0 := Hold.init h
  refine Zs ?_
  refine Zq [.slice none 0 0] [0, 1, 2] [(0, .int .i64 m_), (1, .int .i64 n_), (2, .func (.func 137) #[] #[.pointer (some ⟨bentry0, 0, none⟩), .pointer (some ⟨bentry1, 0, none⟩)])] ?_
  refine Zs ?_
  refine Run_ops ?_
  refine Zr [.int .i64 m_] 0 ?_
  obtain ⟨l1, hl1, hF⟩ := M.bind_some hF
  have hl1 := M.make_some hl1
  refine Run_E (by kernel_rfl) ?_
  refine E_make cd24 [] (kl := .i64) (kc := .i64) H0 cd24_ti Tryz.underlying22 (by decide) cd24_zero (by kernel_rfl) hl1 (fun a1 h1 H1 => ?_)
  refine Zr [.slice a1 l1.length l1.length] 2 ?_
  refine Run_nil (by kernel_rfl) ?_
  refine Zk [1, 2, 7] [(1, .int .i64 n_), (2, .func (.func 137) #[] #[.pointer (some ⟨bentry0, 0, none⟩), .pointer (some ⟨bentry1, 0, none⟩)]), (7, .slice a1 l1.length l1.length)] ?_
  refine Zs ?_
  refine Zs ?_
  refine Zq [.slice a1 l1.length l1.length, .int .i64 (l1.length : Int), .int .i64 0] [1, 2, 7, 13, 14] [(1, .int .i64 n_), (2, .func (.func 137) #[] #[.pointer (some ⟨bentry0, 0, none⟩), .pointer (some ⟨bentry1, 0, none⟩)]), (7, .slice a1 l1.length l1.length), (13, .int .i64 (l1.length : Int)), (14, .int .i64 0)] ?_
  obtain ⟨x1, gx1, hF⟩ := M.bind_some hF
  obtain ⟨hloy1, hhiy1, gx1⟩ := M.for_start gx1
  refine Run_join (fun L' h' => L' = [(7, .slice a1 l1.length l1.length)] ∧ Hold h h' [own cd24 a1 l1.length l1.length x1]) ?_ ?_
  · rintro _ h3 ⟨rfl, H3⟩
    refine Zs ?_
    refine Zq [.slice a1 l1.length l1.length, .slice a1 l1.length l1.length] [6] [(6, .slice a1 l1.length l1.length)] ?_
    have hF := M.ret_some hF
    subst hF
    have H20 := H3.norm
    exact Run_ret1 rfl (ResV_tmp (v := .slice a1 l1.length l1.length) (by kernel_rfl)) ⟨a1, l1.length, (by simp only [(H3.len 0 rfl)]), H20⟩
  · refine Run_block ?_
    refine Zk [1, 2, 7, 13, 14] [(1, .int .i64 n_), (2, .func (.func 137) #[] #[.pointer (some ⟨bentry0, 0, none⟩), .pointer (some ⟨bentry1, 0, none⟩)]), (7, .slice a1 l1.length l1.length), (13, .int .i64 (l1.length : Int)), (14, .int .i64 0)] ?_
    refine Run_loop (fun m L' h' => ∃ (i1 : Int) (s1 : (List (List Int))), 0 ≤ i1 ∧ M.forN (l1.length : Int) _ _ n m i1 s1 = some x1 ∧ L' = [(1, .int .i64 n_), (2, .func (.func 137) #[] #[.pointer (some ⟨bentry0, 0, none⟩), .pointer (some ⟨bentry1, 0, none⟩)]), (7, .slice a1 l1.length l1.length), (13, .int .i64 (l1.length : Int)), (14, .int .i64 i1)] ∧ Hold h h' [own cd24 a1 l1.length l1.length s1]) ((l1.length : Int) - 0 : Int).toNat ⟨0, l1, Int.le_refl _, gx1, rfl, H1⟩ ?_
    rintro my1 _ h2 ⟨i1, s1, hloy1', gx1, rfl, H2⟩
    refine Zs ?_
    refine Zq [.bool (decide (i1 < (l1.length : Int)))] [1, 2, 7, 13, 14, 15] [(1, .int .i64 n_), (2, .func (.func 137) #[] #[.pointer (some ⟨bentry0, 0, none⟩), .pointer (some ⟨bentry1, 0, none⟩)]), (7, .slice a1 l1.length l1.length), (13, .int .i64 (l1.length : Int)), (14, .int .i64 i1), (15, .bool (decide (i1 < (l1.length : Int))))] ?_
    refine Zs ?_
    refine Zc (decide (i1 < (l1.length : Int))) (fun hb1 => ?_) (fun hb1 => ?_)
    · obtain ⟨my1, y1, rfl, hB1, hgoy1, houty1⟩ := M.for_go gx1 hb1
      have hlty1 := of_decide_eq_true hb1
      refine Run_skip ?_
      refine Zs ?_
      refine Run_block ?_
      refine Zs ?_
      refine Zq [.int .i64 i1, .int .i64 i1] [1, 2, 7, 8, 13, 14] [(1, .int .i64 n_), (2, .func (.func 137) #[] #[.pointer (some ⟨bentry0, 0, none⟩), .pointer (some ⟨bentry1, 0, none⟩)]), (7, .slice a1 l1.length l1.length), (8, .int .i64 i1), (13, .int .i64 (l1.length : Int)), (14, .int .i64 i1)] ?_
      refine Zs ?_
      refine Run_ops ?_
      refine Zr [.slice a1 l1.length l1.length, .int .i64 i1, .int .i64 n_] 0 ?_
      obtain ⟨l2, hl2, hB1⟩ := M.bind_some hB1
      have hl2 := M.make_some hl2
      refine Run_E (by kernel_rfl) ?_
      refine E_make cd2 0 (kl := .i64) (kc := .i64) H2 cd2_ti Tryz.underlying24 (by decide) cd2_zero (by kernel_rfl) hl2 (fun a2 h4 H4 => ?_)
      obtain ⟨x2, hx1, hB1⟩ := M.bind_some hB1
      obtain ⟨hx1l, hx1u, hx1⟩ := M.idx_some hx1
      refine Zz (.pointer (some (adr a1 (i1.toNat * 1)))) (Zi 22 24 1 (a1) (l1.length) (l1.length) .i64 (i1) Tryz.underlying22 ((H4.rd 1 rfl).cell hx1).1 hx1l (by rw [← (H4.len 1 rfl)]; exact hx1u)) ?_
      obtain ⟨l3, hu1, hB1⟩ := M.bind_some hB1
      have hu1 := M.upd_some hu1
      have H6 : Hold h h4 [own cd24 a1 l1.length l1.length s1, own cd2 a2 l2.length l2.length l2] := H4.pick [1, 0] (by kernel_rfl)
      have H7 : Hold h h4 [own cd2 a2 l2.length l2.length l2, own cd24 a1 l1.length l1.length s1] := H6.pick [1, 0] (by kernel_rfl)
      have H8 : Hold h h4 [own cd24 a1 l1.length l1.length s1, own cd2 a2 l2.length l2.length l2] := H7.pick [1, 0] (by kernel_rfl)
      refine Run_E (by kernel_rfl) ?_
      refine E_putRow (t := 24) (j := i1) H8 (by kernel_rfl) (by kernel_rfl) hu1 (fun h5 H5 => ?_)
      refine Run_nil (by kernel_rfl) ?_
      refine Zk [1, 2, 7, 8, 13, 14] [(1, .int .i64 n_), (2, .func (.func 137) #[] #[.pointer (some ⟨bentry0, 0, none⟩), .pointer (some ⟨bentry1, 0, none⟩)]), (7, .slice a1 l1.length l1.length), (8, .int .i64 i1), (13, .int .i64 (l1.length : Int)), (14, .int .i64 i1)] ?_
      refine Zs ?_
      obtain ⟨x3, hx2, hB1⟩ := M.bind_some hB1
      obtain ⟨hx2l, hx2u, hx2⟩ := M.idx_some hx2
      have H9 := H5.toRows
      obtain ⟨a3, c1, H10⟩ := H9.pinRow hx2
      refine Zg 6 [(1, .int .i64 n_), (2, .func (.func 137) #[] #[.pointer (some ⟨bentry0, 0, none⟩), .pointer (some ⟨bentry1, 0, none⟩)]), (7, .slice a1 l1.length l1.length), (8, .int .i64 i1), (13, .int .i64 (l1.length : Int)), (14, .int .i64 i1), (26, .int .i64 (x3.length : Int)), (27, .int .i64 0)] ?_ ?_
      · refine Zb [.slice a1 l1.length l1.length, .int .i64 i1] 0 ?_
        refine Zy (.pointer (some (adr a1 (i1.toNat * 1)))) (Zi 22 24 1 (a1) (l1.length) (l1.length) .i64 (i1) Tryz.underlying22 ((H5.rd 0 rfl).cell hx2).1 hx2l (by rw [← (H5.len 0 rfl)]; exact hx2u)) ?_
        refine Zy (.slice a3 x3.length c1) (Zl 24 (adr a1 (i1.toNat * 1)) (.slice a3 x3.length c1) (H10.cellPin 0 rfl 0 rfl)) ?_
        refine Zb [.int .i64 (x3.length : Int), .int .i64 0] 4 ?_
        exact Zd [1, 2, 7, 8, 13, 14, 26, 27]
      obtain ⟨x4, gx4, hB1⟩ := M.bind_some hB1
      obtain ⟨hloy2, hhiy2, gx4⟩ := M.for_start gx4
      refine Run_join (fun L' h' => L' = [(1, .int .i64 n_), (2, .func (.func 137) #[] #[.pointer (some ⟨bentry0, 0, none⟩), .pointer (some ⟨bentry1, 0, none⟩)]), (7, .slice a1 l1.length l1.length), (13, .int .i64 (l1.length : Int)), (14, .int .i64 i1)] ∧ Hold h h' [own cd24 a1 l1.length l1.length x4]) ?_ ?_
      · rintro _ h7 ⟨rfl, H12⟩
        refine Run_blk ?_
        refine Zg 2 [(1, .int .i64 n_), (2, .func (.func 137) #[] #[.pointer (some ⟨bentry0, 0, none⟩), .pointer (some ⟨bentry1, 0, none⟩)]), (7, .slice a1 l1.length l1.length), (13, .int .i64 (l1.length : Int)), (14, .int .i64 (i1 + 1))] ?_ ?_
        · refine Zy (.int .i64 (i1 + 1)) (Y_eq (v := .int .i64 (w64 (i1 + 1))) (Y_pure (fun w => by kernel_rfl)) (by rw [w64_eq _ (by omega)])) ?_
          refine Zb [.int .i64 (i1 + 1)] 1 ?_
          exact Zd [1, 2, 7, 13, 14]
        have hB1 := M.ret_some hB1
        have gx1 := hgoy1 _ hB1.symm
        exact Run_again [1, 2, 7, 13, 14] (by kernel_rfl) my1 (Nat.lt_succ_self _) ⟨i1 + 1, x4, by omega, gx1, rfl, H12⟩
      · refine Run_block ?_
        have H19 := H10.ofRows
        refine Zk [1, 2, 7, 8, 13, 14, 26, 27] [(1, .int .i64 n_), (2, .func (.func 137) #[] #[.pointer (some ⟨bentry0, 0, none⟩), .pointer (some ⟨bentry1, 0, none⟩)]), (7, .slice a1 l1.length l1.length), (8, .int .i64 i1), (13, .int .i64 (l1.length : Int)), (14, .int .i64 i1), (26, .int .i64 (x3.length : Int)), (27, .int .i64 0)] ?_
        refine Run_loop (fun m L' h' => ∃ (i2 : Int) (s2 : (List (List Int))), 0 ≤ i2 ∧ M.forN (x3.length : Int) _ _ n m i2 s2 = some x4 ∧ L' = [(1, .int .i64 n_), (2, .func (.func 137) #[] #[.pointer (some ⟨bentry0, 0, none⟩), .pointer (some ⟨bentry1, 0, none⟩)]), (7, .slice a1 l1.length l1.length), (8, .int .i64 i1), (13, .int .i64 (l1.length : Int)), (14, .int .i64 i1), (26, .int .i64 (x3.length : Int)), (27, .int .i64 i2)] ∧ Hold h h' [own cd24 a1 l1.length l1.length s2]) ((x3.length : Int) - 0 : Int).toNat ⟨0, l3, Int.le_refl _, gx4, rfl, H19⟩ ?_
        rintro my2 _ h6 ⟨i2, s2, hloy2', gx4, rfl, H11⟩
        refine Zs ?_
        refine Zq [.bool (decide (i2 < (x3.length : Int)))] [1, 2, 7, 8, 13, 14, 26, 27, 28] [(1, .int .i64 n_), (2, .func (.func 137) #[] #[.pointer (some ⟨bentry0, 0, none⟩), .pointer (some ⟨bentry1, 0, none⟩)]), (7, .slice a1 l1.length l1.length), (8, .int .i64 i1), (13, .int .i64 (l1.length : Int)), (14, .int .i64 i1), (26, .int .i64 (x3.length : Int)), (27, .int .i64 i2), (28, .bool (decide (i2 < (x3.length : Int))))] ?_
        refine Zs ?_
        refine Zc (decide (i2 < (x3.length : Int))) (fun hb2 => ?_) (fun hb2 => ?_)
        · obtain ⟨my2, y2, rfl, hB2, hgoy2, houty2⟩ := M.for_go gx4 hb2
          have hlty2 := of_decide_eq_true hb2
          refine Run_skip ?_
          refine Zs ?_
          refine Run_block ?_
          refine Zs ?_
          refine Zq [.int .i64 i2, .int .i64 i2] [1, 2, 7, 8, 9, 13, 14, 26, 27] [(1, .int .i64 n_), (2, .func (.func 137) #[] #[.pointer (some ⟨bentry0, 0, none⟩), .pointer (some ⟨bentry1, 0, none⟩)]), (7, .slice a1 l1.length l1.length), (8, .int .i64 i1), (9, .int .i64 i2), (13, .int .i64 (l1.length : Int)), (14, .int .i64 i1), (26, .int .i64 (x3.length : Int)), (27, .int .i64 i2)] ?_
          obtain ⟨x5, hx3, hB2⟩ := M.bind_some hB2
          obtain ⟨hx3l, hx3u, hx3⟩ := M.idx_some hx3
          have H13 := H11.toRows
          obtain ⟨a4, c2, H14⟩ := H13.pinRow hx3
          obtain ⟨x6, hx4, hB2⟩ := M.bind_some hB2
          obtain ⟨x7, hx5, hB2⟩ := M.bind_some hB2
          obtain ⟨hx5l, hx5u, hx5⟩ := M.idx_some hx5
          refine Run_D (fun x => Hold h x [rowsP cd2 24 a1 l1.length l1.length s2 [(i1.toNat, a4, x5.length, c2, x5)]]) (fun x => Hold h x [rowsP cd2 24 a1 l1.length l1.length s2 [(i1.toNat, a4, x5.length, c2, x5)]]) mixed (by kernel_rfl) H14 Hold.stable (fun x Hy => (show Hold h x [rowsP cd2 24 a1 l1.length l1.length s2 [(i1.toNat, a4, x5.length, c2, x5)]] from Hy).pick [0] (by kernel_rfl)) ?_
          refine DR_b 9 [.slice a1 l1.length l1.length, .int .i64 i1] 0 (by kernel_rfl) (by kernel_rfl) (by kernel_rfl) (fun w => by kernel_rfl) ?_
          refine DR_y 8 (i := 2) (.pointer (some (adr a1 (i1.toNat * 1)))) (by kernel_rfl) (by kernel_rfl) (by kernel_rfl) (fun hx Hx => (YE.of (Zi 22 24 1 (a1) (l1.length) (l1.length) .i64 (i1) Tryz.underlying22 ((H11.rd 0 rfl).cell hx3).1 hx3l (by rw [← (H11.len 0 rfl)]; exact hx3u)))) ?_
          refine DR_y 7 (i := 3) (.slice a4 x5.length c2) (by kernel_rfl) (by kernel_rfl) (by kernel_rfl) (fun hx Hx => (YE.of (Zl 24 (adr a1 (i1.toNat * 1)) (.slice a4 x5.length c2) (Hx.cellPin 0 rfl 0 rfl)))) ?_
          refine DR_b 3 [.int .i64 i2, .func (.func 137) #[] #[.pointer (some ⟨bentry0, 0, none⟩), .pointer (some ⟨bentry1, 0, none⟩)], .int .i64 i1, .int .i64 i2] 4 (by kernel_rfl) (by kernel_rfl) (by kernel_rfl) (fun w => by kernel_rfl) ?_
          refine DR_y 2 (i := 8) (.int .i64 x6) (by kernel_rfl) (by kernel_rfl) (by kernel_rfl) (fun hx Hx => (YE.of (Y_callq (f := 137) (args := #[.int .i64 i1, .int .i64 i2, .pointer (some ⟨bentry0, 0, none⟩), .pointer (some ⟨bentry1, 0, none⟩)]) (v := .int .i64 x6) (by kernel_rfl) (w_impl_shifted_1 hx i1 i2 entry0 aentry0 centry0 (rentry0.at Hx.ext) bentry0 (ventry0.at Hx.ext) entry1 bentry1 (ventry1.at Hx.ext) _ _ hx4)))) ?_
          refine DR_y 1 (i := 9) (.pointer (some (adr a4 (i2.toNat * 1)))) (by kernel_rfl) (by kernel_rfl) (by kernel_rfl) (fun hx Hx => (YE.of (Zi 24 2 1 (a4) (x5.length) (c2) .i64 (i2) Tryz.underlying24 ((H14.rdPin 0 rfl 0 rfl).cell hx5).1 hx5l hx5u))) ?_
          refine DR_tail (i := 10) (by kernel_rfl) (by kernel_rfl) (by kernel_rfl) (fun h8 H15 => ?_)
          have H16 : Hold h h8 [rowsP cd2 24 a1 l1.length l1.length s2 [(i1.toNat, a4, x5.length, c2, x5)]] := H15
          obtain ⟨l4, hu2, hB2⟩ := M.bind_some hB2
          have hu2 := M.upd_some hu2
          refine Run_E (by kernel_rfl) ?_
          refine E_put2 (C := cd2) (t := 2) (sz := 1) (j := i2) (x := x6) (v := .int .i64 x6) (m2 := s2.set i1.toNat l4) H16 cd2_flat 0 rfl (by kernel_rfl) rfl (cd2_own _) (by kernel_rfl) hu2 rfl (fun h9 H17 => ?_)
          refine Run_nil (by kernel_rfl) ?_
          refine Zk [1, 2, 7, 8, 13, 14, 26, 27] [(1, .int .i64 n_), (2, .func (.func 137) #[] #[.pointer (some ⟨bentry0, 0, none⟩), .pointer (some ⟨bentry1, 0, none⟩)]), (7, .slice a1 l1.length l1.length), (8, .int .i64 i1), (13, .int .i64 (l1.length : Int)), (14, .int .i64 i1), (26, .int .i64 (x3.length : Int)), (27, .int .i64 i2)] ?_
          refine Run_blk ?_
          refine Zg 2 [(1, .int .i64 n_), (2, .func (.func 137) #[] #[.pointer (some ⟨bentry0, 0, none⟩), .pointer (some ⟨bentry1, 0, none⟩)]), (7, .slice a1 l1.length l1.length), (8, .int .i64 i1), (13, .int .i64 (l1.length : Int)), (14, .int .i64 i1), (26, .int .i64 (x3.length : Int)), (27, .int .i64 (i2 + 1))] ?_ ?_
          · refine Zy (.int .i64 (i2 + 1)) (Y_eq (v := .int .i64 (w64 (i2 + 1))) (Y_pure (fun w => by kernel_rfl)) (by rw [w64_eq _ (by omega)])) ?_
            refine Zb [.int .i64 (i2 + 1)] 1 ?_
            exact Zd [1, 2, 7, 8, 13, 14, 26, 27]
          have H18 := H17.ofRows
          have hB2 := M.ret_some hB2
          have gx4 := hgoy2 _ hB2.symm
          exact Run_again [1, 2, 7, 8, 13, 14, 26, 27] (by kernel_rfl) my2 (Nat.lt_succ_self _) ⟨i2 + 1, (s2.set i1.toNat l4), by omega, gx4, rfl, H18⟩
        · have gx4 := M.for_end gx4 hb2
          subst gx4
          refine Run_exit (k' := _) rfl ?_
          exact Run_fall [1, 2, 7, 13, 14] (by kernel_rfl) ⟨rfl, H11⟩
    · have gx1 := M.for_end gx1 hb1
      subst gx1
      refine Run_exit (k' := _) rfl ?_
      exact Run_fall [7] (by kernel_rfl) ⟨rfl, H2⟩

set_option maxRecDepth 100000 in
set_option maxHeartbeats 4000000 in
theorem w_impl_shifted (h : Heap) (a_ : List (List Int)) (aa_ : Option Addr) (ca_ : Nat) (ra_ : Rd cd24 h (Lt h) aa_ ca_ a_) (r_ : TRatio) (n : Nat) (r : (List (List Int))) (hF : impl_shifted a_ r_ n = some r) :
    Fn Tryz.prog 94 #[.slice aa_ a_.length ca_, .agg #[.int .i64 r_.Num, .int .i64 r_.Den]] h fun v h' => ∃ (a0 : Option Addr) (c0 : Nat), v = .slice a0 r.length c0 ∧ Hold h h' [own cd24 a0 r.length c0 r] := by
  unfold impl_shifted at hF
  refine Fn_enter (args := [.slice aa_ a_.length ca_, .agg #[.int .i64 r_.Num, .int .i64 r_.Den]]) Tryz.func94 rfl (by kernel_rfl) (by kernel_rfl) (fun w0 _ => ?_)
  have H0 := Hold.init h
  refine Zs ?_
  refine Run_ops ?_
  refine Run_E (by kernel_rfl) ?_
  refine E_box (ty := 22) (cs := [.slice aa_ a_.length ca_]) H0 (fun w => by kernel_rfl) (fun b1 h1 H1 => ?_)
  refine Run_E (by kernel_rfl) ?_
  refine E_box (ty := 44) (cs := [.int .i64 r_.Num, .int .i64 r_.Den]) H1 (fun w => by kernel_rfl) (fun b2 h2 H2 => ?_)
  refine Zr [.slice none 0 0] 2 ?_
  refine Run_nil (by kernel_rfl) ?_
  refine Zk [2, 3] [(2, .pointer (some ⟨b1, 0, none⟩)), (3, .pointer (some ⟨b2, 0, none⟩))] ?_
  refine Zs ?_
  refine Run_ops ?_
  refine Zz (.slice aa_ a_.length ca_) (Zl 22 (⟨b1, 0, none⟩) (.slice aa_ a_.length ca_) (H2.cell 1 rfl rfl)) ?_
  refine Zr [.int .i64 (a_.length : Int)] 1 ?_
  refine Zz (.slice aa_ a_.length ca_) (Zl 22 (⟨b1, 0, none⟩) (.slice aa_ a_.length ca_) (H2.cell 1 rfl rfl)) ?_
  refine Zr [.int .i64 (a_.length : Int), .func (.func 137) #[] #[.pointer (some ⟨b1, 0, none⟩), .pointer (some ⟨b2, 0, none⟩)]] 3 ?_
  obtain ⟨x1, hx1, hF⟩ := M.bind_some hF
  refine Run_E (by kernel_rfl) ?_
  refine E_call (f := 109) (args := #[.int .i64 (a_.length : Int), .int .i64 (a_.length : Int), .func (.func 137) #[] #[.pointer (some ⟨b1, 0, none⟩), .pointer (some ⟨b2, 0, none⟩)]]) (w_impl_matrixBy_F_impl_shifted_1 h2 (a_.length : Int) (a_.length : Int) a_ aa_ ca_ (ra_.at H2.ext) b1 (H2.var 1 rfl) r_ b2 (H2.var 0 rfl) _ _ hx1) (by kernel_rfl) (fun v1 h3 hp1 => ?_)
  obtain ⟨a1, c1, rfl, H3⟩ := hp1
  have H4 : Hold h h3 [own cd24 a1 x1.length c1 x1, box b2 44 [.int .i64 r_.Num, .int .i64 r_.Den], box b1 22 [.slice aa_ a_.length ca_]] := H2.call H3 rfl
  refine Zr [.slice a1 x1.length c1] 6 ?_
  refine Run_nil (by kernel_rfl) ?_
  refine Zk [4] [(4, .slice a1 x1.length c1)] ?_
  have hF := M.ret_some hF
  subst hF
  have H5 : Hold h h3 [own cd24 a1 x1.length c1 x1] := H4.pick [0] (by kernel_rfl)
  exact Run_ret1 rfl (ResV_tmp (v := .slice a1 x1.length c1) (by kernel_rfl)) ⟨a1, c1, rfl, H5⟩

set_option maxRecDepth 100000 in
set_option maxHeartbeats 4000000 in
theorem w_impl_unitMatrix_1 (h : Heap) (i : Int) (j : Int) (n : Nat) (r : Int) (hF : impl_unitMatrix_1 i j n = some r) :
    Fn Tryz.prog 155 #[.int .i64 i, .int .i64 j] h fun v h' => v = .int .i64 r ∧ h' = h := by
  unfold impl_unitMatrix_1 at hF
  refine Fn_enter (args := [.int .i64 i, .int .i64 j]) Tryz.func155 rfl (by kernel_rfl) (by kernel_rfl) (fun w0 _ => ?_)
  refine Zs ?_
  refine Zq [.int .i64 0] [0, 1] [(0, .int .i64 i), (1, .int .i64 j)] ?_
  refine Zs ?_
  refine Zs ?_
  refine Zq [.int .i64 i, .int .i64 j, .bool (i == j)] [7] [(7, .bool (i == j))] ?_
  refine Zc (i == j) (fun hb1 => ?_) (fun hb1 => ?_)
  · have hF := (M.ite_some hF).1 hb1
    refine Zs ?_
    refine Zq [.int .i64 0] [4] [(4, .int .i64 0)] ?_
    have hF := M.ret_some hF
    subst hF
    exact Run_ret1 rfl (ResV_tmp (v := .int .i64 0) (by kernel_rfl)) ⟨rfl, rfl⟩
  · have hF := (M.ite_some hF).2 hb1
    refine Run_skip ?_
    refine Zs ?_
    refine Zq [.int .i64 (-1000000000000000)] [4] [(4, .int .i64 (-1000000000000000))] ?_
    have hF := M.ret_some hF
    subst hF
    exact Run_ret1 rfl (ResV_tmp (v := .int .i64 (-1000000000000000)) (by kernel_rfl)) ⟨rfl, rfl⟩

set_option maxRecDepth 100000 in
set_option maxHeartbeats 4000000 in
theorem w_impl_matrixBy_F_impl_unitMatrix_1 (h : Heap) (m_ : Int) (n_ : Int) (n : Nat) (r : (List (List Int))) (hF : impl_matrixBy_F_impl_unitMatrix_1 m_ n_ n = some r) :
    Fn Tryz.prog 109 #[.int .i64 m_, .int .i64 n_, .func (.func 155) #[] #[]] h fun v h' => ∃ (a0 : Option Addr) (c0 : Nat), v = .slice a0 r.length c0 ∧ Hold h h' [own cd24 a0 r.length c0 r] := by
  unfold impl_matrixBy_F_impl_unitMatrix_1 at hF
  refine Fn_enter (args := [.int .i64 m_, .int .i64 n_, .func (.func 155) #[] #[]]) Tryz.func109 rfl (by kernel_rfl) (by kernel_rfl) (fun w0 _ => ?_)
  have H0 := Hold.init h
  refine Zs ?_
  refine Zq [.slice none 0 0] [0, 1, 2] [(0, .int .i64 m_), (1, .int .i64 n_), (2, .func (.func 155) #[] #[])] ?_
  refine Zs ?_
  refine Run_ops ?_
  refine Zr [.int .i64 m_] 0 ?_
  obtain ⟨l1, hl1, hF⟩ := M.bind_some hF
  have hl1 := M.make_some hl1
  refine Run_E (by kernel_rfl) ?_
  refine E_make cd24 [] (kl := .i64) (kc := .i64) H0 cd24_ti Tryz.underlying22 (by decide) cd24_zero (by kernel_rfl) hl1 (fun a1 h1 H1 => ?_)
  refine Zr [.slice a1 l1.length l1.length] 2 ?_
  refine Run_nil (by kernel_rfl) ?_
  refine Zk [1, 2, 7] [(1, .int .i64 n_), (2, .func (.func 155) #[] #[]), (7, .slice a1 l1.length l1.length)] ?_
  refine Zs ?_
  refine Zs ?_
  refine Zq [.slice a1 l1.length l1.length, .int .i64 (l1.length : Int), .int .i64 0] [1, 2, 7, 13, 14] [(1, .int .i64 n_), (2, .func (.func 155) #[] #[]), (7, .slice a1 l1.length l1.length), (13, .int .i64 (l1.length : Int)), (14, .int .i64 0)] ?_
  obtain ⟨x1, gx1, hF⟩ := M.bind_some hF
  obtain ⟨hloy1, hhiy1, gx1⟩ := M.for_start gx1
  refine Run_join (fun L' h' => L' = [(7, .slice a1 l1.length l1.length)] ∧ Hold h h' [own cd24 a1 l1.length l1.length x1]) ?_ ?_
  · rintro _ h3 ⟨rfl, H3⟩
    refine Zs ?_
    refine Zq [.slice a1 l1.length l1.length, .slice a1 l1.length l1.length] [6] [(6, .slice a1 l1.length l1.length)] ?_
    have hF := M.ret_some hF
    subst hF
    have H20 := H3.norm
    exact Run_ret1 rfl (ResV_tmp (v := .slice a1 l1.length l1.length) (by kernel_rfl)) ⟨a1, l1.length, (by simp only [(H3.len 0 rfl)]), H20⟩
  · refine Run_block ?_
    refine Zk [1, 2, 7, 13, 14] [(1, .int .i64 n_), (2, .func (.func 155) #[] #[]), (7, .slice a1 l1.length l1.length), (13, .int .i64 (l1.length : Int)), (14, .int .i64 0)] ?_
    refine Run_loop (fun m L' h' => ∃ (i1 : Int) (s1 : (List (List Int))), 0 ≤ i1 ∧ M.forN (l1.length : Int) _ _ n m i1 s1 = some x1 ∧ L' = [(1, .int .i64 n_), (2, .func (.func 155) #[] #[]), (7, .slice a1 l1.length l1.length), (13, .int .i64 (l1.length : Int)), (14, .int .i64 i1)] ∧ Hold h h' [own cd24 a1 l1.length l1.length s1]) ((l1.length : Int) - 0 : Int).toNat ⟨0, l1, Int.le_refl _, gx1, rfl, H1⟩ ?_
    rintro my1 _ h2 ⟨i1, s1, hloy1', gx1, rfl, H2⟩
    refine Zs ?_
    refine Zq [.bool (decide (i1 < (l1.length : Int)))] [1, 2, 7, 13, 14, 15] [(1, .int .i64 n_), (2, .func (.func 155) #[] #[]), (7, .slice a1 l1.length l1.length), (13, .int .i64 (l1.length : Int)), (14, .int .i64 i1), (15, .bool (decide (i1 < (l1.length : Int))))] ?_
    refine Zs ?_
    refine Zc (decide (i1 < (l1.length : Int))) (fun hb1 => ?_) (fun hb1 => ?_)
    · obtain ⟨my1, y1, rfl, hB1, hgoy1, houty1⟩ := M.for_go gx1 hb1
      have hlty1 := of_decide_eq_true hb1
      refine Run_skip ?_
      refine Zs ?_
      refine Run_block ?_
      refine Zs ?_
      refine Zq [.int .i64 i1, .int .i64 i1] [1, 2, 7, 8, 13, 14] [(1, .int .i64 n_), (2, .func (.func 155) #[] #[]), (7, .slice a1 l1.length l1.length), (8, .int .i64 i1), (13, .int .i64 (l1.length : Int)), (14, .int .i64 i1)] ?_
      refine Zs ?_
      refine Run_ops ?_
      refine Zr [.slice a1 l1.length l1.length, .int .i64 i1, .int .i64 n_] 0 ?_
      obtain ⟨l2, hl2, hB1⟩ := M.bind_some hB1
      have hl2 := M.make_some hl2
      refine Run_E (by kernel_rfl) ?_
      refine E_make cd2 0 (kl := .i64) (kc := .i64) H2 cd2_ti Tryz.underlying24 (by decide) cd2_zero (by kernel_rfl) hl2 (fun a2 h4 H4 => ?_)
      obtain ⟨x2, hx1, hB1⟩ := M.bind_some hB1
      obtain ⟨hx1l, hx1u, hx1⟩ := M.idx_some hx1
      refine Zz (.pointer (some (adr a1 (i1.toNat * 1)))) (Zi 22 24 1 (a1) (l1.length) (l1.length) .i64 (i1) Tryz.underlying22 ((H4.rd 1 rfl).cell hx1).1 hx1l (by rw [← (H4.len 1 rfl)]; exact hx1u)) ?_
      obtain ⟨l3, hu1, hB1⟩ := M.bind_some hB1
      have hu1 := M.upd_some hu1
      have H6 : Hold h h4 [own cd24 a1 l1.length l1.length s1, own cd2 a2 l2.length l2.length l2] := H4.pick [1, 0] (by kernel_rfl)
      have H7 : Hold h h4 [own cd2 a2 l2.length l2.length l2, own cd24 a1 l1.length l1.length s1] := H6.pick [1, 0] (by kernel_rfl)
      have H8 : Hold h h4 [own cd24 a1 l1.length l1.length s1, own cd2 a2 l2.length l2.length l2] := H7.pick [1, 0] (by kernel_rfl)
      refine Run_E (by kernel_rfl) ?_
      refine E_putRow (t := 24) (j := i1) H8 (by kernel_rfl) (by kernel_rfl) hu1 (fun h5 H5 => ?_)
      refine Run_nil (by kernel_rfl) ?_
      refine Zk [1, 2, 7, 8, 13, 14] [(1, .int .i64 n_), (2, .func (.func 155) #[] #[]), (7, .slice a1 l1.length l1.length), (8, .int .i64 i1), (13, .int .i64 (l1.length : Int)), (14, .int .i64 i1)] ?_
      refine Zs ?_
      obtain ⟨x3, hx2, hB1⟩ := M.bind_some hB1
      obtain ⟨hx2l, hx2u, hx2⟩ := M.idx_some hx2
      have H9 := H5.toRows
      obtain ⟨a3, c1, H10⟩ := H9.pinRow hx2
      refine Zg 6 [(1, .int .i64 n_), (2, .func (.func 155) #[] #[]), (7, .slice a1 l1.length l1.length), (8, .int .i64 i1), (13, .int .i64 (l1.length : Int)), (14, .int .i64 i1), (26, .int .i64 (x3.length : Int)), (27, .int .i64 0)] ?_ ?_
      · refine Zb [.slice a1 l1.length l1.length, .int .i64 i1] 0 ?_
        refine Zy (.pointer (some (adr a1 (i1.toNat * 1)))) (Zi 22 24 1 (a1) (l1.length) (l1.length) .i64 (i1) Tryz.underlying22 ((H5.rd 0 rfl).cell hx2).1 hx2l (by rw [← (H5.len 0 rfl)]; exact hx2u)) ?_
        refine Zy (.slice a3 x3.length c1) (Zl 24 (adr a1 (i1.toNat * 1)) (.slice a3 x3.length c1) (H10.cellPin 0 rfl 0 rfl)) ?_
        refine Zb [.int .i64 (x3.length : Int), .int .i64 0] 4 ?_
        exact Zd [1, 2, 7, 8, 13, 14, 26, 27]
      obtain ⟨x4, gx4, hB1⟩ := M.bind_some hB1
      obtain ⟨hloy2, hhiy2, gx4⟩ := M.for_start gx4
      refine Run_join (fun L' h' => L' = [(1, .int .i64 n_), (2, .func (.func 155) #[] #[]), (7, .slice a1 l1.length l1.length), (13, .int .i64 (l1.length : Int)), (14, .int .i64 i1)] ∧ Hold h h' [own cd24 a1 l1.length l1.length x4]) ?_ ?_
      · rintro _ h7 ⟨rfl, H12⟩
        refine Run_blk ?_
        refine Zg 2 [(1, .int .i64 n_), (2, .func (.func 155) #[] #[]), (7, .slice a1 l1.length l1.length), (13, .int .i64 (l1.length : Int)), (14, .int .i64 (i1 + 1))] ?_ ?_
        · refine Zy (.int .i64 (i1 + 1)) (Y_eq (v := .int .i64 (w64 (i1 + 1))) (Y_pure (fun w => by kernel_rfl)) (by rw [w64_eq _ (by omega)])) ?_
          refine Zb [.int .i64 (i1 + 1)] 1 ?_
          exact Zd [1, 2, 7, 13, 14]
        have hB1 := M.ret_some hB1
        have gx1 := hgoy1 _ hB1.symm
        exact Run_again [1, 2, 7, 13, 14] (by kernel_rfl) my1 (Nat.lt_succ_self _) ⟨i1 + 1, x4, by omega, gx1, rfl, H12⟩
      · refine Run_block ?_
        have H19 := H10.ofRows
        refine Zk [1, 2, 7, 8, 13, 14, 26, 27] [(1, .int .i64 n_), (2, .func (.func 155) #[] #[]), (7, .slice a1 l1.length l1.length), (8, .int .i64 i1), (13, .int .i64 (l1.length : Int)), (14, .int .i64 i1), (26, .int .i64 (x3.length : Int)), (27, .int .i64 0)] ?_
        refine Run_loop (fun m L' h' => ∃ (i2 : Int) (s2 : (List (List Int))), 0 ≤ i2 ∧ M.forN (x3.length : Int) _ _ n m i2 s2 = some x4 ∧ L' = [(1, .int .i64 n_), (2, .func (.func 155) #[] #[]), (7, .slice a1 l1.length l1.length), (8, .int .i64 i1), (13, .int .i64 (l1.length : Int)), (14, .int .i64 i1), (26, .int .i64 (x3.length : Int)), (27, .int .i64 i2)] ∧ Hold h h' [own cd24 a1 l1.length l1.length s2]) ((x3.length : Int) - 0 : Int).toNat ⟨0, l3, Int.le_refl _, gx4, rfl, H19⟩ ?_
        rintro my2 _ h6 ⟨i2, s2, hloy2', gx4, rfl, H11⟩
        refine Zs ?_
        refine Zq [.bool (decide (i2 < (x3.length : Int)))] [1, 2, 7, 8, 13, 14, 26, 27, 28] [(1, .int .i64 n_), (2, .func (.func 155) #[] #[]), (7, .slice a1 l1.length l1.length), (8, .int .i64 i1), (13, .int .i64 (l1.length : Int)), (14, .int .i64 i1), (26, .int .i64 (x3.length : Int)), (27, .int .i64 i2), (28, .bool (decide (i2 < (x3.length : Int))))] ?_
        refine Zs ?_
        refine Zc (decide (i2 < (x3.length : Int))) (fun hb2 => ?_) (fun hb2 => ?_)
        · obtain ⟨my2, y2, rfl, hB2, hgoy2, houty2⟩ := M.for_go gx4 hb2
          have hlty2 := of_decide_eq_true hb2
          refine Run_skip ?_
          refine Zs ?_
          refine Run_block ?_
          refine Zs ?_
          refine Zq [.int .i64 i2, .int .i64 i2] [1, 2, 7, 8, 9, 13, 14, 26, 27] [(1, .int .i64 n_), (2, .func (.func 155) #[] #[]), (7, .slice a1 l1.length l1.length), (8, .int .i64 i1), (9, .int .i64 i2), (13, .int .i64 (l1.length : Int)), (14, .int .i64 i1), (26, .int .i64 (x3.length : Int)), (27, .int .i64 i2)] ?_
          obtain ⟨x5, hx3, hB2⟩ := M.bind_some hB2
          obtain ⟨hx3l, hx3u, hx3⟩ := M.idx_some hx3
          have H13 := H11.toRows
          obtain ⟨a4, c2, H14⟩ := H13.pinRow hx3
          obtain ⟨x6, hx4, hB2⟩ := M.bind_some hB2
          obtain ⟨x7, hx5, hB2⟩ := M.bind_some hB2
          obtain ⟨hx5l, hx5u, hx5⟩ := M.idx_some hx5
          refine Run_D (fun x => Hold h x [rowsP cd2 24 a1 l1.length l1.length s2 [(i1.toNat, a4, x5.length, c2, x5)]]) (fun x => Hold h x [rowsP cd2 24 a1 l1.length l1.length s2 [(i1.toNat, a4, x5.length, c2, x5)]]) mixed (by kernel_rfl) H14 Hold.stable (fun x Hy => (show Hold h x [rowsP cd2 24 a1 l1.length l1.length s2 [(i1.toNat, a4, x5.length, c2, x5)]] from Hy).pick [0] (by kernel_rfl)) ?_
          refine DR_b 9 [.slice a1 l1.length l1.length, .int .i64 i1] 0 (by kernel_rfl) (by kernel_rfl) (by kernel_rfl) (fun w => by kernel_rfl) ?_
          refine DR_y 8 (i := 2) (.pointer (some (adr a1 (i1.toNat * 1)))) (by kernel_rfl) (by kernel_rfl) (by kernel_rfl) (fun hx Hx => (YE.of (Zi 22 24 1 (a1) (l1.length) (l1.length) .i64 (i1) Tryz.underlying22 ((H11.rd 0 rfl).cell hx3).1 hx3l (by rw [← (H11.len 0 rfl)]; exact hx3u)))) ?_
          refine DR_y 7 (i := 3) (.slice a4 x5.length c2) (by kernel_rfl) (by kernel_rfl) (by kernel_rfl) (fun hx Hx => (YE.of (Zl 24 (adr a1 (i1.toNat * 1)) (.slice a4 x5.length c2) (Hx.cellPin 0 rfl 0 rfl)))) ?_
          refine DR_b 3 [.int .i64 i2, .func (.func 155) #[] #[], .int .i64 i1, .int .i64 i2] 4 (by kernel_rfl) (by kernel_rfl) (by kernel_rfl) (fun w => by kernel_rfl) ?_
          refine DR_y 2 (i := 8) (.int .i64 x6) (by kernel_rfl) (by kernel_rfl) (by kernel_rfl) (fun hx Hx => (YE.of (Y_callq (f := 155) (args := #[.int .i64 i1, .int .i64 i2]) (v := .int .i64 x6) (by kernel_rfl) (w_impl_unitMatrix_1 hx i1 i2 _ _ hx4)))) ?_
          refine DR_y 1 (i := 9) (.pointer (some (adr a4 (i2.toNat * 1)))) (by kernel_rfl) (by kernel_rfl) (by kernel_rfl) (fun hx Hx => (YE.of (Zi 24 2 1 (a4) (x5.length) (c2) .i64 (i2) Tryz.underlying24 ((H14.rdPin 0 rfl 0 rfl).cell hx5).1 hx5l hx5u))) ?_
          refine DR_tail (i := 10) (by kernel_rfl) (by kernel_rfl) (by kernel_rfl) (fun h8 H15 => ?_)
          have H16 : Hold h h8 [rowsP cd2 24 a1 l1.length l1.length s2 [(i1.toNat, a4, x5.length, c2, x5)]] := H15
          obtain ⟨l4, hu2, hB2⟩ := M.bind_some hB2
          have hu2 := M.upd_some hu2
          refine Run_E (by kernel_rfl) ?_
          refine E_put2 (C := cd2) (t := 2) (sz := 1) (j := i2) (x := x6) (v := .int .i64 x6) (m2 := s2.set i1.toNat l4) H16 cd2_flat 0 rfl (by kernel_rfl) rfl (cd2_own _) (by kernel_rfl) hu2 rfl (fun h9 H17 => ?_)
          refine Run_nil (by kernel_rfl) ?_
          refine Zk [1, 2, 7, 8, 13, 14, 26, 27] [(1, .int .i64 n_), (2, .func (.func 155) #[] #[]), (7, .slice a1 l1.length l1.length), (8, .int .i64 i1), (13, .int .i64 (l1.length : Int)), (14, .int .i64 i1), (26, .int .i64 (x3.length : Int)), (27, .int .i64 i2)] ?_
          refine Run_blk ?_
          refine Zg 2 [(1, .int .i64 n_), (2, .func (.func 155) #[] #[]), (7, .slice a1 l1.length l1.length), (8, .int .i64 i1), (13, .int .i64 (l1.length : Int)), (14, .int .i64 i1), (26, .int .i64 (x3.length : Int)), (27, .int .i64 (i2 + 1))] ?_ ?_
          · refine Zy (.int .i64 (i2 + 1)) (Y_eq (v := .int .i64 (w64 (i2 + 1))) (Y_pure (fun w => by kernel_rfl)) (by rw [w64_eq _ (by omega)])) ?_
            refine Zb [.int .i64 (i2 + 1)] 1 ?_
            exact Zd [1, 2, 7, 8, 13, 14, 26, 27]
          have H18 := H17.ofRows
          have hB2 := M.ret_some hB2
          have gx4 := hgoy2 _ hB2.symm
          exact Run_again [1, 2, 7, 8, 13, 14, 26, 27] (by kernel_rfl) my2 (Nat.lt_succ_self _) ⟨i2 + 1, (s2.set i1.toNat l4), by omega, gx4, rfl, H18⟩
        · have gx4 := M.for_end gx4 hb2
          subst gx4
          refine Run_exit (k' := _) rfl ?_
          exact Run_fall [1, 2, 7, 13, 14] (by kernel_rfl) ⟨rfl, H11⟩
    · have gx1 := M.for_end gx1 hb1
      subst gx1
      refine Run_exit (k' := _) rfl ?_
      exact Run_fall [7] (by kernel_rfl) ⟨rfl, H2⟩

set_option maxRecDepth 100000 in
set_option maxHeartbeats 4000000 in
theorem w_impl_unitMatrix (h : Heap) (n_ : Int) (n : Nat) (r : (List (List Int))) (hF : impl_unitMatrix n_ n = some r) :
    Fn Tryz.prog 136 #[.int .i64 n_] h fun v h' => ∃ (a0 : Option Addr) (c0 : Nat), v = .slice a0 r.length c0 ∧ Hold h h' [own cd24 a0 r.length c0 r] := by
  unfold impl_unitMatrix at hF
  refine Fn_enter (args := [.int .i64 n_]) Tryz.func136 rfl (by kernel_rfl) (by kernel_rfl) (fun w0 _ => ?_)
  have H0 := Hold.init h
  refine Zs ?_
  refine Zq [.slice none 0 0] [0] [(0, .int .i64 n_)] ?_
  refine Zs ?_
  refine Run_ops ?_
  refine Zr [.int .i64 n_, .int .i64 n_] 0 ?_
  obtain ⟨x1, hx1, hF⟩ := M.bind_some hF
  refine Run_E (by kernel_rfl) ?_
  refine E_call (f := 109) (args := #[.int .i64 n_, .int .i64 n_, .func (.func 155) #[] #[]]) (w_impl_matrixBy_F_impl_unitMatrix_1 h n_ n_ _ _ hx1) (by kernel_rfl) (fun v1 h1 hp1 => ?_)
  obtain ⟨a1, c1, rfl, H1⟩ := hp1
  have H2 : Hold h h1 [own cd24 a1 x1.length c1 x1] := H0.call H1 rfl
  refine Zr [.slice a1 x1.length c1] 3 ?_
  refine Run_nil (by kernel_rfl) ?_
  refine Zk [2] [(2, .slice a1 x1.length c1)] ?_
  have hF := M.ret_some hF
  subst hF
  exact Run_ret1 rfl (ResV_tmp (v := .slice a1 x1.length c1) (by kernel_rfl)) ⟨a1, c1, rfl, H2⟩

set_option maxRecDepth 100000 in
set_option maxHeartbeats 4000000 in
theorem w_impl_addMatrices_1 (h : Heap) (i : Int) (j : Int) (z0 : List (List Int)) {Sz0 : Bs} (az0 : Option Addr) (cz0 : Nat) (rz0 : Rd cd24 h Sz0 az0 cz0 z0) (bz0 : Nat) (vz0 : VarAt h bz0 22 [.slice az0 z0.length cz0]) (z1 : List (List Int)) {Sz1 : Bs} (az1 : Option Addr) (cz1 : Nat) (rz1 : Rd cd24 h Sz1 az1 cz1 z1) (bz1 : Nat) (vz1 : VarAt h bz1 22 [.slice az1 z1.length cz1]) (n : Nat) (r : Int) (hF : impl_addMatrices_1 i j z0 z1 n = some r) :
    Fn Tryz.prog 154 #[.int .i64 i, .int .i64 j, .pointer (some ⟨bz0, 0, none⟩), .pointer (some ⟨bz1, 0, none⟩)] h fun v h' => v = .int .i64 r ∧ h' = h := by
  unfold impl_addMatrices_1 at hF
  refine Fn_enter (args := [.int .i64 i, .int .i64 j, .pointer (some ⟨bz0, 0, none⟩), .pointer (some ⟨bz1, 0, none⟩)]) Tryz.func154 rfl (by kernel_rfl) (by kernel_rfl) (fun w0 _ => ?_)
  refine Zs ?_
  refine Zq [.int .i64 0] [0, 1, 2, 3] [(0, .int .i64 i), (1, .int .i64 j), (2, .pointer (some ⟨bz0, 0, none⟩)), (3, .pointer (some ⟨bz1, 0, none⟩))] ?_
  refine Zs ?_
  obtain ⟨x1, hx1, hF⟩ := M.bind_some hF
  obtain ⟨hx1l, hx1u, hx1⟩ := M.idx_some hx1
  obtain ⟨a1, c1, hc1, r1⟩ := rz0.row hx1
  obtain ⟨x2, hx2, hF⟩ := M.bind_some hF
  obtain ⟨hx2l, hx2u, hx2⟩ := M.idx_some hx2
  obtain ⟨x3, hx3, hF⟩ := M.bind_some hF
  obtain ⟨hx3l, hx3u, hx3⟩ := M.idx_some hx3
  obtain ⟨a2, c2, hc2, r2⟩ := rz1.row hx3
  obtain ⟨x4, hx4, hF⟩ := M.bind_some hF
  obtain ⟨hx4l, hx4u, hx4⟩ := M.idx_some hx4
  refine Run_draw 16 mixed (by kernel_rfl) (by kernel_rfl) (L' := [(6, .int .i64 (mx x2 x4))]) ?_ ?_
  · refine Zy (.slice az0 z0.length cz0) (Zl 22 (⟨bz0, 0, none⟩) (.slice az0 z0.length cz0) (VarAt.cell vz0 rfl)) ?_
    refine Zb [.int .i64 i] 1 ?_
    refine Zy (.pointer (some (adr az0 (i.toNat * 1)))) (Zi 22 24 1 (az0) (z0.length) (cz0) .i64 (i) Tryz.underlying22 (rz0.cell hx1).1 hx1l hx1u) ?_
    refine Zy (.slice a1 x1.length c1) (Zl 24 (adr az0 (i.toNat * 1)) (.slice a1 x1.length c1) hc1) ?_
    refine Zb [.int .i64 j] 4 ?_
    refine Zy (.pointer (some (adr a1 (j.toNat * 1)))) (Zi 24 2 1 (a1) (x1.length) (c1) .i64 (j) Tryz.underlying24 (r1.cell hx2).1 hx2l hx2u) ?_
    refine Zy (.int .i64 x2) (Zl 2 (adr a1 (j.toNat * 1)) (.int .i64 x2) (cd2_cell r1 hx2)) ?_
    refine Zy (.slice az1 z1.length cz1) (Zl 22 (⟨bz1, 0, none⟩) (.slice az1 z1.length cz1) (VarAt.cell vz1 rfl)) ?_
    refine Zb [.int .i64 i] 8 ?_
    refine Zy (.pointer (some (adr az1 (i.toNat * 1)))) (Zi 22 24 1 (az1) (z1.length) (cz1) .i64 (i) Tryz.underlying22 (rz1.cell hx3).1 hx3l hx3u) ?_
    refine Zy (.slice a2 x3.length c2) (Zl 24 (adr az1 (i.toNat * 1)) (.slice a2 x3.length c2) hc2) ?_
    refine Zb [.int .i64 j] 11 ?_
    refine Zy (.pointer (some (adr a2 (j.toNat * 1)))) (Zi 24 2 1 (a2) (x3.length) (c2) .i64 (j) Tryz.underlying24 (r2.cell hx4).1 hx4l hx4u) ?_
    refine Zy (.int .i64 x4) (Zl 2 (adr a2 (j.toNat * 1)) (.int .i64 x4) (cd2_cell r2 hx4)) ?_
    refine Zb [.int .i64 (mx x2 x4), .int .i64 (mx x2 x4)] 14 ?_
    exact Zd [6]
  have hF := M.ret_some hF
  subst hF
  exact Run_ret1 rfl (ResV_tmp (v := .int .i64 (mx x2 x4)) (by kernel_rfl)) ⟨rfl, rfl⟩

set_option maxRecDepth 100000 in
set_option maxHeartbeats 4000000 in
theorem w_impl_matrixBy_F_impl_addMatrices_1 (h : Heap) (m_ : Int) (n_ : Int) (entry0 : List (List Int)) (aentry0 : Option Addr) (centry0 : Nat) (rentry0 : Rd cd24 h (Lt h) aentry0 centry0 entry0) (bentry0 : Nat) (ventry0 : VarAt h bentry0 22 [.slice aentry0 entry0.length centry0]) (entry1 : List (List Int)) (aentry1 : Option Addr) (centry1 : Nat) (rentry1 : Rd cd24 h (Lt h) aentry1 centry1 entry1) (bentry1 : Nat) (ventry1 : VarAt h bentry1 22 [.slice aentry1 entry1.length centry1]) (n : Nat) (r : (List (List Int))) (hF : impl_matrixBy_F_impl_addMatrices_1 m_ n_ entry0 entry1 n = some r) :
    Fn Tryz.prog 109 #[.int .i64 m_, .int .i64 n_, .func (.func 154) #[] #[.pointer (some ⟨bentry0, 0, none⟩), .pointer (some ⟨bentry1, 0, none⟩)]] h fun v h' => ∃ (a0 : Option Addr) (c0 : Nat), v = .slice a0 r.length c0 ∧ Hold h h' [own cd24 a0 r.length c0 r] := by
  unfold impl_matrixBy_F_impl_addMatrices_1 at hF
  refine Fn_enter (args := [.int .i64 m_, .int .i64 n_, .func (.func 154) #[] #[.pointer (some ⟨bentry0, 0, none⟩), .pointer (some ⟨bentry1, 0, none⟩)]]) Tryz.func109 rfl (by kernel_rfl) (by kernel_rfl) (fun w0 _ => ?_)
  have H0 := Hold.init h
  refine Zs ?_
  refine Zq [.slice none 0 0] [0, 1, 2] [(0, .int .i64 m_), (1, .int .i64 n_), (2, .func (.func 154) #[] #[.pointer (some ⟨bentry0, 0, none⟩), .pointer (some ⟨bentry1, 0, none⟩)])] ?_
  refine Zs ?_
  refine Run_ops ?_
  refine Zr [.int .i64 m_] 0 ?_
  obtain ⟨l1, hl1, hF⟩ := M.bind_some hF
  have hl1 := M.make_some hl1
  refine Run_E (by kernel_rfl) ?_
  refine E_make cd24 [] (kl := .i64) (kc := .i64) H0 cd24_ti Tryz.underlying22 (by decide) cd24_zero (by kernel_rfl) hl1 (fun a1 h1 H1 => ?_)
  refine Zr [.slice a1 l1.length l1.length] 2 ?_
  refine Run_nil (by kernel_rfl) ?_
  refine Zk [1, 2, 7] [(1, .int .i64 n_), (2, .func (.func 154) #[] #[.pointer (some ⟨bentry0, 0, none⟩), .pointer (some ⟨bentry1, 0, none⟩)]), (7, .slice a1 l1.length l1.length)] ?_
  refine Zs ?_
  refine Zs ?_
  refine Zq [.slice a1 l1.length l1.length, .int .i64 (l1.length : Int), .int .i64 0] [1, 2, 7, 13, 14] [(1, .int .i64 n_), (2, .func (.func 154) #[] #[.pointer (some ⟨bentry0, 0, none⟩), .pointer (some ⟨bentry1, 0, none⟩)]), (7, .slice a1 l1.length l1.length), (13, .int .i64 (l1.length : Int)), (14, .int .i64 0)] ?_
  obtain ⟨x1, gx1, hF⟩ := M.bind_some hF
  obtain ⟨hloy1, hhiy1, gx1⟩ := M.for_start gx1
  refine Run_join (fun L' h' => L' = [(7, .slice a1 l1.length l1.length)] ∧ Hold h h' [own cd24 a1 l1.length l1.length x1]) ?_ ?_
  · rintro _ h3 ⟨rfl, H3⟩
    refine Zs ?_
    refine Zq [.slice a1 l1.length l1.length, .slice a1 l1.length l1.length] [6] [(6, .slice a1 l1.length l1.length)] ?_
    have hF := M.ret_some hF
    subst hF
    have H20 := H3.norm
    exact Run_ret1 rfl (ResV_tmp (v := .slice a1 l1.length l1.length) (by kernel_rfl)) ⟨a1, l1.length, (by simp only [(H3.len 0 rfl)]), H20⟩
  · refine Run_block ?_
    refine Zk [1, 2, 7, 13, 14] [(1, .int .i64 n_), (2, .func (.func 154) #[] #[.pointer (some ⟨bentry0, 0, none⟩), .pointer (some ⟨bentry1, 0, none⟩)]), (7, .slice a1 l1.length l1.length), (13, .int .i64 (l1.length : Int)), (14, .int .i64 0)] ?_
    refine Run_loop (fun m L' h' => ∃ (i1 : Int) (s1 : (List (List Int))), 0 ≤ i1 ∧ M.forN (l1.length : Int) _ _ n m i1 s1 = some x1 ∧ L' = [(1, .int .i64 n_), (2, .func (.func 154) #[] #[.pointer (some ⟨bentry0, 0, none⟩), .pointer (some ⟨bentry1, 0, none⟩)]), (7, .slice a1 l1.length l1.length), (13, .int .i64 (l1.length : Int)), (14, .int .i64 i1)] ∧ Hold h h' [own cd24 a1 l1.length l1.length s1]) ((l1.length : Int) - 0 : Int).toNat ⟨0, l1, Int.le_refl _, gx1, rfl, H1⟩ ?_
    rintro my1 _ h2 ⟨i1, s1, hloy1', gx1, rfl, H2⟩
    refine Zs ?_
    refine Zq [.bool (decide (i1 < (l1.length : Int)))] [1, 2, 7, 13, 14, 15] [(1, .int .i64 n_), (2, .func (.func 154) #[] #[.pointer (some ⟨bentry0, 0, none⟩), .pointer (some ⟨bentry1, 0, none⟩)]), (7, .slice a1 l1.length l1.length), (13, .int .i64 (l1.length : Int)), (14, .int .i64 i1), (15, .bool (decide (i1 < (l1.length : Int))))] ?_
    refine Zs ?_
    refine Zc (decide (i1 < (l1.length : Int))) (fun hb1 => ?_) (fun hb1 => ?_)
    · obtain ⟨my1, y1, rfl, hB1, hgoy1, houty1⟩ := M.for_go gx1 hb1
      have hlty1 := of_decide_eq_true hb1
      refine Run_skip ?_
      refine Zs ?_
      refine Run_block ?_
      refine Zs ?_
      refine Zq [.int .i64 i1, .int .i64 i1] [1, 2, 7, 8, 13, 14] [(1, .int .i64 n_), (2, .func (.func 154) #[] #[.pointer (some ⟨bentry0, 0, none⟩), .pointer (some ⟨bentry1, 0, none⟩)]), (7, .slice a1 l1.length l1.length), (8, .int .i64 i1), (13, .int .i64 (l1.length : Int)), (14, .int .i64 i1)] ?_
      refine Zs ?_
      refine Run_ops ?_
      refine Zr [.slice a1 l1.length l1.length, .int .i64 i1, .int .i64 n_] 0 ?_
      obtain ⟨l2, hl2, hB1⟩ := M.bind_some hB1
      have hl2 := M.make_some hl2
      refine Run_E (by kernel_rfl) ?_
      refine E_make cd2 0 (kl := .i64) (kc := .i64) H2 cd2_ti Tryz.underlying24 (by decide) cd2_zero (by kernel_rfl) hl2 (fun a2 h4 H4 => ?_)
      obtain ⟨x2, hx1, hB1⟩ := M.bind_some hB1
      obtain ⟨hx1l, hx1u, hx1⟩ := M.idx_some hx1
      refine Zz (.pointer (some (adr a1 (i1.toNat * 1)))) (Zi 22 24 1 (a1) (l1.length) (l1.length) .i64 (i1) Tryz.underlying22 ((H4.rd 1 rfl).cell hx1).1 hx1l (by rw [← (H4.len 1 rfl)]; exact hx1u)) ?_
      obtain ⟨l3, hu1, hB1⟩ := M.bind_some hB1
      have hu1 := M.upd_some hu1
      have H6 : Hold h h4 [own cd24 a1 l1.length l1.length s1, own cd2 a2 l2.length l2.length l2] := H4.pick [1, 0] (by kernel_rfl)
      have H7 : Hold h h4 [own cd2 a2 l2.length l2.length l2, own cd24 a1 l1.length l1.length s1] := H6.pick [1, 0] (by kernel_rfl)
      have H8 : Hold h h4 [own cd24 a1 l1.length l1.length s1, own cd2 a2 l2.length l2.length l2] := H7.pick [1, 0] (by kernel_rfl)
      refine Run_E (by kernel_rfl) ?_
      refine E_putRow (t := 24) (j := i1) H8 (by kernel_rfl) (by kernel_rfl) hu1 (fun h5 H5 => ?_)
      refine Run_nil (by kernel_rfl) ?_
      refine Zk [1, 2, 7, 8, 13, 14] [(1, .int .i64 n_), (2, .func (.func 154) #[] #[.pointer (some ⟨bentry0, 0, none⟩), .pointer (some ⟨bentry1, 0, none⟩)]), (7, .slice a1 l1.length l1.length), (8, .int .i64 i1), (13, .int .i64 (l1.length : Int)), (14, .int .i64 i1)] ?_
      refine Zs ?_
      obtain ⟨x3, hx2, hB1⟩ := M.bind_some hB1
      obtain ⟨hx2l, hx2u, hx2⟩ := M.idx_some hx2
      have H9 := H5.toRows
      obtain ⟨a3, c1, H10⟩ := H9.pinRow hx2
      refine Zg 6 [(1, .int .i64 n_), (2, .func (.func 154) #[] #[.pointer (some ⟨bentry0, 0, none⟩), .pointer (some ⟨bentry1, 0, none⟩)]), (7, .slice a1 l1.length l1.length), (8, .int .i64 i1), (13, .int .i64 (l1.length : Int)), (14, .int .i64 i1), (26, .int .i64 (x3.length : Int)), (27, .int .i64 0)] ?_ ?_
      · refine Zb [.slice a1 l1.length l1.length, .int .i64 i1] 0 ?_
        refine Zy (.pointer (some (adr a1 (i1.toNat * 1)))) (Zi 22 24 1 (a1) (l1.length) (l1.length) .i64 (i1) Tryz.underlying22 ((H5.rd 0 rfl).cell hx2).1 hx2l (by rw [← (H5.len 0 rfl)]; exact hx2u)) ?_
        refine Zy (.slice a3 x3.length c1) (Zl 24 (adr a1 (i1.toNat * 1)) (.slice a3 x3.length c1) (H10.cellPin 0 rfl 0 rfl)) ?_
        refine Zb [.int .i64 (x3.length : Int), .int .i64 0] 4 ?_
        exact Zd [1, 2, 7, 8, 13, 14, 26, 27]
      obtain ⟨x4, gx4, hB1⟩ := M.bind_some hB1
      obtain ⟨hloy2, hhiy2, gx4⟩ := M.for_start gx4
      refine Run_join (fun L' h' => L' = [(1, .int .i64 n_), (2, .func (.func 154) #[] #[.pointer (some ⟨bentry0, 0, none⟩), .pointer (some ⟨bentry1, 0, none⟩)]), (7, .slice a1 l1.length l1.length), (13, .int .i64 (l1.length : Int)), (14, .int .i64 i1)] ∧ Hold h h' [own cd24 a1 l1.length l1.length x4]) ?_ ?_
      · rintro _ h7 ⟨rfl, H12⟩
        refine Run_blk ?_
        refine Zg 2 [(1, .int .i64 n_), (2, .func (.func 154) #[] #[.pointer (some ⟨bentry0, 0, none⟩), .pointer (some ⟨bentry1, 0, none⟩)]), (7, .slice a1 l1.length l1.length), (13, .int .i64 (l1.length : Int)), (14, .int .i64 (i1 + 1))] ?_ ?_
        · refine Zy (.int .i64 (i1 + 1)) (Y_eq (v := .int .i64 (w64 (i1 + 1))) (Y_pure (fun w => by kernel_rfl)) (by rw [w64_eq _ (by omega)])) ?_
          refine Zb [.int .i64 (i1 + 1)] 1 ?_
          exact Zd [1, 2, 7, 13, 14]
        have hB1 := M.ret_some hB1
        have gx1 := hgoy1 _ hB1.symm
        exact Run_again [1, 2, 7, 13, 14] (by kernel_rfl) my1 (Nat.lt_succ_self _) ⟨i1 + 1, x4, by omega, gx1, rfl, H12⟩
      · refine Run_block ?_
        have H19 := H10.ofRows
        refine Zk [1, 2, 7, 8, 13, 14, 26, 27] [(1, .int .i64 n_), (2, .func (.func 154) #[] #[.pointer (some ⟨bentry0, 0, none⟩), .pointer (some ⟨bentry1, 0, none⟩)]), (7, .slice a1 l1.length l1.length), (8, .int .i64 i1), (13, .int .i64 (l1.length : Int)), (14, .int .i64 i1), (26, .int .i64 (x3.length : Int)), (27, .int .i64 0)] ?_
        refine Run_loop (fun m L' h' => ∃ (i2 : Int) (s2 : (List (List Int))), 0 ≤ i2 ∧ M.forN (x3.length : Int) _ _ n m i2 s2 = some x4 ∧ L' = [(1, .int .i64 n_), (2, .func (.func 154) #[] #[.pointer (some ⟨bentry0, 0, none⟩), .pointer (some ⟨bentry1, 0, none⟩)]), (7, .slice a1 l1.length l1.length), (8, .int .i64 i1), (13, .int .i64 (l1.length : Int)), (14, .int .i64 i1), (26, .int .i64 (x3.length : Int)), (27, .int .i64 i2)] ∧ Hold h h' [own cd24 a1 l1.length l1.length s2]) ((x3.length : Int) - 0 : Int).toNat ⟨0, l3, Int.le_refl _, gx4, rfl, H19⟩ ?_
        rintro my2 _ h6 ⟨i2, s2, hloy2', gx4, rfl, H11⟩
        refine Zs ?_
        refine Zq [.bool (decide (i2 < (x3.length : Int)))] [1, 2, 7, 8, 13, 14, 26, 27, 28] [(1, .int .i64 n_), (2, .func (.func 154) #[] #[.pointer (some ⟨bentry0, 0, none⟩), .pointer (some ⟨bentry1, 0, none⟩)]), (7, .slice a1 l1.length l1.length), (8, .int .i64 i1), (13, .int .i64 (l1.length : Int)), (14, .int .i64 i1), (26, .int .i64 (x3.length : Int)), (27, .int .i64 i2), (28, .bool (decide (i2 < (x3.length : Int))))] ?_
        refine Zs ?_
        refine Zc (decide (i2 < (x3.length : Int))) (fun hb2 => ?_) (fun hb2 => ?_)
        · obtain ⟨my2, y2, rfl, hB2, hgoy2, houty2⟩ := M.for_go gx4 hb2
          have hlty2 := of_decide_eq_true hb2
          refine Run_skip ?_
          refine Zs ?_
          refine Run_block ?_
          refine Zs ?_
          refine Zq [.int .i64 i2, .int .i64 i2] [1, 2, 7, 8, 9, 13, 14, 26, 27] [(1, .int .i64 n_), (2, .func (.func 154) #[] #[.pointer (some ⟨bentry0, 0, none⟩), .pointer (some ⟨bentry1, 0, none⟩)]), (7, .slice a1 l1.length l1.length), (8, .int .i64 i1), (9, .int .i64 i2), (13, .int .i64 (l1.length : Int)), (14, .int .i64 i1), (26, .int .i64 (x3.length : Int)), (27, .int .i64 i2)] ?_
          obtain ⟨x5, hx3, hB2⟩ := M.bind_some hB2
          obtain ⟨hx3l, hx3u, hx3⟩ := M.idx_some hx3
          have H13 := H11.toRows
          obtain ⟨a4, c2, H14⟩ := H13.pinRow hx3
          obtain ⟨x6, hx4, hB2⟩ := M.bind_some hB2
          obtain ⟨x7, hx5, hB2⟩ := M.bind_some hB2
          obtain ⟨hx5l, hx5u, hx5⟩ := M.idx_some hx5
          refine Run_D (fun x => Hold h x [rowsP cd2 24 a1 l1.length l1.length s2 [(i1.toNat, a4, x5.length, c2, x5)]]) (fun x => Hold h x [rowsP cd2 24 a1 l1.length l1.length s2 [(i1.toNat, a4, x5.length, c2, x5)]]) mixed (by kernel_rfl) H14 Hold.stable (fun x Hy => (show Hold h x [rowsP cd2 24 a1 l1.length l1.length s2 [(i1.toNat, a4, x5.length, c2, x5)]] from Hy).pick [0] (by kernel_rfl)) ?_
          refine DR_b 9 [.slice a1 l1.length l1.length, .int .i64 i1] 0 (by kernel_rfl) (by kernel_rfl) (by kernel_rfl) (fun w => by kernel_rfl) ?_
          refine DR_y 8 (i := 2) (.pointer (some (adr a1 (i1.toNat * 1)))) (by kernel_rfl) (by kernel_rfl) (by kernel_rfl) (fun hx Hx => (YE.of (Zi 22 24 1 (a1) (l1.length) (l1.length) .i64 (i1) Tryz.underlying22 ((H11.rd 0 rfl).cell hx3).1 hx3l (by rw [← (H11.len 0 rfl)]; exact hx3u)))) ?_
          refine DR_y 7 (i := 3) (.slice a4 x5.length c2) (by kernel_rfl) (by kernel_rfl) (by kernel_rfl) (fun hx Hx => (YE.of (Zl 24 (adr a1 (i1.toNat * 1)) (.slice a4 x5.length c2) (Hx.cellPin 0 rfl 0 rfl)))) ?_
          refine DR_b 3 [.int .i64 i2, .func (.func 154) #[] #[.pointer (some ⟨bentry0, 0, none⟩), .pointer (some ⟨bentry1, 0, none⟩)], .int .i64 i1, .int .i64 i2] 4 (by kernel_rfl) (by kernel_rfl) (by kernel_rfl) (fun w => by kernel_rfl) ?_
          refine DR_y 2 (i := 8) (.int .i64 x6) (by kernel_rfl) (by kernel_rfl) (by kernel_rfl) (fun hx Hx => (YE.of (Y_callq (f := 154) (args := #[.int .i64 i1, .int .i64 i2, .pointer (some ⟨bentry0, 0, none⟩), .pointer (some ⟨bentry1, 0, none⟩)]) (v := .int .i64 x6) (by kernel_rfl) (w_impl_addMatrices_1 hx i1 i2 entry0 aentry0 centry0 (rentry0.at Hx.ext) bentry0 (ventry0.at Hx.ext) entry1 aentry1 centry1 (rentry1.at Hx.ext) bentry1 (ventry1.at Hx.ext) _ _ hx4)))) ?_
          refine DR_y 1 (i := 9) (.pointer (some (adr a4 (i2.toNat * 1)))) (by kernel_rfl) (by kernel_rfl) (by kernel_rfl) (fun hx Hx => (YE.of (Zi 24 2 1 (a4) (x5.length) (c2) .i64 (i2) Tryz.underlying24 ((H14.rdPin 0 rfl 0 rfl).cell hx5).1 hx5l hx5u))) ?_
          refine DR_tail (i := 10) (by kernel_rfl) (by kernel_rfl) (by kernel_rfl) (fun h8 H15 => ?_)
          have H16 : Hold h h8 [rowsP cd2 24 a1 l1.length l1.length s2 [(i1.toNat, a4, x5.length, c2, x5)]] := H15
          obtain ⟨l4, hu2, hB2⟩ := M.bind_some hB2
          have hu2 := M.upd_some hu2
          refine Run_E (by kernel_rfl) ?_
          refine E_put2 (C := cd2) (t := 2) (sz := 1) (j := i2) (x := x6) (v := .int .i64 x6) (m2 := s2.set i1.toNat l4) H16 cd2_flat 0 rfl (by kernel_rfl) rfl (cd2_own _) (by kernel_rfl) hu2 rfl (fun h9 H17 => ?_)
          refine Run_nil (by kernel_rfl) ?_
          refine Zk [1, 2, 7, 8, 13, 14, 26, 27] [(1, .int .i64 n_), (2, .func (.func 154) #[] #[.pointer (some ⟨bentry0, 0, none⟩), .pointer (some ⟨bentry1, 0, none⟩)]), (7, .slice a1 l1.length l1.length), (8, .int .i64 i1), (13, .int .i64 (l1.length : Int)), (14, .int .i64 i1), (26, .int .i64 (x3.length : Int)), (27, .int .i64 i2)] ?_
          refine Run_blk ?_
          refine Zg 2 [(1, .int .i64 n_), (2, .func (.func 154) #[] #[.pointer (some ⟨bentry0, 0, none⟩), .pointer (some ⟨bentry1, 0, none⟩)]), (7, .slice a1 l1.length l1.length), (8, .int .i64 i1), (13, .int .i64 (l1.length : Int)), (14, .int .i64 i1), (26, .int .i64 (x3.length : Int)), (27, .int .i64 (i2 + 1))] ?_ ?_
          · refine Zy (.int .i64 (i2 + 1)) (Y_eq (v := .int .i64 (w64 (i2 + 1))) (Y_pure (fun w => by kernel_rfl)) (by rw [w64_eq _ (by omega)])) ?_
            refine Zb [.int .i64 (i2 + 1)] 1 ?_
            exact Zd [1, 2, 7, 8, 13, 14, 26, 27]
          have H18 := H17.ofRows
          have hB2 := M.ret_some hB2
          have gx4 := hgoy2 _ hB2.symm
          exact Run_again [1, 2, 7, 8, 13, 14, 26, 27] (by kernel_rfl) my2 (Nat.lt_succ_self _) ⟨i2 + 1, (s2.set i1.toNat l4), by omega, gx4, rfl, H18⟩
        · have gx4 := M.for_end gx4 hb2
          subst gx4
          refine Run_exit (k' := _) rfl ?_
          exact Run_fall [1, 2, 7, 13, 14] (by kernel_rfl) ⟨rfl, H11⟩
    · have gx1 := M.for_end gx1 hb1
      subst gx1
      refine Run_exit (k' := _) rfl ?_
      exact Run_fall [7] (by kernel_rfl) ⟨rfl, H2⟩

set_option maxRecDepth 100000 in
set_option maxHeartbeats 4000000 in
theorem w_impl_addMatrices (h : Heap) (a_ : List (List Int)) (aa_ : Option Addr) (ca_ : Nat) (ra_ : Rd cd24 h (Lt h) aa_ ca_ a_) (b : List (List Int)) (ab : Option Addr) (cb : Nat) (rb : Rd cd24 h (Lt h) ab cb b) (n : Nat) (r : (List (List Int))) (hF : impl_addMatrices a_ b n = some r) :
    Fn Tryz.prog 135 #[.slice aa_ a_.length ca_, .slice ab b.length cb] h fun v h' => ∃ (a0 : Option Addr) (c0 : Nat), v = .slice a0 r.length c0 ∧ Hold h h' [own cd24 a0 r.length c0 r] := by
  unfold impl_addMatrices at hF
  refine Fn_enter (args := [.slice aa_ a_.length ca_, .slice ab b.length cb]) Tryz.func135 rfl (by kernel_rfl) (by kernel_rfl) (fun w0 _ => ?_)
  have H0 := Hold.init h
  refine Zs ?_
  refine Run_ops ?_
  refine Run_E (by kernel_rfl) ?_
  refine E_box (ty := 22) (cs := [.slice aa_ a_.length ca_]) H0 (fun w => by kernel_rfl) (fun b1 h1 H1 => ?_)
  refine Run_E (by kernel_rfl) ?_
  refine E_box (ty := 22) (cs := [.slice ab b.length cb]) H1 (fun w => by kernel_rfl) (fun b2 h2 H2 => ?_)
  refine Zr [.slice none 0 0] 2 ?_
  refine Run_nil (by kernel_rfl) ?_
  refine Zk [2, 3] [(2, .pointer (some ⟨b1, 0, none⟩)), (3, .pointer (some ⟨b2, 0, none⟩))] ?_
  refine Zs ?_
  obtain ⟨x1, hx1, hF⟩ := M.bind_some hF
  obtain ⟨hx1l, hx1u, hx1⟩ := M.idx_some hx1
  obtain ⟨a1, c1, hc1, r1⟩ := ra_.row hx1
  refine Run_D (fun x => Hold h x [box b2 22 [.slice ab b.length cb], box b1 22 [.slice aa_ a_.length ca_]]) (fun x => Hold h x [box b2 22 [.slice ab b.length cb], box b1 22 [.slice aa_ a_.length ca_]]) mixed (by kernel_rfl) H2 Hold.stable (fun x Hy => (show Hold h x [box b2 22 [.slice ab b.length cb], box b1 22 [.slice aa_ a_.length ca_]] from Hy).pick [0, 1] (by kernel_rfl)) ?_
  refine DR_y 8 (i := 0) (.slice aa_ a_.length ca_) (by kernel_rfl) (by kernel_rfl) (by kernel_rfl) (fun hx Hx => (YE.of (Zl 22 (⟨b1, 0, none⟩) (.slice aa_ a_.length ca_) (Hx.cell 1 rfl rfl)))) ?_
  refine DR_b 7 [.int .i64 (a_.length : Int)] 1 (by kernel_rfl) (by kernel_rfl) (by kernel_rfl) (fun w => by kernel_rfl) ?_
  refine DR_y 6 (i := 2) (.slice aa_ a_.length ca_) (by kernel_rfl) (by kernel_rfl) (by kernel_rfl) (fun hx Hx => (YE.of (Zl 22 (⟨b1, 0, none⟩) (.slice aa_ a_.length ca_) (Hx.cell 1 rfl rfl)))) ?_
  refine DR_y 5 (i := 3) (.pointer (some (adr aa_ (0 * 1)))) (by kernel_rfl) (by kernel_rfl) (by kernel_rfl) (fun hx Hx => (YE.of (Zi 22 24 1 (aa_) (a_.length) (ca_) .i64 (0) Tryz.underlying22 ((ra_.at H2.ext).cell hx1).1 hx1l hx1u))) ?_
  refine DR_y 4 (i := 4) (.slice a1 x1.length c1) (by kernel_rfl) (by kernel_rfl) (by kernel_rfl) (fun hx Hx => (YE.of (Zl 24 (adr aa_ (0 * 1)) (.slice a1 x1.length c1) (cell_at Hx.ext hc1)))) ?_
  refine DR_b 2 [.int .i64 (x1.length : Int), .func (.func 154) #[] #[.pointer (some ⟨b1, 0, none⟩), .pointer (some ⟨b2, 0, none⟩)]] 5 (by kernel_rfl) (by kernel_rfl) (by kernel_rfl) (fun w => by kernel_rfl) ?_
  refine DR_tail (i := 7) (by kernel_rfl) (by kernel_rfl) (by kernel_rfl) (fun h3 H3 => ?_)
  have H4 : Hold h h3 [box b2 22 [.slice ab b.length cb], box b1 22 [.slice aa_ a_.length ca_]] := H3
  obtain ⟨x2, hx2, hF⟩ := M.bind_some hF
  refine Run_E (by kernel_rfl) ?_
  refine E_call (f := 109) (args := #[.int .i64 (a_.length : Int), .int .i64 (x1.length : Int), .func (.func 154) #[] #[.pointer (some ⟨b1, 0, none⟩), .pointer (some ⟨b2, 0, none⟩)]]) (w_impl_matrixBy_F_impl_addMatrices_1 h3 (a_.length : Int) (x1.length : Int) a_ aa_ ca_ (ra_.at H4.ext) b1 (H4.var 1 rfl) b ab cb (rb.at H4.ext) b2 (H4.var 0 rfl) _ _ hx2) (by kernel_rfl) (fun v1 h4 hp1 => ?_)
  obtain ⟨a2, c2, rfl, H5⟩ := hp1
  have H6 : Hold h h4 [own cd24 a2 x2.length c2 x2, box b2 22 [.slice ab b.length cb], box b1 22 [.slice aa_ a_.length ca_]] := H4.call H5 rfl
  refine Zr [.slice a2 x2.length c2] 8 ?_
  refine Run_nil (by kernel_rfl) ?_
  refine Zk [4] [(4, .slice a2 x2.length c2)] ?_
  have hF := M.ret_some hF
  subst hF
  have H7 : Hold h h4 [own cd24 a2 x2.length c2 x2] := H6.pick [0] (by kernel_rfl)
  exact Run_ret1 rfl (ResV_tmp (v := .slice a2 x2.length c2) (by kernel_rfl)) ⟨a2, c2, rfl, H7⟩

end Go.Proofs.YtelopfgolahlpaaGreat
