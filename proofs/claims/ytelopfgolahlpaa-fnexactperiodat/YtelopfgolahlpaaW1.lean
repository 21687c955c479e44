/-
  Walks: each Go function, called with what reads as plain data, returns what its plain program computes.
  Conditions: None beyond the given statement.
-/
import Derived.Test.YtelopfgolahlpaaW0
namespace Go.Proofs.Ytelopfgolahlpaa
open Go
attribute [local irreducible] setL setB opA fineI idleI fineB evB okB markB markBs readyB readyBs chainB lk rho pickL dropSlot tailOK
set_option maxRecDepth 100000 in
set_option maxHeartbeats 4000000 in
theorem w_spec_l03Star (h : Heap) (a_ : List (List Int)) (aa_ : Option Addr) (ca_ : Nat) (ra_ : Rd cd90 h (Lt h) aa_ ca_ a_) (n : Nat) (r : (List (List Int)) × Bool) (hF : spec_l03Star a_ n = some r) :
    Fn Try.prog 164 #[.slice aa_ a_.length ca_] h fun v h' => ∃ (a0 : Option Addr) (c0 : Nat), v = .tuple #[.slice a0 r.1.length c0, .bool r.2] ∧ Hold h h' [own cd90 a0 r.1.length c0 r.1] := by
  unfold spec_l03Star at hF
  refine Fn_enter (args := [.slice aa_ a_.length ca_]) Try.func164 rfl (by kernel_rfl) (by kernel_rfl) (fun w0 _ => ?_)
  have H0 := Hold.init h
  refine Zs ?_
  refine Zq [.slice none 0 0, .bool false] [0] [(0, .slice aa_ a_.length ca_)] ?_
  refine Zs ?_
  refine Zq [.slice aa_ a_.length ca_, .int .i64 (a_.length : Int), .int .i64 (a_.length : Int)] [0, 4] [(0, .slice aa_ a_.length ca_), (4, .int .i64 (a_.length : Int))] ?_
  refine Zs ?_
  refine Run_ops ?_
  refine Zr [.int .i64 (a_.length : Int)] 0 ?_
  obtain ⟨x1, hx1, hF⟩ := M.bind_some hF
  refine Run_E (by kernel_rfl) ?_
  refine E_call (f := 45) (args := #[.int .i64 (a_.length : Int)]) (w_spec_l02Unit h (a_.length : Int) _ _ hx1) (by kernel_rfl) (fun v1 h1 hp1 => ?_)
  obtain ⟨a1, c1, rfl, H1⟩ := hp1
  have H2 : Hold h h1 [own cd90 a1 x1.length c1 x1] := H0.call H1 rfl
  refine Zr [.slice a1 x1.length c1] 2 ?_
  refine Run_nil (by kernel_rfl) ?_
  refine Zk [0, 4, 5] [(0, .slice aa_ a_.length ca_), (4, .int .i64 (a_.length : Int)), (5, .slice a1 x1.length c1)] ?_
  refine Zs ?_
  refine Zs ?_
  refine Zq [.int .i64 0] [0, 4, 5, 6] [(0, .slice aa_ a_.length ca_), (4, .int .i64 (a_.length : Int)), (5, .slice a1 x1.length c1), (6, .int .i64 0)] ?_
  obtain ⟨x2, gx2, hF⟩ := M.bind_some hF
  obtain ⟨hloy1, hhiy1, gx2⟩ := M.for_start gx2
  refine Run_join (fun L' h' => ∃ (a3 : Option Addr) (c3 : Nat), L' = [(0, .slice aa_ a_.length ca_), (4, .int .i64 (a_.length : Int)), (5, .slice a3 x2.length c3)] ∧ Hold h h' [own cd90 a3 x2.length c3 x2]) ?_ ?_
  · rintro _ h3 ⟨a3, c3, rfl, H4⟩
    refine Zs ?_
    refine Run_ops ?_
    refine Zr [.int .i64 (a_.length : Int)] 0 ?_
    obtain ⟨x6, hx5, hF⟩ := M.bind_some hF
    refine Run_E (by kernel_rfl) ?_
    refine E_call (f := 45) (args := #[.int .i64 (a_.length : Int)]) (w_spec_l02Unit h3 (a_.length : Int) _ _ hx5) (by kernel_rfl) (fun v5 h7 hp5 => ?_)
    obtain ⟨a7, c7, rfl, H12⟩ := hp5
    have H13 : Hold h h7 [own cd90 a7 x6.length c7 x6, own cd90 a3 x2.length c3 x2] := H4.call H12 rfl
    refine Zr [.slice aa_ a_.length ca_, .slice a3 x2.length c3] 2 ?_
    obtain ⟨x7, hx6, hF⟩ := M.bind_some hF
    refine Run_E (by kernel_rfl) ?_
    refine E_call (f := 101) (args := #[.slice aa_ a_.length ca_, .slice a3 x2.length c3]) (w_spec_l02Multiply h7 a_ aa_ ca_ (ra_.at H13.ext) x2 a3 c3 (H13.rd 1 rfl) _ _ hx6) (by kernel_rfl) (fun v6 h8 hp6 => ?_)
    obtain ⟨a8, c8, rfl, H14⟩ := hp6
    have H15 : Hold h h8 [own cd90 a8 x7.length c8 x7, own cd90 a7 x6.length c7 x6, own cd90 a3 x2.length c3 x2] := H13.call H14 rfl
    obtain ⟨x8, hx7, hF⟩ := M.bind_some hF
    refine Run_E (by kernel_rfl) ?_
    refine E_call (f := 175) (args := #[.slice a7 x6.length c7, .slice a8 x7.length c8]) (w_spec_l02Add h8 x6 a7 c7 (H15.rd 1 rfl) x7 a8 c8 (H15.rd 0 rfl) _ _ hx7) (by kernel_rfl) (fun v7 h9 hp7 => ?_)
    obtain ⟨a9, c9, rfl, H16⟩ := hp7
    have H17 : Hold h h9 [own cd90 a9 x8.length c9 x8, own cd90 a8 x7.length c8 x7, own cd90 a7 x6.length c7 x6, own cd90 a3 x2.length c3 x2] := H15.call H16 rfl
    refine Zr [.slice a9 x8.length c9] 6 ?_
    refine Run_nil (by kernel_rfl) ?_
    refine Zk [5, 7] [(5, .slice a3 x2.length c3), (7, .slice a9 x8.length c9)] ?_
    refine Zs ?_
    obtain ⟨x9, hx8, hF⟩ := M.bind_some hF
    refine Zg 6 [(2, .slice a3 x2.length c3), (3, .bool x9)] ?_ ?_
    · refine Zb [.slice a3 x2.length c3, .slice a9 x8.length c9, .slice a3 x2.length c3] 0 ?_
      refine Zy (.bool x9) (Y_callq (f := 176) (args := #[.slice a9 x8.length c9, .slice a3 x2.length c3]) (v := .bool x9) (by kernel_rfl) (w_spec_l02Same h9 x8 a9 c9 (H17.rd 0 rfl) x2 a3 c3 (H17.rd 3 rfl) _ _ hx8)) ?_
      refine Zb [.slice a3 x2.length c3, .bool x9] 4 ?_
      exact Zd [2, 3]
    have hF := M.ret_some hF
    subst hF
    have H18 : Hold h h9 [own cd90 a3 x2.length c3 x2, own cd90 a9 x8.length c9 x8, own cd90 a8 x7.length c8 x7, own cd90 a7 x6.length c7 x6] := H17.pick [3, 0, 1, 2] (by kernel_rfl)
    have H19 : Hold h h9 [own cd90 a3 x2.length c3 x2] := H18.pick [0] (by kernel_rfl)
    exact Run_ret2 rfl (ResV_tmp (v := .slice a3 x2.length c3) (by kernel_rfl)) (ResV_tmp (v := .bool x9) (by kernel_rfl)) ⟨a3, c3, rfl, H19⟩
  · refine Run_block ?_
    refine Zk [0, 4, 5, 6] [(0, .slice aa_ a_.length ca_), (4, .int .i64 (a_.length : Int)), (5, .slice a1 x1.length c1), (6, .int .i64 0)] ?_
    refine Run_loop (fun m L' h' => ∃ (i1 : Int) (s1 : (List (List Int))) (a2 : Option Addr) (c2 : Nat), 0 ≤ i1 ∧ M.forN (a_.length : Int) _ _ n m i1 s1 = some x2 ∧ L' = [(0, .slice aa_ a_.length ca_), (4, .int .i64 (a_.length : Int)), (5, .slice a2 s1.length c2), (6, .int .i64 i1)] ∧ Hold h h' [own cd90 a2 s1.length c2 s1]) ((a_.length : Int) - 0 : Int).toNat ⟨0, x1, a1, c1, Int.le_refl _, gx2, rfl, H2⟩ ?_
    rintro my1 _ h2 ⟨i1, s1, a2, c2, hloy1', gx2, rfl, H3⟩
    refine Zs ?_
    refine Zs ?_
    refine Zq [.int .i64 i1, .int .i64 (a_.length : Int), .bool (decide (i1 < (a_.length : Int)))] [0, 4, 5, 6, 14] [(0, .slice aa_ a_.length ca_), (4, .int .i64 (a_.length : Int)), (5, .slice a2 s1.length c2), (6, .int .i64 i1), (14, .bool (decide (i1 < (a_.length : Int))))] ?_
    refine Zc (decide (i1 < (a_.length : Int))) (fun hb1 => ?_) (fun hb1 => ?_)
    · obtain ⟨my1, y1, rfl, hB1, hgoy1, houty1⟩ := M.for_go gx2 hb1
      have hlty1 := of_decide_eq_true hb1
      refine Run_skip ?_
      refine Zs ?_
      refine Run_block ?_
      refine Run_ops ?_
      refine Zr [.int .i64 (a_.length : Int)] 0 ?_
      obtain ⟨x3, hx2, hB1⟩ := M.bind_some hB1
      refine Run_E (by kernel_rfl) ?_
      refine E_call (f := 45) (args := #[.int .i64 (a_.length : Int)]) (w_spec_l02Unit h2 (a_.length : Int) _ _ hx2) (by kernel_rfl) (fun v2 h4 hp2 => ?_)
      obtain ⟨a4, c4, rfl, H5⟩ := hp2
      have H6 : Hold h h4 [own cd90 a4 x3.length c4 x3, own cd90 a2 s1.length c2 s1] := H3.call H5 rfl
      refine Zr [.slice aa_ a_.length ca_, .slice a2 s1.length c2] 2 ?_
      obtain ⟨x4, hx3, hB1⟩ := M.bind_some hB1
      refine Run_E (by kernel_rfl) ?_
      refine E_call (f := 101) (args := #[.slice aa_ a_.length ca_, .slice a2 s1.length c2]) (w_spec_l02Multiply h4 a_ aa_ ca_ (ra_.at H6.ext) s1 a2 c2 (H6.rd 1 rfl) _ _ hx3) (by kernel_rfl) (fun v3 h5 hp3 => ?_)
      obtain ⟨a5, c5, rfl, H7⟩ := hp3
      have H8 : Hold h h5 [own cd90 a5 x4.length c5 x4, own cd90 a4 x3.length c4 x3, own cd90 a2 s1.length c2 s1] := H6.call H7 rfl
      obtain ⟨x5, hx4, hB1⟩ := M.bind_some hB1
      refine Run_E (by kernel_rfl) ?_
      refine E_call (f := 175) (args := #[.slice a4 x3.length c4, .slice a5 x4.length c5]) (w_spec_l02Add h5 x3 a4 c4 (H8.rd 1 rfl) x4 a5 c5 (H8.rd 0 rfl) _ _ hx4) (by kernel_rfl) (fun v4 h6 hp4 => ?_)
      obtain ⟨a6, c6, rfl, H9⟩ := hp4
      have H10 : Hold h h6 [own cd90 a6 x5.length c6 x5, own cd90 a5 x4.length c5 x4, own cd90 a4 x3.length c4 x3, own cd90 a2 s1.length c2 s1] := H8.call H9 rfl
      refine Zr [.slice a6 x5.length c6] 6 ?_
      refine Run_nil (by kernel_rfl) ?_
      refine Zk [0, 4, 5, 6] [(0, .slice aa_ a_.length ca_), (4, .int .i64 (a_.length : Int)), (5, .slice a6 x5.length c6), (6, .int .i64 i1)] ?_
      refine Run_blk ?_
      refine Zg 3 [(0, .slice aa_ a_.length ca_), (4, .int .i64 (a_.length : Int)), (5, .slice a6 x5.length c6), (6, .int .i64 (i1 + 1))] ?_ ?_
      · refine Zb [.int .i64 i1] 0 ?_
        refine Zy (.int .i64 (i1 + 1)) (Y_eq (v := .int .i64 (w64 (i1 + 1))) (Y_pure (fun w => by kernel_rfl)) (by rw [w64_eq _ (by omega)])) ?_
        refine Zb [.int .i64 (i1 + 1)] 2 ?_
        exact Zd [0, 4, 5, 6]
      have H11 : Hold h h6 [own cd90 a6 x5.length c6 x5] := H10.pick [0] (by kernel_rfl)
      have hB1 := M.ret_some hB1
      have gx2 := hgoy1 _ hB1.symm
      exact Run_again [0, 4, 5, 6] (by kernel_rfl) my1 (Nat.lt_succ_self _) ⟨i1 + 1, x5, a6, c6, by omega, gx2, rfl, H11⟩
    · have gx2 := M.for_end gx2 hb1
      subst gx2
      refine Run_exit (k' := _) rfl ?_
      exact Run_fall [0, 4, 5] (by kernel_rfl) ⟨a2, c2, rfl, H3⟩

set_option maxRecDepth 100000 in
set_option maxHeartbeats 4000000 in
theorem w_spec_l06Arcs (h : Heap) (a_ : List (List Int)) (aa_ : Option Addr) (ca_ : Nat) (ra_ : Rd cd90 h (Lt h) aa_ ca_ a_) (n : Nat) (r : (List (List Int))) (hF : spec_l06Arcs a_ n = some r) :
    Fn Try.prog 141 #[.slice aa_ a_.length ca_] h fun v h' => ∃ (a0 : Option Addr) (c0 : Nat), v = .slice a0 r.length c0 ∧ Hold h h' [own cd90 a0 r.length c0 r] := by
  unfold spec_l06Arcs at hF
  refine Fn_enter (args := [.slice aa_ a_.length ca_]) Try.func141 rfl (by kernel_rfl) (by kernel_rfl) (fun w0 _ => ?_)
  have H0 := Hold.init h
  refine Zs ?_
  refine Zq [.slice none 0 0] [0] [(0, .slice aa_ a_.length ca_)] ?_
  refine Zs ?_
  refine Run_ops ?_
  refine Zr [.slice aa_ a_.length ca_] 0 ?_
  obtain ⟨x1, hx1, hF⟩ := M.bind_some hF
  refine Run_E (by kernel_rfl) ?_
  refine E_call (f := 112) (args := #[.slice aa_ a_.length ca_]) (w_spec_l04Best h a_ aa_ ca_ ra_ _ _ hx1) (by kernel_rfl) (fun v1 h1 hp1 => ?_)
  obtain ⟨a1, c1, rfl, H1⟩ := hp1
  have H2 : Hold h h1 [own cd2 a1 x1.1.length c1 x1.1] := H0.call H1 rfl
  refine Zr [.tuple #[.slice a1 x1.1.length c1, .bool x1.2], .slice a1 x1.1.length c1, .bool x1.2, .slice a1 x1.1.length c1, .bool x1.2] 2 ?_
  refine Run_nil (by kernel_rfl) ?_
  refine Zk [0, 3] [(0, .slice aa_ a_.length ca_), (3, .slice a1 x1.1.length c1)] ?_
  refine Zs ?_
  refine Run_ops ?_
  refine Zr [.slice aa_ a_.length ca_, .slice a1 x1.1.length c1] 0 ?_
  obtain ⟨x2, hx2, hF⟩ := M.bind_some hF
  refine Run_E (by kernel_rfl) ?_
  refine E_call (f := 138) (args := #[.slice aa_ a_.length ca_, .slice a1 x1.1.length c1]) (w_spec_l04Mean h1 a_ aa_ ca_ (ra_.at H2.ext) x1.1 a1 c1 (H2.rd 0 rfl) _ _ hx2) (by kernel_rfl) (fun v2 h2 hp2 => ?_)
  obtain ⟨rfl, H3⟩ := hp2
  have H4 : Hold h h2 [own cd2 a1 x1.1.length c1 x1.1] := H2.call H3 rfl
  refine Zr [.tuple #[.agg #[.int .i64 x2.1.Num, .int .i64 x2.1.Den], .bool x2.2], .agg #[.int .i64 x2.1.Num, .int .i64 x2.1.Den], .bool x2.2] 3 ?_
  refine Run_E (by kernel_rfl) ?_
  refine E_box (ty := 47) (cs := [.int .i64 0, .int .i64 0]) H4 (fun w => by kernel_rfl) (fun b1 h3 H5 => ?_)
  refine Run_E (by kernel_rfl) ?_
  refine E_bput (t := 47) (off := 0) (us := [.int .i64 x2.1.Num, .int .i64 x2.1.Den]) (v := .agg #[.int .i64 x2.1.Num, .int .i64 x2.1.Den]) H5 (by kernel_rfl) (by kernel_rfl) rfl (by kernel_rfl) rfl (fun h4 H6 => ?_)
  refine Zr [.bool x2.2] 8 ?_
  refine Run_nil (by kernel_rfl) ?_
  refine Zk [0, 5] [(0, .slice aa_ a_.length ca_), (5, .pointer (some ⟨b1, 0, none⟩))] ?_
  refine Zs ?_
  refine Run_ops ?_
  refine Zr [.slice aa_ a_.length ca_] 0 ?_
  refine Zz (.agg #[.int .i64 x2.1.Num, .int .i64 x2.1.Den]) (Y_loadA (t := 47) (n := 2) (p := ⟨b1, 0, none⟩) (cs := [.int .i64 x2.1.Num, .int .i64 x2.1.Den]) (by kernel_rfl) (fun w => by kernel_rfl) (by kernel_rfl) rfl (H6.cells (n := 2) (off := 0) 0 rfl rfl)) ?_
  obtain ⟨x3, hx3, hF⟩ := M.bind_some hF
  refine Run_E (by kernel_rfl) ?_
  refine E_call (f := 139) (args := #[.slice aa_ a_.length ca_, .agg #[.int .i64 x2.1.Num, .int .i64 x2.1.Den]]) (w_spec_l04Shift h4 a_ aa_ ca_ (ra_.at H6.ext) x2.1 _ _ hx3) (by kernel_rfl) (fun v3 h5 hp3 => ?_)
  obtain ⟨a2, c2, rfl, H7⟩ := hp3
  have H8 : Hold h h5 [own cd90 a2 x3.length c2 x3, box b1 47 [.int .i64 x2.1.Num, .int .i64 x2.1.Den], own cd2 a1 x1.1.length c1 x1.1] := H6.call H7 rfl
  refine Zr [.slice a2 x3.length c2] 3 ?_
  refine Run_nil (by kernel_rfl) ?_
  refine Zk [0, 7] [(0, .slice aa_ a_.length ca_), (7, .slice a2 x3.length c2)] ?_
  refine Zs ?_
  refine Run_ops ?_
  refine Zr [.slice a2 x3.length c2] 0 ?_
  obtain ⟨x4, hx4, hF⟩ := M.bind_some hF
  refine Run_E (by kernel_rfl) ?_
  refine E_call (f := 164) (args := #[.slice a2 x3.length c2]) (w_spec_l03Star h5 x3 a2 c2 (H8.rd 0 rfl) _ _ hx4) (by kernel_rfl) (fun v4 h6 hp4 => ?_)
  obtain ⟨a3, c3, rfl, H9⟩ := hp4
  have H10 : Hold h h6 [own cd90 a3 x4.1.length c3 x4.1, own cd90 a2 x3.length c2 x3, box b1 47 [.int .i64 x2.1.Num, .int .i64 x2.1.Den], own cd2 a1 x1.1.length c1 x1.1] := H8.call H9 rfl
  refine Zr [.tuple #[.slice a3 x4.1.length c3, .bool x4.2], .slice a3 x4.1.length c3, .bool x4.2, .slice a3 x4.1.length c3, .bool x4.2] 2 ?_
  refine Run_nil (by kernel_rfl) ?_
  refine Zk [0, 7, 8] [(0, .slice aa_ a_.length ca_), (7, .slice a2 x3.length c2), (8, .slice a3 x4.1.length c3)] ?_
  refine Zs ?_
  refine Run_ops ?_
  refine Run_E (by kernel_rfl) ?_
  refine E_lit (C := cd90) (n := 0) (l := []) (cs := []) H10 (fun w => by kernel_rfl) (Enc.nil _ _) rfl (by decide) (fun a4 h7 H11 => ?_)
  refine Zr [.slice a4 0 0] 1 ?_
  refine Run_nil (by kernel_rfl) ?_
  refine Zk [0, 7, 8, 10] [(0, .slice aa_ a_.length ca_), (7, .slice a2 x3.length c2), (8, .slice a3 x4.1.length c3), (10, .slice a4 0 0)] ?_
  refine Zs ?_
  refine Zs ?_
  refine Zq [.int .i64 0] [0, 7, 8, 10, 11] [(0, .slice aa_ a_.length ca_), (7, .slice a2 x3.length c2), (8, .slice a3 x4.1.length c3), (10, .slice a4 0 0), (11, .int .i64 0)] ?_
  obtain ⟨x5, gx5, hF⟩ := M.bind_some hF
  obtain ⟨hloy1, hhiy1, gx5⟩ := M.for_start gx5
  refine Run_join (fun L' h' => ∃ (a6 : Option Addr) (c5 : Nat), L' = [(10, .slice a6 x5.length c5)] ∧ Hold h h' [own cd90 a6 x5.length c5 x5]) ?_ ?_
  · rintro _ h9 ⟨a6, c5, rfl, H13⟩
    refine Zs ?_
    refine Zq [.slice a6 x5.length c5, .slice a6 x5.length c5] [2] [(2, .slice a6 x5.length c5)] ?_
    have hF := M.ret_some hF
    subst hF
    exact Run_ret1 rfl (ResV_tmp (v := .slice a6 x5.length c5) (by kernel_rfl)) ⟨a6, c5, rfl, H13⟩
  · refine Run_block ?_
    have hn1 := (H11.len 0 rfl)
    have H50 : Hold h h7 [own cd90 a4 (([] : List (List Int)).length) 0 ([] : List (List Int)), own cd90 a3 x4.1.length c3 x4.1, own cd90 a2 x3.length c2 x3, box b1 47 [.int .i64 x2.1.Num, .int .i64 x2.1.Den], own cd2 a1 x1.1.length c1 x1.1] := by rw [hn1]; exact H11
    have H51 : Hold h h7 [own cd90 a2 x3.length c2 x3, own cd90 a3 x4.1.length c3 x4.1, own cd90 a4 (([] : List (List Int)).length) 0 ([] : List (List Int))] := H50.pick [2, 1, 0] (by kernel_rfl)
    refine Run_keep [0, 7, 8, 10, 11] (L' := [(0, .slice aa_ a_.length ca_), (7, .slice a2 x3.length c2), (8, .slice a3 x4.1.length c3), (10, .slice a4 (([] : List (List Int)).length) 0), (11, .int .i64 0)]) (by first | (rw [hn1]; kernel_rfl) | (simp only [hn1]; kernel_rfl) | kernel_rfl) ?_
    refine Run_loop (fun m L' h' => ∃ (i1 : Int) (s1 : (List (List Int))) (a5 : Option Addr) (c4 : Nat), 0 ≤ i1 ∧ M.forN (a_.length : Int) _ _ n m i1 s1 = some x5 ∧ L' = [(0, .slice aa_ a_.length ca_), (7, .slice a2 x3.length c2), (8, .slice a3 x4.1.length c3), (10, .slice a5 s1.length c4), (11, .int .i64 i1)] ∧ Hold h h' [own cd90 a2 x3.length c2 x3, own cd90 a3 x4.1.length c3 x4.1, own cd90 a5 s1.length c4 s1]) ((a_.length : Int) - 0 : Int).toNat ⟨0, ([] : List (List Int)), a4, 0, Int.le_refl _, gx5, rfl, H51⟩ ?_
    rintro my1 _ h8 ⟨i1, s1, a5, c4, hloy1', gx5, rfl, H12⟩
    refine Zs ?_
    refine Zs ?_
    refine Zq [.int .i64 i1, .slice aa_ a_.length ca_, .int .i64 (a_.length : Int), .bool (decide (i1 < (a_.length : Int)))] [0, 7, 8, 10, 11, 36] [(0, .slice aa_ a_.length ca_), (7, .slice a2 x3.length c2), (8, .slice a3 x4.1.length c3), (10, .slice a5 s1.length c4), (11, .int .i64 i1), (36, .bool (decide (i1 < (a_.length : Int))))] ?_
    refine Zc (decide (i1 < (a_.length : Int))) (fun hb1 => ?_) (fun hb1 => ?_)
    · obtain ⟨my1, y1, rfl, hB1, hgoy1, houty1⟩ := M.for_go gx5 hb1
      have hlty1 := of_decide_eq_true hb1
      refine Run_skip ?_
      refine Zs ?_
      refine Run_block ?_
      refine Zs ?_
      refine Zq [.int .i64 0] [0, 7, 8, 10, 11, 12] [(0, .slice aa_ a_.length ca_), (7, .slice a2 x3.length c2), (8, .slice a3 x4.1.length c3), (10, .slice a5 s1.length c4), (11, .int .i64 i1), (12, .int .i64 0)] ?_
      obtain ⟨x6, gx6, hB1⟩ := M.bind_some hB1
      obtain ⟨hloy2, hhiy2, gx6⟩ := M.for_start gx6
      refine Run_join (fun L' h' => ∃ (a8 : Option Addr) (c7 : Nat), L' = [(0, .slice aa_ a_.length ca_), (7, .slice a2 x3.length c2), (8, .slice a3 x4.1.length c3), (10, .slice a8 x6.length c7), (11, .int .i64 i1)] ∧ Hold h h' [own cd90 a2 x3.length c2 x3, own cd90 a3 x4.1.length c3 x4.1, own cd90 a8 x6.length c7 x6]) ?_ ?_
      · rintro _ h11 ⟨a8, c7, rfl, H15⟩
        refine Run_blk ?_
        refine Zg 3 [(0, .slice aa_ a_.length ca_), (7, .slice a2 x3.length c2), (8, .slice a3 x4.1.length c3), (10, .slice a8 x6.length c7), (11, .int .i64 (i1 + 1))] ?_ ?_
        · refine Zb [.int .i64 i1] 0 ?_
          refine Zy (.int .i64 (i1 + 1)) (Y_eq (v := .int .i64 (w64 (i1 + 1))) (Y_pure (fun w => by kernel_rfl)) (by rw [w64_eq _ (by omega)])) ?_
          refine Zb [.int .i64 (i1 + 1)] 2 ?_
          exact Zd [0, 7, 8, 10, 11]
        have H44 : Hold h h11 [own cd90 a8 x6.length c7 x6, own cd90 a2 x3.length c2 x3, own cd90 a3 x4.1.length c3 x4.1] := H15.pick [2, 0, 1] (by kernel_rfl)
        have H45 : Hold h h11 [own cd90 a2 x3.length c2 x3, own cd90 a3 x4.1.length c3 x4.1, own cd90 a8 x6.length c7 x6] := H44.pick [1, 2, 0] (by kernel_rfl)
        have hB1 := M.ret_some hB1
        have gx5 := hgoy1 _ hB1.symm
        exact Run_again [0, 7, 8, 10, 11] (by kernel_rfl) my1 (Nat.lt_succ_self _) ⟨i1 + 1, x6, a8, c7, by omega, gx5, rfl, H45⟩
      · refine Run_block ?_
        have H46 : Hold h h8 [own cd90 a5 s1.length c4 s1, own cd90 a2 x3.length c2 x3, own cd90 a3 x4.1.length c3 x4.1] := H12.pick [2, 0, 1] (by kernel_rfl)
        have H47 : Hold h h8 [own cd90 a2 x3.length c2 x3, own cd90 a3 x4.1.length c3 x4.1, own cd90 a5 s1.length c4 s1] := H46.pick [1, 2, 0] (by kernel_rfl)
        refine Zk [0, 7, 8, 10, 11, 12] [(0, .slice aa_ a_.length ca_), (7, .slice a2 x3.length c2), (8, .slice a3 x4.1.length c3), (10, .slice a5 s1.length c4), (11, .int .i64 i1), (12, .int .i64 0)] ?_
        refine Run_loop (fun m L' h' => ∃ (i2 : Int) (s2 : (List (List Int))) (a7 : Option Addr) (c6 : Nat), 0 ≤ i2 ∧ M.forN (a_.length : Int) _ _ n m i2 s2 = some x6 ∧ L' = [(0, .slice aa_ a_.length ca_), (7, .slice a2 x3.length c2), (8, .slice a3 x4.1.length c3), (10, .slice a7 s2.length c6), (11, .int .i64 i1), (12, .int .i64 i2)] ∧ Hold h h' [own cd90 a2 x3.length c2 x3, own cd90 a3 x4.1.length c3 x4.1, own cd90 a7 s2.length c6 s2]) ((a_.length : Int) - 0 : Int).toNat ⟨0, s1, a5, c4, Int.le_refl _, gx6, rfl, H47⟩ ?_
        rintro my2 _ h10 ⟨i2, s2, a7, c6, hloy2', gx6, rfl, H14⟩
        refine Zs ?_
        refine Zs ?_
        refine Zq [.int .i64 i2, .slice aa_ a_.length ca_, .int .i64 (a_.length : Int), .bool (decide (i2 < (a_.length : Int)))] [0, 7, 8, 10, 11, 12, 42] [(0, .slice aa_ a_.length ca_), (7, .slice a2 x3.length c2), (8, .slice a3 x4.1.length c3), (10, .slice a7 s2.length c6), (11, .int .i64 i1), (12, .int .i64 i2), (42, .bool (decide (i2 < (a_.length : Int))))] ?_
        refine Zc (decide (i2 < (a_.length : Int))) (fun hb2 => ?_) (fun hb2 => ?_)
        · obtain ⟨my2, y2, rfl, hB2, hgoy2, houty2⟩ := M.for_go gx6 hb2
          have hlty2 := of_decide_eq_true hb2
          refine Run_skip ?_
          refine Zs ?_
          refine Run_block ?_
          refine Zs ?_
          obtain ⟨x7, hx5, hB2⟩ := M.bind_some hB2
          obtain ⟨hx5l, hx5u, hx5⟩ := M.idx_some hx5
          have H16 := H14.toRows
          obtain ⟨a9, c8, H17⟩ := H16.pinRow hx5
          obtain ⟨x8, hx6, hB2⟩ := M.bind_some hB2
          obtain ⟨hx6l, hx6u, hx6⟩ := M.idx_some hx6
          obtain ⟨x9, hx7, hB2⟩ := M.bind_some hB2
          obtain ⟨hx7l, hx7u, hx7⟩ := M.idx_some hx7
          have H18 : Hold h h10 [own cd90 a3 x4.1.length c3 x4.1, rowsP cd2 90 a2 x3.length c2 x3 [(i2.toNat, a9, x7.length, c8, x7)], own cd90 a7 s2.length c6 s2] := H17.pick [1, 0, 2] (by kernel_rfl)
          have H19 := H18.toRows
          obtain ⟨a10, c9, H20⟩ := H19.pinRow hx7
          have H21 : Hold h h10 [rowsP cd2 90 a2 x3.length c2 x3 [(i2.toNat, a9, x7.length, c8, x7)], rowsP cd2 90 a3 x4.1.length c3 x4.1 [(i1.toNat, a10, x9.length, c9, x9)], own cd90 a7 s2.length c6 s2] := H20.pick [1, 0, 2] (by kernel_rfl)
          obtain ⟨x10, hx8, hB2⟩ := M.bind_some hB2
          obtain ⟨hx8l, hx8u, hx8⟩ := M.idx_some hx8
          obtain ⟨x11, hx9, hB2⟩ := M.bind_some hB2
          refine Run_draw 16 mixed (by kernel_rfl) (by kernel_rfl) (L' := [(0, .slice aa_ a_.length ca_), (7, .slice a2 x3.length c2), (8, .slice a3 x4.1.length c3), (10, .slice a7 s2.length c6), (11, .int .i64 i1), (12, .int .i64 i2), (60, .bool (x11 == 0))]) ?_ ?_
          · refine Zb [.slice a2 x3.length c2, .int .i64 i2] 0 ?_
            refine Zy (.pointer (some (adr a2 (i2.toNat * 1)))) (Zi 37 90 1 (a2) (x3.length) (c2) .i64 (i2) Try.underlying37 ((H14.rd 0 rfl).cell hx5).1 hx5l hx5u) ?_
            refine Zy (.slice a9 x7.length c8) (Zl 90 (adr a2 (i2.toNat * 1)) (.slice a9 x7.length c8) (H17.cellPin 0 rfl 0 rfl)) ?_
            refine Zb [.int .i64 i1] 4 ?_
            refine Zy (.pointer (some (adr a9 (i1.toNat * 1)))) (Zi 90 2 1 (a9) (x7.length) (c8) .i64 (i1) Try.underlying90 ((H17.rdPin 0 rfl 0 rfl).cell hx6).1 hx6l hx6u) ?_
            refine Zy (.int .i64 x8) (Zl 2 (adr a9 (i1.toNat * 1)) (.int .i64 x8) (cd2_cell (H17.rdPin 0 rfl 0 rfl) hx6)) ?_
            refine Zb [.slice a3 x4.1.length c3, .int .i64 i1] 7 ?_
            refine Zy (.pointer (some (adr a3 (i1.toNat * 1)))) (Zi 37 90 1 (a3) (x4.1.length) (c3) .i64 (i1) Try.underlying37 ((H17.rd 1 rfl).cell hx7).1 hx7l hx7u) ?_
            refine Zy (.slice a10 x9.length c9) (Zl 90 (adr a3 (i1.toNat * 1)) (.slice a10 x9.length c9) (H21.cellPin 1 rfl 0 rfl)) ?_
            refine Zb [.int .i64 i2] 11 ?_
            refine Zy (.pointer (some (adr a10 (i2.toNat * 1)))) (Zi 90 2 1 (a10) (x9.length) (c9) .i64 (i2) Try.underlying90 ((H21.rdPin 1 rfl 0 rfl).cell hx8).1 hx8l hx8u) ?_
            refine Zy (.int .i64 x10) (Zl 2 (adr a10 (i2.toNat * 1)) (.int .i64 x10) (cd2_cell (H21.rdPin 1 rfl 0 rfl) hx8)) ?_
            refine Zy (.int .i64 x11) (Y_callq (f := 102) (args := #[.int .i64 x8, .int .i64 x10]) (v := .int .i64 x11) (by kernel_rfl) (w_spec_l01Times h10 x8 x10 _ _ hx9)) ?_
            refine Zb [.bool (x11 == 0)] 15 ?_
            exact Zd [0, 7, 8, 10, 11, 12, 60]
          obtain ⟨s3, gs3, hB2⟩ := M.bind_some hB2
          refine Run_join (fun L' h' => ∃ (a14 : Option Addr), ∃ (c11 : Nat), L' = [(0, .slice aa_ a_.length ca_), (7, .slice a2 x3.length c2), (8, .slice a3 x4.1.length c3), (10, .slice a14 s3.length c11), (11, .int .i64 i1), (12, .int .i64 i2)] ∧ Hold h h' [own cd90 a2 x3.length c2 x3, own cd90 a3 x4.1.length c3 x4.1, own cd90 a14 s3.length c11 s3]) ?_ ?_
          · rintro _ h15 ⟨a14, c11, rfl, H28⟩
            refine Run_blk ?_
            refine Zg 3 [(0, .slice aa_ a_.length ca_), (7, .slice a2 x3.length c2), (8, .slice a3 x4.1.length c3), (10, .slice a14 s3.length c11), (11, .int .i64 i1), (12, .int .i64 (i2 + 1))] ?_ ?_
            · refine Zb [.int .i64 i2] 0 ?_
              refine Zy (.int .i64 (i2 + 1)) (Y_eq (v := .int .i64 (w64 (i2 + 1))) (Y_pure (fun w => by kernel_rfl)) (by rw [w64_eq _ (by omega)])) ?_
              refine Zb [.int .i64 (i2 + 1)] 2 ?_
              exact Zd [0, 7, 8, 10, 11, 12]
            have H40 : Hold h h15 [own cd90 a14 s3.length c11 s3, own cd90 a2 x3.length c2 x3, own cd90 a3 x4.1.length c3 x4.1] := H28.pick [2, 0, 1] (by kernel_rfl)
            have H41 : Hold h h15 [own cd90 a2 x3.length c2 x3, own cd90 a3 x4.1.length c3 x4.1, own cd90 a14 s3.length c11 s3] := H40.pick [1, 2, 0] (by kernel_rfl)
            have hB2 := M.ret_some hB2
            have gx6 := hgoy2 _ hB2.symm
            exact Run_again [0, 7, 8, 10, 11, 12] (by kernel_rfl) my2 (Nat.lt_succ_self _) ⟨i2 + 1, s3, a14, c11, by omega, gx6, rfl, H41⟩
          · refine Zc (x11 == 0) (fun hb3 => ?_) (fun hb3 => ?_)
            · have gs3 := (M.ite_some gs3).1 hb3
              refine Run_ops ?_
              refine Zr [.slice a7 s2.length c6, .int .i64 i1, .int .i64 i2] 0 ?_
              refine Run_E (by kernel_rfl) ?_
              refine E_lit (C := cd2) (n := 2) (l := ([i1, i2] : List Int)) (cs := [.int .i64 i1, .int .i64 i2]) H21 (fun w => by kernel_rfl) (Enc.consE (cd2_own i1 _) (Enc.consE (cd2_own i2 _) (Enc.nil _ _) rfl) rfl) rfl (by decide) (fun a11 h12 H22 => ?_)
              refine Run_E (by kernel_rfl) ?_
              refine E_lit1 (ey := 90) (n := 2) H22 (fun w => by kernel_rfl) rfl (fun a12 h13 H23 => ?_)
              obtain ⟨l1, hl1, gs3⟩ := M.bind_some gs3
              have hl1 := M.app_some hl1
              have H24 : Hold h h13 [own cd90 a7 s2.length c6 s2, own cd90 a12 1 1 [([i1, i2] : List Int)], rowsP cd2 90 a2 x3.length c2 x3 [(i2.toNat, a9, x7.length, c8, x7)], rowsP cd2 90 a3 x4.1.length c3 x4.1 [(i1.toNat, a10, x9.length, c9, x9)]] := H23.pick [3, 0, 1, 2] (by kernel_rfl)
              have H25 : Hold h h13 [own cd90 a12 1 1 [([i1, i2] : List Int)], own cd90 a7 s2.length c6 s2, rowsP cd2 90 a2 x3.length c2 x3 [(i2.toNat, a9, x7.length, c8, x7)], rowsP cd2 90 a3 x4.1.length c3 x4.1 [(i1.toNat, a10, x9.length, c9, x9)]] := H24.pick [1, 0, 2, 3] (by kernel_rfl)
              have H26 : Hold h h13 [own cd90 a7 s2.length c6 s2, own cd90 a12 1 1 [([i1, i2] : List Int)], rowsP cd2 90 a2 x3.length c2 x3 [(i2.toNat, a9, x7.length, c8, x7)], rowsP cd2 90 a3 x4.1.length c3 x4.1 [(i1.toNat, a10, x9.length, c9, x9)]] := H25.pick [1, 0, 2, 3] (by kernel_rfl)
              refine Run_E (by kernel_rfl) ?_
              refine E_app (C := cd90) (t := 37) (ty := 37) (n := s2.length) (m := 1) H26 cd90_ti rfl Try.underlying37 (by decide) (by kernel_rfl) hl1 (fun a13 c10 h14 H27 => ?_)
              refine Zr [.slice a13 l1.length c10] 6 ?_
              refine Run_nil (by kernel_rfl) ?_
              refine Zk [0, 7, 8, 10, 11, 12] [(0, .slice aa_ a_.length ca_), (7, .slice a2 x3.length c2), (8, .slice a3 x4.1.length c3), (10, .slice a13 l1.length c10), (11, .int .i64 i1), (12, .int .i64 i2)] ?_
              have H29 : Hold h h14 [rowsP cd2 90 a2 x3.length c2 x3 [(i2.toNat, a9, x7.length, c8, x7)], own cd90 a13 l1.length c10 l1, rowsP cd2 90 a3 x4.1.length c3 x4.1 [(i1.toNat, a10, x9.length, c9, x9)]] := H27.pick [1, 0, 2] (by kernel_rfl)
              have H30 := H29.ofRows
              have H31 : Hold h h14 [rowsP cd2 90 a3 x4.1.length c3 x4.1 [(i1.toNat, a10, x9.length, c9, x9)], own cd90 a2 x3.length c2 x3, own cd90 a13 l1.length c10 l1] := H30.pick [2, 0, 1] (by kernel_rfl)
              have H32 := H31.ofRows
              have H33 : Hold h h14 [own cd90 a13 l1.length c10 l1, own cd90 a3 x4.1.length c3 x4.1, own cd90 a2 x3.length c2 x3] := H32.pick [2, 0, 1] (by kernel_rfl)
              have H34 : Hold h h14 [own cd90 a2 x3.length c2 x3, own cd90 a3 x4.1.length c3 x4.1, own cd90 a13 l1.length c10 l1] := H33.pick [2, 1, 0] (by kernel_rfl)
              have gs3 := M.ret_some gs3
              subst gs3
              exact Run_fall [0, 7, 8, 10, 11, 12] (by kernel_rfl) ⟨a13, c10, rfl, H34⟩
            · have gs3 := (M.ite_some gs3).2 hb3
              refine Run_skip ?_
              have H35 := H21.ofRows
              have H36 : Hold h h10 [rowsP cd2 90 a3 x4.1.length c3 x4.1 [(i1.toNat, a10, x9.length, c9, x9)], own cd90 a2 x3.length c2 x3, own cd90 a7 s2.length c6 s2] := H35.pick [1, 0, 2] (by kernel_rfl)
              have H37 := H36.ofRows
              have H38 : Hold h h10 [own cd90 a7 s2.length c6 s2, own cd90 a3 x4.1.length c3 x4.1, own cd90 a2 x3.length c2 x3] := H37.pick [2, 0, 1] (by kernel_rfl)
              have H39 : Hold h h10 [own cd90 a2 x3.length c2 x3, own cd90 a3 x4.1.length c3 x4.1, own cd90 a7 s2.length c6 s2] := H38.pick [2, 1, 0] (by kernel_rfl)
              have gs3 := M.ret_some gs3
              subst gs3
              exact Run_fall [0, 7, 8, 10, 11, 12] (by kernel_rfl) ⟨a7, c6, rfl, H39⟩
        · have gx6 := M.for_end gx6 hb2
          subst gx6
          refine Run_exit (k' := _) rfl ?_
          have H42 : Hold h h10 [own cd90 a7 s2.length c6 s2, own cd90 a2 x3.length c2 x3, own cd90 a3 x4.1.length c3 x4.1] := H14.pick [2, 0, 1] (by kernel_rfl)
          have H43 : Hold h h10 [own cd90 a2 x3.length c2 x3, own cd90 a3 x4.1.length c3 x4.1, own cd90 a7 s2.length c6 s2] := H42.pick [1, 2, 0] (by kernel_rfl)
          exact Run_fall [0, 7, 8, 10, 11] (by kernel_rfl) ⟨a7, c6, rfl, H43⟩
    · have gx5 := M.for_end gx5 hb1
      subst gx5
      refine Run_exit (k' := _) rfl ?_
      have H48 : Hold h h8 [own cd90 a5 s1.length c4 s1, own cd90 a2 x3.length c2 x3, own cd90 a3 x4.1.length c3 x4.1] := H12.pick [2, 0, 1] (by kernel_rfl)
      have H49 : Hold h h8 [own cd90 a5 s1.length c4 s1] := H48.pick [0] (by kernel_rfl)
      exact Run_fall [10] (by kernel_rfl) ⟨a5, c4, rfl, H49⟩

set_option maxRecDepth 100000 in
set_option maxHeartbeats 4000000 in
theorem w_spec_l06Matrix (h : Heap) (a_ : List (List Int)) (aa_ : Option Addr) (ca_ : Nat) (ra_ : Rd cd90 h (Lt h) aa_ ca_ a_) (n : Nat) (r : (List (List Int))) (hF : spec_l06Matrix a_ n = some r) :
    Fn Try.prog 114 #[.slice aa_ a_.length ca_] h fun v h' => ∃ (a0 : Option Addr) (c0 : Nat), v = .slice a0 r.length c0 ∧ Hold h h' [own cd90 a0 r.length c0 r] := by
  unfold spec_l06Matrix at hF
  refine Fn_enter (args := [.slice aa_ a_.length ca_]) Try.func114 rfl (by kernel_rfl) (by kernel_rfl) (fun w0 _ => ?_)
  have H0 := Hold.init h
  refine Zs ?_
  refine Zq [.slice none 0 0] [0] [(0, .slice aa_ a_.length ca_)] ?_
  refine Zs ?_
  refine Run_ops ?_
  refine Zr [.slice aa_ a_.length ca_, .int .i64 (a_.length : Int), .slice aa_ a_.length ca_, .int .i64 (a_.length : Int)] 0 ?_
  obtain ⟨x1, hx1, hF⟩ := M.bind_some hF
  refine Run_E (by kernel_rfl) ?_
  refine E_call (f := 95) (args := #[.int .i64 (a_.length : Int), .int .i64 (a_.length : Int)]) (w_spec_l02Bottom h (a_.length : Int) (a_.length : Int) _ _ hx1) (by kernel_rfl) (fun v1 h1 hp1 => ?_)
  obtain ⟨a1, c1, rfl, H1⟩ := hp1
  have H2 : Hold h h1 [own cd90 a1 x1.length c1 x1] := H0.call H1 rfl
  refine Zr [.slice a1 x1.length c1] 5 ?_
  refine Run_nil (by kernel_rfl) ?_
  refine Zk [0, 3] [(0, .slice aa_ a_.length ca_), (3, .slice a1 x1.length c1)] ?_
  refine Zs ?_
  refine Run_ops ?_
  refine Zr [.slice aa_ a_.length ca_] 0 ?_
  obtain ⟨x2, hx2, hF⟩ := M.bind_some hF
  refine Run_E (by kernel_rfl) ?_
  refine E_call (f := 141) (args := #[.slice aa_ a_.length ca_]) (w_spec_l06Arcs h1 a_ aa_ ca_ (ra_.at H2.ext) _ _ hx2) (by kernel_rfl) (fun v2 h2 hp2 => ?_)
  obtain ⟨a2, c2, rfl, H3⟩ := hp2
  have H4 : Hold h h2 [own cd90 a2 x2.length c2 x2, own cd90 a1 x1.length c1 x1] := H2.call H3 rfl
  refine Zr [.slice a2 x2.length c2] 2 ?_
  refine Run_nil (by kernel_rfl) ?_
  refine Zk [0, 3, 4] [(0, .slice aa_ a_.length ca_), (3, .slice a1 x1.length c1), (4, .slice a2 x2.length c2)] ?_
  refine Zs ?_
  refine Zs ?_
  refine Zq [.int .i64 0] [0, 3, 4, 5] [(0, .slice aa_ a_.length ca_), (3, .slice a1 x1.length c1), (4, .slice a2 x2.length c2), (5, .int .i64 0)] ?_
  obtain ⟨x3, gx3, hF⟩ := M.bind_some hF
  obtain ⟨hloy1, hhiy1, gx3⟩ := M.for_start gx3
  refine Run_join (fun L' h' => L' = [(3, .slice a1 x1.length c1)] ∧ Hold h h' [own cd90 a1 x1.length c1 x3]) ?_ ?_
  · rintro _ h4 ⟨rfl, H6⟩
    refine Zs ?_
    refine Zq [.slice a1 x1.length c1, .slice a1 x1.length c1] [2] [(2, .slice a1 x1.length c1)] ?_
    have hF := M.ret_some hF
    subst hF
    have H24 := H6.norm
    exact Run_ret1 rfl (ResV_tmp (v := .slice a1 x1.length c1) (by kernel_rfl)) ⟨a1, c1, (by simp only [(H6.len 0 rfl)]), H24⟩
  · refine Run_block ?_
    have H25 : Hold h h2 [own cd90 a1 x1.length c1 x1, own cd90 a2 x2.length c2 x2] := H4.pick [1, 0] (by kernel_rfl)
    refine Zk [0, 3, 4, 5] [(0, .slice aa_ a_.length ca_), (3, .slice a1 x1.length c1), (4, .slice a2 x2.length c2), (5, .int .i64 0)] ?_
    refine Run_loop (fun m L' h' => ∃ (i1 : Int) (s1 : (List (List Int))), 0 ≤ i1 ∧ M.forN (x2.length : Int) _ _ n m i1 s1 = some x3 ∧ L' = [(0, .slice aa_ a_.length ca_), (3, .slice a1 x1.length c1), (4, .slice a2 x2.length c2), (5, .int .i64 i1)] ∧ Hold h h' [own cd90 a1 x1.length c1 s1, own cd90 a2 x2.length c2 x2]) ((x2.length : Int) - 0 : Int).toNat ⟨0, x1, Int.le_refl _, gx3, rfl, H25⟩ ?_
    rintro my1 _ h3 ⟨i1, s1, hloy1', gx3, rfl, H5⟩
    refine Zs ?_
    refine Zs ?_
    refine Zq [.int .i64 i1, .slice a2 x2.length c2, .int .i64 (x2.length : Int), .bool (decide (i1 < (x2.length : Int)))] [0, 3, 4, 5, 18] [(0, .slice aa_ a_.length ca_), (3, .slice a1 x1.length c1), (4, .slice a2 x2.length c2), (5, .int .i64 i1), (18, .bool (decide (i1 < (x2.length : Int))))] ?_
    refine Zc (decide (i1 < (x2.length : Int))) (fun hb1 => ?_) (fun hb1 => ?_)
    · obtain ⟨my1, y1, rfl, hB1, hgoy1, houty1⟩ := M.for_go gx3 hb1
      have hlty1 := of_decide_eq_true hb1
      refine Run_skip ?_
      refine Zs ?_
      refine Run_block ?_
      refine Zs ?_
      obtain ⟨x4, hx3, hB1⟩ := M.bind_some hB1
      obtain ⟨hx3l, hx3u, hx3⟩ := M.idx_some hx3
      have H7 : Hold h h3 [own cd90 a2 x2.length c2 x2, own cd90 a1 x1.length c1 s1] := H5.pick [1, 0] (by kernel_rfl)
      have H8 := H7.toRows
      obtain ⟨a3, c3, H9⟩ := H8.pinRow hx3
      have H10 : Hold h h3 [own cd90 a1 x1.length c1 s1, rowsP cd2 90 a2 x2.length c2 x2 [(i1.toNat, a3, x4.length, c3, x4)]] := H9.pick [1, 0] (by kernel_rfl)
      obtain ⟨x5, hx4, hB1⟩ := M.bind_some hB1
      obtain ⟨hx4l, hx4u, hx4⟩ := M.idx_some hx4
      obtain ⟨x6, hx5, hB1⟩ := M.bind_some hB1
      obtain ⟨hx5l, hx5u, hx5⟩ := M.idx_some hx5
      have H11 : Hold h h3 [rowsP cd2 90 a2 x2.length c2 x2 [(i1.toNat, a3, x4.length, c3, x4)], own cd90 a1 x1.length c1 s1] := H10.pick [1, 0] (by kernel_rfl)
      obtain ⟨a4, c4, H12⟩ := H11.pinRow hx5
      have H13 : Hold h h3 [own cd90 a1 x1.length c1 s1, rowsP cd2 90 a2 x2.length c2 x2 [(i1.toNat, a4, x6.length, c4, x6), (i1.toNat, a3, x4.length, c3, x4)]] := H12.pick [1, 0] (by kernel_rfl)
      obtain ⟨x7, hx6, hB1⟩ := M.bind_some hB1
      obtain ⟨hx6l, hx6u, hx6⟩ := M.idx_some hx6
      refine Run_draw 14 mixed (by kernel_rfl) (by kernel_rfl) (L' := [(0, .slice aa_ a_.length ca_), (3, .slice a1 x1.length c1), (4, .slice a2 x2.length c2), (5, .int .i64 i1), (6, .int .i64 x5), (7, .int .i64 x7)]) ?_ ?_
      · refine Zb [.slice a2 x2.length c2, .int .i64 i1] 0 ?_
        refine Zy (.pointer (some (adr a2 (i1.toNat * 1)))) (Zi 37 90 1 (a2) (x2.length) (c2) .i64 (i1) Try.underlying37 ((H5.rd 1 rfl).cell hx3).1 hx3l hx3u) ?_
        refine Zy (.slice a3 x4.length c3) (Zl 90 (adr a2 (i1.toNat * 1)) (.slice a3 x4.length c3) (H10.cellPin 1 rfl 0 rfl)) ?_
        refine Zy (.pointer (some (adr a3 (1 * 1)))) (Zi 90 2 1 (a3) (x4.length) (c3) .i64 (1) Try.underlying90 ((H10.rdPin 1 rfl 0 rfl).cell hx4).1 hx4l hx4u) ?_
        refine Zy (.int .i64 x5) (Zl 2 (adr a3 (1 * 1)) (.int .i64 x5) (cd2_cell (H10.rdPin 1 rfl 0 rfl) hx4)) ?_
        refine Zb [.slice a2 x2.length c2, .int .i64 i1] 6 ?_
        refine Zy (.pointer (some (adr a2 (i1.toNat * 1)))) (Zi 37 90 1 (a2) (x2.length) (c2) .i64 (i1) Try.underlying37 ((H10.rdRows 1 rfl).cell hx5).1 hx5l hx5u) ?_
        refine Zy (.slice a4 x6.length c4) (Zl 90 (adr a2 (i1.toNat * 1)) (.slice a4 x6.length c4) (H13.cellPin 1 rfl 0 rfl)) ?_
        refine Zy (.pointer (some (adr a4 (0 * 1)))) (Zi 90 2 1 (a4) (x6.length) (c4) .i64 (0) Try.underlying90 ((H13.rdPin 1 rfl 0 rfl).cell hx6).1 hx6l hx6u) ?_
        refine Zy (.int .i64 x7) (Zl 2 (adr a4 (0 * 1)) (.int .i64 x7) (cd2_cell (H13.rdPin 1 rfl 0 rfl) hx6)) ?_
        refine Zb [.int .i64 x5, .int .i64 x7] 12 ?_
        exact Zd [0, 3, 4, 5, 6, 7]
      obtain ⟨x8, hx7, hB1⟩ := M.bind_some hB1
      obtain ⟨hx7l, hx7u, hx7⟩ := M.idx_some hx7
      have H14 := H13.toRows
      obtain ⟨a5, c5, H15⟩ := H14.pinRow hx7
      obtain ⟨x9, hx8, hB1⟩ := M.bind_some hB1
      obtain ⟨hx8l, hx8u, hx8⟩ := M.idx_some hx8
      obtain ⟨a6, c6, hc1, r1⟩ := ra_.row hx8
      obtain ⟨x10, hx9, hB1⟩ := M.bind_some hB1
      obtain ⟨hx9l, hx9u, hx9⟩ := M.idx_some hx9
      obtain ⟨x11, hx10, hB1⟩ := M.bind_some hB1
      obtain ⟨hx10l, hx10u, hx10⟩ := M.idx_some hx10
      refine Run_D (fun x => Hold h x [rowsP cd2 90 a1 x1.length c1 s1 [(x5.toNat, a5, x8.length, c5, x8)], rowsP cd2 90 a2 x2.length c2 x2 [(i1.toNat, a4, x6.length, c4, x6), (i1.toNat, a3, x4.length, c3, x4)]]) (fun x => Hold h x [rowsP cd2 90 a1 x1.length c1 s1 [(x5.toNat, a5, x8.length, c5, x8)], rowsP cd2 90 a2 x2.length c2 x2 [(i1.toNat, a4, x6.length, c4, x6), (i1.toNat, a3, x4.length, c3, x4)]]) mixed (by kernel_rfl) H15 Hold.stable (fun x Hy => (show Hold h x [rowsP cd2 90 a1 x1.length c1 s1 [(x5.toNat, a5, x8.length, c5, x8)], rowsP cd2 90 a2 x2.length c2 x2 [(i1.toNat, a4, x6.length, c4, x6), (i1.toNat, a3, x4.length, c3, x4)]] from Hy).pick [0, 1] (by kernel_rfl)) ?_
      refine DR_b 12 [.slice a1 x1.length c1, .int .i64 x5] 0 (by kernel_rfl) (by kernel_rfl) (by kernel_rfl) (fun w => by kernel_rfl) ?_
      refine DR_y 11 (i := 2) (.pointer (some (adr a1 (x5.toNat * 1)))) (by kernel_rfl) (by kernel_rfl) (by kernel_rfl) (fun hx Hx => (YE.of (Zi 37 90 1 (a1) (x1.length) (c1) .i64 (x5) Try.underlying37 ((H13.rd 0 rfl).cell hx7).1 hx7l (by rw [← (H13.len 0 rfl)]; exact hx7u)))) ?_
      refine DR_y 10 (i := 3) (.slice a5 x8.length c5) (by kernel_rfl) (by kernel_rfl) (by kernel_rfl) (fun hx Hx => (YE.of (Zl 90 (adr a1 (x5.toNat * 1)) (.slice a5 x8.length c5) (Hx.cellPin 0 rfl 0 rfl)))) ?_
      refine DR_b 7 [.int .i64 x7, .slice aa_ a_.length ca_, .int .i64 x5] 4 (by kernel_rfl) (by kernel_rfl) (by kernel_rfl) (fun w => by kernel_rfl) ?_
      refine DR_y 6 (i := 7) (.pointer (some (adr aa_ (x5.toNat * 1)))) (by kernel_rfl) (by kernel_rfl) (by kernel_rfl) (fun hx Hx => (YE.of (Zi 37 90 1 (aa_) (a_.length) (ca_) .i64 (x5) Try.underlying37 ((ra_.at H15.ext).cell hx8).1 hx8l hx8u))) ?_
      refine DR_y 5 (i := 8) (.slice a6 x9.length c6) (by kernel_rfl) (by kernel_rfl) (by kernel_rfl) (fun hx Hx => (YE.of (Zl 90 (adr aa_ (x5.toNat * 1)) (.slice a6 x9.length c6) (cell_at Hx.ext hc1)))) ?_
      refine DR_b 4 [.int .i64 x7] 9 (by kernel_rfl) (by kernel_rfl) (by kernel_rfl) (fun w => by kernel_rfl) ?_
      refine DR_y 3 (i := 10) (.pointer (some (adr a6 (x7.toNat * 1)))) (by kernel_rfl) (by kernel_rfl) (by kernel_rfl) (fun hx Hx => (YE.of (Zi 90 2 1 (a6) (x9.length) (c6) .i64 (x7) Try.underlying90 ((r1.at H15.ext).cell hx9).1 hx9l hx9u))) ?_
      refine DR_y 2 (i := 11) (.int .i64 x10) (by kernel_rfl) (by kernel_rfl) (by kernel_rfl) (fun hx Hx => (YE.of (Zl 2 (adr a6 (x7.toNat * 1)) (.int .i64 x10) (cd2_cell (r1.at Hx.ext) hx9)))) ?_
      refine DR_y 1 (i := 12) (.pointer (some (adr a5 (x7.toNat * 1)))) (by kernel_rfl) (by kernel_rfl) (by kernel_rfl) (fun hx Hx => (YE.of (Zi 90 2 1 (a5) (x8.length) (c5) .i64 (x7) Try.underlying90 ((H15.rdPin 0 rfl 0 rfl).cell hx10).1 hx10l hx10u))) ?_
      refine DR_tail (i := 13) (by kernel_rfl) (by kernel_rfl) (by kernel_rfl) (fun h5 H16 => ?_)
      have H17 : Hold h h5 [rowsP cd2 90 a1 x1.length c1 s1 [(x5.toNat, a5, x8.length, c5, x8)], rowsP cd2 90 a2 x2.length c2 x2 [(i1.toNat, a4, x6.length, c4, x6), (i1.toNat, a3, x4.length, c3, x4)]] := H16
      obtain ⟨l1, hu1, hB1⟩ := M.bind_some hB1
      have hu1 := M.upd_some hu1
      refine Run_E (by kernel_rfl) ?_
      refine E_put2 (C := cd2) (t := 2) (sz := 1) (j := x7) (x := x10) (v := .int .i64 x10) (m2 := s1.set x5.toNat l1) H17 cd2_flat 0 rfl (by kernel_rfl) rfl (cd2_own _) (by kernel_rfl) hu1 rfl (fun h6 H18 => ?_)
      refine Run_nil (by kernel_rfl) ?_
      refine Zk [0, 3, 4, 5] [(0, .slice aa_ a_.length ca_), (3, .slice a1 x1.length c1), (4, .slice a2 x2.length c2), (5, .int .i64 i1)] ?_
      refine Run_blk ?_
      refine Zg 3 [(0, .slice aa_ a_.length ca_), (3, .slice a1 x1.length c1), (4, .slice a2 x2.length c2), (5, .int .i64 (i1 + 1))] ?_ ?_
      · refine Zb [.int .i64 i1] 0 ?_
        refine Zy (.int .i64 (i1 + 1)) (Y_eq (v := .int .i64 (w64 (i1 + 1))) (Y_pure (fun w => by kernel_rfl)) (by rw [w64_eq _ (by omega)])) ?_
        refine Zb [.int .i64 (i1 + 1)] 2 ?_
        exact Zd [0, 3, 4, 5]
      have H19 := H18.ofRows
      have H20 : Hold h h6 [rowsP cd2 90 a2 x2.length c2 x2 [(i1.toNat, a4, x6.length, c4, x6), (i1.toNat, a3, x4.length, c3, x4)], own cd90 a1 x1.length c1 (s1.set x5.toNat l1)] := H19.pick [1, 0] (by kernel_rfl)
      have H21 := H20.ofRows
      have H22 : Hold h h6 [own cd90 a1 x1.length c1 (s1.set x5.toNat l1), own cd90 a2 x2.length c2 x2] := H21.pick [1, 0] (by kernel_rfl)
      have hB1 := M.ret_some hB1
      have gx3 := hgoy1 _ hB1.symm
      exact Run_again [0, 3, 4, 5] (by kernel_rfl) my1 (Nat.lt_succ_self _) ⟨i1 + 1, (s1.set x5.toNat l1), by omega, gx3, rfl, H22⟩
    · have gx3 := M.for_end gx3 hb1
      subst gx3
      refine Run_exit (k' := _) rfl ?_
      have H23 : Hold h h3 [own cd90 a1 x1.length c1 s1] := H5.pick [0] (by kernel_rfl)
      exact Run_fall [3] (by kernel_rfl) ⟨rfl, H23⟩

set_option maxRecDepth 100000 in
set_option maxHeartbeats 4000000 in
theorem w_spec_l05Reach (h : Heap) (a_ : List (List Int)) (aa_ : Option Addr) (ca_ : Nat) (ra_ : Rd cd90 h (Lt h) aa_ ca_ a_) (n : Nat) (r : (List (List Bool))) (hF : spec_l05Reach a_ n = some r) :
    Fn Try.prog 140 #[.slice aa_ a_.length ca_] h fun v h' => ∃ (a0 : Option Addr) (c0 : Nat), v = .slice a0 r.length c0 ∧ Hold h h' [own cd132 a0 r.length c0 r] := by
  unfold spec_l05Reach at hF
  refine Fn_enter (args := [.slice aa_ a_.length ca_]) Try.func140 rfl (by kernel_rfl) (by kernel_rfl) (fun w0 _ => ?_)
  have H0 := Hold.init h
  refine Zs ?_
  refine Zq [.slice none 0 0] [0] [(0, .slice aa_ a_.length ca_)] ?_
  refine Zs ?_
  refine Zq [.slice aa_ a_.length ca_, .int .i64 (a_.length : Int), .int .i64 (a_.length : Int)] [0, 3] [(0, .slice aa_ a_.length ca_), (3, .int .i64 (a_.length : Int))] ?_
  refine Zs ?_
  refine Run_ops ?_
  refine Run_E (by kernel_rfl) ?_
  refine E_lit (C := cd132) (n := 0) (l := []) (cs := []) H0 (fun w => by kernel_rfl) (Enc.nil _ _) rfl (by decide) (fun a1 h1 H1 => ?_)
  refine Zr [.slice a1 0 0] 1 ?_
  refine Run_nil (by kernel_rfl) ?_
  refine Zk [0, 3, 4] [(0, .slice aa_ a_.length ca_), (3, .int .i64 (a_.length : Int)), (4, .slice a1 0 0)] ?_
  refine Zs ?_
  refine Zs ?_
  refine Zq [.int .i64 0] [0, 3, 4, 5] [(0, .slice aa_ a_.length ca_), (3, .int .i64 (a_.length : Int)), (4, .slice a1 0 0), (5, .int .i64 0)] ?_
  obtain ⟨x1, gx1, hF⟩ := M.bind_some hF
  obtain ⟨hloy1, hhiy1, gx1⟩ := M.for_start gx1
  refine Run_join (fun L' h' => ∃ (a3 : Option Addr) (c2 : Nat), L' = [(4, .slice a3 x1.length c2)] ∧ Hold h h' [own cd132 a3 x1.length c2 x1]) ?_ ?_
  · rintro _ h3 ⟨a3, c2, rfl, H3⟩
    refine Zs ?_
    refine Zq [.slice a3 x1.length c2, .slice a3 x1.length c2] [2] [(2, .slice a3 x1.length c2)] ?_
    have hF := M.ret_some hF
    subst hF
    exact Run_ret1 rfl (ResV_tmp (v := .slice a3 x1.length c2) (by kernel_rfl)) ⟨a3, c2, rfl, H3⟩
  · refine Run_block ?_
    have hn1 := (H1.len 0 rfl)
    have H23 : Hold h h1 [own cd132 a1 (([] : List (List Bool)).length) 0 ([] : List (List Bool))] := by rw [hn1]; exact H1
    refine Run_keep [0, 3, 4, 5] (L' := [(0, .slice aa_ a_.length ca_), (3, .int .i64 (a_.length : Int)), (4, .slice a1 (([] : List (List Bool)).length) 0), (5, .int .i64 0)]) (by first | (rw [hn1]; kernel_rfl) | (simp only [hn1]; kernel_rfl) | kernel_rfl) ?_
    refine Run_loop (fun m L' h' => ∃ (i1 : Int) (s1 : (List (List Bool))) (a2 : Option Addr) (c1 : Nat), 0 ≤ i1 ∧ M.forN (a_.length : Int) _ _ n m i1 s1 = some x1 ∧ L' = [(0, .slice aa_ a_.length ca_), (3, .int .i64 (a_.length : Int)), (4, .slice a2 s1.length c1), (5, .int .i64 i1)] ∧ Hold h h' [own cd132 a2 s1.length c1 s1]) ((a_.length : Int) - 0 : Int).toNat ⟨0, ([] : List (List Bool)), a1, 0, Int.le_refl _, gx1, rfl, H23⟩ ?_
    rintro my1 _ h2 ⟨i1, s1, a2, c1, hloy1', gx1, rfl, H2⟩
    refine Zs ?_
    refine Zs ?_
    refine Zq [.int .i64 i1, .int .i64 (a_.length : Int), .bool (decide (i1 < (a_.length : Int)))] [0, 3, 4, 5, 15] [(0, .slice aa_ a_.length ca_), (3, .int .i64 (a_.length : Int)), (4, .slice a2 s1.length c1), (5, .int .i64 i1), (15, .bool (decide (i1 < (a_.length : Int))))] ?_
    refine Zc (decide (i1 < (a_.length : Int))) (fun hb1 => ?_) (fun hb1 => ?_)
    · obtain ⟨my1, y1, rfl, hB1, hgoy1, houty1⟩ := M.for_go gx1 hb1
      have hlty1 := of_decide_eq_true hb1
      refine Run_skip ?_
      refine Zs ?_
      refine Run_block ?_
      refine Zs ?_
      refine Run_ops ?_
      refine Zr [.int .i64 (a_.length : Int)] 0 ?_
      obtain ⟨l1, hl1, hB1⟩ := M.bind_some hB1
      have hl1 := M.make_some hl1
      refine Run_E (by kernel_rfl) ?_
      refine E_make cd4 false (kl := .i64) (kc := .i64) H2 cd4_ti Try.underlying132 (by decide) cd4_zero (by kernel_rfl) hl1 (fun a4 h4 H4 => ?_)
      refine Zr [.slice a4 l1.length l1.length] 2 ?_
      refine Run_nil (by kernel_rfl) ?_
      refine Zk [0, 3, 4, 5, 6] [(0, .slice aa_ a_.length ca_), (3, .int .i64 (a_.length : Int)), (4, .slice a2 s1.length c1), (5, .int .i64 i1), (6, .slice a4 l1.length l1.length)] ?_
      refine Zs ?_
      refine Run_ops ?_
      obtain ⟨x2, hx1, hB1⟩ := M.bind_some hB1
      obtain ⟨hx1l, hx1u, hx1⟩ := M.idx_some hx1
      refine Zr [.slice a4 l1.length l1.length, .int .i64 i1] 0 ?_
      refine Zz (.pointer (some (adr a4 (i1.toNat * 1)))) (Zi 132 4 1 (a4) (l1.length) (l1.length) .i64 (i1) Try.underlying132 ((H4.rd 0 rfl).cell hx1).1 hx1l hx1u) ?_
      obtain ⟨l2, hu1, hB1⟩ := M.bind_some hB1
      have hu1 := M.upd_some hu1
      refine Run_E (by kernel_rfl) ?_
      refine E_put (C := cd4) (t := 4) (sz := 1) (j := i1) (x := true) (v := .bool true) H4 cd4_flat (by kernel_rfl) rfl (cd4_own _) (by kernel_rfl) hu1 (fun h5 H5 => ?_)
      refine Run_nil (by kernel_rfl) ?_
      refine Zk [0, 3, 4, 5, 6] [(0, .slice aa_ a_.length ca_), (3, .int .i64 (a_.length : Int)), (4, .slice a2 s1.length c1), (5, .int .i64 i1), (6, .slice a4 l1.length l1.length)] ?_
      refine Zs ?_
      refine Zs ?_
      refine Zq [.int .i64 0] [0, 3, 4, 5, 6, 7] [(0, .slice aa_ a_.length ca_), (3, .int .i64 (a_.length : Int)), (4, .slice a2 s1.length c1), (5, .int .i64 i1), (6, .slice a4 l1.length l1.length), (7, .int .i64 0)] ?_
      obtain ⟨x3, gx3, hB1⟩ := M.bind_some hB1
      obtain ⟨hloy2, hhiy2, gx3⟩ := M.for_start gx3
      refine Run_join (fun L' h' => L' = [(0, .slice aa_ a_.length ca_), (3, .int .i64 (a_.length : Int)), (4, .slice a2 s1.length c1), (5, .int .i64 i1), (6, .slice a4 l1.length l1.length)] ∧ Hold h h' [own cd132 a2 s1.length c1 s1, own cd4 a4 l1.length l1.length x3]) ?_ ?_
      · rintro _ h7 ⟨rfl, H7⟩
        refine Run_ops ?_
        refine Zr [.slice a2 s1.length c1, .slice a4 l1.length l1.length] 0 ?_
        have H17 : Hold h h7 [own cd4 a4 l1.length l1.length x3, own cd132 a2 s1.length c1 s1] := H7.pick [1, 0] (by kernel_rfl)
        refine Run_E (by kernel_rfl) ?_
        refine E_lit1 (ey := 132) (n := l1.length) H17 (fun w => by kernel_rfl) rfl (fun a6 h14 H16 => ?_)
        obtain ⟨l4, hl2, hB1⟩ := M.bind_some hB1
        have hl2 := M.app_some hl2
        have H18 : Hold h h14 [own cd132 a2 s1.length c1 s1, own cd132 a6 1 1 [x3]] := H16.pick [1, 0] (by kernel_rfl)
        have H19 : Hold h h14 [own cd132 a6 1 1 [x3], own cd132 a2 s1.length c1 s1] := H18.pick [1, 0] (by kernel_rfl)
        have H20 : Hold h h14 [own cd132 a2 s1.length c1 s1, own cd132 a6 1 1 [x3]] := H19.pick [1, 0] (by kernel_rfl)
        refine Run_E (by kernel_rfl) ?_
        refine E_app (C := cd132) (t := 130) (ty := 130) (n := s1.length) (m := 1) H20 cd132_ti rfl Try.underlying130 (by decide) (by kernel_rfl) hl2 (fun a7 c4 h15 H21 => ?_)
        refine Zr [.slice a7 l4.length c4] 4 ?_
        refine Run_nil (by kernel_rfl) ?_
        refine Zk [0, 3, 4, 5] [(0, .slice aa_ a_.length ca_), (3, .int .i64 (a_.length : Int)), (4, .slice a7 l4.length c4), (5, .int .i64 i1)] ?_
        refine Run_blk ?_
        refine Zg 3 [(0, .slice aa_ a_.length ca_), (3, .int .i64 (a_.length : Int)), (4, .slice a7 l4.length c4), (5, .int .i64 (i1 + 1))] ?_ ?_
        · refine Zb [.int .i64 i1] 0 ?_
          refine Zy (.int .i64 (i1 + 1)) (Y_eq (v := .int .i64 (w64 (i1 + 1))) (Y_pure (fun w => by kernel_rfl)) (by rw [w64_eq _ (by omega)])) ?_
          refine Zb [.int .i64 (i1 + 1)] 2 ?_
          exact Zd [0, 3, 4, 5]
        have hB1 := M.ret_some hB1
        have gx1 := hgoy1 _ hB1.symm
        exact Run_again [0, 3, 4, 5] (by kernel_rfl) my1 (Nat.lt_succ_self _) ⟨i1 + 1, l4, a7, c4, by omega, gx1, rfl, H21⟩
      · refine Run_block ?_
        have H22 : Hold h h5 [own cd132 a2 s1.length c1 s1, own cd4 a4 l1.length l1.length l2] := H5.pick [1, 0] (by kernel_rfl)
        refine Zk [0, 3, 4, 5, 6, 7] [(0, .slice aa_ a_.length ca_), (3, .int .i64 (a_.length : Int)), (4, .slice a2 s1.length c1), (5, .int .i64 i1), (6, .slice a4 l1.length l1.length), (7, .int .i64 0)] ?_
        refine Run_loop (fun m L' h' => ∃ (i2 : Int) (s2 : (List Bool)), 0 ≤ i2 ∧ M.forN (a_.length : Int) _ _ n m i2 s2 = some x3 ∧ L' = [(0, .slice aa_ a_.length ca_), (3, .int .i64 (a_.length : Int)), (4, .slice a2 s1.length c1), (5, .int .i64 i1), (6, .slice a4 l1.length l1.length), (7, .int .i64 i2)] ∧ Hold h h' [own cd132 a2 s1.length c1 s1, own cd4 a4 l1.length l1.length s2]) ((a_.length : Int) - 0 : Int).toNat ⟨0, l2, Int.le_refl _, gx3, rfl, H22⟩ ?_
        rintro my2 _ h6 ⟨i2, s2, hloy2', gx3, rfl, H6⟩
        refine Zs ?_
        refine Zs ?_
        refine Zq [.int .i64 i2, .int .i64 (a_.length : Int), .bool (decide (i2 < (a_.length : Int)))] [0, 3, 4, 5, 6, 7, 25] [(0, .slice aa_ a_.length ca_), (3, .int .i64 (a_.length : Int)), (4, .slice a2 s1.length c1), (5, .int .i64 i1), (6, .slice a4 l1.length l1.length), (7, .int .i64 i2), (25, .bool (decide (i2 < (a_.length : Int))))] ?_
        refine Zc (decide (i2 < (a_.length : Int))) (fun hb2 => ?_) (fun hb2 => ?_)
        · obtain ⟨my2, y2, rfl, hB2, hgoy2, houty2⟩ := M.for_go gx3 hb2
          have hlty2 := of_decide_eq_true hb2
          refine Run_skip ?_
          refine Zs ?_
          refine Run_block ?_
          refine Zs ?_
          refine Zq [.int .i64 0] [0, 3, 4, 5, 6, 7, 8] [(0, .slice aa_ a_.length ca_), (3, .int .i64 (a_.length : Int)), (4, .slice a2 s1.length c1), (5, .int .i64 i1), (6, .slice a4 l1.length l1.length), (7, .int .i64 i2), (8, .int .i64 0)] ?_
          obtain ⟨x4, gx4, hB2⟩ := M.bind_some hB2
          obtain ⟨hloy3, hhiy3, gx4⟩ := M.for_start gx4
          refine Run_join (fun L' h' => L' = [(0, .slice aa_ a_.length ca_), (3, .int .i64 (a_.length : Int)), (4, .slice a2 s1.length c1), (5, .int .i64 i1), (6, .slice a4 l1.length l1.length), (7, .int .i64 i2)] ∧ Hold h h' [own cd132 a2 s1.length c1 s1, own cd4 a4 l1.length l1.length x4]) ?_ ?_
          · rintro _ h9 ⟨rfl, H9⟩
            refine Run_blk ?_
            refine Zg 3 [(0, .slice aa_ a_.length ca_), (3, .int .i64 (a_.length : Int)), (4, .slice a2 s1.length c1), (5, .int .i64 i1), (6, .slice a4 l1.length l1.length), (7, .int .i64 (i2 + 1))] ?_ ?_
            · refine Zb [.int .i64 i2] 0 ?_
              refine Zy (.int .i64 (i2 + 1)) (Y_eq (v := .int .i64 (w64 (i2 + 1))) (Y_pure (fun w => by kernel_rfl)) (by rw [w64_eq _ (by omega)])) ?_
              refine Zb [.int .i64 (i2 + 1)] 2 ?_
              exact Zd [0, 3, 4, 5, 6, 7]
            have hB2 := M.ret_some hB2
            have gx3 := hgoy2 _ hB2.symm
            exact Run_again [0, 3, 4, 5, 6, 7] (by kernel_rfl) my2 (Nat.lt_succ_self _) ⟨i2 + 1, x4, by omega, gx3, rfl, H9⟩
          · refine Run_block ?_
            refine Zk [0, 3, 4, 5, 6, 7, 8] [(0, .slice aa_ a_.length ca_), (3, .int .i64 (a_.length : Int)), (4, .slice a2 s1.length c1), (5, .int .i64 i1), (6, .slice a4 l1.length l1.length), (7, .int .i64 i2), (8, .int .i64 0)] ?_
            refine Run_loop (fun m L' h' => ∃ (i3 : Int) (s3 : (List Bool)), 0 ≤ i3 ∧ M.forN (a_.length : Int) _ _ n m i3 s3 = some x4 ∧ L' = [(0, .slice aa_ a_.length ca_), (3, .int .i64 (a_.length : Int)), (4, .slice a2 s1.length c1), (5, .int .i64 i1), (6, .slice a4 l1.length l1.length), (7, .int .i64 i2), (8, .int .i64 i3)] ∧ Hold h h' [own cd132 a2 s1.length c1 s1, own cd4 a4 l1.length l1.length s3]) ((a_.length : Int) - 0 : Int).toNat ⟨0, s2, Int.le_refl _, gx4, rfl, H6⟩ ?_
            rintro my3 _ h8 ⟨i3, s3, hloy3', gx4, rfl, H8⟩
            refine Zs ?_
            refine Zs ?_
            refine Zq [.int .i64 i3, .int .i64 (a_.length : Int), .bool (decide (i3 < (a_.length : Int)))] [0, 3, 4, 5, 6, 7, 8, 30] [(0, .slice aa_ a_.length ca_), (3, .int .i64 (a_.length : Int)), (4, .slice a2 s1.length c1), (5, .int .i64 i1), (6, .slice a4 l1.length l1.length), (7, .int .i64 i2), (8, .int .i64 i3), (30, .bool (decide (i3 < (a_.length : Int))))] ?_
            refine Zc (decide (i3 < (a_.length : Int))) (fun hb3 => ?_) (fun hb3 => ?_)
            · obtain ⟨my3, y3, rfl, hB3, hgoy3, houty3⟩ := M.for_go gx4 hb3
              have hlty3 := of_decide_eq_true hb3
              refine Run_skip ?_
              refine Zs ?_
              refine Run_block ?_
              refine Zs ?_
              refine Zq [.int .i64 0] [0, 3, 4, 5, 6, 7, 8, 9] [(0, .slice aa_ a_.length ca_), (3, .int .i64 (a_.length : Int)), (4, .slice a2 s1.length c1), (5, .int .i64 i1), (6, .slice a4 l1.length l1.length), (7, .int .i64 i2), (8, .int .i64 i3), (9, .int .i64 0)] ?_
              obtain ⟨x5, gx5, hB3⟩ := M.bind_some hB3
              obtain ⟨hloy4, hhiy4, gx5⟩ := M.for_start gx5
              refine Run_join (fun L' h' => L' = [(0, .slice aa_ a_.length ca_), (3, .int .i64 (a_.length : Int)), (4, .slice a2 s1.length c1), (5, .int .i64 i1), (6, .slice a4 l1.length l1.length), (7, .int .i64 i2), (8, .int .i64 i3)] ∧ Hold h h' [own cd132 a2 s1.length c1 s1, own cd4 a4 l1.length l1.length x5]) ?_ ?_
              · rintro _ h11 ⟨rfl, H11⟩
                refine Run_blk ?_
                refine Zg 3 [(0, .slice aa_ a_.length ca_), (3, .int .i64 (a_.length : Int)), (4, .slice a2 s1.length c1), (5, .int .i64 i1), (6, .slice a4 l1.length l1.length), (7, .int .i64 i2), (8, .int .i64 (i3 + 1))] ?_ ?_
                · refine Zb [.int .i64 i3] 0 ?_
                  refine Zy (.int .i64 (i3 + 1)) (Y_eq (v := .int .i64 (w64 (i3 + 1))) (Y_pure (fun w => by kernel_rfl)) (by rw [w64_eq _ (by omega)])) ?_
                  refine Zb [.int .i64 (i3 + 1)] 2 ?_
                  exact Zd [0, 3, 4, 5, 6, 7, 8]
                have hB3 := M.ret_some hB3
                have gx4 := hgoy3 _ hB3.symm
                exact Run_again [0, 3, 4, 5, 6, 7, 8] (by kernel_rfl) my3 (Nat.lt_succ_self _) ⟨i3 + 1, x5, by omega, gx4, rfl, H11⟩
              · refine Run_block ?_
                refine Zk [0, 3, 4, 5, 6, 7, 8, 9] [(0, .slice aa_ a_.length ca_), (3, .int .i64 (a_.length : Int)), (4, .slice a2 s1.length c1), (5, .int .i64 i1), (6, .slice a4 l1.length l1.length), (7, .int .i64 i2), (8, .int .i64 i3), (9, .int .i64 0)] ?_
                refine Run_loop (fun m L' h' => ∃ (i4 : Int) (s4 : (List Bool)), 0 ≤ i4 ∧ M.forN (a_.length : Int) _ _ n m i4 s4 = some x5 ∧ L' = [(0, .slice aa_ a_.length ca_), (3, .int .i64 (a_.length : Int)), (4, .slice a2 s1.length c1), (5, .int .i64 i1), (6, .slice a4 l1.length l1.length), (7, .int .i64 i2), (8, .int .i64 i3), (9, .int .i64 i4)] ∧ Hold h h' [own cd132 a2 s1.length c1 s1, own cd4 a4 l1.length l1.length s4]) ((a_.length : Int) - 0 : Int).toNat ⟨0, s3, Int.le_refl _, gx5, rfl, H8⟩ ?_
                rintro my4 _ h10 ⟨i4, s4, hloy4', gx5, rfl, H10⟩
                refine Zs ?_
                refine Zs ?_
                refine Zq [.int .i64 i4, .int .i64 (a_.length : Int), .bool (decide (i4 < (a_.length : Int)))] [0, 3, 4, 5, 6, 7, 8, 9, 35] [(0, .slice aa_ a_.length ca_), (3, .int .i64 (a_.length : Int)), (4, .slice a2 s1.length c1), (5, .int .i64 i1), (6, .slice a4 l1.length l1.length), (7, .int .i64 i2), (8, .int .i64 i3), (9, .int .i64 i4), (35, .bool (decide (i4 < (a_.length : Int))))] ?_
                refine Zc (decide (i4 < (a_.length : Int))) (fun hb4 => ?_) (fun hb4 => ?_)
                · obtain ⟨my4, y4, rfl, hB4, hgoy4, houty4⟩ := M.for_go gx5 hb4
                  have hlty4 := of_decide_eq_true hb4
                  refine Run_skip ?_
                  refine Zs ?_
                  refine Run_block ?_
                  refine Zs ?_
                  obtain ⟨x6, hx2, hB4⟩ := M.bind_some hB4
                  obtain ⟨hx2l, hx2u, hx2⟩ := M.idx_some hx2
                  obtain ⟨x7, gx7, hB4⟩ := M.bind_some hB4
                  refine Zg 14 [(0, .slice aa_ a_.length ca_), (3, .int .i64 (a_.length : Int)), (4, .slice a2 s1.length c1), (5, .int .i64 i1), (6, .slice a4 l1.length l1.length), (7, .int .i64 i2), (8, .int .i64 i3), (9, .int .i64 i4), (51, .bool x7)] ?_ ?_
                  · refine Zb [.slice a4 l1.length l1.length, .int .i64 i4] 0 ?_
                    refine Zy (.pointer (some (adr a4 (i4.toNat * 1)))) (Zi 132 4 1 (a4) (l1.length) (l1.length) .i64 (i4) Try.underlying132 ((H10.rd 1 rfl).cell hx2).1 hx2l (by rw [← (H10.len 1 rfl)]; exact hx2u)) ?_
                    refine Zy (.bool x6) (Zl 4 (adr a4 (i4.toNat * 1)) (.bool x6) (cd4_cell (H10.rd 1 rfl) hx2)) ?_
                    refine QRun_seq 14 [(0, .slice aa_ a_.length ca_), (3, .int .i64 (a_.length : Int)), (4, .slice a2 s1.length c1), (5, .int .i64 i1), (6, .slice a4 l1.length l1.length), (7, .int .i64 i2), (8, .int .i64 i3), (9, .int .i64 i4), (51, .bool x7)] ?_ ?_
                    · rcases Bool.eq_false_or_eq_true x6 with hb5 | hb5
                      · refine QRun_bool x6 true (by kernel_rfl) (fun w => by kernel_rfl) hb5 ?_
                        have gx7 := (M.ite_some gx7).1 hb5
                        obtain ⟨x8, hx3, gx7⟩ := M.bind_some gx7
                        obtain ⟨hx3l, hx3u, hx3⟩ := M.idx_some hx3
                        obtain ⟨a5, c3, hc1, r1⟩ := ra_.row hx3
                        obtain ⟨x9, hx4, gx7⟩ := M.bind_some gx7
                        obtain ⟨hx4l, hx4u, hx4⟩ := M.idx_some hx4
                        have gx7 := M.ret_some gx7
                        refine Zb [.slice aa_ a_.length ca_, .int .i64 i3] 5 ?_
                        refine Zy (.pointer (some (adr aa_ (i3.toNat * 1)))) (Zi 37 90 1 (aa_) (a_.length) (ca_) .i64 (i3) Try.underlying37 ((ra_.at H10.ext).cell hx3).1 hx3l hx3u) ?_
                        refine Zy (.slice a5 x8.length c3) (Zl 90 (adr aa_ (i3.toNat * 1)) (.slice a5 x8.length c3) (cell_at H10.ext hc1)) ?_
                        refine Zb [.int .i64 i4] 9 ?_
                        refine Zy (.pointer (some (adr a5 (i4.toNat * 1)))) (Zi 90 2 1 (a5) (x8.length) (c3) .i64 (i4) Try.underlying90 ((r1.at H10.ext).cell hx4).1 hx4l hx4u) ?_
                        refine Zy (.int .i64 x9) (Zl 2 (adr a5 (i4.toNat * 1)) (.int .i64 x9) (cd2_cell (r1.at H10.ext) hx4)) ?_
                        refine Zb [.bool (x9 != (-1000000000000000))] 12 ?_
                        refine QRun_bool (x9 != (-1000000000000000)) x7 (by kernel_rfl) (fun w => by kernel_rfl) gx7 ?_
                        exact Zd [0, 3, 4, 5, 6, 7, 8, 9, 51]
                      · refine QRun_bool x6 false (by kernel_rfl) (fun w => by kernel_rfl) hb5 ?_
                        have gx7 := M.ret_some ((M.ite_some gx7).2 hb5)
                        refine QRun_n (by kernel_rfl) ?_
                        refine QRun_n (by kernel_rfl) ?_
                        refine QRun_n (by kernel_rfl) ?_
                        refine QRun_n (by kernel_rfl) ?_
                        refine QRun_n (by kernel_rfl) ?_
                        refine QRun_n (by kernel_rfl) ?_
                        refine QRun_n (by kernel_rfl) ?_
                        refine QRun_n (by kernel_rfl) ?_
                        refine QRun_bool false x7 (by kernel_rfl) (fun w => by kernel_rfl) gx7 ?_
                        exact Zd [0, 3, 4, 5, 6, 7, 8, 9, 51]
                    exact Zd [0, 3, 4, 5, 6, 7, 8, 9, 51]
                  obtain ⟨s5, gs5, hB4⟩ := M.bind_some hB4
                  refine Run_join (fun L' h' => L' = [(0, .slice aa_ a_.length ca_), (3, .int .i64 (a_.length : Int)), (4, .slice a2 s1.length c1), (5, .int .i64 i1), (6, .slice a4 l1.length l1.length), (7, .int .i64 i2), (8, .int .i64 i3), (9, .int .i64 i4)] ∧ Hold h h' [own cd132 a2 s1.length c1 s1, own cd4 a4 l1.length l1.length s5]) ?_ ?_
                  · rintro _ h13 ⟨rfl, H14⟩
                    refine Run_blk ?_
                    refine Zg 3 [(0, .slice aa_ a_.length ca_), (3, .int .i64 (a_.length : Int)), (4, .slice a2 s1.length c1), (5, .int .i64 i1), (6, .slice a4 l1.length l1.length), (7, .int .i64 i2), (8, .int .i64 i3), (9, .int .i64 (i4 + 1))] ?_ ?_
                    · refine Zb [.int .i64 i4] 0 ?_
                      refine Zy (.int .i64 (i4 + 1)) (Y_eq (v := .int .i64 (w64 (i4 + 1))) (Y_pure (fun w => by kernel_rfl)) (by rw [w64_eq _ (by omega)])) ?_
                      refine Zb [.int .i64 (i4 + 1)] 2 ?_
                      exact Zd [0, 3, 4, 5, 6, 7, 8, 9]
                    have hB4 := M.ret_some hB4
                    have gx5 := hgoy4 _ hB4.symm
                    exact Run_again [0, 3, 4, 5, 6, 7, 8, 9] (by kernel_rfl) my4 (Nat.lt_succ_self _) ⟨i4 + 1, s5, by omega, gx5, rfl, H14⟩
                  · refine Zc (x7) (fun hb6 => ?_) (fun hb6 => ?_)
                    · have gs5 := (M.ite_some gs5).1 hb6
                      refine Run_ops ?_
                      obtain ⟨x10, hx5, gs5⟩ := M.bind_some gs5
                      obtain ⟨hx5l, hx5u, hx5⟩ := M.idx_some hx5
                      refine Zr [.slice a4 l1.length l1.length, .int .i64 i3] 0 ?_
                      refine Zz (.pointer (some (adr a4 (i3.toNat * 1)))) (Zi 132 4 1 (a4) (l1.length) (l1.length) .i64 (i3) Try.underlying132 ((H10.rd 1 rfl).cell hx5).1 hx5l (by rw [← (H10.len 1 rfl)]; exact hx5u)) ?_
                      obtain ⟨l3, hu2, gs5⟩ := M.bind_some gs5
                      have hu2 := M.upd_some hu2
                      have H13 : Hold h h10 [own cd4 a4 l1.length l1.length s4, own cd132 a2 s1.length c1 s1] := H10.pick [1, 0] (by kernel_rfl)
                      refine Run_E (by kernel_rfl) ?_
                      refine E_put (C := cd4) (t := 4) (sz := 1) (j := i3) (x := true) (v := .bool true) H13 cd4_flat (by kernel_rfl) rfl (cd4_own _) (by kernel_rfl) hu2 (fun h12 H12 => ?_)
                      refine Run_nil (by kernel_rfl) ?_
                      refine Zk [0, 3, 4, 5, 6, 7, 8, 9] [(0, .slice aa_ a_.length ca_), (3, .int .i64 (a_.length : Int)), (4, .slice a2 s1.length c1), (5, .int .i64 i1), (6, .slice a4 l1.length l1.length), (7, .int .i64 i2), (8, .int .i64 i3), (9, .int .i64 i4)] ?_
                      have H15 : Hold h h12 [own cd132 a2 s1.length c1 s1, own cd4 a4 l1.length l1.length l3] := H12.pick [1, 0] (by kernel_rfl)
                      have gs5 := M.ret_some gs5
                      subst gs5
                      exact Run_fall [0, 3, 4, 5, 6, 7, 8, 9] (by kernel_rfl) ⟨rfl, H15⟩
                    · have gs5 := (M.ite_some gs5).2 hb6
                      refine Run_skip ?_
                      have gs5 := M.ret_some gs5
                      subst gs5
                      exact Run_fall [0, 3, 4, 5, 6, 7, 8, 9] (by kernel_rfl) ⟨rfl, H10⟩
                · have gx5 := M.for_end gx5 hb4
                  subst gx5
                  refine Run_exit (k' := _) rfl ?_
                  exact Run_fall [0, 3, 4, 5, 6, 7, 8] (by kernel_rfl) ⟨rfl, H10⟩
            · have gx4 := M.for_end gx4 hb3
              subst gx4
              refine Run_exit (k' := _) rfl ?_
              exact Run_fall [0, 3, 4, 5, 6, 7] (by kernel_rfl) ⟨rfl, H8⟩
        · have gx3 := M.for_end gx3 hb2
          subst gx3
          refine Run_exit (k' := _) rfl ?_
          exact Run_fall [0, 3, 4, 5, 6] (by kernel_rfl) ⟨rfl, H6⟩
    · have gx1 := M.for_end gx1 hb1
      subst gx1
      refine Run_exit (k' := _) rfl ?_
      exact Run_fall [4] (by kernel_rfl) ⟨a2, c1, rfl, H2⟩

set_option maxRecDepth 100000 in
set_option maxHeartbeats 4000000 in
theorem w_spec_l05Components (h : Heap) (a_ : List (List Int)) (aa_ : Option Addr) (ca_ : Nat) (ra_ : Rd cd90 h (Lt h) aa_ ca_ a_) (n : Nat) (r : (List (List Int))) (hF : spec_l05Components a_ n = some r) :
    Fn Try.prog 113 #[.slice aa_ a_.length ca_] h fun v h' => ∃ (a0 : Option Addr) (c0 : Nat), v = .slice a0 r.length c0 ∧ Hold h h' [own cd90 a0 r.length c0 r] := by
  unfold spec_l05Components at hF
  refine Fn_enter (args := [.slice aa_ a_.length ca_]) Try.func113 rfl (by kernel_rfl) (by kernel_rfl) (fun w0 _ => ?_)
  have H0 := Hold.init h
  refine Zs ?_
  refine Zq [.slice none 0 0] [0] [(0, .slice aa_ a_.length ca_)] ?_
  refine Zs ?_
  refine Run_ops ?_
  refine Zr [.slice aa_ a_.length ca_] 0 ?_
  obtain ⟨x1, hx1, hF⟩ := M.bind_some hF
  refine Run_E (by kernel_rfl) ?_
  refine E_call (f := 140) (args := #[.slice aa_ a_.length ca_]) (w_spec_l05Reach h a_ aa_ ca_ ra_ _ _ hx1) (by kernel_rfl) (fun v1 h1 hp1 => ?_)
  obtain ⟨a1, c1, rfl, H1⟩ := hp1
  have H2 : Hold h h1 [own cd132 a1 x1.length c1 x1] := H0.call H1 rfl
  refine Zr [.slice a1 x1.length c1] 2 ?_
  refine Run_nil (by kernel_rfl) ?_
  refine Zk [0, 3] [(0, .slice aa_ a_.length ca_), (3, .slice a1 x1.length c1)] ?_
  refine Zs ?_
  refine Run_ops ?_
  refine Run_E (by kernel_rfl) ?_
  refine E_lit (C := cd90) (n := 0) (l := []) (cs := []) H2 (fun w => by kernel_rfl) (Enc.nil _ _) rfl (by decide) (fun a2 h2 H3 => ?_)
  refine Zr [.slice a2 0 0] 1 ?_
  refine Run_nil (by kernel_rfl) ?_
  refine Zk [0, 3, 4] [(0, .slice aa_ a_.length ca_), (3, .slice a1 x1.length c1), (4, .slice a2 0 0)] ?_
  refine Zs ?_
  refine Zs ?_
  refine Zq [.int .i64 0] [0, 3, 4, 5] [(0, .slice aa_ a_.length ca_), (3, .slice a1 x1.length c1), (4, .slice a2 0 0), (5, .int .i64 0)] ?_
  obtain ⟨x2, gx2, hF⟩ := M.bind_some hF
  obtain ⟨hloy1, hhiy1, gx2⟩ := M.for_start gx2
  refine Run_join (fun L' h' => ∃ (a4 : Option Addr) (c3 : Nat), L' = [(4, .slice a4 x2.length c3)] ∧ Hold h h' [own cd90 a4 x2.length c3 x2]) ?_ ?_
  · rintro _ h4 ⟨a4, c3, rfl, H5⟩
    refine Zs ?_
    refine Zq [.slice a4 x2.length c3, .slice a4 x2.length c3] [2] [(2, .slice a4 x2.length c3)] ?_
    have hF := M.ret_some hF
    subst hF
    exact Run_ret1 rfl (ResV_tmp (v := .slice a4 x2.length c3) (by kernel_rfl)) ⟨a4, c3, rfl, H5⟩
  · refine Run_block ?_
    have hn2 := (H3.len 0 rfl)
    have H45 : Hold h h2 [own cd90 a2 (([] : List (List Int)).length) 0 ([] : List (List Int)), own cd132 a1 x1.length c1 x1] := by rw [hn2]; exact H3
    have H46 : Hold h h2 [own cd132 a1 x1.length c1 x1, own cd90 a2 (([] : List (List Int)).length) 0 ([] : List (List Int))] := H45.pick [1, 0] (by kernel_rfl)
    refine Run_keep [0, 3, 4, 5] (L' := [(0, .slice aa_ a_.length ca_), (3, .slice a1 x1.length c1), (4, .slice a2 (([] : List (List Int)).length) 0), (5, .int .i64 0)]) (by first | (rw [hn2]; kernel_rfl) | (simp only [hn2]; kernel_rfl) | kernel_rfl) ?_
    refine Run_loop (fun m L' h' => ∃ (i1 : Int) (s1 : (List (List Int))) (a3 : Option Addr) (c2 : Nat), 0 ≤ i1 ∧ M.forN (a_.length : Int) _ _ n m i1 s1 = some x2 ∧ L' = [(0, .slice aa_ a_.length ca_), (3, .slice a1 x1.length c1), (4, .slice a3 s1.length c2), (5, .int .i64 i1)] ∧ Hold h h' [own cd132 a1 x1.length c1 x1, own cd90 a3 s1.length c2 s1]) ((a_.length : Int) - 0 : Int).toNat ⟨0, ([] : List (List Int)), a2, 0, Int.le_refl _, gx2, rfl, H46⟩ ?_
    rintro my1 _ h3 ⟨i1, s1, a3, c2, hloy1', gx2, rfl, H4⟩
    refine Zs ?_
    refine Zs ?_
    refine Zq [.int .i64 i1, .slice aa_ a_.length ca_, .int .i64 (a_.length : Int), .bool (decide (i1 < (a_.length : Int)))] [0, 3, 4, 5, 14] [(0, .slice aa_ a_.length ca_), (3, .slice a1 x1.length c1), (4, .slice a3 s1.length c2), (5, .int .i64 i1), (14, .bool (decide (i1 < (a_.length : Int))))] ?_
    refine Zc (decide (i1 < (a_.length : Int))) (fun hb1 => ?_) (fun hb1 => ?_)
    · obtain ⟨my1, y1, rfl, hB1, hgoy1, houty1⟩ := M.for_go gx2 hb1
      have hlty1 := of_decide_eq_true hb1
      refine Run_skip ?_
      refine Zs ?_
      refine Run_block ?_
      refine Zs ?_
      refine Run_ops ?_
      refine Run_E (by kernel_rfl) ?_
      refine E_lit (C := cd2) (n := 0) (l := ([] : List Int)) (cs := []) H4 (fun w => by kernel_rfl) (Enc.nil _ _) rfl (by decide) (fun a5 h5 H6 => ?_)
      refine Zr [.slice a5 0 0] 1 ?_
      refine Run_nil (by kernel_rfl) ?_
      refine Zk [0, 3, 4, 5, 6] [(0, .slice aa_ a_.length ca_), (3, .slice a1 x1.length c1), (4, .slice a3 s1.length c2), (5, .int .i64 i1), (6, .slice a5 0 0)] ?_
      refine Zs ?_
      refine Zs ?_
      refine Zq [.int .i64 0] [0, 3, 4, 5, 6, 7] [(0, .slice aa_ a_.length ca_), (3, .slice a1 x1.length c1), (4, .slice a3 s1.length c2), (5, .int .i64 i1), (6, .slice a5 0 0), (7, .int .i64 0)] ?_
      obtain ⟨x3, gx3, hB1⟩ := M.bind_some hB1
      obtain ⟨hloy2, hhiy2, gx3⟩ := M.for_start gx3
      refine Run_join (fun L' h' => ∃ (a7 : Option Addr) (c5 : Nat), L' = [(0, .slice aa_ a_.length ca_), (3, .slice a1 x1.length c1), (4, .slice a3 s1.length c2), (5, .int .i64 i1), (6, .slice a7 x3.length c5)] ∧ Hold h h' [own cd132 a1 x1.length c1 x1, own cd90 a3 s1.length c2 s1, own cd2 a7 x3.length c5 x3]) ?_ ?_
      · rintro _ h7 ⟨a7, c5, rfl, H8⟩
        refine Zs ?_
        obtain ⟨x9, hx6, hB1⟩ := M.bind_some hB1
        obtain ⟨hx6l, hx6u, hx6⟩ := M.idx_some hx6
        refine Zg 5 [(0, .slice aa_ a_.length ca_), (3, .slice a1 x1.length c1), (4, .slice a3 s1.length c2), (5, .int .i64 i1), (6, .slice a7 x3.length c5), (48, .bool (x9 == i1))] ?_ ?_
        · refine Zb [.slice a7 x3.length c5] 0 ?_
          refine Zy (.pointer (some (adr a7 (0 * 1)))) (Zi 90 2 1 (a7) (x3.length) (c5) .i64 (0) Try.underlying90 ((H8.rd 2 rfl).cell hx6).1 hx6l hx6u) ?_
          refine Zy (.int .i64 x9) (Zl 2 (adr a7 (0 * 1)) (.int .i64 x9) (cd2_cell (H8.rd 2 rfl) hx6)) ?_
          refine Zb [.int .i64 i1, .bool (x9 == i1)] 3 ?_
          exact Zd [0, 3, 4, 5, 6, 48]
        obtain ⟨s4, gs4, hB1⟩ := M.bind_some hB1
        refine Run_join (fun L' h' => ∃ (a15 : Option Addr), ∃ (c11 : Nat), L' = [(0, .slice aa_ a_.length ca_), (3, .slice a1 x1.length c1), (4, .slice a15 s4.length c11), (5, .int .i64 i1)] ∧ Hold h h' [own cd132 a1 x1.length c1 x1, own cd90 a15 s4.length c11 s4]) ?_ ?_
        · rintro _ h13 ⟨a15, c11, rfl, H35⟩
          refine Run_blk ?_
          refine Zg 3 [(0, .slice aa_ a_.length ca_), (3, .slice a1 x1.length c1), (4, .slice a15 s4.length c11), (5, .int .i64 (i1 + 1))] ?_ ?_
          · refine Zb [.int .i64 i1] 0 ?_
            refine Zy (.int .i64 (i1 + 1)) (Y_eq (v := .int .i64 (w64 (i1 + 1))) (Y_pure (fun w => by kernel_rfl)) (by rw [w64_eq _ (by omega)])) ?_
            refine Zb [.int .i64 (i1 + 1)] 2 ?_
            exact Zd [0, 3, 4, 5]
          have H39 : Hold h h13 [own cd90 a15 s4.length c11 s4, own cd132 a1 x1.length c1 x1] := H35.pick [1, 0] (by kernel_rfl)
          have H40 : Hold h h13 [own cd132 a1 x1.length c1 x1, own cd90 a15 s4.length c11 s4] := H39.pick [1, 0] (by kernel_rfl)
          have hB1 := M.ret_some hB1
          have gx2 := hgoy1 _ hB1.symm
          exact Run_again [0, 3, 4, 5] (by kernel_rfl) my1 (Nat.lt_succ_self _) ⟨i1 + 1, s4, a15, c11, by omega, gx2, rfl, H40⟩
        · refine Zc (x9 == i1) (fun hb5 => ?_) (fun hb5 => ?_)
          · have gs4 := (M.ite_some gs4).1 hb5
            refine Run_ops ?_
            refine Zr [.slice a3 s1.length c2, .slice a7 x3.length c5] 0 ?_
            have H30 : Hold h h7 [own cd2 a7 x3.length c5 x3, own cd132 a1 x1.length c1 x1, own cd90 a3 s1.length c2 s1] := H8.pick [2, 0, 1] (by kernel_rfl)
            refine Run_E (by kernel_rfl) ?_
            refine E_lit1 (ey := 90) (n := x3.length) H30 (fun w => by kernel_rfl) rfl (fun a13 h11 H29 => ?_)
            obtain ⟨l2, hl2, gs4⟩ := M.bind_some gs4
            have hl2 := M.app_some hl2
            have H31 : Hold h h11 [own cd90 a3 s1.length c2 s1, own cd90 a13 1 1 [x3], own cd132 a1 x1.length c1 x1] := H29.pick [2, 0, 1] (by kernel_rfl)
            have H32 : Hold h h11 [own cd90 a13 1 1 [x3], own cd90 a3 s1.length c2 s1, own cd132 a1 x1.length c1 x1] := H31.pick [1, 0, 2] (by kernel_rfl)
            have H33 : Hold h h11 [own cd90 a3 s1.length c2 s1, own cd90 a13 1 1 [x3], own cd132 a1 x1.length c1 x1] := H32.pick [1, 0, 2] (by kernel_rfl)
            refine Run_E (by kernel_rfl) ?_
            refine E_app (C := cd90) (t := 37) (ty := 37) (n := s1.length) (m := 1) H33 cd90_ti rfl Try.underlying37 (by decide) (by kernel_rfl) hl2 (fun a14 c10 h12 H34 => ?_)
            refine Zr [.slice a14 l2.length c10] 4 ?_
            refine Run_nil (by kernel_rfl) ?_
            refine Zk [0, 3, 4, 5] [(0, .slice aa_ a_.length ca_), (3, .slice a1 x1.length c1), (4, .slice a14 l2.length c10), (5, .int .i64 i1)] ?_
            have H36 : Hold h h12 [own cd132 a1 x1.length c1 x1, own cd90 a14 l2.length c10 l2] := H34.pick [1, 0] (by kernel_rfl)
            have gs4 := M.ret_some gs4
            subst gs4
            exact Run_fall [0, 3, 4, 5] (by kernel_rfl) ⟨a14, c10, rfl, H36⟩
          · have gs4 := (M.ite_some gs4).2 hb5
            refine Run_skip ?_
            have H37 : Hold h h7 [own cd90 a3 s1.length c2 s1, own cd132 a1 x1.length c1 x1, own cd2 a7 x3.length c5 x3] := H8.pick [1, 0, 2] (by kernel_rfl)
            have H38 : Hold h h7 [own cd132 a1 x1.length c1 x1, own cd90 a3 s1.length c2 s1] := H37.pick [1, 0] (by kernel_rfl)
            have gs4 := M.ret_some gs4
            subst gs4
            exact Run_fall [0, 3, 4, 5] (by kernel_rfl) ⟨a3, c2, rfl, H38⟩
      · refine Run_block ?_
        have hn1 := (H6.len 0 rfl)
        have H41 : Hold h h5 [own cd2 a5 (([] : List Int).length) 0 ([] : List Int), own cd132 a1 x1.length c1 x1, own cd90 a3 s1.length c2 s1] := by rw [hn1]; exact H6
        have H42 : Hold h h5 [own cd132 a1 x1.length c1 x1, own cd90 a3 s1.length c2 s1, own cd2 a5 (([] : List Int).length) 0 ([] : List Int)] := H41.pick [1, 2, 0] (by kernel_rfl)
        refine Run_keep [0, 3, 4, 5, 6, 7] (L' := [(0, .slice aa_ a_.length ca_), (3, .slice a1 x1.length c1), (4, .slice a3 s1.length c2), (5, .int .i64 i1), (6, .slice a5 (([] : List Int).length) 0), (7, .int .i64 0)]) (by first | (rw [hn1]; kernel_rfl) | (simp only [hn1]; kernel_rfl) | kernel_rfl) ?_
        refine Run_loop (fun m L' h' => ∃ (i2 : Int) (s2 : (List Int)) (a6 : Option Addr) (c4 : Nat), 0 ≤ i2 ∧ M.forN (a_.length : Int) _ _ n m i2 s2 = some x3 ∧ L' = [(0, .slice aa_ a_.length ca_), (3, .slice a1 x1.length c1), (4, .slice a3 s1.length c2), (5, .int .i64 i1), (6, .slice a6 s2.length c4), (7, .int .i64 i2)] ∧ Hold h h' [own cd132 a1 x1.length c1 x1, own cd90 a3 s1.length c2 s1, own cd2 a6 s2.length c4 s2]) ((a_.length : Int) - 0 : Int).toNat ⟨0, ([] : List Int), a5, 0, Int.le_refl _, gx3, rfl, H42⟩ ?_
        rintro my2 _ h6 ⟨i2, s2, a6, c4, hloy2', gx3, rfl, H7⟩
        refine Zs ?_
        refine Zs ?_
        refine Zq [.int .i64 i2, .slice aa_ a_.length ca_, .int .i64 (a_.length : Int), .bool (decide (i2 < (a_.length : Int)))] [0, 3, 4, 5, 6, 7, 21] [(0, .slice aa_ a_.length ca_), (3, .slice a1 x1.length c1), (4, .slice a3 s1.length c2), (5, .int .i64 i1), (6, .slice a6 s2.length c4), (7, .int .i64 i2), (21, .bool (decide (i2 < (a_.length : Int))))] ?_
        refine Zc (decide (i2 < (a_.length : Int))) (fun hb2 => ?_) (fun hb2 => ?_)
        · obtain ⟨my2, y2, rfl, hB2, hgoy2, houty2⟩ := M.for_go gx3 hb2
          have hlty2 := of_decide_eq_true hb2
          refine Run_skip ?_
          refine Zs ?_
          refine Run_block ?_
          refine Zs ?_
          obtain ⟨x4, hx2, hB2⟩ := M.bind_some hB2
          obtain ⟨hx2l, hx2u, hx2⟩ := M.idx_some hx2
          have H9 := H7.toRows
          obtain ⟨a8, c6, H10⟩ := H9.pinRow hx2
          obtain ⟨x5, hx3, hB2⟩ := M.bind_some hB2
          obtain ⟨hx3l, hx3u, hx3⟩ := M.idx_some hx3
          obtain ⟨x6, gx6, hB2⟩ := M.bind_some hB2
          refine Zg 16 [(0, .slice aa_ a_.length ca_), (3, .slice a1 x1.length c1), (4, .slice a3 s1.length c2), (5, .int .i64 i1), (6, .slice a6 s2.length c4), (7, .int .i64 i2), (39, .bool x6)] ?_ ?_
          · refine Zb [.slice a1 x1.length c1, .int .i64 i1] 0 ?_
            refine Zy (.pointer (some (adr a1 (i1.toNat * 1)))) (Zi 130 132 1 (a1) (x1.length) (c1) .i64 (i1) Try.underlying130 ((H7.rd 0 rfl).cell hx2).1 hx2l hx2u) ?_
            refine Zy (.slice a8 x4.length c6) (Zl 132 (adr a1 (i1.toNat * 1)) (.slice a8 x4.length c6) (H10.cellPin 0 rfl 0 rfl)) ?_
            refine Zb [.int .i64 i2] 4 ?_
            refine Zy (.pointer (some (adr a8 (i2.toNat * 1)))) (Zi 132 4 1 (a8) (x4.length) (c6) .i64 (i2) Try.underlying132 ((H10.rdPin 0 rfl 0 rfl).cell hx3).1 hx3l hx3u) ?_
            refine Zy (.bool x5) (Zl 4 (adr a8 (i2.toNat * 1)) (.bool x5) (cd4_cell (H10.rdPin 0 rfl 0 rfl) hx3)) ?_
            refine QRun_seq 16 [(0, .slice aa_ a_.length ca_), (3, .slice a1 x1.length c1), (4, .slice a3 s1.length c2), (5, .int .i64 i1), (6, .slice a6 s2.length c4), (7, .int .i64 i2), (39, .bool x6)] ?_ ?_
            · rcases Bool.eq_false_or_eq_true x5 with hb3 | hb3
              · refine QRun_bool x5 true (by kernel_rfl) (fun w => by kernel_rfl) hb3 ?_
                have gx6 := (M.ite_some gx6).1 hb3
                obtain ⟨x7, hx4, gx6⟩ := M.bind_some gx6
                obtain ⟨hx4l, hx4u, hx4⟩ := M.idx_some hx4
                obtain ⟨a9, c7, H11⟩ := H10.pinRow hx4
                obtain ⟨x8, hx5, gx6⟩ := M.bind_some gx6
                obtain ⟨hx5l, hx5u, hx5⟩ := M.idx_some hx5
                have gx6 := M.ret_some gx6
                refine Zb [.slice a1 x1.length c1, .int .i64 i2] 8 ?_
                refine Zy (.pointer (some (adr a1 (i2.toNat * 1)))) (Zi 130 132 1 (a1) (x1.length) (c1) .i64 (i2) Try.underlying130 ((H10.rdRows 0 rfl).cell hx4).1 hx4l hx4u) ?_
                refine Zy (.slice a9 x7.length c7) (Zl 132 (adr a1 (i2.toNat * 1)) (.slice a9 x7.length c7) (H11.cellPin 0 rfl 0 rfl)) ?_
                refine Zb [.int .i64 i1] 12 ?_
                refine Zy (.pointer (some (adr a9 (i1.toNat * 1)))) (Zi 132 4 1 (a9) (x7.length) (c7) .i64 (i1) Try.underlying132 ((H11.rdPin 0 rfl 0 rfl).cell hx5).1 hx5l hx5u) ?_
                refine Zy (.bool x8) (Zl 4 (adr a9 (i1.toNat * 1)) (.bool x8) (cd4_cell (H11.rdPin 0 rfl 0 rfl) hx5)) ?_
                refine QRun_bool x8 x6 (by kernel_rfl) (fun w => by kernel_rfl) gx6 ?_
                exact Zd [0, 3, 4, 5, 6, 7, 39]
              · refine QRun_bool x5 false (by kernel_rfl) (fun w => by kernel_rfl) hb3 ?_
                have gx6 := M.ret_some ((M.ite_some gx6).2 hb3)
                refine QRun_n (by kernel_rfl) ?_
                refine QRun_n (by kernel_rfl) ?_
                refine QRun_n (by kernel_rfl) ?_
                refine QRun_n (by kernel_rfl) ?_
                refine QRun_n (by kernel_rfl) ?_
                refine QRun_n (by kernel_rfl) ?_
                refine QRun_n (by kernel_rfl) ?_
                refine QRun_bool false x6 (by kernel_rfl) (fun w => by kernel_rfl) gx6 ?_
                exact Zd [0, 3, 4, 5, 6, 7, 39]
            exact Zd [0, 3, 4, 5, 6, 7, 39]
          obtain ⟨s3, gs3, hB2⟩ := M.bind_some hB2
          refine Run_join (fun L' h' => ∃ (a12 : Option Addr), ∃ (c9 : Nat), L' = [(0, .slice aa_ a_.length ca_), (3, .slice a1 x1.length c1), (4, .slice a3 s1.length c2), (5, .int .i64 i1), (6, .slice a12 s3.length c9), (7, .int .i64 i2)] ∧ Hold h h' [own cd132 a1 x1.length c1 x1, own cd90 a3 s1.length c2 s1, own cd2 a12 s3.length c9 s3]) ?_ ?_
          · rintro _ h10 ⟨a12, c9, rfl, H17⟩
            refine Run_blk ?_
            refine Zg 3 [(0, .slice aa_ a_.length ca_), (3, .slice a1 x1.length c1), (4, .slice a3 s1.length c2), (5, .int .i64 i1), (6, .slice a12 s3.length c9), (7, .int .i64 (i2 + 1))] ?_ ?_
            · refine Zb [.int .i64 i2] 0 ?_
              refine Zy (.int .i64 (i2 + 1)) (Y_eq (v := .int .i64 (w64 (i2 + 1))) (Y_pure (fun w => by kernel_rfl)) (by rw [w64_eq _ (by omega)])) ?_
              refine Zb [.int .i64 (i2 + 1)] 2 ?_
              exact Zd [0, 3, 4, 5, 6, 7]
            have H25 : Hold h h10 [own cd2 a12 s3.length c9 s3, own cd132 a1 x1.length c1 x1, own cd90 a3 s1.length c2 s1] := H17.pick [2, 0, 1] (by kernel_rfl)
            have H26 : Hold h h10 [own cd132 a1 x1.length c1 x1, own cd90 a3 s1.length c2 s1, own cd2 a12 s3.length c9 s3] := H25.pick [1, 2, 0] (by kernel_rfl)
            have hB2 := M.ret_some hB2
            have gx3 := hgoy2 _ hB2.symm
            exact Run_again [0, 3, 4, 5, 6, 7] (by kernel_rfl) my2 (Nat.lt_succ_self _) ⟨i2 + 1, s3, a12, c9, by omega, gx3, rfl, H26⟩
          · refine Zc (x6) (fun hb4 => ?_) (fun hb4 => ?_)
            · have gs3 := (M.ite_some gs3).1 hb4
              refine Run_ops ?_
              refine Zr [.slice a6 s2.length c4, .int .i64 i2] 0 ?_
              refine Run_E (by kernel_rfl) ?_
              refine E_lit (C := cd2) (n := 1) (l := ([i2] : List Int)) (cs := [.int .i64 i2]) H10 (fun w => by kernel_rfl) (Enc.consE (cd2_own i2 _) (Enc.nil _ _) rfl) rfl (by decide) (fun a10 h8 H12 => ?_)
              obtain ⟨l1, hl1, gs3⟩ := M.bind_some gs3
              have hl1 := M.app_some hl1
              have H13 : Hold h h8 [own cd2 a6 s2.length c4 s2, own cd2 a10 1 1 ([i2] : List Int), rowsP cd4 132 a1 x1.length c1 x1 [(i1.toNat, a8, x4.length, c6, x4)], own cd90 a3 s1.length c2 s1] := H12.pick [3, 0, 1, 2] (by kernel_rfl)
              have H14 : Hold h h8 [own cd2 a10 1 1 ([i2] : List Int), own cd2 a6 s2.length c4 s2, rowsP cd4 132 a1 x1.length c1 x1 [(i1.toNat, a8, x4.length, c6, x4)], own cd90 a3 s1.length c2 s1] := H13.pick [1, 0, 2, 3] (by kernel_rfl)
              have H15 : Hold h h8 [own cd2 a6 s2.length c4 s2, own cd2 a10 1 1 ([i2] : List Int), rowsP cd4 132 a1 x1.length c1 x1 [(i1.toNat, a8, x4.length, c6, x4)], own cd90 a3 s1.length c2 s1] := H14.pick [1, 0, 2, 3] (by kernel_rfl)
              refine Run_E (by kernel_rfl) ?_
              refine E_app (C := cd2) (t := 90) (ty := 90) (n := s2.length) (m := 1) H15 cd2_ti rfl Try.underlying90 (by decide) (by kernel_rfl) hl1 (fun a11 c8 h9 H16 => ?_)
              refine Zr [.slice a11 l1.length c8] 4 ?_
              refine Run_nil (by kernel_rfl) ?_
              refine Zk [0, 3, 4, 5, 6, 7] [(0, .slice aa_ a_.length ca_), (3, .slice a1 x1.length c1), (4, .slice a3 s1.length c2), (5, .int .i64 i1), (6, .slice a11 l1.length c8), (7, .int .i64 i2)] ?_
              have H18 : Hold h h9 [rowsP cd4 132 a1 x1.length c1 x1 [(i1.toNat, a8, x4.length, c6, x4)], own cd2 a11 l1.length c8 l1, own cd90 a3 s1.length c2 s1] := H16.pick [1, 0, 2] (by kernel_rfl)
              have H19 := H18.ofRows
              have H20 : Hold h h9 [own cd2 a11 l1.length c8 l1, own cd132 a1 x1.length c1 x1, own cd90 a3 s1.length c2 s1] := H19.pick [1, 0, 2] (by kernel_rfl)
              have H21 : Hold h h9 [own cd132 a1 x1.length c1 x1, own cd90 a3 s1.length c2 s1, own cd2 a11 l1.length c8 l1] := H20.pick [1, 2, 0] (by kernel_rfl)
              have gs3 := M.ret_some gs3
              subst gs3
              exact Run_fall [0, 3, 4, 5, 6, 7] (by kernel_rfl) ⟨a11, c8, rfl, H21⟩
            · have gs3 := (M.ite_some gs3).2 hb4
              refine Run_skip ?_
              have H22 := H10.ofRows
              have H23 : Hold h h6 [own cd2 a6 s2.length c4 s2, own cd132 a1 x1.length c1 x1, own cd90 a3 s1.length c2 s1] := H22.pick [2, 0, 1] (by kernel_rfl)
              have H24 : Hold h h6 [own cd132 a1 x1.length c1 x1, own cd90 a3 s1.length c2 s1, own cd2 a6 s2.length c4 s2] := H23.pick [1, 2, 0] (by kernel_rfl)
              have gs3 := M.ret_some gs3
              subst gs3
              exact Run_fall [0, 3, 4, 5, 6, 7] (by kernel_rfl) ⟨a6, c4, rfl, H24⟩
        · have gx3 := M.for_end gx3 hb2
          subst gx3
          refine Run_exit (k' := _) rfl ?_
          have H27 : Hold h h6 [own cd2 a6 s2.length c4 s2, own cd132 a1 x1.length c1 x1, own cd90 a3 s1.length c2 s1] := H7.pick [2, 0, 1] (by kernel_rfl)
          have H28 : Hold h h6 [own cd132 a1 x1.length c1 x1, own cd90 a3 s1.length c2 s1, own cd2 a6 s2.length c4 s2] := H27.pick [1, 2, 0] (by kernel_rfl)
          exact Run_fall [0, 3, 4, 5, 6] (by kernel_rfl) ⟨a6, c4, rfl, H28⟩
    · have gx2 := M.for_end gx2 hb1
      subst gx2
      refine Run_exit (k' := _) rfl ?_
      have H43 : Hold h h3 [own cd90 a3 s1.length c2 s1, own cd132 a1 x1.length c1 x1] := H4.pick [1, 0] (by kernel_rfl)
      have H44 : Hold h h3 [own cd90 a3 s1.length c2 s1] := H43.pick [0] (by kernel_rfl)
      exact Run_fall [4] (by kernel_rfl) ⟨a3, c2, rfl, H44⟩

set_option maxRecDepth 100000 in
set_option maxHeartbeats 4000000 in
theorem w_spec_l06Nodes (h : Heap) (a_ : List (List Int)) (aa_ : Option Addr) (ca_ : Nat) (ra_ : Rd cd90 h (Lt h) aa_ ca_ a_) (n : Nat) (r : (List Int)) (hF : spec_l06Nodes a_ n = some r) :
    Fn Try.prog 115 #[.slice aa_ a_.length ca_] h fun v h' => ∃ (a0 : Option Addr) (c0 : Nat), v = .slice a0 r.length c0 ∧ Hold h h' [own cd2 a0 r.length c0 r] := by
  unfold spec_l06Nodes at hF
  refine Fn_enter (args := [.slice aa_ a_.length ca_]) Try.func115 rfl (by kernel_rfl) (by kernel_rfl) (fun w0 _ => ?_)
  have H0 := Hold.init h
  refine Zs ?_
  refine Zq [.slice none 0 0] [0] [(0, .slice aa_ a_.length ca_)] ?_
  refine Zs ?_
  refine Run_ops ?_
  refine Zr [.slice aa_ a_.length ca_] 0 ?_
  obtain ⟨x1, hx1, hF⟩ := M.bind_some hF
  refine Run_E (by kernel_rfl) ?_
  refine E_call (f := 141) (args := #[.slice aa_ a_.length ca_]) (w_spec_l06Arcs h a_ aa_ ca_ ra_ _ _ hx1) (by kernel_rfl) (fun v1 h1 hp1 => ?_)
  obtain ⟨a1, c1, rfl, H1⟩ := hp1
  have H2 : Hold h h1 [own cd90 a1 x1.length c1 x1] := H0.call H1 rfl
  refine Zr [.slice a1 x1.length c1] 2 ?_
  refine Run_nil (by kernel_rfl) ?_
  refine Zk [3] [(3, .slice a1 x1.length c1)] ?_
  refine Zs ?_
  refine Run_ops ?_
  refine Run_E (by kernel_rfl) ?_
  refine E_lit (C := cd2) (n := 0) (l := ([] : List Int)) (cs := []) H2 (fun w => by kernel_rfl) (Enc.nil _ _) rfl (by decide) (fun a2 h2 H3 => ?_)
  refine Zr [.slice a2 0 0] 1 ?_
  refine Run_nil (by kernel_rfl) ?_
  refine Zk [3, 4] [(3, .slice a1 x1.length c1), (4, .slice a2 0 0)] ?_
  refine Zs ?_
  refine Zs ?_
  refine Zq [.int .i64 0] [3, 4, 5] [(3, .slice a1 x1.length c1), (4, .slice a2 0 0), (5, .int .i64 0)] ?_
  obtain ⟨x2, gx2, hF⟩ := M.bind_some hF
  obtain ⟨hloy1, hhiy1, gx2⟩ := M.for_start gx2
  refine Run_join (fun L' h' => ∃ (a4 : Option Addr) (c3 : Nat), L' = [(4, .slice a4 x2.length c3)] ∧ Hold h h' [own cd2 a4 x2.length c3 x2]) ?_ ?_
  · rintro _ h4 ⟨a4, c3, rfl, H5⟩
    refine Zs ?_
    refine Zq [.slice a4 x2.length c3, .slice a4 x2.length c3] [2] [(2, .slice a4 x2.length c3)] ?_
    have hF := M.ret_some hF
    subst hF
    exact Run_ret1 rfl (ResV_tmp (v := .slice a4 x2.length c3) (by kernel_rfl)) ⟨a4, c3, rfl, H5⟩
  · refine Run_block ?_
    have hn1 := (H3.len 0 rfl)
    have H26 : Hold h h2 [own cd2 a2 (([] : List Int).length) 0 ([] : List Int), own cd90 a1 x1.length c1 x1] := by rw [hn1]; exact H3
    have H27 : Hold h h2 [own cd90 a1 x1.length c1 x1, own cd2 a2 (([] : List Int).length) 0 ([] : List Int)] := H26.pick [1, 0] (by kernel_rfl)
    refine Run_keep [3, 4, 5] (L' := [(3, .slice a1 x1.length c1), (4, .slice a2 (([] : List Int).length) 0), (5, .int .i64 0)]) (by first | (rw [hn1]; kernel_rfl) | (simp only [hn1]; kernel_rfl) | kernel_rfl) ?_
    refine Run_loop (fun m L' h' => ∃ (i1 : Int) (s1 : (List Int)) (a3 : Option Addr) (c2 : Nat), 0 ≤ i1 ∧ M.forN (x1.length : Int) _ _ n m i1 s1 = some x2 ∧ L' = [(3, .slice a1 x1.length c1), (4, .slice a3 s1.length c2), (5, .int .i64 i1)] ∧ Hold h h' [own cd90 a1 x1.length c1 x1, own cd2 a3 s1.length c2 s1]) ((x1.length : Int) - 0 : Int).toNat ⟨0, ([] : List Int), a2, 0, Int.le_refl _, gx2, rfl, H27⟩ ?_
    rintro my1 _ h3 ⟨i1, s1, a3, c2, hloy1', gx2, rfl, H4⟩
    refine Zs ?_
    refine Zs ?_
    refine Zq [.int .i64 i1, .slice a1 x1.length c1, .int .i64 (x1.length : Int), .bool (decide (i1 < (x1.length : Int)))] [3, 4, 5, 12] [(3, .slice a1 x1.length c1), (4, .slice a3 s1.length c2), (5, .int .i64 i1), (12, .bool (decide (i1 < (x1.length : Int))))] ?_
    refine Zc (decide (i1 < (x1.length : Int))) (fun hb1 => ?_) (fun hb1 => ?_)
    · obtain ⟨my1, y1, rfl, hB1, hgoy1, houty1⟩ := M.for_go gx2 hb1
      have hlty1 := of_decide_eq_true hb1
      refine Run_skip ?_
      refine Zs ?_
      refine Run_block ?_
      refine Zs ?_
      obtain ⟨x3, hx2, hB1⟩ := M.bind_some hB1
      obtain ⟨hx2l, hx2u, hx2⟩ := M.idx_some hx2
      have H6 := H4.toRows
      obtain ⟨a5, c4, H7⟩ := H6.pinRow hx2
      obtain ⟨x4, hx3, hB1⟩ := M.bind_some hB1
      obtain ⟨hx3l, hx3u, hx3⟩ := M.idx_some hx3
      obtain ⟨x5, hx4, hB1⟩ := M.bind_some hB1
      refine Zg 9 [(3, .slice a1 x1.length c1), (4, .slice a3 s1.length c2), (5, .int .i64 i1), (23, .bool (!x5))] ?_ ?_
      · refine Zb [.slice a3 s1.length c2, .slice a1 x1.length c1, .int .i64 i1] 0 ?_
        refine Zy (.pointer (some (adr a1 (i1.toNat * 1)))) (Zi 37 90 1 (a1) (x1.length) (c1) .i64 (i1) Try.underlying37 ((H4.rd 0 rfl).cell hx2).1 hx2l hx2u) ?_
        refine Zy (.slice a5 x3.length c4) (Zl 90 (adr a1 (i1.toNat * 1)) (.slice a5 x3.length c4) (H7.cellPin 0 rfl 0 rfl)) ?_
        refine Zy (.pointer (some (adr a5 (0 * 1)))) (Zi 90 2 1 (a5) (x3.length) (c4) .i64 (0) Try.underlying90 ((H7.rdPin 0 rfl 0 rfl).cell hx3).1 hx3l hx3u) ?_
        refine Zy (.int .i64 x4) (Zl 2 (adr a5 (0 * 1)) (.int .i64 x4) (cd2_cell (H7.rdPin 0 rfl 0 rfl) hx3)) ?_
        refine Zy (.bool x5) (Y_callq (f := 69) (args := #[.slice a3 s1.length c2, .int .i64 x4]) (v := .bool x5) (by kernel_rfl) (w_spec_l01Has h3 s1 a3 c2 (H7.rd 1 rfl) x4 _ _ hx4)) ?_
        refine Zb [.bool (!x5)] 8 ?_
        exact Zd [3, 4, 5, 23]
      obtain ⟨s2, gs2, hB1⟩ := M.bind_some hB1
      refine Run_join (fun L' h' => ∃ (a9 : Option Addr), ∃ (c7 : Nat), L' = [(3, .slice a1 x1.length c1), (4, .slice a9 s2.length c7), (5, .int .i64 i1)] ∧ Hold h h' [own cd90 a1 x1.length c1 x1, own cd2 a9 s2.length c7 s2]) ?_ ?_
      · rintro _ h7 ⟨a9, c7, rfl, H14⟩
        refine Run_blk ?_
        refine Zg 3 [(3, .slice a1 x1.length c1), (4, .slice a9 s2.length c7), (5, .int .i64 (i1 + 1))] ?_ ?_
        · refine Zb [.int .i64 i1] 0 ?_
          refine Zy (.int .i64 (i1 + 1)) (Y_eq (v := .int .i64 (w64 (i1 + 1))) (Y_pure (fun w => by kernel_rfl)) (by rw [w64_eq _ (by omega)])) ?_
          refine Zb [.int .i64 (i1 + 1)] 2 ?_
          exact Zd [3, 4, 5]
        have H22 : Hold h h7 [own cd2 a9 s2.length c7 s2, own cd90 a1 x1.length c1 x1] := H14.pick [1, 0] (by kernel_rfl)
        have H23 : Hold h h7 [own cd90 a1 x1.length c1 x1, own cd2 a9 s2.length c7 s2] := H22.pick [1, 0] (by kernel_rfl)
        have hB1 := M.ret_some hB1
        have gx2 := hgoy1 _ hB1.symm
        exact Run_again [3, 4, 5] (by kernel_rfl) my1 (Nat.lt_succ_self _) ⟨i1 + 1, s2, a9, c7, by omega, gx2, rfl, H23⟩
      · refine Zc (!x5) (fun hb2 => ?_) (fun hb2 => ?_)
        · have gs2 := (M.ite_some gs2).1 hb2
          refine Run_ops ?_
          obtain ⟨x6, hx5, gs2⟩ := M.bind_some gs2
          obtain ⟨hx5l, hx5u, hx5⟩ := M.idx_some hx5
          obtain ⟨a6, c5, H8⟩ := H7.pinRow hx5
          obtain ⟨x7, hx6, gs2⟩ := M.bind_some gs2
          obtain ⟨hx6l, hx6u, hx6⟩ := M.idx_some hx6
          refine Zr [.slice a3 s1.length c2, .slice a1 x1.length c1, .int .i64 i1] 0 ?_
          refine Zz (.pointer (some (adr a1 (i1.toNat * 1)))) (Zi 37 90 1 (a1) (x1.length) (c1) .i64 (i1) Try.underlying37 ((H7.rdRows 0 rfl).cell hx5).1 hx5l hx5u) ?_
          refine Zz (.slice a6 x6.length c5) (Zl 90 (adr a1 (i1.toNat * 1)) (.slice a6 x6.length c5) (H8.cellPin 0 rfl 0 rfl)) ?_
          refine Zz (.pointer (some (adr a6 (0 * 1)))) (Zi 90 2 1 (a6) (x6.length) (c5) .i64 (0) Try.underlying90 ((H8.rdPin 0 rfl 0 rfl).cell hx6).1 hx6l hx6u) ?_
          refine Zz (.int .i64 x7) (Zl 2 (adr a6 (0 * 1)) (.int .i64 x7) (cd2_cell (H8.rdPin 0 rfl 0 rfl) hx6)) ?_
          refine Run_E (by kernel_rfl) ?_
          refine E_lit (C := cd2) (n := 1) (l := ([x7] : List Int)) (cs := [.int .i64 x7]) H8 (fun w => by kernel_rfl) (Enc.consE (cd2_own x7 _) (Enc.nil _ _) rfl) rfl (by decide) (fun a7 h5 H9 => ?_)
          obtain ⟨l1, hl1, gs2⟩ := M.bind_some gs2
          have hl1 := M.app_some hl1
          have H10 : Hold h h5 [own cd2 a3 s1.length c2 s1, own cd2 a7 1 1 ([x7] : List Int), rowsP cd2 90 a1 x1.length c1 x1 [(i1.toNat, a6, x6.length, c5, x6), (i1.toNat, a5, x3.length, c4, x3)]] := H9.pick [2, 0, 1] (by kernel_rfl)
          have H11 : Hold h h5 [own cd2 a7 1 1 ([x7] : List Int), own cd2 a3 s1.length c2 s1, rowsP cd2 90 a1 x1.length c1 x1 [(i1.toNat, a6, x6.length, c5, x6), (i1.toNat, a5, x3.length, c4, x3)]] := H10.pick [1, 0, 2] (by kernel_rfl)
          have H12 : Hold h h5 [own cd2 a3 s1.length c2 s1, own cd2 a7 1 1 ([x7] : List Int), rowsP cd2 90 a1 x1.length c1 x1 [(i1.toNat, a6, x6.length, c5, x6), (i1.toNat, a5, x3.length, c4, x3)]] := H11.pick [1, 0, 2] (by kernel_rfl)
          refine Run_E (by kernel_rfl) ?_
          refine E_app (C := cd2) (t := 90) (ty := 90) (n := s1.length) (m := 1) H12 cd2_ti rfl Try.underlying90 (by decide) (by kernel_rfl) hl1 (fun a8 c6 h6 H13 => ?_)
          refine Zr [.slice a8 l1.length c6] 9 ?_
          refine Run_nil (by kernel_rfl) ?_
          refine Zk [3, 4, 5] [(3, .slice a1 x1.length c1), (4, .slice a8 l1.length c6), (5, .int .i64 i1)] ?_
          have H15 : Hold h h6 [rowsP cd2 90 a1 x1.length c1 x1 [(i1.toNat, a6, x6.length, c5, x6), (i1.toNat, a5, x3.length, c4, x3)], own cd2 a8 l1.length c6 l1] := H13.pick [1, 0] (by kernel_rfl)
          have H16 := H15.ofRows
          have H17 : Hold h h6 [own cd2 a8 l1.length c6 l1, own cd90 a1 x1.length c1 x1] := H16.pick [1, 0] (by kernel_rfl)
          have H18 : Hold h h6 [own cd90 a1 x1.length c1 x1, own cd2 a8 l1.length c6 l1] := H17.pick [1, 0] (by kernel_rfl)
          have gs2 := M.ret_some gs2
          subst gs2
          exact Run_fall [3, 4, 5] (by kernel_rfl) ⟨a8, c6, rfl, H18⟩
        · have gs2 := (M.ite_some gs2).2 hb2
          refine Run_skip ?_
          have H19 := H7.ofRows
          have H20 : Hold h h3 [own cd2 a3 s1.length c2 s1, own cd90 a1 x1.length c1 x1] := H19.pick [1, 0] (by kernel_rfl)
          have H21 : Hold h h3 [own cd90 a1 x1.length c1 x1, own cd2 a3 s1.length c2 s1] := H20.pick [1, 0] (by kernel_rfl)
          have gs2 := M.ret_some gs2
          subst gs2
          exact Run_fall [3, 4, 5] (by kernel_rfl) ⟨a3, c2, rfl, H21⟩
    · have gx2 := M.for_end gx2 hb1
      subst gx2
      refine Run_exit (k' := _) rfl ?_
      have H24 : Hold h h3 [own cd2 a3 s1.length c2 s1, own cd90 a1 x1.length c1 x1] := H4.pick [1, 0] (by kernel_rfl)
      have H25 : Hold h h3 [own cd2 a3 s1.length c2 s1] := H24.pick [0] (by kernel_rfl)
      exact Run_fall [4] (by kernel_rfl) ⟨a3, c2, rfl, H25⟩

set_option maxRecDepth 100000 in
set_option maxHeartbeats 4000000 in
theorem w_spec_l06Components (h : Heap) (a_ : List (List Int)) (aa_ : Option Addr) (ca_ : Nat) (ra_ : Rd cd90 h (Lt h) aa_ ca_ a_) (n : Nat) (r : (List (List Int))) (hF : spec_l06Components a_ n = some r) :
    Fn Try.prog 68 #[.slice aa_ a_.length ca_] h fun v h' => ∃ (a0 : Option Addr) (c0 : Nat), v = .slice a0 r.length c0 ∧ Rd cd90 h' (Lt h') a0 c0 r ∧ Hold h h' [] := by
  unfold spec_l06Components at hF
  refine Fn_enter (args := [.slice aa_ a_.length ca_]) Try.func68 rfl (by kernel_rfl) (by kernel_rfl) (fun w0 _ => ?_)
  have H0 := Hold.init h
  refine Zs ?_
  refine Zq [.slice none 0 0] [0] [(0, .slice aa_ a_.length ca_)] ?_
  refine Zs ?_
  refine Run_ops ?_
  refine Zr [.slice aa_ a_.length ca_] 0 ?_
  obtain ⟨x1, hx1, hF⟩ := M.bind_some hF
  refine Run_E (by kernel_rfl) ?_
  refine E_call (f := 114) (args := #[.slice aa_ a_.length ca_]) (w_spec_l06Matrix h a_ aa_ ca_ ra_ _ _ hx1) (by kernel_rfl) (fun v1 h1 hp1 => ?_)
  obtain ⟨a1, c1, rfl, H1⟩ := hp1
  have H2 : Hold h h1 [own cd90 a1 x1.length c1 x1] := H0.call H1 rfl
  obtain ⟨x2, hx2, hF⟩ := M.bind_some hF
  refine Run_E (by kernel_rfl) ?_
  refine E_call (f := 113) (args := #[.slice a1 x1.length c1]) (w_spec_l05Components h1 x1 a1 c1 (H2.rd 0 rfl) _ _ hx2) (by kernel_rfl) (fun v2 h2 hp2 => ?_)
  obtain ⟨a2, c2, rfl, H3⟩ := hp2
  have H4 : Hold h h2 [own cd90 a2 x2.length c2 x2, own cd90 a1 x1.length c1 x1] := H2.call H3 rfl
  refine Zr [.slice a2 x2.length c2] 3 ?_
  refine Run_nil (by kernel_rfl) ?_
  refine Zk [0, 3] [(0, .slice aa_ a_.length ca_), (3, .slice a2 x2.length c2)] ?_
  refine Zs ?_
  refine Run_ops ?_
  refine Zr [.slice aa_ a_.length ca_] 0 ?_
  obtain ⟨x3, hx3, hF⟩ := M.bind_some hF
  refine Run_E (by kernel_rfl) ?_
  refine E_call (f := 115) (args := #[.slice aa_ a_.length ca_]) (w_spec_l06Nodes h2 a_ aa_ ca_ (ra_.at H4.ext) _ _ hx3) (by kernel_rfl) (fun v3 h3 hp3 => ?_)
  obtain ⟨a3, c3, rfl, H5⟩ := hp3
  have H6 : Hold h h3 [own cd2 a3 x3.length c3 x3, own cd90 a2 x2.length c2 x2, own cd90 a1 x1.length c1 x1] := H4.call H5 rfl
  refine Zr [.slice a3 x3.length c3] 2 ?_
  refine Run_nil (by kernel_rfl) ?_
  refine Zk [3, 4] [(3, .slice a2 x2.length c2), (4, .slice a3 x3.length c3)] ?_
  refine Zs ?_
  have rB1 := (H6.rd 1 rfl)
  have rB2 := (H6.rd 0 rfl)
  have HB1 : Hold h h3 [] := H6.pick [] (by kernel_rfl)
  obtain ⟨h, hEq⟩ : ∃ q : Heap, q = h3 := ⟨_, rfl⟩
  subst hEq
  have H7 := Hold.init h
  refine Run_ops ?_
  refine Run_E (by kernel_rfl) ?_
  refine E_lit (C := (pinCd cd90 h)) (n := 0) (l := []) (cs := []) H7 (fun w => by kernel_rfl) (Enc.nil _ _) rfl (by decide) (fun a4 h4 H8 => ?_)
  refine Zr [.slice a4 0 0] 1 ?_
  refine Run_nil (by kernel_rfl) ?_
  refine Zk [3, 4, 5] [(3, .slice a2 x2.length c2), (4, .slice a3 x3.length c3), (5, .slice a4 0 0)] ?_
  refine Zs ?_
  refine Zs ?_
  refine Zq [.int .i64 0] [3, 4, 5, 6] [(3, .slice a2 x2.length c2), (4, .slice a3 x3.length c3), (5, .slice a4 0 0), (6, .int .i64 0)] ?_
  obtain ⟨x4, gx4, hF⟩ := M.bind_some hF
  obtain ⟨hloy1, hhiy1, gx4⟩ := M.for_start gx4
  refine Run_join (fun L' h' => ∃ (a6 : Option Addr) (c5 : Nat), L' = [(5, .slice a6 x4.length c5)] ∧ Hold h h' [own (pinCd cd90 h) a6 x4.length c5 x4]) ?_ ?_
  · rintro _ h6 ⟨a6, c5, rfl, H10⟩
    refine Zs ?_
    refine Zq [.slice a6 x4.length c5, .slice a6 x4.length c5] [2] [(2, .slice a6 x4.length c5)] ?_
    have hF := M.ret_some hF
    subst hF
    have rV1 := ((H10.rd 0 rfl).unpin H10.ext)
    have H17 : Hold h h6 [] := H10.pick [] (by kernel_rfl)
    exact Run_ret1 rfl (ResV_tmp (v := .slice a6 x4.length c5) (by kernel_rfl)) ⟨a6, c5, rfl, rV1, (HB1.trans0 H17)⟩
  · refine Run_block ?_
    have hn1 := (H8.len 0 rfl)
    have H18 : Hold h h4 [own (pinCd cd90 h) a4 (([] : List (List Int)).length) 0 ([] : List (List Int))] := by rw [hn1]; exact H8
    refine Run_keep [3, 4, 5, 6] (L' := [(3, .slice a2 x2.length c2), (4, .slice a3 x3.length c3), (5, .slice a4 (([] : List (List Int)).length) 0), (6, .int .i64 0)]) (by first | (rw [hn1]; kernel_rfl) | (simp only [hn1]; kernel_rfl) | kernel_rfl) ?_
    refine Run_loop (fun m L' h' => ∃ (i1 : Int) (s1 : (List (List Int))) (a5 : Option Addr) (c4 : Nat), 0 ≤ i1 ∧ M.forN (x2.length : Int) _ _ n m i1 s1 = some x4 ∧ L' = [(3, .slice a2 x2.length c2), (4, .slice a3 x3.length c3), (5, .slice a5 s1.length c4), (6, .int .i64 i1)] ∧ Hold h h' [own (pinCd cd90 h) a5 s1.length c4 s1]) ((x2.length : Int) - 0 : Int).toNat ⟨0, ([] : List (List Int)), a4, 0, Int.le_refl _, gx4, rfl, H18⟩ ?_
    rintro my1 _ h5 ⟨i1, s1, a5, c4, hloy1', gx4, rfl, H9⟩
    refine Zs ?_
    refine Zs ?_
    refine Zq [.int .i64 i1, .slice a2 x2.length c2, .int .i64 (x2.length : Int), .bool (decide (i1 < (x2.length : Int)))] [3, 4, 5, 6, 16] [(3, .slice a2 x2.length c2), (4, .slice a3 x3.length c3), (5, .slice a5 s1.length c4), (6, .int .i64 i1), (16, .bool (decide (i1 < (x2.length : Int))))] ?_
    refine Zc (decide (i1 < (x2.length : Int))) (fun hb1 => ?_) (fun hb1 => ?_)
    · obtain ⟨my1, y1, rfl, hB1, hgoy1, houty1⟩ := M.for_go gx4 hb1
      have hlty1 := of_decide_eq_true hb1
      refine Run_skip ?_
      refine Zs ?_
      refine Run_block ?_
      refine Zs ?_
      obtain ⟨x5, hx4, hB1⟩ := M.bind_some hB1
      obtain ⟨hx4l, hx4u, hx4⟩ := M.idx_some hx4
      obtain ⟨a7, c6, hc1, r1⟩ := rB1.row hx4
      obtain ⟨x6, hx5, hB1⟩ := M.bind_some hB1
      obtain ⟨hx5l, hx5u, hx5⟩ := M.idx_some hx5
      obtain ⟨x7, hx6, hB1⟩ := M.bind_some hB1
      refine Zg 8 [(3, .slice a2 x2.length c2), (4, .slice a3 x3.length c3), (5, .slice a5 s1.length c4), (6, .int .i64 i1), (26, .bool x7)] ?_ ?_
      · refine Zb [.slice a3 x3.length c3, .slice a2 x2.length c2, .int .i64 i1] 0 ?_
        refine Zy (.pointer (some (adr a2 (i1.toNat * 1)))) (Zi 37 90 1 (a2) (x2.length) (c2) .i64 (i1) Try.underlying37 ((rB1.at H9.ext).cell hx4).1 hx4l hx4u) ?_
        refine Zy (.slice a7 x5.length c6) (Zl 90 (adr a2 (i1.toNat * 1)) (.slice a7 x5.length c6) (cell_at H9.ext hc1)) ?_
        refine Zy (.pointer (some (adr a7 (0 * 1)))) (Zi 90 2 1 (a7) (x5.length) (c6) .i64 (0) Try.underlying90 ((r1.at H9.ext).cell hx5).1 hx5l hx5u) ?_
        refine Zy (.int .i64 x6) (Zl 2 (adr a7 (0 * 1)) (.int .i64 x6) (cd2_cell (r1.at H9.ext) hx5)) ?_
        refine Zy (.bool x7) (Y_callq (f := 69) (args := #[.slice a3 x3.length c3, .int .i64 x6]) (v := .bool x7) (by kernel_rfl) (w_spec_l01Has h5 x3 a3 c3 (rB2.at H9.ext) x6 _ _ hx6)) ?_
        exact Zd [3, 4, 5, 6, 26]
      obtain ⟨s2, gs2, hB1⟩ := M.bind_some hB1
      refine Run_join (fun L' h' => ∃ (a11 : Option Addr), ∃ (c9 : Nat), L' = [(3, .slice a2 x2.length c2), (4, .slice a3 x3.length c3), (5, .slice a11 s2.length c9), (6, .int .i64 i1)] ∧ Hold h h' [own (pinCd cd90 h) a11 s2.length c9 s2]) ?_ ?_
      · rintro _ h9 ⟨a11, c9, rfl, H16⟩
        refine Run_blk ?_
        refine Zg 3 [(3, .slice a2 x2.length c2), (4, .slice a3 x3.length c3), (5, .slice a11 s2.length c9), (6, .int .i64 (i1 + 1))] ?_ ?_
        · refine Zb [.int .i64 i1] 0 ?_
          refine Zy (.int .i64 (i1 + 1)) (Y_eq (v := .int .i64 (w64 (i1 + 1))) (Y_pure (fun w => by kernel_rfl)) (by rw [w64_eq _ (by omega)])) ?_
          refine Zb [.int .i64 (i1 + 1)] 2 ?_
          exact Zd [3, 4, 5, 6]
        have hB1 := M.ret_some hB1
        have gx4 := hgoy1 _ hB1.symm
        exact Run_again [3, 4, 5, 6] (by kernel_rfl) my1 (Nat.lt_succ_self _) ⟨i1 + 1, s2, a11, c9, by omega, gx4, rfl, H16⟩
      · refine Zc (x7) (fun hb2 => ?_) (fun hb2 => ?_)
        · have gs2 := (M.ite_some gs2).1 hb2
          refine Run_ops ?_
          obtain ⟨x8, hx7, gs2⟩ := M.bind_some gs2
          obtain ⟨hx7l, hx7u, hx7⟩ := M.idx_some hx7
          obtain ⟨a8, c7, hc2, r2⟩ := rB1.row hx7
          refine Zr [.slice a5 s1.length c4, .slice a2 x2.length c2, .int .i64 i1] 0 ?_
          refine Zz (.pointer (some (adr a2 (i1.toNat * 1)))) (Zi 37 90 1 (a2) (x2.length) (c2) .i64 (i1) Try.underlying37 ((rB1.at H9.ext).cell hx7).1 hx7l hx7u) ?_
          refine Zz (.slice a8 x8.length c7) (Zl 90 (adr a2 (i1.toNat * 1)) (.slice a8 x8.length c7) (cell_at H9.ext hc2)) ?_
          refine Run_E (by kernel_rfl) ?_
          refine E_lit (C := (pinCd cd90 h)) (n := 1) (l := [x8]) (cs := [.slice a8 x8.length c7]) H9 (fun w => by kernel_rfl) (Enc.consE (C := (pinCd cd90 h)) ⟨⟨_, _, rfl, r2⟩, rfl⟩ (Enc.nil _ _) rfl) rfl (by decide) (fun a9 h7 H11 => ?_)
          obtain ⟨l1, hl1, gs2⟩ := M.bind_some gs2
          have hl1 := M.app_some hl1
          have H12 : Hold h h7 [own (pinCd cd90 h) a5 s1.length c4 s1, own (pinCd cd90 h) a9 1 1 [x8]] := H11.pick [1, 0] (by kernel_rfl)
          have H13 : Hold h h7 [own (pinCd cd90 h) a9 1 1 [x8], own (pinCd cd90 h) a5 s1.length c4 s1] := H12.pick [1, 0] (by kernel_rfl)
          have H14 : Hold h h7 [own (pinCd cd90 h) a5 s1.length c4 s1, own (pinCd cd90 h) a9 1 1 [x8]] := H13.pick [1, 0] (by kernel_rfl)
          refine Run_E (by kernel_rfl) ?_
          refine E_app (C := (pinCd cd90 h)) (t := 37) (ty := 37) (n := s1.length) (m := 1) H14 cd90_ti rfl Try.underlying37 (by decide) (by kernel_rfl) hl1 (fun a10 c8 h8 H15 => ?_)
          refine Zr [.slice a10 l1.length c8] 7 ?_
          refine Run_nil (by kernel_rfl) ?_
          refine Zk [3, 4, 5, 6] [(3, .slice a2 x2.length c2), (4, .slice a3 x3.length c3), (5, .slice a10 l1.length c8), (6, .int .i64 i1)] ?_
          have gs2 := M.ret_some gs2
          subst gs2
          exact Run_fall [3, 4, 5, 6] (by kernel_rfl) ⟨a10, c8, rfl, H15⟩
        · have gs2 := (M.ite_some gs2).2 hb2
          refine Run_skip ?_
          have gs2 := M.ret_some gs2
          subst gs2
          exact Run_fall [3, 4, 5, 6] (by kernel_rfl) ⟨a5, c4, rfl, H9⟩
    · have gx4 := M.for_end gx4 hb1
      subst gx4
      refine Run_exit (k' := _) rfl ?_
      exact Run_fall [5] (by kernel_rfl) ⟨a5, c4, rfl, H9⟩

set_option maxRecDepth 100000 in
set_option maxHeartbeats 4000000 in
theorem w_spec_l06Lengths_R (kR : Nat) : ∀ (h : Heap) (a_ : List (List Int)) (aa_ : Option Addr) (ca_ : Nat) (ra_ : Rd cd90 h (Lt h) aa_ ca_ a_) (path : List Int) (apath : Option Addr) (cpath : Nat) (rpath : Rd cd2 h (Lt h) apath cpath path) (g : Int) (n : Nat) (r : Int) (hF : spec_l06Lengths_R kR a_ path g n = some r),
    Fn Try.prog 116 #[.slice aa_ a_.length ca_, .slice apath path.length cpath, .int .i64 g] h fun v h' => v = .int .i64 r ∧ Hold h h' [] := by
  induction kR with
  | zero => intros; rename_i hF; cases hF
  | succ kR ih =>
    intro h a_ aa_ ca_ ra_ path apath cpath rpath g n r hF
    rw [show spec_l06Lengths_R (kR + 1) a_ path g = (M.bind (M.idx path 0) (fun x1 => M.bind (M.idx path (w64 ((path.length : Int) - 1))) (fun x2 => M.bind (M.idx a_ x1) (fun x3 => M.bind (M.idx x3 x2) (fun x4 => M.bind (M.ite (x4 != (-1000000000000000)) (M.bind (spec_l01Divisor g (path.length : Int)) (fun x5 => M.ret x5)) (M.ret g)) (fun (s1 : Int) => M.bind (M.forI (w64 (x1 + 1)) (a_.length : Int) (fun s => s) (fun i1 => (fun (s2 : Int) => M.bind (M.idx a_ i1) (fun x7 => M.bind (M.idx x7 x2) (fun x8 => M.bind (M.ite (x8 != (-1000000000000000)) (M.bind (spec_l01Has path i1) (fun x10 => M.ret (!x10))) (M.ret false)) (fun x9 => M.bind (M.ite x9 (M.bind (spec_l01Own path) (fun x11 => M.bind (M.app x11 ([i1] : List Int)) (fun l1 => M.bind (spec_l06Lengths_R kR a_ l1 s2) (fun x12 => M.ret x12)))) (M.ret s2)) (fun (s3 : Int) => M.ret (.inl s3))))))) s1) (fun x6 => M.ret x6))))))) from rfl] at hF
    refine Fn_enter (args := [.slice aa_ a_.length ca_, .slice apath path.length cpath, .int .i64 g]) Try.func116 rfl (by kernel_rfl) (by kernel_rfl) (fun w0 _ => ?_)
    have H0 := Hold.init h
    refine Zs ?_
    refine Zq [.int .i64 0] [0, 1, 2] [(0, .slice aa_ a_.length ca_), (1, .slice apath path.length cpath), (2, .int .i64 g)] ?_
    refine Zs ?_
    obtain ⟨x1, hx1, hF⟩ := M.bind_some hF
    obtain ⟨hx1l, hx1u, hx1⟩ := M.idx_some hx1
    obtain ⟨x2, hx2, hF⟩ := M.bind_some hF
    obtain ⟨hx2l, hx2u, hx2⟩ := M.idx_some hx2
    refine Run_draw 11 mixed (by kernel_rfl) (by kernel_rfl) (L' := [(0, .slice aa_ a_.length ca_), (1, .slice apath path.length cpath), (2, .int .i64 g), (7, .int .i64 x1), (8, .int .i64 x2)]) ?_ ?_
    · refine Zb [.slice apath path.length cpath] 0 ?_
      refine Zy (.pointer (some (adr apath (0 * 1)))) (Zi 90 2 1 (apath) (path.length) (cpath) .i64 (0) Try.underlying90 (rpath.cell hx1).1 hx1l hx1u) ?_
      refine Zy (.int .i64 x1) (Zl 2 (adr apath (0 * 1)) (.int .i64 x1) (cd2_cell rpath hx1)) ?_
      refine Zb [.slice apath path.length cpath, .slice apath path.length cpath, .int .i64 (path.length : Int), .int .i64 (w64 ((path.length : Int) - 1))] 3 ?_
      refine Zy (.pointer (some (adr apath ((w64 ((path.length : Int) - 1)).toNat * 1)))) (Zi 90 2 1 (apath) (path.length) (cpath) .i64 (w64 ((path.length : Int) - 1)) Try.underlying90 (rpath.cell hx2).1 hx2l hx2u) ?_
      refine Zy (.int .i64 x2) (Zl 2 (adr apath ((w64 ((path.length : Int) - 1)).toNat * 1)) (.int .i64 x2) (cd2_cell rpath hx2)) ?_
      refine Zb [.int .i64 x1, .int .i64 x2] 9 ?_
      exact Zd [0, 1, 2, 7, 8]
    refine Zs ?_
    refine Zs ?_
    obtain ⟨x3, hx3, hF⟩ := M.bind_some hF
    obtain ⟨hx3l, hx3u, hx3⟩ := M.idx_some hx3
    obtain ⟨a1, c1, hc1, r1⟩ := ra_.row hx3
    obtain ⟨x4, hx4, hF⟩ := M.bind_some hF
    obtain ⟨hx4l, hx4u, hx4⟩ := M.idx_some hx4
    refine Zg 8 [(0, .slice aa_ a_.length ca_), (1, .slice apath path.length cpath), (2, .int .i64 g), (7, .int .i64 x1), (8, .int .i64 x2), (26, .bool (x4 != (-1000000000000000)))] ?_ ?_
    · refine Zb [.slice aa_ a_.length ca_, .int .i64 x1] 0 ?_
      refine Zy (.pointer (some (adr aa_ (x1.toNat * 1)))) (Zi 37 90 1 (aa_) (a_.length) (ca_) .i64 (x1) Try.underlying37 (ra_.cell hx3).1 hx3l hx3u) ?_
      refine Zy (.slice a1 x3.length c1) (Zl 90 (adr aa_ (x1.toNat * 1)) (.slice a1 x3.length c1) hc1) ?_
      refine Zb [.int .i64 x2] 4 ?_
      refine Zy (.pointer (some (adr a1 (x2.toNat * 1)))) (Zi 90 2 1 (a1) (x3.length) (c1) .i64 (x2) Try.underlying90 (r1.cell hx4).1 hx4l hx4u) ?_
      refine Zy (.int .i64 x4) (Zl 2 (adr a1 (x2.toNat * 1)) (.int .i64 x4) (cd2_cell r1 hx4)) ?_
      refine Zb [.bool (x4 != (-1000000000000000))] 7 ?_
      exact Zd [0, 1, 2, 7, 8, 26]
    obtain ⟨s1, gs1, hF⟩ := M.bind_some hF
    refine Run_join (fun L' h' => L' = [(0, .slice aa_ a_.length ca_), (1, .slice apath path.length cpath), (2, .int .i64 s1), (7, .int .i64 x1), (8, .int .i64 x2)] ∧ Hold h h' []) ?_ ?_
    · rintro _ h1 ⟨rfl, H1⟩
      refine Zs ?_
      refine Zs ?_
      refine Zq [.int .i64 x1, .int .i64 (w64 (x1 + 1)), .int .i64 (w64 (x1 + 1))] [0, 1, 2, 8, 9] [(0, .slice aa_ a_.length ca_), (1, .slice apath path.length cpath), (2, .int .i64 s1), (8, .int .i64 x2), (9, .int .i64 (w64 (x1 + 1)))] ?_
      obtain ⟨x6, gx6, hF⟩ := M.bind_some hF
      obtain ⟨hloy1, hhiy1, gx6⟩ := M.for_start gx6
      refine Run_join (fun L' h' => L' = [(2, .int .i64 x6)] ∧ Hold h h' []) ?_ ?_
      · rintro _ h3 ⟨rfl, H3⟩
        refine Zs ?_
        refine Zq [.int .i64 x6, .int .i64 x6] [6] [(6, .int .i64 x6)] ?_
        have hF := M.ret_some hF
        subst hF
        exact Run_ret1 rfl (ResV_tmp (v := .int .i64 x6) (by kernel_rfl)) ⟨rfl, H3⟩
      · refine Run_block ?_
        refine Zk [0, 1, 2, 8, 9] [(0, .slice aa_ a_.length ca_), (1, .slice apath path.length cpath), (2, .int .i64 s1), (8, .int .i64 x2), (9, .int .i64 (w64 (x1 + 1)))] ?_
        refine Run_loop (fun m L' h' => ∃ (i1 : Int) (s2 : Int), w64 (x1 + 1) ≤ i1 ∧ M.forN (a_.length : Int) _ _ n m i1 s2 = some x6 ∧ L' = [(0, .slice aa_ a_.length ca_), (1, .slice apath path.length cpath), (2, .int .i64 s2), (8, .int .i64 x2), (9, .int .i64 i1)] ∧ Hold h h' []) ((a_.length : Int) - (w64 (x1 + 1)) : Int).toNat ⟨w64 (x1 + 1), s1, Int.le_refl _, gx6, rfl, H1⟩ ?_
        rintro my1 _ h2 ⟨i1, s2, hloy1', gx6, rfl, H2⟩
        refine Zs ?_
        refine Zs ?_
        refine Zq [.int .i64 i1, .slice aa_ a_.length ca_, .int .i64 (a_.length : Int), .bool (decide (i1 < (a_.length : Int)))] [0, 1, 2, 8, 9, 36] [(0, .slice aa_ a_.length ca_), (1, .slice apath path.length cpath), (2, .int .i64 s2), (8, .int .i64 x2), (9, .int .i64 i1), (36, .bool (decide (i1 < (a_.length : Int))))] ?_
        refine Zc (decide (i1 < (a_.length : Int))) (fun hb2 => ?_) (fun hb2 => ?_)
        · obtain ⟨my1, y1, rfl, hB1, hgoy1, houty1⟩ := M.for_go gx6 hb2
          have hlty1 := of_decide_eq_true hb2
          refine Run_skip ?_
          refine Zs ?_
          refine Run_block ?_
          refine Zs ?_
          obtain ⟨x7, hx6, hB1⟩ := M.bind_some hB1
          obtain ⟨hx6l, hx6u, hx6⟩ := M.idx_some hx6
          obtain ⟨a2, c2, hc2, r2⟩ := ra_.row hx6
          obtain ⟨x8, hx7, hB1⟩ := M.bind_some hB1
          obtain ⟨hx7l, hx7u, hx7⟩ := M.idx_some hx7
          obtain ⟨x9, gx9, hB1⟩ := M.bind_some hB1
          refine Zg 14 [(0, .slice aa_ a_.length ca_), (1, .slice apath path.length cpath), (2, .int .i64 s2), (8, .int .i64 x2), (9, .int .i64 i1), (52, .bool x9)] ?_ ?_
          · refine Zb [.slice aa_ a_.length ca_, .int .i64 i1] 0 ?_
            refine Zy (.pointer (some (adr aa_ (i1.toNat * 1)))) (Zi 37 90 1 (aa_) (a_.length) (ca_) .i64 (i1) Try.underlying37 ((ra_.at H2.ext).cell hx6).1 hx6l hx6u) ?_
            refine Zy (.slice a2 x7.length c2) (Zl 90 (adr aa_ (i1.toNat * 1)) (.slice a2 x7.length c2) (cell_at H2.ext hc2)) ?_
            refine Zb [.int .i64 x2] 4 ?_
            refine Zy (.pointer (some (adr a2 (x2.toNat * 1)))) (Zi 90 2 1 (a2) (x7.length) (c2) .i64 (x2) Try.underlying90 ((r2.at H2.ext).cell hx7).1 hx7l hx7u) ?_
            refine Zy (.int .i64 x8) (Zl 2 (adr a2 (x2.toNat * 1)) (.int .i64 x8) (cd2_cell (r2.at H2.ext) hx7)) ?_
            refine Zb [.bool (x8 != (-1000000000000000))] 7 ?_
            refine QRun_seq 14 [(0, .slice aa_ a_.length ca_), (1, .slice apath path.length cpath), (2, .int .i64 s2), (8, .int .i64 x2), (9, .int .i64 i1), (52, .bool x9)] ?_ ?_
            · rcases Bool.eq_false_or_eq_true (x8 != (-1000000000000000)) with hb3 | hb3
              · refine QRun_bool (x8 != (-1000000000000000)) true (by kernel_rfl) (fun w => by kernel_rfl) hb3 ?_
                have gx9 := (M.ite_some gx9).1 hb3
                obtain ⟨x10, hx8, gx9⟩ := M.bind_some gx9
                have gx9 := M.ret_some gx9
                refine Zb [.slice apath path.length cpath, .int .i64 i1] 9 ?_
                refine Zy (.bool x10) (Y_callq (f := 69) (args := #[.slice apath path.length cpath, .int .i64 i1]) (v := .bool x10) (by kernel_rfl) (w_spec_l01Has h2 path apath cpath (rpath.at H2.ext) i1 _ _ hx8)) ?_
                refine Zb [.bool (!x10)] 12 ?_
                refine QRun_bool (!x10) x9 (by kernel_rfl) (fun w => by kernel_rfl) gx9 ?_
                exact Zd [0, 1, 2, 8, 9, 52]
              · refine QRun_bool (x8 != (-1000000000000000)) false (by kernel_rfl) (fun w => by kernel_rfl) hb3 ?_
                have gx9 := M.ret_some ((M.ite_some gx9).2 hb3)
                refine QRun_n (by kernel_rfl) ?_
                refine QRun_n (by kernel_rfl) ?_
                refine QRun_n (by kernel_rfl) ?_
                refine QRun_n (by kernel_rfl) ?_
                refine QRun_bool false x9 (by kernel_rfl) (fun w => by kernel_rfl) gx9 ?_
                exact Zd [0, 1, 2, 8, 9, 52]
            exact Zd [0, 1, 2, 8, 9, 52]
          obtain ⟨s3, gs3, hB1⟩ := M.bind_some hB1
          refine Run_join (fun L' h' => L' = [(0, .slice aa_ a_.length ca_), (1, .slice apath path.length cpath), (2, .int .i64 s3), (8, .int .i64 x2), (9, .int .i64 i1)] ∧ Hold h h' []) ?_ ?_
          · rintro _ h8 ⟨rfl, H13⟩
            refine Run_blk ?_
            refine Zg 3 [(0, .slice aa_ a_.length ca_), (1, .slice apath path.length cpath), (2, .int .i64 s3), (8, .int .i64 x2), (9, .int .i64 (i1 + 1))] ?_ ?_
            · refine Zb [.int .i64 i1] 0 ?_
              refine Zy (.int .i64 (i1 + 1)) (Y_eq (v := .int .i64 (w64 (i1 + 1))) (Y_pure (fun w => by kernel_rfl)) (by rw [w64_eq _ (by omega)])) ?_
              refine Zb [.int .i64 (i1 + 1)] 2 ?_
              exact Zd [0, 1, 2, 8, 9]
            have hB1 := M.ret_some hB1
            have gx6 := hgoy1 _ hB1.symm
            exact Run_again [0, 1, 2, 8, 9] (by kernel_rfl) my1 (Nat.lt_succ_self _) ⟨i1 + 1, s3, by omega, gx6, rfl, H13⟩
          · refine Zc (x9) (fun hb4 => ?_) (fun hb4 => ?_)
            · have gs3 := (M.ite_some gs3).1 hb4
              refine Run_ops ?_
              refine Zr [.slice aa_ a_.length ca_, .slice apath path.length cpath] 0 ?_
              obtain ⟨x11, hx9, gs3⟩ := M.bind_some gs3
              refine Run_E (by kernel_rfl) ?_
              refine E_call (f := 143) (args := #[.slice apath path.length cpath]) (w_spec_l01Own h2 path apath cpath (rpath.at H2.ext) _ _ hx9) (by kernel_rfl) (fun v1 h4 hp1 => ?_)
              obtain ⟨a3, c3, rfl, H4⟩ := hp1
              have H5 : Hold h h4 [own cd2 a3 x11.length c3 x11] := H2.call H4 rfl
              refine Zr [.int .i64 i1] 3 ?_
              refine Run_E (by kernel_rfl) ?_
              refine E_lit (C := cd2) (n := 1) (l := ([i1] : List Int)) (cs := [.int .i64 i1]) H5 (fun w => by kernel_rfl) (Enc.consE (cd2_own i1 _) (Enc.nil _ _) rfl) rfl (by decide) (fun a4 h5 H6 => ?_)
              obtain ⟨l1, hl1, gs3⟩ := M.bind_some gs3
              have hl1 := M.app_some hl1
              have H7 : Hold h h5 [own cd2 a3 x11.length c3 x11, own cd2 a4 1 1 ([i1] : List Int)] := H6.pick [1, 0] (by kernel_rfl)
              have H8 : Hold h h5 [own cd2 a4 1 1 ([i1] : List Int), own cd2 a3 x11.length c3 x11] := H7.pick [1, 0] (by kernel_rfl)
              have H9 : Hold h h5 [own cd2 a3 x11.length c3 x11, own cd2 a4 1 1 ([i1] : List Int)] := H8.pick [1, 0] (by kernel_rfl)
              refine Run_E (by kernel_rfl) ?_
              refine E_app (C := cd2) (t := 90) (ty := 90) (n := x11.length) (m := 1) H9 cd2_ti rfl Try.underlying90 (by decide) (by kernel_rfl) hl1 (fun a5 c4 h6 H10 => ?_)
              refine Zr [.int .i64 s2] 6 ?_
              obtain ⟨x12, hx10, gs3⟩ := M.bind_some gs3
              refine Run_E (by kernel_rfl) ?_
              refine E_call (f := 116) (args := #[.slice aa_ a_.length ca_, .slice a5 l1.length c4, .int .i64 s2]) (ih h6 a_ aa_ ca_ (ra_.at H10.ext) l1 a5 c4 (H10.rd 0 rfl) s2 _ _ hx10) (by kernel_rfl) (fun v2 h7 hp2 => ?_)
              obtain ⟨rfl, H11⟩ := hp2
              have H12 : Hold h h7 [own cd2 a5 l1.length c4 l1] := H10.call H11 rfl
              refine Zr [.int .i64 x12] 8 ?_
              refine Run_nil (by kernel_rfl) ?_
              refine Zk [0, 1, 2, 8, 9] [(0, .slice aa_ a_.length ca_), (1, .slice apath path.length cpath), (2, .int .i64 x12), (8, .int .i64 x2), (9, .int .i64 i1)] ?_
              have H14 : Hold h h7 [] := H12.pick [] (by kernel_rfl)
              have gs3 := M.ret_some gs3
              subst gs3
              exact Run_fall [0, 1, 2, 8, 9] (by kernel_rfl) ⟨rfl, H14⟩
            · have gs3 := (M.ite_some gs3).2 hb4
              refine Run_skip ?_
              have gs3 := M.ret_some gs3
              subst gs3
              exact Run_fall [0, 1, 2, 8, 9] (by kernel_rfl) ⟨rfl, H2⟩
        · have gx6 := M.for_end gx6 hb2
          subst gx6
          refine Run_exit (k' := _) rfl ?_
          exact Run_fall [2] (by kernel_rfl) ⟨rfl, H2⟩
    · refine Zc (x4 != (-1000000000000000)) (fun hb1 => ?_) (fun hb1 => ?_)
      · have gs1 := (M.ite_some gs1).1 hb1
        obtain ⟨x5, hx5, gs1⟩ := M.bind_some gs1
        refine Zg 5 [(0, .slice aa_ a_.length ca_), (1, .slice apath path.length cpath), (2, .int .i64 x5), (7, .int .i64 x1), (8, .int .i64 x2)] ?_ ?_
        · refine Zb [.int .i64 g, .slice apath path.length cpath, .int .i64 (path.length : Int)] 0 ?_
          refine Zy (.int .i64 x5) (Y_callq (f := 142) (args := #[.int .i64 g, .int .i64 (path.length : Int)]) (v := .int .i64 x5) (by kernel_rfl) (w_spec_l01Divisor h g (path.length : Int) _ _ hx5)) ?_
          refine Zb [.int .i64 x5] 4 ?_
          exact Zd [0, 1, 2, 7, 8]
        have gs1 := M.ret_some gs1
        subst gs1
        exact Run_fall [0, 1, 2, 7, 8] (by kernel_rfl) ⟨rfl, H0⟩
      · have gs1 := (M.ite_some gs1).2 hb1
        refine Run_skip ?_
        have gs1 := M.ret_some gs1
        subst gs1
        exact Run_fall [0, 1, 2, 7, 8] (by kernel_rfl) ⟨rfl, H0⟩

set_option maxRecDepth 100000 in
set_option maxHeartbeats 4000000 in
theorem w_spec_l06Lengths (h : Heap) (a_ : List (List Int)) (aa_ : Option Addr) (ca_ : Nat) (ra_ : Rd cd90 h (Lt h) aa_ ca_ a_) (path : List Int) (apath : Option Addr) (cpath : Nat) (rpath : Rd cd2 h (Lt h) apath cpath path) (g : Int) (n : Nat) (r : Int) (hF : spec_l06Lengths a_ path g n = some r) :
    Fn Try.prog 116 #[.slice aa_ a_.length ca_, .slice apath path.length cpath, .int .i64 g] h fun v h' => v = .int .i64 r ∧ Hold h h' [] := by
  exact w_spec_l06Lengths_R n h a_ aa_ ca_ ra_ path apath cpath rpath g n r hF

set_option maxRecDepth 100000 in
set_option maxHeartbeats 4000000 in
theorem w_spec_l06Period (h : Heap) (a_ : List (List Int)) (aa_ : Option Addr) (ca_ : Nat) (ra_ : Rd cd90 h (Lt h) aa_ ca_ a_) (component : List Int) (acomponent : Option Addr) (ccomponent : Nat) (rcomponent : Rd cd2 h (Lt h) acomponent ccomponent component) (n : Nat) (r : Int) (hF : spec_l06Period a_ component n = some r) :
    Fn Try.prog 70 #[.slice aa_ a_.length ca_, .slice acomponent component.length ccomponent] h fun v h' => v = .int .i64 r ∧ Hold h h' [] := by
  unfold spec_l06Period at hF
  refine Fn_enter (args := [.slice aa_ a_.length ca_, .slice acomponent component.length ccomponent]) Try.func70 rfl (by kernel_rfl) (by kernel_rfl) (fun w0 _ => ?_)
  have H0 := Hold.init h
  refine Zs ?_
  refine Zq [.int .i64 0] [0, 1] [(0, .slice aa_ a_.length ca_), (1, .slice acomponent component.length ccomponent)] ?_
  refine Zs ?_
  refine Run_ops ?_
  refine Zr [.slice aa_ a_.length ca_] 0 ?_
  obtain ⟨x1, hx1, hF⟩ := M.bind_some hF
  refine Run_E (by kernel_rfl) ?_
  refine E_call (f := 114) (args := #[.slice aa_ a_.length ca_]) (w_spec_l06Matrix h a_ aa_ ca_ ra_ _ _ hx1) (by kernel_rfl) (fun v1 h1 hp1 => ?_)
  obtain ⟨a1, c1, rfl, H1⟩ := hp1
  have H2 : Hold h h1 [own cd90 a1 x1.length c1 x1] := H0.call H1 rfl
  refine Zr [.slice a1 x1.length c1] 2 ?_
  refine Run_nil (by kernel_rfl) ?_
  refine Zk [1, 5] [(1, .slice acomponent component.length ccomponent), (5, .slice a1 x1.length c1)] ?_
  refine Zs ?_
  refine Zq [.int .i64 0] [1, 5, 6] [(1, .slice acomponent component.length ccomponent), (5, .slice a1 x1.length c1), (6, .int .i64 0)] ?_
  refine Zs ?_
  refine Zs ?_
  refine Zq [.int .i64 0] [1, 5, 6, 7] [(1, .slice acomponent component.length ccomponent), (5, .slice a1 x1.length c1), (6, .int .i64 0), (7, .int .i64 0)] ?_
  obtain ⟨x2, gx2, hF⟩ := M.bind_some hF
  obtain ⟨hloy1, hhiy1, gx2⟩ := M.for_start gx2
  refine Run_join (fun L' h' => L' = [(6, .int .i64 x2)] ∧ Hold h h' []) ?_ ?_
  · rintro _ h3 ⟨rfl, H4⟩
    refine Zs ?_
    refine Zq [.int .i64 x2, .int .i64 x2] [4] [(4, .int .i64 x2)] ?_
    have hF := M.ret_some hF
    subst hF
    exact Run_ret1 rfl (ResV_tmp (v := .int .i64 x2) (by kernel_rfl)) ⟨rfl, H4⟩
  · refine Run_block ?_
    refine Zk [1, 5, 6, 7] [(1, .slice acomponent component.length ccomponent), (5, .slice a1 x1.length c1), (6, .int .i64 0), (7, .int .i64 0)] ?_
    refine Run_loop (fun m L' h' => ∃ (i1 : Int) (s1 : Int), 0 ≤ i1 ∧ M.forN (component.length : Int) _ _ n m i1 s1 = some x2 ∧ L' = [(1, .slice acomponent component.length ccomponent), (5, .slice a1 x1.length c1), (6, .int .i64 s1), (7, .int .i64 i1)] ∧ Hold h h' [own cd90 a1 x1.length c1 x1]) ((component.length : Int) - 0 : Int).toNat ⟨0, 0, Int.le_refl _, gx2, rfl, H2⟩ ?_
    rintro my1 _ h2 ⟨i1, s1, hloy1', gx2, rfl, H3⟩
    refine Zs ?_
    refine Zs ?_
    refine Zq [.int .i64 i1, .slice acomponent component.length ccomponent, .int .i64 (component.length : Int), .bool (decide (i1 < (component.length : Int)))] [1, 5, 6, 7, 13] [(1, .slice acomponent component.length ccomponent), (5, .slice a1 x1.length c1), (6, .int .i64 s1), (7, .int .i64 i1), (13, .bool (decide (i1 < (component.length : Int))))] ?_
    refine Zc (decide (i1 < (component.length : Int))) (fun hb1 => ?_) (fun hb1 => ?_)
    · obtain ⟨my1, y1, rfl, hB1, hgoy1, houty1⟩ := M.for_go gx2 hb1
      have hlty1 := of_decide_eq_true hb1
      refine Run_skip ?_
      refine Zs ?_
      refine Run_block ?_
      refine Run_ops ?_
      obtain ⟨x3, hx2, hB1⟩ := M.bind_some hB1
      obtain ⟨hx2l, hx2u, hx2⟩ := M.idx_some hx2
      refine Zr [.slice a1 x1.length c1, .slice acomponent component.length ccomponent, .int .i64 i1] 0 ?_
      refine Zz (.pointer (some (adr acomponent (i1.toNat * 1)))) (Zi 90 2 1 (acomponent) (component.length) (ccomponent) .i64 (i1) Try.underlying90 ((rcomponent.at H3.ext).cell hx2).1 hx2l hx2u) ?_
      refine Zz (.int .i64 x3) (Zl 2 (adr acomponent (i1.toNat * 1)) (.int .i64 x3) (cd2_cell (rcomponent.at H3.ext) hx2)) ?_
      refine Run_E (by kernel_rfl) ?_
      refine E_lit (C := cd2) (n := 1) (l := ([x3] : List Int)) (cs := [.int .i64 x3]) H3 (fun w => by kernel_rfl) (Enc.consE (cd2_own x3 _) (Enc.nil _ _) rfl) rfl (by decide) (fun a2 h4 H5 => ?_)
      refine Zr [.int .i64 s1] 6 ?_
      obtain ⟨x4, hx3, hB1⟩ := M.bind_some hB1
      refine Run_E (by kernel_rfl) ?_
      refine E_call (f := 116) (args := #[.slice a1 x1.length c1, .slice a2 1 1, .int .i64 s1]) (Fn.arg (w_spec_l06Lengths h4 x1 a1 c1 (H5.rd 1 rfl) ([x3] : List Int) a2 1 (H5.rd 0 rfl) s1 _ _ hx3) (by simp only [(H5.len 0 rfl)])) (by kernel_rfl) (fun v2 h5 hp2 => ?_)
      obtain ⟨rfl, H6⟩ := hp2
      have H7 : Hold h h5 [own cd2 a2 1 1 ([x3] : List Int), own cd90 a1 x1.length c1 x1] := H5.call H6 rfl
      refine Zr [.int .i64 x4] 8 ?_
      refine Run_nil (by kernel_rfl) ?_
      refine Zk [1, 5, 6, 7] [(1, .slice acomponent component.length ccomponent), (5, .slice a1 x1.length c1), (6, .int .i64 x4), (7, .int .i64 i1)] ?_
      refine Run_blk ?_
      refine Zg 3 [(1, .slice acomponent component.length ccomponent), (5, .slice a1 x1.length c1), (6, .int .i64 x4), (7, .int .i64 (i1 + 1))] ?_ ?_
      · refine Zb [.int .i64 i1] 0 ?_
        refine Zy (.int .i64 (i1 + 1)) (Y_eq (v := .int .i64 (w64 (i1 + 1))) (Y_pure (fun w => by kernel_rfl)) (by rw [w64_eq _ (by omega)])) ?_
        refine Zb [.int .i64 (i1 + 1)] 2 ?_
        exact Zd [1, 5, 6, 7]
      have H8 : Hold h h5 [own cd90 a1 x1.length c1 x1] := H7.pick [1] (by kernel_rfl)
      have hB1 := M.ret_some hB1
      have gx2 := hgoy1 _ hB1.symm
      exact Run_again [1, 5, 6, 7] (by kernel_rfl) my1 (Nat.lt_succ_self _) ⟨i1 + 1, x4, by omega, gx2, rfl, H8⟩
    · have gx2 := M.for_end gx2 hb1
      subst gx2
      refine Run_exit (k' := _) rfl ?_
      have H9 : Hold h h2 [] := H3.pick [] (by kernel_rfl)
      exact Run_fall [6] (by kernel_rfl) ⟨rfl, H9⟩

set_option maxRecDepth 100000 in
set_option maxHeartbeats 4000000 in
theorem w_spec_PeriodAt (h : Heap) (a_ : List (List Int)) (aa_ : Option Addr) (ca_ : Nat) (ra_ : Rd cd90 h (Lt h) aa_ ca_ a_) (node : Int) (n : Nat) (r : Int × Int) (hF : spec_PeriodAt a_ node n = some r) :
    Fn Try.prog 24 #[.slice aa_ a_.length ca_, .int .i64 node] h fun v h' => v = .tuple #[.int .i64 r.1, .int .i64 r.2] ∧ Hold h h' [] := by
  unfold spec_PeriodAt at hF
  refine Fn_enter (args := [.slice aa_ a_.length ca_, .int .i64 node]) Try.func24 rfl (by kernel_rfl) (by kernel_rfl) (fun w0 _ => ?_)
  have H0 := Hold.init h
  refine Zs ?_
  refine Zq [.int .i64 0, .int .i64 0] [0, 1] [(0, .slice aa_ a_.length ca_), (1, .int .i64 node)] ?_
  refine Zs ?_
  obtain ⟨x1, hx1, hF⟩ := M.bind_some hF
  refine Run_regC (j := 3) (C := fun x => Hold h x []) (by kernel_rfl) H0 (L' := [(0, .slice aa_ a_.length ca_), (1, .int .i64 node), (6, .int .i64 x1)]) ?_ (fun h1 H1 => ?_)
  · refine Zb [.slice aa_ a_.length ca_] 0 ?_
    refine Zy (.int .i64 x1) (Y_call (f := 66) (args := #[.slice aa_ a_.length ca_]) (v := .int .i64 x1) (by kernel_rfl) fun hx Hx => (w_spec_l06Code hx a_ aa_ ca_ (ra_.at Hx.ext) _ _ hx1).mono fun _ _ ⟨e, H'⟩ => ⟨e, Hx.call H' rfl⟩) ?_
    refine Zb [.int .i64 x1] 2 ?_
    exact Zd [0, 1, 6]
  have H2 : Hold h h1 [] := H1
  refine Zs ?_
  refine Run_block ?_
  refine Zs ?_
  refine Zq [.int .i64 x1, .bool (x1 != 0), .bool (x1 != 0)] [0, 1, 6, 11] [(0, .slice aa_ a_.length ca_), (1, .int .i64 node), (6, .int .i64 x1), (11, .bool (x1 != 0))] ?_
  refine Zc (x1 != 0) (fun hb1 => ?_) (fun hb1 => ?_)
  · have hF := (M.ite_some hF).1 hb1
    refine Zs ?_
    refine Zq [.int .i64 x1, .int .i64 0, .int .i64 x1] [4, 5] [(4, .int .i64 0), (5, .int .i64 x1)] ?_
    have hF := M.ret_some hF
    subst hF
    exact Run_ret2 rfl (ResV_tmp (v := .int .i64 0) (by kernel_rfl)) (ResV_tmp (v := .int .i64 x1) (by kernel_rfl)) ⟨rfl, H2⟩
  · have hF := (M.ite_some hF).2 hb1
    refine Zs ?_
    obtain ⟨x2, hx2, hF⟩ := M.bind_some hF
    refine Zg 5 [(0, .slice aa_ a_.length ca_), (1, .int .i64 node), (15, .bool (!x2))] ?_ ?_
    · refine Zb [.slice aa_ a_.length ca_, .int .i64 node] 0 ?_
      refine Zy (.bool x2) (Y_callq (f := 67) (args := #[.slice aa_ a_.length ca_, .int .i64 node]) (v := .bool x2) (by kernel_rfl) (w_spec_l03Node h1 a_ aa_ ca_ (ra_.at H2.ext) node _ _ hx2)) ?_
      refine Zb [.bool (!x2), .bool (!x2)] 3 ?_
      exact Zd [0, 1, 15]
    refine Zc (!x2) (fun hb2 => ?_) (fun hb2 => ?_)
    · have hF := (M.ite_some hF).1 hb2
      refine Zs ?_
      refine Zq [.int .i64 0, .int .i64 2] [4, 5] [(4, .int .i64 0), (5, .int .i64 2)] ?_
      have hF := M.ret_some hF
      subst hF
      exact Run_ret2 rfl (ResV_tmp (v := .int .i64 0) (by kernel_rfl)) (ResV_tmp (v := .int .i64 2) (by kernel_rfl)) ⟨rfl, H2⟩
    · have hF := (M.ite_some hF).2 hb2
      refine Run_skip ?_
      refine Run_blk ?_
      refine Zs ?_
      refine Run_ops ?_
      refine Zr [.slice aa_ a_.length ca_] 0 ?_
      obtain ⟨x3, hx3, hF⟩ := M.bind_some hF
      refine Run_E (by kernel_rfl) ?_
      refine E_call (f := 68) (args := #[.slice aa_ a_.length ca_]) (w_spec_l06Components h1 a_ aa_ ca_ (ra_.at H2.ext) _ _ hx3) (by kernel_rfl) (fun v1 h2 hp1 => ?_)
      obtain ⟨a1, c1, rfl, rV1, H3⟩ := hp1
      have H4 : Hold h h2 [] := H2.call H3 rfl
      refine Zr [.slice a1 x3.length c1] 2 ?_
      refine Run_nil (by kernel_rfl) ?_
      refine Zk [0, 1, 7] [(0, .slice aa_ a_.length ca_), (1, .int .i64 node), (7, .slice a1 x3.length c1)] ?_
      refine Zs ?_
      refine Zs ?_
      have rB1 := (ra_.at H4.ext)
      have rB2 := rV1
      have HB1 : Hold h h2 [] := H4.pick [] (by kernel_rfl)
      obtain ⟨h, hEq⟩ : ∃ q : Heap, q = h2 := ⟨_, rfl⟩
      subst hEq
      have H5 := Hold.init h
      refine Zq [.int .i64 0] [0, 1, 7, 8] [(0, .slice aa_ a_.length ca_), (1, .int .i64 node), (7, .slice a1 x3.length c1), (8, .int .i64 0)] ?_
      obtain ⟨x4, gx4, hF⟩ := M.bind_some hF
      obtain ⟨hloy1, hhiy1, gx4⟩ := M.for_start gx4
      refine Run_join (fun L' h' => ∃ (s2 : Unit), x4 = .inl s2 ∧ L' = [] ∧ Hold h h' []) ?_ ?_
      · rintro _ h4 ⟨s2, es2, rfl, H7⟩
        have hF := M.cont_inl' hF es2
        refine Zs ?_
        refine Zq [.int .i64 0, .int .i64 5] [4, 5] [(4, .int .i64 0), (5, .int .i64 5)] ?_
        have hF := M.ret_some hF
        subst hF
        exact Run_ret2 rfl (ResV_tmp (v := .int .i64 0) (by kernel_rfl)) (ResV_tmp (v := .int .i64 5) (by kernel_rfl)) ⟨rfl, (HB1.trans0 H7)⟩
      · refine Run_block ?_
        refine Zk [0, 1, 7, 8] [(0, .slice aa_ a_.length ca_), (1, .int .i64 node), (7, .slice a1 x3.length c1), (8, .int .i64 0)] ?_
        refine Run_loop (fun m L' h' => ∃ (i1 : Int) (s1 : Unit), 0 ≤ i1 ∧ M.forN (x3.length : Int) _ _ n m i1 s1 = some x4 ∧ L' = [(0, .slice aa_ a_.length ca_), (1, .int .i64 node), (7, .slice a1 x3.length c1), (8, .int .i64 i1)] ∧ Hold h h' []) ((x3.length : Int) - 0 : Int).toNat ⟨0, (), Int.le_refl _, gx4, rfl, H5⟩ ?_
        rintro my1 _ h3 ⟨i1, s1, hloy1', gx4, rfl, H6⟩
        refine Zs ?_
        refine Zs ?_
        refine Zq [.int .i64 i1, .slice a1 x3.length c1, .int .i64 (x3.length : Int), .bool (decide (i1 < (x3.length : Int)))] [0, 1, 7, 8, 25] [(0, .slice aa_ a_.length ca_), (1, .int .i64 node), (7, .slice a1 x3.length c1), (8, .int .i64 i1), (25, .bool (decide (i1 < (x3.length : Int))))] ?_
        refine Zc (decide (i1 < (x3.length : Int))) (fun hb3 => ?_) (fun hb3 => ?_)
        · obtain ⟨my1, y1, rfl, hB1, hgoy1, houty1⟩ := M.for_go gx4 hb3
          have hlty1 := of_decide_eq_true hb3
          refine Run_skip ?_
          refine Zs ?_
          refine Run_block ?_
          refine Zs ?_
          obtain ⟨x5, hx4, hB1⟩ := M.bind_some hB1
          obtain ⟨hx4l, hx4u, hx4⟩ := M.idx_some hx4
          obtain ⟨a2, c2, hc1, r1⟩ := rB2.row hx4
          obtain ⟨x6, hx5, hB1⟩ := M.bind_some hB1
          refine Zg 6 [(0, .slice aa_ a_.length ca_), (1, .int .i64 node), (7, .slice a1 x3.length c1), (8, .int .i64 i1), (33, .bool x6)] ?_ ?_
          · refine Zb [.slice a1 x3.length c1, .int .i64 i1] 0 ?_
            refine Zy (.pointer (some (adr a1 (i1.toNat * 1)))) (Zi 37 90 1 (a1) (x3.length) (c1) .i64 (i1) Try.underlying37 ((rB2.at H6.ext).cell hx4).1 hx4l hx4u) ?_
            refine Zy (.slice a2 x5.length c2) (Zl 90 (adr a1 (i1.toNat * 1)) (.slice a2 x5.length c2) (cell_at H6.ext hc1)) ?_
            refine Zb [.int .i64 node] 4 ?_
            refine Zy (.bool x6) (Y_callq (f := 69) (args := #[.slice a2 x5.length c2, .int .i64 node]) (v := .bool x6) (by kernel_rfl) (w_spec_l01Has h3 x5 a2 c2 (r1.at H6.ext) node _ _ hx5)) ?_
            exact Zd [0, 1, 7, 8, 33]
          refine Zc (x6) (fun hb4 => ?_) (fun hb4 => ?_)
          · have hB1 := (M.ite_some hB1).1 hb4
            refine Zs ?_
            obtain ⟨x7, hx6, hB1⟩ := M.bind_some hB1
            obtain ⟨hx6l, hx6u, hx6⟩ := M.idx_some hx6
            obtain ⟨a3, c3, hc2, r2⟩ := rB2.row hx6
            obtain ⟨x8, hx7, hB1⟩ := M.bind_some hB1
            refine Run_regC (j := 8) (C := fun x => Hold h x []) (by kernel_rfl) H6 (L' := [(4, .int .i64 x8), (5, .int .i64 0)]) ?_ (fun h5 H8 => ?_)
            · refine Zb [.slice aa_ a_.length ca_, .slice a1 x3.length c1, .int .i64 i1] 0 ?_
              refine Zy (.pointer (some (adr a1 (i1.toNat * 1)))) (Y_cls fun hx Hx => (Zi 37 90 1 (a1) (x3.length) (c1) .i64 (i1) Try.underlying37 ((rB2.at H6.ext).cell hx6).1 hx6l hx6u)) ?_
              refine Zy (.slice a3 x7.length c3) (Y_cls fun hx Hx => (Zl 90 (adr a1 (i1.toNat * 1)) (.slice a3 x7.length c3) (cell_at Hx.ext hc2))) ?_
              refine Zy (.int .i64 x8) (Y_call (f := 70) (args := #[.slice aa_ a_.length ca_, .slice a3 x7.length c3]) (v := .int .i64 x8) (by kernel_rfl) fun hx Hx => (w_spec_l06Period hx a_ aa_ ca_ (rB1.at Hx.ext) x7 a3 c3 (r2.at Hx.ext) _ _ hx7).mono fun _ _ ⟨e, H'⟩ => ⟨e, Hx.call H' rfl⟩) ?_
              refine Zb [.int .i64 x8, .int .i64 0] 6 ?_
              exact Zd [4, 5]
            have H9 : Hold h h5 [] := H8
            have hB1 := M.ret_some hB1
            have gx4 := houty1 _ hB1.symm
            have hF := M.cont_inr' hF gx4
            have hF := M.ret_some hF
            subst hF
            exact Run_ret2 rfl (ResV_tmp (v := .int .i64 x8) (by kernel_rfl)) (ResV_tmp (v := .int .i64 0) (by kernel_rfl)) ⟨rfl, (HB1.trans0 H9)⟩
          · have hB1 := (M.ite_some hB1).2 hb4
            refine Run_skip ?_
            refine Run_blk ?_
            refine Zg 3 [(0, .slice aa_ a_.length ca_), (1, .int .i64 node), (7, .slice a1 x3.length c1), (8, .int .i64 (i1 + 1))] ?_ ?_
            · refine Zb [.int .i64 i1] 0 ?_
              refine Zy (.int .i64 (i1 + 1)) (Y_eq (v := .int .i64 (w64 (i1 + 1))) (Y_pure (fun w => by kernel_rfl)) (by rw [w64_eq _ (by omega)])) ?_
              refine Zb [.int .i64 (i1 + 1)] 2 ?_
              exact Zd [0, 1, 7, 8]
            have hB1 := M.ret_some hB1
            have gx4 := hgoy1 _ hB1.symm
            exact Run_again [0, 1, 7, 8] (by kernel_rfl) my1 (Nat.lt_succ_self _) ⟨i1 + 1, (), by omega, gx4, rfl, H6⟩
        · have gx4 := M.for_end gx4 hb3
          subst gx4
          refine Run_exit (k' := _) rfl ?_
          exact Run_fall [] (by kernel_rfl) ⟨(), rfl, rfl, H6⟩

set_option maxRecDepth 100000 in
set_option maxHeartbeats 4000000 in
theorem w_impl_within (h : Heap) (n_ : Int) (low : Int) (high : Int) (n : Nat) (r : Bool) (hF : impl_within n_ low high n = some r) :
    Fn Try.prog 48 #[.int .i64 n_, .int .i64 low, .int .i64 high] h fun v h' => v = .bool r ∧ h' = h := by
  unfold impl_within at hF
  refine Fn_enter (args := [.int .i64 n_, .int .i64 low, .int .i64 high]) Try.func48 rfl (by kernel_rfl) (by kernel_rfl) (fun w0 _ => ?_)
  refine Zs ?_
  refine Zq [.bool false] [0, 1, 2] [(0, .int .i64 n_), (1, .int .i64 low), (2, .int .i64 high)] ?_
  refine Zs ?_
  refine Zg 9 [(6, .bool ((decide (low ≤ n_)) && (decide (n_ ≤ high))))] ?_ ?_
  · refine Zb [.int .i64 n_, .int .i64 low, .bool (decide (low ≤ n_))] 0 ?_
    refine QRun_seq 8 [(14, .bool ((decide (low ≤ n_)) && (decide (n_ ≤ high))))] ?_ ?_
    · rcases Bool.eq_false_or_eq_true (decide (low ≤ n_)) with hb1 | hb1
      · refine QRun_bool (decide (low ≤ n_)) true (by kernel_rfl) (fun w => by kernel_rfl) hb1 ?_
        refine Zb [.int .i64 n_, .int .i64 high, .bool (decide (n_ ≤ high))] 4 ?_
        refine QRun_bool (decide (n_ ≤ high)) ((decide (low ≤ n_)) && (decide (n_ ≤ high))) (by kernel_rfl) (fun w => by kernel_rfl) (by rw [hb1]; rfl) ?_
        exact Zd [14]
      · refine QRun_bool (decide (low ≤ n_)) false (by kernel_rfl) (fun w => by kernel_rfl) hb1 ?_
        refine QRun_n (by kernel_rfl) ?_
        refine QRun_n (by kernel_rfl) ?_
        refine QRun_n (by kernel_rfl) ?_
        refine QRun_bool false ((decide (low ≤ n_)) && (decide (n_ ≤ high))) (by kernel_rfl) (fun w => by kernel_rfl) (by rw [hb1]; rfl) ?_
        exact Zd [14]
    refine Zb [.bool ((decide (low ≤ n_)) && (decide (n_ ≤ high)))] 8 ?_
    exact Zd [6]
  have hF := M.ret_some hF
  subst hF
  exact Run_ret1 rfl (ResV_tmp (v := .bool ((decide (low ≤ n_)) && (decide (n_ ≤ high)))) (by kernel_rfl)) ⟨rfl, rfl⟩

set_option maxRecDepth 100000 in
set_option maxHeartbeats 4000000 in
theorem w_impl_isFinite (h : Heap) (n_ : Int) (n : Nat) (r : Bool) (hF : impl_isFinite n_ n = some r) :
    Fn Try.prog 49 #[.int .i64 n_] h fun v h' => v = .bool r ∧ h' = h := by
  unfold impl_isFinite at hF
  refine Fn_enter (args := [.int .i64 n_]) Try.func49 rfl (by kernel_rfl) (by kernel_rfl) (fun w0 _ => ?_)
  refine Zs ?_
  refine Zq [.bool false] [0] [(0, .int .i64 n_)] ?_
  refine Zs ?_
  obtain ⟨x1, hx1, hF⟩ := M.bind_some hF
  refine Zg 3 [(2, .bool x1)] ?_ ?_
  · refine Zb [.int .i64 n_] 0 ?_
    refine Zy (.bool x1) (Y_callq (f := 48) (args := #[.int .i64 n_, .int .i64 (-1000000), .int .i64 1000000]) (v := .bool x1) (by kernel_rfl) (w_impl_within h n_ (-1000000) 1000000 _ _ hx1)) ?_
    refine Zb [.bool x1] 2 ?_
    exact Zd [2]
  have hF := M.ret_some hF
  subst hF
  exact Run_ret1 rfl (ResV_tmp (v := .bool x1) (by kernel_rfl)) ⟨rfl, rfl⟩

set_option maxRecDepth 100000 in
set_option maxHeartbeats 4000000 in
theorem w_impl_IsValue (h : Heap) (a_ : Int) (n : Nat) (r : Bool) (hF : impl_IsValue a_ n = some r) :
    Fn Try.prog 156 #[.int .i64 a_] h fun v h' => v = .bool r ∧ h' = h := by
  unfold impl_IsValue at hF
  refine Fn_enter (args := [.int .i64 a_]) Try.func156 rfl (by kernel_rfl) (by kernel_rfl) (fun w0 _ => ?_)
  refine Zs ?_
  refine Zq [.bool false] [0] [(0, .int .i64 a_)] ?_
  refine Zs ?_
  obtain ⟨x1, gx1, hF⟩ := M.bind_some hF
  refine Zg 7 [(2, .bool x1)] ?_ ?_
  · refine Zb [.int .i64 a_, .bool (a_ == (-1000000000000000))] 0 ?_
    refine QRun_seq 6 [(8, .bool x1)] ?_ ?_
    · rcases Bool.eq_false_or_eq_true (a_ == (-1000000000000000)) with hb1 | hb1
      · refine QRun_bool (a_ == (-1000000000000000)) true (by kernel_rfl) (fun w => by kernel_rfl) hb1 ?_
        have gx1 := M.ret_some ((M.ite_some gx1).1 hb1)
        refine QRun_n (by kernel_rfl) ?_
        refine QRun_n (by kernel_rfl) ?_
        refine QRun_bool true x1 (by kernel_rfl) (fun w => by kernel_rfl) gx1 ?_
        exact Zd [8]
      · refine QRun_bool (a_ == (-1000000000000000)) false (by kernel_rfl) (fun w => by kernel_rfl) hb1 ?_
        have gx1 := (M.ite_some gx1).2 hb1
        obtain ⟨x2, hx1, gx1⟩ := M.bind_some gx1
        have gx1 := M.ret_some gx1
        refine Zb [.int .i64 a_] 3 ?_
        refine Zy (.bool x2) (Y_callq (f := 49) (args := #[.int .i64 a_]) (v := .bool x2) (by kernel_rfl) (w_impl_isFinite h a_ _ _ hx1)) ?_
        refine QRun_bool x2 x1 (by kernel_rfl) (fun w => by kernel_rfl) gx1 ?_
        exact Zd [8]
    refine Zb [.bool x1] 6 ?_
    exact Zd [2]
  have hF := M.ret_some hF
  subst hF
  exact Run_ret1 rfl (ResV_tmp (v := .bool x1) (by kernel_rfl)) ⟨rfl, rfl⟩

set_option maxRecDepth 100000 in
set_option maxHeartbeats 4000000 in
theorem w_impl_areValues_1 (h : Heap) (n_ : Int) (n : Nat) (r : Bool) (hF : impl_areValues_1 n_ n = some r) :
    Fn Try.prog 155 #[.int .i64 n_] h fun v h' => v = .bool r ∧ h' = h := by
  unfold impl_areValues_1 at hF
  refine Fn_enter (args := [.int .i64 n_]) Try.func155 rfl (by kernel_rfl) (by kernel_rfl) (fun w0 _ => ?_)
  refine Zs ?_
  refine Zq [.bool false] [0] [(0, .int .i64 n_)] ?_
  refine Zs ?_
  obtain ⟨x1, hx1, hF⟩ := M.bind_some hF
  refine Zg 4 [(2, .bool (!x1))] ?_ ?_
  · refine Zb [.int .i64 n_] 0 ?_
    refine Zy (.bool x1) (Y_callq (f := 156) (args := #[.int .i64 n_]) (v := .bool x1) (by kernel_rfl) (w_impl_IsValue h n_ _ _ hx1)) ?_
    refine Zb [.bool (!x1), .bool (!x1)] 2 ?_
    exact Zd [2]
  have hF := M.ret_some hF
  subst hF
  exact Run_ret1 rfl (ResV_tmp (v := .bool (!x1)) (by kernel_rfl)) ⟨rfl, rfl⟩

set_option maxRecDepth 100000 in
set_option maxHeartbeats 4000000 in
theorem w_slices_IndexFunc_int_F_impl_areValues_1 (h : Heap) (s_ : List Int) {Ss_ : Bs} (as_ : Option Addr) (cs_ : Nat) (rs_ : Rd cd2 h Ss_ as_ cs_ s_) (n : Nat) (r : Int) (hF : slices_IndexFunc_int_F_impl_areValues_1 s_ n = some r) :
    Fn Try.prog 170 #[.slice as_ s_.length cs_, .func (.func 155) #[] #[]] h fun v h' => v = .int .i64 r ∧ h' = h := by
  unfold slices_IndexFunc_int_F_impl_areValues_1 at hF
  refine Fn_enter (args := [.slice as_ s_.length cs_, .func (.func 155) #[] #[]]) Try.func170 rfl (by kernel_rfl) (by kernel_rfl) (fun w0 _ => ?_)
  refine Zs ?_
  refine Zq [.int .i64 0] [0, 1] [(0, .slice as_ s_.length cs_), (1, .func (.func 155) #[] #[])] ?_
  refine Zs ?_
  refine Zs ?_
  refine Zq [.slice as_ s_.length cs_, .int .i64 (s_.length : Int), .int .i64 0] [0, 1, 7, 8] [(0, .slice as_ s_.length cs_), (1, .func (.func 155) #[] #[]), (7, .int .i64 (s_.length : Int)), (8, .int .i64 0)] ?_
  obtain ⟨x1, gx1, hF⟩ := M.bind_some hF
  obtain ⟨hloy1, hhiy1, gx1⟩ := M.for_start gx1
  refine Run_join (fun L' h' => ∃ (s2 : Unit), x1 = .inl s2 ∧ L' = [] ∧ h = h') ?_ ?_
  · rintro _ _ ⟨s2, es2, rfl, rfl⟩
    have hF := M.cont_inl' hF es2
    refine Zs ?_
    refine Zq [.int .i64 (-1)] [4] [(4, .int .i64 (-1))] ?_
    have hF := M.ret_some hF
    subst hF
    exact Run_ret1 rfl (ResV_tmp (v := .int .i64 (-1)) (by kernel_rfl)) ⟨rfl, rfl⟩
  · refine Run_block ?_
    refine Zk [0, 1, 7, 8] [(0, .slice as_ s_.length cs_), (1, .func (.func 155) #[] #[]), (7, .int .i64 (s_.length : Int)), (8, .int .i64 0)] ?_
    refine Run_loop (fun m L' h' => ∃ (i1 : Int) (s1 : Unit), 0 ≤ i1 ∧ M.forN (s_.length : Int) _ _ n m i1 s1 = some x1 ∧ L' = [(0, .slice as_ s_.length cs_), (1, .func (.func 155) #[] #[]), (7, .int .i64 (s_.length : Int)), (8, .int .i64 i1)] ∧ h = h') ((s_.length : Int) - 0 : Int).toNat ⟨0, (), Int.le_refl _, gx1, rfl, rfl⟩ ?_
    rintro my1 _ _ ⟨i1, s1, hloy1', gx1, rfl, rfl⟩
    refine Zs ?_
    refine Zq [.bool (decide (i1 < (s_.length : Int)))] [0, 1, 7, 8, 9] [(0, .slice as_ s_.length cs_), (1, .func (.func 155) #[] #[]), (7, .int .i64 (s_.length : Int)), (8, .int .i64 i1), (9, .bool (decide (i1 < (s_.length : Int))))] ?_
    refine Zs ?_
    refine Zc (decide (i1 < (s_.length : Int))) (fun hb1 => ?_) (fun hb1 => ?_)
    · obtain ⟨my1, y1, rfl, hB1, hgoy1, houty1⟩ := M.for_go gx1 hb1
      have hlty1 := of_decide_eq_true hb1
      refine Run_skip ?_
      refine Zs ?_
      refine Run_block ?_
      refine Zs ?_
      refine Zq [.int .i64 i1, .int .i64 i1] [0, 1, 5, 7, 8] [(0, .slice as_ s_.length cs_), (1, .func (.func 155) #[] #[]), (5, .int .i64 i1), (7, .int .i64 (s_.length : Int)), (8, .int .i64 i1)] ?_
      refine Zs ?_
      obtain ⟨x2, hx1, hB1⟩ := M.bind_some hB1
      obtain ⟨hx1l, hx1u, hx1⟩ := M.idx_some hx1
      obtain ⟨x3, hx2, hB1⟩ := M.bind_some hB1
      refine Zg 6 [(0, .slice as_ s_.length cs_), (1, .func (.func 155) #[] #[]), (5, .int .i64 i1), (7, .int .i64 (s_.length : Int)), (8, .int .i64 i1), (16, .bool x3)] ?_ ?_
      · refine Zb [.func (.func 155) #[] #[], .slice as_ s_.length cs_, .int .i64 i1] 0 ?_
        refine Zy (.pointer (some (adr as_ (i1.toNat * 1)))) (Zi 90 2 1 (as_) (s_.length) (cs_) .i64 (i1) Try.underlying90 (rs_.cell hx1).1 hx1l hx1u) ?_
        refine Zy (.int .i64 x2) (Zl 2 (adr as_ (i1.toNat * 1)) (.int .i64 x2) (cd2_cell rs_ hx1)) ?_
        refine Zy (.bool x3) (Y_callq (f := 155) (args := #[.int .i64 x2]) (v := .bool x3) (by kernel_rfl) (w_impl_areValues_1 h x2 _ _ hx2)) ?_
        exact Zd [0, 1, 5, 7, 8, 16]
      refine Zc (x3) (fun hb2 => ?_) (fun hb2 => ?_)
      · have hB1 := (M.ite_some hB1).1 hb2
        refine Zs ?_
        refine Zq [.int .i64 i1, .int .i64 i1] [4] [(4, .int .i64 i1)] ?_
        have hB1 := M.ret_some hB1
        have gx1 := houty1 _ hB1.symm
        have hF := M.cont_inr' hF gx1
        have hF := M.ret_some hF
        subst hF
        exact Run_ret1 rfl (ResV_tmp (v := .int .i64 i1) (by kernel_rfl)) ⟨rfl, rfl⟩
      · have hB1 := (M.ite_some hB1).2 hb2
        refine Run_skip ?_
        refine Run_blk ?_
        refine Zg 2 [(0, .slice as_ s_.length cs_), (1, .func (.func 155) #[] #[]), (7, .int .i64 (s_.length : Int)), (8, .int .i64 (i1 + 1))] ?_ ?_
        · refine Zy (.int .i64 (i1 + 1)) (Y_eq (v := .int .i64 (w64 (i1 + 1))) (Y_pure (fun w => by kernel_rfl)) (by rw [w64_eq _ (by omega)])) ?_
          refine Zb [.int .i64 (i1 + 1)] 1 ?_
          exact Zd [0, 1, 7, 8]
        have hB1 := M.ret_some hB1
        have gx1 := hgoy1 _ hB1.symm
        exact Run_again [0, 1, 7, 8] (by kernel_rfl) my1 (Nat.lt_succ_self _) ⟨i1 + 1, (), by omega, gx1, rfl, rfl⟩
    · have gx1 := M.for_end gx1 hb1
      subst gx1
      refine Run_exit (k' := _) rfl ?_
      exact Run_fall [] (by kernel_rfl) ⟨(), rfl, rfl, rfl⟩

set_option maxRecDepth 100000 in
set_option maxHeartbeats 4000000 in
theorem w_slices_ContainsFunc_int_F_impl_areValues_1 (h : Heap) (s_ : List Int) {Ss_ : Bs} (as_ : Option Addr) (cs_ : Nat) (rs_ : Rd cd2 h Ss_ as_ cs_ s_) (n : Nat) (r : Bool) (hF : slices_ContainsFunc_int_F_impl_areValues_1 s_ n = some r) :
    Fn Try.prog 154 #[.slice as_ s_.length cs_, .func (.func 155) #[] #[]] h fun v h' => v = .bool r ∧ h' = h := by
  unfold slices_ContainsFunc_int_F_impl_areValues_1 at hF
  refine Fn_enter (args := [.slice as_ s_.length cs_, .func (.func 155) #[] #[]]) Try.func154 rfl (by kernel_rfl) (by kernel_rfl) (fun w0 _ => ?_)
  refine Zs ?_
  refine Zq [.bool false] [0, 1] [(0, .slice as_ s_.length cs_), (1, .func (.func 155) #[] #[])] ?_
  refine Zs ?_
  obtain ⟨x1, hx1, hF⟩ := M.bind_some hF
  refine Zg 5 [(4, .bool (decide (0 ≤ x1)))] ?_ ?_
  · refine Zb [.slice as_ s_.length cs_, .func (.func 155) #[] #[]] 0 ?_
    refine Zy (.int .i64 x1) (Y_callq (f := 170) (args := #[.slice as_ s_.length cs_, .func (.func 155) #[] #[]]) (v := .int .i64 x1) (by kernel_rfl) (w_slices_IndexFunc_int_F_impl_areValues_1 h s_ as_ cs_ rs_ _ _ hx1)) ?_
    refine Zb [.bool (decide (0 ≤ x1)), .bool (decide (0 ≤ x1))] 3 ?_
    exact Zd [4]
  have hF := M.ret_some hF
  subst hF
  exact Run_ret1 rfl (ResV_tmp (v := .bool (decide (0 ≤ x1))) (by kernel_rfl)) ⟨rfl, rfl⟩

set_option maxRecDepth 100000 in
set_option maxHeartbeats 4000000 in
theorem w_impl_areValues (h : Heap) (list : List Int) {Slist : Bs} (alist : Option Addr) (clist : Nat) (rlist : Rd cd2 h Slist alist clist list) (n : Nat) (r : Bool) (hF : impl_areValues list n = some r) :
    Fn Try.prog 126 #[.slice alist list.length clist] h fun v h' => v = .bool r ∧ h' = h := by
  unfold impl_areValues at hF
  refine Fn_enter (args := [.slice alist list.length clist]) Try.func126 rfl (by kernel_rfl) (by kernel_rfl) (fun w0 _ => ?_)
  refine Zs ?_
  refine Zq [.bool false] [0] [(0, .slice alist list.length clist)] ?_
  refine Zs ?_
  obtain ⟨x1, hx1, hF⟩ := M.bind_some hF
  refine Zg 4 [(2, .bool (!x1))] ?_ ?_
  · refine Zb [.slice alist list.length clist] 0 ?_
    refine Zy (.bool x1) (Y_callq (f := 154) (args := #[.slice alist list.length clist, .func (.func 155) #[] #[]]) (v := .bool x1) (by kernel_rfl) (w_slices_ContainsFunc_int_F_impl_areValues_1 h list alist clist rlist _ _ hx1)) ?_
    refine Zb [.bool (!x1), .bool (!x1)] 2 ?_
    exact Zd [2]
  have hF := M.ret_some hF
  subst hF
  exact Run_ret1 rfl (ResV_tmp (v := .bool (!x1)) (by kernel_rfl)) ⟨rfl, rfl⟩

set_option maxRecDepth 100000 in
set_option maxHeartbeats 4000000 in
theorem w_impl_IsMatrix_1 (h : Heap) (row : List Int) {Srow : Bs} (arow : Option Addr) (crow : Nat) (rrow : Rd cd2 h Srow arow crow row) (z0 : List (List Int)) {Sz0 : Bs} (az0 : Option Addr) (cz0 : Nat) (rz0 : Rd cd90 h Sz0 az0 cz0 z0) (bz0 : Nat) (vz0 : VarAt h bz0 37 [.slice az0 z0.length cz0]) (n : Nat) (r : Bool) (hF : impl_IsMatrix_1 row z0 n = some r) :
    Fn Try.prog 125 #[.slice arow row.length crow, .pointer (some ⟨bz0, 0, none⟩)] h fun v h' => v = .bool r ∧ h' = h := by
  unfold impl_IsMatrix_1 at hF
  refine Fn_enter (args := [.slice arow row.length crow, .pointer (some ⟨bz0, 0, none⟩)]) Try.func125 rfl (by kernel_rfl) (by kernel_rfl) (fun w0 _ => ?_)
  refine Zs ?_
  refine Zq [.bool false] [0, 1] [(0, .slice arow row.length crow), (1, .pointer (some ⟨bz0, 0, none⟩))] ?_
  refine Zs ?_
  obtain ⟨x1, hx1, hF⟩ := M.bind_some hF
  obtain ⟨hx1l, hx1u, hx1⟩ := M.idx_some hx1
  obtain ⟨a1, c1, hc1, r1⟩ := rz0.row hx1
  obtain ⟨x2, gx2, hF⟩ := M.bind_some hF
  refine Zg 13 [(3, .bool x2)] ?_ ?_
  · refine Zb [.slice arow row.length crow, .int .i64 (row.length : Int)] 0 ?_
    refine Zy (.slice az0 z0.length cz0) (Zl 37 (⟨bz0, 0, none⟩) (.slice az0 z0.length cz0) (VarAt.cell vz0 rfl)) ?_
    refine Zy (.pointer (some (adr az0 (0 * 1)))) (Zi 37 90 1 (az0) (z0.length) (cz0) .i64 (0) Try.underlying37 (rz0.cell hx1).1 hx1l hx1u) ?_
    refine Zy (.slice a1 x1.length c1) (Zl 90 (adr az0 (0 * 1)) (.slice a1 x1.length c1) hc1) ?_
    refine Zb [.int .i64 (x1.length : Int), .bool ((row.length : Int) != (x1.length : Int))] 5 ?_
    refine QRun_seq 12 [(15, .bool x2)] ?_ ?_
    · rcases Bool.eq_false_or_eq_true ((row.length : Int) != (x1.length : Int)) with hb1 | hb1
      · refine QRun_bool ((row.length : Int) != (x1.length : Int)) true (by kernel_rfl) (fun w => by kernel_rfl) hb1 ?_
        have gx2 := M.ret_some ((M.ite_some gx2).1 hb1)
        refine QRun_n (by kernel_rfl) ?_
        refine QRun_n (by kernel_rfl) ?_
        refine QRun_n (by kernel_rfl) ?_
        refine QRun_bool true x2 (by kernel_rfl) (fun w => by kernel_rfl) gx2 ?_
        exact Zd [15]
      · refine QRun_bool ((row.length : Int) != (x1.length : Int)) false (by kernel_rfl) (fun w => by kernel_rfl) hb1 ?_
        have gx2 := (M.ite_some gx2).2 hb1
        obtain ⟨x3, hx2, gx2⟩ := M.bind_some gx2
        have gx2 := M.ret_some gx2
        refine Zb [.slice arow row.length crow] 8 ?_
        refine Zy (.bool x3) (Y_callq (f := 126) (args := #[.slice arow row.length crow]) (v := .bool x3) (by kernel_rfl) (w_impl_areValues h row arow crow rrow _ _ hx2)) ?_
        refine Zb [.bool (!x3)] 10 ?_
        refine QRun_bool (!x3) x2 (by kernel_rfl) (fun w => by kernel_rfl) gx2 ?_
        exact Zd [15]
    refine Zb [.bool x2] 12 ?_
    exact Zd [3]
  have hF := M.ret_some hF
  subst hF
  exact Run_ret1 rfl (ResV_tmp (v := .bool x2) (by kernel_rfl)) ⟨rfl, rfl⟩

set_option maxRecDepth 100000 in
set_option maxHeartbeats 4000000 in
theorem w_slices_IndexFunc_row_F_impl_IsMatrix_1 (h : Heap) (s_ : List (List Int)) {Ss_ : Bs} (as_ : Option Addr) (cs_ : Nat) (rs_ : Rd cd90 h Ss_ as_ cs_ s_) (f0 : List (List Int)) {Sf0 : Bs} (af0 : Option Addr) (cf0 : Nat) (rf0 : Rd cd90 h Sf0 af0 cf0 f0) (bf0 : Nat) (vf0 : VarAt h bf0 37 [.slice af0 f0.length cf0]) (n : Nat) (r : Int) (hF : slices_IndexFunc_row_F_impl_IsMatrix_1 s_ f0 n = some r) :
    Fn Try.prog 133 #[.slice as_ s_.length cs_, .func (.func 125) #[] #[.pointer (some ⟨bf0, 0, none⟩)]] h fun v h' => v = .int .i64 r ∧ h' = h := by
  unfold slices_IndexFunc_row_F_impl_IsMatrix_1 at hF
  refine Fn_enter (args := [.slice as_ s_.length cs_, .func (.func 125) #[] #[.pointer (some ⟨bf0, 0, none⟩)]]) Try.func133 rfl (by kernel_rfl) (by kernel_rfl) (fun w0 _ => ?_)
  refine Zs ?_
  refine Zq [.int .i64 0] [0, 1] [(0, .slice as_ s_.length cs_), (1, .func (.func 125) #[] #[.pointer (some ⟨bf0, 0, none⟩)])] ?_
  refine Zs ?_
  refine Zs ?_
  refine Zq [.slice as_ s_.length cs_, .int .i64 (s_.length : Int), .int .i64 0] [0, 1, 7, 8] [(0, .slice as_ s_.length cs_), (1, .func (.func 125) #[] #[.pointer (some ⟨bf0, 0, none⟩)]), (7, .int .i64 (s_.length : Int)), (8, .int .i64 0)] ?_
  obtain ⟨x1, gx1, hF⟩ := M.bind_some hF
  obtain ⟨hloy1, hhiy1, gx1⟩ := M.for_start gx1
  refine Run_join (fun L' h' => ∃ (s2 : Unit), x1 = .inl s2 ∧ L' = [] ∧ h = h') ?_ ?_
  · rintro _ _ ⟨s2, es2, rfl, rfl⟩
    have hF := M.cont_inl' hF es2
    refine Zs ?_
    refine Zq [.int .i64 (-1)] [4] [(4, .int .i64 (-1))] ?_
    have hF := M.ret_some hF
    subst hF
    exact Run_ret1 rfl (ResV_tmp (v := .int .i64 (-1)) (by kernel_rfl)) ⟨rfl, rfl⟩
  · refine Run_block ?_
    refine Zk [0, 1, 7, 8] [(0, .slice as_ s_.length cs_), (1, .func (.func 125) #[] #[.pointer (some ⟨bf0, 0, none⟩)]), (7, .int .i64 (s_.length : Int)), (8, .int .i64 0)] ?_
    refine Run_loop (fun m L' h' => ∃ (i1 : Int) (s1 : Unit), 0 ≤ i1 ∧ M.forN (s_.length : Int) _ _ n m i1 s1 = some x1 ∧ L' = [(0, .slice as_ s_.length cs_), (1, .func (.func 125) #[] #[.pointer (some ⟨bf0, 0, none⟩)]), (7, .int .i64 (s_.length : Int)), (8, .int .i64 i1)] ∧ h = h') ((s_.length : Int) - 0 : Int).toNat ⟨0, (), Int.le_refl _, gx1, rfl, rfl⟩ ?_
    rintro my1 _ _ ⟨i1, s1, hloy1', gx1, rfl, rfl⟩
    refine Zs ?_
    refine Zq [.bool (decide (i1 < (s_.length : Int)))] [0, 1, 7, 8, 9] [(0, .slice as_ s_.length cs_), (1, .func (.func 125) #[] #[.pointer (some ⟨bf0, 0, none⟩)]), (7, .int .i64 (s_.length : Int)), (8, .int .i64 i1), (9, .bool (decide (i1 < (s_.length : Int))))] ?_
    refine Zs ?_
    refine Zc (decide (i1 < (s_.length : Int))) (fun hb1 => ?_) (fun hb1 => ?_)
    · obtain ⟨my1, y1, rfl, hB1, hgoy1, houty1⟩ := M.for_go gx1 hb1
      have hlty1 := of_decide_eq_true hb1
      refine Run_skip ?_
      refine Zs ?_
      refine Run_block ?_
      refine Zs ?_
      refine Zq [.int .i64 i1, .int .i64 i1] [0, 1, 5, 7, 8] [(0, .slice as_ s_.length cs_), (1, .func (.func 125) #[] #[.pointer (some ⟨bf0, 0, none⟩)]), (5, .int .i64 i1), (7, .int .i64 (s_.length : Int)), (8, .int .i64 i1)] ?_
      refine Zs ?_
      obtain ⟨x2, hx1, hB1⟩ := M.bind_some hB1
      obtain ⟨hx1l, hx1u, hx1⟩ := M.idx_some hx1
      obtain ⟨a1, c1, hc1, r1⟩ := rs_.row hx1
      obtain ⟨x3, hx2, hB1⟩ := M.bind_some hB1
      refine Zg 6 [(0, .slice as_ s_.length cs_), (1, .func (.func 125) #[] #[.pointer (some ⟨bf0, 0, none⟩)]), (5, .int .i64 i1), (7, .int .i64 (s_.length : Int)), (8, .int .i64 i1), (16, .bool x3)] ?_ ?_
      · refine Zb [.func (.func 125) #[] #[.pointer (some ⟨bf0, 0, none⟩)], .slice as_ s_.length cs_, .int .i64 i1] 0 ?_
        refine Zy (.pointer (some (adr as_ (i1.toNat * 1)))) (Zi 37 90 1 (as_) (s_.length) (cs_) .i64 (i1) Try.underlying37 (rs_.cell hx1).1 hx1l hx1u) ?_
        refine Zy (.slice a1 x2.length c1) (Zl 90 (adr as_ (i1.toNat * 1)) (.slice a1 x2.length c1) hc1) ?_
        refine Zy (.bool x3) (Y_callq (f := 125) (args := #[.slice a1 x2.length c1, .pointer (some ⟨bf0, 0, none⟩)]) (v := .bool x3) (by kernel_rfl) (w_impl_IsMatrix_1 h x2 a1 c1 r1 f0 af0 cf0 rf0 bf0 vf0 _ _ hx2)) ?_
        exact Zd [0, 1, 5, 7, 8, 16]
      refine Zc (x3) (fun hb2 => ?_) (fun hb2 => ?_)
      · have hB1 := (M.ite_some hB1).1 hb2
        refine Zs ?_
        refine Zq [.int .i64 i1, .int .i64 i1] [4] [(4, .int .i64 i1)] ?_
        have hB1 := M.ret_some hB1
        have gx1 := houty1 _ hB1.symm
        have hF := M.cont_inr' hF gx1
        have hF := M.ret_some hF
        subst hF
        exact Run_ret1 rfl (ResV_tmp (v := .int .i64 i1) (by kernel_rfl)) ⟨rfl, rfl⟩
      · have hB1 := (M.ite_some hB1).2 hb2
        refine Run_skip ?_
        refine Run_blk ?_
        refine Zg 2 [(0, .slice as_ s_.length cs_), (1, .func (.func 125) #[] #[.pointer (some ⟨bf0, 0, none⟩)]), (7, .int .i64 (s_.length : Int)), (8, .int .i64 (i1 + 1))] ?_ ?_
        · refine Zy (.int .i64 (i1 + 1)) (Y_eq (v := .int .i64 (w64 (i1 + 1))) (Y_pure (fun w => by kernel_rfl)) (by rw [w64_eq _ (by omega)])) ?_
          refine Zb [.int .i64 (i1 + 1)] 1 ?_
          exact Zd [0, 1, 7, 8]
        have hB1 := M.ret_some hB1
        have gx1 := hgoy1 _ hB1.symm
        exact Run_again [0, 1, 7, 8] (by kernel_rfl) my1 (Nat.lt_succ_self _) ⟨i1 + 1, (), by omega, gx1, rfl, rfl⟩
    · have gx1 := M.for_end gx1 hb1
      subst gx1
      refine Run_exit (k' := _) rfl ?_
      exact Run_fall [] (by kernel_rfl) ⟨(), rfl, rfl, rfl⟩

set_option maxRecDepth 100000 in
set_option maxHeartbeats 4000000 in
theorem w_slices_ContainsFunc_row_F_impl_IsMatrix_1 (h : Heap) (s_ : List (List Int)) {Ss_ : Bs} (as_ : Option Addr) (cs_ : Nat) (rs_ : Rd cd90 h Ss_ as_ cs_ s_) (f0 : List (List Int)) {Sf0 : Bs} (af0 : Option Addr) (cf0 : Nat) (rf0 : Rd cd90 h Sf0 af0 cf0 f0) (bf0 : Nat) (vf0 : VarAt h bf0 37 [.slice af0 f0.length cf0]) (n : Nat) (r : Bool) (hF : slices_ContainsFunc_row_F_impl_IsMatrix_1 s_ f0 n = some r) :
    Fn Try.prog 98 #[.slice as_ s_.length cs_, .func (.func 125) #[] #[.pointer (some ⟨bf0, 0, none⟩)]] h fun v h' => v = .bool r ∧ h' = h := by
  unfold slices_ContainsFunc_row_F_impl_IsMatrix_1 at hF
  refine Fn_enter (args := [.slice as_ s_.length cs_, .func (.func 125) #[] #[.pointer (some ⟨bf0, 0, none⟩)]]) Try.func98 rfl (by kernel_rfl) (by kernel_rfl) (fun w0 _ => ?_)
  refine Zs ?_
  refine Zq [.bool false] [0, 1] [(0, .slice as_ s_.length cs_), (1, .func (.func 125) #[] #[.pointer (some ⟨bf0, 0, none⟩)])] ?_
  refine Zs ?_
  obtain ⟨x1, hx1, hF⟩ := M.bind_some hF
  refine Zg 5 [(4, .bool (decide (0 ≤ x1)))] ?_ ?_
  · refine Zb [.slice as_ s_.length cs_, .func (.func 125) #[] #[.pointer (some ⟨bf0, 0, none⟩)]] 0 ?_
    refine Zy (.int .i64 x1) (Y_callq (f := 133) (args := #[.slice as_ s_.length cs_, .func (.func 125) #[] #[.pointer (some ⟨bf0, 0, none⟩)]]) (v := .int .i64 x1) (by kernel_rfl) (w_slices_IndexFunc_row_F_impl_IsMatrix_1 h s_ as_ cs_ rs_ f0 af0 cf0 rf0 bf0 vf0 _ _ hx1)) ?_
    refine Zb [.bool (decide (0 ≤ x1)), .bool (decide (0 ≤ x1))] 3 ?_
    exact Zd [4]
  have hF := M.ret_some hF
  subst hF
  exact Run_ret1 rfl (ResV_tmp (v := .bool (decide (0 ≤ x1))) (by kernel_rfl)) ⟨rfl, rfl⟩

set_option maxRecDepth 100000 in
set_option maxHeartbeats 4000000 in
theorem w_impl_IsMatrix (h : Heap) (a_ : List (List Int)) (aa_ : Option Addr) (ca_ : Nat) (ra_ : Rd cd90 h (Lt h) aa_ ca_ a_) (n : Nat) (r : Bool) (hF : impl_IsMatrix a_ n = some r) :
    Fn Try.prog 90 #[.slice aa_ a_.length ca_] h fun v h' => v = .bool r ∧ Hold h h' [] := by
  unfold impl_IsMatrix at hF
  refine Fn_enter (args := [.slice aa_ a_.length ca_]) Try.func90 rfl (by kernel_rfl) (by kernel_rfl) (fun w0 _ => ?_)
  have H0 := Hold.init h
  refine Zs ?_
  refine Run_ops ?_
  refine Run_E (by kernel_rfl) ?_
  refine E_box (ty := 37) (cs := [.slice aa_ a_.length ca_]) H0 (fun w => by kernel_rfl) (fun b1 h1 H1 => ?_)
  refine Zr [.bool false] 1 ?_
  refine Run_nil (by kernel_rfl) ?_
  refine Zk [1] [(1, .pointer (some ⟨b1, 0, none⟩))] ?_
  refine Zs ?_
  refine Zs ?_
  obtain ⟨x1, hx1, hF⟩ := M.bind_some hF
  obtain ⟨x2, gx2, hF⟩ := M.bind_some hF
  refine Zg 12 [(1, .pointer (some ⟨b1, 0, none⟩)), (14, .bool x2)] ?_ ?_
  · refine Zy (.slice aa_ a_.length ca_) (Zl 37 (⟨b1, 0, none⟩) (.slice aa_ a_.length ca_) (H1.cell 0 rfl rfl)) ?_
    refine Zb [.int .i64 (a_.length : Int)] 1 ?_
    refine Zy (.bool x1) (Y_callq (f := 48) (args := #[.int .i64 (a_.length : Int), .int .i64 1, .int .i64 10]) (v := .bool x1) (by kernel_rfl) (w_impl_within h1 (a_.length : Int) 1 10 _ _ hx1)) ?_
    refine Zb [.bool (!x1)] 3 ?_
    refine QRun_seq 12 [(1, .pointer (some ⟨b1, 0, none⟩)), (14, .bool x2)] ?_ ?_
    · rcases Bool.eq_false_or_eq_true (!x1) with hb1 | hb1
      · refine QRun_bool (!x1) true (by kernel_rfl) (fun w => by kernel_rfl) hb1 ?_
        have gx2 := M.ret_some ((M.ite_some gx2).1 hb1)
        refine QRun_n (by kernel_rfl) ?_
        refine QRun_n (by kernel_rfl) ?_
        refine QRun_n (by kernel_rfl) ?_
        refine QRun_n (by kernel_rfl) ?_
        refine QRun_n (by kernel_rfl) ?_
        refine QRun_n (by kernel_rfl) ?_
        refine QRun_bool true x2 (by kernel_rfl) (fun w => by kernel_rfl) gx2 ?_
        exact Zd [1, 14]
      · refine QRun_bool (!x1) false (by kernel_rfl) (fun w => by kernel_rfl) hb1 ?_
        have gx2 := (M.ite_some gx2).2 hb1
        obtain ⟨x3, hx2, gx2⟩ := M.bind_some gx2
        obtain ⟨hx2l, hx2u, hx2⟩ := M.idx_some hx2
        obtain ⟨a1, c1, hc1, r1⟩ := ra_.row hx2
        obtain ⟨x4, hx3, gx2⟩ := M.bind_some gx2
        have gx2 := M.ret_some gx2
        refine Zy (.slice aa_ a_.length ca_) (Zl 37 (⟨b1, 0, none⟩) (.slice aa_ a_.length ca_) (H1.cell 0 rfl rfl)) ?_
        refine Zy (.pointer (some (adr aa_ (0 * 1)))) (Zi 37 90 1 (aa_) (a_.length) (ca_) .i64 (0) Try.underlying37 ((ra_.at H1.ext).cell hx2).1 hx2l hx2u) ?_
        refine Zy (.slice a1 x3.length c1) (Zl 90 (adr aa_ (0 * 1)) (.slice a1 x3.length c1) (cell_at H1.ext hc1)) ?_
        refine Zb [.int .i64 (x3.length : Int)] 8 ?_
        refine Zy (.bool x4) (Y_callq (f := 48) (args := #[.int .i64 (x3.length : Int), .int .i64 1, .int .i64 10]) (v := .bool x4) (by kernel_rfl) (w_impl_within h1 (x3.length : Int) 1 10 _ _ hx3)) ?_
        refine Zb [.bool (!x4)] 10 ?_
        refine QRun_bool (!x4) x2 (by kernel_rfl) (fun w => by kernel_rfl) gx2 ?_
        exact Zd [1, 14]
    exact Zd [1, 14]
  refine Zc (x2) (fun hb2 => ?_) (fun hb2 => ?_)
  · have hF := (M.ite_some hF).1 hb2
    refine Zs ?_
    refine Zq [.bool false] [2] [(2, .bool false)] ?_
    have hF := M.ret_some hF
    subst hF
    have H2 : Hold h h1 [] := H1.pick [] (by kernel_rfl)
    exact Run_ret1 rfl (ResV_tmp (v := .bool false) (by kernel_rfl)) ⟨rfl, H2⟩
  · have hF := (M.ite_some hF).2 hb2
    refine Run_skip ?_
    refine Zs ?_
    obtain ⟨x5, hx4, hF⟩ := M.bind_some hF
    refine Zg 5 [(2, .bool (!x5))] ?_ ?_
    · refine Zy (.slice aa_ a_.length ca_) (Zl 37 (⟨b1, 0, none⟩) (.slice aa_ a_.length ca_) (H1.cell 0 rfl rfl)) ?_
      refine Zb [.func (.func 125) #[] #[.pointer (some ⟨b1, 0, none⟩)]] 1 ?_
      refine Zy (.bool x5) (Y_callq (f := 98) (args := #[.slice aa_ a_.length ca_, .func (.func 125) #[] #[.pointer (some ⟨b1, 0, none⟩)]]) (v := .bool x5) (by kernel_rfl) (w_slices_ContainsFunc_row_F_impl_IsMatrix_1 h1 a_ aa_ ca_ (ra_.at H1.ext) a_ aa_ ca_ (ra_.at H1.ext) b1 (H1.var 0 rfl) _ _ hx4)) ?_
      refine Zb [.bool (!x5), .bool (!x5)] 3 ?_
      exact Zd [2]
    have hF := M.ret_some hF
    subst hF
    have H3 : Hold h h1 [] := H1.pick [] (by kernel_rfl)
    exact Run_ret1 rfl (ResV_tmp (v := .bool (!x5)) (by kernel_rfl)) ⟨rfl, H3⟩

set_option maxRecDepth 100000 in
set_option maxHeartbeats 4000000 in
theorem w_impl_isSquare (h : Heap) (a_ : List (List Int)) (aa_ : Option Addr) (ca_ : Nat) (ra_ : Rd cd90 h (Lt h) aa_ ca_ a_) (n : Nat) (r : Bool) (hF : impl_isSquare a_ n = some r) :
    Fn Try.prog 39 #[.slice aa_ a_.length ca_] h fun v h' => v = .bool r ∧ Hold h h' [] := by
  unfold impl_isSquare at hF
  refine Fn_enter (args := [.slice aa_ a_.length ca_]) Try.func39 rfl (by kernel_rfl) (by kernel_rfl) (fun w0 _ => ?_)
  have H0 := Hold.init h
  refine Zs ?_
  refine Zq [.bool false] [0] [(0, .slice aa_ a_.length ca_)] ?_
  refine Zs ?_
  obtain ⟨x1, hx1, hF⟩ := M.bind_some hF
  obtain ⟨x2, gx2, hF⟩ := M.bind_some hF
  refine Run_regC (j := 12) (C := fun x => Hold h x []) (by kernel_rfl) H0 (L' := [(2, .bool x2)]) ?_ (fun h1 H1 => ?_)
  · refine Zb [.slice aa_ a_.length ca_] 0 ?_
    refine Zy (.bool x1) (Y_call (f := 90) (args := #[.slice aa_ a_.length ca_]) (v := .bool x1) (by kernel_rfl) fun hx Hx => (w_impl_IsMatrix hx a_ aa_ ca_ (ra_.at Hx.ext) _ _ hx1).mono fun _ _ ⟨e, H'⟩ => ⟨e, Hx.call H' rfl⟩) ?_
    refine QRun_seq 11 [(13, .bool x2)] ?_ ?_
    · rcases Bool.eq_false_or_eq_true x1 with hb1 | hb1
      · refine QRun_bool x1 true (by kernel_rfl) (fun w => by kernel_rfl) hb1 ?_
        have gx2 := (M.ite_some gx2).1 hb1
        obtain ⟨x3, hx2, gx2⟩ := M.bind_some gx2
        obtain ⟨hx2l, hx2u, hx2⟩ := M.idx_some hx2
        obtain ⟨a1, c1, hc1, r1⟩ := ra_.row hx2
        have gx2 := M.ret_some gx2
        refine Zb [.slice aa_ a_.length ca_, .int .i64 (a_.length : Int), .slice aa_ a_.length ca_] 3 ?_
        refine Zy (.pointer (some (adr aa_ (0 * 1)))) (Y_cls fun hx Hx => (Zi 37 90 1 (aa_) (a_.length) (ca_) .i64 (0) Try.underlying37 (ra_.cell hx2).1 hx2l hx2u)) ?_
        refine Zy (.slice a1 x3.length c1) (Y_cls fun hx Hx => (Zl 90 (adr aa_ (0 * 1)) (.slice a1 x3.length c1) (cell_at Hx.ext hc1))) ?_
        refine Zb [.int .i64 (x3.length : Int), .bool ((a_.length : Int) == (x3.length : Int))] 8 ?_
        refine QRun_bool ((a_.length : Int) == (x3.length : Int)) x2 (by kernel_rfl) (fun w => by kernel_rfl) gx2 ?_
        exact Zd [13]
      · refine QRun_bool x1 false (by kernel_rfl) (fun w => by kernel_rfl) hb1 ?_
        have gx2 := M.ret_some ((M.ite_some gx2).2 hb1)
        refine QRun_n (by kernel_rfl) ?_
        refine QRun_n (by kernel_rfl) ?_
        refine QRun_n (by kernel_rfl) ?_
        refine QRun_n (by kernel_rfl) ?_
        refine QRun_n (by kernel_rfl) ?_
        refine QRun_n (by kernel_rfl) ?_
        refine QRun_n (by kernel_rfl) ?_
        refine QRun_bool false x2 (by kernel_rfl) (fun w => by kernel_rfl) gx2 ?_
        exact Zd [13]
    refine Zb [.bool x2] 11 ?_
    exact Zd [2]
  have H2 : Hold h h1 [] := H1
  have hF := M.ret_some hF
  subst hF
  exact Run_ret1 rfl (ResV_tmp (v := .bool x2) (by kernel_rfl)) ⟨rfl, H2⟩

set_option maxRecDepth 100000 in
set_option maxHeartbeats 4000000 in
theorem w_impl_times (h : Heap) (a_ : Int) (b : Int) (n : Nat) (r : Int) (hF : impl_times a_ b n = some r) :
    Fn Try.prog 132 #[.int .i64 a_, .int .i64 b] h fun v h' => v = .int .i64 r ∧ h' = h := by
  unfold impl_times at hF
  refine Fn_enter (args := [.int .i64 a_, .int .i64 b]) Try.func132 rfl (by kernel_rfl) (by kernel_rfl) (fun w0 _ => ?_)
  refine Zs ?_
  refine Zq [.int .i64 0] [0, 1] [(0, .int .i64 a_), (1, .int .i64 b)] ?_
  refine Zs ?_
  refine Zs ?_
  refine Zg 6 [(0, .int .i64 a_), (1, .int .i64 b), (10, .bool ((a_ == (-1000000000000000)) || (b == (-1000000000000000))))] ?_ ?_
  · refine Zb [.int .i64 a_, .bool (a_ == (-1000000000000000))] 0 ?_
    refine QRun_seq 6 [(0, .int .i64 a_), (1, .int .i64 b), (10, .bool ((a_ == (-1000000000000000)) || (b == (-1000000000000000))))] ?_ ?_
    · rcases Bool.eq_false_or_eq_true (a_ == (-1000000000000000)) with hb1 | hb1
      · refine QRun_bool (a_ == (-1000000000000000)) true (by kernel_rfl) (fun w => by kernel_rfl) hb1 ?_
        refine QRun_n (by kernel_rfl) ?_
        refine QRun_n (by kernel_rfl) ?_
        refine QRun_bool true ((a_ == (-1000000000000000)) || (b == (-1000000000000000))) (by kernel_rfl) (fun w => by kernel_rfl) (by rw [hb1]; rfl) ?_
        exact Zd [0, 1, 10]
      · refine QRun_bool (a_ == (-1000000000000000)) false (by kernel_rfl) (fun w => by kernel_rfl) hb1 ?_
        refine Zb [.int .i64 b, .bool (b == (-1000000000000000))] 3 ?_
        refine QRun_bool (b == (-1000000000000000)) ((a_ == (-1000000000000000)) || (b == (-1000000000000000))) (by kernel_rfl) (fun w => by kernel_rfl) (by rw [hb1]; rfl) ?_
        exact Zd [0, 1, 10]
    exact Zd [0, 1, 10]
  refine Zc ((a_ == (-1000000000000000)) || (b == (-1000000000000000))) (fun hb2 => ?_) (fun hb2 => ?_)
  · have hF := (M.ite_some hF).1 hb2
    refine Zs ?_
    refine Zq [.int .i64 (-1000000000000000)] [4] [(4, .int .i64 (-1000000000000000))] ?_
    have hF := M.ret_some hF
    subst hF
    exact Run_ret1 rfl (ResV_tmp (v := .int .i64 (-1000000000000000)) (by kernel_rfl)) ⟨rfl, rfl⟩
  · have hF := (M.ite_some hF).2 hb2
    refine Run_skip ?_
    refine Zs ?_
    refine Zq [.int .i64 a_, .int .i64 b, .int .i64 (w64 (a_ + b)), .int .i64 (w64 (a_ + b))] [4] [(4, .int .i64 (w64 (a_ + b)))] ?_
    have hF := M.ret_some hF
    subst hF
    exact Run_ret1 rfl (ResV_tmp (v := .int .i64 (w64 (a_ + b))) (by kernel_rfl)) ⟨rfl, rfl⟩

set_option maxRecDepth 100000 in
set_option maxHeartbeats 4000000 in
theorem w_impl_timesVector (h : Heap) (a_ : List (List Int)) (aa_ : Option Addr) (ca_ : Nat) (ra_ : Rd cd90 h (Lt h) aa_ ca_ a_) (x_ : List Int) (ax_ : Option Addr) (cx_ : Nat) (rx_ : Rd cd2 h (Lt h) ax_ cx_ x_) (n : Nat) (r : (List Int)) (hF : impl_timesVector a_ x_ n = some r) :
    Fn Try.prog 104 #[.slice aa_ a_.length ca_, .slice ax_ x_.length cx_] h fun v h' => ∃ (a0 : Option Addr) (c0 : Nat), v = .slice a0 r.length c0 ∧ Hold h h' [own cd2 a0 r.length c0 r] := by
  unfold impl_timesVector at hF
  refine Fn_enter (args := [.slice aa_ a_.length ca_, .slice ax_ x_.length cx_]) Try.func104 rfl (by kernel_rfl) (by kernel_rfl) (fun w0 _ => ?_)
  have H0 := Hold.init h
  refine Zs ?_
  refine Zq [.slice none 0 0] [0, 1] [(0, .slice aa_ a_.length ca_), (1, .slice ax_ x_.length cx_)] ?_
  refine Zs ?_
  refine Run_ops ?_
  refine Zr [.slice aa_ a_.length ca_, .int .i64 (a_.length : Int)] 0 ?_
  obtain ⟨l1, hl1, hF⟩ := M.bind_some hF
  have hl1 := M.make_some hl1
  refine Run_E (by kernel_rfl) ?_
  refine E_make cd2 0 (kl := .i64) (kc := .i64) H0 cd2_ti Try.underlying90 (by decide) cd2_zero (by kernel_rfl) hl1 (fun a1 h1 H1 => ?_)
  refine Zr [.slice a1 l1.length l1.length] 3 ?_
  refine Run_nil (by kernel_rfl) ?_
  refine Zk [0, 1, 5] [(0, .slice aa_ a_.length ca_), (1, .slice ax_ x_.length cx_), (5, .slice a1 l1.length l1.length)] ?_
  refine Zs ?_
  refine Zs ?_
  refine Zq [.slice aa_ a_.length ca_, .int .i64 (a_.length : Int), .int .i64 0] [1, 5, 13, 14, 15] [(1, .slice ax_ x_.length cx_), (5, .slice a1 l1.length l1.length), (13, .slice aa_ a_.length ca_), (14, .int .i64 (a_.length : Int)), (15, .int .i64 0)] ?_
  obtain ⟨x1, gx1, hF⟩ := M.bind_some hF
  obtain ⟨hloy1, hhiy1, gx1⟩ := M.for_start gx1
  refine Run_join (fun L' h' => L' = [(5, .slice a1 l1.length l1.length)] ∧ Hold h h' [own cd2 a1 l1.length l1.length x1]) ?_ ?_
  · rintro _ h3 ⟨rfl, H3⟩
    refine Zs ?_
    refine Zq [.slice a1 l1.length l1.length, .slice a1 l1.length l1.length] [4] [(4, .slice a1 l1.length l1.length)] ?_
    have hF := M.ret_some hF
    subst hF
    have H10 := H3.norm
    exact Run_ret1 rfl (ResV_tmp (v := .slice a1 l1.length l1.length) (by kernel_rfl)) ⟨a1, l1.length, (by simp only [(H3.len 0 rfl)]), H10⟩
  · refine Run_block ?_
    refine Zk [1, 5, 13, 14, 15] [(1, .slice ax_ x_.length cx_), (5, .slice a1 l1.length l1.length), (13, .slice aa_ a_.length ca_), (14, .int .i64 (a_.length : Int)), (15, .int .i64 0)] ?_
    refine Run_loop (fun m L' h' => ∃ (i1 : Int) (s1 : (List Int)), 0 ≤ i1 ∧ M.forN (a_.length : Int) _ _ n m i1 s1 = some x1 ∧ L' = [(1, .slice ax_ x_.length cx_), (5, .slice a1 l1.length l1.length), (13, .slice aa_ a_.length ca_), (14, .int .i64 (a_.length : Int)), (15, .int .i64 i1)] ∧ Hold h h' [own cd2 a1 l1.length l1.length s1]) ((a_.length : Int) - 0 : Int).toNat ⟨0, l1, Int.le_refl _, gx1, rfl, H1⟩ ?_
    rintro my1 _ h2 ⟨i1, s1, hloy1', gx1, rfl, H2⟩
    refine Zs ?_
    refine Zq [.bool (decide (i1 < (a_.length : Int)))] [1, 5, 13, 14, 15, 16] [(1, .slice ax_ x_.length cx_), (5, .slice a1 l1.length l1.length), (13, .slice aa_ a_.length ca_), (14, .int .i64 (a_.length : Int)), (15, .int .i64 i1), (16, .bool (decide (i1 < (a_.length : Int))))] ?_
    refine Zs ?_
    refine Zc (decide (i1 < (a_.length : Int))) (fun hb1 => ?_) (fun hb1 => ?_)
    · obtain ⟨my1, y1, rfl, hB1, hgoy1, houty1⟩ := M.for_go gx1 hb1
      have hlty1 := of_decide_eq_true hb1
      refine Run_skip ?_
      refine Zs ?_
      refine Run_block ?_
      refine Zs ?_
      obtain ⟨x2, hx1, hB1⟩ := M.bind_some hB1
      obtain ⟨hx1l, hx1u, hx1⟩ := M.idx_some hx1
      obtain ⟨a2, c1, hc1, r1⟩ := ra_.row hx1
      refine Zg 5 [(1, .slice ax_ x_.length cx_), (5, .slice a1 l1.length l1.length), (6, .int .i64 i1), (7, .slice a2 x2.length c1), (13, .slice aa_ a_.length ca_), (14, .int .i64 (a_.length : Int)), (15, .int .i64 i1)] ?_ ?_
      · refine Zb [.int .i64 i1] 0 ?_
        refine Zy (.pointer (some (adr aa_ (i1.toNat * 1)))) (Zi 37 90 1 (aa_) (a_.length) (ca_) .i64 (i1) Try.underlying37 ((ra_.at H2.ext).cell hx1).1 hx1l hx1u) ?_
        refine Zy (.slice a2 x2.length c1) (Zl 90 (adr aa_ (i1.toNat * 1)) (.slice a2 x2.length c1) (cell_at H2.ext hc1)) ?_
        refine Zb [.int .i64 i1, .slice a2 x2.length c1] 3 ?_
        exact Zd [1, 5, 6, 7, 13, 14, 15]
      refine Zs ?_
      refine Run_ops ?_
      obtain ⟨x3, hx2, hB1⟩ := M.bind_some hB1
      obtain ⟨hx2l, hx2u, hx2⟩ := M.idx_some hx2
      refine Zr [.slice a1 l1.length l1.length, .int .i64 i1] 0 ?_
      refine Zz (.pointer (some (adr a1 (i1.toNat * 1)))) (Zi 90 2 1 (a1) (l1.length) (l1.length) .i64 (i1) Try.underlying90 ((H2.rd 0 rfl).cell hx2).1 hx2l (by rw [← (H2.len 0 rfl)]; exact hx2u)) ?_
      obtain ⟨l2, hu1, hB1⟩ := M.bind_some hB1
      have hu1 := M.upd_some hu1
      refine Run_E (by kernel_rfl) ?_
      refine E_put (C := cd2) (t := 2) (sz := 1) (j := i1) (x := (-1000000000000000)) (v := .int .i64 (-1000000000000000)) H2 cd2_flat (by kernel_rfl) rfl (cd2_own _) (by kernel_rfl) hu1 (fun h4 H4 => ?_)
      refine Run_nil (by kernel_rfl) ?_
      refine Zk [1, 5, 6, 7, 13, 14, 15] [(1, .slice ax_ x_.length cx_), (5, .slice a1 l1.length l1.length), (6, .int .i64 i1), (7, .slice a2 x2.length c1), (13, .slice aa_ a_.length ca_), (14, .int .i64 (a_.length : Int)), (15, .int .i64 i1)] ?_
      refine Zs ?_
      refine Zq [.slice a2 x2.length c1, .int .i64 (x2.length : Int), .int .i64 0] [1, 5, 6, 13, 14, 15, 23, 24, 25] [(1, .slice ax_ x_.length cx_), (5, .slice a1 l1.length l1.length), (6, .int .i64 i1), (13, .slice aa_ a_.length ca_), (14, .int .i64 (a_.length : Int)), (15, .int .i64 i1), (23, .slice a2 x2.length c1), (24, .int .i64 (x2.length : Int)), (25, .int .i64 0)] ?_
      obtain ⟨x4, gx4, hB1⟩ := M.bind_some hB1
      obtain ⟨hloy2, hhiy2, gx4⟩ := M.for_start gx4
      refine Run_join (fun L' h' => L' = [(1, .slice ax_ x_.length cx_), (5, .slice a1 l1.length l1.length), (13, .slice aa_ a_.length ca_), (14, .int .i64 (a_.length : Int)), (15, .int .i64 i1)] ∧ Hold h h' [own cd2 a1 l1.length l1.length x4]) ?_ ?_
      · rintro _ h6 ⟨rfl, H6⟩
        refine Run_blk ?_
        refine Zg 2 [(1, .slice ax_ x_.length cx_), (5, .slice a1 l1.length l1.length), (13, .slice aa_ a_.length ca_), (14, .int .i64 (a_.length : Int)), (15, .int .i64 (i1 + 1))] ?_ ?_
        · refine Zy (.int .i64 (i1 + 1)) (Y_eq (v := .int .i64 (w64 (i1 + 1))) (Y_pure (fun w => by kernel_rfl)) (by rw [w64_eq _ (by omega)])) ?_
          refine Zb [.int .i64 (i1 + 1)] 1 ?_
          exact Zd [1, 5, 13, 14, 15]
        have hB1 := M.ret_some hB1
        have gx1 := hgoy1 _ hB1.symm
        exact Run_again [1, 5, 13, 14, 15] (by kernel_rfl) my1 (Nat.lt_succ_self _) ⟨i1 + 1, x4, by omega, gx1, rfl, H6⟩
      · refine Run_block ?_
        refine Zk [1, 5, 6, 13, 14, 15, 23, 24, 25] [(1, .slice ax_ x_.length cx_), (5, .slice a1 l1.length l1.length), (6, .int .i64 i1), (13, .slice aa_ a_.length ca_), (14, .int .i64 (a_.length : Int)), (15, .int .i64 i1), (23, .slice a2 x2.length c1), (24, .int .i64 (x2.length : Int)), (25, .int .i64 0)] ?_
        refine Run_loop (fun m L' h' => ∃ (i2 : Int) (s2 : (List Int)), 0 ≤ i2 ∧ M.forN (x2.length : Int) _ _ n m i2 s2 = some x4 ∧ L' = [(1, .slice ax_ x_.length cx_), (5, .slice a1 l1.length l1.length), (6, .int .i64 i1), (13, .slice aa_ a_.length ca_), (14, .int .i64 (a_.length : Int)), (15, .int .i64 i1), (23, .slice a2 x2.length c1), (24, .int .i64 (x2.length : Int)), (25, .int .i64 i2)] ∧ Hold h h' [own cd2 a1 l1.length l1.length s2]) ((x2.length : Int) - 0 : Int).toNat ⟨0, l2, Int.le_refl _, gx4, rfl, H4⟩ ?_
        rintro my2 _ h5 ⟨i2, s2, hloy2', gx4, rfl, H5⟩
        refine Zs ?_
        refine Zq [.bool (decide (i2 < (x2.length : Int)))] [1, 5, 6, 13, 14, 15, 23, 24, 25, 26] [(1, .slice ax_ x_.length cx_), (5, .slice a1 l1.length l1.length), (6, .int .i64 i1), (13, .slice aa_ a_.length ca_), (14, .int .i64 (a_.length : Int)), (15, .int .i64 i1), (23, .slice a2 x2.length c1), (24, .int .i64 (x2.length : Int)), (25, .int .i64 i2), (26, .bool (decide (i2 < (x2.length : Int))))] ?_
        refine Zs ?_
        refine Zc (decide (i2 < (x2.length : Int))) (fun hb2 => ?_) (fun hb2 => ?_)
        · obtain ⟨my2, y2, rfl, hB2, hgoy2, houty2⟩ := M.for_go gx4 hb2
          have hlty2 := of_decide_eq_true hb2
          refine Run_skip ?_
          refine Zs ?_
          refine Run_block ?_
          refine Zs ?_
          obtain ⟨x5, hx3, hB2⟩ := M.bind_some hB2
          obtain ⟨hx3l, hx3u, hx3⟩ := M.idx_some hx3
          refine Zg 5 [(1, .slice ax_ x_.length cx_), (5, .slice a1 l1.length l1.length), (6, .int .i64 i1), (8, .int .i64 i2), (9, .int .i64 x5), (13, .slice aa_ a_.length ca_), (14, .int .i64 (a_.length : Int)), (15, .int .i64 i1), (23, .slice a2 x2.length c1), (24, .int .i64 (x2.length : Int)), (25, .int .i64 i2)] ?_ ?_
          · refine Zb [.int .i64 i2] 0 ?_
            refine Zy (.pointer (some (adr a2 (i2.toNat * 1)))) (Zi 90 2 1 (a2) (x2.length) (c1) .i64 (i2) Try.underlying90 ((r1.at H5.ext).cell hx3).1 hx3l hx3u) ?_
            refine Zy (.int .i64 x5) (Zl 2 (adr a2 (i2.toNat * 1)) (.int .i64 x5) (cd2_cell (r1.at H5.ext) hx3)) ?_
            refine Zb [.int .i64 i2, .int .i64 x5] 3 ?_
            exact Zd [1, 5, 6, 8, 9, 13, 14, 15, 23, 24, 25]
          obtain ⟨x6, hx4, hB2⟩ := M.bind_some hB2
          obtain ⟨hx4l, hx4u, hx4⟩ := M.idx_some hx4
          obtain ⟨x7, hx5, hB2⟩ := M.bind_some hB2
          obtain ⟨hx5l, hx5u, hx5⟩ := M.idx_some hx5
          obtain ⟨x8, hx6, hB2⟩ := M.bind_some hB2
          obtain ⟨x9, hx7, hB2⟩ := M.bind_some hB2
          obtain ⟨hx7l, hx7u, hx7⟩ := M.idx_some hx7
          refine Run_D (fun x => Hold h x [own cd2 a1 l1.length l1.length s2]) (fun x => Hold h x [own cd2 a1 l1.length l1.length s2]) mixed (by kernel_rfl) H5 Hold.stable (fun x Hy => (show Hold h x [own cd2 a1 l1.length l1.length s2] from Hy).pick [0] (by kernel_rfl)) ?_
          refine DR_b 11 [.slice a1 l1.length l1.length, .int .i64 i1, .slice a1 l1.length l1.length, .int .i64 i1] 0 (by kernel_rfl) (by kernel_rfl) (by kernel_rfl) (fun w => by kernel_rfl) ?_
          refine DR_y 10 (i := 4) (.pointer (some (adr a1 (i1.toNat * 1)))) (by kernel_rfl) (by kernel_rfl) (by kernel_rfl) (fun hx Hx => (YE.of (Zi 90 2 1 (a1) (l1.length) (l1.length) .i64 (i1) Try.underlying90 ((H5.rd 0 rfl).cell hx4).1 hx4l (by rw [← (H5.len 0 rfl)]; exact hx4u)))) ?_
          refine DR_y 9 (i := 5) (.int .i64 x6) (by kernel_rfl) (by kernel_rfl) (by kernel_rfl) (fun hx Hx => (YE.of (Zl 2 (adr a1 (i1.toNat * 1)) (.int .i64 x6) (cd2_cell (Hx.rd 0 rfl) hx4)))) ?_
          refine DR_b 6 [.int .i64 x5, .slice ax_ x_.length cx_, .int .i64 i2] 6 (by kernel_rfl) (by kernel_rfl) (by kernel_rfl) (fun w => by kernel_rfl) ?_
          refine DR_y 5 (i := 9) (.pointer (some (adr ax_ (i2.toNat * 1)))) (by kernel_rfl) (by kernel_rfl) (by kernel_rfl) (fun hx Hx => (YE.of (Zi 90 2 1 (ax_) (x_.length) (cx_) .i64 (i2) Try.underlying90 ((rx_.at H5.ext).cell hx5).1 hx5l hx5u))) ?_
          refine DR_y 4 (i := 10) (.int .i64 x7) (by kernel_rfl) (by kernel_rfl) (by kernel_rfl) (fun hx Hx => (YE.of (Zl 2 (adr ax_ (i2.toNat * 1)) (.int .i64 x7) (cd2_cell (rx_.at Hx.ext) hx5)))) ?_
          refine DR_y 3 (i := 11) (.int .i64 x8) (by kernel_rfl) (by kernel_rfl) (by kernel_rfl) (fun hx Hx => (YE.of (Y_callq (f := 132) (args := #[.int .i64 x5, .int .i64 x7]) (v := .int .i64 x8) (by kernel_rfl) (w_impl_times hx x5 x7 _ _ hx6)))) ?_
          refine DR_b 2 [.int .i64 (mx x6 x8)] 12 (by kernel_rfl) (by kernel_rfl) (by kernel_rfl) (fun w => by kernel_rfl) ?_
          refine DR_y 1 (i := 13) (.pointer (some (adr a1 (i1.toNat * 1)))) (by kernel_rfl) (by kernel_rfl) (by kernel_rfl) (fun hx Hx => (YE.of (Zi 90 2 1 (a1) (l1.length) (l1.length) .i64 (i1) Try.underlying90 ((H5.rd 0 rfl).cell hx7).1 hx7l (by rw [← (H5.len 0 rfl)]; exact hx7u)))) ?_
          refine DR_tail (i := 14) (by kernel_rfl) (by kernel_rfl) (by kernel_rfl) (fun h7 H7 => ?_)
          have H8 : Hold h h7 [own cd2 a1 l1.length l1.length s2] := H7
          obtain ⟨l3, hu2, hB2⟩ := M.bind_some hB2
          have hu2 := M.upd_some hu2
          refine Run_E (by kernel_rfl) ?_
          refine E_put (C := cd2) (t := 2) (sz := 1) (j := i1) (x := (mx x6 x8)) (v := .int .i64 (mx x6 x8)) H8 cd2_flat (by kernel_rfl) rfl (cd2_own _) (by kernel_rfl) hu2 (fun h8 H9 => ?_)
          refine Run_nil (by kernel_rfl) ?_
          refine Zk [1, 5, 6, 13, 14, 15, 23, 24, 25] [(1, .slice ax_ x_.length cx_), (5, .slice a1 l1.length l1.length), (6, .int .i64 i1), (13, .slice aa_ a_.length ca_), (14, .int .i64 (a_.length : Int)), (15, .int .i64 i1), (23, .slice a2 x2.length c1), (24, .int .i64 (x2.length : Int)), (25, .int .i64 i2)] ?_
          refine Run_blk ?_
          refine Zg 2 [(1, .slice ax_ x_.length cx_), (5, .slice a1 l1.length l1.length), (6, .int .i64 i1), (13, .slice aa_ a_.length ca_), (14, .int .i64 (a_.length : Int)), (15, .int .i64 i1), (23, .slice a2 x2.length c1), (24, .int .i64 (x2.length : Int)), (25, .int .i64 (i2 + 1))] ?_ ?_
          · refine Zy (.int .i64 (i2 + 1)) (Y_eq (v := .int .i64 (w64 (i2 + 1))) (Y_pure (fun w => by kernel_rfl)) (by rw [w64_eq _ (by omega)])) ?_
            refine Zb [.int .i64 (i2 + 1)] 1 ?_
            exact Zd [1, 5, 6, 13, 14, 15, 23, 24, 25]
          have hB2 := M.ret_some hB2
          have gx4 := hgoy2 _ hB2.symm
          exact Run_again [1, 5, 6, 13, 14, 15, 23, 24, 25] (by kernel_rfl) my2 (Nat.lt_succ_self _) ⟨i2 + 1, l3, by omega, gx4, rfl, H9⟩
        · have gx4 := M.for_end gx4 hb2
          subst gx4
          refine Run_exit (k' := _) rfl ?_
          exact Run_fall [1, 5, 13, 14, 15] (by kernel_rfl) ⟨rfl, H5⟩
    · have gx1 := M.for_end gx1 hb1
      subst gx1
      refine Run_exit (k' := _) rfl ?_
      exact Run_fall [5] (by kernel_rfl) ⟨rfl, H2⟩

set_option maxRecDepth 100000 in
set_option maxHeartbeats 4000000 in
theorem w_impl_absOf (h : Heap) (n_ : Int) (n : Nat) (r : Int) (hF : impl_absOf n_ n = some r) :
    Fn Try.prog 111 #[.int .i64 n_] h fun v h' => v = .int .i64 r ∧ h' = h := by
  unfold impl_absOf at hF
  refine Fn_enter (args := [.int .i64 n_]) Try.func111 rfl (by kernel_rfl) (by kernel_rfl) (fun w0 _ => ?_)
  refine Zs ?_
  refine Zq [.int .i64 0] [0] [(0, .int .i64 n_)] ?_
  refine Zs ?_
  refine Zs ?_
  refine Zq [.int .i64 n_, .bool (decide (n_ < 0))] [0, 4] [(0, .int .i64 n_), (4, .bool (decide (n_ < 0)))] ?_
  refine Zc (decide (n_ < 0)) (fun hb1 => ?_) (fun hb1 => ?_)
  · have hF := (M.ite_some hF).1 hb1
    refine Zs ?_
    refine Zq [.int .i64 n_, .int .i64 (w64 (0 - n_)), .int .i64 (w64 (0 - n_))] [2] [(2, .int .i64 (w64 (0 - n_)))] ?_
    have hF := M.ret_some hF
    subst hF
    exact Run_ret1 rfl (ResV_tmp (v := .int .i64 (w64 (0 - n_))) (by kernel_rfl)) ⟨rfl, rfl⟩
  · have hF := (M.ite_some hF).2 hb1
    refine Run_skip ?_
    refine Zs ?_
    refine Zq [.int .i64 n_, .int .i64 n_] [2] [(2, .int .i64 n_)] ?_
    have hF := M.ret_some hF
    subst hF
    exact Run_ret1 rfl (ResV_tmp (v := .int .i64 n_) (by kernel_rfl)) ⟨rfl, rfl⟩

set_option maxRecDepth 100000 in
set_option maxHeartbeats 4000000 in
theorem w_impl_divisorOf (h : Heap) (a_ : Int) (b : Int) (n : Nat) (r : Int) (hF : impl_divisorOf a_ b n = some r) :
    Fn Try.prog 64 #[.int .i64 a_, .int .i64 b] h fun v h' => v = .int .i64 r ∧ h' = h := by
  unfold impl_divisorOf at hF
  refine Fn_enter (args := [.int .i64 a_, .int .i64 b]) Try.func64 rfl (by kernel_rfl) (by kernel_rfl) (fun w0 _ => ?_)
  refine Zs ?_
  refine Zq [.int .i64 0] [0, 1] [(0, .int .i64 a_), (1, .int .i64 b)] ?_
  refine Zs ?_
  obtain ⟨x1, gx1, hF⟩ := M.bind_some hF
  refine Run_join (fun L' h' => L' = [(0, .int .i64 x1.1)] ∧ h = h') ?_ ?_
  · rintro _ _ ⟨rfl, rfl⟩
    refine Zs ?_
    refine Zq [.int .i64 x1.1, .int .i64 x1.1] [4] [(4, .int .i64 x1.1)] ?_
    have hF := M.ret_some hF
    subst hF
    exact Run_ret1 rfl (ResV_tmp (v := .int .i64 x1.1) (by kernel_rfl)) ⟨rfl, rfl⟩
  · refine Run_block ?_
    refine Zk [0, 1] [(0, .int .i64 a_), (1, .int .i64 b)] ?_
    refine Run_loop (fun m L' h' => ∃ (s1 : Int × Int), M.loopN _ n m s1 = some x1 ∧ L' = [(0, .int .i64 s1.1), (1, .int .i64 s1.2)] ∧ h = h') n ⟨(a_, b), gx1, rfl, rfl⟩ ?_
    rintro my1 _ _ ⟨s1, gx1, rfl, rfl⟩
    obtain ⟨my1, y1, rfl, hB1, hgoy1, houty1⟩ := M.loop_some gx1
    refine Zs ?_
    refine Zs ?_
    refine Zq [.int .i64 s1.2, .bool (decide (0 < s1.2))] [0, 1, 6] [(0, .int .i64 s1.1), (1, .int .i64 s1.2), (6, .bool (decide (0 < s1.2)))] ?_
    refine Zc (decide (0 < s1.2)) (fun hb1 => ?_) (fun hb1 => ?_)
    · have hB1 := (M.ite_some hB1).1 hb1
      refine Run_skip ?_
      refine Run_block ?_
      obtain ⟨u1, hz1, hB1⟩ := M.bind_some hB1
      have hz1 := M.guard_some hz1
      refine Run_draw 6 mixed (by kernel_rfl) (by kernel_rfl) (L' := [(0, .int .i64 s1.2), (1, .int .i64 (s1.1.tmod s1.2))]) ?_ ?_
      · refine Zb [.int .i64 s1.2, .int .i64 s1.1, .int .i64 s1.2] 0 ?_
        refine Zy (.int .i64 (s1.1.tmod s1.2)) (Y_rem (op := .rem) (k := .i64) (x := s1.1) (y := s1.2) (by kernel_rfl) hz1) ?_
        refine Zb [.int .i64 s1.2, .int .i64 (s1.1.tmod s1.2)] 4 ?_
        exact Zd [0, 1]
      refine Run_blk ?_
      have hB1 := M.ret_some hB1
      have gx1 := hgoy1 _ hB1.symm
      exact Run_again [0, 1] (by kernel_rfl) my1 (Nat.lt_succ_self _) ⟨(s1.2, (s1.1.tmod s1.2)), gx1, rfl, rfl⟩
    · have hB1 := (M.ite_some hB1).2 hb1
      refine Run_exit (k' := _) rfl ?_
      have hB1 := M.ret_some hB1
      have gx1 := houty1 _ hB1.symm
      subst gx1
      exact Run_fall [0] (by kernel_rfl) ⟨rfl, rfl⟩

set_option maxRecDepth 100000 in
set_option maxHeartbeats 4000000 in
theorem w_impl_ratioOf (h : Heap) (num : Int) (den : Int) (n : Nat) (r : TRatio) (hF : impl_ratioOf num den n = some r) :
    Fn Try.prog 105 #[.int .i64 num, .int .i64 den] h fun v h' => v = .agg #[.int .i64 r.Num, .int .i64 r.Den] ∧ Hold h h' [] := by
  unfold impl_ratioOf at hF
  refine Fn_enter (args := [.int .i64 num, .int .i64 den]) Try.func105 rfl (by kernel_rfl) (by kernel_rfl) (fun w0 _ => ?_)
  have H0 := Hold.init h
  refine Zs ?_
  refine Run_ops ?_
  refine Run_E (by kernel_rfl) ?_
  refine E_box (ty := 47) (cs := [.int .i64 0, .int .i64 0]) H0 (fun w => by kernel_rfl) (fun b1 h1 H1 => ?_)
  refine Run_nil (by kernel_rfl) ?_
  refine Zk [0, 1, 4] [(0, .int .i64 num), (1, .int .i64 den), (4, .pointer (some ⟨b1, 0, none⟩))] ?_
  refine Zs ?_
  refine Zs ?_
  refine Zq [.int .i64 den, .bool (decide (den < 0))] [0, 1, 4, 7] [(0, .int .i64 num), (1, .int .i64 den), (4, .pointer (some ⟨b1, 0, none⟩)), (7, .bool (decide (den < 0)))] ?_
  obtain ⟨s1, gs1, hF⟩ := M.bind_some hF
  refine Run_join (fun L' h' => L' = [(0, .int .i64 s1.1), (1, .int .i64 s1.2), (4, .pointer (some ⟨b1, 0, none⟩))] ∧ Hold h h' [box b1 47 [.int .i64 0, .int .i64 0]]) ?_ ?_
  · rintro _ h2 ⟨rfl, H2⟩
    refine Zs ?_
    obtain ⟨x1, hx1, hF⟩ := M.bind_some hF
    obtain ⟨x2, hx2, hF⟩ := M.bind_some hF
    refine Zg 5 [(0, .int .i64 s1.1), (1, .int .i64 s1.2), (4, .pointer (some ⟨b1, 0, none⟩)), (5, .int .i64 x2)] ?_ ?_
    · refine Zb [.int .i64 s1.1] 0 ?_
      refine Zy (.int .i64 x1) (Y_callq (f := 111) (args := #[.int .i64 s1.1]) (v := .int .i64 x1) (by kernel_rfl) (w_impl_absOf h2 s1.1 _ _ hx1)) ?_
      refine Zb [.int .i64 s1.2] 2 ?_
      refine Zy (.int .i64 x2) (Y_callq (f := 64) (args := #[.int .i64 x1, .int .i64 s1.2]) (v := .int .i64 x2) (by kernel_rfl) (w_impl_divisorOf h2 x1 s1.2 _ _ hx2)) ?_
      refine Zb [.int .i64 x2] 4 ?_
      exact Zd [0, 1, 4, 5]
    refine Zs ?_
    obtain ⟨u1, hz1, hF⟩ := M.bind_some hF
    have hz1 := M.guard_some hz1
    obtain ⟨u2, hz2, hF⟩ := M.bind_some hF
    have hz2 := M.guard_some hz2
    refine Run_D (fun x => Hold h x [box b1 47 [.int .i64 0, .int .i64 0]]) (fun x => Hold h x [box b1 47 [.int .i64 0, .int .i64 0]]) mixed (by kernel_rfl) H2 Hold.stable (fun x Hy => (show Hold h x [box b1 47 [.int .i64 0, .int .i64 0]] from Hy).pick [0] (by kernel_rfl)) ?_
    refine DR_b 6 [.int .i64 s1.1, .int .i64 x2] 0 (by kernel_rfl) (by kernel_rfl) (by kernel_rfl) (fun w => by kernel_rfl) ?_
    refine DR_y 5 (i := 2) (.int .i64 (w64 (s1.1.tdiv x2))) (by kernel_rfl) (by kernel_rfl) (by kernel_rfl) (fun hx Hx => (YE.of (Y_quo (op := .quo) (k := .i64) (x := s1.1) (y := x2) (by kernel_rfl) hz1))) ?_
    refine DR_b 3 [.int .i64 s1.2, .int .i64 x2] 3 (by kernel_rfl) (by kernel_rfl) (by kernel_rfl) (fun w => by kernel_rfl) ?_
    refine DR_y 2 (i := 5) (.int .i64 (w64 (s1.2.tdiv x2))) (by kernel_rfl) (by kernel_rfl) (by kernel_rfl) (fun hx Hx => (YE.of (Y_quo (op := .quo) (k := .i64) (x := s1.2) (y := x2) (by kernel_rfl) hz2))) ?_
    refine DR_b 1 [.agg #[.int .i64 (w64 (s1.1.tdiv x2)), .int .i64 (w64 (s1.2.tdiv x2))]] 6 (by kernel_rfl) (by kernel_rfl) (by kernel_rfl) (fun w => by kernel_rfl) ?_
    refine DR_tail (i := 7) (by kernel_rfl) (by kernel_rfl) (by kernel_rfl) (fun h3 H3 => ?_)
    have H4 : Hold h h3 [box b1 47 [.int .i64 0, .int .i64 0]] := H3
    refine Run_E (by kernel_rfl) ?_
    refine E_bput (t := 47) (off := 0) (us := [.int .i64 (w64 (s1.1.tdiv x2)), .int .i64 (w64 (s1.2.tdiv x2))]) (v := .agg #[.int .i64 (w64 (s1.1.tdiv x2)), .int .i64 (w64 (s1.2.tdiv x2))]) H4 (by kernel_rfl) (by kernel_rfl) rfl (by kernel_rfl) rfl (fun h4 H5 => ?_)
    refine Run_nil (by kernel_rfl) ?_
    refine Zk [4] [(4, .pointer (some ⟨b1, 0, none⟩))] ?_
    have hF := M.ret_some hF
    subst hF
    have H6 : Hold h h4 [] := H5.pick [] (by kernel_rfl)
    exact Run_ret1 rfl (ResV_cell (n := 2) (cs := [.int .i64 (w64 (s1.1.tdiv x2)), .int .i64 (w64 (s1.2.tdiv x2))]) (by kernel_rfl) (fun w => by kernel_rfl) (by kernel_rfl) rfl (H5.cells (n := 2) (off := 0) 0 rfl rfl)) ⟨rfl, H6⟩
  · refine Zc (decide (den < 0)) (fun hb1 => ?_) (fun hb1 => ?_)
    · have gs1 := (M.ite_some gs1).1 hb1
      refine Zq [.int .i64 num, .int .i64 (w64 (0 - num)), .int .i64 den, .int .i64 (w64 (0 - den)), .int .i64 (w64 (0 - num)), .int .i64 (w64 (0 - den))] [0, 1, 4] [(0, .int .i64 (w64 (0 - num))), (1, .int .i64 (w64 (0 - den))), (4, .pointer (some ⟨b1, 0, none⟩))] ?_
      have gs1 := M.ret_some gs1
      subst gs1
      exact Run_fall [0, 1, 4] (by kernel_rfl) ⟨rfl, H1⟩
    · have gs1 := (M.ite_some gs1).2 hb1
      refine Run_skip ?_
      have gs1 := M.ret_some gs1
      subst gs1
      exact Run_fall [0, 1, 4] (by kernel_rfl) ⟨rfl, H1⟩

set_option maxRecDepth 100000 in
set_option maxHeartbeats 4000000 in
theorem w_cmp_isNaN_i (h : Heap) (x_ : Int) (n : Nat) (r : Bool) (hF : cmp_isNaN_i x_ n = some r) :
    Fn Try.prog 123 #[.int .i64 x_] h fun v h' => v = .bool r ∧ h' = h := by
  unfold cmp_isNaN_i at hF
  refine Fn_enter (args := [.int .i64 x_]) Try.func123 rfl (by kernel_rfl) (by kernel_rfl) (fun w0 _ => ?_)
  refine Zs ?_
  refine Zq [.bool false] [0] [(0, .int .i64 x_)] ?_
  refine Zs ?_
  refine Zq [.int .i64 x_, .int .i64 x_, .bool (x_ != x_), .bool (x_ != x_)] [2] [(2, .bool (x_ != x_))] ?_
  have hF := M.ret_some hF
  subst hF
  exact Run_ret1 rfl (ResV_tmp (v := .bool (x_ != x_)) (by kernel_rfl)) ⟨rfl, rfl⟩

set_option maxRecDepth 100000 in
set_option maxHeartbeats 4000000 in
theorem w_cmp_Compare_i (h : Heap) (x_ : Int) (y_ : Int) (n : Nat) (r : Int) (hF : cmp_Compare_i x_ y_ n = some r) :
    Fn Try.prog 85 #[.int .i64 x_, .int .i64 y_] h fun v h' => v = .int .i64 r ∧ h' = h := by
  unfold cmp_Compare_i at hF
  refine Fn_enter (args := [.int .i64 x_, .int .i64 y_]) Try.func85 rfl (by kernel_rfl) (by kernel_rfl) (fun w0 _ => ?_)
  refine Zs ?_
  refine Zq [.int .i64 0] [0, 1] [(0, .int .i64 x_), (1, .int .i64 y_)] ?_
  refine Zs ?_
  obtain ⟨x1, hx1, hF⟩ := M.bind_some hF
  refine Zg 3 [(0, .int .i64 x_), (1, .int .i64 y_), (5, .bool x1)] ?_ ?_
  · refine Zb [.int .i64 x_] 0 ?_
    refine Zy (.bool x1) (Y_callq (f := 123) (args := #[.int .i64 x_]) (v := .bool x1) (by kernel_rfl) (w_cmp_isNaN_i h x_ _ _ hx1)) ?_
    refine Zb [.bool x1] 2 ?_
    exact Zd [0, 1, 5]
  refine Zs ?_
  obtain ⟨x2, hx2, hF⟩ := M.bind_some hF
  refine Zg 3 [(0, .int .i64 x_), (1, .int .i64 y_), (5, .bool x1), (6, .bool x2)] ?_ ?_
  · refine Zb [.int .i64 y_] 0 ?_
    refine Zy (.bool x2) (Y_callq (f := 123) (args := #[.int .i64 y_]) (v := .bool x2) (by kernel_rfl) (w_cmp_isNaN_i h y_ _ _ hx2)) ?_
    refine Zb [.bool x2] 2 ?_
    exact Zd [0, 1, 5, 6]
  refine Zs ?_
  refine Zs ?_
  refine Zq [.bool x1] [0, 1, 6, 11] [(0, .int .i64 x_), (1, .int .i64 y_), (6, .bool x2), (11, .bool x1)] ?_
  refine Zc (x1) (fun hb1 => ?_) (fun hb1 => ?_)
  · have hF := (M.ite_some hF).1 hb1
    refine Zs ?_
    refine Zs ?_
    refine Zq [.bool x2] [12] [(12, .bool x2)] ?_
    refine Zc (x2) (fun hb2 => ?_) (fun hb2 => ?_)
    · have hF := (M.ite_some hF).1 hb2
      refine Zs ?_
      refine Zq [.int .i64 0] [4] [(4, .int .i64 0)] ?_
      have hF := M.ret_some hF
      subst hF
      exact Run_ret1 rfl (ResV_tmp (v := .int .i64 0) (by kernel_rfl)) ⟨rfl, rfl⟩
    · have hF := (M.ite_some hF).2 hb2
      refine Run_skip ?_
      refine Zs ?_
      refine Zq [.int .i64 (-1)] [4] [(4, .int .i64 (-1))] ?_
      have hF := M.ret_some hF
      subst hF
      exact Run_ret1 rfl (ResV_tmp (v := .int .i64 (-1)) (by kernel_rfl)) ⟨rfl, rfl⟩
  · have hF := (M.ite_some hF).2 hb1
    refine Run_skip ?_
    refine Zs ?_
    refine Zs ?_
    refine Zq [.bool x2] [0, 1, 13] [(0, .int .i64 x_), (1, .int .i64 y_), (13, .bool x2)] ?_
    refine Zc (x2) (fun hb3 => ?_) (fun hb3 => ?_)
    · have hF := (M.ite_some hF).1 hb3
      refine Zs ?_
      refine Zq [.int .i64 1] [4] [(4, .int .i64 1)] ?_
      have hF := M.ret_some hF
      subst hF
      exact Run_ret1 rfl (ResV_tmp (v := .int .i64 1) (by kernel_rfl)) ⟨rfl, rfl⟩
    · have hF := (M.ite_some hF).2 hb3
      refine Run_skip ?_
      refine Zs ?_
      refine Zs ?_
      refine Zq [.int .i64 x_, .int .i64 y_, .bool (decide (x_ < y_))] [0, 1, 16] [(0, .int .i64 x_), (1, .int .i64 y_), (16, .bool (decide (x_ < y_)))] ?_
      refine Zc (decide (x_ < y_)) (fun hb4 => ?_) (fun hb4 => ?_)
      · have hF := (M.ite_some hF).1 hb4
        refine Zs ?_
        refine Zq [.int .i64 (-1)] [4] [(4, .int .i64 (-1))] ?_
        have hF := M.ret_some hF
        subst hF
        exact Run_ret1 rfl (ResV_tmp (v := .int .i64 (-1)) (by kernel_rfl)) ⟨rfl, rfl⟩
      · have hF := (M.ite_some hF).2 hb4
        refine Run_skip ?_
        refine Zs ?_
        refine Zs ?_
        refine Zq [.int .i64 x_, .int .i64 y_, .bool (decide (y_ < x_))] [19] [(19, .bool (decide (y_ < x_)))] ?_
        refine Zc (decide (y_ < x_)) (fun hb5 => ?_) (fun hb5 => ?_)
        · have hF := (M.ite_some hF).1 hb5
          refine Zs ?_
          refine Zq [.int .i64 1] [4] [(4, .int .i64 1)] ?_
          have hF := M.ret_some hF
          subst hF
          exact Run_ret1 rfl (ResV_tmp (v := .int .i64 1) (by kernel_rfl)) ⟨rfl, rfl⟩
        · have hF := (M.ite_some hF).2 hb5
          refine Run_skip ?_
          refine Zs ?_
          refine Zq [.int .i64 0] [4] [(4, .int .i64 0)] ?_
          have hF := M.ret_some hF
          subst hF
          exact Run_ret1 rfl (ResV_tmp (v := .int .i64 0) (by kernel_rfl)) ⟨rfl, rfl⟩

set_option maxRecDepth 100000 in
set_option maxHeartbeats 4000000 in
theorem w_impl_compareRatios (h : Heap) (a_ : TRatio) (b : TRatio) (n : Nat) (r : Int) (hF : impl_compareRatios a_ b n = some r) :
    Fn Try.prog 106 #[.agg #[.int .i64 a_.Num, .int .i64 a_.Den], .agg #[.int .i64 b.Num, .int .i64 b.Den]] h fun v h' => v = .int .i64 r ∧ Hold h h' [] := by
  unfold impl_compareRatios at hF
  refine Fn_enter (args := [.agg #[.int .i64 a_.Num, .int .i64 a_.Den], .agg #[.int .i64 b.Num, .int .i64 b.Den]]) Try.func106 rfl (by kernel_rfl) (by kernel_rfl) (fun w0 _ => ?_)
  have H0 := Hold.init h
  refine Zs ?_
  refine Run_ops ?_
  refine Run_E (by kernel_rfl) ?_
  refine E_box (ty := 47) (cs := [.int .i64 a_.Num, .int .i64 a_.Den]) H0 (fun w => by kernel_rfl) (fun b1 h1 H1 => ?_)
  refine Run_E (by kernel_rfl) ?_
  refine E_box (ty := 47) (cs := [.int .i64 b.Num, .int .i64 b.Den]) H1 (fun w => by kernel_rfl) (fun b2 h2 H2 => ?_)
  refine Zr [.int .i64 0] 2 ?_
  refine Run_nil (by kernel_rfl) ?_
  refine Zk [2, 3] [(2, .pointer (some ⟨b1, 0, none⟩)), (3, .pointer (some ⟨b2, 0, none⟩))] ?_
  refine Zs ?_
  obtain ⟨x1, hx1, hF⟩ := M.bind_some hF
  refine Zg 12 [(4, .int .i64 x1)] ?_ ?_
  · refine Zb [.pointer (some ⟨b1, 0, none⟩)] 0 ?_
    refine Zy (.int .i64 a_.Num) (Zl 2 (⟨b1, 0, none⟩) (.int .i64 a_.Num) (H2.cell 1 rfl rfl)) ?_
    refine Zb [.pointer (some ⟨b2, 1, none⟩)] 2 ?_
    refine Zy (.int .i64 b.Den) (Zl 2 (⟨b2, 1, none⟩) (.int .i64 b.Den) (H2.cell 0 rfl rfl)) ?_
    refine Zb [.int .i64 (w64 (a_.Num * b.Den)), .pointer (some ⟨b2, 0, none⟩)] 4 ?_
    refine Zy (.int .i64 b.Num) (Zl 2 (⟨b2, 0, none⟩) (.int .i64 b.Num) (H2.cell 0 rfl rfl)) ?_
    refine Zb [.pointer (some ⟨b1, 1, none⟩)] 7 ?_
    refine Zy (.int .i64 a_.Den) (Zl 2 (⟨b1, 1, none⟩) (.int .i64 a_.Den) (H2.cell 1 rfl rfl)) ?_
    refine Zb [.int .i64 (w64 (b.Num * a_.Den))] 9 ?_
    refine Zy (.int .i64 x1) (Y_callq (f := 85) (args := #[.int .i64 (w64 (a_.Num * b.Den)), .int .i64 (w64 (b.Num * a_.Den))]) (v := .int .i64 x1) (by kernel_rfl) (w_cmp_Compare_i h2 (w64 (a_.Num * b.Den)) (w64 (b.Num * a_.Den)) _ _ hx1)) ?_
    refine Zb [.int .i64 x1] 11 ?_
    exact Zd [4]
  have hF := M.ret_some hF
  subst hF
  have H3 : Hold h h2 [] := H2.pick [] (by kernel_rfl)
  exact Run_ret1 rfl (ResV_tmp (v := .int .i64 x1) (by kernel_rfl)) ⟨rfl, H3⟩

end Go.Proofs.Ytelopfgolahlpaa
