/-
  Walks: each Go function, called with what reads as plain data, returns what its plain program computes.
  Conditions: None beyond the given statement.
-/
import Derived.Test.YtipdgiljgbjjkaaW1
namespace Go.Proofs.Ytipdgiljgbjjkaa
open Go
attribute [local irreducible] setL setB opA fineI idleI fineB evB okB markB markBs readyB readyBs chainB lk rho pickL dropSlot tailOK
set_option maxRecDepth 100000 in
set_option maxHeartbeats 4000000 in
theorem w_spec_l10Best (h : Heap) (a_ : List (List Int)) (aa_ : Option Addr) (ca_ : Nat) (ra_ : Rd cd39 h (Lt h) aa_ ca_ a_) (n : Nat) (r : (List Int) × (List Int)) (hF : spec_l10Best a_ n = some r) :
    Fn Try.prog 133 #[.slice aa_ a_.length ca_] h fun v h' => ∃ (a0 : Option Addr) (c0 : Nat), ∃ (a1 : Option Addr) (c1 : Nat), v = .tuple #[.slice a0 r.1.length c0, .slice a1 r.2.length c1] ∧ Hold h h' [own cd2 a0 r.1.length c0 r.1, own cd2 a1 r.2.length c1 r.2] := by
  unfold spec_l10Best at hF
  refine Fn_enter (args := [.slice aa_ a_.length ca_]) Try.func133 rfl (by kernel_rfl) (by kernel_rfl) (fun w0 _ => ?_)
  have H0 := Hold.init h
  refine Run_seq ?_
  refine Run_reg 2 (by kernel_rfl) (L' := [(0, .slice aa_ a_.length ca_)]) ?_ ?_
  · refine QRun_b [.slice none 0 0, .slice none 0 0] 0 _ (by kernel_rfl) (fun w => by kernel_rfl) ?_
    exact QRun_done [0] (by kernel_rfl) (by kernel_rfl)
  refine Run_seq ?_
  refine Run_reg 3 (by kernel_rfl) (L' := [(0, .slice aa_ a_.length ca_), (4, .int .i64 (a_.length : Int))]) ?_ ?_
  · refine QRun_b [.slice aa_ a_.length ca_, .int .i64 (a_.length : Int), .int .i64 (a_.length : Int)] 0 _ (by kernel_rfl) (fun w => by kernel_rfl) ?_
    exact QRun_done [0, 4] (by kernel_rfl) (by kernel_rfl)
  refine Run_seq ?_
  refine Run_ops ?_
  refine Run_E (by kernel_rfl) ?_
  refine E_lit (C := cd2) (n := 1) (l := ([0] : List Int)) (cs := [.int .i64 0]) H0 (fun w => by kernel_rfl) (Enc.consE (cd2_own 0 _) (Enc.nil _ _) rfl) rfl (by decide) (fun a1 h1 H1 => ?_)
  refine Run_E (by kernel_rfl) ?_
  refine E_lit (C := cd2) (n := 1) (l := ([1] : List Int)) (cs := [.int .i64 1]) H1 (fun w => by kernel_rfl) (Enc.consE (cd2_own 1 _) (Enc.nil _ _) rfl) rfl (by decide) (fun a2 h2 H2 => ?_)
  refine Run_b [.slice a1 1 1, .slice a2 1 1] 2 _ (by kernel_rfl) (fun w => by kernel_rfl) ?_
  refine Run_nil (by kernel_rfl) ?_
  refine Run_keep [0, 4, 5, 6] (L' := [(0, .slice aa_ a_.length ca_), (4, .int .i64 (a_.length : Int)), (5, .slice a1 1 1), (6, .slice a2 1 1)]) (by kernel_rfl) ?_
  refine Run_seq ?_
  refine Run_seq ?_
  refine Run_reg 1 (by kernel_rfl) (L' := [(0, .slice aa_ a_.length ca_), (4, .int .i64 (a_.length : Int)), (5, .slice a1 1 1), (6, .slice a2 1 1), (7, .int .i64 1)]) ?_ ?_
  · refine QRun_b [.int .i64 1] 0 _ (by kernel_rfl) (fun w => by kernel_rfl) ?_
    exact QRun_done [0, 4, 5, 6, 7] (by kernel_rfl) (by kernel_rfl)
  obtain ⟨x1, gx1, hF⟩ := M.bind_some hF
  refine Run_join (fun L' h' => ∃ (a5 : Option Addr) (c3 : Nat) (a6 : Option Addr) (c4 : Nat), L' = [(5, .slice a5 x1.1.length c3), (6, .slice a6 x1.2.1.length c4)] ∧ Hold h h' [own cd2 a5 x1.1.length c3 x1.1, own cd2 a6 x1.2.1.length c4 x1.2.1]) ?_ ?_
  · rintro _ h4 ⟨a5, c3, a6, c4, rfl, H4⟩
    refine Run_seq ?_
    refine Run_reg 4 (by kernel_rfl) (L' := [(2, .slice a5 x1.1.length c3), (3, .slice a6 x1.2.1.length c4)]) ?_ ?_
    · refine QRun_b [.slice a5 x1.1.length c3, .slice a6 x1.2.1.length c4, .slice a5 x1.1.length c3, .slice a6 x1.2.1.length c4] 0 _ (by kernel_rfl) (fun w => by kernel_rfl) ?_
      exact QRun_done [2, 3] (by kernel_rfl) (by kernel_rfl)
    have hF := M.ret_some hF
    subst hF
    have H26 : Hold h h4 [own cd2 a6 x1.2.1.length c4 x1.2.1, own cd2 a5 x1.1.length c3 x1.1] := H4.pick [1, 0] (by kernel_rfl)
    have H27 : Hold h h4 [own cd2 a5 x1.1.length c3 x1.1, own cd2 a6 x1.2.1.length c4 x1.2.1] := H26.pick [1, 0] (by kernel_rfl)
    exact Run_ret2 rfl (ResV_tmp (v := .slice a5 x1.1.length c3) (by kernel_rfl)) (ResV_tmp (v := .slice a6 x1.2.1.length c4) (by kernel_rfl)) ⟨a5, c3, a6, c4, rfl, H27⟩
  · refine Run_block ?_
    have H28 : Hold h h2 [own cd2 a1 1 1 ([0] : List Int), own cd2 a2 1 1 ([1] : List Int)] := H2.pick [1, 0] (by kernel_rfl)
    have hn1 := (H28.len 0 rfl)
    have H29 : Hold h h2 [own cd2 a2 1 1 ([1] : List Int), own cd2 a1 (([0] : List Int).length) 1 ([0] : List Int)] := H28.pick [1, 0] (by kernel_rfl)
    have hn2 := (H29.len 0 rfl)
    have H30 : Hold h h2 [own cd2 a2 (([1] : List Int).length) 1 ([1] : List Int), own cd2 a1 (([0] : List Int).length) 1 ([0] : List Int)] := by rw [hn1, hn2]; exact H29
    have H31 : Hold h h2 [own cd2 a1 (([0] : List Int).length) 1 ([0] : List Int), own cd2 a2 (([1] : List Int).length) 1 ([1] : List Int)] := H30.pick [1, 0] (by kernel_rfl)
    refine Run_keep [0, 4, 5, 6, 7] (L' := [(0, .slice aa_ a_.length ca_), (4, .int .i64 (a_.length : Int)), (5, .slice a1 (([0] : List Int).length) 1), (6, .slice a2 (([1] : List Int).length) 1), (7, .int .i64 1)]) (by first | (rw [hn1, hn2]; kernel_rfl) | (simp only [hn1, hn2]; kernel_rfl) | kernel_rfl) ?_
    refine Run_loop (fun m L' h' => ∃ (s1 : (List Int) × (List Int) × Int) (a3 : Option Addr) (c1 : Nat) (a4 : Option Addr) (c2 : Nat), M.loopN _ n m s1 = some x1 ∧ L' = [(0, .slice aa_ a_.length ca_), (4, .int .i64 (a_.length : Int)), (5, .slice a3 s1.1.length c1), (6, .slice a4 s1.2.1.length c2), (7, .int .i64 s1.2.2)] ∧ Hold h h' [own cd2 a3 s1.1.length c1 s1.1, own cd2 a4 s1.2.1.length c2 s1.2.1]) n ⟨(([0] : List Int), ([1] : List Int), 1), a1, 1, a2, 1, gx1, rfl, H31⟩ ?_
    rintro my1 _ h3 ⟨s1, a3, c1, a4, c2, gx1, rfl, H3⟩
    obtain ⟨my1, y1, rfl, hB1, hgoy1, houty1⟩ := M.loop_some gx1
    refine Run_seq ?_
    refine Run_seq ?_
    obtain ⟨u1, hz1, hB1⟩ := M.bind_some hB1
    have hz1 := M.guard_some hz1
    refine Run_reg 5 (by kernel_rfl) (L' := [(0, .slice aa_ a_.length ca_), (4, .int .i64 (a_.length : Int)), (5, .slice a3 s1.1.length c1), (6, .slice a4 s1.2.1.length c2), (7, .int .i64 s1.2.2), (24, .bool (decide (s1.2.2 < (ishl .i64 1 (IntKind.u64.wrap ((a_.length : Int)))))))]) ?_ ?_
    · refine QRun_b [.int .i64 s1.2.2, .int .i64 (a_.length : Int), .int .u64 (IntKind.u64.wrap ((a_.length : Int)))] 0 _ (by kernel_rfl) (fun w => by kernel_rfl) ?_
      refine QRun_y (.int .i64 (ishl .i64 1 (IntKind.u64.wrap ((a_.length : Int))))) (by kernel_rfl) (Y_shl (k := .i64) (x := 1) (kk := .u64) (y := IntKind.u64.wrap ((a_.length : Int))) (by kernel_rfl) hz1) ?_
      refine QRun_b [.bool (decide (s1.2.2 < (ishl .i64 1 (IntKind.u64.wrap ((a_.length : Int))))))] 4 _ (by kernel_rfl) (fun w => by kernel_rfl) ?_
      exact QRun_done [0, 4, 5, 6, 7, 24] (by kernel_rfl) (by kernel_rfl)
    refine Run_cond (b := decide (s1.2.2 < (ishl .i64 1 (IntKind.u64.wrap ((a_.length : Int)))))) (by kernel_rfl) (fun hb1 => ?_) (fun hb1 => ?_)
    · have hB1 := (M.ite_some hB1).1 hb1
      refine Run_skip ?_
      refine Run_seq ?_
      refine Run_block ?_
      refine Run_seq ?_
      refine Run_reg 1 (by kernel_rfl) (L' := [(0, .slice aa_ a_.length ca_), (4, .int .i64 (a_.length : Int)), (5, .slice a3 s1.1.length c1), (6, .slice a4 s1.2.1.length c2), (7, .int .i64 s1.2.2), (8, .int .i64 0)]) ?_ ?_
      · refine QRun_b [.int .i64 0] 0 _ (by kernel_rfl) (fun w => by kernel_rfl) ?_
        exact QRun_done [0, 4, 5, 6, 7, 8] (by kernel_rfl) (by kernel_rfl)
      refine Run_seq ?_
      refine Run_seq ?_
      refine Run_reg 1 (by kernel_rfl) (L' := [(0, .slice aa_ a_.length ca_), (4, .int .i64 (a_.length : Int)), (5, .slice a3 s1.1.length c1), (6, .slice a4 s1.2.1.length c2), (7, .int .i64 s1.2.2), (8, .int .i64 0), (9, .int .i64 0)]) ?_ ?_
      · refine QRun_b [.int .i64 0] 0 _ (by kernel_rfl) (fun w => by kernel_rfl) ?_
        exact QRun_done [0, 4, 5, 6, 7, 8, 9] (by kernel_rfl) (by kernel_rfl)
      obtain ⟨x2, gx2, hB1⟩ := M.bind_some hB1
      obtain ⟨hloy2, hhiy2, gx2⟩ := M.for_start gx2
      refine Run_join (fun L' h' => L' = [(0, .slice aa_ a_.length ca_), (4, .int .i64 (a_.length : Int)), (5, .slice a3 s1.1.length c1), (6, .slice a4 s1.2.1.length c2), (7, .int .i64 s1.2.2), (8, .int .i64 x2)] ∧ Hold h h' [own cd2 a3 s1.1.length c1 s1.1, own cd2 a4 s1.2.1.length c2 s1.2.1]) ?_ ?_
      · rintro _ h6 ⟨rfl, H6⟩
        refine Run_seq ?_
        refine Run_reg 6 (by kernel_rfl) (L' := [(0, .slice aa_ a_.length ca_), (4, .int .i64 (a_.length : Int)), (5, .slice a3 s1.1.length c1), (6, .slice a4 s1.2.1.length c2), (7, .int .i64 s1.2.2), (10, .int .i64 (w64 ((a_.length : Int) - x2))), (11, .int .i64 (-1000000000000000)), (12, .int .i64 0)]) ?_ ?_
        · refine QRun_b [.int .i64 (a_.length : Int), .int .i64 x2, .int .i64 (w64 ((a_.length : Int) - x2)), .int .i64 (w64 ((a_.length : Int) - x2)), .int .i64 (-1000000000000000), .int .i64 0] 0 _ (by kernel_rfl) (fun w => by kernel_rfl) ?_
          exact QRun_done [0, 4, 5, 6, 7, 10, 11, 12] (by kernel_rfl) (by kernel_rfl)
        refine Run_seq ?_
        refine Run_seq ?_
        refine Run_reg 1 (by kernel_rfl) (L' := [(0, .slice aa_ a_.length ca_), (4, .int .i64 (a_.length : Int)), (5, .slice a3 s1.1.length c1), (6, .slice a4 s1.2.1.length c2), (7, .int .i64 s1.2.2), (10, .int .i64 (w64 ((a_.length : Int) - x2))), (11, .int .i64 (-1000000000000000)), (12, .int .i64 0), (13, .int .i64 0)]) ?_ ?_
        · refine QRun_b [.int .i64 0] 0 _ (by kernel_rfl) (fun w => by kernel_rfl) ?_
          exact QRun_done [0, 4, 5, 6, 7, 10, 11, 12, 13] (by kernel_rfl) (by kernel_rfl)
        obtain ⟨x3, gx3, hB1⟩ := M.bind_some hB1
        obtain ⟨hloy3, hhiy3, gx3⟩ := M.for_start gx3
        refine Run_join (fun L' h' => L' = [(0, .slice aa_ a_.length ca_), (4, .int .i64 (a_.length : Int)), (5, .slice a3 s1.1.length c1), (6, .slice a4 s1.2.1.length c2), (7, .int .i64 s1.2.2), (11, .int .i64 x3.1), (12, .int .i64 x3.2)] ∧ Hold h h' [own cd2 a3 s1.1.length c1 s1.1, own cd2 a4 s1.2.1.length c2 s1.2.1]) ?_ ?_
        · rintro _ h8 ⟨rfl, H8⟩
          refine Run_seq ?_
          refine Run_ops ?_
          refine Run_b [.slice a3 s1.1.length c1, .int .i64 x3.1] 0 _ (by kernel_rfl) (fun w => by kernel_rfl) ?_
          refine Run_E (by kernel_rfl) ?_
          refine E_lit (C := cd2) (n := 1) (l := ([x3.1] : List Int)) (cs := [.int .i64 x3.1]) H8 (fun w => by kernel_rfl) (Enc.consE (cd2_own x3.1 _) (Enc.nil _ _) rfl) rfl (by decide) (fun a8 h11 H11 => ?_)
          obtain ⟨l1, hl1, hB1⟩ := M.bind_some hB1
          have hl1 := M.app_some hl1
          have H12 : Hold h h11 [own cd2 a3 s1.1.length c1 s1.1, own cd2 a8 1 1 ([x3.1] : List Int), own cd2 a4 s1.2.1.length c2 s1.2.1] := H11.pick [1, 0, 2] (by kernel_rfl)
          have H13 : Hold h h11 [own cd2 a8 1 1 ([x3.1] : List Int), own cd2 a3 s1.1.length c1 s1.1, own cd2 a4 s1.2.1.length c2 s1.2.1] := H12.pick [1, 0, 2] (by kernel_rfl)
          have H14 : Hold h h11 [own cd2 a3 s1.1.length c1 s1.1, own cd2 a8 1 1 ([x3.1] : List Int), own cd2 a4 s1.2.1.length c2 s1.2.1] := H13.pick [1, 0, 2] (by kernel_rfl)
          refine Run_E (by kernel_rfl) ?_
          refine E_app (C := cd2) (t := 39) (ty := 39) (n := s1.1.length) (m := 1) H14 cd2_ti rfl Try.underlying39 (by decide) (by kernel_rfl) hl1 (fun a9 c6 h12 H15 => ?_)
          refine Run_b [.slice a9 l1.length c6] 4 _ (by kernel_rfl) (fun w => by kernel_rfl) ?_
          refine Run_nil (by kernel_rfl) ?_
          refine Run_keep [0, 4, 5, 6, 7, 12] (L' := [(0, .slice aa_ a_.length ca_), (4, .int .i64 (a_.length : Int)), (5, .slice a9 l1.length c6), (6, .slice a4 s1.2.1.length c2), (7, .int .i64 s1.2.2), (12, .int .i64 x3.2)]) (by kernel_rfl) ?_
          refine Run_ops ?_
          refine Run_b [.slice a4 s1.2.1.length c2, .int .i64 x3.2] 0 _ (by kernel_rfl) (fun w => by kernel_rfl) ?_
          refine Run_E (by kernel_rfl) ?_
          refine E_lit (C := cd2) (n := 1) (l := ([x3.2] : List Int)) (cs := [.int .i64 x3.2]) H15 (fun w => by kernel_rfl) (Enc.consE (cd2_own x3.2 _) (Enc.nil _ _) rfl) rfl (by decide) (fun a10 h13 H16 => ?_)
          obtain ⟨l2, hl2, hB1⟩ := M.bind_some hB1
          have hl2 := M.app_some hl2
          have H17 : Hold h h13 [own cd2 a4 s1.2.1.length c2 s1.2.1, own cd2 a10 1 1 ([x3.2] : List Int), own cd2 a9 l1.length c6 l1] := H16.pick [2, 0, 1] (by kernel_rfl)
          have H18 : Hold h h13 [own cd2 a10 1 1 ([x3.2] : List Int), own cd2 a4 s1.2.1.length c2 s1.2.1, own cd2 a9 l1.length c6 l1] := H17.pick [1, 0, 2] (by kernel_rfl)
          have H19 : Hold h h13 [own cd2 a4 s1.2.1.length c2 s1.2.1, own cd2 a10 1 1 ([x3.2] : List Int), own cd2 a9 l1.length c6 l1] := H18.pick [1, 0, 2] (by kernel_rfl)
          refine Run_E (by kernel_rfl) ?_
          refine E_app (C := cd2) (t := 39) (ty := 39) (n := s1.2.1.length) (m := 1) H19 cd2_ti rfl Try.underlying39 (by decide) (by kernel_rfl) hl2 (fun a11 c7 h14 H20 => ?_)
          refine Run_b [.slice a11 l2.length c7] 4 _ (by kernel_rfl) (fun w => by kernel_rfl) ?_
          refine Run_nil (by kernel_rfl) ?_
          refine Run_keep [0, 4, 5, 6, 7] (L' := [(0, .slice aa_ a_.length ca_), (4, .int .i64 (a_.length : Int)), (5, .slice a9 l1.length c6), (6, .slice a11 l2.length c7), (7, .int .i64 s1.2.2)]) (by kernel_rfl) ?_
          refine Run_blk ?_
          refine Run_reg 3 (by kernel_rfl) (L' := [(0, .slice aa_ a_.length ca_), (4, .int .i64 (a_.length : Int)), (5, .slice a9 l1.length c6), (6, .slice a11 l2.length c7), (7, .int .i64 (w64 (s1.2.2 + 1)))]) ?_ ?_
          · refine QRun_b [.int .i64 s1.2.2, .int .i64 (w64 (s1.2.2 + 1)), .int .i64 (w64 (s1.2.2 + 1))] 0 _ (by kernel_rfl) (fun w => by kernel_rfl) ?_
            exact QRun_done [0, 4, 5, 6, 7] (by kernel_rfl) (by kernel_rfl)
          have H21 : Hold h h14 [own cd2 a9 l1.length c6 l1, own cd2 a11 l2.length c7 l2] := H20.pick [1, 0] (by kernel_rfl)
          have H22 : Hold h h14 [own cd2 a11 l2.length c7 l2, own cd2 a9 l1.length c6 l1] := H21.pick [1, 0] (by kernel_rfl)
          have H23 : Hold h h14 [own cd2 a9 l1.length c6 l1, own cd2 a11 l2.length c7 l2] := H22.pick [1, 0] (by kernel_rfl)
          have hB1 := M.ret_some hB1
          have gx1 := hgoy1 _ hB1.symm
          exact Run_again [0, 4, 5, 6, 7] (by kernel_rfl) my1 (Nat.lt_succ_self _) ⟨(l1, l2, (w64 (s1.2.2 + 1))), a9, c6, a11, c7, gx1, rfl, H23⟩
        · refine Run_block ?_
          refine Run_keep [0, 4, 5, 6, 7, 10, 11, 12, 13] (L' := [(0, .slice aa_ a_.length ca_), (4, .int .i64 (a_.length : Int)), (5, .slice a3 s1.1.length c1), (6, .slice a4 s1.2.1.length c2), (7, .int .i64 s1.2.2), (10, .int .i64 (w64 ((a_.length : Int) - x2))), (11, .int .i64 (-1000000000000000)), (12, .int .i64 0), (13, .int .i64 0)]) (by kernel_rfl) ?_
          refine Run_loop (fun m L' h' => ∃ (i2 : Int) (s3 : Int × Int), 0 ≤ i2 ∧ M.forN (a_.length : Int) _ _ n m i2 s3 = some x3 ∧ L' = [(0, .slice aa_ a_.length ca_), (4, .int .i64 (a_.length : Int)), (5, .slice a3 s1.1.length c1), (6, .slice a4 s1.2.1.length c2), (7, .int .i64 s1.2.2), (10, .int .i64 (w64 ((a_.length : Int) - x2))), (11, .int .i64 s3.1), (12, .int .i64 s3.2), (13, .int .i64 i2)] ∧ Hold h h' [own cd2 a3 s1.1.length c1 s1.1, own cd2 a4 s1.2.1.length c2 s1.2.1]) ((a_.length : Int) - 0 : Int).toNat ⟨0, ((-1000000000000000), 0), Int.le_refl _, gx3, rfl, H6⟩ ?_
          rintro my3 _ h7 ⟨i2, s3, hloy3', gx3, rfl, H7⟩
          refine Run_seq ?_
          refine Run_seq ?_
          refine Run_reg 3 (by kernel_rfl) (L' := [(0, .slice aa_ a_.length ca_), (4, .int .i64 (a_.length : Int)), (5, .slice a3 s1.1.length c1), (6, .slice a4 s1.2.1.length c2), (7, .int .i64 s1.2.2), (10, .int .i64 (w64 ((a_.length : Int) - x2))), (11, .int .i64 s3.1), (12, .int .i64 s3.2), (13, .int .i64 i2), (44, .bool (decide (i2 < (a_.length : Int))))]) ?_ ?_
          · refine QRun_b [.int .i64 i2, .int .i64 (a_.length : Int), .bool (decide (i2 < (a_.length : Int)))] 0 _ (by kernel_rfl) (fun w => by kernel_rfl) ?_
            exact QRun_done [0, 4, 5, 6, 7, 10, 11, 12, 13, 44] (by kernel_rfl) (by kernel_rfl)
          refine Run_cond (b := decide (i2 < (a_.length : Int))) (by kernel_rfl) (fun hb3 => ?_) (fun hb3 => ?_)
          · obtain ⟨my3, y3, rfl, hB3, hgoy3, houty3⟩ := M.for_go gx3 hb3
            have hlty3 := of_decide_eq_true hb3
            refine Run_skip ?_
            refine Run_seq ?_
            obtain ⟨s4, gs4, hB3⟩ := M.bind_some hB3
            refine Run_join (fun L' h' => L' = [(0, .slice aa_ a_.length ca_), (4, .int .i64 (a_.length : Int)), (5, .slice a3 s1.1.length c1), (6, .slice a4 s1.2.1.length c2), (7, .int .i64 s1.2.2), (10, .int .i64 (w64 ((a_.length : Int) - x2))), (11, .int .i64 s4.1), (12, .int .i64 s4.2), (13, .int .i64 i2)] ∧ Hold h h' [own cd2 a3 s1.1.length c1 s1.1, own cd2 a4 s1.2.1.length c2 s1.2.1]) ?_ ?_
            · rintro _ h10 ⟨rfl, H10⟩
              refine Run_reg 3 (by kernel_rfl) (L' := [(0, .slice aa_ a_.length ca_), (4, .int .i64 (a_.length : Int)), (5, .slice a3 s1.1.length c1), (6, .slice a4 s1.2.1.length c2), (7, .int .i64 s1.2.2), (10, .int .i64 (w64 ((a_.length : Int) - x2))), (11, .int .i64 s4.1), (12, .int .i64 s4.2), (13, .int .i64 (i2 + 1))]) ?_ ?_
              · refine QRun_b [.int .i64 i2] 0 _ (by kernel_rfl) (fun w => by kernel_rfl) ?_
                refine QRun_y (.int .i64 (i2 + 1)) (by kernel_rfl) (Y_eq (v := .int .i64 (w64 (i2 + 1))) (Y_pure (fun w => by kernel_rfl)) (by rw [w64_eq _ (by omega)])) ?_
                refine QRun_b [.int .i64 (i2 + 1)] 2 _ (by kernel_rfl) (fun w => by kernel_rfl) ?_
                exact QRun_done [0, 4, 5, 6, 7, 10, 11, 12, 13] (by kernel_rfl) (by kernel_rfl)
              have hB3 := M.ret_some hB3
              have gx3 := hgoy3 _ hB3.symm
              exact Run_again [0, 4, 5, 6, 7, 10, 11, 12, 13] (by kernel_rfl) my3 (Nat.lt_succ_self _) ⟨i2 + 1, (s4.1, s4.2), by omega, gx3, rfl, H10⟩
            · refine Run_block ?_
              refine Run_seq ?_
              refine Run_seq ?_
              obtain ⟨u3, hz3, gs4⟩ := M.bind_some gs4
              have hz3 := M.guard_some hz3
              refine Run_reg 6 (by kernel_rfl) (L' := [(0, .slice aa_ a_.length ca_), (4, .int .i64 (a_.length : Int)), (5, .slice a3 s1.1.length c1), (6, .slice a4 s1.2.1.length c2), (7, .int .i64 s1.2.2), (10, .int .i64 (w64 ((a_.length : Int) - x2))), (11, .int .i64 s3.1), (12, .int .i64 s3.2), (13, .int .i64 i2), (52, .bool ((ibit .and .i64 (ishr .i64 s1.2.2 (IntKind.u64.wrap (i2))) 1) == 0))]) ?_ ?_
              · refine QRun_b [.int .i64 s1.2.2, .int .i64 i2, .int .u64 (IntKind.u64.wrap (i2))] 0 _ (by kernel_rfl) (fun w => by kernel_rfl) ?_
                refine QRun_y (.int .i64 (ishr .i64 s1.2.2 (IntKind.u64.wrap (i2)))) (by kernel_rfl) (Y_shr (k := .i64) (x := s1.2.2) (kk := .u64) (y := IntKind.u64.wrap (i2)) (by kernel_rfl) hz3) ?_
                refine QRun_b [.int .i64 (ibit .and .i64 (ishr .i64 s1.2.2 (IntKind.u64.wrap (i2))) 1), .bool ((ibit .and .i64 (ishr .i64 s1.2.2 (IntKind.u64.wrap (i2))) 1) == 0)] 4 _ (by kernel_rfl) (fun w => by kernel_rfl) ?_
                exact QRun_done [0, 4, 5, 6, 7, 10, 11, 12, 13, 52] (by kernel_rfl) (by kernel_rfl)
              refine Run_cond (b := (ibit .and .i64 (ishr .i64 s1.2.2 (IntKind.u64.wrap (i2))) 1) == 0) (by kernel_rfl) (fun hb4 => ?_) (fun hb4 => ?_)
              · have gs4 := (M.ite_some gs4).1 hb4
                refine Run_exit (k' := _) rfl ?_
                have gs4 := M.ret_some gs4
                subst gs4
                exact Run_fall [0, 4, 5, 6, 7, 10, 11, 12, 13] (by kernel_rfl) ⟨rfl, H7⟩
              · have gs4 := (M.ite_some gs4).2 hb4
                refine Run_skip ?_
                refine Run_seq ?_
                obtain ⟨u4, hz4, gs4⟩ := M.bind_some gs4
                have hz4 := M.guard_some hz4
                refine Run_reg 6 (by kernel_rfl) (L' := [(0, .slice aa_ a_.length ca_), (4, .int .i64 (a_.length : Int)), (5, .slice a3 s1.1.length c1), (6, .slice a4 s1.2.1.length c2), (7, .int .i64 s1.2.2), (10, .int .i64 (w64 ((a_.length : Int) - x2))), (11, .int .i64 s3.1), (12, .int .i64 s3.2), (13, .int .i64 i2), (14, .int .i64 (w64 (s1.2.2 - (ishl .i64 1 (IntKind.u64.wrap (i2))))))]) ?_ ?_
                · refine QRun_b [.int .i64 s1.2.2, .int .i64 i2, .int .u64 (IntKind.u64.wrap (i2))] 0 _ (by kernel_rfl) (fun w => by kernel_rfl) ?_
                  refine QRun_y (.int .i64 (ishl .i64 1 (IntKind.u64.wrap (i2)))) (by kernel_rfl) (Y_shl (k := .i64) (x := 1) (kk := .u64) (y := IntKind.u64.wrap (i2)) (by kernel_rfl) hz4) ?_
                  refine QRun_b [.int .i64 (w64 (s1.2.2 - (ishl .i64 1 (IntKind.u64.wrap (i2))))), .int .i64 (w64 (s1.2.2 - (ishl .i64 1 (IntKind.u64.wrap (i2)))))] 4 _ (by kernel_rfl) (fun w => by kernel_rfl) ?_
                  exact QRun_done [0, 4, 5, 6, 7, 10, 11, 12, 13, 14] (by kernel_rfl) (by kernel_rfl)
                refine Run_seq ?_
                obtain ⟨x4, hx1, gs4⟩ := M.bind_some gs4
                obtain ⟨hx1l, hx1u, hx1⟩ := M.idx_some hx1
                obtain ⟨a7, c5, hc1, r1⟩ := ra_.row hx1
                obtain ⟨x5, hx2, gs4⟩ := M.bind_some gs4
                obtain ⟨hx2l, hx2u, hx2⟩ := M.idx_some hx2
                obtain ⟨x6, hx3, gs4⟩ := M.bind_some gs4
                obtain ⟨hx3l, hx3u, hx3⟩ := M.idx_some hx3
                obtain ⟨x7, hx4, gs4⟩ := M.bind_some gs4
                refine Run_draw 13 mixed (by kernel_rfl) (by kernel_rfl) (L' := [(0, .slice aa_ a_.length ca_), (4, .int .i64 (a_.length : Int)), (5, .slice a3 s1.1.length c1), (6, .slice a4 s1.2.1.length c2), (7, .int .i64 s1.2.2), (10, .int .i64 (w64 ((a_.length : Int) - x2))), (11, .int .i64 s3.1), (12, .int .i64 s3.2), (13, .int .i64 i2), (14, .int .i64 (w64 (s1.2.2 - (ishl .i64 1 (IntKind.u64.wrap (i2)))))), (15, .int .i64 x7)]) ?_ ?_
                · refine QRun_b [.slice aa_ a_.length ca_, .int .i64 (w64 ((a_.length : Int) - x2))] 0 _ (by kernel_rfl) (fun w => by kernel_rfl) ?_
                  refine QRun_y (.pointer (some (adr aa_ ((w64 ((a_.length : Int) - x2)).toNat * 1)))) (by kernel_rfl) (Y_idx (t := 37) (e := 39) (sz := 1) (a := aa_) (n := a_.length) (cap := ca_) (kk := .i64) (i := w64 ((a_.length : Int) - x2)) (by kernel_rfl) Try.underlying37 (by kernel_rfl) ((ra_.at H7.ext).cell hx1).1 hx1l hx1u) ?_
                  refine QRun_y (.slice a7 x4.length c5) (by kernel_rfl) (Y_load1 (t := 39) (p := adr aa_ ((w64 ((a_.length : Int) - x2)).toNat * 1)) (v := .slice a7 x4.length c5) (by kernel_rfl) (fun w => by kernel_rfl) (cell_at H7.ext hc1)) ?_
                  refine QRun_b [.int .i64 i2] 4 _ (by kernel_rfl) (fun w => by kernel_rfl) ?_
                  refine QRun_y (.pointer (some (adr a7 (i2.toNat * 1)))) (by kernel_rfl) (Y_idx (t := 39) (e := 2) (sz := 1) (a := a7) (n := x4.length) (cap := c5) (kk := .i64) (i := i2) (by kernel_rfl) Try.underlying39 (by kernel_rfl) ((r1.at H7.ext).cell hx2).1 hx2l hx2u) ?_
                  refine QRun_y (.int .i64 x5) (by kernel_rfl) (Y_load1 (t := 2) (p := adr a7 (i2.toNat * 1)) (v := .int .i64 x5) (by kernel_rfl) (fun w => by kernel_rfl) (cd2_cell (r1.at H7.ext) hx2)) ?_
                  refine QRun_b [.slice a3 s1.1.length c1, .int .i64 (w64 (s1.2.2 - (ishl .i64 1 (IntKind.u64.wrap (i2)))))] 7 _ (by kernel_rfl) (fun w => by kernel_rfl) ?_
                  refine QRun_y (.pointer (some (adr a3 ((w64 (s1.2.2 - (ishl .i64 1 (IntKind.u64.wrap (i2))))).toNat * 1)))) (by kernel_rfl) (Y_idx (t := 39) (e := 2) (sz := 1) (a := a3) (n := s1.1.length) (cap := c1) (kk := .i64) (i := w64 (s1.2.2 - (ishl .i64 1 (IntKind.u64.wrap (i2))))) (by kernel_rfl) Try.underlying39 (by kernel_rfl) ((H7.rd 0 rfl).cell hx3).1 hx3l hx3u) ?_
                  refine QRun_y (.int .i64 x6) (by kernel_rfl) (Y_load1 (t := 2) (p := adr a3 ((w64 (s1.2.2 - (ishl .i64 1 (IntKind.u64.wrap (i2))))).toNat * 1)) (v := .int .i64 x6) (by kernel_rfl) (fun w => by kernel_rfl) (cd2_cell (H7.rd 0 rfl) hx3)) ?_
                  refine QRun_y (.int .i64 x7) (by kernel_rfl) (Y_callq (f := 117) (args := #[.int .i64 x5, .int .i64 x6]) (v := .int .i64 x7) (by kernel_rfl) (w_spec_l01Times h7 x5 x6 _ _ hx4)) ?_
                  refine QRun_b [.int .i64 x7] 12 _ (by kernel_rfl) (fun w => by kernel_rfl) ?_
                  exact QRun_done [0, 4, 5, 6, 7, 10, 11, 12, 13, 14, 15] (by kernel_rfl) (by kernel_rfl)
                refine Run_block ?_
                refine Run_seq ?_
                refine Run_reg 3 (by kernel_rfl) (L' := [(0, .slice aa_ a_.length ca_), (4, .int .i64 (a_.length : Int)), (5, .slice a3 s1.1.length c1), (6, .slice a4 s1.2.1.length c2), (7, .int .i64 s1.2.2), (10, .int .i64 (w64 ((a_.length : Int) - x2))), (11, .int .i64 s3.1), (12, .int .i64 s3.2), (13, .int .i64 i2), (14, .int .i64 (w64 (s1.2.2 - (ishl .i64 1 (IntKind.u64.wrap (i2)))))), (15, .int .i64 x7), (70, .bool (x7 == (-1000000000000000)))]) ?_ ?_
                · refine QRun_b [.int .i64 x7, .bool (x7 == (-1000000000000000)), .bool (x7 == (-1000000000000000))] 0 _ (by kernel_rfl) (fun w => by kernel_rfl) ?_
                  exact QRun_done [0, 4, 5, 6, 7, 10, 11, 12, 13, 14, 15, 70] (by kernel_rfl) (by kernel_rfl)
                refine Run_cond (b := x7 == (-1000000000000000)) (by kernel_rfl) (fun hb5 => ?_) (fun hb5 => ?_)
                · have gs4 := (M.ite_some gs4).1 hb5
                  refine Run_exit (k' := _) rfl ?_
                  have gs4 := M.ret_some gs4
                  subst gs4
                  exact Run_fall [0, 4, 5, 6, 7, 10, 11, 12, 13] (by kernel_rfl) ⟨rfl, H7⟩
                · have gs4 := (M.ite_some gs4).2 hb5
                  refine Run_seq ?_
                  refine Run_reg 4 (by kernel_rfl) (L' := [(0, .slice aa_ a_.length ca_), (4, .int .i64 (a_.length : Int)), (5, .slice a3 s1.1.length c1), (6, .slice a4 s1.2.1.length c2), (7, .int .i64 s1.2.2), (10, .int .i64 (w64 ((a_.length : Int) - x2))), (11, .int .i64 s3.1), (12, .int .i64 s3.2), (13, .int .i64 i2), (14, .int .i64 (w64 (s1.2.2 - (ishl .i64 1 (IntKind.u64.wrap (i2)))))), (15, .int .i64 x7), (73, .bool (decide (s3.1 < x7)))]) ?_ ?_
                  · refine QRun_b [.int .i64 x7, .int .i64 s3.1, .bool (decide (s3.1 < x7)), .bool (decide (s3.1 < x7))] 0 _ (by kernel_rfl) (fun w => by kernel_rfl) ?_
                    exact QRun_done [0, 4, 5, 6, 7, 10, 11, 12, 13, 14, 15, 73] (by kernel_rfl) (by kernel_rfl)
                  obtain ⟨s5, gs5, gs4⟩ := M.bind_some gs4
                  refine Run_join (fun L' h' => L' = [(0, .slice aa_ a_.length ca_), (4, .int .i64 (a_.length : Int)), (5, .slice a3 s1.1.length c1), (6, .slice a4 s1.2.1.length c2), (7, .int .i64 s1.2.2), (10, .int .i64 (w64 ((a_.length : Int) - x2))), (11, .int .i64 s5.1), (12, .int .i64 s5.2), (13, .int .i64 i2)] ∧ Hold h h' [own cd2 a3 s1.1.length c1 s1.1, own cd2 a4 s1.2.1.length c2 s1.2.1]) ?_ ?_
                  · rintro _ h9 ⟨rfl, H9⟩
                    refine Run_blk ?_
                    refine Run_blk ?_
                    have gs4 := M.ret_some gs4
                    subst gs4
                    exact Run_fall [0, 4, 5, 6, 7, 10, 11, 12, 13] (by kernel_rfl) ⟨rfl, H9⟩
                  · refine Run_cond (b := decide (s3.1 < x7)) (by kernel_rfl) (fun hb6 => ?_) (fun hb6 => ?_)
                    · have gs5 := (M.ite_some gs5).1 hb6
                      refine Run_seq ?_
                      refine Run_reg 2 (by kernel_rfl) (L' := [(0, .slice aa_ a_.length ca_), (4, .int .i64 (a_.length : Int)), (5, .slice a3 s1.1.length c1), (6, .slice a4 s1.2.1.length c2), (7, .int .i64 s1.2.2), (10, .int .i64 (w64 ((a_.length : Int) - x2))), (11, .int .i64 x7), (13, .int .i64 i2), (14, .int .i64 (w64 (s1.2.2 - (ishl .i64 1 (IntKind.u64.wrap (i2))))))]) ?_ ?_
                      · refine QRun_b [.int .i64 x7, .int .i64 x7] 0 _ (by kernel_rfl) (fun w => by kernel_rfl) ?_
                        exact QRun_done [0, 4, 5, 6, 7, 10, 11, 13, 14] (by kernel_rfl) (by kernel_rfl)
                      obtain ⟨x8, hx5, gs5⟩ := M.bind_some gs5
                      obtain ⟨hx5l, hx5u, hx5⟩ := M.idx_some hx5
                      refine Run_reg 5 (by kernel_rfl) (L' := [(0, .slice aa_ a_.length ca_), (4, .int .i64 (a_.length : Int)), (5, .slice a3 s1.1.length c1), (6, .slice a4 s1.2.1.length c2), (7, .int .i64 s1.2.2), (10, .int .i64 (w64 ((a_.length : Int) - x2))), (11, .int .i64 x7), (12, .int .i64 x8), (13, .int .i64 i2)]) ?_ ?_
                      · refine QRun_b [.slice a4 s1.2.1.length c2, .int .i64 (w64 (s1.2.2 - (ishl .i64 1 (IntKind.u64.wrap (i2)))))] 0 _ (by kernel_rfl) (fun w => by kernel_rfl) ?_
                        refine QRun_y (.pointer (some (adr a4 ((w64 (s1.2.2 - (ishl .i64 1 (IntKind.u64.wrap (i2))))).toNat * 1)))) (by kernel_rfl) (Y_idx (t := 39) (e := 2) (sz := 1) (a := a4) (n := s1.2.1.length) (cap := c2) (kk := .i64) (i := w64 (s1.2.2 - (ishl .i64 1 (IntKind.u64.wrap (i2))))) (by kernel_rfl) Try.underlying39 (by kernel_rfl) ((H7.rd 1 rfl).cell hx5).1 hx5l hx5u) ?_
                        refine QRun_y (.int .i64 x8) (by kernel_rfl) (Y_load1 (t := 2) (p := adr a4 ((w64 (s1.2.2 - (ishl .i64 1 (IntKind.u64.wrap (i2))))).toNat * 1)) (v := .int .i64 x8) (by kernel_rfl) (fun w => by kernel_rfl) (cd2_cell (H7.rd 1 rfl) hx5)) ?_
                        refine QRun_b [.int .i64 x8] 4 _ (by kernel_rfl) (fun w => by kernel_rfl) ?_
                        exact QRun_done [0, 4, 5, 6, 7, 10, 11, 12, 13] (by kernel_rfl) (by kernel_rfl)
                      have gs5 := M.ret_some gs5
                      subst gs5
                      exact Run_fall [0, 4, 5, 6, 7, 10, 11, 12, 13] (by kernel_rfl) ⟨rfl, H7⟩
                    · have gs5 := (M.ite_some gs5).2 hb6
                      refine Run_seq ?_
                      refine Run_reg 4 (by kernel_rfl) (L' := [(0, .slice aa_ a_.length ca_), (4, .int .i64 (a_.length : Int)), (5, .slice a3 s1.1.length c1), (6, .slice a4 s1.2.1.length c2), (7, .int .i64 s1.2.2), (10, .int .i64 (w64 ((a_.length : Int) - x2))), (11, .int .i64 s3.1), (12, .int .i64 s3.2), (13, .int .i64 i2), (14, .int .i64 (w64 (s1.2.2 - (ishl .i64 1 (IntKind.u64.wrap (i2)))))), (82, .bool (x7 == s3.1))]) ?_ ?_
                      · refine QRun_b [.int .i64 x7, .int .i64 s3.1, .bool (x7 == s3.1), .bool (x7 == s3.1)] 0 _ (by kernel_rfl) (fun w => by kernel_rfl) ?_
                        exact QRun_done [0, 4, 5, 6, 7, 10, 11, 12, 13, 14, 82] (by kernel_rfl) (by kernel_rfl)
                      refine Run_cond (b := x7 == s3.1) (by kernel_rfl) (fun hb7 => ?_) (fun hb7 => ?_)
                      · have gs5 := (M.ite_some gs5).1 hb7
                        obtain ⟨x9, hx6, gs5⟩ := M.bind_some gs5
                        obtain ⟨hx6l, hx6u, hx6⟩ := M.idx_some hx6
                        refine Run_reg 7 (by kernel_rfl) (L' := [(0, .slice aa_ a_.length ca_), (4, .int .i64 (a_.length : Int)), (5, .slice a3 s1.1.length c1), (6, .slice a4 s1.2.1.length c2), (7, .int .i64 s1.2.2), (10, .int .i64 (w64 ((a_.length : Int) - x2))), (11, .int .i64 s3.1), (12, .int .i64 (w64 (s3.2 + x9))), (13, .int .i64 i2)]) ?_ ?_
                        · refine QRun_b [.int .i64 s3.2, .slice a4 s1.2.1.length c2, .int .i64 (w64 (s1.2.2 - (ishl .i64 1 (IntKind.u64.wrap (i2)))))] 0 _ (by kernel_rfl) (fun w => by kernel_rfl) ?_
                          refine QRun_y (.pointer (some (adr a4 ((w64 (s1.2.2 - (ishl .i64 1 (IntKind.u64.wrap (i2))))).toNat * 1)))) (by kernel_rfl) (Y_idx (t := 39) (e := 2) (sz := 1) (a := a4) (n := s1.2.1.length) (cap := c2) (kk := .i64) (i := w64 (s1.2.2 - (ishl .i64 1 (IntKind.u64.wrap (i2))))) (by kernel_rfl) Try.underlying39 (by kernel_rfl) ((H7.rd 1 rfl).cell hx6).1 hx6l hx6u) ?_
                          refine QRun_y (.int .i64 x9) (by kernel_rfl) (Y_load1 (t := 2) (p := adr a4 ((w64 (s1.2.2 - (ishl .i64 1 (IntKind.u64.wrap (i2))))).toNat * 1)) (v := .int .i64 x9) (by kernel_rfl) (fun w => by kernel_rfl) (cd2_cell (H7.rd 1 rfl) hx6)) ?_
                          refine QRun_b [.int .i64 (w64 (s3.2 + x9)), .int .i64 (w64 (s3.2 + x9))] 5 _ (by kernel_rfl) (fun w => by kernel_rfl) ?_
                          exact QRun_done [0, 4, 5, 6, 7, 10, 11, 12, 13] (by kernel_rfl) (by kernel_rfl)
                        have gs5 := M.ret_some gs5
                        subst gs5
                        exact Run_fall [0, 4, 5, 6, 7, 10, 11, 12, 13] (by kernel_rfl) ⟨rfl, H7⟩
                      · have gs5 := (M.ite_some gs5).2 hb7
                        refine Run_skip ?_
                        have gs5 := M.ret_some gs5
                        subst gs5
                        exact Run_fall [0, 4, 5, 6, 7, 10, 11, 12, 13] (by kernel_rfl) ⟨rfl, H7⟩
          · have gx3 := M.for_end gx3 hb3
            subst gx3
            refine Run_exit (k' := _) rfl ?_
            exact Run_fall [0, 4, 5, 6, 7, 11, 12] (by kernel_rfl) ⟨rfl, H7⟩
      · refine Run_block ?_
        refine Run_keep [0, 4, 5, 6, 7, 8, 9] (L' := [(0, .slice aa_ a_.length ca_), (4, .int .i64 (a_.length : Int)), (5, .slice a3 s1.1.length c1), (6, .slice a4 s1.2.1.length c2), (7, .int .i64 s1.2.2), (8, .int .i64 0), (9, .int .i64 0)]) (by kernel_rfl) ?_
        refine Run_loop (fun m L' h' => ∃ (i1 : Int) (s2 : Int), 0 ≤ i1 ∧ M.forN (a_.length : Int) _ _ n m i1 s2 = some x2 ∧ L' = [(0, .slice aa_ a_.length ca_), (4, .int .i64 (a_.length : Int)), (5, .slice a3 s1.1.length c1), (6, .slice a4 s1.2.1.length c2), (7, .int .i64 s1.2.2), (8, .int .i64 s2), (9, .int .i64 i1)] ∧ Hold h h' [own cd2 a3 s1.1.length c1 s1.1, own cd2 a4 s1.2.1.length c2 s1.2.1]) ((a_.length : Int) - 0 : Int).toNat ⟨0, 0, Int.le_refl _, gx2, rfl, H3⟩ ?_
        rintro my2 _ h5 ⟨i1, s2, hloy2', gx2, rfl, H5⟩
        refine Run_seq ?_
        refine Run_seq ?_
        refine Run_reg 3 (by kernel_rfl) (L' := [(0, .slice aa_ a_.length ca_), (4, .int .i64 (a_.length : Int)), (5, .slice a3 s1.1.length c1), (6, .slice a4 s1.2.1.length c2), (7, .int .i64 s1.2.2), (8, .int .i64 s2), (9, .int .i64 i1), (29, .bool (decide (i1 < (a_.length : Int))))]) ?_ ?_
        · refine QRun_b [.int .i64 i1, .int .i64 (a_.length : Int), .bool (decide (i1 < (a_.length : Int)))] 0 _ (by kernel_rfl) (fun w => by kernel_rfl) ?_
          exact QRun_done [0, 4, 5, 6, 7, 8, 9, 29] (by kernel_rfl) (by kernel_rfl)
        refine Run_cond (b := decide (i1 < (a_.length : Int))) (by kernel_rfl) (fun hb2 => ?_) (fun hb2 => ?_)
        · obtain ⟨my2, y2, rfl, hB2, hgoy2, houty2⟩ := M.for_go gx2 hb2
          have hlty2 := of_decide_eq_true hb2
          refine Run_skip ?_
          refine Run_seq ?_
          refine Run_block ?_
          obtain ⟨u2, hz2, hB2⟩ := M.bind_some hB2
          have hz2 := M.guard_some hz2
          refine Run_reg 8 (by kernel_rfl) (L' := [(0, .slice aa_ a_.length ca_), (4, .int .i64 (a_.length : Int)), (5, .slice a3 s1.1.length c1), (6, .slice a4 s1.2.1.length c2), (7, .int .i64 s1.2.2), (8, .int .i64 (w64 (s2 + (ibit .and .i64 (ishr .i64 s1.2.2 (IntKind.u64.wrap (i1))) 1)))), (9, .int .i64 i1)]) ?_ ?_
          · refine QRun_b [.int .i64 s2, .int .i64 s1.2.2, .int .i64 i1, .int .u64 (IntKind.u64.wrap (i1))] 0 _ (by kernel_rfl) (fun w => by kernel_rfl) ?_
            refine QRun_y (.int .i64 (ishr .i64 s1.2.2 (IntKind.u64.wrap (i1)))) (by kernel_rfl) (Y_shr (k := .i64) (x := s1.2.2) (kk := .u64) (y := IntKind.u64.wrap (i1)) (by kernel_rfl) hz2) ?_
            refine QRun_b [.int .i64 (ibit .and .i64 (ishr .i64 s1.2.2 (IntKind.u64.wrap (i1))) 1), .int .i64 (w64 (s2 + (ibit .and .i64 (ishr .i64 s1.2.2 (IntKind.u64.wrap (i1))) 1))), .int .i64 (w64 (s2 + (ibit .and .i64 (ishr .i64 s1.2.2 (IntKind.u64.wrap (i1))) 1)))] 5 _ (by kernel_rfl) (fun w => by kernel_rfl) ?_
            exact QRun_done [0, 4, 5, 6, 7, 8, 9] (by kernel_rfl) (by kernel_rfl)
          refine Run_blk ?_
          refine Run_reg 3 (by kernel_rfl) (L' := [(0, .slice aa_ a_.length ca_), (4, .int .i64 (a_.length : Int)), (5, .slice a3 s1.1.length c1), (6, .slice a4 s1.2.1.length c2), (7, .int .i64 s1.2.2), (8, .int .i64 (w64 (s2 + (ibit .and .i64 (ishr .i64 s1.2.2 (IntKind.u64.wrap (i1))) 1)))), (9, .int .i64 (i1 + 1))]) ?_ ?_
          · refine QRun_b [.int .i64 i1] 0 _ (by kernel_rfl) (fun w => by kernel_rfl) ?_
            refine QRun_y (.int .i64 (i1 + 1)) (by kernel_rfl) (Y_eq (v := .int .i64 (w64 (i1 + 1))) (Y_pure (fun w => by kernel_rfl)) (by rw [w64_eq _ (by omega)])) ?_
            refine QRun_b [.int .i64 (i1 + 1)] 2 _ (by kernel_rfl) (fun w => by kernel_rfl) ?_
            exact QRun_done [0, 4, 5, 6, 7, 8, 9] (by kernel_rfl) (by kernel_rfl)
          have hB2 := M.ret_some hB2
          have gx2 := hgoy2 _ hB2.symm
          exact Run_again [0, 4, 5, 6, 7, 8, 9] (by kernel_rfl) my2 (Nat.lt_succ_self _) ⟨i1 + 1, (w64 (s2 + (ibit .and .i64 (ishr .i64 s1.2.2 (IntKind.u64.wrap (i1))) 1))), by omega, gx2, rfl, H5⟩
        · have gx2 := M.for_end gx2 hb2
          subst gx2
          refine Run_exit (k' := _) rfl ?_
          exact Run_fall [0, 4, 5, 6, 7, 8] (by kernel_rfl) ⟨rfl, H5⟩
    · have hB1 := (M.ite_some hB1).2 hb1
      refine Run_exit (k' := _) rfl ?_
      have H24 : Hold h h3 [own cd2 a4 s1.2.1.length c2 s1.2.1, own cd2 a3 s1.1.length c1 s1.1] := H3.pick [1, 0] (by kernel_rfl)
      have H25 : Hold h h3 [own cd2 a3 s1.1.length c1 s1.1, own cd2 a4 s1.2.1.length c2 s1.2.1] := H24.pick [1, 0] (by kernel_rfl)
      have hB1 := M.ret_some hB1
      have gx1 := houty1 _ hB1.symm
      subst gx1
      exact Run_fall [5, 6] (by kernel_rfl) ⟨a3, c1, a4, c2, rfl, H25⟩

set_option maxRecDepth 100000 in
set_option maxHeartbeats 4000000 in
theorem w_spec_l10Assignment (h : Heap) (a_ : List (List Int)) (aa_ : Option Addr) (ca_ : Nat) (ra_ : Rd cd39 h (Lt h) aa_ ca_ a_) (n : Nat) (r : (List Int) × Bool) (hF : spec_l10Assignment a_ n = some r) :
    Fn Try.prog 83 #[.slice aa_ a_.length ca_] h fun v h' => ∃ (a0 : Option Addr) (c0 : Nat), v = .tuple #[.slice a0 r.1.length c0, .bool r.2] ∧ Hold h h' [own cd2 a0 r.1.length c0 r.1] := by
  unfold spec_l10Assignment at hF
  refine Fn_enter (args := [.slice aa_ a_.length ca_]) Try.func83 rfl (by kernel_rfl) (by kernel_rfl) (fun w0 _ => ?_)
  have H0 := Hold.init h
  refine Run_seq ?_
  refine Run_reg 2 (by kernel_rfl) (L' := [(0, .slice aa_ a_.length ca_)]) ?_ ?_
  · refine QRun_b [.slice none 0 0, .bool false] 0 _ (by kernel_rfl) (fun w => by kernel_rfl) ?_
    exact QRun_done [0] (by kernel_rfl) (by kernel_rfl)
  refine Run_seq ?_
  refine Run_ops ?_
  refine Run_b [.slice aa_ a_.length ca_] 0 _ (by kernel_rfl) (fun w => by kernel_rfl) ?_
  obtain ⟨x1, hx1, hF⟩ := M.bind_some hF
  refine Run_E (by kernel_rfl) ?_
  refine E_call (f := 133) (args := #[.slice aa_ a_.length ca_]) (w_spec_l10Best h a_ aa_ ca_ ra_ _ _ hx1) (by kernel_rfl) (fun v1 h1 hp1 => ?_)
  obtain ⟨a1, c1, a2, c2, rfl, H1⟩ := hp1
  have H2 : Hold h h1 [own cd2 a1 x1.1.length c1 x1.1, own cd2 a2 x1.2.length c2 x1.2] := H0.call H1 rfl
  refine Run_b [.tuple #[.slice a1 x1.1.length c1, .slice a2 x1.2.length c2], .slice a1 x1.1.length c1, .slice a2 x1.2.length c2, .slice a1 x1.1.length c1, .slice a2 x1.2.length c2] 2 _ (by kernel_rfl) (fun w => by kernel_rfl) ?_
  refine Run_nil (by kernel_rfl) ?_
  refine Run_keep [0, 4] (L' := [(0, .slice aa_ a_.length ca_), (4, .slice a1 x1.1.length c1)]) (by kernel_rfl) ?_
  refine Run_seq ?_
  refine Run_reg 4 (by kernel_rfl) (L' := [(0, .slice aa_ a_.length ca_), (4, .slice a1 x1.1.length c1), (6, .int .i64 (w64 ((x1.1.length : Int) - 1)))]) ?_ ?_
  · refine QRun_b [.slice a1 x1.1.length c1, .int .i64 (x1.1.length : Int), .int .i64 (w64 ((x1.1.length : Int) - 1)), .int .i64 (w64 ((x1.1.length : Int) - 1))] 0 _ (by kernel_rfl) (fun w => by kernel_rfl) ?_
    exact QRun_done [0, 4, 6] (by kernel_rfl) (by kernel_rfl)
  refine Run_seq ?_
  refine Run_seq ?_
  obtain ⟨x2, hx2, hF⟩ := M.bind_some hF
  obtain ⟨hx2l, hx2u, hx2⟩ := M.idx_some hx2
  refine Run_reg 5 (by kernel_rfl) (L' := [(0, .slice aa_ a_.length ca_), (4, .slice a1 x1.1.length c1), (6, .int .i64 (w64 ((x1.1.length : Int) - 1))), (22, .bool (x2 == (-1000000000000000)))]) ?_ ?_
  · refine QRun_b [.slice a1 x1.1.length c1, .int .i64 (w64 ((x1.1.length : Int) - 1))] 0 _ (by kernel_rfl) (fun w => by kernel_rfl) ?_
    refine QRun_y (.pointer (some (adr a1 ((w64 ((x1.1.length : Int) - 1)).toNat * 1)))) (by kernel_rfl) (Y_idx (t := 39) (e := 2) (sz := 1) (a := a1) (n := x1.1.length) (cap := c1) (kk := .i64) (i := w64 ((x1.1.length : Int) - 1)) (by kernel_rfl) Try.underlying39 (by kernel_rfl) ((H2.rd 0 rfl).cell hx2).1 hx2l hx2u) ?_
    refine QRun_y (.int .i64 x2) (by kernel_rfl) (Y_load1 (t := 2) (p := adr a1 ((w64 ((x1.1.length : Int) - 1)).toNat * 1)) (v := .int .i64 x2) (by kernel_rfl) (fun w => by kernel_rfl) (cd2_cell (H2.rd 0 rfl) hx2)) ?_
    refine QRun_b [.bool (x2 == (-1000000000000000))] 4 _ (by kernel_rfl) (fun w => by kernel_rfl) ?_
    exact QRun_done [0, 4, 6, 22] (by kernel_rfl) (by kernel_rfl)
  refine Run_cond (b := x2 == (-1000000000000000)) (by kernel_rfl) (fun hb1 => ?_) (fun hb1 => ?_)
  · have hF := (M.ite_some hF).1 hb1
    refine Run_seq ?_
    refine Run_reg 2 (by kernel_rfl) (L' := [(2, .slice none 0 0), (3, .bool false)]) ?_ ?_
    · refine QRun_b [.slice none 0 0, .bool false] 0 _ (by kernel_rfl) (fun w => by kernel_rfl) ?_
      exact QRun_done [2, 3] (by kernel_rfl) (by kernel_rfl)
    have hF := M.ret_some hF
    subst hF
    have H3 := H2.empty cd2
    have H4 : Hold h h1 [own cd2 none 0 0 []] := H3.pick [0] (by kernel_rfl)
    exact Run_ret2 rfl (ResV_tmp (v := .slice none 0 0) (by kernel_rfl)) (ResV_tmp (v := .bool false) (by kernel_rfl)) ⟨none, 0, rfl, H4⟩
  · have hF := (M.ite_some hF).2 hb1
    refine Run_skip ?_
    refine Run_seq ?_
    refine Run_ops ?_
    refine Run_E (by kernel_rfl) ?_
    refine E_lit (C := cd2) (n := 0) (l := ([] : List Int)) (cs := []) H2 (fun w => by kernel_rfl) (Enc.nil _ _) rfl (by decide) (fun a3 h2 H5 => ?_)
    refine Run_b [.slice a3 0 0] 1 _ (by kernel_rfl) (fun w => by kernel_rfl) ?_
    refine Run_nil (by kernel_rfl) ?_
    refine Run_keep [0, 4, 6, 7] (L' := [(0, .slice aa_ a_.length ca_), (4, .slice a1 x1.1.length c1), (6, .int .i64 (w64 ((x1.1.length : Int) - 1))), (7, .slice a3 0 0)]) (by kernel_rfl) ?_
    refine Run_seq ?_
    refine Run_seq ?_
    refine Run_reg 1 (by kernel_rfl) (L' := [(0, .slice aa_ a_.length ca_), (4, .slice a1 x1.1.length c1), (6, .int .i64 (w64 ((x1.1.length : Int) - 1))), (7, .slice a3 0 0), (8, .int .i64 0)]) ?_ ?_
    · refine QRun_b [.int .i64 0] 0 _ (by kernel_rfl) (fun w => by kernel_rfl) ?_
      exact QRun_done [0, 4, 6, 7, 8] (by kernel_rfl) (by kernel_rfl)
    obtain ⟨x3, gx3, hF⟩ := M.bind_some hF
    obtain ⟨hloy1, hhiy1, gx3⟩ := M.for_start gx3
    refine Run_join (fun L' h' => ∃ (a5 : Option Addr) (c4 : Nat), L' = [(7, .slice a5 x3.2.length c4)] ∧ Hold h h' [own cd2 a5 x3.2.length c4 x3.2]) ?_ ?_
    · rintro _ h4 ⟨a5, c4, rfl, H7⟩
      refine Run_seq ?_
      refine Run_reg 3 (by kernel_rfl) (L' := [(2, .slice a5 x3.2.length c4), (3, .bool true)]) ?_ ?_
      · refine QRun_b [.slice a5 x3.2.length c4, .slice a5 x3.2.length c4, .bool true] 0 _ (by kernel_rfl) (fun w => by kernel_rfl) ?_
        exact QRun_done [2, 3] (by kernel_rfl) (by kernel_rfl)
      have hF := M.ret_some hF
      subst hF
      exact Run_ret2 rfl (ResV_tmp (v := .slice a5 x3.2.length c4) (by kernel_rfl)) (ResV_tmp (v := .bool true) (by kernel_rfl)) ⟨a5, c4, rfl, H7⟩
    · refine Run_block ?_
      have hn1 := (H5.len 0 rfl)
      have H26 : Hold h h2 [own cd2 a3 (([] : List Int).length) 0 ([] : List Int), own cd2 a1 x1.1.length c1 x1.1, own cd2 a2 x1.2.length c2 x1.2] := by rw [hn1]; exact H5
      have H27 : Hold h h2 [own cd2 a1 x1.1.length c1 x1.1, own cd2 a3 (([] : List Int).length) 0 ([] : List Int)] := H26.pick [1, 0] (by kernel_rfl)
      refine Run_keep [0, 4, 6, 7, 8] (L' := [(0, .slice aa_ a_.length ca_), (4, .slice a1 x1.1.length c1), (6, .int .i64 (w64 ((x1.1.length : Int) - 1))), (7, .slice a3 (([] : List Int).length) 0), (8, .int .i64 0)]) (by first | (rw [hn1]; kernel_rfl) | (simp only [hn1]; kernel_rfl) | kernel_rfl) ?_
      refine Run_loop (fun m L' h' => ∃ (i1 : Int) (s1 : Int × (List Int)) (a4 : Option Addr) (c3 : Nat), 0 ≤ i1 ∧ M.forN (a_.length : Int) _ _ n m i1 s1 = some x3 ∧ L' = [(0, .slice aa_ a_.length ca_), (4, .slice a1 x1.1.length c1), (6, .int .i64 s1.1), (7, .slice a4 s1.2.length c3), (8, .int .i64 i1)] ∧ Hold h h' [own cd2 a1 x1.1.length c1 x1.1, own cd2 a4 s1.2.length c3 s1.2]) ((a_.length : Int) - 0 : Int).toNat ⟨0, ((w64 ((x1.1.length : Int) - 1)), ([] : List Int)), a3, 0, Int.le_refl _, gx3, rfl, H27⟩ ?_
      rintro my1 _ h3 ⟨i1, s1, a4, c3, hloy1', gx3, rfl, H6⟩
      refine Run_seq ?_
      refine Run_seq ?_
      refine Run_reg 4 (by kernel_rfl) (L' := [(0, .slice aa_ a_.length ca_), (4, .slice a1 x1.1.length c1), (6, .int .i64 s1.1), (7, .slice a4 s1.2.length c3), (8, .int .i64 i1), (27, .bool (decide (i1 < (a_.length : Int))))]) ?_ ?_
      · refine QRun_b [.int .i64 i1, .slice aa_ a_.length ca_, .int .i64 (a_.length : Int), .bool (decide (i1 < (a_.length : Int)))] 0 _ (by kernel_rfl) (fun w => by kernel_rfl) ?_
        exact QRun_done [0, 4, 6, 7, 8, 27] (by kernel_rfl) (by kernel_rfl)
      refine Run_cond (b := decide (i1 < (a_.length : Int))) (by kernel_rfl) (fun hb2 => ?_) (fun hb2 => ?_)
      · obtain ⟨my1, y1, rfl, hB1, hgoy1, houty1⟩ := M.for_go gx3 hb2
        have hlty1 := of_decide_eq_true hb2
        refine Run_skip ?_
        refine Run_seq ?_
        refine Run_block ?_
        refine Run_seq ?_
        refine Run_reg 1 (by kernel_rfl) (L' := [(0, .slice aa_ a_.length ca_), (4, .slice a1 x1.1.length c1), (6, .int .i64 s1.1), (7, .slice a4 s1.2.length c3), (8, .int .i64 i1), (9, .int .i64 0)]) ?_ ?_
        · refine QRun_b [.int .i64 0] 0 _ (by kernel_rfl) (fun w => by kernel_rfl) ?_
          exact QRun_done [0, 4, 6, 7, 8, 9] (by kernel_rfl) (by kernel_rfl)
        obtain ⟨x4, gx4, hB1⟩ := M.bind_some hB1
        obtain ⟨hloy2, hhiy2, gx4⟩ := M.for_start gx4
        refine Run_join (fun L' h' => ∃ (a7 : Option Addr) (c6 : Nat), L' = [(0, .slice aa_ a_.length ca_), (4, .slice a1 x1.1.length c1), (6, .int .i64 x4.1), (7, .slice a7 x4.2.length c6), (8, .int .i64 i1)] ∧ Hold h h' [own cd2 a1 x1.1.length c1 x1.1, own cd2 a7 x4.2.length c6 x4.2]) ?_ ?_
        · rintro _ h6 ⟨a7, c6, rfl, H9⟩
          refine Run_blk ?_
          refine Run_reg 3 (by kernel_rfl) (L' := [(0, .slice aa_ a_.length ca_), (4, .slice a1 x1.1.length c1), (6, .int .i64 x4.1), (7, .slice a7 x4.2.length c6), (8, .int .i64 (i1 + 1))]) ?_ ?_
          · refine QRun_b [.int .i64 i1] 0 _ (by kernel_rfl) (fun w => by kernel_rfl) ?_
            refine QRun_y (.int .i64 (i1 + 1)) (by kernel_rfl) (Y_eq (v := .int .i64 (w64 (i1 + 1))) (Y_pure (fun w => by kernel_rfl)) (by rw [w64_eq _ (by omega)])) ?_
            refine QRun_b [.int .i64 (i1 + 1)] 2 _ (by kernel_rfl) (fun w => by kernel_rfl) ?_
            exact QRun_done [0, 4, 6, 7, 8] (by kernel_rfl) (by kernel_rfl)
          have H20 : Hold h h6 [own cd2 a7 x4.2.length c6 x4.2, own cd2 a1 x1.1.length c1 x1.1] := H9.pick [1, 0] (by kernel_rfl)
          have H21 : Hold h h6 [own cd2 a1 x1.1.length c1 x1.1, own cd2 a7 x4.2.length c6 x4.2] := H20.pick [1, 0] (by kernel_rfl)
          have hB1 := M.ret_some hB1
          have gx3 := hgoy1 _ hB1.symm
          exact Run_again [0, 4, 6, 7, 8] (by kernel_rfl) my1 (Nat.lt_succ_self _) ⟨i1 + 1, (x4.1, x4.2), a7, c6, by omega, gx3, rfl, H21⟩
        · refine Run_block ?_
          have H22 : Hold h h3 [own cd2 a4 s1.2.length c3 s1.2, own cd2 a1 x1.1.length c1 x1.1] := H6.pick [1, 0] (by kernel_rfl)
          have H23 : Hold h h3 [own cd2 a1 x1.1.length c1 x1.1, own cd2 a4 s1.2.length c3 s1.2] := H22.pick [1, 0] (by kernel_rfl)
          refine Run_keep [0, 4, 6, 7, 8, 9] (L' := [(0, .slice aa_ a_.length ca_), (4, .slice a1 x1.1.length c1), (6, .int .i64 s1.1), (7, .slice a4 s1.2.length c3), (8, .int .i64 i1), (9, .int .i64 0)]) (by kernel_rfl) ?_
          refine Run_loop (fun m L' h' => ∃ (i2 : Int) (s2 : Int × (List Int)) (a6 : Option Addr) (c5 : Nat), 0 ≤ i2 ∧ M.forN (a_.length : Int) _ _ n m i2 s2 = some x4 ∧ L' = [(0, .slice aa_ a_.length ca_), (4, .slice a1 x1.1.length c1), (6, .int .i64 s2.1), (7, .slice a6 s2.2.length c5), (8, .int .i64 i1), (9, .int .i64 i2)] ∧ Hold h h' [own cd2 a1 x1.1.length c1 x1.1, own cd2 a6 s2.2.length c5 s2.2]) ((a_.length : Int) - 0 : Int).toNat ⟨0, (s1.1, s1.2), a4, c3, Int.le_refl _, gx4, rfl, H23⟩ ?_
          rintro my2 _ h5 ⟨i2, s2, a6, c5, hloy2', gx4, rfl, H8⟩
          refine Run_seq ?_
          refine Run_seq ?_
          refine Run_reg 4 (by kernel_rfl) (L' := [(0, .slice aa_ a_.length ca_), (4, .slice a1 x1.1.length c1), (6, .int .i64 s2.1), (7, .slice a6 s2.2.length c5), (8, .int .i64 i1), (9, .int .i64 i2), (33, .bool (decide (i2 < (a_.length : Int))))]) ?_ ?_
          · refine QRun_b [.int .i64 i2, .slice aa_ a_.length ca_, .int .i64 (a_.length : Int), .bool (decide (i2 < (a_.length : Int)))] 0 _ (by kernel_rfl) (fun w => by kernel_rfl) ?_
            exact QRun_done [0, 4, 6, 7, 8, 9, 33] (by kernel_rfl) (by kernel_rfl)
          refine Run_cond (b := decide (i2 < (a_.length : Int))) (by kernel_rfl) (fun hb3 => ?_) (fun hb3 => ?_)
          · obtain ⟨my2, y2, rfl, hB2, hgoy2, houty2⟩ := M.for_go gx4 hb3
            have hlty2 := of_decide_eq_true hb3
            refine Run_skip ?_
            refine Run_seq ?_
            refine Run_block ?_
            refine Run_seq ?_
            obtain ⟨u1, hz1, hB2⟩ := M.bind_some hB2
            have hz1 := M.guard_some hz1
            obtain ⟨x5, gx5, hB2⟩ := M.bind_some hB2
            obtain ⟨x8, gx8, hB2⟩ := M.bind_some hB2
            refine Run_draw 39 mixed (by kernel_rfl) (by kernel_rfl) (L' := [(0, .slice aa_ a_.length ca_), (4, .slice a1 x1.1.length c1), (6, .int .i64 s2.1), (7, .slice a6 s2.2.length c5), (8, .int .i64 i1), (9, .int .i64 i2), (74, .bool x8)]) ?_ ?_
            · refine QRun_b [.int .i64 s2.1, .int .i64 i2, .int .u64 (IntKind.u64.wrap (i2))] 0 _ (by kernel_rfl) (fun w => by kernel_rfl) ?_
              refine QRun_y (.int .i64 (ishr .i64 s2.1 (IntKind.u64.wrap (i2)))) (by kernel_rfl) (Y_shr (k := .i64) (x := s2.1) (kk := .u64) (y := IntKind.u64.wrap (i2)) (by kernel_rfl) hz1) ?_
              refine QRun_b [.int .i64 (ibit .and .i64 (ishr .i64 s2.1 (IntKind.u64.wrap (i2))) 1), .bool ((ibit .and .i64 (ishr .i64 s2.1 (IntKind.u64.wrap (i2))) 1) == 1)] 4 _ (by kernel_rfl) (fun w => by kernel_rfl) ?_
              refine QRun_seq 16 [(0, .slice aa_ a_.length ca_), (4, .slice a1 x1.1.length c1), (6, .int .i64 s2.1), (7, .slice a6 s2.2.length c5), (8, .int .i64 i1), (9, .int .i64 i2), (51, .bool x5)] ?_ ?_
              · rcases Bool.eq_false_or_eq_true ((ibit .and .i64 (ishr .i64 s2.1 (IntKind.u64.wrap (i2))) 1) == 1) with hb4 | hb4
                · refine QRun_bool ((ibit .and .i64 (ishr .i64 s2.1 (IntKind.u64.wrap (i2))) 1) == 1) true (by kernel_rfl) (fun w => by kernel_rfl) hb4 ?_
                  have gx5 := (M.ite_some gx5).1 hb4
                  obtain ⟨x6, hx3, gx5⟩ := M.bind_some gx5
                  obtain ⟨hx3l, hx3u, hx3⟩ := M.idx_some hx3
                  obtain ⟨a8, c7, hc1, r1⟩ := ra_.row hx3
                  obtain ⟨x7, hx4, gx5⟩ := M.bind_some gx5
                  obtain ⟨hx4l, hx4u, hx4⟩ := M.idx_some hx4
                  have gx5 := M.ret_some gx5
                  refine QRun_b [.slice aa_ a_.length ca_, .int .i64 i1] 7 _ (by kernel_rfl) (fun w => by kernel_rfl) ?_
                  refine QRun_y (.pointer (some (adr aa_ (i1.toNat * 1)))) (by kernel_rfl) (Y_idx (t := 37) (e := 39) (sz := 1) (a := aa_) (n := a_.length) (cap := ca_) (kk := .i64) (i := i1) (by kernel_rfl) Try.underlying37 (by kernel_rfl) ((ra_.at H8.ext).cell hx3).1 hx3l hx3u) ?_
                  refine QRun_y (.slice a8 x6.length c7) (by kernel_rfl) (Y_load1 (t := 39) (p := adr aa_ (i1.toNat * 1)) (v := .slice a8 x6.length c7) (by kernel_rfl) (fun w => by kernel_rfl) (cell_at H8.ext hc1)) ?_
                  refine QRun_b [.int .i64 i2] 11 _ (by kernel_rfl) (fun w => by kernel_rfl) ?_
                  refine QRun_y (.pointer (some (adr a8 (i2.toNat * 1)))) (by kernel_rfl) (Y_idx (t := 39) (e := 2) (sz := 1) (a := a8) (n := x6.length) (cap := c7) (kk := .i64) (i := i2) (by kernel_rfl) Try.underlying39 (by kernel_rfl) ((r1.at H8.ext).cell hx4).1 hx4l hx4u) ?_
                  refine QRun_y (.int .i64 x7) (by kernel_rfl) (Y_load1 (t := 2) (p := adr a8 (i2.toNat * 1)) (v := .int .i64 x7) (by kernel_rfl) (fun w => by kernel_rfl) (cd2_cell (r1.at H8.ext) hx4)) ?_
                  refine QRun_b [.bool (x7 != (-1000000000000000))] 14 _ (by kernel_rfl) (fun w => by kernel_rfl) ?_
                  refine QRun_bool (x7 != (-1000000000000000)) x5 (by kernel_rfl) (fun w => by kernel_rfl) gx5 ?_
                  exact QRun_done [0, 4, 6, 7, 8, 9, 51] (by kernel_rfl) (by kernel_rfl)
                · refine QRun_bool ((ibit .and .i64 (ishr .i64 s2.1 (IntKind.u64.wrap (i2))) 1) == 1) false (by kernel_rfl) (fun w => by kernel_rfl) hb4 ?_
                  have gx5 := M.ret_some ((M.ite_some gx5).2 hb4)
                  refine QRun_n (by kernel_rfl) ?_
                  refine QRun_n (by kernel_rfl) ?_
                  refine QRun_n (by kernel_rfl) ?_
                  refine QRun_n (by kernel_rfl) ?_
                  refine QRun_n (by kernel_rfl) ?_
                  refine QRun_n (by kernel_rfl) ?_
                  refine QRun_n (by kernel_rfl) ?_
                  refine QRun_n (by kernel_rfl) ?_
                  refine QRun_bool false x5 (by kernel_rfl) (fun w => by kernel_rfl) gx5 ?_
                  exact QRun_done [0, 4, 6, 7, 8, 9, 51] (by kernel_rfl) (by kernel_rfl)
              refine QRun_seq 39 [(0, .slice aa_ a_.length ca_), (4, .slice a1 x1.1.length c1), (6, .int .i64 s2.1), (7, .slice a6 s2.2.length c5), (8, .int .i64 i1), (9, .int .i64 i2), (74, .bool x8)] ?_ ?_
              · rcases Bool.eq_false_or_eq_true x5 with hb5 | hb5
                · refine QRun_bool x5 true (by kernel_rfl) (fun w => by kernel_rfl) hb5 ?_
                  have gx8 := (M.ite_some gx8).1 hb5
                  obtain ⟨x9, hx5, gx8⟩ := M.bind_some gx8
                  obtain ⟨hx5l, hx5u, hx5⟩ := M.idx_some hx5
                  obtain ⟨a9, c8, hc2, r2⟩ := ra_.row hx5
                  obtain ⟨x10, hx6, gx8⟩ := M.bind_some gx8
                  obtain ⟨hx6l, hx6u, hx6⟩ := M.idx_some hx6
                  obtain ⟨u2, hz2, gx8⟩ := M.bind_some gx8
                  have hz2 := M.guard_some hz2
                  obtain ⟨x11, hx7, gx8⟩ := M.bind_some gx8
                  obtain ⟨hx7l, hx7u, hx7⟩ := M.idx_some hx7
                  obtain ⟨x12, hx8, gx8⟩ := M.bind_some gx8
                  obtain ⟨x13, hx9, gx8⟩ := M.bind_some gx8
                  obtain ⟨hx9l, hx9u, hx9⟩ := M.idx_some hx9
                  have gx8 := M.ret_some gx8
                  refine QRun_b [.slice aa_ a_.length ca_, .int .i64 i1] 17 _ (by kernel_rfl) (fun w => by kernel_rfl) ?_
                  refine QRun_y (.pointer (some (adr aa_ (i1.toNat * 1)))) (by kernel_rfl) (Y_idx (t := 37) (e := 39) (sz := 1) (a := aa_) (n := a_.length) (cap := ca_) (kk := .i64) (i := i1) (by kernel_rfl) Try.underlying37 (by kernel_rfl) ((ra_.at H8.ext).cell hx5).1 hx5l hx5u) ?_
                  refine QRun_y (.slice a9 x9.length c8) (by kernel_rfl) (Y_load1 (t := 39) (p := adr aa_ (i1.toNat * 1)) (v := .slice a9 x9.length c8) (by kernel_rfl) (fun w => by kernel_rfl) (cell_at H8.ext hc2)) ?_
                  refine QRun_b [.int .i64 i2] 21 _ (by kernel_rfl) (fun w => by kernel_rfl) ?_
                  refine QRun_y (.pointer (some (adr a9 (i2.toNat * 1)))) (by kernel_rfl) (Y_idx (t := 39) (e := 2) (sz := 1) (a := a9) (n := x9.length) (cap := c8) (kk := .i64) (i := i2) (by kernel_rfl) Try.underlying39 (by kernel_rfl) ((r2.at H8.ext).cell hx6).1 hx6l hx6u) ?_
                  refine QRun_y (.int .i64 x10) (by kernel_rfl) (Y_load1 (t := 2) (p := adr a9 (i2.toNat * 1)) (v := .int .i64 x10) (by kernel_rfl) (fun w => by kernel_rfl) (cd2_cell (r2.at H8.ext) hx6)) ?_
                  refine QRun_b [.slice a1 x1.1.length c1, .int .i64 s2.1, .int .i64 i2, .int .u64 (IntKind.u64.wrap (i2))] 24 _ (by kernel_rfl) (fun w => by kernel_rfl) ?_
                  refine QRun_y (.int .i64 (ishl .i64 1 (IntKind.u64.wrap (i2)))) (by kernel_rfl) (Y_shl (k := .i64) (x := 1) (kk := .u64) (y := IntKind.u64.wrap (i2)) (by kernel_rfl) hz2) ?_
                  refine QRun_b [.int .i64 (w64 (s2.1 - (ishl .i64 1 (IntKind.u64.wrap (i2)))))] 29 _ (by kernel_rfl) (fun w => by kernel_rfl) ?_
                  refine QRun_y (.pointer (some (adr a1 ((w64 (s2.1 - (ishl .i64 1 (IntKind.u64.wrap (i2))))).toNat * 1)))) (by kernel_rfl) (Y_idx (t := 39) (e := 2) (sz := 1) (a := a1) (n := x1.1.length) (cap := c1) (kk := .i64) (i := w64 (s2.1 - (ishl .i64 1 (IntKind.u64.wrap (i2))))) (by kernel_rfl) Try.underlying39 (by kernel_rfl) ((H8.rd 0 rfl).cell hx7).1 hx7l hx7u) ?_
                  refine QRun_y (.int .i64 x11) (by kernel_rfl) (Y_load1 (t := 2) (p := adr a1 ((w64 (s2.1 - (ishl .i64 1 (IntKind.u64.wrap (i2))))).toNat * 1)) (v := .int .i64 x11) (by kernel_rfl) (fun w => by kernel_rfl) (cd2_cell (H8.rd 0 rfl) hx7)) ?_
                  refine QRun_y (.int .i64 x12) (by kernel_rfl) (Y_callq (f := 117) (args := #[.int .i64 x10, .int .i64 x11]) (v := .int .i64 x12) (by kernel_rfl) (w_spec_l01Times h5 x10 x11 _ _ hx8)) ?_
                  refine QRun_b [.slice a1 x1.1.length c1, .int .i64 s2.1] 33 _ (by kernel_rfl) (fun w => by kernel_rfl) ?_
                  refine QRun_y (.pointer (some (adr a1 (s2.1.toNat * 1)))) (by kernel_rfl) (Y_idx (t := 39) (e := 2) (sz := 1) (a := a1) (n := x1.1.length) (cap := c1) (kk := .i64) (i := s2.1) (by kernel_rfl) Try.underlying39 (by kernel_rfl) ((H8.rd 0 rfl).cell hx9).1 hx9l hx9u) ?_
                  refine QRun_y (.int .i64 x13) (by kernel_rfl) (Y_load1 (t := 2) (p := adr a1 (s2.1.toNat * 1)) (v := .int .i64 x13) (by kernel_rfl) (fun w => by kernel_rfl) (cd2_cell (H8.rd 0 rfl) hx9)) ?_
                  refine QRun_b [.bool (x12 == x13)] 37 _ (by kernel_rfl) (fun w => by kernel_rfl) ?_
                  refine QRun_bool (x12 == x13) x8 (by kernel_rfl) (fun w => by kernel_rfl) gx8 ?_
                  exact QRun_done [0, 4, 6, 7, 8, 9, 74] (by kernel_rfl) (by kernel_rfl)
                · refine QRun_bool x5 false (by kernel_rfl) (fun w => by kernel_rfl) hb5 ?_
                  have gx8 := M.ret_some ((M.ite_some gx8).2 hb5)
                  refine QRun_n (by kernel_rfl) ?_
                  refine QRun_n (by kernel_rfl) ?_
                  refine QRun_n (by kernel_rfl) ?_
                  refine QRun_n (by kernel_rfl) ?_
                  refine QRun_n (by kernel_rfl) ?_
                  refine QRun_n (by kernel_rfl) ?_
                  refine QRun_n (by kernel_rfl) ?_
                  refine QRun_n (by kernel_rfl) ?_
                  refine QRun_n (by kernel_rfl) ?_
                  refine QRun_n (by kernel_rfl) ?_
                  refine QRun_n (by kernel_rfl) ?_
                  refine QRun_n (by kernel_rfl) ?_
                  refine QRun_n (by kernel_rfl) ?_
                  refine QRun_n (by kernel_rfl) ?_
                  refine QRun_n (by kernel_rfl) ?_
                  refine QRun_n (by kernel_rfl) ?_
                  refine QRun_n (by kernel_rfl) ?_
                  refine QRun_n (by kernel_rfl) ?_
                  refine QRun_n (by kernel_rfl) ?_
                  refine QRun_n (by kernel_rfl) ?_
                  refine QRun_n (by kernel_rfl) ?_
                  refine QRun_bool false x8 (by kernel_rfl) (fun w => by kernel_rfl) gx8 ?_
                  exact QRun_done [0, 4, 6, 7, 8, 9, 74] (by kernel_rfl) (by kernel_rfl)
              exact QRun_done [0, 4, 6, 7, 8, 9, 74] (by kernel_rfl) (by kernel_rfl)
            refine Run_cond (b := x8) (by kernel_rfl) (fun hb6 => ?_) (fun hb6 => ?_)
            · have hB2 := (M.ite_some hB2).1 hb6
              refine Run_seq ?_
              refine Run_ops ?_
              refine Run_b [.slice a6 s2.2.length c5, .int .i64 i2] 0 _ (by kernel_rfl) (fun w => by kernel_rfl) ?_
              refine Run_E (by kernel_rfl) ?_
              refine E_lit (C := cd2) (n := 1) (l := ([i2] : List Int)) (cs := [.int .i64 i2]) H8 (fun w => by kernel_rfl) (Enc.consE (cd2_own i2 _) (Enc.nil _ _) rfl) rfl (by decide) (fun a10 h7 H10 => ?_)
              obtain ⟨l1, hl1, hB2⟩ := M.bind_some hB2
              have hl1 := M.app_some hl1
              have H11 : Hold h h7 [own cd2 a6 s2.2.length c5 s2.2, own cd2 a10 1 1 ([i2] : List Int), own cd2 a1 x1.1.length c1 x1.1] := H10.pick [2, 0, 1] (by kernel_rfl)
              have H12 : Hold h h7 [own cd2 a10 1 1 ([i2] : List Int), own cd2 a6 s2.2.length c5 s2.2, own cd2 a1 x1.1.length c1 x1.1] := H11.pick [1, 0, 2] (by kernel_rfl)
              have H13 : Hold h h7 [own cd2 a6 s2.2.length c5 s2.2, own cd2 a10 1 1 ([i2] : List Int), own cd2 a1 x1.1.length c1 x1.1] := H12.pick [1, 0, 2] (by kernel_rfl)
              refine Run_E (by kernel_rfl) ?_
              refine E_app (C := cd2) (t := 39) (ty := 39) (n := s2.2.length) (m := 1) H13 cd2_ti rfl Try.underlying39 (by decide) (by kernel_rfl) hl1 (fun a11 c9 h8 H14 => ?_)
              refine Run_b [.slice a11 l1.length c9] 4 _ (by kernel_rfl) (fun w => by kernel_rfl) ?_
              refine Run_nil (by kernel_rfl) ?_
              refine Run_keep [0, 4, 6, 7, 8, 9] (L' := [(0, .slice aa_ a_.length ca_), (4, .slice a1 x1.1.length c1), (6, .int .i64 s2.1), (7, .slice a11 l1.length c9), (8, .int .i64 i1), (9, .int .i64 i2)]) (by kernel_rfl) ?_
              refine Run_seq ?_
              obtain ⟨u3, hz3, hB2⟩ := M.bind_some hB2
              have hz3 := M.guard_some hz3
              refine Run_reg 6 (by kernel_rfl) (L' := [(0, .slice aa_ a_.length ca_), (4, .slice a1 x1.1.length c1), (6, .int .i64 (w64 (s2.1 - (ishl .i64 1 (IntKind.u64.wrap (i2)))))), (7, .slice a11 l1.length c9), (8, .int .i64 i1)]) ?_ ?_
              · refine QRun_b [.int .i64 s2.1, .int .i64 i2, .int .u64 (IntKind.u64.wrap (i2))] 0 _ (by kernel_rfl) (fun w => by kernel_rfl) ?_
                refine QRun_y (.int .i64 (ishl .i64 1 (IntKind.u64.wrap (i2)))) (by kernel_rfl) (Y_shl (k := .i64) (x := 1) (kk := .u64) (y := IntKind.u64.wrap (i2)) (by kernel_rfl) hz3) ?_
                refine QRun_b [.int .i64 (w64 (s2.1 - (ishl .i64 1 (IntKind.u64.wrap (i2))))), .int .i64 (w64 (s2.1 - (ishl .i64 1 (IntKind.u64.wrap (i2)))))] 4 _ (by kernel_rfl) (fun w => by kernel_rfl) ?_
                exact QRun_done [0, 4, 6, 7, 8] (by kernel_rfl) (by kernel_rfl)
              refine Run_exit (k' := _) rfl ?_
              have H15 : Hold h h8 [own cd2 a1 x1.1.length c1 x1.1, own cd2 a11 l1.length c9 l1] := H14.pick [1, 0] (by kernel_rfl)
              have hB2 := M.ret_some hB2
              have gx4 := houty2 _ hB2.symm
              subst gx4
              exact Run_fall [0, 4, 6, 7, 8] (by kernel_rfl) ⟨a11, c9, rfl, H15⟩
            · have hB2 := (M.ite_some hB2).2 hb6
              refine Run_skip ?_
              refine Run_blk ?_
              refine Run_reg 3 (by kernel_rfl) (L' := [(0, .slice aa_ a_.length ca_), (4, .slice a1 x1.1.length c1), (6, .int .i64 s2.1), (7, .slice a6 s2.2.length c5), (8, .int .i64 i1), (9, .int .i64 (i2 + 1))]) ?_ ?_
              · refine QRun_b [.int .i64 i2] 0 _ (by kernel_rfl) (fun w => by kernel_rfl) ?_
                refine QRun_y (.int .i64 (i2 + 1)) (by kernel_rfl) (Y_eq (v := .int .i64 (w64 (i2 + 1))) (Y_pure (fun w => by kernel_rfl)) (by rw [w64_eq _ (by omega)])) ?_
                refine QRun_b [.int .i64 (i2 + 1)] 2 _ (by kernel_rfl) (fun w => by kernel_rfl) ?_
                exact QRun_done [0, 4, 6, 7, 8, 9] (by kernel_rfl) (by kernel_rfl)
              have H16 : Hold h h5 [own cd2 a6 s2.2.length c5 s2.2, own cd2 a1 x1.1.length c1 x1.1] := H8.pick [1, 0] (by kernel_rfl)
              have H17 : Hold h h5 [own cd2 a1 x1.1.length c1 x1.1, own cd2 a6 s2.2.length c5 s2.2] := H16.pick [1, 0] (by kernel_rfl)
              have hB2 := M.ret_some hB2
              have gx4 := hgoy2 _ hB2.symm
              exact Run_again [0, 4, 6, 7, 8, 9] (by kernel_rfl) my2 (Nat.lt_succ_self _) ⟨i2 + 1, (s2.1, s2.2), a6, c5, by omega, gx4, rfl, H17⟩
          · have gx4 := M.for_end gx4 hb3
            subst gx4
            refine Run_exit (k' := _) rfl ?_
            have H18 : Hold h h5 [own cd2 a6 s2.2.length c5 s2.2, own cd2 a1 x1.1.length c1 x1.1] := H8.pick [1, 0] (by kernel_rfl)
            have H19 : Hold h h5 [own cd2 a1 x1.1.length c1 x1.1, own cd2 a6 s2.2.length c5 s2.2] := H18.pick [1, 0] (by kernel_rfl)
            exact Run_fall [0, 4, 6, 7, 8] (by kernel_rfl) ⟨a6, c5, rfl, H19⟩
      · have gx3 := M.for_end gx3 hb2
        subst gx3
        refine Run_exit (k' := _) rfl ?_
        have H24 : Hold h h3 [own cd2 a4 s1.2.length c3 s1.2, own cd2 a1 x1.1.length c1 x1.1] := H6.pick [1, 0] (by kernel_rfl)
        have H25 : Hold h h3 [own cd2 a4 s1.2.length c3 s1.2] := H24.pick [0] (by kernel_rfl)
        exact Run_fall [7] (by kernel_rfl) ⟨a4, c3, rfl, H25⟩

set_option maxRecDepth 100000 in
set_option maxHeartbeats 4000000 in
theorem w_spec_BestAssignment (h : Heap) (a_ : List (List Int)) (aa_ : Option Addr) (ca_ : Nat) (ra_ : Rd cd39 h (Lt h) aa_ ca_ a_) (n : Nat) (r : (List Int) × Int) (hF : spec_BestAssignment a_ n = some r) :
    Fn Try.prog 55 #[.slice aa_ a_.length ca_] h fun v h' => ∃ (a0 : Option Addr) (c0 : Nat), v = .tuple #[.slice a0 r.1.length c0, .int .i64 r.2] ∧ Hold h h' [own cd2 a0 r.1.length c0 r.1] := by
  unfold spec_BestAssignment at hF
  refine Fn_enter (args := [.slice aa_ a_.length ca_]) Try.func55 rfl (by kernel_rfl) (by kernel_rfl) (fun w0 _ => ?_)
  have H0 := Hold.init h
  refine Run_seq ?_
  refine Run_reg 2 (by kernel_rfl) (L' := [(0, .slice aa_ a_.length ca_)]) ?_ ?_
  · refine QRun_b [.slice none 0 0, .int .i64 0] 0 _ (by kernel_rfl) (fun w => by kernel_rfl) ?_
    exact QRun_done [0] (by kernel_rfl) (by kernel_rfl)
  refine Run_seq ?_
  refine Run_seq ?_
  obtain ⟨x1, hx1, hF⟩ := M.bind_some hF
  refine Run_reg 3 (by kernel_rfl) (L' := [(0, .slice aa_ a_.length ca_), (8, .bool (!x1))]) ?_ ?_
  · refine QRun_b [.slice aa_ a_.length ca_] 0 _ (by kernel_rfl) (fun w => by kernel_rfl) ?_
    refine QRun_y (.bool x1) (by kernel_rfl) (Y_callq (f := 82) (args := #[.slice aa_ a_.length ca_]) (v := .bool x1) (by kernel_rfl) (w_spec_l02Square h a_ aa_ ca_ ra_ _ _ hx1)) ?_
    refine QRun_b [.bool (!x1)] 2 _ (by kernel_rfl) (fun w => by kernel_rfl) ?_
    exact QRun_done [0, 8] (by kernel_rfl) (by kernel_rfl)
  refine Run_cond (b := !x1) (by kernel_rfl) (fun hb1 => ?_) (fun hb1 => ?_)
  · have hF := (M.ite_some hF).1 hb1
    refine Run_seq ?_
    refine Run_reg 2 (by kernel_rfl) (L' := [(2, .slice none 0 0), (3, .int .i64 1)]) ?_ ?_
    · refine QRun_b [.slice none 0 0, .int .i64 1] 0 _ (by kernel_rfl) (fun w => by kernel_rfl) ?_
      exact QRun_done [2, 3] (by kernel_rfl) (by kernel_rfl)
    have hF := M.ret_some hF
    subst hF
    have H1 := H0.empty cd2
    exact Run_ret2 rfl (ResV_tmp (v := .slice none 0 0) (by kernel_rfl)) (ResV_tmp (v := .int .i64 1) (by kernel_rfl)) ⟨none, 0, rfl, H1⟩
  · have hF := (M.ite_some hF).2 hb1
    refine Run_skip ?_
    refine Run_seq ?_
    refine Run_ops ?_
    refine Run_b [.slice aa_ a_.length ca_] 0 _ (by kernel_rfl) (fun w => by kernel_rfl) ?_
    obtain ⟨x2, hx2, hF⟩ := M.bind_some hF
    refine Run_E (by kernel_rfl) ?_
    refine E_call (f := 83) (args := #[.slice aa_ a_.length ca_]) (w_spec_l10Assignment h a_ aa_ ca_ ra_ _ _ hx2) (by kernel_rfl) (fun v1 h1 hp1 => ?_)
    obtain ⟨a1, c1, rfl, H2⟩ := hp1
    have H3 : Hold h h1 [own cd2 a1 x2.1.length c1 x2.1] := H0.call H2 rfl
    refine Run_b [.tuple #[.slice a1 x2.1.length c1, .bool x2.2], .slice a1 x2.1.length c1, .bool x2.2, .slice a1 x2.1.length c1, .bool x2.2] 2 _ (by kernel_rfl) (fun w => by kernel_rfl) ?_
    refine Run_nil (by kernel_rfl) ?_
    refine Run_keep [4, 5] (L' := [(4, .slice a1 x2.1.length c1), (5, .bool x2.2)]) (by kernel_rfl) ?_
    refine Run_seq ?_
    refine Run_seq ?_
    refine Run_reg 2 (by kernel_rfl) (L' := [(4, .slice a1 x2.1.length c1), (15, .bool (!x2.2))]) ?_ ?_
    · refine QRun_b [.bool x2.2, .bool (!x2.2)] 0 _ (by kernel_rfl) (fun w => by kernel_rfl) ?_
      exact QRun_done [4, 15] (by kernel_rfl) (by kernel_rfl)
    refine Run_cond (b := !x2.2) (by kernel_rfl) (fun hb2 => ?_) (fun hb2 => ?_)
    · have hF := (M.ite_some hF).1 hb2
      refine Run_seq ?_
      refine Run_reg 2 (by kernel_rfl) (L' := [(2, .slice none 0 0), (3, .int .i64 4)]) ?_ ?_
      · refine QRun_b [.slice none 0 0, .int .i64 4] 0 _ (by kernel_rfl) (fun w => by kernel_rfl) ?_
        exact QRun_done [2, 3] (by kernel_rfl) (by kernel_rfl)
      have hF := M.ret_some hF
      subst hF
      have H4 := H3.empty cd2
      have H5 : Hold h h1 [own cd2 none 0 0 []] := H4.pick [0] (by kernel_rfl)
      exact Run_ret2 rfl (ResV_tmp (v := .slice none 0 0) (by kernel_rfl)) (ResV_tmp (v := .int .i64 4) (by kernel_rfl)) ⟨none, 0, rfl, H5⟩
    · have hF := (M.ite_some hF).2 hb2
      refine Run_skip ?_
      refine Run_seq ?_
      refine Run_reg 3 (by kernel_rfl) (L' := [(2, .slice a1 x2.1.length c1), (3, .int .i64 0)]) ?_ ?_
      · refine QRun_b [.slice a1 x2.1.length c1, .slice a1 x2.1.length c1, .int .i64 0] 0 _ (by kernel_rfl) (fun w => by kernel_rfl) ?_
        exact QRun_done [2, 3] (by kernel_rfl) (by kernel_rfl)
      have hF := M.ret_some hF
      subst hF
      exact Run_ret2 rfl (ResV_tmp (v := .slice a1 x2.1.length c1) (by kernel_rfl)) (ResV_tmp (v := .int .i64 0) (by kernel_rfl)) ⟨a1, c1, rfl, H3⟩

set_option maxRecDepth 100000 in
set_option maxHeartbeats 4000000 in
theorem w_impl_checkedValue (h : Heap) (n_ : Int) (n : Nat) (r : Int × Int) (hF : impl_checkedValue n_ n = some r) :
    Fn Try.prog 129 #[.int .i64 n_] h fun v h' => v = .tuple #[.int .i64 r.1, .int .i64 r.2] ∧ h' = h := by
  unfold impl_checkedValue at hF
  refine Fn_enter (args := [.int .i64 n_]) Try.func129 rfl (by kernel_rfl) (by kernel_rfl) (fun w0 _ => ?_)
  refine Run_seq ?_
  refine Run_reg 2 (by kernel_rfl) (L' := [(0, .int .i64 n_)]) ?_ ?_
  · refine QRun_b [.int .i64 0, .int .i64 0] 0 _ (by kernel_rfl) (fun w => by kernel_rfl) ?_
    exact QRun_done [0] (by kernel_rfl) (by kernel_rfl)
  refine Run_seq ?_
  refine Run_seq ?_
  obtain ⟨x1, hx1, hF⟩ := M.bind_some hF
  refine Run_reg 3 (by kernel_rfl) (L' := [(0, .int .i64 n_), (6, .bool (!x1))]) ?_ ?_
  · refine QRun_b [.int .i64 n_] 0 _ (by kernel_rfl) (fun w => by kernel_rfl) ?_
    refine QRun_y (.bool x1) (by kernel_rfl) (Y_callq (f := 159) (args := #[.int .i64 n_]) (v := .bool x1) (by kernel_rfl) (w_impl_IsValue h n_ _ _ hx1)) ?_
    refine QRun_b [.bool (!x1)] 2 _ (by kernel_rfl) (fun w => by kernel_rfl) ?_
    exact QRun_done [0, 6] (by kernel_rfl) (by kernel_rfl)
  refine Run_cond (b := !x1) (by kernel_rfl) (fun hb1 => ?_) (fun hb1 => ?_)
  · have hF := (M.ite_some hF).1 hb1
    refine Run_seq ?_
    refine Run_reg 2 (by kernel_rfl) (L' := [(2, .int .i64 0), (3, .int .i64 3)]) ?_ ?_
    · refine QRun_b [.int .i64 0, .int .i64 3] 0 _ (by kernel_rfl) (fun w => by kernel_rfl) ?_
      exact QRun_done [2, 3] (by kernel_rfl) (by kernel_rfl)
    have hF := M.ret_some hF
    subst hF
    exact Run_ret2 rfl (ResV_tmp (v := .int .i64 0) (by kernel_rfl)) (ResV_tmp (v := .int .i64 3) (by kernel_rfl)) ⟨rfl, rfl⟩
  · have hF := (M.ite_some hF).2 hb1
    refine Run_skip ?_
    refine Run_seq ?_
    refine Run_reg 3 (by kernel_rfl) (L' := [(2, .int .i64 n_), (3, .int .i64 0)]) ?_ ?_
    · refine QRun_b [.int .i64 n_, .int .i64 n_, .int .i64 0] 0 _ (by kernel_rfl) (fun w => by kernel_rfl) ?_
      exact QRun_done [2, 3] (by kernel_rfl) (by kernel_rfl)
    have hF := M.ret_some hF
    subst hF
    exact Run_ret2 rfl (ResV_tmp (v := .int .i64 n_) (by kernel_rfl)) (ResV_tmp (v := .int .i64 0) (by kernel_rfl)) ⟨rfl, rfl⟩

set_option maxRecDepth 100000 in
set_option maxHeartbeats 4000000 in
theorem w_impl_PermanentOf (h : Heap) (a_ : List (List Int)) (aa_ : Option Addr) (ca_ : Nat) (ra_ : Rd cd39 h (Lt h) aa_ ca_ a_) (n : Nat) (r : Int × Int) (hF : impl_PermanentOf a_ n = some r) :
    Fn Try.prog 51 #[.slice aa_ a_.length ca_] h fun v h' => v = .tuple #[.int .i64 r.1, .int .i64 r.2] ∧ Hold h h' [] := by
  unfold impl_PermanentOf at hF
  refine Fn_enter (args := [.slice aa_ a_.length ca_]) Try.func51 rfl (by kernel_rfl) (by kernel_rfl) (fun w0 _ => ?_)
  have H0 := Hold.init h
  refine Run_seq ?_
  refine Run_reg 2 (by kernel_rfl) (L' := [(0, .slice aa_ a_.length ca_)]) ?_ ?_
  · refine QRun_b [.int .i64 0, .int .i64 0] 0 _ (by kernel_rfl) (fun w => by kernel_rfl) ?_
    exact QRun_done [0] (by kernel_rfl) (by kernel_rfl)
  refine Run_seq ?_
  refine Run_seq ?_
  obtain ⟨x1, hx1, hF⟩ := M.bind_some hF
  refine Run_regC (j := 3) (C := fun x => Hold h x []) (by kernel_rfl) H0 (L' := [(0, .slice aa_ a_.length ca_), (6, .bool (!x1))]) ?_ (fun h1 H1 => ?_)
  · refine QRun_b [.slice aa_ a_.length ca_] 0 _ (by kernel_rfl) (fun w => by kernel_rfl) ?_
    refine QRun_y (.bool x1) (by kernel_rfl) (Y_call (f := 89) (args := #[.slice aa_ a_.length ca_]) (v := .bool x1) (by kernel_rfl) fun hx Hx => (w_impl_isSquare hx a_ aa_ ca_ (ra_.at Hx.ext) _ _ hx1).mono fun _ _ ⟨e, H'⟩ => ⟨e, Hx.call H' rfl⟩) ?_
    refine QRun_b [.bool (!x1)] 2 _ (by kernel_rfl) (fun w => by kernel_rfl) ?_
    exact QRun_done [0, 6] (by kernel_rfl) (by kernel_rfl)
  have H2 : Hold h h1 [] := H1
  refine Run_cond (b := !x1) (by kernel_rfl) (fun hb1 => ?_) (fun hb1 => ?_)
  · have hF := (M.ite_some hF).1 hb1
    refine Run_seq ?_
    refine Run_reg 2 (by kernel_rfl) (L' := [(2, .int .i64 0), (3, .int .i64 1)]) ?_ ?_
    · refine QRun_b [.int .i64 0, .int .i64 1] 0 _ (by kernel_rfl) (fun w => by kernel_rfl) ?_
      exact QRun_done [2, 3] (by kernel_rfl) (by kernel_rfl)
    have hF := M.ret_some hF
    subst hF
    exact Run_ret2 rfl (ResV_tmp (v := .int .i64 0) (by kernel_rfl)) (ResV_tmp (v := .int .i64 1) (by kernel_rfl)) ⟨rfl, H2⟩
  · have hF := (M.ite_some hF).2 hb1
    refine Run_skip ?_
    refine Run_seq ?_
    refine Run_ops ?_
    refine Run_b [.slice aa_ a_.length ca_] 0 _ (by kernel_rfl) (fun w => by kernel_rfl) ?_
    obtain ⟨x2, hx2, hF⟩ := M.bind_some hF
    refine Run_E (by kernel_rfl) ?_
    refine E_call (f := 130) (args := #[.slice aa_ a_.length ca_]) (w_impl_permanents h1 a_ aa_ ca_ (ra_.at H2.ext) _ _ hx2) (by kernel_rfl) (fun v1 h2 hp1 => ?_)
    obtain ⟨a1, c1, rfl, H3⟩ := hp1
    have H4 : Hold h h2 [own cd127 a1 x2.length c1 x2] := H2.call H3 rfl
    obtain ⟨x3, hx3, hF⟩ := M.bind_some hF
    obtain ⟨hx3l, hx3u, hx3⟩ := M.idx_some hx3
    obtain ⟨x4, hx4, hF⟩ := M.bind_some hF
    refine Run_y (.pointer (some (adr a1 (0 * 2)))) (by kernel_rfl) (Y_idx (t := 128) (e := 127) (sz := 2) (a := a1) (n := x2.length) (cap := c1) (kk := .i64) (i := 0) (by kernel_rfl) Try.underlying128 (by kernel_rfl) ((H4.rd 0 rfl).cell hx3).1 hx3l hx3u) ?_
    refine Run_b [.pointer (some ((adr a1 (0 * 2)).add 0))] 3 _ (by kernel_rfl) (fun w => by kernel_rfl) ?_
    refine Run_y (.int .i64 x3.weight) (by kernel_rfl) (Y_load1 (t := 2) (p := (adr a1 (0 * 2)).add 0) (v := .int .i64 x3.weight) (by kernel_rfl) (fun w => by kernel_rfl) (cd127_f0 (H4.rd 0 rfl) hx3)) ?_
    refine Run_y (.tuple #[.int .i64 x4.1, .int .i64 x4.2]) (by kernel_rfl) (Y_callq (f := 129) (args := #[.int .i64 x3.weight]) (v := .tuple #[.int .i64 x4.1, .int .i64 x4.2]) (by kernel_rfl) (w_impl_checkedValue h2 x3.weight _ _ hx4)) ?_
    refine Run_b [.int .i64 x4.1, .int .i64 x4.2, .int .i64 x4.1, .int .i64 x4.2] 6 _ (by kernel_rfl) (fun w => by kernel_rfl) ?_
    refine Run_nil (by kernel_rfl) ?_
    refine Run_keep [2, 3] (L' := [(2, .int .i64 x4.1), (3, .int .i64 x4.2)]) (by kernel_rfl) ?_
    have hF := M.ret_some hF
    subst hF
    have H5 : Hold h h2 [] := H4.pick [] (by kernel_rfl)
    exact Run_ret2 rfl (ResV_tmp (v := .int .i64 x4.1) (by kernel_rfl)) (ResV_tmp (v := .int .i64 x4.2) (by kernel_rfl)) ⟨rfl, H5⟩

set_option maxRecDepth 100000 in
set_option maxHeartbeats 4000000 in
theorem w_spec_l10Top (h : Heap) (a_ : List (List Int)) (aa_ : Option Addr) (ca_ : Nat) (ra_ : Rd cd39 h (Lt h) aa_ ca_ a_) (n : Nat) (r : Int) (hF : spec_l10Top a_ n = some r) :
    Fn Try.prog 132 #[.slice aa_ a_.length ca_] h fun v h' => v = .int .i64 r ∧ Hold h h' [] := by
  unfold spec_l10Top at hF
  refine Fn_enter (args := [.slice aa_ a_.length ca_]) Try.func132 rfl (by kernel_rfl) (by kernel_rfl) (fun w0 _ => ?_)
  have H0 := Hold.init h
  refine Run_seq ?_
  refine Run_reg 1 (by kernel_rfl) (L' := [(0, .slice aa_ a_.length ca_)]) ?_ ?_
  · refine QRun_b [.int .i64 0] 0 _ (by kernel_rfl) (fun w => by kernel_rfl) ?_
    exact QRun_done [0] (by kernel_rfl) (by kernel_rfl)
  refine Run_seq ?_
  refine Run_ops ?_
  refine Run_b [.slice aa_ a_.length ca_] 0 _ (by kernel_rfl) (fun w => by kernel_rfl) ?_
  obtain ⟨x1, hx1, hF⟩ := M.bind_some hF
  refine Run_E (by kernel_rfl) ?_
  refine E_call (f := 133) (args := #[.slice aa_ a_.length ca_]) (w_spec_l10Best h a_ aa_ ca_ ra_ _ _ hx1) (by kernel_rfl) (fun v1 h1 hp1 => ?_)
  obtain ⟨a1, c1, a2, c2, rfl, H1⟩ := hp1
  have H2 : Hold h h1 [own cd2 a1 x1.1.length c1 x1.1, own cd2 a2 x1.2.length c2 x1.2] := H0.call H1 rfl
  refine Run_b [.tuple #[.slice a1 x1.1.length c1, .slice a2 x1.2.length c2], .slice a1 x1.1.length c1, .slice a2 x1.2.length c2, .slice a1 x1.1.length c1, .slice a2 x1.2.length c2] 2 _ (by kernel_rfl) (fun w => by kernel_rfl) ?_
  refine Run_nil (by kernel_rfl) ?_
  refine Run_keep [3] (L' := [(3, .slice a1 x1.1.length c1)]) (by kernel_rfl) ?_
  refine Run_seq ?_
  obtain ⟨x2, hx2, hF⟩ := M.bind_some hF
  obtain ⟨hx2l, hx2u, hx2⟩ := M.idx_some hx2
  refine Run_reg 7 (by kernel_rfl) (L' := [(2, .int .i64 x2)]) ?_ ?_
  · refine QRun_b [.slice a1 x1.1.length c1, .slice a1 x1.1.length c1, .int .i64 (x1.1.length : Int), .int .i64 (w64 ((x1.1.length : Int) - 1))] 0 _ (by kernel_rfl) (fun w => by kernel_rfl) ?_
    refine QRun_y (.pointer (some (adr a1 ((w64 ((x1.1.length : Int) - 1)).toNat * 1)))) (by kernel_rfl) (Y_idx (t := 39) (e := 2) (sz := 1) (a := a1) (n := x1.1.length) (cap := c1) (kk := .i64) (i := w64 ((x1.1.length : Int) - 1)) (by kernel_rfl) Try.underlying39 (by kernel_rfl) ((H2.rd 0 rfl).cell hx2).1 hx2l hx2u) ?_
    refine QRun_y (.int .i64 x2) (by kernel_rfl) (Y_load1 (t := 2) (p := adr a1 ((w64 ((x1.1.length : Int) - 1)).toNat * 1)) (v := .int .i64 x2) (by kernel_rfl) (fun w => by kernel_rfl) (cd2_cell (H2.rd 0 rfl) hx2)) ?_
    refine QRun_b [.int .i64 x2] 6 _ (by kernel_rfl) (fun w => by kernel_rfl) ?_
    exact QRun_done [2] (by kernel_rfl) (by kernel_rfl)
  have hF := M.ret_some hF
  subst hF
  have H3 : Hold h h1 [] := H2.pick [] (by kernel_rfl)
  exact Run_ret1 rfl (ResV_tmp (v := .int .i64 x2) (by kernel_rfl)) ⟨rfl, H3⟩

set_option maxRecDepth 100000 in
set_option maxHeartbeats 4000000 in
theorem w_spec_l01Value (h : Heap) (a_ : Int) (n : Nat) (r : Int × Int) (hF : spec_l01Value a_ n = some r) :
    Fn Try.prog 131 #[.int .i64 a_] h fun v h' => v = .tuple #[.int .i64 r.1, .int .i64 r.2] ∧ h' = h := by
  unfold spec_l01Value at hF
  refine Fn_enter (args := [.int .i64 a_]) Try.func131 rfl (by kernel_rfl) (by kernel_rfl) (fun w0 _ => ?_)
  refine Run_seq ?_
  refine Run_reg 2 (by kernel_rfl) (L' := [(0, .int .i64 a_)]) ?_ ?_
  · refine QRun_b [.int .i64 0, .int .i64 0] 0 _ (by kernel_rfl) (fun w => by kernel_rfl) ?_
    exact QRun_done [0] (by kernel_rfl) (by kernel_rfl)
  refine Run_seq ?_
  refine Run_seq ?_
  obtain ⟨x1, hx1, hF⟩ := M.bind_some hF
  refine Run_reg 3 (by kernel_rfl) (L' := [(0, .int .i64 a_), (6, .bool (!x1))]) ?_ ?_
  · refine QRun_b [.int .i64 a_] 0 _ (by kernel_rfl) (fun w => by kernel_rfl) ?_
    refine QRun_y (.bool x1) (by kernel_rfl) (Y_callq (f := 153) (args := #[.int .i64 a_]) (v := .bool x1) (by kernel_rfl) (w_spec_IsValue h a_ _ _ hx1)) ?_
    refine QRun_b [.bool (!x1)] 2 _ (by kernel_rfl) (fun w => by kernel_rfl) ?_
    exact QRun_done [0, 6] (by kernel_rfl) (by kernel_rfl)
  refine Run_cond (b := !x1) (by kernel_rfl) (fun hb1 => ?_) (fun hb1 => ?_)
  · have hF := (M.ite_some hF).1 hb1
    refine Run_seq ?_
    refine Run_reg 2 (by kernel_rfl) (L' := [(2, .int .i64 0), (3, .int .i64 3)]) ?_ ?_
    · refine QRun_b [.int .i64 0, .int .i64 3] 0 _ (by kernel_rfl) (fun w => by kernel_rfl) ?_
      exact QRun_done [2, 3] (by kernel_rfl) (by kernel_rfl)
    have hF := M.ret_some hF
    subst hF
    exact Run_ret2 rfl (ResV_tmp (v := .int .i64 0) (by kernel_rfl)) (ResV_tmp (v := .int .i64 3) (by kernel_rfl)) ⟨rfl, rfl⟩
  · have hF := (M.ite_some hF).2 hb1
    refine Run_skip ?_
    refine Run_seq ?_
    refine Run_reg 3 (by kernel_rfl) (L' := [(2, .int .i64 a_), (3, .int .i64 0)]) ?_ ?_
    · refine QRun_b [.int .i64 a_, .int .i64 a_, .int .i64 0] 0 _ (by kernel_rfl) (fun w => by kernel_rfl) ?_
      exact QRun_done [2, 3] (by kernel_rfl) (by kernel_rfl)
    have hF := M.ret_some hF
    subst hF
    exact Run_ret2 rfl (ResV_tmp (v := .int .i64 a_) (by kernel_rfl)) (ResV_tmp (v := .int .i64 0) (by kernel_rfl)) ⟨rfl, rfl⟩

set_option maxRecDepth 100000 in
set_option maxHeartbeats 4000000 in
theorem w_spec_PermanentOf (h : Heap) (a_ : List (List Int)) (aa_ : Option Addr) (ca_ : Nat) (ra_ : Rd cd39 h (Lt h) aa_ ca_ a_) (n : Nat) (r : Int × Int) (hF : spec_PermanentOf a_ n = some r) :
    Fn Try.prog 56 #[.slice aa_ a_.length ca_] h fun v h' => v = .tuple #[.int .i64 r.1, .int .i64 r.2] ∧ Hold h h' [] := by
  unfold spec_PermanentOf at hF
  refine Fn_enter (args := [.slice aa_ a_.length ca_]) Try.func56 rfl (by kernel_rfl) (by kernel_rfl) (fun w0 _ => ?_)
  have H0 := Hold.init h
  refine Run_seq ?_
  refine Run_reg 2 (by kernel_rfl) (L' := [(0, .slice aa_ a_.length ca_)]) ?_ ?_
  · refine QRun_b [.int .i64 0, .int .i64 0] 0 _ (by kernel_rfl) (fun w => by kernel_rfl) ?_
    exact QRun_done [0] (by kernel_rfl) (by kernel_rfl)
  refine Run_seq ?_
  refine Run_seq ?_
  obtain ⟨x1, hx1, hF⟩ := M.bind_some hF
  refine Run_reg 3 (by kernel_rfl) (L' := [(0, .slice aa_ a_.length ca_), (6, .bool (!x1))]) ?_ ?_
  · refine QRun_b [.slice aa_ a_.length ca_] 0 _ (by kernel_rfl) (fun w => by kernel_rfl) ?_
    refine QRun_y (.bool x1) (by kernel_rfl) (Y_callq (f := 82) (args := #[.slice aa_ a_.length ca_]) (v := .bool x1) (by kernel_rfl) (w_spec_l02Square h a_ aa_ ca_ ra_ _ _ hx1)) ?_
    refine QRun_b [.bool (!x1)] 2 _ (by kernel_rfl) (fun w => by kernel_rfl) ?_
    exact QRun_done [0, 6] (by kernel_rfl) (by kernel_rfl)
  refine Run_cond (b := !x1) (by kernel_rfl) (fun hb1 => ?_) (fun hb1 => ?_)
  · have hF := (M.ite_some hF).1 hb1
    refine Run_seq ?_
    refine Run_reg 2 (by kernel_rfl) (L' := [(2, .int .i64 0), (3, .int .i64 1)]) ?_ ?_
    · refine QRun_b [.int .i64 0, .int .i64 1] 0 _ (by kernel_rfl) (fun w => by kernel_rfl) ?_
      exact QRun_done [2, 3] (by kernel_rfl) (by kernel_rfl)
    have hF := M.ret_some hF
    subst hF
    exact Run_ret2 rfl (ResV_tmp (v := .int .i64 0) (by kernel_rfl)) (ResV_tmp (v := .int .i64 1) (by kernel_rfl)) ⟨rfl, H0⟩
  · have hF := (M.ite_some hF).2 hb1
    refine Run_skip ?_
    refine Run_seq ?_
    obtain ⟨x2, hx2, hF⟩ := M.bind_some hF
    obtain ⟨x3, hx3, hF⟩ := M.bind_some hF
    refine Run_regC (j := 7) (C := fun x => Hold h x []) (by kernel_rfl) H0 (L' := [(2, .int .i64 x3.1), (3, .int .i64 x3.2)]) ?_ (fun h1 H1 => ?_)
    · refine QRun_b [.slice aa_ a_.length ca_] 0 _ (by kernel_rfl) (fun w => by kernel_rfl) ?_
      refine QRun_y (.int .i64 x2) (by kernel_rfl) (Y_call (f := 132) (args := #[.slice aa_ a_.length ca_]) (v := .int .i64 x2) (by kernel_rfl) fun hx Hx => (w_spec_l10Top hx a_ aa_ ca_ (ra_.at Hx.ext) _ _ hx2).mono fun _ _ ⟨e, H'⟩ => ⟨e, Hx.call H' rfl⟩) ?_
      refine QRun_y (.tuple #[.int .i64 x3.1, .int .i64 x3.2]) (by kernel_rfl) (Y_cls fun hx Hx => (Y_callq (f := 131) (args := #[.int .i64 x2]) (v := .tuple #[.int .i64 x3.1, .int .i64 x3.2]) (by kernel_rfl) (w_spec_l01Value hx x2 _ _ hx3))) ?_
      refine QRun_b [.int .i64 x3.1, .int .i64 x3.2, .int .i64 x3.1, .int .i64 x3.2] 3 _ (by kernel_rfl) (fun w => by kernel_rfl) ?_
      exact QRun_done [2, 3] (by kernel_rfl) (by kernel_rfl)
    have H2 : Hold h h1 [] := H1
    have hF := M.ret_some hF
    subst hF
    exact Run_ret2 rfl (ResV_tmp (v := .int .i64 x3.1) (by kernel_rfl)) (ResV_tmp (v := .int .i64 x3.2) (by kernel_rfl)) ⟨rfl, H2⟩

set_option maxRecDepth 100000 in
set_option maxHeartbeats 4000000 in
theorem w_spec_DrawCountAssignments (h : Heap) (code : List Int) (acode : Option Addr) (ccode : Nat) (rcode : Rd cd5 h (Lt h) acode ccode code) (n : Nat) (r : (List (List Int))) (hF : spec_DrawCountAssignments code n = some r) :
    Fn Try.prog 57 #[.slice acode code.length ccode] h fun v h' => ∃ (a0 : Option Addr) (c0 : Nat), v = .slice a0 r.length c0 ∧ Hold h h' [own cd39 a0 r.length c0 r] := by
  unfold spec_DrawCountAssignments at hF
  refine Fn_enter (args := [.slice acode code.length ccode]) Try.func57 rfl (by kernel_rfl) (by kernel_rfl) (fun w0 _ => ?_)
  have H0 := Hold.init h
  refine Run_seq ?_
  refine Run_reg 1 (by kernel_rfl) (L' := [(0, .slice acode code.length ccode)]) ?_ ?_
  · refine QRun_b [.slice none 0 0] 0 _ (by kernel_rfl) (fun w => by kernel_rfl) ?_
    exact QRun_done [0] (by kernel_rfl) (by kernel_rfl)
  refine Run_seq ?_
  refine Run_ops ?_
  refine Run_b [.slice acode code.length ccode] 0 _ (by kernel_rfl) (fun w => by kernel_rfl) ?_
  obtain ⟨x1, hx1, hF⟩ := M.bind_some hF
  refine Run_E (by kernel_rfl) ?_
  refine E_call (f := 98) (args := #[.slice acode code.length ccode]) (w_spec_l01From h code acode ccode rcode _ _ hx1) (by kernel_rfl) (fun v1 h1 hp1 => ?_)
  obtain ⟨b1, a1, c1, rfl, hd1, H1⟩ := hp1
  have H2 : Hold h h1 [box b1 155 [.slice a1 x1.code.length c1, .int .i64 x1.at_, .int .i64 x1.seed]] := H0.call H1 rfl
  have r1 := rcode.alias hd1
  refine Run_b [.pointer (some ⟨b1, 0, none⟩)] 2 _ (by kernel_rfl) (fun w => by kernel_rfl) ?_
  refine Run_nil (by kernel_rfl) ?_
  refine Run_keep [3] (L' := [(3, .pointer (some ⟨b1, 0, none⟩))]) (by kernel_rfl) ?_
  refine Run_seq ?_
  refine Run_ops ?_
  refine Run_b [.pointer (some ⟨b1, 0, none⟩)] 0 _ (by kernel_rfl) (fun w => by kernel_rfl) ?_
  obtain ⟨x2, hx2, hF⟩ := M.bind_some hF
  have H3 : Hold h h1 [box b1 155 [.slice a1 x1.code.length c1, .int .i64 x1.at_, .int .i64 x1.seed], bun []] := Hold.bundle (S := [box b1 155 [.slice a1 x1.code.length c1, .int .i64 x1.at_, .int .i64 x1.seed]]) (R := []) H2
  refine Run_E (by kernel_rfl) ?_
  refine E_call (f := 126) (args := #[.pointer (some ⟨b1, 0, none⟩)]) (w_spec_l02DrawSquare h h1 _ x1 b1 a1 c1 r1 H3 _ _ hx2) (by kernel_rfl) (fun v2 h2 hp2 => ?_)
  obtain ⟨a2, c2, rfl, H4⟩ := hp2
  have H5 : Hold h h2 [own cd39 a2 x2.1.length c2 x2.1, box b1 155 [.slice a1 x1.code.length c1, .int .i64 x2.2.at_, .int .i64 x2.2.seed]] := Hold.unbundle (S := [own cd39 a2 x2.1.length c2 x2.1, box b1 155 [.slice a1 x1.code.length c1, .int .i64 x2.2.at_, .int .i64 x2.2.seed]]) (R := []) H4 (Hold.tailBase (S := [box b1 155 [.slice a1 x1.code.length c1, .int .i64 x1.at_, .int .i64 x1.seed]]) (R := []) H2)
  refine Run_b [.slice a2 x2.1.length c2] 2 _ (by kernel_rfl) (fun w => by kernel_rfl) ?_
  refine Run_nil (by kernel_rfl) ?_
  refine Run_keep [3, 4] (L' := [(3, .pointer (some ⟨b1, 0, none⟩)), (4, .slice a2 x2.1.length c2)]) (by kernel_rfl) ?_
  refine Run_seq ?_
  refine Run_seq ?_
  obtain ⟨s1, gs1, hF⟩ := M.bind_some hF
  refine Run_join (fun L' h' => L' = [(3, .pointer (some ⟨b1, 0, none⟩)), (4, .slice a2 x2.1.length c2), (17, .bool s1.2.2)] ∧ Hold h h' [box b1 155 [.slice a1 x1.code.length c1, .int .i64 s1.1, .int .i64 s1.2.1], own cd39 a2 x2.1.length c2 x2.1]) ?_ ?_
  · rintro _ h4 ⟨rfl, H10⟩
    obtain ⟨s2, gs2, hF⟩ := M.bind_some hF
    refine Run_join (fun L' h' => L' = [(4, .slice a2 x2.1.length c2)] ∧ Hold h h' [own cd39 a2 x2.1.length c2 s2]) ?_ ?_
    · rintro _ h14 ⟨rfl, H39⟩
      refine Run_seq ?_
      refine Run_reg 2 (by kernel_rfl) (L' := [(2, .slice a2 x2.1.length c2)]) ?_ ?_
      · refine QRun_b [.slice a2 x2.1.length c2, .slice a2 x2.1.length c2] 0 _ (by kernel_rfl) (fun w => by kernel_rfl) ?_
        exact QRun_done [2] (by kernel_rfl) (by kernel_rfl)
      have hF := M.ret_some hF
      subst hF
      have H41 := H39.norm
      exact Run_ret1 rfl (ResV_tmp (v := .slice a2 x2.1.length c2) (by kernel_rfl)) ⟨a2, c2, (by simp only [(H39.len 0 rfl)]), H41⟩
    · refine Run_cond (b := s1.2.2) (by kernel_rfl) (fun hb2 => ?_) (fun hb2 => ?_)
      · have gs2 := (M.ite_some gs2).1 hb2
        refine Run_seq ?_
        refine Run_reg 1 (by kernel_rfl) (L' := [(3, .pointer (some ⟨b1, 0, none⟩)), (4, .slice a2 x2.1.length c2), (5, .int .i64 0)]) ?_ ?_
        · refine QRun_b [.int .i64 0] 0 _ (by kernel_rfl) (fun w => by kernel_rfl) ?_
          exact QRun_done [3, 4, 5] (by kernel_rfl) (by kernel_rfl)
        obtain ⟨x5, gx5, gs2⟩ := M.bind_some gs2
        obtain ⟨hloy1, hhiy1, gx5⟩ := M.for_start gx5
        refine Run_join (fun L' h' => L' = [(4, .slice a2 x2.1.length c2)] ∧ Hold h h' [own cd39 a2 x2.1.length c2 x5.2.2]) ?_ ?_
        · rintro _ h6 ⟨rfl, H13⟩
          have gs2 := M.ret_some gs2
          subst gs2
          exact Run_fall [4] (by kernel_rfl) ⟨rfl, H13⟩
        · refine Run_block ?_
          refine Run_keep [3, 4, 5] (L' := [(3, .pointer (some ⟨b1, 0, none⟩)), (4, .slice a2 x2.1.length c2), (5, .int .i64 0)]) (by kernel_rfl) ?_
          refine Run_loop (fun m L' h' => ∃ (i1 : Int) (s3 : Int × Int × (List (List Int))), 0 ≤ i1 ∧ M.forN (x2.1.length : Int) _ _ n m i1 s3 = some x5 ∧ L' = [(3, .pointer (some ⟨b1, 0, none⟩)), (4, .slice a2 x2.1.length c2), (5, .int .i64 i1)] ∧ Hold h h' [box b1 155 [.slice a1 x1.code.length c1, .int .i64 s3.1, .int .i64 s3.2.1], own cd39 a2 x2.1.length c2 s3.2.2]) ((x2.1.length : Int) - 0 : Int).toNat ⟨0, (s1.1, s1.2.1, x2.1), Int.le_refl _, gx5, rfl, H10⟩ ?_
          rintro my1 _ h5 ⟨i1, s3, hloy1', gx5, rfl, H12⟩
          refine Run_seq ?_
          refine Run_seq ?_
          refine Run_reg 4 (by kernel_rfl) (L' := [(3, .pointer (some ⟨b1, 0, none⟩)), (4, .slice a2 x2.1.length c2), (5, .int .i64 i1), (21, .bool (decide (i1 < (x2.1.length : Int))))]) ?_ ?_
          · refine QRun_b [.int .i64 i1, .slice a2 x2.1.length c2, .int .i64 (x2.1.length : Int), .bool (decide (i1 < (x2.1.length : Int)))] 0 _ (by kernel_rfl) (fun w => by kernel_rfl) ?_
            exact QRun_done [3, 4, 5, 21] (by kernel_rfl) (by kernel_rfl)
          refine Run_cond (b := decide (i1 < (x2.1.length : Int))) (by kernel_rfl) (fun hb3 => ?_) (fun hb3 => ?_)
          · obtain ⟨my1, y1, rfl, hB1, hgoy1, houty1⟩ := M.for_go gx5 hb3
            have hlty1 := of_decide_eq_true hb3
            refine Run_skip ?_
            refine Run_seq ?_
            refine Run_block ?_
            refine Run_seq ?_
            refine Run_reg 1 (by kernel_rfl) (L' := [(3, .pointer (some ⟨b1, 0, none⟩)), (4, .slice a2 x2.1.length c2), (5, .int .i64 i1), (6, .int .i64 0)]) ?_ ?_
            · refine QRun_b [.int .i64 0] 0 _ (by kernel_rfl) (fun w => by kernel_rfl) ?_
              exact QRun_done [3, 4, 5, 6] (by kernel_rfl) (by kernel_rfl)
            obtain ⟨x6, gx6, hB1⟩ := M.bind_some hB1
            obtain ⟨hloy2, hhiy2, gx6⟩ := M.for_start gx6
            refine Run_join (fun L' h' => L' = [(3, .pointer (some ⟨b1, 0, none⟩)), (4, .slice a2 x2.1.length c2), (5, .int .i64 i1)] ∧ Hold h h' [box b1 155 [.slice a1 x1.code.length c1, .int .i64 x6.1, .int .i64 x6.2.1], own cd39 a2 x2.1.length c2 x6.2.2]) ?_ ?_
            · rintro _ h8 ⟨rfl, H15⟩
              refine Run_blk ?_
              refine Run_reg 3 (by kernel_rfl) (L' := [(3, .pointer (some ⟨b1, 0, none⟩)), (4, .slice a2 x2.1.length c2), (5, .int .i64 (i1 + 1))]) ?_ ?_
              · refine QRun_b [.int .i64 i1] 0 _ (by kernel_rfl) (fun w => by kernel_rfl) ?_
                refine QRun_y (.int .i64 (i1 + 1)) (by kernel_rfl) (Y_eq (v := .int .i64 (w64 (i1 + 1))) (Y_pure (fun w => by kernel_rfl)) (by rw [w64_eq _ (by omega)])) ?_
                refine QRun_b [.int .i64 (i1 + 1)] 2 _ (by kernel_rfl) (fun w => by kernel_rfl) ?_
                exact QRun_done [3, 4, 5] (by kernel_rfl) (by kernel_rfl)
              have hB1 := M.ret_some hB1
              have gx5 := hgoy1 _ hB1.symm
              exact Run_again [3, 4, 5] (by kernel_rfl) my1 (Nat.lt_succ_self _) ⟨i1 + 1, (x6.1, x6.2.1, x6.2.2), by omega, gx5, rfl, H15⟩
            · refine Run_block ?_
              refine Run_keep [3, 4, 5, 6] (L' := [(3, .pointer (some ⟨b1, 0, none⟩)), (4, .slice a2 x2.1.length c2), (5, .int .i64 i1), (6, .int .i64 0)]) (by kernel_rfl) ?_
              refine Run_loop (fun m L' h' => ∃ (i2 : Int) (s4 : Int × Int × (List (List Int))), 0 ≤ i2 ∧ M.forN (x2.1.length : Int) _ _ n m i2 s4 = some x6 ∧ L' = [(3, .pointer (some ⟨b1, 0, none⟩)), (4, .slice a2 x2.1.length c2), (5, .int .i64 i1), (6, .int .i64 i2)] ∧ Hold h h' [box b1 155 [.slice a1 x1.code.length c1, .int .i64 s4.1, .int .i64 s4.2.1], own cd39 a2 x2.1.length c2 s4.2.2]) ((x2.1.length : Int) - 0 : Int).toNat ⟨0, (s3.1, s3.2.1, s3.2.2), Int.le_refl _, gx6, rfl, H12⟩ ?_
              rintro my2 _ h7 ⟨i2, s4, hloy2', gx6, rfl, H14⟩
              refine Run_seq ?_
              refine Run_seq ?_
              refine Run_reg 4 (by kernel_rfl) (L' := [(3, .pointer (some ⟨b1, 0, none⟩)), (4, .slice a2 x2.1.length c2), (5, .int .i64 i1), (6, .int .i64 i2), (27, .bool (decide (i2 < (x2.1.length : Int))))]) ?_ ?_
              · refine QRun_b [.int .i64 i2, .slice a2 x2.1.length c2, .int .i64 (x2.1.length : Int), .bool (decide (i2 < (x2.1.length : Int)))] 0 _ (by kernel_rfl) (fun w => by kernel_rfl) ?_
                exact QRun_done [3, 4, 5, 6, 27] (by kernel_rfl) (by kernel_rfl)
              refine Run_cond (b := decide (i2 < (x2.1.length : Int))) (by kernel_rfl) (fun hb4 => ?_) (fun hb4 => ?_)
              · obtain ⟨my2, y2, rfl, hB2, hgoy2, houty2⟩ := M.for_go gx6 hb4
                have hlty2 := of_decide_eq_true hb4
                refine Run_skip ?_
                refine Run_seq ?_
                refine Run_block ?_
                refine Run_seq ?_
                obtain ⟨x7, hx5, hB2⟩ := M.bind_some hB2
                obtain ⟨hx5l, hx5u, hx5⟩ := M.idx_some hx5
                have H16 : Hold h h7 [own cd39 a2 x2.1.length c2 s4.2.2, box b1 155 [.slice a1 x1.code.length c1, .int .i64 s4.1, .int .i64 s4.2.1]] := H14.pick [1, 0] (by kernel_rfl)
                have H17 := H16.toRows
                obtain ⟨a3, c3, H18⟩ := H17.pinRow hx5
                have H19 : Hold h h7 [box b1 155 [.slice a1 x1.code.length c1, .int .i64 s4.1, .int .i64 s4.2.1], rowsP cd2 39 a2 x2.1.length c2 s4.2.2 [(i1.toNat, a3, x7.length, c3, x7)]] := H18.pick [1, 0] (by kernel_rfl)
                obtain ⟨x8, hx6, hB2⟩ := M.bind_some hB2
                obtain ⟨hx6l, hx6u, hx6⟩ := M.idx_some hx6
                refine Run_reg 8 (by kernel_rfl) (L' := [(3, .pointer (some ⟨b1, 0, none⟩)), (4, .slice a2 x2.1.length c2), (5, .int .i64 i1), (6, .int .i64 i2), (37, .bool (x8 != (-1000000000000000)))]) ?_ ?_
                · refine QRun_b [.slice a2 x2.1.length c2, .int .i64 i1] 0 _ (by kernel_rfl) (fun w => by kernel_rfl) ?_
                  refine QRun_y (.pointer (some (adr a2 (i1.toNat * 1)))) (by kernel_rfl) (Y_idx (t := 37) (e := 39) (sz := 1) (a := a2) (n := x2.1.length) (cap := c2) (kk := .i64) (i := i1) (by kernel_rfl) Try.underlying37 (by kernel_rfl) ((H14.rd 1 rfl).cell hx5).1 hx5l (by rw [← (H14.len 1 rfl)]; exact hx5u)) ?_
                  refine QRun_y (.slice a3 x7.length c3) (by kernel_rfl) (Y_load1 (t := 39) (p := adr a2 (i1.toNat * 1)) (v := .slice a3 x7.length c3) (by kernel_rfl) (fun w => by kernel_rfl) (H19.cellPin 1 rfl 0 rfl)) ?_
                  refine QRun_b [.int .i64 i2] 4 _ (by kernel_rfl) (fun w => by kernel_rfl) ?_
                  refine QRun_y (.pointer (some (adr a3 (i2.toNat * 1)))) (by kernel_rfl) (Y_idx (t := 39) (e := 2) (sz := 1) (a := a3) (n := x7.length) (cap := c3) (kk := .i64) (i := i2) (by kernel_rfl) Try.underlying39 (by kernel_rfl) ((H19.rdPin 1 rfl 0 rfl).cell hx6).1 hx6l hx6u) ?_
                  refine QRun_y (.int .i64 x8) (by kernel_rfl) (Y_load1 (t := 2) (p := adr a3 (i2.toNat * 1)) (v := .int .i64 x8) (by kernel_rfl) (fun w => by kernel_rfl) (cd2_cell (H19.rdPin 1 rfl 0 rfl) hx6)) ?_
                  refine QRun_b [.bool (x8 != (-1000000000000000))] 7 _ (by kernel_rfl) (fun w => by kernel_rfl) ?_
                  exact QRun_done [3, 4, 5, 6, 37] (by kernel_rfl) (by kernel_rfl)
                obtain ⟨s5, gs5, hB2⟩ := M.bind_some hB2
                refine Run_join (fun L' h' => L' = [(3, .pointer (some ⟨b1, 0, none⟩)), (4, .slice a2 x2.1.length c2), (5, .int .i64 i1), (6, .int .i64 i2)] ∧ Hold h h' [box b1 155 [.slice a1 x1.code.length c1, .int .i64 s5.1, .int .i64 s5.2.1], own cd39 a2 x2.1.length c2 s5.2.2]) ?_ ?_
                · rintro _ h13 ⟨rfl, H32⟩
                  refine Run_blk ?_
                  refine Run_reg 3 (by kernel_rfl) (L' := [(3, .pointer (some ⟨b1, 0, none⟩)), (4, .slice a2 x2.1.length c2), (5, .int .i64 i1), (6, .int .i64 (i2 + 1))]) ?_ ?_
                  · refine QRun_b [.int .i64 i2] 0 _ (by kernel_rfl) (fun w => by kernel_rfl) ?_
                    refine QRun_y (.int .i64 (i2 + 1)) (by kernel_rfl) (Y_eq (v := .int .i64 (w64 (i2 + 1))) (Y_pure (fun w => by kernel_rfl)) (by rw [w64_eq _ (by omega)])) ?_
                    refine QRun_b [.int .i64 (i2 + 1)] 2 _ (by kernel_rfl) (fun w => by kernel_rfl) ?_
                    exact QRun_done [3, 4, 5, 6] (by kernel_rfl) (by kernel_rfl)
                  have hB2 := M.ret_some hB2
                  have gx6 := hgoy2 _ hB2.symm
                  exact Run_again [3, 4, 5, 6] (by kernel_rfl) my2 (Nat.lt_succ_self _) ⟨i2 + 1, (s5.1, s5.2.1, s5.2.2), by omega, gx6, rfl, H32⟩
                · refine Run_cond (b := x8 != (-1000000000000000)) (by kernel_rfl) (fun hb5 => ?_) (fun hb5 => ?_)
                  · have gs5 := (M.ite_some gs5).1 hb5
                    obtain ⟨x9, hx7, gs5⟩ := M.bind_some gs5
                    obtain ⟨hx7l, hx7u, hx7⟩ := M.idx_some hx7
                    have H20 : Hold h h7 [rowsP cd2 39 a2 x2.1.length c2 s4.2.2 [(i1.toNat, a3, x7.length, c3, x7)], box b1 155 [.slice a1 x1.code.length c1, .int .i64 s4.1, .int .i64 s4.2.1]] := H19.pick [1, 0] (by kernel_rfl)
                    obtain ⟨a4, c4, H21⟩ := H20.pinRow hx7
                    have H22 : Hold h h7 [box b1 155 [.slice a1 x1.code.length c1, .int .i64 s4.1, .int .i64 s4.2.1], rowsP cd2 39 a2 x2.1.length c2 s4.2.2 [(i1.toNat, a4, x9.length, c4, x9), (i1.toNat, a3, x7.length, c3, x7)]] := H21.pick [1, 0] (by kernel_rfl)
                    refine Run_D (fun x => Hold h x [rowsP cd2 39 a2 x2.1.length c2 s4.2.2 [(i1.toNat, a4, x9.length, c4, x9), (i1.toNat, a3, x7.length, c3, x7)]]) (fun x => Hold h x [box b1 155 [.slice a1 x1.code.length c1, .int .i64 s4.1, .int .i64 s4.2.1], rowsP cd2 39 a2 x2.1.length c2 s4.2.2 [(i1.toNat, a4, x9.length, c4, x9), (i1.toNat, a3, x7.length, c3, x7)]]) mixed (by kernel_rfl) H22 Hold.stable (fun x Hy => (show Hold h x [box b1 155 [.slice a1 x1.code.length c1, .int .i64 s4.1, .int .i64 s4.2.1], rowsP cd2 39 a2 x2.1.length c2 s4.2.2 [(i1.toNat, a4, x9.length, c4, x9), (i1.toNat, a3, x7.length, c3, x7)]] from Hy).pick [1] (by kernel_rfl)) ?_
                    refine DR_b 7 [.slice a2 x2.1.length c2, .int .i64 i1] 0 (by kernel_rfl) (by kernel_rfl) (by kernel_rfl) (fun w => by kernel_rfl) ?_
                    refine DR_y 6 (i := 2) (.pointer (some (adr a2 (i1.toNat * 1)))) (by kernel_rfl) (by kernel_rfl) (by kernel_rfl) (fun hx Hx => (YE.of (Y_idx (t := 37) (e := 39) (sz := 1) (a := a2) (n := x2.1.length) (cap := c2) (kk := .i64) (i := i1) (by kernel_rfl) Try.underlying37 (by kernel_rfl) ((H19.rdRows 1 rfl).cell hx7).1 hx7l (by rw [← (H19.lenRows 1 rfl)]; exact hx7u)))) ?_
                    refine DR_y 5 (i := 3) (.slice a4 x9.length c4) (by kernel_rfl) (by kernel_rfl) (by kernel_rfl) (fun hx Hx => (YE.of (Y_load1 (t := 39) (p := adr a2 (i1.toNat * 1)) (v := .slice a4 x9.length c4) (by kernel_rfl) (fun w => by kernel_rfl) (Hx.cellPin 0 rfl 0 rfl)))) ?_
                    refine DR_b 3 [.int .i64 i2, .pointer (some ⟨b1, 0, none⟩)] 4 (by kernel_rfl) (by kernel_rfl) (by kernel_rfl) (fun w => by kernel_rfl) ?_
                    refine DR_e 2 6 (by kernel_rfl) (by kernel_rfl) (by kernel_rfl) (fun h9 H23 => ?_)
                    have H24 : Hold h h9 [box b1 155 [.slice a1 x1.code.length c1, .int .i64 s4.1, .int .i64 s4.2.1], rowsP cd2 39 a2 x2.1.length c2 s4.2.2 [(i1.toNat, a4, x9.length, c4, x9), (i1.toNat, a3, x7.length, c3, x7)]] := H23
                    obtain ⟨x10, hx8, gs5⟩ := M.bind_some gs5
                    have H25 : Hold h h9 [box b1 155 [.slice a1 x1.code.length c1, .int .i64 s4.1, .int .i64 s4.2.1], bun [rowsP cd2 39 a2 x2.1.length c2 s4.2.2 [(i1.toNat, a4, x9.length, c4, x9), (i1.toNat, a3, x7.length, c3, x7)]]] := Hold.bundle (S := [box b1 155 [.slice a1 x1.code.length c1, .int .i64 s4.1, .int .i64 s4.2.1]]) (R := [rowsP cd2 39 a2 x2.1.length c2 s4.2.2 [(i1.toNat, a4, x9.length, c4, x9), (i1.toNat, a3, x7.length, c3, x7)]]) H24
                    refine E_call (f := 106) (args := #[.pointer (some ⟨b1, 0, none⟩), .int .i64 2]) (w_spec_l01Next h h9 _ (⟨x1.code, s4.1, s4.2.1⟩ : TL01source) b1 a1 c1 r1 2 H25 _ _ hx8) (by kernel_rfl) (fun v4 h10 hp4 => ?_)
                    obtain ⟨rfl, H26⟩ := hp4
                    have H27 : Hold h h10 [box b1 155 [.slice a1 x1.code.length c1, .int .i64 x10.2.at_, .int .i64 x10.2.seed], rowsP cd2 39 a2 x2.1.length c2 s4.2.2 [(i1.toNat, a4, x9.length, c4, x9), (i1.toNat, a3, x7.length, c3, x7)]] := Hold.unbundle (S := [box b1 155 [.slice a1 x1.code.length c1, .int .i64 x10.2.at_, .int .i64 x10.2.seed]]) (R := [rowsP cd2 39 a2 x2.1.length c2 s4.2.2 [(i1.toNat, a4, x9.length, c4, x9), (i1.toNat, a3, x7.length, c3, x7)]]) H26 (Hold.tailBase (S := [box b1 155 [.slice a1 x1.code.length c1, .int .i64 s4.1, .int .i64 s4.2.1]]) (R := [rowsP cd2 39 a2 x2.1.length c2 s4.2.2 [(i1.toNat, a4, x9.length, c4, x9), (i1.toNat, a3, x7.length, c3, x7)]]) H24)
                    refine ⟨fun x => Hold h x [rowsP cd2 39 a2 x2.1.length c2 s4.2.2 [(i1.toNat, a4, x9.length, c4, x9), (i1.toNat, a3, x7.length, c3, x7)]], fun x => Hold h x [box b1 155 [.slice a1 x1.code.length c1, .int .i64 x10.2.at_, .int .i64 x10.2.seed], rowsP cd2 39 a2 x2.1.length c2 s4.2.2 [(i1.toNat, a4, x9.length, c4, x9), (i1.toNat, a3, x7.length, c3, x7)]], H27, Hold.stable, fun x Hy => (show Hold h x [box b1 155 [.slice a1 x1.code.length c1, .int .i64 x10.2.at_, .int .i64 x10.2.seed], rowsP cd2 39 a2 x2.1.length c2 s4.2.2 [(i1.toNat, a4, x9.length, c4, x9), (i1.toNat, a3, x7.length, c3, x7)]] from Hy).pick [1] (by kernel_rfl), fun x Hy => (show Hold h x [rowsP cd2 39 a2 x2.1.length c2 s4.2.2 [(i1.toNat, a4, x9.length, c4, x9), (i1.toNat, a3, x7.length, c3, x7)]] from Hy).pick [0] (by kernel_rfl), ?_⟩
                    obtain ⟨x11, hx9, gs5⟩ := M.bind_some gs5
                    obtain ⟨hx9l, hx9u, hx9⟩ := M.idx_some hx9
                    refine DR_y 1 (i := 7) (.pointer (some (adr a4 (i2.toNat * 1)))) (by kernel_rfl) (by kernel_rfl) (by kernel_rfl) (fun hx Hx => (YE.of (Y_idx (t := 39) (e := 2) (sz := 1) (a := a4) (n := x9.length) (cap := c4) (kk := .i64) (i := i2) (by kernel_rfl) Try.underlying39 (by kernel_rfl) ((H27.rdPin 1 rfl 0 rfl).cell hx9).1 hx9l hx9u))) ?_
                    refine DR_tail (i := 8) (by kernel_rfl) (by kernel_rfl) (by kernel_rfl) (fun h11 H28 => ?_)
                    have H29 : Hold h h11 [box b1 155 [.slice a1 x1.code.length c1, .int .i64 x10.2.at_, .int .i64 x10.2.seed], rowsP cd2 39 a2 x2.1.length c2 s4.2.2 [(i1.toNat, a4, x9.length, c4, x9), (i1.toNat, a3, x7.length, c3, x7)]] := H28
                    obtain ⟨l1, hu1, gs5⟩ := M.bind_some gs5
                    have hu1 := M.upd_some hu1
                    have H31 : Hold h h11 [rowsP cd2 39 a2 x2.1.length c2 s4.2.2 [(i1.toNat, a4, x9.length, c4, x9), (i1.toNat, a3, x7.length, c3, x7)], box b1 155 [.slice a1 x1.code.length c1, .int .i64 x10.2.at_, .int .i64 x10.2.seed]] := H29.pick [1, 0] (by kernel_rfl)
                    refine Run_E (by kernel_rfl) ?_
                    refine E_put2 (C := cd2) (t := 2) (sz := 1) (j := i2) (x := x10.1) (v := .int .i64 x10.1) (m2 := s4.2.2.set i1.toNat l1) H31 cd2_flat 0 rfl (by kernel_rfl) rfl (cd2_own _) (by kernel_rfl) hu1 rfl (fun h12 H30 => ?_)
                    refine Run_nil (by kernel_rfl) ?_
                    refine Run_keep [3, 4, 5, 6] (L' := [(3, .pointer (some ⟨b1, 0, none⟩)), (4, .slice a2 x2.1.length c2), (5, .int .i64 i1), (6, .int .i64 i2)]) (by kernel_rfl) ?_
                    have H33 := H30.ofRows
                    have H34 : Hold h h12 [box b1 155 [.slice a1 x1.code.length c1, .int .i64 x10.2.at_, .int .i64 x10.2.seed], own cd39 a2 x2.1.length c2 (s4.2.2.set i1.toNat l1)] := H33.pick [1, 0] (by kernel_rfl)
                    have gs5 := M.ret_some gs5
                    subst gs5
                    exact Run_fall [3, 4, 5, 6] (by kernel_rfl) ⟨rfl, H34⟩
                  · have gs5 := (M.ite_some gs5).2 hb5
                    refine Run_skip ?_
                    have H35 : Hold h h7 [rowsP cd2 39 a2 x2.1.length c2 s4.2.2 [(i1.toNat, a3, x7.length, c3, x7)], box b1 155 [.slice a1 x1.code.length c1, .int .i64 s4.1, .int .i64 s4.2.1]] := H19.pick [1, 0] (by kernel_rfl)
                    have H36 := H35.ofRows
                    have H37 : Hold h h7 [box b1 155 [.slice a1 x1.code.length c1, .int .i64 s4.1, .int .i64 s4.2.1], own cd39 a2 x2.1.length c2 s4.2.2] := H36.pick [1, 0] (by kernel_rfl)
                    have gs5 := M.ret_some gs5
                    subst gs5
                    exact Run_fall [3, 4, 5, 6] (by kernel_rfl) ⟨rfl, H37⟩
              · have gx6 := M.for_end gx6 hb4
                subst gx6
                refine Run_exit (k' := _) rfl ?_
                exact Run_fall [3, 4, 5] (by kernel_rfl) ⟨rfl, H14⟩
          · have gx5 := M.for_end gx5 hb3
            subst gx5
            refine Run_exit (k' := _) rfl ?_
            have H38 : Hold h h5 [own cd39 a2 x2.1.length c2 s3.2.2] := H12.pick [1] (by kernel_rfl)
            exact Run_fall [4] (by kernel_rfl) ⟨rfl, H38⟩
      · have gs2 := (M.ite_some gs2).2 hb2
        refine Run_skip ?_
        have H40 : Hold h h4 [own cd39 a2 x2.1.length c2 x2.1] := H10.pick [1] (by kernel_rfl)
        have gs2 := M.ret_some gs2
        subst gs2
        exact Run_fall [4] (by kernel_rfl) ⟨rfl, H40⟩
  · refine Run_ops ?_
    obtain ⟨x3, hx3, gs1⟩ := M.bind_some gs1
    refine Run_b [.slice a2 x2.1.length c2] 0 _ (by kernel_rfl) (fun w => by kernel_rfl) ?_
    refine Run_y (.bool x3) (by kernel_rfl) (Y_callq (f := 82) (args := #[.slice a2 x2.1.length c2]) (v := .bool x3) (by kernel_rfl) (w_spec_l02Square h2 x2.1 a2 c2 (H5.rd 0 rfl) _ _ hx3)) ?_
    rcases Bool.eq_false_or_eq_true x3 with hb1 | hb1
    · have gs1 := (M.ite_some gs1).1 hb1
      refine Run_q1 3 (L' := [(3, .pointer (some ⟨b1, 0, none⟩)), (4, .slice a2 x2.1.length c2), (11, .slice a2 x2.1.length c2), (12, .bool x3), (13, .bool true)]) ?_ ?_
      · refine QRun_bool x3 true (by kernel_rfl) (fun w => by kernel_rfl) hb1 ?_
        exact QRun_done [3, 4, 11, 12, 13] (by kernel_rfl) (by kernel_rfl)
      refine Run_b [.pointer (some ⟨b1, 0, none⟩)] 3 _ (by kernel_rfl) (fun w => by kernel_rfl) ?_
      obtain ⟨x4, hx4, gs1⟩ := M.bind_some gs1
      have H6 : Hold h h2 [box b1 155 [.slice a1 x1.code.length c1, .int .i64 x2.2.at_, .int .i64 x2.2.seed], own cd39 a2 x2.1.length c2 x2.1] := H5.pick [1, 0] (by kernel_rfl)
      have H7 : Hold h h2 [box b1 155 [.slice a1 x1.code.length c1, .int .i64 x2.2.at_, .int .i64 x2.2.seed], bun [own cd39 a2 x2.1.length c2 x2.1]] := Hold.bundle (S := [box b1 155 [.slice a1 x1.code.length c1, .int .i64 x2.2.at_, .int .i64 x2.2.seed]]) (R := [own cd39 a2 x2.1.length c2 x2.1]) H6
      refine Run_E (by kernel_rfl) ?_
      refine E_call (f := 106) (args := #[.pointer (some ⟨b1, 0, none⟩), .int .i64 2]) (w_spec_l01Next h h2 _ (⟨x1.code, x2.2.at_, x2.2.seed⟩ : TL01source) b1 a1 c1 r1 2 H7 _ _ hx4) (by kernel_rfl) (fun v3 h3 hp3 => ?_)
      obtain ⟨rfl, H8⟩ := hp3
      have H9 : Hold h h3 [box b1 155 [.slice a1 x1.code.length c1, .int .i64 x4.2.at_, .int .i64 x4.2.seed], own cd39 a2 x2.1.length c2 x2.1] := Hold.unbundle (S := [box b1 155 [.slice a1 x1.code.length c1, .int .i64 x4.2.at_, .int .i64 x4.2.seed]]) (R := [own cd39 a2 x2.1.length c2 x2.1]) H8 (Hold.tailBase (S := [box b1 155 [.slice a1 x1.code.length c1, .int .i64 x2.2.at_, .int .i64 x2.2.seed]]) (R := [own cd39 a2 x2.1.length c2 x2.1]) H6)
      refine Run_b [.bool (x4.1 == 0)] 5 _ (by kernel_rfl) (fun w => by kernel_rfl) ?_
      refine Run_b [.bool (x4.1 == 0)] 6 _ (by kernel_rfl) (fun w => by kernel_rfl) ?_
      refine Run_nil (by kernel_rfl) ?_
      refine Run_keep [3, 4, 17] (L' := [(3, .pointer (some ⟨b1, 0, none⟩)), (4, .slice a2 x2.1.length c2), (17, .bool (x4.1 == 0))]) (by kernel_rfl) ?_
      have gs1 := M.ret_some gs1
      subst gs1
      exact Run_fall [3, 4, 17] (by kernel_rfl) ⟨rfl, H9⟩
    · have gs1 := (M.ite_some gs1).2 hb1
      refine Run_q1 7 (L' := [(3, .pointer (some ⟨b1, 0, none⟩)), (4, .slice a2 x2.1.length c2), (17, .bool false)]) ?_ ?_
      · refine QRun_bool x3 false (by kernel_rfl) (fun w => by kernel_rfl) hb1 ?_
        refine QRun_n (by kernel_rfl) ?_
        refine QRun_n (by kernel_rfl) ?_
        refine QRun_n (by kernel_rfl) ?_
        refine QRun_bool false false (by kernel_rfl) (fun w => by kernel_rfl) rfl ?_
        exact QRun_done [3, 4, 17] (by kernel_rfl) (by kernel_rfl)
      refine Run_nil (by kernel_rfl) ?_
      refine Run_keep [3, 4, 17] (L' := [(3, .pointer (some ⟨b1, 0, none⟩)), (4, .slice a2 x2.1.length c2), (17, .bool false)]) (by kernel_rfl) ?_
      have H11 : Hold h h2 [box b1 155 [.slice a1 x1.code.length c1, .int .i64 x2.2.at_, .int .i64 x2.2.seed], own cd39 a2 x2.1.length c2 x2.1] := H5.pick [1, 0] (by kernel_rfl)
      have gs1 := M.ret_some gs1
      subst gs1
      exact Run_fall [3, 4, 17] (by kernel_rfl) ⟨rfl, H11⟩

set_option maxRecDepth 100000 in
set_option maxHeartbeats 4000000 in
theorem w_impl_CountAssignments (h : Heap) (a_ : List (List Int)) (aa_ : Option Addr) (ca_ : Nat) (ra_ : Rd cd39 h (Lt h) aa_ ca_ a_) (n : Nat) (r : Int × Int) (hF : impl_CountAssignments a_ n = some r) :
    Fn Try.prog 58 #[.slice aa_ a_.length ca_] h fun v h' => v = .tuple #[.int .i64 r.1, .int .i64 r.2] ∧ Hold h h' [] := by
  unfold impl_CountAssignments at hF
  refine Fn_enter (args := [.slice aa_ a_.length ca_]) Try.func58 rfl (by kernel_rfl) (by kernel_rfl) (fun w0 _ => ?_)
  have H0 := Hold.init h
  refine Run_seq ?_
  refine Run_reg 2 (by kernel_rfl) (L' := [(0, .slice aa_ a_.length ca_)]) ?_ ?_
  · refine QRun_b [.int .i64 0, .int .i64 0] 0 _ (by kernel_rfl) (fun w => by kernel_rfl) ?_
    exact QRun_done [0] (by kernel_rfl) (by kernel_rfl)
  refine Run_seq ?_
  refine Run_seq ?_
  obtain ⟨x1, hx1, hF⟩ := M.bind_some hF
  refine Run_regC (j := 3) (C := fun x => Hold h x []) (by kernel_rfl) H0 (L' := [(0, .slice aa_ a_.length ca_), (7, .bool (!x1))]) ?_ (fun h1 H1 => ?_)
  · refine QRun_b [.slice aa_ a_.length ca_] 0 _ (by kernel_rfl) (fun w => by kernel_rfl) ?_
    refine QRun_y (.bool x1) (by kernel_rfl) (Y_call (f := 89) (args := #[.slice aa_ a_.length ca_]) (v := .bool x1) (by kernel_rfl) fun hx Hx => (w_impl_isSquare hx a_ aa_ ca_ (ra_.at Hx.ext) _ _ hx1).mono fun _ _ ⟨e, H'⟩ => ⟨e, Hx.call H' rfl⟩) ?_
    refine QRun_b [.bool (!x1)] 2 _ (by kernel_rfl) (fun w => by kernel_rfl) ?_
    exact QRun_done [0, 7] (by kernel_rfl) (by kernel_rfl)
  have H2 : Hold h h1 [] := H1
  refine Run_cond (b := !x1) (by kernel_rfl) (fun hb1 => ?_) (fun hb1 => ?_)
  · have hF := (M.ite_some hF).1 hb1
    refine Run_seq ?_
    refine Run_reg 2 (by kernel_rfl) (L' := [(2, .int .i64 0), (3, .int .i64 1)]) ?_ ?_
    · refine QRun_b [.int .i64 0, .int .i64 1] 0 _ (by kernel_rfl) (fun w => by kernel_rfl) ?_
      exact QRun_done [2, 3] (by kernel_rfl) (by kernel_rfl)
    have hF := M.ret_some hF
    subst hF
    exact Run_ret2 rfl (ResV_tmp (v := .int .i64 0) (by kernel_rfl)) (ResV_tmp (v := .int .i64 1) (by kernel_rfl)) ⟨rfl, H2⟩
  · have hF := (M.ite_some hF).2 hb1
    refine Run_skip ?_
    refine Run_seq ?_
    refine Run_ops ?_
    refine Run_b [.slice aa_ a_.length ca_] 0 _ (by kernel_rfl) (fun w => by kernel_rfl) ?_
    obtain ⟨x2, hx2, hF⟩ := M.bind_some hF
    refine Run_E (by kernel_rfl) ?_
    refine E_call (f := 130) (args := #[.slice aa_ a_.length ca_]) (w_impl_permanents h1 a_ aa_ ca_ (ra_.at H2.ext) _ _ hx2) (by kernel_rfl) (fun v1 h2 hp1 => ?_)
    obtain ⟨a1, c1, rfl, H3⟩ := hp1
    have H4 : Hold h h2 [own cd127 a1 x2.length c1 x2] := H2.call H3 rfl
    obtain ⟨x3, hx3, hF⟩ := M.bind_some hF
    obtain ⟨hx3l, hx3u, hx3⟩ := M.idx_some hx3
    refine Run_y (.pointer (some (adr a1 (0 * 2)))) (by kernel_rfl) (Y_idx (t := 128) (e := 127) (sz := 2) (a := a1) (n := x2.length) (cap := c1) (kk := .i64) (i := 0) (by kernel_rfl) Try.underlying128 (by kernel_rfl) ((H4.rd 0 rfl).cell hx3).1 hx3l hx3u) ?_
    refine Run_y (.agg #[.int .i64 x3.weight, .int .i64 x3.count]) (by kernel_rfl) (Y_loadA (t := 127) (n := 2) (p := adr a1 (0 * 2)) (cs := [.int .i64 x3.weight, .int .i64 x3.count]) (by kernel_rfl) (fun w => by kernel_rfl) (by kernel_rfl) rfl (cd127_elem (H4.rd 0 rfl) hx3)) ?_
    refine Run_E (by kernel_rfl) ?_
    refine E_box (ty := 127) (cs := [.int .i64 0, .int .i64 0]) H4 (fun w => by kernel_rfl) (fun b1 h3 H5 => ?_)
    refine Run_E (by kernel_rfl) ?_
    refine E_bput (t := 127) (off := 0) (us := [.int .i64 x3.weight, .int .i64 x3.count]) (v := .agg #[.int .i64 x3.weight, .int .i64 x3.count]) H5 (by kernel_rfl) (by kernel_rfl) rfl (by kernel_rfl) rfl (fun h4 H6 => ?_)
    refine Run_nil (by kernel_rfl) ?_
    refine Run_keep [4] (L' := [(4, .pointer (some ⟨b1, 0, none⟩))]) (by kernel_rfl) ?_
    refine Run_seq ?_
    refine Run_seq ?_
    refine Run_reg 3 (by kernel_rfl) (L' := [(4, .pointer (some ⟨b1, 0, none⟩)), (14, .bool (x3.weight == (-1000000000000000)))]) ?_ ?_
    · refine QRun_b [.pointer (some ⟨b1, 0, none⟩)] 0 _ (by kernel_rfl) (fun w => by kernel_rfl) ?_
      refine QRun_y (.int .i64 x3.weight) (by kernel_rfl) (Y_load1 (t := 2) (p := ⟨b1, 0, none⟩) (v := .int .i64 x3.weight) (by kernel_rfl) (fun w => by kernel_rfl) (H6.cell 0 rfl rfl)) ?_
      refine QRun_b [.bool (x3.weight == (-1000000000000000))] 2 _ (by kernel_rfl) (fun w => by kernel_rfl) ?_
      exact QRun_done [4, 14] (by kernel_rfl) (by kernel_rfl)
    refine Run_cond (b := x3.weight == (-1000000000000000)) (by kernel_rfl) (fun hb2 => ?_) (fun hb2 => ?_)
    · have hF := (M.ite_some hF).1 hb2
      refine Run_seq ?_
      refine Run_reg 2 (by kernel_rfl) (L' := [(2, .int .i64 0), (3, .int .i64 0)]) ?_ ?_
      · refine QRun_b [.int .i64 0, .int .i64 0] 0 _ (by kernel_rfl) (fun w => by kernel_rfl) ?_
        exact QRun_done [2, 3] (by kernel_rfl) (by kernel_rfl)
      have hF := M.ret_some hF
      subst hF
      have H7 : Hold h h4 [] := H6.pick [] (by kernel_rfl)
      exact Run_ret2 rfl (ResV_tmp (v := .int .i64 0) (by kernel_rfl)) (ResV_tmp (v := .int .i64 0) (by kernel_rfl)) ⟨rfl, H7⟩
    · have hF := (M.ite_some hF).2 hb2
      refine Run_skip ?_
      refine Run_seq ?_
      obtain ⟨x4, hx4, hF⟩ := M.bind_some hF
      refine Run_reg 7 (by kernel_rfl) (L' := [(2, .int .i64 x4.1), (3, .int .i64 x4.2)]) ?_ ?_
      · refine QRun_b [.pointer (some ⟨b1, 1, none⟩)] 0 _ (by kernel_rfl) (fun w => by kernel_rfl) ?_
        refine QRun_y (.int .i64 x3.count) (by kernel_rfl) (Y_load1 (t := 2) (p := ⟨b1, 1, none⟩) (v := .int .i64 x3.count) (by kernel_rfl) (fun w => by kernel_rfl) (H6.cell 0 rfl rfl)) ?_
        refine QRun_y (.tuple #[.int .i64 x4.1, .int .i64 x4.2]) (by kernel_rfl) (Y_callq (f := 129) (args := #[.int .i64 x3.count]) (v := .tuple #[.int .i64 x4.1, .int .i64 x4.2]) (by kernel_rfl) (w_impl_checkedValue h4 x3.count _ _ hx4)) ?_
        refine QRun_b [.int .i64 x4.1, .int .i64 x4.2, .int .i64 x4.1, .int .i64 x4.2] 3 _ (by kernel_rfl) (fun w => by kernel_rfl) ?_
        exact QRun_done [2, 3] (by kernel_rfl) (by kernel_rfl)
      have hF := M.ret_some hF
      subst hF
      have H8 : Hold h h4 [] := H6.pick [] (by kernel_rfl)
      exact Run_ret2 rfl (ResV_tmp (v := .int .i64 x4.1) (by kernel_rfl)) (ResV_tmp (v := .int .i64 x4.2) (by kernel_rfl)) ⟨rfl, H8⟩

set_option maxRecDepth 100000 in
set_option maxHeartbeats 4000000 in
theorem w_spec_CountAssignments (h : Heap) (a_ : List (List Int)) (aa_ : Option Addr) (ca_ : Nat) (ra_ : Rd cd39 h (Lt h) aa_ ca_ a_) (n : Nat) (r : Int × Int) (hF : spec_CountAssignments a_ n = some r) :
    Fn Try.prog 59 #[.slice aa_ a_.length ca_] h fun v h' => v = .tuple #[.int .i64 r.1, .int .i64 r.2] ∧ Hold h h' [] := by
  unfold spec_CountAssignments at hF
  refine Fn_enter (args := [.slice aa_ a_.length ca_]) Try.func59 rfl (by kernel_rfl) (by kernel_rfl) (fun w0 _ => ?_)
  have H0 := Hold.init h
  refine Run_seq ?_
  refine Run_reg 2 (by kernel_rfl) (L' := [(0, .slice aa_ a_.length ca_)]) ?_ ?_
  · refine QRun_b [.int .i64 0, .int .i64 0] 0 _ (by kernel_rfl) (fun w => by kernel_rfl) ?_
    exact QRun_done [0] (by kernel_rfl) (by kernel_rfl)
  refine Run_seq ?_
  refine Run_seq ?_
  obtain ⟨x1, hx1, hF⟩ := M.bind_some hF
  refine Run_reg 3 (by kernel_rfl) (L' := [(0, .slice aa_ a_.length ca_), (8, .bool (!x1))]) ?_ ?_
  · refine QRun_b [.slice aa_ a_.length ca_] 0 _ (by kernel_rfl) (fun w => by kernel_rfl) ?_
    refine QRun_y (.bool x1) (by kernel_rfl) (Y_callq (f := 82) (args := #[.slice aa_ a_.length ca_]) (v := .bool x1) (by kernel_rfl) (w_spec_l02Square h a_ aa_ ca_ ra_ _ _ hx1)) ?_
    refine QRun_b [.bool (!x1)] 2 _ (by kernel_rfl) (fun w => by kernel_rfl) ?_
    exact QRun_done [0, 8] (by kernel_rfl) (by kernel_rfl)
  refine Run_cond (b := !x1) (by kernel_rfl) (fun hb1 => ?_) (fun hb1 => ?_)
  · have hF := (M.ite_some hF).1 hb1
    refine Run_seq ?_
    refine Run_reg 2 (by kernel_rfl) (L' := [(2, .int .i64 0), (3, .int .i64 1)]) ?_ ?_
    · refine QRun_b [.int .i64 0, .int .i64 1] 0 _ (by kernel_rfl) (fun w => by kernel_rfl) ?_
      exact QRun_done [2, 3] (by kernel_rfl) (by kernel_rfl)
    have hF := M.ret_some hF
    subst hF
    exact Run_ret2 rfl (ResV_tmp (v := .int .i64 0) (by kernel_rfl)) (ResV_tmp (v := .int .i64 1) (by kernel_rfl)) ⟨rfl, H0⟩
  · have hF := (M.ite_some hF).2 hb1
    refine Run_skip ?_
    refine Run_seq ?_
    refine Run_ops ?_
    refine Run_b [.slice aa_ a_.length ca_] 0 _ (by kernel_rfl) (fun w => by kernel_rfl) ?_
    obtain ⟨x2, hx2, hF⟩ := M.bind_some hF
    refine Run_E (by kernel_rfl) ?_
    refine E_call (f := 133) (args := #[.slice aa_ a_.length ca_]) (w_spec_l10Best h a_ aa_ ca_ ra_ _ _ hx2) (by kernel_rfl) (fun v1 h1 hp1 => ?_)
    obtain ⟨a1, c1, a2, c2, rfl, H1⟩ := hp1
    have H2 : Hold h h1 [own cd2 a1 x2.1.length c1 x2.1, own cd2 a2 x2.2.length c2 x2.2] := H0.call H1 rfl
    refine Run_b [.tuple #[.slice a1 x2.1.length c1, .slice a2 x2.2.length c2], .slice a1 x2.1.length c1, .slice a2 x2.2.length c2, .slice a1 x2.1.length c1, .slice a2 x2.2.length c2] 2 _ (by kernel_rfl) (fun w => by kernel_rfl) ?_
    refine Run_nil (by kernel_rfl) ?_
    refine Run_keep [5] (L' := [(5, .slice a2 x2.2.length c2)]) (by kernel_rfl) ?_
    refine Run_seq ?_
    obtain ⟨x3, hx3, hF⟩ := M.bind_some hF
    obtain ⟨hx3l, hx3u, hx3⟩ := M.idx_some hx3
    obtain ⟨x4, hx4, hF⟩ := M.bind_some hF
    refine Run_reg 11 (by kernel_rfl) (L' := [(2, .int .i64 x4.1), (3, .int .i64 x4.2)]) ?_ ?_
    · refine QRun_b [.slice a2 x2.2.length c2, .slice a2 x2.2.length c2, .int .i64 (x2.2.length : Int), .int .i64 (w64 ((x2.2.length : Int) - 1))] 0 _ (by kernel_rfl) (fun w => by kernel_rfl) ?_
      refine QRun_y (.pointer (some (adr a2 ((w64 ((x2.2.length : Int) - 1)).toNat * 1)))) (by kernel_rfl) (Y_idx (t := 39) (e := 2) (sz := 1) (a := a2) (n := x2.2.length) (cap := c2) (kk := .i64) (i := w64 ((x2.2.length : Int) - 1)) (by kernel_rfl) Try.underlying39 (by kernel_rfl) ((H2.rd 1 rfl).cell hx3).1 hx3l hx3u) ?_
      refine QRun_y (.int .i64 x3) (by kernel_rfl) (Y_load1 (t := 2) (p := adr a2 ((w64 ((x2.2.length : Int) - 1)).toNat * 1)) (v := .int .i64 x3) (by kernel_rfl) (fun w => by kernel_rfl) (cd2_cell (H2.rd 1 rfl) hx3)) ?_
      refine QRun_y (.tuple #[.int .i64 x4.1, .int .i64 x4.2]) (by kernel_rfl) (Y_callq (f := 131) (args := #[.int .i64 x3]) (v := .tuple #[.int .i64 x4.1, .int .i64 x4.2]) (by kernel_rfl) (w_spec_l01Value h1 x3 _ _ hx4)) ?_
      refine QRun_b [.int .i64 x4.1, .int .i64 x4.2, .int .i64 x4.1, .int .i64 x4.2] 7 _ (by kernel_rfl) (fun w => by kernel_rfl) ?_
      exact QRun_done [2, 3] (by kernel_rfl) (by kernel_rfl)
    have hF := M.ret_some hF
    subst hF
    have H3 : Hold h h1 [] := H2.pick [] (by kernel_rfl)
    exact Run_ret2 rfl (ResV_tmp (v := .int .i64 x4.1) (by kernel_rfl)) (ResV_tmp (v := .int .i64 x4.2) (by kernel_rfl)) ⟨rfl, H3⟩

set_option maxRecDepth 100000 in
set_option maxHeartbeats 4000000 in
theorem w_impl_IsSingular (h : Heap) (a_ : List (List Int)) (aa_ : Option Addr) (ca_ : Nat) (ra_ : Rd cd39 h (Lt h) aa_ ca_ a_) (n : Nat) (r : Bool × Int) (hF : impl_IsSingular a_ n = some r) :
    Fn Try.prog 60 #[.slice aa_ a_.length ca_] h fun v h' => v = .tuple #[.bool r.1, .int .i64 r.2] ∧ Hold h h' [] := by
  unfold impl_IsSingular at hF
  refine Fn_enter (args := [.slice aa_ a_.length ca_]) Try.func60 rfl (by kernel_rfl) (by kernel_rfl) (fun w0 _ => ?_)
  have H0 := Hold.init h
  refine Run_seq ?_
  refine Run_reg 2 (by kernel_rfl) (L' := [(0, .slice aa_ a_.length ca_)]) ?_ ?_
  · refine QRun_b [.bool false, .int .i64 0] 0 _ (by kernel_rfl) (fun w => by kernel_rfl) ?_
    exact QRun_done [0] (by kernel_rfl) (by kernel_rfl)
  refine Run_seq ?_
  refine Run_seq ?_
  obtain ⟨x1, hx1, hF⟩ := M.bind_some hF
  refine Run_regC (j := 3) (C := fun x => Hold h x []) (by kernel_rfl) H0 (L' := [(0, .slice aa_ a_.length ca_), (7, .bool (!x1))]) ?_ (fun h1 H1 => ?_)
  · refine QRun_b [.slice aa_ a_.length ca_] 0 _ (by kernel_rfl) (fun w => by kernel_rfl) ?_
    refine QRun_y (.bool x1) (by kernel_rfl) (Y_call (f := 89) (args := #[.slice aa_ a_.length ca_]) (v := .bool x1) (by kernel_rfl) fun hx Hx => (w_impl_isSquare hx a_ aa_ ca_ (ra_.at Hx.ext) _ _ hx1).mono fun _ _ ⟨e, H'⟩ => ⟨e, Hx.call H' rfl⟩) ?_
    refine QRun_b [.bool (!x1)] 2 _ (by kernel_rfl) (fun w => by kernel_rfl) ?_
    exact QRun_done [0, 7] (by kernel_rfl) (by kernel_rfl)
  have H2 : Hold h h1 [] := H1
  refine Run_cond (b := !x1) (by kernel_rfl) (fun hb1 => ?_) (fun hb1 => ?_)
  · have hF := (M.ite_some hF).1 hb1
    refine Run_seq ?_
    refine Run_reg 2 (by kernel_rfl) (L' := [(2, .bool false), (3, .int .i64 1)]) ?_ ?_
    · refine QRun_b [.bool false, .int .i64 1] 0 _ (by kernel_rfl) (fun w => by kernel_rfl) ?_
      exact QRun_done [2, 3] (by kernel_rfl) (by kernel_rfl)
    have hF := M.ret_some hF
    subst hF
    exact Run_ret2 rfl (ResV_tmp (v := .bool false) (by kernel_rfl)) (ResV_tmp (v := .int .i64 1) (by kernel_rfl)) ⟨rfl, H2⟩
  · have hF := (M.ite_some hF).2 hb1
    refine Run_skip ?_
    refine Run_seq ?_
    refine Run_ops ?_
    refine Run_b [.slice aa_ a_.length ca_] 0 _ (by kernel_rfl) (fun w => by kernel_rfl) ?_
    obtain ⟨x2, hx2, hF⟩ := M.bind_some hF
    refine Run_E (by kernel_rfl) ?_
    refine E_call (f := 130) (args := #[.slice aa_ a_.length ca_]) (w_impl_permanents h1 a_ aa_ ca_ (ra_.at H2.ext) _ _ hx2) (by kernel_rfl) (fun v1 h2 hp1 => ?_)
    obtain ⟨a1, c1, rfl, H3⟩ := hp1
    have H4 : Hold h h2 [own cd127 a1 x2.length c1 x2] := H2.call H3 rfl
    obtain ⟨x3, hx3, hF⟩ := M.bind_some hF
    obtain ⟨hx3l, hx3u, hx3⟩ := M.idx_some hx3
    refine Run_y (.pointer (some (adr a1 (0 * 2)))) (by kernel_rfl) (Y_idx (t := 128) (e := 127) (sz := 2) (a := a1) (n := x2.length) (cap := c1) (kk := .i64) (i := 0) (by kernel_rfl) Try.underlying128 (by kernel_rfl) ((H4.rd 0 rfl).cell hx3).1 hx3l hx3u) ?_
    refine Run_y (.agg #[.int .i64 x3.weight, .int .i64 x3.count]) (by kernel_rfl) (Y_loadA (t := 127) (n := 2) (p := adr a1 (0 * 2)) (cs := [.int .i64 x3.weight, .int .i64 x3.count]) (by kernel_rfl) (fun w => by kernel_rfl) (by kernel_rfl) rfl (cd127_elem (H4.rd 0 rfl) hx3)) ?_
    refine Run_E (by kernel_rfl) ?_
    refine E_box (ty := 127) (cs := [.int .i64 0, .int .i64 0]) H4 (fun w => by kernel_rfl) (fun b1 h3 H5 => ?_)
    refine Run_E (by kernel_rfl) ?_
    refine E_bput (t := 127) (off := 0) (us := [.int .i64 x3.weight, .int .i64 x3.count]) (v := .agg #[.int .i64 x3.weight, .int .i64 x3.count]) H5 (by kernel_rfl) (by kernel_rfl) rfl (by kernel_rfl) rfl (fun h4 H6 => ?_)
    refine Run_nil (by kernel_rfl) ?_
    refine Run_keep [4] (L' := [(4, .pointer (some ⟨b1, 0, none⟩))]) (by kernel_rfl) ?_
    refine Run_seq ?_
    refine Run_reg 10 (by kernel_rfl) (L' := [(2, .bool ((x3.weight == (-1000000000000000)) || (decide (1 < x3.count)))), (3, .int .i64 0)]) ?_ ?_
    · refine QRun_b [.pointer (some ⟨b1, 0, none⟩)] 0 _ (by kernel_rfl) (fun w => by kernel_rfl) ?_
      refine QRun_y (.int .i64 x3.weight) (by kernel_rfl) (Y_load1 (t := 2) (p := ⟨b1, 0, none⟩) (v := .int .i64 x3.weight) (by kernel_rfl) (fun w => by kernel_rfl) (H6.cell 0 rfl rfl)) ?_
      refine QRun_b [.bool (x3.weight == (-1000000000000000))] 2 _ (by kernel_rfl) (fun w => by kernel_rfl) ?_
      refine QRun_seq 8 [(19, .bool ((x3.weight == (-1000000000000000)) || (decide (1 < x3.count))))] ?_ ?_
      · rcases Bool.eq_false_or_eq_true (x3.weight == (-1000000000000000)) with hb2 | hb2
        · refine QRun_bool (x3.weight == (-1000000000000000)) true (by kernel_rfl) (fun w => by kernel_rfl) hb2 ?_
          refine QRun_n (by kernel_rfl) ?_
          refine QRun_n (by kernel_rfl) ?_
          refine QRun_n (by kernel_rfl) ?_
          refine QRun_bool true ((x3.weight == (-1000000000000000)) || (decide (1 < x3.count))) (by kernel_rfl) (fun w => by kernel_rfl) (by rw [hb2]; rfl) ?_
          exact QRun_done [19] (by kernel_rfl) (by kernel_rfl)
        · refine QRun_bool (x3.weight == (-1000000000000000)) false (by kernel_rfl) (fun w => by kernel_rfl) hb2 ?_
          refine QRun_b [.pointer (some ⟨b1, 1, none⟩)] 4 _ (by kernel_rfl) (fun w => by kernel_rfl) ?_
          refine QRun_y (.int .i64 x3.count) (by kernel_rfl) (Y_load1 (t := 2) (p := ⟨b1, 1, none⟩) (v := .int .i64 x3.count) (by kernel_rfl) (fun w => by kernel_rfl) (H6.cell 0 rfl rfl)) ?_
          refine QRun_b [.bool (decide (1 < x3.count))] 6 _ (by kernel_rfl) (fun w => by kernel_rfl) ?_
          refine QRun_bool (decide (1 < x3.count)) ((x3.weight == (-1000000000000000)) || (decide (1 < x3.count))) (by kernel_rfl) (fun w => by kernel_rfl) (by rw [hb2]; rfl) ?_
          exact QRun_done [19] (by kernel_rfl) (by kernel_rfl)
      refine QRun_b [.bool ((x3.weight == (-1000000000000000)) || (decide (1 < x3.count))), .int .i64 0] 8 _ (by kernel_rfl) (fun w => by kernel_rfl) ?_
      exact QRun_done [2, 3] (by kernel_rfl) (by kernel_rfl)
    have hF := M.ret_some hF
    subst hF
    have H7 : Hold h h4 [] := H6.pick [] (by kernel_rfl)
    exact Run_ret2 rfl (ResV_tmp (v := .bool ((x3.weight == (-1000000000000000)) || (decide (1 < x3.count)))) (by kernel_rfl)) (ResV_tmp (v := .int .i64 0) (by kernel_rfl)) ⟨rfl, H7⟩

set_option maxRecDepth 100000 in
set_option maxHeartbeats 4000000 in
theorem w_spec_IsSingular (h : Heap) (a_ : List (List Int)) (aa_ : Option Addr) (ca_ : Nat) (ra_ : Rd cd39 h (Lt h) aa_ ca_ a_) (n : Nat) (r : Bool × Int) (hF : spec_IsSingular a_ n = some r) :
    Fn Try.prog 61 #[.slice aa_ a_.length ca_] h fun v h' => v = .tuple #[.bool r.1, .int .i64 r.2] ∧ Hold h h' [] := by
  unfold spec_IsSingular at hF
  refine Fn_enter (args := [.slice aa_ a_.length ca_]) Try.func61 rfl (by kernel_rfl) (by kernel_rfl) (fun w0 _ => ?_)
  have H0 := Hold.init h
  refine Run_seq ?_
  refine Run_reg 2 (by kernel_rfl) (L' := [(0, .slice aa_ a_.length ca_)]) ?_ ?_
  · refine QRun_b [.bool false, .int .i64 0] 0 _ (by kernel_rfl) (fun w => by kernel_rfl) ?_
    exact QRun_done [0] (by kernel_rfl) (by kernel_rfl)
  refine Run_seq ?_
  refine Run_seq ?_
  obtain ⟨x1, hx1, hF⟩ := M.bind_some hF
  refine Run_reg 3 (by kernel_rfl) (L' := [(0, .slice aa_ a_.length ca_), (8, .bool (!x1))]) ?_ ?_
  · refine QRun_b [.slice aa_ a_.length ca_] 0 _ (by kernel_rfl) (fun w => by kernel_rfl) ?_
    refine QRun_y (.bool x1) (by kernel_rfl) (Y_callq (f := 82) (args := #[.slice aa_ a_.length ca_]) (v := .bool x1) (by kernel_rfl) (w_spec_l02Square h a_ aa_ ca_ ra_ _ _ hx1)) ?_
    refine QRun_b [.bool (!x1)] 2 _ (by kernel_rfl) (fun w => by kernel_rfl) ?_
    exact QRun_done [0, 8] (by kernel_rfl) (by kernel_rfl)
  refine Run_cond (b := !x1) (by kernel_rfl) (fun hb1 => ?_) (fun hb1 => ?_)
  · have hF := (M.ite_some hF).1 hb1
    refine Run_seq ?_
    refine Run_reg 2 (by kernel_rfl) (L' := [(2, .bool false), (3, .int .i64 1)]) ?_ ?_
    · refine QRun_b [.bool false, .int .i64 1] 0 _ (by kernel_rfl) (fun w => by kernel_rfl) ?_
      exact QRun_done [2, 3] (by kernel_rfl) (by kernel_rfl)
    have hF := M.ret_some hF
    subst hF
    exact Run_ret2 rfl (ResV_tmp (v := .bool false) (by kernel_rfl)) (ResV_tmp (v := .int .i64 1) (by kernel_rfl)) ⟨rfl, H0⟩
  · have hF := (M.ite_some hF).2 hb1
    refine Run_skip ?_
    refine Run_seq ?_
    refine Run_ops ?_
    refine Run_b [.slice aa_ a_.length ca_] 0 _ (by kernel_rfl) (fun w => by kernel_rfl) ?_
    obtain ⟨x2, hx2, hF⟩ := M.bind_some hF
    refine Run_E (by kernel_rfl) ?_
    refine E_call (f := 133) (args := #[.slice aa_ a_.length ca_]) (w_spec_l10Best h a_ aa_ ca_ ra_ _ _ hx2) (by kernel_rfl) (fun v1 h1 hp1 => ?_)
    obtain ⟨a1, c1, a2, c2, rfl, H1⟩ := hp1
    have H2 : Hold h h1 [own cd2 a1 x2.1.length c1 x2.1, own cd2 a2 x2.2.length c2 x2.2] := H0.call H1 rfl
    refine Run_b [.tuple #[.slice a1 x2.1.length c1, .slice a2 x2.2.length c2], .slice a1 x2.1.length c1, .slice a2 x2.2.length c2, .slice a1 x2.1.length c1, .slice a2 x2.2.length c2] 2 _ (by kernel_rfl) (fun w => by kernel_rfl) ?_
    refine Run_nil (by kernel_rfl) ?_
    refine Run_keep [5] (L' := [(5, .slice a2 x2.2.length c2)]) (by kernel_rfl) ?_
    refine Run_seq ?_
    obtain ⟨x3, hx3, hF⟩ := M.bind_some hF
    obtain ⟨hx3l, hx3u, hx3⟩ := M.idx_some hx3
    refine Run_reg 9 (by kernel_rfl) (L' := [(2, .bool (x3 != 1)), (3, .int .i64 0)]) ?_ ?_
    · refine QRun_b [.slice a2 x2.2.length c2, .slice a2 x2.2.length c2, .int .i64 (x2.2.length : Int), .int .i64 (w64 ((x2.2.length : Int) - 1))] 0 _ (by kernel_rfl) (fun w => by kernel_rfl) ?_
      refine QRun_y (.pointer (some (adr a2 ((w64 ((x2.2.length : Int) - 1)).toNat * 1)))) (by kernel_rfl) (Y_idx (t := 39) (e := 2) (sz := 1) (a := a2) (n := x2.2.length) (cap := c2) (kk := .i64) (i := w64 ((x2.2.length : Int) - 1)) (by kernel_rfl) Try.underlying39 (by kernel_rfl) ((H2.rd 1 rfl).cell hx3).1 hx3l hx3u) ?_
      refine QRun_y (.int .i64 x3) (by kernel_rfl) (Y_load1 (t := 2) (p := adr a2 ((w64 ((x2.2.length : Int) - 1)).toNat * 1)) (v := .int .i64 x3) (by kernel_rfl) (fun w => by kernel_rfl) (cd2_cell (H2.rd 1 rfl) hx3)) ?_
      refine QRun_b [.bool (x3 != 1), .bool (x3 != 1), .int .i64 0] 6 _ (by kernel_rfl) (fun w => by kernel_rfl) ?_
      exact QRun_done [2, 3] (by kernel_rfl) (by kernel_rfl)
    have hF := M.ret_some hF
    subst hF
    have H3 : Hold h h1 [] := H2.pick [] (by kernel_rfl)
    exact Run_ret2 rfl (ResV_tmp (v := .bool (x3 != 1)) (by kernel_rfl)) (ResV_tmp (v := .int .i64 0) (by kernel_rfl)) ⟨rfl, H3⟩

set_option maxRecDepth 100000 in
set_option maxHeartbeats 4000000 in
theorem w_laws_likeInts (h : Heap) (a_ : List Int) {Sa_ : Bs} (aa_ : Option Addr) (ca_ : Nat) (ra_ : Rd cd2 h Sa_ aa_ ca_ a_) (b : List Int) {Sb : Bs} (ab : Option Addr) (cb : Nat) (rb : Rd cd2 h Sb ab cb b) (n : Nat) (r : Bool) (hF : laws_likeInts a_ b n = some r) :
    Fn Try.prog 39 #[.slice aa_ a_.length ca_, .slice ab b.length cb] h fun v h' => v = .bool r ∧ h' = h := by
  unfold laws_likeInts at hF
  refine Fn_enter (args := [.slice aa_ a_.length ca_, .slice ab b.length cb]) Try.func39 rfl (by kernel_rfl) (by kernel_rfl) (fun w0 _ => ?_)
  refine Run_seq ?_
  refine Run_reg 1 (by kernel_rfl) (L' := [(0, .slice aa_ a_.length ca_), (1, .slice ab b.length cb)]) ?_ ?_
  · refine QRun_b [.bool false] 0 _ (by kernel_rfl) (fun w => by kernel_rfl) ?_
    exact QRun_done [0, 1] (by kernel_rfl) (by kernel_rfl)
  refine Run_seq ?_
  refine Run_seq ?_
  refine Run_reg 5 (by kernel_rfl) (L' := [(0, .slice aa_ a_.length ca_), (1, .slice ab b.length cb), (10, .bool ((a_.length : Int) != (b.length : Int)))]) ?_ ?_
  · refine QRun_b [.slice aa_ a_.length ca_, .int .i64 (a_.length : Int), .slice ab b.length cb, .int .i64 (b.length : Int), .bool ((a_.length : Int) != (b.length : Int))] 0 _ (by kernel_rfl) (fun w => by kernel_rfl) ?_
    exact QRun_done [0, 1, 10] (by kernel_rfl) (by kernel_rfl)
  refine Run_cond (b := (a_.length : Int) != (b.length : Int)) (by kernel_rfl) (fun hb1 => ?_) (fun hb1 => ?_)
  · have hF := (M.ite_some hF).1 hb1
    refine Run_seq ?_
    refine Run_reg 1 (by kernel_rfl) (L' := [(4, .bool false)]) ?_ ?_
    · refine QRun_b [.bool false] 0 _ (by kernel_rfl) (fun w => by kernel_rfl) ?_
      exact QRun_done [4] (by kernel_rfl) (by kernel_rfl)
    have hF := M.ret_some hF
    subst hF
    exact Run_ret1 rfl (ResV_tmp (v := .bool false) (by kernel_rfl)) ⟨rfl, rfl⟩
  · have hF := (M.ite_some hF).2 hb1
    refine Run_skip ?_
    refine Run_seq ?_
    refine Run_seq ?_
    refine Run_reg 1 (by kernel_rfl) (L' := [(0, .slice aa_ a_.length ca_), (1, .slice ab b.length cb), (5, .int .i64 0)]) ?_ ?_
    · refine QRun_b [.int .i64 0] 0 _ (by kernel_rfl) (fun w => by kernel_rfl) ?_
      exact QRun_done [0, 1, 5] (by kernel_rfl) (by kernel_rfl)
    obtain ⟨x1, gx1, hF⟩ := M.bind_some hF
    obtain ⟨hloy1, hhiy1, gx1⟩ := M.for_start gx1
    refine Run_join (fun L' h' => ∃ (s2 : Unit), x1 = .inl s2 ∧ L' = [] ∧ h = h') ?_ ?_
    · rintro _ _ ⟨s2, es2, rfl, rfl⟩
      have hF := M.cont_inl' hF es2
      refine Run_seq ?_
      refine Run_reg 1 (by kernel_rfl) (L' := [(4, .bool true)]) ?_ ?_
      · refine QRun_b [.bool true] 0 _ (by kernel_rfl) (fun w => by kernel_rfl) ?_
        exact QRun_done [4] (by kernel_rfl) (by kernel_rfl)
      have hF := M.ret_some hF
      subst hF
      exact Run_ret1 rfl (ResV_tmp (v := .bool true) (by kernel_rfl)) ⟨rfl, rfl⟩
    · refine Run_block ?_
      refine Run_keep [0, 1, 5] (L' := [(0, .slice aa_ a_.length ca_), (1, .slice ab b.length cb), (5, .int .i64 0)]) (by kernel_rfl) ?_
      refine Run_loop (fun m L' h' => ∃ (i1 : Int) (s1 : Unit), 0 ≤ i1 ∧ M.forN (a_.length : Int) _ _ n m i1 s1 = some x1 ∧ L' = [(0, .slice aa_ a_.length ca_), (1, .slice ab b.length cb), (5, .int .i64 i1)] ∧ h = h') ((a_.length : Int) - 0 : Int).toNat ⟨0, (), Int.le_refl _, gx1, rfl, rfl⟩ ?_
      rintro my1 _ _ ⟨i1, s1, hloy1', gx1, rfl, rfl⟩
      refine Run_seq ?_
      refine Run_seq ?_
      refine Run_reg 4 (by kernel_rfl) (L' := [(0, .slice aa_ a_.length ca_), (1, .slice ab b.length cb), (5, .int .i64 i1), (14, .bool (decide (i1 < (a_.length : Int))))]) ?_ ?_
      · refine QRun_b [.int .i64 i1, .slice aa_ a_.length ca_, .int .i64 (a_.length : Int), .bool (decide (i1 < (a_.length : Int)))] 0 _ (by kernel_rfl) (fun w => by kernel_rfl) ?_
        exact QRun_done [0, 1, 5, 14] (by kernel_rfl) (by kernel_rfl)
      refine Run_cond (b := decide (i1 < (a_.length : Int))) (by kernel_rfl) (fun hb2 => ?_) (fun hb2 => ?_)
      · obtain ⟨my1, y1, rfl, hB1, hgoy1, houty1⟩ := M.for_go gx1 hb2
        have hlty1 := of_decide_eq_true hb2
        refine Run_skip ?_
        refine Run_seq ?_
        refine Run_block ?_
        refine Run_seq ?_
        obtain ⟨x2, hx1, hB1⟩ := M.bind_some hB1
        obtain ⟨hx1l, hx1u, hx1⟩ := M.idx_some hx1
        obtain ⟨x3, hx2, hB1⟩ := M.bind_some hB1
        obtain ⟨hx2l, hx2u, hx2⟩ := M.idx_some hx2
        refine Run_draw 9 mixed (by kernel_rfl) (by kernel_rfl) (L' := [(0, .slice aa_ a_.length ca_), (1, .slice ab b.length cb), (5, .int .i64 i1), (25, .bool (x2 != x3))]) ?_ ?_
        · refine QRun_b [.slice aa_ a_.length ca_, .int .i64 i1] 0 _ (by kernel_rfl) (fun w => by kernel_rfl) ?_
          refine QRun_y (.pointer (some (adr aa_ (i1.toNat * 1)))) (by kernel_rfl) (Y_idx (t := 39) (e := 2) (sz := 1) (a := aa_) (n := a_.length) (cap := ca_) (kk := .i64) (i := i1) (by kernel_rfl) Try.underlying39 (by kernel_rfl) (ra_.cell hx1).1 hx1l hx1u) ?_
          refine QRun_y (.int .i64 x2) (by kernel_rfl) (Y_load1 (t := 2) (p := adr aa_ (i1.toNat * 1)) (v := .int .i64 x2) (by kernel_rfl) (fun w => by kernel_rfl) (cd2_cell ra_ hx1)) ?_
          refine QRun_b [.slice ab b.length cb, .int .i64 i1] 4 _ (by kernel_rfl) (fun w => by kernel_rfl) ?_
          refine QRun_y (.pointer (some (adr ab (i1.toNat * 1)))) (by kernel_rfl) (Y_idx (t := 39) (e := 2) (sz := 1) (a := ab) (n := b.length) (cap := cb) (kk := .i64) (i := i1) (by kernel_rfl) Try.underlying39 (by kernel_rfl) (rb.cell hx2).1 hx2l hx2u) ?_
          refine QRun_y (.int .i64 x3) (by kernel_rfl) (Y_load1 (t := 2) (p := adr ab (i1.toNat * 1)) (v := .int .i64 x3) (by kernel_rfl) (fun w => by kernel_rfl) (cd2_cell rb hx2)) ?_
          refine QRun_b [.bool (x2 != x3)] 8 _ (by kernel_rfl) (fun w => by kernel_rfl) ?_
          exact QRun_done [0, 1, 5, 25] (by kernel_rfl) (by kernel_rfl)
        refine Run_cond (b := x2 != x3) (by kernel_rfl) (fun hb3 => ?_) (fun hb3 => ?_)
        · have hB1 := (M.ite_some hB1).1 hb3
          refine Run_seq ?_
          refine Run_reg 1 (by kernel_rfl) (L' := [(4, .bool false)]) ?_ ?_
          · refine QRun_b [.bool false] 0 _ (by kernel_rfl) (fun w => by kernel_rfl) ?_
            exact QRun_done [4] (by kernel_rfl) (by kernel_rfl)
          have hB1 := M.ret_some hB1
          have gx1 := houty1 _ hB1.symm
          have hF := M.cont_inr' hF gx1
          have hF := M.ret_some hF
          subst hF
          exact Run_ret1 rfl (ResV_tmp (v := .bool false) (by kernel_rfl)) ⟨rfl, rfl⟩
        · have hB1 := (M.ite_some hB1).2 hb3
          refine Run_skip ?_
          refine Run_blk ?_
          refine Run_reg 3 (by kernel_rfl) (L' := [(0, .slice aa_ a_.length ca_), (1, .slice ab b.length cb), (5, .int .i64 (i1 + 1))]) ?_ ?_
          · refine QRun_b [.int .i64 i1] 0 _ (by kernel_rfl) (fun w => by kernel_rfl) ?_
            refine QRun_y (.int .i64 (i1 + 1)) (by kernel_rfl) (Y_eq (v := .int .i64 (w64 (i1 + 1))) (Y_pure (fun w => by kernel_rfl)) (by rw [w64_eq _ (by omega)])) ?_
            refine QRun_b [.int .i64 (i1 + 1)] 2 _ (by kernel_rfl) (fun w => by kernel_rfl) ?_
            exact QRun_done [0, 1, 5] (by kernel_rfl) (by kernel_rfl)
          have hB1 := M.ret_some hB1
          have gx1 := hgoy1 _ hB1.symm
          exact Run_again [0, 1, 5] (by kernel_rfl) my1 (Nat.lt_succ_self _) ⟨i1 + 1, (), by omega, gx1, rfl, rfl⟩
      · have gx1 := M.for_end gx1 hb2
        subst gx1
        refine Run_exit (k' := _) rfl ?_
        exact Run_fall [] (by kernel_rfl) ⟨(), rfl, rfl, rfl⟩

set_option maxRecDepth 100000 in
set_option maxHeartbeats 4000000 in
theorem w_laws_FnAssignments (h : Heap) (code : List Int) (acode : Option Addr) (ccode : Nat) (rcode : Rd cd5 h (Lt h) acode ccode code) (n : Nat) (r : Bool) (hF : laws_FnAssignments code n = some r) :
    Fn Try.prog 9 #[.slice acode code.length ccode] h fun v h' => v = .bool r ∧ Hold h h' [] := by
  unfold laws_FnAssignments at hF
  refine Fn_enter (args := [.slice acode code.length ccode]) Try.func9 rfl (by kernel_rfl) (by kernel_rfl) (fun w0 _ => ?_)
  have H0 := Hold.init h
  refine Run_seq ?_
  refine Run_reg 1 (by kernel_rfl) (L' := [(0, .slice acode code.length ccode)]) ?_ ?_
  · refine QRun_b [.bool false] 0 _ (by kernel_rfl) (fun w => by kernel_rfl) ?_
    exact QRun_done [0] (by kernel_rfl) (by kernel_rfl)
  refine Run_seq ?_
  refine Run_seq ?_
  obtain ⟨x1, hx1, hF⟩ := M.bind_some hF
  refine Run_reg 2 (by kernel_rfl) (L' := [(0, .slice acode code.length ccode), (27, .bool x1)]) ?_ ?_
  · refine QRun_b [.slice acode code.length ccode] 0 _ (by kernel_rfl) (fun w => by kernel_rfl) ?_
    refine QRun_y (.bool x1) (by kernel_rfl) (Y_callq (f := 27) (args := #[.slice acode code.length ccode]) (v := .bool x1) (by kernel_rfl) (w_laws_big h code acode ccode rcode _ _ hx1)) ?_
    exact QRun_done [0, 27] (by kernel_rfl) (by kernel_rfl)
  refine Run_cond (b := x1) (by kernel_rfl) (fun hb1 => ?_) (fun hb1 => ?_)
  · have hF := (M.ite_some hF).1 hb1
    refine Run_seq ?_
    refine Run_reg 1 (by kernel_rfl) (L' := [(2, .bool true)]) ?_ ?_
    · refine QRun_b [.bool true] 0 _ (by kernel_rfl) (fun w => by kernel_rfl) ?_
      exact QRun_done [2] (by kernel_rfl) (by kernel_rfl)
    have hF := M.ret_some hF
    subst hF
    exact Run_ret1 rfl (ResV_tmp (v := .bool true) (by kernel_rfl)) ⟨rfl, H0⟩
  · have hF := (M.ite_some hF).2 hb1
    refine Run_skip ?_
    refine Run_seq ?_
    refine Run_ops ?_
    refine Run_b [.slice acode code.length ccode] 0 _ (by kernel_rfl) (fun w => by kernel_rfl) ?_
    obtain ⟨x2, hx2, hF⟩ := M.bind_some hF
    refine Run_E (by kernel_rfl) ?_
    refine E_call (f := 53) (args := #[.slice acode code.length ccode]) (w_spec_DrawBestAssignment h code acode ccode rcode _ _ hx2) (by kernel_rfl) (fun v1 h1 hp1 => ?_)
    obtain ⟨a1, c1, rfl, H1⟩ := hp1
    have H2 : Hold h h1 [own cd39 a1 x2.length c1 x2] := H0.call H1 rfl
    refine Run_b [.slice a1 x2.length c1] 2 _ (by kernel_rfl) (fun w => by kernel_rfl) ?_
    refine Run_nil (by kernel_rfl) ?_
    refine Run_keep [0, 3] (L' := [(0, .slice acode code.length ccode), (3, .slice a1 x2.length c1)]) (by kernel_rfl) ?_
    refine Run_seq ?_
    refine Run_ops ?_
    refine Run_b [.slice a1 x2.length c1] 0 _ (by kernel_rfl) (fun w => by kernel_rfl) ?_
    obtain ⟨x3, hx3, hF⟩ := M.bind_some hF
    refine Run_E (by kernel_rfl) ?_
    refine E_call (f := 54) (args := #[.slice a1 x2.length c1]) (w_impl_BestAssignment h1 x2 a1 c1 (H2.rd 0 rfl) _ _ hx3) (by kernel_rfl) (fun v2 h2 hp2 => ?_)
    obtain ⟨a2, c2, rfl, H3⟩ := hp2
    have H4 : Hold h h2 [own cd2 a2 x3.1.length c2 x3.1, own cd39 a1 x2.length c1 x2] := H2.call H3 rfl
    refine Run_b [.tuple #[.slice a2 x3.1.length c2, .int .i64 x3.2], .slice a2 x3.1.length c2, .int .i64 x3.2, .slice a2 x3.1.length c2, .int .i64 x3.2] 2 _ (by kernel_rfl) (fun w => by kernel_rfl) ?_
    refine Run_nil (by kernel_rfl) ?_
    refine Run_keep [0, 3, 4, 5] (L' := [(0, .slice acode code.length ccode), (3, .slice a1 x2.length c1), (4, .slice a2 x3.1.length c2), (5, .int .i64 x3.2)]) (by kernel_rfl) ?_
    refine Run_seq ?_
    refine Run_ops ?_
    refine Run_b [.slice a1 x2.length c1] 0 _ (by kernel_rfl) (fun w => by kernel_rfl) ?_
    obtain ⟨x4, hx4, hF⟩ := M.bind_some hF
    refine Run_E (by kernel_rfl) ?_
    refine E_call (f := 55) (args := #[.slice a1 x2.length c1]) (w_spec_BestAssignment h2 x2 a1 c1 (H4.rd 1 rfl) _ _ hx4) (by kernel_rfl) (fun v3 h3 hp3 => ?_)
    obtain ⟨a3, c3, rfl, H5⟩ := hp3
    have H6 : Hold h h3 [own cd2 a3 x4.1.length c3 x4.1, own cd2 a2 x3.1.length c2 x3.1, own cd39 a1 x2.length c1 x2] := H4.call H5 rfl
    refine Run_b [.tuple #[.slice a3 x4.1.length c3, .int .i64 x4.2], .slice a3 x4.1.length c3, .int .i64 x4.2, .slice a3 x4.1.length c3, .int .i64 x4.2] 2 _ (by kernel_rfl) (fun w => by kernel_rfl) ?_
    refine Run_nil (by kernel_rfl) ?_
    refine Run_keep [0, 3, 4, 5, 6, 7] (L' := [(0, .slice acode code.length ccode), (3, .slice a1 x2.length c1), (4, .slice a2 x3.1.length c2), (5, .int .i64 x3.2), (6, .slice a3 x4.1.length c3), (7, .int .i64 x4.2)]) (by kernel_rfl) ?_
    refine Run_seq ?_
    obtain ⟨x5, hx5, hF⟩ := M.bind_some hF
    refine Run_regC (j := 7) (C := fun x => Hold h x [own cd2 a3 x4.1.length c3 x4.1, own cd2 a2 x3.1.length c2 x3.1, own cd39 a1 x2.length c1 x2]) (by kernel_rfl) H6 (L' := [(0, .slice acode code.length ccode), (3, .slice a1 x2.length c1), (4, .slice a2 x3.1.length c2), (5, .int .i64 x3.2), (6, .slice a3 x4.1.length c3), (7, .int .i64 x4.2), (8, .int .i64 x5.1), (9, .int .i64 x5.2)]) ?_ (fun h4 H7 => ?_)
    · refine QRun_b [.slice a1 x2.length c1] 0 _ (by kernel_rfl) (fun w => by kernel_rfl) ?_
      refine QRun_y (.tuple #[.int .i64 x5.1, .int .i64 x5.2]) (by kernel_rfl) (Y_call (f := 51) (args := #[.slice a1 x2.length c1]) (v := .tuple #[.int .i64 x5.1, .int .i64 x5.2]) (by kernel_rfl) fun hx Hx => (w_impl_PermanentOf hx x2 a1 c1 (Hx.rd 2 rfl) _ _ hx5).mono fun _ _ ⟨e, H'⟩ => ⟨e, Hx.call H' rfl⟩) ?_
      refine QRun_b [.tuple #[.int .i64 x5.1, .int .i64 x5.2], .int .i64 x5.1, .int .i64 x5.2, .int .i64 x5.1, .int .i64 x5.2] 2 _ (by kernel_rfl) (fun w => by kernel_rfl) ?_
      exact QRun_done [0, 3, 4, 5, 6, 7, 8, 9] (by kernel_rfl) (by kernel_rfl)
    have H8 : Hold h h4 [own cd2 a3 x4.1.length c3 x4.1, own cd2 a2 x3.1.length c2 x3.1, own cd39 a1 x2.length c1 x2] := H7
    refine Run_seq ?_
    obtain ⟨x6, hx6, hF⟩ := M.bind_some hF
    refine Run_regC (j := 7) (C := fun x => Hold h x [own cd2 a3 x4.1.length c3 x4.1, own cd2 a2 x3.1.length c2 x3.1, own cd39 a1 x2.length c1 x2]) (by kernel_rfl) H8 (L' := [(0, .slice acode code.length ccode), (3, .slice a1 x2.length c1), (4, .slice a2 x3.1.length c2), (5, .int .i64 x3.2), (6, .slice a3 x4.1.length c3), (7, .int .i64 x4.2), (8, .int .i64 x5.1), (9, .int .i64 x5.2), (10, .int .i64 x6.1), (11, .int .i64 x6.2)]) ?_ (fun h5 H9 => ?_)
    · refine QRun_b [.slice a1 x2.length c1] 0 _ (by kernel_rfl) (fun w => by kernel_rfl) ?_
      refine QRun_y (.tuple #[.int .i64 x6.1, .int .i64 x6.2]) (by kernel_rfl) (Y_call (f := 56) (args := #[.slice a1 x2.length c1]) (v := .tuple #[.int .i64 x6.1, .int .i64 x6.2]) (by kernel_rfl) fun hx Hx => (w_spec_PermanentOf hx x2 a1 c1 (Hx.rd 2 rfl) _ _ hx6).mono fun _ _ ⟨e, H'⟩ => ⟨e, Hx.call H' rfl⟩) ?_
      refine QRun_b [.tuple #[.int .i64 x6.1, .int .i64 x6.2], .int .i64 x6.1, .int .i64 x6.2, .int .i64 x6.1, .int .i64 x6.2] 2 _ (by kernel_rfl) (fun w => by kernel_rfl) ?_
      exact QRun_done [0, 3, 4, 5, 6, 7, 8, 9, 10, 11] (by kernel_rfl) (by kernel_rfl)
    have H10 : Hold h h5 [own cd2 a3 x4.1.length c3 x4.1, own cd2 a2 x3.1.length c2 x3.1, own cd39 a1 x2.length c1 x2] := H9
    refine Run_seq ?_
    refine Run_ops ?_
    refine Run_b [.slice acode code.length ccode] 0 _ (by kernel_rfl) (fun w => by kernel_rfl) ?_
    obtain ⟨x7, hx7, hF⟩ := M.bind_some hF
    refine Run_E (by kernel_rfl) ?_
    refine E_call (f := 57) (args := #[.slice acode code.length ccode]) (w_spec_DrawCountAssignments h5 code acode ccode (rcode.at H10.ext) _ _ hx7) (by kernel_rfl) (fun v4 h6 hp4 => ?_)
    obtain ⟨a4, c4, rfl, H11⟩ := hp4
    have H12 : Hold h h6 [own cd39 a4 x7.length c4 x7, own cd2 a3 x4.1.length c3 x4.1, own cd2 a2 x3.1.length c2 x3.1, own cd39 a1 x2.length c1 x2] := H10.call H11 rfl
    refine Run_b [.slice a4 x7.length c4] 2 _ (by kernel_rfl) (fun w => by kernel_rfl) ?_
    refine Run_nil (by kernel_rfl) ?_
    refine Run_keep [3, 4, 5, 6, 7, 8, 9, 10, 11, 12] (L' := [(3, .slice a1 x2.length c1), (4, .slice a2 x3.1.length c2), (5, .int .i64 x3.2), (6, .slice a3 x4.1.length c3), (7, .int .i64 x4.2), (8, .int .i64 x5.1), (9, .int .i64 x5.2), (10, .int .i64 x6.1), (11, .int .i64 x6.2), (12, .slice a4 x7.length c4)]) (by kernel_rfl) ?_
    refine Run_seq ?_
    obtain ⟨x8, hx8, hF⟩ := M.bind_some hF
    refine Run_regC (j := 7) (C := fun x => Hold h x [own cd39 a4 x7.length c4 x7, own cd2 a3 x4.1.length c3 x4.1, own cd2 a2 x3.1.length c2 x3.1, own cd39 a1 x2.length c1 x2]) (by kernel_rfl) H12 (L' := [(3, .slice a1 x2.length c1), (4, .slice a2 x3.1.length c2), (5, .int .i64 x3.2), (6, .slice a3 x4.1.length c3), (7, .int .i64 x4.2), (8, .int .i64 x5.1), (9, .int .i64 x5.2), (10, .int .i64 x6.1), (11, .int .i64 x6.2), (12, .slice a4 x7.length c4), (13, .int .i64 x8.1), (14, .int .i64 x8.2)]) ?_ (fun h7 H13 => ?_)
    · refine QRun_b [.slice a4 x7.length c4] 0 _ (by kernel_rfl) (fun w => by kernel_rfl) ?_
      refine QRun_y (.tuple #[.int .i64 x8.1, .int .i64 x8.2]) (by kernel_rfl) (Y_call (f := 58) (args := #[.slice a4 x7.length c4]) (v := .tuple #[.int .i64 x8.1, .int .i64 x8.2]) (by kernel_rfl) fun hx Hx => (w_impl_CountAssignments hx x7 a4 c4 (Hx.rd 0 rfl) _ _ hx8).mono fun _ _ ⟨e, H'⟩ => ⟨e, Hx.call H' rfl⟩) ?_
      refine QRun_b [.tuple #[.int .i64 x8.1, .int .i64 x8.2], .int .i64 x8.1, .int .i64 x8.2, .int .i64 x8.1, .int .i64 x8.2] 2 _ (by kernel_rfl) (fun w => by kernel_rfl) ?_
      exact QRun_done [3, 4, 5, 6, 7, 8, 9, 10, 11, 12, 13, 14] (by kernel_rfl) (by kernel_rfl)
    have H14 : Hold h h7 [own cd39 a4 x7.length c4 x7, own cd2 a3 x4.1.length c3 x4.1, own cd2 a2 x3.1.length c2 x3.1, own cd39 a1 x2.length c1 x2] := H13
    refine Run_seq ?_
    obtain ⟨x9, hx9, hF⟩ := M.bind_some hF
    refine Run_regC (j := 7) (C := fun x => Hold h x [own cd39 a4 x7.length c4 x7, own cd2 a3 x4.1.length c3 x4.1, own cd2 a2 x3.1.length c2 x3.1, own cd39 a1 x2.length c1 x2]) (by kernel_rfl) H14 (L' := [(3, .slice a1 x2.length c1), (4, .slice a2 x3.1.length c2), (5, .int .i64 x3.2), (6, .slice a3 x4.1.length c3), (7, .int .i64 x4.2), (8, .int .i64 x5.1), (9, .int .i64 x5.2), (10, .int .i64 x6.1), (11, .int .i64 x6.2), (12, .slice a4 x7.length c4), (13, .int .i64 x8.1), (14, .int .i64 x8.2), (15, .int .i64 x9.1), (16, .int .i64 x9.2)]) ?_ (fun h8 H15 => ?_)
    · refine QRun_b [.slice a4 x7.length c4] 0 _ (by kernel_rfl) (fun w => by kernel_rfl) ?_
      refine QRun_y (.tuple #[.int .i64 x9.1, .int .i64 x9.2]) (by kernel_rfl) (Y_call (f := 59) (args := #[.slice a4 x7.length c4]) (v := .tuple #[.int .i64 x9.1, .int .i64 x9.2]) (by kernel_rfl) fun hx Hx => (w_spec_CountAssignments hx x7 a4 c4 (Hx.rd 0 rfl) _ _ hx9).mono fun _ _ ⟨e, H'⟩ => ⟨e, Hx.call H' rfl⟩) ?_
      refine QRun_b [.tuple #[.int .i64 x9.1, .int .i64 x9.2], .int .i64 x9.1, .int .i64 x9.2, .int .i64 x9.1, .int .i64 x9.2] 2 _ (by kernel_rfl) (fun w => by kernel_rfl) ?_
      exact QRun_done [3, 4, 5, 6, 7, 8, 9, 10, 11, 12, 13, 14, 15, 16] (by kernel_rfl) (by kernel_rfl)
    have H16 : Hold h h8 [own cd39 a4 x7.length c4 x7, own cd2 a3 x4.1.length c3 x4.1, own cd2 a2 x3.1.length c2 x3.1, own cd39 a1 x2.length c1 x2] := H15
    refine Run_seq ?_
    obtain ⟨x10, hx10, hF⟩ := M.bind_some hF
    refine Run_regC (j := 7) (C := fun x => Hold h x [own cd39 a4 x7.length c4 x7, own cd2 a3 x4.1.length c3 x4.1, own cd2 a2 x3.1.length c2 x3.1, own cd39 a1 x2.length c1 x2]) (by kernel_rfl) H16 (L' := [(3, .slice a1 x2.length c1), (4, .slice a2 x3.1.length c2), (5, .int .i64 x3.2), (6, .slice a3 x4.1.length c3), (7, .int .i64 x4.2), (8, .int .i64 x5.1), (9, .int .i64 x5.2), (10, .int .i64 x6.1), (11, .int .i64 x6.2), (12, .slice a4 x7.length c4), (13, .int .i64 x8.1), (14, .int .i64 x8.2), (15, .int .i64 x9.1), (16, .int .i64 x9.2), (17, .bool x10.1), (18, .int .i64 x10.2)]) ?_ (fun h9 H17 => ?_)
    · refine QRun_b [.slice a4 x7.length c4] 0 _ (by kernel_rfl) (fun w => by kernel_rfl) ?_
      refine QRun_y (.tuple #[.bool x10.1, .int .i64 x10.2]) (by kernel_rfl) (Y_call (f := 60) (args := #[.slice a4 x7.length c4]) (v := .tuple #[.bool x10.1, .int .i64 x10.2]) (by kernel_rfl) fun hx Hx => (w_impl_IsSingular hx x7 a4 c4 (Hx.rd 0 rfl) _ _ hx10).mono fun _ _ ⟨e, H'⟩ => ⟨e, Hx.call H' rfl⟩) ?_
      refine QRun_b [.tuple #[.bool x10.1, .int .i64 x10.2], .bool x10.1, .int .i64 x10.2, .bool x10.1, .int .i64 x10.2] 2 _ (by kernel_rfl) (fun w => by kernel_rfl) ?_
      exact QRun_done [3, 4, 5, 6, 7, 8, 9, 10, 11, 12, 13, 14, 15, 16, 17, 18] (by kernel_rfl) (by kernel_rfl)
    have H18 : Hold h h9 [own cd39 a4 x7.length c4 x7, own cd2 a3 x4.1.length c3 x4.1, own cd2 a2 x3.1.length c2 x3.1, own cd39 a1 x2.length c1 x2] := H17
    refine Run_seq ?_
    obtain ⟨x11, hx11, hF⟩ := M.bind_some hF
    refine Run_regC (j := 7) (C := fun x => Hold h x [own cd39 a4 x7.length c4 x7, own cd2 a3 x4.1.length c3 x4.1, own cd2 a2 x3.1.length c2 x3.1, own cd39 a1 x2.length c1 x2]) (by kernel_rfl) H18 (L' := [(3, .slice a1 x2.length c1), (4, .slice a2 x3.1.length c2), (5, .int .i64 x3.2), (6, .slice a3 x4.1.length c3), (7, .int .i64 x4.2), (8, .int .i64 x5.1), (9, .int .i64 x5.2), (10, .int .i64 x6.1), (11, .int .i64 x6.2), (13, .int .i64 x8.1), (14, .int .i64 x8.2), (15, .int .i64 x9.1), (16, .int .i64 x9.2), (17, .bool x10.1), (18, .int .i64 x10.2), (19, .bool x11.1), (20, .int .i64 x11.2)]) ?_ (fun h10 H19 => ?_)
    · refine QRun_b [.slice a4 x7.length c4] 0 _ (by kernel_rfl) (fun w => by kernel_rfl) ?_
      refine QRun_y (.tuple #[.bool x11.1, .int .i64 x11.2]) (by kernel_rfl) (Y_call (f := 61) (args := #[.slice a4 x7.length c4]) (v := .tuple #[.bool x11.1, .int .i64 x11.2]) (by kernel_rfl) fun hx Hx => (w_spec_IsSingular hx x7 a4 c4 (Hx.rd 0 rfl) _ _ hx11).mono fun _ _ ⟨e, H'⟩ => ⟨e, Hx.call H' rfl⟩) ?_
      refine QRun_b [.tuple #[.bool x11.1, .int .i64 x11.2], .bool x11.1, .int .i64 x11.2, .bool x11.1, .int .i64 x11.2] 2 _ (by kernel_rfl) (fun w => by kernel_rfl) ?_
      exact QRun_done [3, 4, 5, 6, 7, 8, 9, 10, 11, 13, 14, 15, 16, 17, 18, 19, 20] (by kernel_rfl) (by kernel_rfl)
    have H20 : Hold h h10 [own cd39 a4 x7.length c4 x7, own cd2 a3 x4.1.length c3 x4.1, own cd2 a2 x3.1.length c2 x3.1, own cd39 a1 x2.length c1 x2] := H19
    refine Run_seq ?_
    refine Run_seq ?_
    obtain ⟨x12, gx12, hF⟩ := M.bind_some hF
    refine Run_reg 49 (by kernel_rfl) (L' := [(3, .slice a1 x2.length c1), (4, .slice a2 x3.1.length c2), (5, .int .i64 x3.2), (8, .int .i64 x5.1), (9, .int .i64 x5.2), (120, .bool (((((((x12 || (x5.2 != x6.2)) || (x5.1 != x6.1)) || (x8.2 != x9.2)) || (x8.1 != x9.1)) || (x10.2 != x11.2)) || (!(x10.1 == x11.1))) || ((x10.2 == 0) && (!(x10.1 == (x8.1 != 1))))))]) ?_ ?_
    · refine QRun_b [.int .i64 x3.2, .int .i64 x4.2, .bool (x3.2 != x4.2)] 0 _ (by kernel_rfl) (fun w => by kernel_rfl) ?_
      refine QRun_seq 9 [(3, .slice a1 x2.length c1), (4, .slice a2 x3.1.length c2), (5, .int .i64 x3.2), (8, .int .i64 x5.1), (9, .int .i64 x5.2), (10, .int .i64 x6.1), (11, .int .i64 x6.2), (13, .int .i64 x8.1), (14, .int .i64 x8.2), (15, .int .i64 x9.1), (16, .int .i64 x9.2), (17, .bool x10.1), (18, .int .i64 x10.2), (19, .bool x11.1), (20, .int .i64 x11.2), (80, .bool x12)] ?_ ?_
      · rcases Bool.eq_false_or_eq_true (x3.2 != x4.2) with hb2 | hb2
        · refine QRun_bool (x3.2 != x4.2) true (by kernel_rfl) (fun w => by kernel_rfl) hb2 ?_
          have gx12 := M.ret_some ((M.ite_some gx12).1 hb2)
          refine QRun_n (by kernel_rfl) ?_
          refine QRun_n (by kernel_rfl) ?_
          refine QRun_n (by kernel_rfl) ?_
          refine QRun_n (by kernel_rfl) ?_
          refine QRun_bool true x12 (by kernel_rfl) (fun w => by kernel_rfl) gx12 ?_
          exact QRun_done [3, 4, 5, 8, 9, 10, 11, 13, 14, 15, 16, 17, 18, 19, 20, 80] (by kernel_rfl) (by kernel_rfl)
        · refine QRun_bool (x3.2 != x4.2) false (by kernel_rfl) (fun w => by kernel_rfl) hb2 ?_
          have gx12 := (M.ite_some gx12).2 hb2
          obtain ⟨x13, hx12, gx12⟩ := M.bind_some gx12
          have gx12 := M.ret_some gx12
          refine QRun_b [.slice a2 x3.1.length c2, .slice a3 x4.1.length c3] 4 _ (by kernel_rfl) (fun w => by kernel_rfl) ?_
          refine QRun_y (.bool x13) (by kernel_rfl) (Y_callq (f := 39) (args := #[.slice a2 x3.1.length c2, .slice a3 x4.1.length c3]) (v := .bool x13) (by kernel_rfl) (w_laws_likeInts h10 x3.1 a2 c2 (H20.rd 2 rfl) x4.1 a3 c3 (H20.rd 1 rfl) _ _ hx12)) ?_
          refine QRun_b [.bool (!x13)] 7 _ (by kernel_rfl) (fun w => by kernel_rfl) ?_
          refine QRun_bool (!x13) x12 (by kernel_rfl) (fun w => by kernel_rfl) gx12 ?_
          exact QRun_done [3, 4, 5, 8, 9, 10, 11, 13, 14, 15, 16, 17, 18, 19, 20, 80] (by kernel_rfl) (by kernel_rfl)
      refine QRun_seq 14 [(3, .slice a1 x2.length c1), (4, .slice a2 x3.1.length c2), (5, .int .i64 x3.2), (8, .int .i64 x5.1), (9, .int .i64 x5.2), (10, .int .i64 x6.1), (13, .int .i64 x8.1), (14, .int .i64 x8.2), (15, .int .i64 x9.1), (16, .int .i64 x9.2), (17, .bool x10.1), (18, .int .i64 x10.2), (19, .bool x11.1), (20, .int .i64 x11.2), (85, .bool (x12 || (x5.2 != x6.2)))] ?_ ?_
      · rcases Bool.eq_false_or_eq_true x12 with hb3 | hb3
        · refine QRun_bool x12 true (by kernel_rfl) (fun w => by kernel_rfl) hb3 ?_
          refine QRun_n (by kernel_rfl) ?_
          refine QRun_n (by kernel_rfl) ?_
          refine QRun_n (by kernel_rfl) ?_
          refine QRun_bool true (x12 || (x5.2 != x6.2)) (by kernel_rfl) (fun w => by kernel_rfl) (by rw [hb3]; rfl) ?_
          exact QRun_done [3, 4, 5, 8, 9, 10, 13, 14, 15, 16, 17, 18, 19, 20, 85] (by kernel_rfl) (by kernel_rfl)
        · refine QRun_bool x12 false (by kernel_rfl) (fun w => by kernel_rfl) hb3 ?_
          refine QRun_b [.int .i64 x5.2, .int .i64 x6.2, .bool (x5.2 != x6.2)] 10 _ (by kernel_rfl) (fun w => by kernel_rfl) ?_
          refine QRun_bool (x5.2 != x6.2) (x12 || (x5.2 != x6.2)) (by kernel_rfl) (fun w => by kernel_rfl) (by rw [hb3]; rfl) ?_
          exact QRun_done [3, 4, 5, 8, 9, 10, 13, 14, 15, 16, 17, 18, 19, 20, 85] (by kernel_rfl) (by kernel_rfl)
      refine QRun_seq 19 [(3, .slice a1 x2.length c1), (4, .slice a2 x3.1.length c2), (5, .int .i64 x3.2), (8, .int .i64 x5.1), (9, .int .i64 x5.2), (13, .int .i64 x8.1), (14, .int .i64 x8.2), (15, .int .i64 x9.1), (16, .int .i64 x9.2), (17, .bool x10.1), (18, .int .i64 x10.2), (19, .bool x11.1), (20, .int .i64 x11.2), (90, .bool ((x12 || (x5.2 != x6.2)) || (x5.1 != x6.1)))] ?_ ?_
      · rcases Bool.eq_false_or_eq_true (x12 || (x5.2 != x6.2)) with hb4 | hb4
        · refine QRun_bool (x12 || (x5.2 != x6.2)) true (by kernel_rfl) (fun w => by kernel_rfl) hb4 ?_
          refine QRun_n (by kernel_rfl) ?_
          refine QRun_n (by kernel_rfl) ?_
          refine QRun_n (by kernel_rfl) ?_
          refine QRun_bool true ((x12 || (x5.2 != x6.2)) || (x5.1 != x6.1)) (by kernel_rfl) (fun w => by kernel_rfl) (by rw [hb4]; rfl) ?_
          exact QRun_done [3, 4, 5, 8, 9, 13, 14, 15, 16, 17, 18, 19, 20, 90] (by kernel_rfl) (by kernel_rfl)
        · refine QRun_bool (x12 || (x5.2 != x6.2)) false (by kernel_rfl) (fun w => by kernel_rfl) hb4 ?_
          refine QRun_b [.int .i64 x5.1, .int .i64 x6.1, .bool (x5.1 != x6.1)] 15 _ (by kernel_rfl) (fun w => by kernel_rfl) ?_
          refine QRun_bool (x5.1 != x6.1) ((x12 || (x5.2 != x6.2)) || (x5.1 != x6.1)) (by kernel_rfl) (fun w => by kernel_rfl) (by rw [hb4]; rfl) ?_
          exact QRun_done [3, 4, 5, 8, 9, 13, 14, 15, 16, 17, 18, 19, 20, 90] (by kernel_rfl) (by kernel_rfl)
      refine QRun_seq 24 [(3, .slice a1 x2.length c1), (4, .slice a2 x3.1.length c2), (5, .int .i64 x3.2), (8, .int .i64 x5.1), (9, .int .i64 x5.2), (13, .int .i64 x8.1), (15, .int .i64 x9.1), (17, .bool x10.1), (18, .int .i64 x10.2), (19, .bool x11.1), (20, .int .i64 x11.2), (95, .bool (((x12 || (x5.2 != x6.2)) || (x5.1 != x6.1)) || (x8.2 != x9.2)))] ?_ ?_
      · rcases Bool.eq_false_or_eq_true ((x12 || (x5.2 != x6.2)) || (x5.1 != x6.1)) with hb5 | hb5
        · refine QRun_bool ((x12 || (x5.2 != x6.2)) || (x5.1 != x6.1)) true (by kernel_rfl) (fun w => by kernel_rfl) hb5 ?_
          refine QRun_n (by kernel_rfl) ?_
          refine QRun_n (by kernel_rfl) ?_
          refine QRun_n (by kernel_rfl) ?_
          refine QRun_bool true (((x12 || (x5.2 != x6.2)) || (x5.1 != x6.1)) || (x8.2 != x9.2)) (by kernel_rfl) (fun w => by kernel_rfl) (by rw [hb5]; rfl) ?_
          exact QRun_done [3, 4, 5, 8, 9, 13, 15, 17, 18, 19, 20, 95] (by kernel_rfl) (by kernel_rfl)
        · refine QRun_bool ((x12 || (x5.2 != x6.2)) || (x5.1 != x6.1)) false (by kernel_rfl) (fun w => by kernel_rfl) hb5 ?_
          refine QRun_b [.int .i64 x8.2, .int .i64 x9.2, .bool (x8.2 != x9.2)] 20 _ (by kernel_rfl) (fun w => by kernel_rfl) ?_
          refine QRun_bool (x8.2 != x9.2) (((x12 || (x5.2 != x6.2)) || (x5.1 != x6.1)) || (x8.2 != x9.2)) (by kernel_rfl) (fun w => by kernel_rfl) (by rw [hb5]; rfl) ?_
          exact QRun_done [3, 4, 5, 8, 9, 13, 15, 17, 18, 19, 20, 95] (by kernel_rfl) (by kernel_rfl)
      refine QRun_seq 29 [(3, .slice a1 x2.length c1), (4, .slice a2 x3.1.length c2), (5, .int .i64 x3.2), (8, .int .i64 x5.1), (9, .int .i64 x5.2), (13, .int .i64 x8.1), (17, .bool x10.1), (18, .int .i64 x10.2), (19, .bool x11.1), (20, .int .i64 x11.2), (100, .bool ((((x12 || (x5.2 != x6.2)) || (x5.1 != x6.1)) || (x8.2 != x9.2)) || (x8.1 != x9.1)))] ?_ ?_
      · rcases Bool.eq_false_or_eq_true (((x12 || (x5.2 != x6.2)) || (x5.1 != x6.1)) || (x8.2 != x9.2)) with hb6 | hb6
        · refine QRun_bool (((x12 || (x5.2 != x6.2)) || (x5.1 != x6.1)) || (x8.2 != x9.2)) true (by kernel_rfl) (fun w => by kernel_rfl) hb6 ?_
          refine QRun_n (by kernel_rfl) ?_
          refine QRun_n (by kernel_rfl) ?_
          refine QRun_n (by kernel_rfl) ?_
          refine QRun_bool true ((((x12 || (x5.2 != x6.2)) || (x5.1 != x6.1)) || (x8.2 != x9.2)) || (x8.1 != x9.1)) (by kernel_rfl) (fun w => by kernel_rfl) (by rw [hb6]; rfl) ?_
          exact QRun_done [3, 4, 5, 8, 9, 13, 17, 18, 19, 20, 100] (by kernel_rfl) (by kernel_rfl)
        · refine QRun_bool (((x12 || (x5.2 != x6.2)) || (x5.1 != x6.1)) || (x8.2 != x9.2)) false (by kernel_rfl) (fun w => by kernel_rfl) hb6 ?_
          refine QRun_b [.int .i64 x8.1, .int .i64 x9.1, .bool (x8.1 != x9.1)] 25 _ (by kernel_rfl) (fun w => by kernel_rfl) ?_
          refine QRun_bool (x8.1 != x9.1) ((((x12 || (x5.2 != x6.2)) || (x5.1 != x6.1)) || (x8.2 != x9.2)) || (x8.1 != x9.1)) (by kernel_rfl) (fun w => by kernel_rfl) (by rw [hb6]; rfl) ?_
          exact QRun_done [3, 4, 5, 8, 9, 13, 17, 18, 19, 20, 100] (by kernel_rfl) (by kernel_rfl)
      refine QRun_seq 34 [(3, .slice a1 x2.length c1), (4, .slice a2 x3.1.length c2), (5, .int .i64 x3.2), (8, .int .i64 x5.1), (9, .int .i64 x5.2), (13, .int .i64 x8.1), (17, .bool x10.1), (18, .int .i64 x10.2), (19, .bool x11.1), (105, .bool (((((x12 || (x5.2 != x6.2)) || (x5.1 != x6.1)) || (x8.2 != x9.2)) || (x8.1 != x9.1)) || (x10.2 != x11.2)))] ?_ ?_
      · rcases Bool.eq_false_or_eq_true ((((x12 || (x5.2 != x6.2)) || (x5.1 != x6.1)) || (x8.2 != x9.2)) || (x8.1 != x9.1)) with hb7 | hb7
        · refine QRun_bool ((((x12 || (x5.2 != x6.2)) || (x5.1 != x6.1)) || (x8.2 != x9.2)) || (x8.1 != x9.1)) true (by kernel_rfl) (fun w => by kernel_rfl) hb7 ?_
          refine QRun_n (by kernel_rfl) ?_
          refine QRun_n (by kernel_rfl) ?_
          refine QRun_n (by kernel_rfl) ?_
          refine QRun_bool true (((((x12 || (x5.2 != x6.2)) || (x5.1 != x6.1)) || (x8.2 != x9.2)) || (x8.1 != x9.1)) || (x10.2 != x11.2)) (by kernel_rfl) (fun w => by kernel_rfl) (by rw [hb7]; rfl) ?_
          exact QRun_done [3, 4, 5, 8, 9, 13, 17, 18, 19, 105] (by kernel_rfl) (by kernel_rfl)
        · refine QRun_bool ((((x12 || (x5.2 != x6.2)) || (x5.1 != x6.1)) || (x8.2 != x9.2)) || (x8.1 != x9.1)) false (by kernel_rfl) (fun w => by kernel_rfl) hb7 ?_
          refine QRun_b [.int .i64 x10.2, .int .i64 x11.2, .bool (x10.2 != x11.2)] 30 _ (by kernel_rfl) (fun w => by kernel_rfl) ?_
          refine QRun_bool (x10.2 != x11.2) (((((x12 || (x5.2 != x6.2)) || (x5.1 != x6.1)) || (x8.2 != x9.2)) || (x8.1 != x9.1)) || (x10.2 != x11.2)) (by kernel_rfl) (fun w => by kernel_rfl) (by rw [hb7]; rfl) ?_
          exact QRun_done [3, 4, 5, 8, 9, 13, 17, 18, 19, 105] (by kernel_rfl) (by kernel_rfl)
      refine QRun_seq 39 [(3, .slice a1 x2.length c1), (4, .slice a2 x3.1.length c2), (5, .int .i64 x3.2), (8, .int .i64 x5.1), (9, .int .i64 x5.2), (13, .int .i64 x8.1), (17, .bool x10.1), (18, .int .i64 x10.2), (110, .bool ((((((x12 || (x5.2 != x6.2)) || (x5.1 != x6.1)) || (x8.2 != x9.2)) || (x8.1 != x9.1)) || (x10.2 != x11.2)) || (!(x10.1 == x11.1))))] ?_ ?_
      · rcases Bool.eq_false_or_eq_true (((((x12 || (x5.2 != x6.2)) || (x5.1 != x6.1)) || (x8.2 != x9.2)) || (x8.1 != x9.1)) || (x10.2 != x11.2)) with hb8 | hb8
        · refine QRun_bool (((((x12 || (x5.2 != x6.2)) || (x5.1 != x6.1)) || (x8.2 != x9.2)) || (x8.1 != x9.1)) || (x10.2 != x11.2)) true (by kernel_rfl) (fun w => by kernel_rfl) hb8 ?_
          refine QRun_n (by kernel_rfl) ?_
          refine QRun_n (by kernel_rfl) ?_
          refine QRun_n (by kernel_rfl) ?_
          refine QRun_bool true ((((((x12 || (x5.2 != x6.2)) || (x5.1 != x6.1)) || (x8.2 != x9.2)) || (x8.1 != x9.1)) || (x10.2 != x11.2)) || (!(x10.1 == x11.1))) (by kernel_rfl) (fun w => by kernel_rfl) (by rw [hb8]; rfl) ?_
          exact QRun_done [3, 4, 5, 8, 9, 13, 17, 18, 110] (by kernel_rfl) (by kernel_rfl)
        · refine QRun_bool (((((x12 || (x5.2 != x6.2)) || (x5.1 != x6.1)) || (x8.2 != x9.2)) || (x8.1 != x9.1)) || (x10.2 != x11.2)) false (by kernel_rfl) (fun w => by kernel_rfl) hb8 ?_
          refine QRun_b [.bool x10.1, .bool x11.1, .bool (!(x10.1 == x11.1))] 35 _ (by kernel_rfl) (fun w => by kernel_rfl) ?_
          refine QRun_bool (!(x10.1 == x11.1)) ((((((x12 || (x5.2 != x6.2)) || (x5.1 != x6.1)) || (x8.2 != x9.2)) || (x8.1 != x9.1)) || (x10.2 != x11.2)) || (!(x10.1 == x11.1))) (by kernel_rfl) (fun w => by kernel_rfl) (by rw [hb8]; rfl) ?_
          exact QRun_done [3, 4, 5, 8, 9, 13, 17, 18, 110] (by kernel_rfl) (by kernel_rfl)
      refine QRun_seq 49 [(3, .slice a1 x2.length c1), (4, .slice a2 x3.1.length c2), (5, .int .i64 x3.2), (8, .int .i64 x5.1), (9, .int .i64 x5.2), (120, .bool (((((((x12 || (x5.2 != x6.2)) || (x5.1 != x6.1)) || (x8.2 != x9.2)) || (x8.1 != x9.1)) || (x10.2 != x11.2)) || (!(x10.1 == x11.1))) || ((x10.2 == 0) && (!(x10.1 == (x8.1 != 1))))))] ?_ ?_
      · rcases Bool.eq_false_or_eq_true ((((((x12 || (x5.2 != x6.2)) || (x5.1 != x6.1)) || (x8.2 != x9.2)) || (x8.1 != x9.1)) || (x10.2 != x11.2)) || (!(x10.1 == x11.1))) with hb9 | hb9
        · refine QRun_bool ((((((x12 || (x5.2 != x6.2)) || (x5.1 != x6.1)) || (x8.2 != x9.2)) || (x8.1 != x9.1)) || (x10.2 != x11.2)) || (!(x10.1 == x11.1))) true (by kernel_rfl) (fun w => by kernel_rfl) hb9 ?_
          refine QRun_n (by kernel_rfl) ?_
          refine QRun_n (by kernel_rfl) ?_
          refine QRun_n (by kernel_rfl) ?_
          refine QRun_n (by kernel_rfl) ?_
          refine QRun_n (by kernel_rfl) ?_
          refine QRun_n (by kernel_rfl) ?_
          refine QRun_n (by kernel_rfl) ?_
          refine QRun_n (by kernel_rfl) ?_
          refine QRun_bool true (((((((x12 || (x5.2 != x6.2)) || (x5.1 != x6.1)) || (x8.2 != x9.2)) || (x8.1 != x9.1)) || (x10.2 != x11.2)) || (!(x10.1 == x11.1))) || ((x10.2 == 0) && (!(x10.1 == (x8.1 != 1))))) (by kernel_rfl) (fun w => by kernel_rfl) (by rw [hb9]; rfl) ?_
          exact QRun_done [3, 4, 5, 8, 9, 120] (by kernel_rfl) (by kernel_rfl)
        · refine QRun_bool ((((((x12 || (x5.2 != x6.2)) || (x5.1 != x6.1)) || (x8.2 != x9.2)) || (x8.1 != x9.1)) || (x10.2 != x11.2)) || (!(x10.1 == x11.1))) false (by kernel_rfl) (fun w => by kernel_rfl) hb9 ?_
          refine QRun_b [.int .i64 x10.2, .bool (x10.2 == 0)] 40 _ (by kernel_rfl) (fun w => by kernel_rfl) ?_
          refine QRun_seq 48 [(3, .slice a1 x2.length c1), (4, .slice a2 x3.1.length c2), (5, .int .i64 x3.2), (8, .int .i64 x5.1), (9, .int .i64 x5.2), (111, .bool false), (119, .bool ((x10.2 == 0) && (!(x10.1 == (x8.1 != 1)))))] ?_ ?_
          · rcases Bool.eq_false_or_eq_true (x10.2 == 0) with hb10 | hb10
            · refine QRun_bool (x10.2 == 0) true (by kernel_rfl) (fun w => by kernel_rfl) hb10 ?_
              refine QRun_b [.bool x10.1, .int .i64 x8.1, .bool (x8.1 != 1), .bool (!(x10.1 == (x8.1 != 1)))] 43 _ (by kernel_rfl) (fun w => by kernel_rfl) ?_
              refine QRun_bool (!(x10.1 == (x8.1 != 1))) ((x10.2 == 0) && (!(x10.1 == (x8.1 != 1)))) (by kernel_rfl) (fun w => by kernel_rfl) (by rw [hb10]; rfl) ?_
              exact QRun_done [3, 4, 5, 8, 9, 111, 119] (by kernel_rfl) (by kernel_rfl)
            · refine QRun_bool (x10.2 == 0) false (by kernel_rfl) (fun w => by kernel_rfl) hb10 ?_
              refine QRun_n (by kernel_rfl) ?_
              refine QRun_n (by kernel_rfl) ?_
              refine QRun_n (by kernel_rfl) ?_
              refine QRun_n (by kernel_rfl) ?_
              refine QRun_bool false ((x10.2 == 0) && (!(x10.1 == (x8.1 != 1)))) (by kernel_rfl) (fun w => by kernel_rfl) (by rw [hb10]; rfl) ?_
              exact QRun_done [3, 4, 5, 8, 9, 111, 119] (by kernel_rfl) (by kernel_rfl)
          refine QRun_bool ((x10.2 == 0) && (!(x10.1 == (x8.1 != 1)))) (((((((x12 || (x5.2 != x6.2)) || (x5.1 != x6.1)) || (x8.2 != x9.2)) || (x8.1 != x9.1)) || (x10.2 != x11.2)) || (!(x10.1 == x11.1))) || ((x10.2 == 0) && (!(x10.1 == (x8.1 != 1))))) (by kernel_rfl) (fun w => by kernel_rfl) (by rw [hb9]; rfl) ?_
          exact QRun_done [3, 4, 5, 8, 9, 120] (by kernel_rfl) (by kernel_rfl)
      exact QRun_done [3, 4, 5, 8, 9, 120] (by kernel_rfl) (by kernel_rfl)
    refine Run_cond (b := ((((((x12 || (x5.2 != x6.2)) || (x5.1 != x6.1)) || (x8.2 != x9.2)) || (x8.1 != x9.1)) || (x10.2 != x11.2)) || (!(x10.1 == x11.1))) || ((x10.2 == 0) && (!(x10.1 == (x8.1 != 1))))) (by kernel_rfl) (fun hb11 => ?_) (fun hb11 => ?_)
    · have hF := (M.ite_some hF).1 hb11
      refine Run_seq ?_
      refine Run_reg 1 (by kernel_rfl) (L' := [(2, .bool false)]) ?_ ?_
      · refine QRun_b [.bool false] 0 _ (by kernel_rfl) (fun w => by kernel_rfl) ?_
        exact QRun_done [2] (by kernel_rfl) (by kernel_rfl)
      have hF := M.ret_some hF
      subst hF
      have H21 : Hold h h10 [] := H20.pick [] (by kernel_rfl)
      exact Run_ret1 rfl (ResV_tmp (v := .bool false) (by kernel_rfl)) ⟨rfl, H21⟩
    · have hF := (M.ite_some hF).2 hb11
      refine Run_skip ?_
      refine Run_seq ?_
      refine Run_seq ?_
      refine Run_reg 2 (by kernel_rfl) (L' := [(3, .slice a1 x2.length c1), (4, .slice a2 x3.1.length c2), (5, .int .i64 x3.2), (8, .int .i64 x5.1), (122, .bool (x5.2 != 0))]) ?_ ?_
      · refine QRun_b [.int .i64 x5.2, .bool (x5.2 != 0)] 0 _ (by kernel_rfl) (fun w => by kernel_rfl) ?_
        exact QRun_done [3, 4, 5, 8, 122] (by kernel_rfl) (by kernel_rfl)
      refine Run_cond (b := x5.2 != 0) (by kernel_rfl) (fun hb12 => ?_) (fun hb12 => ?_)
      · have hF := (M.ite_some hF).1 hb12
        refine Run_seq ?_
        refine Run_reg 1 (by kernel_rfl) (L' := [(2, .bool true)]) ?_ ?_
        · refine QRun_b [.bool true] 0 _ (by kernel_rfl) (fun w => by kernel_rfl) ?_
          exact QRun_done [2] (by kernel_rfl) (by kernel_rfl)
        have hF := M.ret_some hF
        subst hF
        have H22 : Hold h h10 [] := H20.pick [] (by kernel_rfl)
        exact Run_ret1 rfl (ResV_tmp (v := .bool true) (by kernel_rfl)) ⟨rfl, H22⟩
      · have hF := (M.ite_some hF).2 hb12
        refine Run_skip ?_
        refine Run_seq ?_
        have rB1 := (H20.rd 3 rfl)
        have rB2 := (H20.rd 2 rfl)
        have HB1 : Hold h h10 [] := H20.pick [] (by kernel_rfl)
        obtain ⟨h, hEq⟩ : ∃ q : Heap, q = h10 := ⟨_, rfl⟩
        subst hEq
        have H23 := Hold.init h
        obtain ⟨s1, gs1, hF⟩ := M.bind_some hF
        refine Run_join (fun L' h' => ∃ (a18 : Option Addr), ∃ (c13 : Nat), L' = [(3, .slice a1 x2.length c1), (4, .slice a2 x3.1.length c2), (5, .int .i64 x3.2), (8, .int .i64 x5.1), (21, .slice a18 s1.length c13)] ∧ Hold h h' [own (pinCd cd39 h) a18 s1.length c13 s1]) ?_ ?_
        · rintro _ h33 ⟨a18, c13, rfl, H65⟩
          refine Run_seq ?_
          obtain ⟨x26, hx17, hF⟩ := M.bind_some hF
          refine Run_regC (j := 7) (C := fun x => Hold h x [own (pinCd cd39 h) a18 s1.length c13 s1]) (by kernel_rfl) H65 (L' := [(3, .slice a1 x2.length c1), (4, .slice a2 x3.1.length c2), (5, .int .i64 x3.2), (8, .int .i64 x5.1), (22, .int .i64 x26.1), (23, .int .i64 x26.2)]) ?_ (fun h34 H66 => ?_)
          · refine QRun_b [.slice a18 s1.length c13] 0 _ (by kernel_rfl) (fun w => by kernel_rfl) ?_
            refine QRun_y (.tuple #[.int .i64 x26.1, .int .i64 x26.2]) (by kernel_rfl) (Y_call (f := 51) (args := #[.slice a18 s1.length c13]) (v := .tuple #[.int .i64 x26.1, .int .i64 x26.2]) (by kernel_rfl) fun hx Hx => (w_impl_PermanentOf hx s1 a18 c13 ((Hx.rd 0 rfl).unpin Hx.ext) _ _ hx17).mono fun _ _ ⟨e, H'⟩ => ⟨e, Hx.call H' rfl⟩) ?_
            refine QRun_b [.tuple #[.int .i64 x26.1, .int .i64 x26.2], .int .i64 x26.1, .int .i64 x26.2, .int .i64 x26.1, .int .i64 x26.2] 2 _ (by kernel_rfl) (fun w => by kernel_rfl) ?_
            exact QRun_done [3, 4, 5, 8, 22, 23] (by kernel_rfl) (by kernel_rfl)
          have H67 : Hold h h34 [own (pinCd cd39 h) a18 s1.length c13 s1] := H66
          refine Run_seq ?_
          refine Run_seq ?_
          refine Run_reg 14 (by kernel_rfl) (L' := [(3, .slice a1 x2.length c1), (4, .slice a2 x3.1.length c2), (5, .int .i64 x3.2), (8, .int .i64 x5.1), (150, .bool (((x26.2 != 0) || (x26.1 != x5.1)) || (!((x5.1 == (-1000000000000000)) == (x3.2 == 4)))))]) ?_ ?_
          · refine QRun_b [.int .i64 x26.2, .bool (x26.2 != 0)] 0 _ (by kernel_rfl) (fun w => by kernel_rfl) ?_
            refine QRun_seq 7 [(3, .slice a1 x2.length c1), (4, .slice a2 x3.1.length c2), (5, .int .i64 x3.2), (8, .int .i64 x5.1), (143, .bool ((x26.2 != 0) || (x26.1 != x5.1)))] ?_ ?_
            · rcases Bool.eq_false_or_eq_true (x26.2 != 0) with hb13 | hb13
              · refine QRun_bool (x26.2 != 0) true (by kernel_rfl) (fun w => by kernel_rfl) hb13 ?_
                refine QRun_n (by kernel_rfl) ?_
                refine QRun_n (by kernel_rfl) ?_
                refine QRun_n (by kernel_rfl) ?_
                refine QRun_bool true ((x26.2 != 0) || (x26.1 != x5.1)) (by kernel_rfl) (fun w => by kernel_rfl) (by rw [hb13]; rfl) ?_
                exact QRun_done [3, 4, 5, 8, 143] (by kernel_rfl) (by kernel_rfl)
              · refine QRun_bool (x26.2 != 0) false (by kernel_rfl) (fun w => by kernel_rfl) hb13 ?_
                refine QRun_b [.int .i64 x26.1, .int .i64 x5.1, .bool (x26.1 != x5.1)] 3 _ (by kernel_rfl) (fun w => by kernel_rfl) ?_
                refine QRun_bool (x26.1 != x5.1) ((x26.2 != 0) || (x26.1 != x5.1)) (by kernel_rfl) (fun w => by kernel_rfl) (by rw [hb13]; rfl) ?_
                exact QRun_done [3, 4, 5, 8, 143] (by kernel_rfl) (by kernel_rfl)
            refine QRun_seq 14 [(3, .slice a1 x2.length c1), (4, .slice a2 x3.1.length c2), (5, .int .i64 x3.2), (8, .int .i64 x5.1), (150, .bool (((x26.2 != 0) || (x26.1 != x5.1)) || (!((x5.1 == (-1000000000000000)) == (x3.2 == 4)))))] ?_ ?_
            · rcases Bool.eq_false_or_eq_true ((x26.2 != 0) || (x26.1 != x5.1)) with hb14 | hb14
              · refine QRun_bool ((x26.2 != 0) || (x26.1 != x5.1)) true (by kernel_rfl) (fun w => by kernel_rfl) hb14 ?_
                refine QRun_n (by kernel_rfl) ?_
                refine QRun_n (by kernel_rfl) ?_
                refine QRun_n (by kernel_rfl) ?_
                refine QRun_n (by kernel_rfl) ?_
                refine QRun_n (by kernel_rfl) ?_
                refine QRun_bool true (((x26.2 != 0) || (x26.1 != x5.1)) || (!((x5.1 == (-1000000000000000)) == (x3.2 == 4)))) (by kernel_rfl) (fun w => by kernel_rfl) (by rw [hb14]; rfl) ?_
                exact QRun_done [3, 4, 5, 8, 150] (by kernel_rfl) (by kernel_rfl)
              · refine QRun_bool ((x26.2 != 0) || (x26.1 != x5.1)) false (by kernel_rfl) (fun w => by kernel_rfl) hb14 ?_
                refine QRun_b [.int .i64 x5.1, .bool (x5.1 == (-1000000000000000)), .int .i64 x3.2, .bool (x3.2 == 4), .bool (!((x5.1 == (-1000000000000000)) == (x3.2 == 4)))] 8 _ (by kernel_rfl) (fun w => by kernel_rfl) ?_
                refine QRun_bool (!((x5.1 == (-1000000000000000)) == (x3.2 == 4))) (((x26.2 != 0) || (x26.1 != x5.1)) || (!((x5.1 == (-1000000000000000)) == (x3.2 == 4)))) (by kernel_rfl) (fun w => by kernel_rfl) (by rw [hb14]; rfl) ?_
                exact QRun_done [3, 4, 5, 8, 150] (by kernel_rfl) (by kernel_rfl)
            exact QRun_done [3, 4, 5, 8, 150] (by kernel_rfl) (by kernel_rfl)
          refine Run_cond (b := ((x26.2 != 0) || (x26.1 != x5.1)) || (!((x5.1 == (-1000000000000000)) == (x3.2 == 4)))) (by kernel_rfl) (fun hb15 => ?_) (fun hb15 => ?_)
          · have hF := (M.ite_some hF).1 hb15
            refine Run_seq ?_
            refine Run_reg 1 (by kernel_rfl) (L' := [(2, .bool false)]) ?_ ?_
            · refine QRun_b [.bool false] 0 _ (by kernel_rfl) (fun w => by kernel_rfl) ?_
              exact QRun_done [2] (by kernel_rfl) (by kernel_rfl)
            have hF := M.ret_some hF
            subst hF
            have H68 : Hold h h34 [] := H67.pick [] (by kernel_rfl)
            exact Run_ret1 rfl (ResV_tmp (v := .bool false) (by kernel_rfl)) ⟨rfl, (HB1.trans0 H68)⟩
          · have hF := (M.ite_some hF).2 hb15
            refine Run_skip ?_
            refine Run_seq ?_
            refine Run_reg 1 (by kernel_rfl) (L' := [(3, .slice a1 x2.length c1), (4, .slice a2 x3.1.length c2), (5, .int .i64 x3.2), (8, .int .i64 x5.1), (24, .int .i64 0)]) ?_ ?_
            · refine QRun_b [.int .i64 0] 0 _ (by kernel_rfl) (fun w => by kernel_rfl) ?_
              exact QRun_done [3, 4, 5, 8, 24] (by kernel_rfl) (by kernel_rfl)
            refine Run_seq ?_
            refine Run_seq ?_
            refine Run_reg 1 (by kernel_rfl) (L' := [(3, .slice a1 x2.length c1), (4, .slice a2 x3.1.length c2), (5, .int .i64 x3.2), (8, .int .i64 x5.1), (24, .int .i64 0), (25, .int .i64 0)]) ?_ ?_
            · refine QRun_b [.int .i64 0] 0 _ (by kernel_rfl) (fun w => by kernel_rfl) ?_
              exact QRun_done [3, 4, 5, 8, 24, 25] (by kernel_rfl) (by kernel_rfl)
            obtain ⟨x29, gx29, hF⟩ := M.bind_some hF
            refine Run_join (fun L' h' => ∃ (s3 : Int × Int), x29 = .inl s3 ∧ L' = [(5, .int .i64 x3.2), (8, .int .i64 x5.1), (24, .int .i64 s3.1)] ∧ Hold h h' []) ?_ ?_
            · rintro _ h36 ⟨s3, es3, rfl, H70⟩
              have hF := M.cont_inl' hF es3
              refine Run_seq ?_
              refine Run_reg 8 (by kernel_rfl) (L' := [(2, .bool ((x3.2 != 0) || (s3.1 == x5.1)))]) ?_ ?_
              · refine QRun_b [.int .i64 x3.2, .bool (x3.2 != 0)] 0 _ (by kernel_rfl) (fun w => by kernel_rfl) ?_
                refine QRun_seq 7 [(190, .bool ((x3.2 != 0) || (s3.1 == x5.1)))] ?_ ?_
                · rcases Bool.eq_false_or_eq_true (x3.2 != 0) with hb19 | hb19
                  · refine QRun_bool (x3.2 != 0) true (by kernel_rfl) (fun w => by kernel_rfl) hb19 ?_
                    refine QRun_n (by kernel_rfl) ?_
                    refine QRun_n (by kernel_rfl) ?_
                    refine QRun_n (by kernel_rfl) ?_
                    refine QRun_bool true ((x3.2 != 0) || (s3.1 == x5.1)) (by kernel_rfl) (fun w => by kernel_rfl) (by rw [hb19]; rfl) ?_
                    exact QRun_done [190] (by kernel_rfl) (by kernel_rfl)
                  · refine QRun_bool (x3.2 != 0) false (by kernel_rfl) (fun w => by kernel_rfl) hb19 ?_
                    refine QRun_b [.int .i64 s3.1, .int .i64 x5.1, .bool (s3.1 == x5.1)] 3 _ (by kernel_rfl) (fun w => by kernel_rfl) ?_
                    refine QRun_bool (s3.1 == x5.1) ((x3.2 != 0) || (s3.1 == x5.1)) (by kernel_rfl) (fun w => by kernel_rfl) (by rw [hb19]; rfl) ?_
                    exact QRun_done [190] (by kernel_rfl) (by kernel_rfl)
                refine QRun_b [.bool ((x3.2 != 0) || (s3.1 == x5.1))] 7 _ (by kernel_rfl) (fun w => by kernel_rfl) ?_
                exact QRun_done [2] (by kernel_rfl) (by kernel_rfl)
              have hF := M.ret_some hF
              subst hF
              exact Run_ret1 rfl (ResV_tmp (v := .bool ((x3.2 != 0) || (s3.1 == x5.1))) (by kernel_rfl)) ⟨rfl, (HB1.trans0 H70)⟩
            · refine Run_block ?_
              have H71 : Hold h h34 [] := H67.pick [] (by kernel_rfl)
              refine Run_keep [3, 4, 5, 8, 24, 25] (L' := [(3, .slice a1 x2.length c1), (4, .slice a2 x3.1.length c2), (5, .int .i64 x3.2), (8, .int .i64 x5.1), (24, .int .i64 0), (25, .int .i64 0)]) (by kernel_rfl) ?_
              refine Run_loop (fun m L' h' => ∃ (s2 : Int × Int), M.loopN _ n m s2 = some x29 ∧ L' = [(3, .slice a1 x2.length c1), (4, .slice a2 x3.1.length c2), (5, .int .i64 x3.2), (8, .int .i64 x5.1), (24, .int .i64 s2.1), (25, .int .i64 s2.2)] ∧ Hold h h' []) n ⟨(0, 0), gx29, rfl, H71⟩ ?_
              rintro my1 _ h35 ⟨s2, gx29, rfl, H69⟩
              obtain ⟨my1, y1, rfl, hB1, hgoy1, houty1⟩ := M.loop_some gx29
              refine Run_seq ?_
              refine Run_seq ?_
              refine Run_reg 8 (by kernel_rfl) (L' := [(3, .slice a1 x2.length c1), (4, .slice a2 x3.1.length c2), (5, .int .i64 x3.2), (8, .int .i64 x5.1), (24, .int .i64 s2.1), (25, .int .i64 s2.2), (158, .bool ((x3.2 == 0) && (decide (s2.2 < (x3.1.length : Int)))))]) ?_ ?_
              · refine QRun_b [.int .i64 x3.2, .bool (x3.2 == 0)] 0 _ (by kernel_rfl) (fun w => by kernel_rfl) ?_
                refine QRun_seq 8 [(3, .slice a1 x2.length c1), (4, .slice a2 x3.1.length c2), (5, .int .i64 x3.2), (8, .int .i64 x5.1), (24, .int .i64 s2.1), (25, .int .i64 s2.2), (158, .bool ((x3.2 == 0) && (decide (s2.2 < (x3.1.length : Int)))))] ?_ ?_
                · rcases Bool.eq_false_or_eq_true (x3.2 == 0) with hb16 | hb16
                  · refine QRun_bool (x3.2 == 0) true (by kernel_rfl) (fun w => by kernel_rfl) hb16 ?_
                    refine QRun_b [.int .i64 s2.2, .slice a2 x3.1.length c2, .int .i64 (x3.1.length : Int), .bool (decide (s2.2 < (x3.1.length : Int)))] 3 _ (by kernel_rfl) (fun w => by kernel_rfl) ?_
                    refine QRun_bool (decide (s2.2 < (x3.1.length : Int))) ((x3.2 == 0) && (decide (s2.2 < (x3.1.length : Int)))) (by kernel_rfl) (fun w => by kernel_rfl) (by rw [hb16]; rfl) ?_
                    exact QRun_done [3, 4, 5, 8, 24, 25, 158] (by kernel_rfl) (by kernel_rfl)
                  · refine QRun_bool (x3.2 == 0) false (by kernel_rfl) (fun w => by kernel_rfl) hb16 ?_
                    refine QRun_n (by kernel_rfl) ?_
                    refine QRun_n (by kernel_rfl) ?_
                    refine QRun_n (by kernel_rfl) ?_
                    refine QRun_n (by kernel_rfl) ?_
                    refine QRun_bool false ((x3.2 == 0) && (decide (s2.2 < (x3.1.length : Int)))) (by kernel_rfl) (fun w => by kernel_rfl) (by rw [hb16]; rfl) ?_
                    exact QRun_done [3, 4, 5, 8, 24, 25, 158] (by kernel_rfl) (by kernel_rfl)
                exact QRun_done [3, 4, 5, 8, 24, 25, 158] (by kernel_rfl) (by kernel_rfl)
              refine Run_cond (b := (x3.2 == 0) && (decide (s2.2 < (x3.1.length : Int)))) (by kernel_rfl) (fun hb17 => ?_) (fun hb17 => ?_)
              · have hB1 := (M.ite_some hB1).1 hb17
                refine Run_skip ?_
                refine Run_seq ?_
                refine Run_block ?_
                refine Run_seq ?_
                refine Run_seq ?_
                obtain ⟨x31, hx18, hB1⟩ := M.bind_some hB1
                obtain ⟨hx18l, hx18u, hx18⟩ := M.idx_some hx18
                obtain ⟨a19, c14, hc3, r3⟩ := rB1.row hx18
                obtain ⟨x32, hx19, hB1⟩ := M.bind_some hB1
                obtain ⟨hx19l, hx19u, hx19⟩ := M.idx_some hx19
                obtain ⟨x33, hx20, hB1⟩ := M.bind_some hB1
                obtain ⟨hx20l, hx20u, hx20⟩ := M.idx_some hx20
                refine Run_draw 11 mixed (by kernel_rfl) (by kernel_rfl) (L' := [(3, .slice a1 x2.length c1), (4, .slice a2 x3.1.length c2), (5, .int .i64 x3.2), (8, .int .i64 x5.1), (24, .int .i64 s2.1), (25, .int .i64 s2.2), (171, .bool (x33 == (-1000000000000000)))]) ?_ ?_
                · refine QRun_b [.slice a1 x2.length c1, .int .i64 s2.2] 0 _ (by kernel_rfl) (fun w => by kernel_rfl) ?_
                  refine QRun_y (.pointer (some (adr a1 (s2.2.toNat * 1)))) (by kernel_rfl) (Y_idx (t := 37) (e := 39) (sz := 1) (a := a1) (n := x2.length) (cap := c1) (kk := .i64) (i := s2.2) (by kernel_rfl) Try.underlying37 (by kernel_rfl) ((rB1.at H69.ext).cell hx18).1 hx18l hx18u) ?_
                  refine QRun_y (.slice a19 x31.length c14) (by kernel_rfl) (Y_load1 (t := 39) (p := adr a1 (s2.2.toNat * 1)) (v := .slice a19 x31.length c14) (by kernel_rfl) (fun w => by kernel_rfl) (cell_at H69.ext hc3)) ?_
                  refine QRun_b [.slice a2 x3.1.length c2, .int .i64 s2.2] 4 _ (by kernel_rfl) (fun w => by kernel_rfl) ?_
                  refine QRun_y (.pointer (some (adr a2 (s2.2.toNat * 1)))) (by kernel_rfl) (Y_idx (t := 39) (e := 2) (sz := 1) (a := a2) (n := x3.1.length) (cap := c2) (kk := .i64) (i := s2.2) (by kernel_rfl) Try.underlying39 (by kernel_rfl) ((rB2.at H69.ext).cell hx19).1 hx19l hx19u) ?_
                  refine QRun_y (.int .i64 x32) (by kernel_rfl) (Y_load1 (t := 2) (p := adr a2 (s2.2.toNat * 1)) (v := .int .i64 x32) (by kernel_rfl) (fun w => by kernel_rfl) (cd2_cell (rB2.at H69.ext) hx19)) ?_
                  refine QRun_y (.pointer (some (adr a19 (x32.toNat * 1)))) (by kernel_rfl) (Y_idx (t := 39) (e := 2) (sz := 1) (a := a19) (n := x31.length) (cap := c14) (kk := .i64) (i := x32) (by kernel_rfl) Try.underlying39 (by kernel_rfl) ((r3.at H69.ext).cell hx20).1 hx20l hx20u) ?_
                  refine QRun_y (.int .i64 x33) (by kernel_rfl) (Y_load1 (t := 2) (p := adr a19 (x32.toNat * 1)) (v := .int .i64 x33) (by kernel_rfl) (fun w => by kernel_rfl) (cd2_cell (r3.at H69.ext) hx20)) ?_
                  refine QRun_b [.bool (x33 == (-1000000000000000))] 10 _ (by kernel_rfl) (fun w => by kernel_rfl) ?_
                  exact QRun_done [3, 4, 5, 8, 24, 25, 171] (by kernel_rfl) (by kernel_rfl)
                refine Run_cond (b := x33 == (-1000000000000000)) (by kernel_rfl) (fun hb18 => ?_) (fun hb18 => ?_)
                · have hB1 := (M.ite_some hB1).1 hb18
                  refine Run_seq ?_
                  refine Run_reg 1 (by kernel_rfl) (L' := [(2, .bool false)]) ?_ ?_
                  · refine QRun_b [.bool false] 0 _ (by kernel_rfl) (fun w => by kernel_rfl) ?_
                    exact QRun_done [2] (by kernel_rfl) (by kernel_rfl)
                  have hB1 := M.ret_some hB1
                  have gx29 := houty1 _ hB1.symm
                  have hF := M.cont_inr' hF gx29
                  have hF := M.ret_some hF
                  subst hF
                  exact Run_ret1 rfl (ResV_tmp (v := .bool false) (by kernel_rfl)) ⟨rfl, (HB1.trans0 H69)⟩
                · have hB1 := (M.ite_some hB1).2 hb18
                  refine Run_skip ?_
                  obtain ⟨x34, hx21, hB1⟩ := M.bind_some hB1
                  obtain ⟨hx21l, hx21u, hx21⟩ := M.idx_some hx21
                  obtain ⟨a20, c15, hc4, r4⟩ := rB1.row hx21
                  obtain ⟨x35, hx22, hB1⟩ := M.bind_some hB1
                  obtain ⟨hx22l, hx22u, hx22⟩ := M.idx_some hx22
                  obtain ⟨x36, hx23, hB1⟩ := M.bind_some hB1
                  obtain ⟨hx23l, hx23u, hx23⟩ := M.idx_some hx23
                  refine Run_draw 13 mixed (by kernel_rfl) (by kernel_rfl) (L' := [(3, .slice a1 x2.length c1), (4, .slice a2 x3.1.length c2), (5, .int .i64 x3.2), (8, .int .i64 x5.1), (24, .int .i64 (w64 (s2.1 + x36))), (25, .int .i64 s2.2)]) ?_ ?_
                  · refine QRun_b [.int .i64 s2.1, .slice a1 x2.length c1, .int .i64 s2.2] 0 _ (by kernel_rfl) (fun w => by kernel_rfl) ?_
                    refine QRun_y (.pointer (some (adr a1 (s2.2.toNat * 1)))) (by kernel_rfl) (Y_idx (t := 37) (e := 39) (sz := 1) (a := a1) (n := x2.length) (cap := c1) (kk := .i64) (i := s2.2) (by kernel_rfl) Try.underlying37 (by kernel_rfl) ((rB1.at H69.ext).cell hx21).1 hx21l hx21u) ?_
                    refine QRun_y (.slice a20 x34.length c15) (by kernel_rfl) (Y_load1 (t := 39) (p := adr a1 (s2.2.toNat * 1)) (v := .slice a20 x34.length c15) (by kernel_rfl) (fun w => by kernel_rfl) (cell_at H69.ext hc4)) ?_
                    refine QRun_b [.slice a2 x3.1.length c2, .int .i64 s2.2] 5 _ (by kernel_rfl) (fun w => by kernel_rfl) ?_
                    refine QRun_y (.pointer (some (adr a2 (s2.2.toNat * 1)))) (by kernel_rfl) (Y_idx (t := 39) (e := 2) (sz := 1) (a := a2) (n := x3.1.length) (cap := c2) (kk := .i64) (i := s2.2) (by kernel_rfl) Try.underlying39 (by kernel_rfl) ((rB2.at H69.ext).cell hx22).1 hx22l hx22u) ?_
                    refine QRun_y (.int .i64 x35) (by kernel_rfl) (Y_load1 (t := 2) (p := adr a2 (s2.2.toNat * 1)) (v := .int .i64 x35) (by kernel_rfl) (fun w => by kernel_rfl) (cd2_cell (rB2.at H69.ext) hx22)) ?_
                    refine QRun_y (.pointer (some (adr a20 (x35.toNat * 1)))) (by kernel_rfl) (Y_idx (t := 39) (e := 2) (sz := 1) (a := a20) (n := x34.length) (cap := c15) (kk := .i64) (i := x35) (by kernel_rfl) Try.underlying39 (by kernel_rfl) ((r4.at H69.ext).cell hx23).1 hx23l hx23u) ?_
                    refine QRun_y (.int .i64 x36) (by kernel_rfl) (Y_load1 (t := 2) (p := adr a20 (x35.toNat * 1)) (v := .int .i64 x36) (by kernel_rfl) (fun w => by kernel_rfl) (cd2_cell (r4.at H69.ext) hx23)) ?_
                    refine QRun_b [.int .i64 (w64 (s2.1 + x36)), .int .i64 (w64 (s2.1 + x36))] 11 _ (by kernel_rfl) (fun w => by kernel_rfl) ?_
                    exact QRun_done [3, 4, 5, 8, 24, 25] (by kernel_rfl) (by kernel_rfl)
                  refine Run_blk ?_
                  refine Run_reg 3 (by kernel_rfl) (L' := [(3, .slice a1 x2.length c1), (4, .slice a2 x3.1.length c2), (5, .int .i64 x3.2), (8, .int .i64 x5.1), (24, .int .i64 (w64 (s2.1 + x36))), (25, .int .i64 (w64 (s2.2 + 1)))]) ?_ ?_
                  · refine QRun_b [.int .i64 s2.2, .int .i64 (w64 (s2.2 + 1)), .int .i64 (w64 (s2.2 + 1))] 0 _ (by kernel_rfl) (fun w => by kernel_rfl) ?_
                    exact QRun_done [3, 4, 5, 8, 24, 25] (by kernel_rfl) (by kernel_rfl)
                  have hB1 := M.ret_some hB1
                  have gx29 := hgoy1 _ hB1.symm
                  exact Run_again [3, 4, 5, 8, 24, 25] (by kernel_rfl) my1 (Nat.lt_succ_self _) ⟨((w64 (s2.1 + x36)), (w64 (s2.2 + 1))), gx29, rfl, H69⟩
              · have hB1 := (M.ite_some hB1).2 hb17
                refine Run_exit (k' := _) rfl ?_
                have hB1 := M.ret_some hB1
                have gx29 := houty1 _ hB1.symm
                subst gx29
                exact Run_fall [5, 8, 24] (by kernel_rfl) ⟨(s2.1, s2.2), rfl, rfl, H69⟩
        · obtain ⟨x24, hx15, gs1⟩ := M.bind_some gs1
          obtain ⟨hx15a, hx15b, hx15c, hx15d⟩ := M.sub_some hx15
          have hn2 : x24.length = (x2.length : Int).toNat - (1 : Int).toNat := by rw [hx15d, List.length_take, List.length_drop]; omega
          obtain ⟨x25, hx16, gs1⟩ := M.bind_some gs1
          obtain ⟨hx16l, hx16u, hx16⟩ := M.idx_some hx16
          obtain ⟨a6, c6, hc2, r2⟩ := rB1.row hx16
          refine Run_D (fun x => Hold h x []) (fun x => Hold h x []) mixed (by kernel_rfl) H23 Hold.stable (fun x Hy => (show Hold h x [] from Hy).pick [] (by kernel_rfl)) ?_
          refine DR_b 9 [.slice a1 x2.length c1] 1 (by kernel_rfl) (by kernel_rfl) (by kernel_rfl) (fun w => by kernel_rfl) ?_
          refine DR_y 8 (i := 2) (.slice (sliceA a1 c1 1 1) ((x2.length : Int).toNat - (1 : Int).toNat) (c1 - 1)) (by kernel_rfl) (by kernel_rfl) (by kernel_rfl) (fun hx Hx => (YE.of (Y_slice (t := 37) (e := 39) (sz := 1) (a := a1) (n := x2.length) (cap := c1) (lo := (some (.i64, 1))) (hi := none) (x := 1) (y := (x2.length : Int)) (by kernel_rfl) Try.underlying37 (by kernel_rfl) (rB1.at Hx.ext).fits rfl rfl hx15a hx15b hx15c))) ?_
          refine DR_b 7 [.slice a1 x2.length c1] 4 (by kernel_rfl) (by kernel_rfl) (by kernel_rfl) (fun w => by kernel_rfl) ?_
          refine DR_y 6 (i := 5) (.pointer (some (adr a1 (0 * 1)))) (by kernel_rfl) (by kernel_rfl) (by kernel_rfl) (fun hx Hx => (YE.of (Y_idx (t := 37) (e := 39) (sz := 1) (a := a1) (n := x2.length) (cap := c1) (kk := .i64) (i := 0) (by kernel_rfl) Try.underlying37 (by kernel_rfl) (rB1.cell hx16).1 hx16l hx16u))) ?_
          refine DR_y 5 (i := 6) (.slice a6 x25.length c6) (by kernel_rfl) (by kernel_rfl) (by kernel_rfl) (fun hx Hx => (YE.of (Y_load1 (t := 39) (p := adr a1 (0 * 1)) (v := .slice a6 x25.length c6) (by kernel_rfl) (fun w => by kernel_rfl) (cell_at Hx.ext hc2)))) ?_
          refine DR_e2 4 0 7 (by kernel_rfl) (by kernel_rfl) (by kernel_rfl) (by kernel_rfl) ?_ ?_
          · intro h11 H24
            have H25 : Hold h h11 [] := H24
            refine E_lit (C := (pinCd cd39 h)) (n := 0) (l := []) (cs := []) H25 (fun w => by kernel_rfl) (Enc.nil _ _) rfl (by decide) (fun a7 h12 H26 => ?_)
            refine ⟨fun x => Hold h x [], fun x => Hold h x [own (pinCd cd39 h) a7 0 0 ([] : List (List Int))], H26, Hold.stable, fun x Hy => (show Hold h x [own (pinCd cd39 h) a7 0 0 ([] : List (List Int))] from Hy).pick [] (by kernel_rfl), fun x Hy => (show Hold h x [] from Hy).pick [] (by kernel_rfl), ?_⟩
            refine DR_e2 3 3 7 (by kernel_rfl) (by kernel_rfl) (by kernel_rfl) (by kernel_rfl) ?_ ?_
            · intro h13 H27
              have H28 : Hold h h13 [own (pinCd cd39 h) a7 0 0 ([] : List (List Int))] := H27
              obtain ⟨l1, hl1, gs1⟩ := M.bind_some gs1
              have hl1 := M.app_some hl1
              refine E_appR (C := (pinCd cd39 h)) (t := 37) (ty := 37) (n := 0) (m := (x2.length : Int).toNat - (1 : Int).toNat) H28 (pin_copies cd39 h) ((show Rd _ _ _ _ _ x24 from hx15d ▸ (rB1).sub (by omega) (by omega)).pin H28.ext) hn2 cd39_ti rfl Try.underlying37 (by decide) (by kernel_rfl) hl1 (fun a8 c7 h14 H29 => ?_)
              refine ⟨fun x => Hold h x [own (pinCd cd39 h) a8 l1.length c7 l1], fun x => Hold h x [own (pinCd cd39 h) a8 l1.length c7 l1], H29, Hold.stable, fun x Hy => (show Hold h x [own (pinCd cd39 h) a8 l1.length c7 l1] from Hy).pick [0] (by kernel_rfl), fun x Hy => (show Hold h x [own (pinCd cd39 h) a8 l1.length c7 l1] from Hy).pick [] (by kernel_rfl), ?_⟩
              refine DR_e 2 7 (by kernel_rfl) (by kernel_rfl) (by kernel_rfl) (fun h15 H30 => ?_)
              have H31 : Hold h h15 [own (pinCd cd39 h) a8 l1.length c7 l1] := H30
              refine E_lit (C := (pinCd cd39 h)) (n := 1) (l := [x25]) (cs := [.slice a6 x25.length c6]) H31 (fun w => by kernel_rfl) (Enc.consE (C := (pinCd cd39 h)) ⟨⟨_, _, rfl, r2⟩, rfl⟩ (Enc.nil _ _) rfl) rfl (by decide) (fun a9 h16 H32 => ?_)
              refine ⟨fun x => Hold h x [own (pinCd cd39 h) a8 l1.length c7 l1, own (pinCd cd39 h) a9 1 1 [x25]], fun x => Hold h x [own (pinCd cd39 h) a9 1 1 [x25], own (pinCd cd39 h) a8 l1.length c7 l1], H32, Hold.stable, fun x Hy => (show Hold h x [own (pinCd cd39 h) a9 1 1 [x25], own (pinCd cd39 h) a8 l1.length c7 l1] from Hy).pick [1, 0] (by kernel_rfl), fun x Hy => (show Hold h x [own (pinCd cd39 h) a8 l1.length c7 l1, own (pinCd cd39 h) a9 1 1 [x25]] from Hy).pick [0] (by kernel_rfl), ?_⟩
              refine DR_tail (i := 8) (by kernel_rfl) (by kernel_rfl) (by kernel_rfl) (fun h17 H33 => ?_)
              have H34 : Hold h h17 [own (pinCd cd39 h) a9 1 1 [x25], own (pinCd cd39 h) a8 l1.length c7 l1] := H33
              obtain ⟨l2, hl2, gs1⟩ := M.bind_some gs1
              have hl2 := M.app_some hl2
              have H35 : Hold h h17 [own (pinCd cd39 h) a8 l1.length c7 l1, own (pinCd cd39 h) a9 1 1 [x25]] := H34.pick [1, 0] (by kernel_rfl)
              have H36 : Hold h h17 [own (pinCd cd39 h) a9 1 1 [x25], own (pinCd cd39 h) a8 l1.length c7 l1] := H35.pick [1, 0] (by kernel_rfl)
              have H37 : Hold h h17 [own (pinCd cd39 h) a8 l1.length c7 l1, own (pinCd cd39 h) a9 1 1 [x25]] := H36.pick [1, 0] (by kernel_rfl)
              refine Run_E (by kernel_rfl) ?_
              refine E_app (C := (pinCd cd39 h)) (t := 37) (ty := 37) (n := l1.length) (m := 1) H37 cd39_ti rfl Try.underlying37 (by decide) (by kernel_rfl) hl2 (fun a10 c8 h18 H38 => ?_)
              refine Run_b [.slice a10 l2.length c8] 9 _ (by kernel_rfl) (fun w => by kernel_rfl) ?_
              refine Run_nil (by kernel_rfl) ?_
              refine Run_keep [3, 4, 5, 8, 21] (L' := [(3, .slice a1 x2.length c1), (4, .slice a2 x3.1.length c2), (5, .int .i64 x3.2), (8, .int .i64 x5.1), (21, .slice a10 l2.length c8)]) (by kernel_rfl) ?_
              have gs1 := M.ret_some gs1
              subst gs1
              exact Run_fall [3, 4, 5, 8, 21] (by kernel_rfl) ⟨a10, c8, rfl, H38⟩
            · intro h19 H39
              have H40 : Hold h h19 [own (pinCd cd39 h) a7 0 0 ([] : List (List Int))] := H39
              refine E_lit (C := (pinCd cd39 h)) (n := 1) (l := [x25]) (cs := [.slice a6 x25.length c6]) H40 (fun w => by kernel_rfl) (Enc.consE (C := (pinCd cd39 h)) ⟨⟨_, _, rfl, r2⟩, rfl⟩ (Enc.nil _ _) rfl) rfl (by decide) (fun a11 h20 H41 => ?_)
              refine ⟨fun x => Hold h x [own (pinCd cd39 h) a11 1 1 [x25]], fun x => Hold h x [own (pinCd cd39 h) a11 1 1 [x25], own (pinCd cd39 h) a7 0 0 ([] : List (List Int))], H41, Hold.stable, fun x Hy => (show Hold h x [own (pinCd cd39 h) a11 1 1 [x25], own (pinCd cd39 h) a7 0 0 ([] : List (List Int))] from Hy).pick [0] (by kernel_rfl), fun x Hy => (show Hold h x [own (pinCd cd39 h) a11 1 1 [x25]] from Hy).pick [] (by kernel_rfl), ?_⟩
              refine DR_e 2 3 (by kernel_rfl) (by kernel_rfl) (by kernel_rfl) (fun h21 H42 => ?_)
              have H43 : Hold h h21 [own (pinCd cd39 h) a11 1 1 [x25], own (pinCd cd39 h) a7 0 0 ([] : List (List Int))] := H42
              obtain ⟨l3, hl3, gs1⟩ := M.bind_some gs1
              have hl3 := M.app_some hl3
              have H44 : Hold h h21 [own (pinCd cd39 h) a7 0 0 ([] : List (List Int)), own (pinCd cd39 h) a11 1 1 [x25]] := H43.pick [1, 0] (by kernel_rfl)
              refine E_appR (C := (pinCd cd39 h)) (t := 37) (ty := 37) (n := 0) (m := (x2.length : Int).toNat - (1 : Int).toNat) H44 (pin_copies cd39 h) ((show Rd _ _ _ _ _ x24 from hx15d ▸ (rB1).sub (by omega) (by omega)).pin H44.ext) hn2 cd39_ti rfl Try.underlying37 (by decide) (by kernel_rfl) hl3 (fun a12 c9 h22 H45 => ?_)
              refine ⟨fun x => Hold h x [own (pinCd cd39 h) a11 1 1 [x25], own (pinCd cd39 h) a12 l3.length c9 l3], fun x => Hold h x [own (pinCd cd39 h) a12 l3.length c9 l3, own (pinCd cd39 h) a11 1 1 [x25]], H45, Hold.stable, fun x Hy => (show Hold h x [own (pinCd cd39 h) a12 l3.length c9 l3, own (pinCd cd39 h) a11 1 1 [x25]] from Hy).pick [1, 0] (by kernel_rfl), fun x Hy => (show Hold h x [own (pinCd cd39 h) a11 1 1 [x25], own (pinCd cd39 h) a12 l3.length c9 l3] from Hy).pick [0] (by kernel_rfl), ?_⟩
              refine DR_tail (i := 8) (by kernel_rfl) (by kernel_rfl) (by kernel_rfl) (fun h23 H46 => ?_)
              have H47 : Hold h h23 [own (pinCd cd39 h) a12 l3.length c9 l3, own (pinCd cd39 h) a11 1 1 [x25]] := H46
              obtain ⟨l4, hl4, gs1⟩ := M.bind_some gs1
              have hl4 := M.app_some hl4
              have H48 : Hold h h23 [own (pinCd cd39 h) a11 1 1 [x25], own (pinCd cd39 h) a12 l3.length c9 l3] := H47.pick [1, 0] (by kernel_rfl)
              have H49 : Hold h h23 [own (pinCd cd39 h) a12 l3.length c9 l3, own (pinCd cd39 h) a11 1 1 [x25]] := H48.pick [1, 0] (by kernel_rfl)
              refine Run_E (by kernel_rfl) ?_
              refine E_app (C := (pinCd cd39 h)) (t := 37) (ty := 37) (n := l3.length) (m := 1) H49 cd39_ti rfl Try.underlying37 (by decide) (by kernel_rfl) hl4 (fun a13 c10 h24 H50 => ?_)
              refine Run_b [.slice a13 l4.length c10] 9 _ (by kernel_rfl) (fun w => by kernel_rfl) ?_
              refine Run_nil (by kernel_rfl) ?_
              refine Run_keep [3, 4, 5, 8, 21] (L' := [(3, .slice a1 x2.length c1), (4, .slice a2 x3.1.length c2), (5, .int .i64 x3.2), (8, .int .i64 x5.1), (21, .slice a13 l4.length c10)]) (by kernel_rfl) ?_
              have gs1 := M.ret_some gs1
              subst gs1
              exact Run_fall [3, 4, 5, 8, 21] (by kernel_rfl) ⟨a13, c10, rfl, H50⟩
          · intro h25 H51
            have H52 : Hold h h25 [] := H51
            refine E_lit (C := (pinCd cd39 h)) (n := 1) (l := [x25]) (cs := [.slice a6 x25.length c6]) H52 (fun w => by kernel_rfl) (Enc.consE (C := (pinCd cd39 h)) ⟨⟨_, _, rfl, r2⟩, rfl⟩ (Enc.nil _ _) rfl) rfl (by decide) (fun a14 h26 H53 => ?_)
            refine ⟨fun x => Hold h x [own (pinCd cd39 h) a14 1 1 [x25]], fun x => Hold h x [own (pinCd cd39 h) a14 1 1 [x25]], H53, Hold.stable, fun x Hy => (show Hold h x [own (pinCd cd39 h) a14 1 1 [x25]] from Hy).pick [0] (by kernel_rfl), fun x Hy => (show Hold h x [own (pinCd cd39 h) a14 1 1 [x25]] from Hy).pick [] (by kernel_rfl), ?_⟩
            refine DR_e 3 0 (by kernel_rfl) (by kernel_rfl) (by kernel_rfl) (fun h27 H54 => ?_)
            have H55 : Hold h h27 [own (pinCd cd39 h) a14 1 1 [x25]] := H54
            refine E_lit (C := (pinCd cd39 h)) (n := 0) (l := []) (cs := []) H55 (fun w => by kernel_rfl) (Enc.nil _ _) rfl (by decide) (fun a15 h28 H56 => ?_)
            refine ⟨fun x => Hold h x [own (pinCd cd39 h) a14 1 1 [x25]], fun x => Hold h x [own (pinCd cd39 h) a15 0 0 ([] : List (List Int)), own (pinCd cd39 h) a14 1 1 [x25]], H56, Hold.stable, fun x Hy => (show Hold h x [own (pinCd cd39 h) a15 0 0 ([] : List (List Int)), own (pinCd cd39 h) a14 1 1 [x25]] from Hy).pick [1] (by kernel_rfl), fun x Hy => (show Hold h x [own (pinCd cd39 h) a14 1 1 [x25]] from Hy).pick [0] (by kernel_rfl), ?_⟩
            refine DR_e 2 3 (by kernel_rfl) (by kernel_rfl) (by kernel_rfl) (fun h29 H57 => ?_)
            have H58 : Hold h h29 [own (pinCd cd39 h) a15 0 0 ([] : List (List Int)), own (pinCd cd39 h) a14 1 1 [x25]] := H57
            obtain ⟨l5, hl5, gs1⟩ := M.bind_some gs1
            have hl5 := M.app_some hl5
            refine E_appR (C := (pinCd cd39 h)) (t := 37) (ty := 37) (n := 0) (m := (x2.length : Int).toNat - (1 : Int).toNat) H58 (pin_copies cd39 h) ((show Rd _ _ _ _ _ x24 from hx15d ▸ (rB1).sub (by omega) (by omega)).pin H58.ext) hn2 cd39_ti rfl Try.underlying37 (by decide) (by kernel_rfl) hl5 (fun a16 c11 h30 H59 => ?_)
            refine ⟨fun x => Hold h x [own (pinCd cd39 h) a14 1 1 [x25], own (pinCd cd39 h) a16 l5.length c11 l5], fun x => Hold h x [own (pinCd cd39 h) a16 l5.length c11 l5, own (pinCd cd39 h) a14 1 1 [x25]], H59, Hold.stable, fun x Hy => (show Hold h x [own (pinCd cd39 h) a16 l5.length c11 l5, own (pinCd cd39 h) a14 1 1 [x25]] from Hy).pick [1, 0] (by kernel_rfl), fun x Hy => (show Hold h x [own (pinCd cd39 h) a14 1 1 [x25], own (pinCd cd39 h) a16 l5.length c11 l5] from Hy).pick [0] (by kernel_rfl), ?_⟩
            refine DR_tail (i := 8) (by kernel_rfl) (by kernel_rfl) (by kernel_rfl) (fun h31 H60 => ?_)
            have H61 : Hold h h31 [own (pinCd cd39 h) a16 l5.length c11 l5, own (pinCd cd39 h) a14 1 1 [x25]] := H60
            obtain ⟨l6, hl6, gs1⟩ := M.bind_some gs1
            have hl6 := M.app_some hl6
            have H62 : Hold h h31 [own (pinCd cd39 h) a14 1 1 [x25], own (pinCd cd39 h) a16 l5.length c11 l5] := H61.pick [1, 0] (by kernel_rfl)
            have H63 : Hold h h31 [own (pinCd cd39 h) a16 l5.length c11 l5, own (pinCd cd39 h) a14 1 1 [x25]] := H62.pick [1, 0] (by kernel_rfl)
            refine Run_E (by kernel_rfl) ?_
            refine E_app (C := (pinCd cd39 h)) (t := 37) (ty := 37) (n := l5.length) (m := 1) H63 cd39_ti rfl Try.underlying37 (by decide) (by kernel_rfl) hl6 (fun a17 c12 h32 H64 => ?_)
            refine Run_b [.slice a17 l6.length c12] 9 _ (by kernel_rfl) (fun w => by kernel_rfl) ?_
            refine Run_nil (by kernel_rfl) ?_
            refine Run_keep [3, 4, 5, 8, 21] (L' := [(3, .slice a1 x2.length c1), (4, .slice a2 x3.1.length c2), (5, .int .i64 x3.2), (8, .int .i64 x5.1), (21, .slice a17 l6.length c12)]) (by kernel_rfl) ?_
            have gs1 := M.ret_some gs1
            subst gs1
            exact Run_fall [3, 4, 5, 8, 21] (by kernel_rfl) ⟨a17, c12, rfl, H64⟩

end Go.Proofs.Ytipdgiljgbjjkaa
