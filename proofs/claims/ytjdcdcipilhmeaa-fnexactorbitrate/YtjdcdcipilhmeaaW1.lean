/-
  Walks: each Go function, called with what reads as plain data, returns what its plain program computes.
  Conditions: None beyond the given statement.
-/
import Derived.Test.YtjdcdcipilhmeaaW0
namespace Go.Proofs.Ytjdcdcipilhmeaa
open Go
attribute [local irreducible] setL setB opA fineI idleI fineB evB okB markB markBs readyB readyBs chainB lk rho pickL dropSlot tailOK
set_option maxRecDepth 100000 in
set_option maxHeartbeats 4000000 in
theorem w_spec_l07Find_B (h hE : Heap) (it : Item) (s_ : TL07series) (bs_ : Nat) (as_a : Option Addr) (cs_a : Nat) (rs_a : Rd cd23 h (Lt h) as_a cs_a s_.a) (as_last : Option Addr) (cs_last : Nat) (as_lists : Option Addr) (cs_lists : Nat) (HM : Hold h hE [box bs_ 96 [.slice as_a s_.a.length cs_a, .slice as_last s_.last.length cs_last, .slice as_lists s_.lists.length cs_lists], own cd23 as_last s_.last.length cs_last s_.last, own cd23 as_lists s_.lists.length cs_lists s_.lists, it]) (n : Nat) (r : Int × Int × Int × Int × TL07series) (hF : spec_l07Find_B s_ n = some r) :
    Fn Try.prog 79 #[.pointer (some ⟨bs_, 0, none⟩)] hE fun v h' => ∃ (a0 : Option Addr) (c0 : Nat), ∃ (a1 : Option Addr) (c1 : Nat), v = .tuple #[.int .i64 r.1, .int .i64 r.2.1, .int .i64 r.2.2.1, .int .i64 r.2.2.2.1] ∧ Hold h h' [box bs_ 96 [.slice as_a s_.a.length cs_a, .slice a0 r.2.2.2.2.last.length c0, .slice a1 r.2.2.2.2.lists.length c1], own cd23 a0 r.2.2.2.2.last.length c0 r.2.2.2.2.last, own cd23 a1 r.2.2.2.2.lists.length c1 r.2.2.2.2.lists, it] := by
  unfold spec_l07Find_B at hF
  refine Fn_enter (args := [.pointer (some ⟨bs_, 0, none⟩)]) Try.func79 rfl (by kernel_rfl) (by kernel_rfl) (fun w0 _ => ?_)
  refine Run_seq ?_
  refine Run_reg 4 (by kernel_rfl) (L' := [(0, .pointer (some ⟨bs_, 0, none⟩))]) ?_ ?_
  · refine QRun_b [.int .i64 0, .int .i64 0, .int .i64 0, .int .i64 0] 0 _ (by kernel_rfl) (fun w => by kernel_rfl) ?_
    exact QRun_done [0] (by kernel_rfl) (by kernel_rfl)
  refine Run_seq ?_
  refine Run_seq ?_
  refine Run_reg 1 (by kernel_rfl) (L' := [(0, .pointer (some ⟨bs_, 0, none⟩)), (6, .int .i64 0)]) ?_ ?_
  · refine QRun_b [.int .i64 0] 0 _ (by kernel_rfl) (fun w => by kernel_rfl) ?_
    exact QRun_done [0, 6] (by kernel_rfl) (by kernel_rfl)
  obtain ⟨x1, gx1, hF⟩ := M.bind_some hF
  obtain ⟨hloy1, hhiy1, gx1⟩ := M.for_start gx1
  refine Run_join (fun L' h' => ∃ (s2 : (List (List Int)) × (List (List Int))) (a3 : Option Addr) (c3 : Nat) (a4 : Option Addr) (c4 : Nat), x1 = .inl s2 ∧ L' = [] ∧ Hold h h' [box bs_ 96 [.slice as_a s_.a.length cs_a, .slice a3 s2.1.length c3, .slice a4 s2.2.length c4], own cd23 a3 s2.1.length c3 s2.1, own cd23 a4 s2.2.length c4 s2.2, it]) ?_ ?_
  · rintro _ h2 ⟨s2, a3, c3, a4, c4, es2, rfl, H2⟩
    have hF := M.cont_inl' hF es2
    refine Run_seq ?_
    refine Run_reg 4 (by kernel_rfl) (L' := [(2, .int .i64 0), (3, .int .i64 0), (4, .int .i64 0), (5, .int .i64 4)]) ?_ ?_
    · refine QRun_b [.int .i64 0, .int .i64 0, .int .i64 0, .int .i64 4] 0 _ (by kernel_rfl) (fun w => by kernel_rfl) ?_
      exact QRun_done [2, 3, 4, 5] (by kernel_rfl) (by kernel_rfl)
    have hF := M.ret_some hF
    subst hF
    have H45 : Hold h h2 [own cd23 a3 s2.1.length c3 s2.1, box bs_ 96 [.slice as_a s_.a.length cs_a, .slice a3 s2.1.length c3, .slice a4 s2.2.length c4], own cd23 a4 s2.2.length c4 s2.2, it] := H2.pick [1, 0, 2, 3] (by kernel_rfl)
    have H46 : Hold h h2 [own cd23 a4 s2.2.length c4 s2.2, own cd23 a3 s2.1.length c3 s2.1, box bs_ 96 [.slice as_a s_.a.length cs_a, .slice a3 s2.1.length c3, .slice a4 s2.2.length c4], it] := H45.pick [2, 0, 1, 3] (by kernel_rfl)
    have H47 : Hold h h2 [box bs_ 96 [.slice as_a s_.a.length cs_a, .slice a3 s2.1.length c3, .slice a4 s2.2.length c4], own cd23 a3 s2.1.length c3 s2.1, own cd23 a4 s2.2.length c4 s2.2, it] := H46.pick [2, 1, 0, 3] (by kernel_rfl)
    exact Run_ret4 rfl (ResV_tmp (v := .int .i64 0) (by kernel_rfl)) (ResV_tmp (v := .int .i64 0) (by kernel_rfl)) (ResV_tmp (v := .int .i64 0) (by kernel_rfl)) (ResV_tmp (v := .int .i64 4) (by kernel_rfl)) ⟨a3, c3, a4, c4, rfl, H47⟩
  · refine Run_block ?_
    have H48 : Hold h hE [own cd23 as_last s_.last.length cs_last s_.last, box bs_ 96 [.slice as_a s_.a.length cs_a, .slice as_last s_.last.length cs_last, .slice as_lists s_.lists.length cs_lists], own cd23 as_lists s_.lists.length cs_lists s_.lists, it] := HM.pick [1, 0, 2, 3] (by kernel_rfl)
    have H49 : Hold h hE [own cd23 as_lists s_.lists.length cs_lists s_.lists, own cd23 as_last s_.last.length cs_last s_.last, box bs_ 96 [.slice as_a s_.a.length cs_a, .slice as_last s_.last.length cs_last, .slice as_lists s_.lists.length cs_lists], it] := H48.pick [2, 0, 1, 3] (by kernel_rfl)
    have H50 : Hold h hE [box bs_ 96 [.slice as_a s_.a.length cs_a, .slice as_last s_.last.length cs_last, .slice as_lists s_.lists.length cs_lists], own cd23 as_last s_.last.length cs_last s_.last, own cd23 as_lists s_.lists.length cs_lists s_.lists, it] := H49.pick [2, 1, 0, 3] (by kernel_rfl)
    refine Run_keep [0, 6] (L' := [(0, .pointer (some ⟨bs_, 0, none⟩)), (6, .int .i64 0)]) (by kernel_rfl) ?_
    refine Run_loop (fun m L' h' => ∃ (i1 : Int) (s1 : (List (List Int)) × (List (List Int))) (a1 : Option Addr) (c1 : Nat) (a2 : Option Addr) (c2 : Nat), 0 ≤ i1 ∧ M.forN 100 _ _ n m i1 s1 = some x1 ∧ L' = [(0, .pointer (some ⟨bs_, 0, none⟩)), (6, .int .i64 i1)] ∧ Hold h h' [box bs_ 96 [.slice as_a s_.a.length cs_a, .slice a1 s1.1.length c1, .slice a2 s1.2.length c2], own cd23 a1 s1.1.length c1 s1.1, own cd23 a2 s1.2.length c2 s1.2, it]) (100 - 0 : Int).toNat ⟨0, (s_.last, s_.lists), as_last, cs_last, as_lists, cs_lists, Int.le_refl _, gx1, rfl, H50⟩ ?_
    rintro my1 _ h1 ⟨i1, s1, a1, c1, a2, c2, hloy1', gx1, rfl, H1⟩
    refine Run_seq ?_
    refine Run_seq ?_
    refine Run_reg 2 (by kernel_rfl) (L' := [(0, .pointer (some ⟨bs_, 0, none⟩)), (6, .int .i64 i1), (15, .bool (decide (i1 < 100)))]) ?_ ?_
    · refine QRun_b [.int .i64 i1, .bool (decide (i1 < 100))] 0 _ (by kernel_rfl) (fun w => by kernel_rfl) ?_
      exact QRun_done [0, 6, 15] (by kernel_rfl) (by kernel_rfl)
    refine Run_cond (b := decide (i1 < 100)) (by kernel_rfl) (fun hb1 => ?_) (fun hb1 => ?_)
    · obtain ⟨my1, y1, rfl, hB1, hgoy1, houty1⟩ := M.for_go gx1 hb1
      have hlty1 := of_decide_eq_true hb1
      refine Run_skip ?_
      refine Run_seq ?_
      refine Run_block ?_
      refine Run_seq ?_
      refine Run_ops ?_
      refine Run_b [.pointer (some ⟨bs_, 0, none⟩), .int .i64 i1] 0 _ (by kernel_rfl) (fun w => by kernel_rfl) ?_
      obtain ⟨x2, hx1, hB1⟩ := M.bind_some hB1
      have H3 : Hold h h1 [own cd23 a1 s1.1.length c1 s1.1, box bs_ 96 [.slice as_a s_.a.length cs_a, .slice a1 s1.1.length c1, .slice a2 s1.2.length c2], own cd23 a2 s1.2.length c2 s1.2, it] := H1.pick [1, 0, 2, 3] (by kernel_rfl)
      have H4 : Hold h h1 [own cd23 a2 s1.2.length c2 s1.2, own cd23 a1 s1.1.length c1 s1.1, box bs_ 96 [.slice as_a s_.a.length cs_a, .slice a1 s1.1.length c1, .slice a2 s1.2.length c2], it] := H3.pick [2, 0, 1, 3] (by kernel_rfl)
      have H5 := H4.toQ
      have H6 : Hold h h1 [box bs_ 96 [.slice as_a s_.a.length cs_a, .slice a1 s1.1.length c1, .slice a2 s1.2.length c2], own cd23 a1 s1.1.length c1 s1.1, rowsQ cd2 23 a2 s1.2.length c2 s1.2 [], it] := H5.pick [2, 1, 0, 3] (by kernel_rfl)
      have H7 : Hold h h1 [box bs_ 96 [.slice as_a s_.a.length cs_a, .slice a1 s1.1.length c1, .slice a2 s1.2.length c2], own cd23 a1 s1.1.length c1 s1.1, rowsQ cd2 23 a2 s1.2.length c2 s1.2 [], bun [it]] := Hold.bundle (S := [box bs_ 96 [.slice as_a s_.a.length cs_a, .slice a1 s1.1.length c1, .slice a2 s1.2.length c2], own cd23 a1 s1.1.length c1 s1.1, rowsQ cd2 23 a2 s1.2.length c2 s1.2 []]) (R := [it]) H6
      refine Run_E (by kernel_rfl) ?_
      refine E_call (f := 95) (args := #[.pointer (some ⟨bs_, 0, none⟩), .int .i64 i1]) (w_spec_l07At_BQ0 h h1 _ (⟨s_.a, s1.1, s1.2⟩ : TL07series) bs_ as_a cs_a rs_a a1 c1 a2 c2 i1 H7 _ _ hx1) (by kernel_rfl) (fun v1 h3 hp1 => ?_)
      obtain ⟨a5, c5, a6, c6, a7, c7, rfl, H8⟩ := hp1
      have H9 : Hold h h3 [box bs_ 96 [.slice as_a s_.a.length cs_a, .slice a6 x2.2.2.last.length c6, .slice a7 x2.2.2.lists.length c7], own cd23 a6 x2.2.2.last.length c6 x2.2.2.last, rowsQ cd2 23 a7 x2.2.2.lists.length c7 x2.2.2.lists [(a5, c5, x2.1)], it] := Hold.unbundle (S := [box bs_ 96 [.slice as_a s_.a.length cs_a, .slice a6 x2.2.2.last.length c6, .slice a7 x2.2.2.lists.length c7], own cd23 a6 x2.2.2.last.length c6 x2.2.2.last, rowsQ cd2 23 a7 x2.2.2.lists.length c7 x2.2.2.lists [(a5, c5, x2.1)]]) (R := [it]) H8 (Hold.tailBase (S := [box bs_ 96 [.slice as_a s_.a.length cs_a, .slice a1 s1.1.length c1, .slice a2 s1.2.length c2], own cd23 a1 s1.1.length c1 s1.1, rowsQ cd2 23 a2 s1.2.length c2 s1.2 []]) (R := [it]) H6)
      refine Run_b [.tuple #[.slice a5 x2.1.length c5, .bool x2.2.1], .slice a5 x2.1.length c5, .bool x2.2.1, .slice a5 x2.1.length c5, .bool x2.2.1] 3 _ (by kernel_rfl) (fun w => by kernel_rfl) ?_
      refine Run_nil (by kernel_rfl) ?_
      refine Run_keep [0, 6, 7] (L' := [(0, .pointer (some ⟨bs_, 0, none⟩)), (6, .int .i64 i1), (7, .slice a5 x2.1.length c5)]) (by kernel_rfl) ?_
      refine Run_seq ?_
      refine Run_reg 1 (by kernel_rfl) (L' := [(0, .pointer (some ⟨bs_, 0, none⟩)), (6, .int .i64 i1), (7, .slice a5 x2.1.length c5), (9, .int .i64 1)]) ?_ ?_
      · refine QRun_b [.int .i64 1] 0 _ (by kernel_rfl) (fun w => by kernel_rfl) ?_
        exact QRun_done [0, 6, 7, 9] (by kernel_rfl) (by kernel_rfl)
      obtain ⟨x3, gx3, hB1⟩ := M.bind_some hB1
      refine Run_join (fun L' h' => ∃ (s4 : (List (List Int)) × (List (List Int)) × Int) (a10 : Option Addr) (c10 : Nat) (a11 : Option Addr) (c11 : Nat), x3 = .inl s4 ∧ L' = [(0, .pointer (some ⟨bs_, 0, none⟩)), (6, .int .i64 i1)] ∧ Hold h h' [box bs_ 96 [.slice as_a s_.a.length cs_a, .slice a10 s4.1.length c10, .slice a11 s4.2.1.length c11], own cd23 a10 s4.1.length c10 s4.1, rowsQ cd2 23 a11 s4.2.1.length c11 s4.2.1 [(a5, c5, x2.1)], it]) ?_ ?_
      · rintro _ h5 ⟨s4, a10, c10, a11, c11, es4, rfl, H11⟩
        have hB1 := M.cont_inl' hB1 es4
        refine Run_blk ?_
        refine Run_reg 3 (by kernel_rfl) (L' := [(0, .pointer (some ⟨bs_, 0, none⟩)), (6, .int .i64 (i1 + 1))]) ?_ ?_
        · refine QRun_b [.int .i64 i1] 0 _ (by kernel_rfl) (fun w => by kernel_rfl) ?_
          refine QRun_y (.int .i64 (i1 + 1)) (by kernel_rfl) (Y_eq (v := .int .i64 (w64 (i1 + 1))) (Y_pure (fun w => by kernel_rfl)) (by rw [w64_eq _ (by omega)])) ?_
          refine QRun_b [.int .i64 (i1 + 1)] 2 _ (by kernel_rfl) (fun w => by kernel_rfl) ?_
          exact QRun_done [0, 6] (by kernel_rfl) (by kernel_rfl)
        have H35 : Hold h h5 [own cd23 a10 s4.1.length c10 s4.1, box bs_ 96 [.slice as_a s_.a.length cs_a, .slice a10 s4.1.length c10, .slice a11 s4.2.1.length c11], rowsQ cd2 23 a11 s4.2.1.length c11 s4.2.1 [(a5, c5, x2.1)], it] := H11.pick [1, 0, 2, 3] (by kernel_rfl)
        have H36 : Hold h h5 [rowsQ cd2 23 a11 s4.2.1.length c11 s4.2.1 [(a5, c5, x2.1)], own cd23 a10 s4.1.length c10 s4.1, box bs_ 96 [.slice as_a s_.a.length cs_a, .slice a10 s4.1.length c10, .slice a11 s4.2.1.length c11], it] := H35.pick [2, 0, 1, 3] (by kernel_rfl)
        have H37 := H36.ofQ
        have H38 : Hold h h5 [box bs_ 96 [.slice as_a s_.a.length cs_a, .slice a10 s4.1.length c10, .slice a11 s4.2.1.length c11], own cd23 a10 s4.1.length c10 s4.1, own cd23 a11 s4.2.1.length c11 s4.2.1, it] := H37.pick [2, 1, 0, 3] (by kernel_rfl)
        have hB1 := M.ret_some hB1
        have gx1 := hgoy1 _ hB1.symm
        exact Run_again [0, 6] (by kernel_rfl) my1 (Nat.lt_succ_self _) ⟨i1 + 1, (s4.1, s4.2.1), a10, c10, a11, c11, by omega, gx1, rfl, H38⟩
      · refine Run_block ?_
        have H39 : Hold h h3 [own cd23 a6 x2.2.2.last.length c6 x2.2.2.last, box bs_ 96 [.slice as_a s_.a.length cs_a, .slice a6 x2.2.2.last.length c6, .slice a7 x2.2.2.lists.length c7], rowsQ cd2 23 a7 x2.2.2.lists.length c7 x2.2.2.lists [(a5, c5, x2.1)], it] := H9.pick [1, 0, 2, 3] (by kernel_rfl)
        have H40 : Hold h h3 [rowsQ cd2 23 a7 x2.2.2.lists.length c7 x2.2.2.lists [(a5, c5, x2.1)], own cd23 a6 x2.2.2.last.length c6 x2.2.2.last, box bs_ 96 [.slice as_a s_.a.length cs_a, .slice a6 x2.2.2.last.length c6, .slice a7 x2.2.2.lists.length c7], it] := H39.pick [2, 0, 1, 3] (by kernel_rfl)
        have H41 : Hold h h3 [box bs_ 96 [.slice as_a s_.a.length cs_a, .slice a6 x2.2.2.last.length c6, .slice a7 x2.2.2.lists.length c7], own cd23 a6 x2.2.2.last.length c6 x2.2.2.last, rowsQ cd2 23 a7 x2.2.2.lists.length c7 x2.2.2.lists [(a5, c5, x2.1)], it] := H40.pick [2, 1, 0, 3] (by kernel_rfl)
        refine Run_keep [0, 6, 7, 9] (L' := [(0, .pointer (some ⟨bs_, 0, none⟩)), (6, .int .i64 i1), (7, .slice a5 x2.1.length c5), (9, .int .i64 1)]) (by kernel_rfl) ?_
        refine Run_loop (fun m L' h' => ∃ (s3 : (List (List Int)) × (List (List Int)) × Int) (a8 : Option Addr) (c8 : Nat) (a9 : Option Addr) (c9 : Nat), M.loopN _ n m s3 = some x3 ∧ L' = [(0, .pointer (some ⟨bs_, 0, none⟩)), (6, .int .i64 i1), (7, .slice a5 x2.1.length c5), (9, .int .i64 s3.2.2)] ∧ Hold h h' [box bs_ 96 [.slice as_a s_.a.length cs_a, .slice a8 s3.1.length c8, .slice a9 s3.2.1.length c9], own cd23 a8 s3.1.length c8 s3.1, rowsQ cd2 23 a9 s3.2.1.length c9 s3.2.1 [(a5, c5, x2.1)], it]) n ⟨(x2.2.2.last, x2.2.2.lists, 1), a6, c6, a7, c7, gx3, rfl, H41⟩ ?_
        rintro my2 _ h4 ⟨s3, a8, c8, a9, c9, gx3, rfl, H10⟩
        obtain ⟨my2, y2, rfl, hB2, hgoy2, houty2⟩ := M.loop_some gx3
        refine Run_seq ?_
        refine Run_seq ?_
        refine Run_reg 4 (by kernel_rfl) (L' := [(0, .pointer (some ⟨bs_, 0, none⟩)), (6, .int .i64 i1), (7, .slice a5 x2.1.length c5), (9, .int .i64 s3.2.2), (27, .bool (decide ((w64 (i1 + s3.2.2)) ≤ 100)))]) ?_ ?_
        · refine QRun_b [.int .i64 i1, .int .i64 s3.2.2, .int .i64 (w64 (i1 + s3.2.2)), .bool (decide ((w64 (i1 + s3.2.2)) ≤ 100))] 0 _ (by kernel_rfl) (fun w => by kernel_rfl) ?_
          exact QRun_done [0, 6, 7, 9, 27] (by kernel_rfl) (by kernel_rfl)
        refine Run_cond (b := decide ((w64 (i1 + s3.2.2)) ≤ 100)) (by kernel_rfl) (fun hb2 => ?_) (fun hb2 => ?_)
        · have hB2 := (M.ite_some hB2).1 hb2
          refine Run_skip ?_
          refine Run_seq ?_
          refine Run_block ?_
          refine Run_seq ?_
          refine Run_ops ?_
          refine Run_b [.pointer (some ⟨bs_, 0, none⟩), .int .i64 i1, .int .i64 s3.2.2, .int .i64 (w64 (i1 + s3.2.2))] 0 _ (by kernel_rfl) (fun w => by kernel_rfl) ?_
          obtain ⟨x4, hx2, hB2⟩ := M.bind_some hB2
          have H12 : Hold h h4 [own cd23 a8 s3.1.length c8 s3.1, box bs_ 96 [.slice as_a s_.a.length cs_a, .slice a8 s3.1.length c8, .slice a9 s3.2.1.length c9], rowsQ cd2 23 a9 s3.2.1.length c9 s3.2.1 [(a5, c5, x2.1)], it] := H10.pick [1, 0, 2, 3] (by kernel_rfl)
          have H13 : Hold h h4 [rowsQ cd2 23 a9 s3.2.1.length c9 s3.2.1 [(a5, c5, x2.1)], own cd23 a8 s3.1.length c8 s3.1, box bs_ 96 [.slice as_a s_.a.length cs_a, .slice a8 s3.1.length c8, .slice a9 s3.2.1.length c9], it] := H12.pick [2, 0, 1, 3] (by kernel_rfl)
          have H14 : Hold h h4 [box bs_ 96 [.slice as_a s_.a.length cs_a, .slice a8 s3.1.length c8, .slice a9 s3.2.1.length c9], own cd23 a8 s3.1.length c8 s3.1, rowsQ cd2 23 a9 s3.2.1.length c9 s3.2.1 [(a5, c5, x2.1)], it] := H13.pick [2, 1, 0, 3] (by kernel_rfl)
          have H15 : Hold h h4 [box bs_ 96 [.slice as_a s_.a.length cs_a, .slice a8 s3.1.length c8, .slice a9 s3.2.1.length c9], own cd23 a8 s3.1.length c8 s3.1, rowsQ cd2 23 a9 s3.2.1.length c9 s3.2.1 [(a5, c5, x2.1)], bun [it]] := Hold.bundle (S := [box bs_ 96 [.slice as_a s_.a.length cs_a, .slice a8 s3.1.length c8, .slice a9 s3.2.1.length c9], own cd23 a8 s3.1.length c8 s3.1, rowsQ cd2 23 a9 s3.2.1.length c9 s3.2.1 [(a5, c5, x2.1)]]) (R := [it]) H14
          refine Run_E (by kernel_rfl) ?_
          refine E_call (f := 95) (args := #[.pointer (some ⟨bs_, 0, none⟩), .int .i64 (w64 (i1 + s3.2.2))]) (w_spec_l07At_BQ1 h h4 _ (⟨s_.a, s3.1, s3.2.1⟩ : TL07series) bs_ as_a cs_a rs_a a8 c8 a9 c9 a5 c5 x2.1 (w64 (i1 + s3.2.2)) H15 _ _ hx2) (by kernel_rfl) (fun v2 h6 hp2 => ?_)
          obtain ⟨a12, c12, a13, c13, a14, c14, rfl, H16⟩ := hp2
          have H17 : Hold h h6 [box bs_ 96 [.slice as_a s_.a.length cs_a, .slice a13 x4.2.2.last.length c13, .slice a14 x4.2.2.lists.length c14], own cd23 a13 x4.2.2.last.length c13 x4.2.2.last, rowsQ cd2 23 a14 x4.2.2.lists.length c14 x4.2.2.lists [(a12, c12, x4.1), (a5, c5, x2.1)], it] := Hold.unbundle (S := [box bs_ 96 [.slice as_a s_.a.length cs_a, .slice a13 x4.2.2.last.length c13, .slice a14 x4.2.2.lists.length c14], own cd23 a13 x4.2.2.last.length c13 x4.2.2.last, rowsQ cd2 23 a14 x4.2.2.lists.length c14 x4.2.2.lists [(a12, c12, x4.1), (a5, c5, x2.1)]]) (R := [it]) H16 (Hold.tailBase (S := [box bs_ 96 [.slice as_a s_.a.length cs_a, .slice a8 s3.1.length c8, .slice a9 s3.2.1.length c9], own cd23 a8 s3.1.length c8 s3.1, rowsQ cd2 23 a9 s3.2.1.length c9 s3.2.1 [(a5, c5, x2.1)]]) (R := [it]) H14)
          refine Run_b [.tuple #[.slice a12 x4.1.length c12, .bool x4.2.1], .slice a12 x4.1.length c12, .bool x4.2.1, .slice a12 x4.1.length c12, .bool x4.2.1] 5 _ (by kernel_rfl) (fun w => by kernel_rfl) ?_
          refine Run_nil (by kernel_rfl) ?_
          refine Run_keep [0, 6, 7, 9, 10, 11] (L' := [(0, .pointer (some ⟨bs_, 0, none⟩)), (6, .int .i64 i1), (7, .slice a5 x2.1.length c5), (9, .int .i64 s3.2.2), (10, .slice a12 x4.1.length c12), (11, .bool x4.2.1)]) (by kernel_rfl) ?_
          refine Run_seq ?_
          refine Run_seq ?_
          refine Run_reg 2 (by kernel_rfl) (L' := [(0, .pointer (some ⟨bs_, 0, none⟩)), (6, .int .i64 i1), (7, .slice a5 x2.1.length c5), (9, .int .i64 s3.2.2), (10, .slice a12 x4.1.length c12), (39, .bool (!x4.2.1))]) ?_ ?_
          · refine QRun_b [.bool x4.2.1, .bool (!x4.2.1)] 0 _ (by kernel_rfl) (fun w => by kernel_rfl) ?_
            exact QRun_done [0, 6, 7, 9, 10, 39] (by kernel_rfl) (by kernel_rfl)
          refine Run_cond (b := !x4.2.1) (by kernel_rfl) (fun hb3 => ?_) (fun hb3 => ?_)
          · have hB2 := (M.ite_some hB2).1 hb3
            refine Run_seq ?_
            refine Run_reg 4 (by kernel_rfl) (L' := [(2, .int .i64 0), (3, .int .i64 0), (4, .int .i64 0), (5, .int .i64 3)]) ?_ ?_
            · refine QRun_b [.int .i64 0, .int .i64 0, .int .i64 0, .int .i64 3] 0 _ (by kernel_rfl) (fun w => by kernel_rfl) ?_
              exact QRun_done [2, 3, 4, 5] (by kernel_rfl) (by kernel_rfl)
            have hB2 := M.ret_some hB2
            have gx3 := houty2 _ hB2.symm
            have hB1 := M.cont_inr' hB1 gx3
            have hB1 := M.ret_some hB1
            have gx1 := houty1 _ hB1.symm
            have hF := M.cont_inr' hF gx1
            have hF := M.ret_some hF
            subst hF
            have H18 : Hold h h6 [own cd23 a13 x4.2.2.last.length c13 x4.2.2.last, box bs_ 96 [.slice as_a s_.a.length cs_a, .slice a13 x4.2.2.last.length c13, .slice a14 x4.2.2.lists.length c14], rowsQ cd2 23 a14 x4.2.2.lists.length c14 x4.2.2.lists [(a12, c12, x4.1), (a5, c5, x2.1)], it] := H17.pick [1, 0, 2, 3] (by kernel_rfl)
            have H19 : Hold h h6 [rowsQ cd2 23 a14 x4.2.2.lists.length c14 x4.2.2.lists [(a12, c12, x4.1), (a5, c5, x2.1)], own cd23 a13 x4.2.2.last.length c13 x4.2.2.last, box bs_ 96 [.slice as_a s_.a.length cs_a, .slice a13 x4.2.2.last.length c13, .slice a14 x4.2.2.lists.length c14], it] := H18.pick [2, 0, 1, 3] (by kernel_rfl)
            have H20 := H19.ofQ
            have H21 : Hold h h6 [box bs_ 96 [.slice as_a s_.a.length cs_a, .slice a13 x4.2.2.last.length c13, .slice a14 x4.2.2.lists.length c14], own cd23 a13 x4.2.2.last.length c13 x4.2.2.last, own cd23 a14 x4.2.2.lists.length c14 x4.2.2.lists, it] := H20.pick [2, 1, 0, 3] (by kernel_rfl)
            exact Run_ret4 rfl (ResV_tmp (v := .int .i64 0) (by kernel_rfl)) (ResV_tmp (v := .int .i64 0) (by kernel_rfl)) (ResV_tmp (v := .int .i64 0) (by kernel_rfl)) (ResV_tmp (v := .int .i64 3) (by kernel_rfl)) ⟨a13, c13, a14, c14, rfl, H21⟩
          · have hB2 := (M.ite_some hB2).2 hb3
            refine Run_skip ?_
            refine Run_seq ?_
            obtain ⟨x5, hx3, hB2⟩ := M.bind_some hB2
            refine Run_regC (j := 8) (C := fun x => Hold h x [box bs_ 96 [.slice as_a s_.a.length cs_a, .slice a13 x4.2.2.last.length c13, .slice a14 x4.2.2.lists.length c14], own cd23 a13 x4.2.2.last.length c13 x4.2.2.last, rowsQ cd2 23 a14 x4.2.2.lists.length c14 x4.2.2.lists [(a12, c12, x4.1), (a5, c5, x2.1)], it]) (by kernel_rfl) H17 (L' := [(0, .pointer (some ⟨bs_, 0, none⟩)), (6, .int .i64 i1), (7, .slice a5 x2.1.length c5), (9, .int .i64 s3.2.2), (12, .int .i64 x5.1), (13, .bool x5.2)]) ?_ (fun h7 H22 => ?_)
            · refine QRun_b [.slice a5 x2.1.length c5, .slice a12 x4.1.length c12] 0 _ (by kernel_rfl) (fun w => by kernel_rfl) ?_
              refine QRun_y (.tuple #[.int .i64 x5.1, .bool x5.2]) (by kernel_rfl) (Y_call (f := 133) (args := #[.slice a5 x2.1.length c5, .slice a12 x4.1.length c12]) (v := .tuple #[.int .i64 x5.1, .bool x5.2]) (by kernel_rfl) fun hx Hx => (w_spec_l07Gap hx x2.1 a5 c5 (Hx.rdPeek 2 rfl 1 rfl) x4.1 a12 c12 (Hx.rdPeek 2 rfl 0 rfl) _ _ hx3).mono fun _ _ ⟨e, H'⟩ => ⟨e, Hx.call H' rfl⟩) ?_
              refine QRun_b [.tuple #[.int .i64 x5.1, .bool x5.2], .int .i64 x5.1, .bool x5.2, .int .i64 x5.1, .bool x5.2] 3 _ (by kernel_rfl) (fun w => by kernel_rfl) ?_
              exact QRun_done [0, 6, 7, 9, 12, 13] (by kernel_rfl) (by kernel_rfl)
            have H23 : Hold h h7 [box bs_ 96 [.slice as_a s_.a.length cs_a, .slice a13 x4.2.2.last.length c13, .slice a14 x4.2.2.lists.length c14], own cd23 a13 x4.2.2.last.length c13 x4.2.2.last, rowsQ cd2 23 a14 x4.2.2.lists.length c14 x4.2.2.lists [(a12, c12, x4.1), (a5, c5, x2.1)], it] := H22
            refine Run_seq ?_
            refine Run_reg 1 (by kernel_rfl) (L' := [(0, .pointer (some ⟨bs_, 0, none⟩)), (6, .int .i64 i1), (7, .slice a5 x2.1.length c5), (9, .int .i64 s3.2.2), (12, .int .i64 x5.1), (46, .bool x5.2)]) ?_ ?_
            · refine QRun_b [.bool x5.2] 0 _ (by kernel_rfl) (fun w => by kernel_rfl) ?_
              exact QRun_done [0, 6, 7, 9, 12, 46] (by kernel_rfl) (by kernel_rfl)
            refine Run_cond (b := x5.2) (by kernel_rfl) (fun hb4 => ?_) (fun hb4 => ?_)
            · have hB2 := (M.ite_some hB2).1 hb4
              refine Run_seq ?_
              refine Run_reg 7 (by kernel_rfl) (L' := [(2, .int .i64 i1), (3, .int .i64 s3.2.2), (4, .int .i64 x5.1), (5, .int .i64 0)]) ?_ ?_
              · refine QRun_b [.int .i64 i1, .int .i64 s3.2.2, .int .i64 x5.1, .int .i64 i1, .int .i64 s3.2.2, .int .i64 x5.1, .int .i64 0] 0 _ (by kernel_rfl) (fun w => by kernel_rfl) ?_
                exact QRun_done [2, 3, 4, 5] (by kernel_rfl) (by kernel_rfl)
              have hB2 := M.ret_some hB2
              have gx3 := houty2 _ hB2.symm
              have hB1 := M.cont_inr' hB1 gx3
              have hB1 := M.ret_some hB1
              have gx1 := houty1 _ hB1.symm
              have hF := M.cont_inr' hF gx1
              have hF := M.ret_some hF
              subst hF
              have H24 : Hold h h7 [own cd23 a13 x4.2.2.last.length c13 x4.2.2.last, box bs_ 96 [.slice as_a s_.a.length cs_a, .slice a13 x4.2.2.last.length c13, .slice a14 x4.2.2.lists.length c14], rowsQ cd2 23 a14 x4.2.2.lists.length c14 x4.2.2.lists [(a12, c12, x4.1), (a5, c5, x2.1)], it] := H23.pick [1, 0, 2, 3] (by kernel_rfl)
              have H25 : Hold h h7 [rowsQ cd2 23 a14 x4.2.2.lists.length c14 x4.2.2.lists [(a12, c12, x4.1), (a5, c5, x2.1)], own cd23 a13 x4.2.2.last.length c13 x4.2.2.last, box bs_ 96 [.slice as_a s_.a.length cs_a, .slice a13 x4.2.2.last.length c13, .slice a14 x4.2.2.lists.length c14], it] := H24.pick [2, 0, 1, 3] (by kernel_rfl)
              have H26 := H25.ofQ
              have H27 : Hold h h7 [box bs_ 96 [.slice as_a s_.a.length cs_a, .slice a13 x4.2.2.last.length c13, .slice a14 x4.2.2.lists.length c14], own cd23 a13 x4.2.2.last.length c13 x4.2.2.last, own cd23 a14 x4.2.2.lists.length c14 x4.2.2.lists, it] := H26.pick [2, 1, 0, 3] (by kernel_rfl)
              exact Run_ret4 rfl (ResV_tmp (v := .int .i64 i1) (by kernel_rfl)) (ResV_tmp (v := .int .i64 s3.2.2) (by kernel_rfl)) (ResV_tmp (v := .int .i64 x5.1) (by kernel_rfl)) (ResV_tmp (v := .int .i64 0) (by kernel_rfl)) ⟨a13, c13, a14, c14, rfl, H27⟩
            · have hB2 := (M.ite_some hB2).2 hb4
              refine Run_skip ?_
              refine Run_blk ?_
              refine Run_reg 3 (by kernel_rfl) (L' := [(0, .pointer (some ⟨bs_, 0, none⟩)), (6, .int .i64 i1), (7, .slice a5 x2.1.length c5), (9, .int .i64 (w64 (s3.2.2 + 1)))]) ?_ ?_
              · refine QRun_b [.int .i64 s3.2.2, .int .i64 (w64 (s3.2.2 + 1)), .int .i64 (w64 (s3.2.2 + 1))] 0 _ (by kernel_rfl) (fun w => by kernel_rfl) ?_
                exact QRun_done [0, 6, 7, 9] (by kernel_rfl) (by kernel_rfl)
              have H28 : Hold h h7 [own cd23 a13 x4.2.2.last.length c13 x4.2.2.last, box bs_ 96 [.slice as_a s_.a.length cs_a, .slice a13 x4.2.2.last.length c13, .slice a14 x4.2.2.lists.length c14], rowsQ cd2 23 a14 x4.2.2.lists.length c14 x4.2.2.lists [(a12, c12, x4.1), (a5, c5, x2.1)], it] := H23.pick [1, 0, 2, 3] (by kernel_rfl)
              have H29 : Hold h h7 [rowsQ cd2 23 a14 x4.2.2.lists.length c14 x4.2.2.lists [(a12, c12, x4.1), (a5, c5, x2.1)], own cd23 a13 x4.2.2.last.length c13 x4.2.2.last, box bs_ 96 [.slice as_a s_.a.length cs_a, .slice a13 x4.2.2.last.length c13, .slice a14 x4.2.2.lists.length c14], it] := H28.pick [2, 0, 1, 3] (by kernel_rfl)
              have H30 := H29.pickQ [(a5, c5, x2.1)] (by simp)
              have H31 : Hold h h7 [box bs_ 96 [.slice as_a s_.a.length cs_a, .slice a13 x4.2.2.last.length c13, .slice a14 x4.2.2.lists.length c14], own cd23 a13 x4.2.2.last.length c13 x4.2.2.last, rowsQ cd2 23 a14 x4.2.2.lists.length c14 x4.2.2.lists [(a5, c5, x2.1)], it] := H30.pick [2, 1, 0, 3] (by kernel_rfl)
              have hB2 := M.ret_some hB2
              have gx3 := hgoy2 _ hB2.symm
              exact Run_again [0, 6, 7, 9] (by kernel_rfl) my2 (Nat.lt_succ_self _) ⟨(x4.2.2.last, x4.2.2.lists, (w64 (s3.2.2 + 1))), a13, c13, a14, c14, gx3, rfl, H31⟩
        · have hB2 := (M.ite_some hB2).2 hb2
          refine Run_exit (k' := _) rfl ?_
          have H32 : Hold h h4 [own cd23 a8 s3.1.length c8 s3.1, box bs_ 96 [.slice as_a s_.a.length cs_a, .slice a8 s3.1.length c8, .slice a9 s3.2.1.length c9], rowsQ cd2 23 a9 s3.2.1.length c9 s3.2.1 [(a5, c5, x2.1)], it] := H10.pick [1, 0, 2, 3] (by kernel_rfl)
          have H33 : Hold h h4 [rowsQ cd2 23 a9 s3.2.1.length c9 s3.2.1 [(a5, c5, x2.1)], own cd23 a8 s3.1.length c8 s3.1, box bs_ 96 [.slice as_a s_.a.length cs_a, .slice a8 s3.1.length c8, .slice a9 s3.2.1.length c9], it] := H32.pick [2, 0, 1, 3] (by kernel_rfl)
          have H34 : Hold h h4 [box bs_ 96 [.slice as_a s_.a.length cs_a, .slice a8 s3.1.length c8, .slice a9 s3.2.1.length c9], own cd23 a8 s3.1.length c8 s3.1, rowsQ cd2 23 a9 s3.2.1.length c9 s3.2.1 [(a5, c5, x2.1)], it] := H33.pick [2, 1, 0, 3] (by kernel_rfl)
          have hB2 := M.ret_some hB2
          have gx3 := houty2 _ hB2.symm
          subst gx3
          exact Run_fall [0, 6] (by kernel_rfl) ⟨(s3.1, s3.2.1, s3.2.2), a8, c8, a9, c9, rfl, rfl, H34⟩
    · have gx1 := M.for_end gx1 hb1
      subst gx1
      refine Run_exit (k' := _) rfl ?_
      have H42 : Hold h h1 [own cd23 a1 s1.1.length c1 s1.1, box bs_ 96 [.slice as_a s_.a.length cs_a, .slice a1 s1.1.length c1, .slice a2 s1.2.length c2], own cd23 a2 s1.2.length c2 s1.2, it] := H1.pick [1, 0, 2, 3] (by kernel_rfl)
      have H43 : Hold h h1 [own cd23 a2 s1.2.length c2 s1.2, own cd23 a1 s1.1.length c1 s1.1, box bs_ 96 [.slice as_a s_.a.length cs_a, .slice a1 s1.1.length c1, .slice a2 s1.2.length c2], it] := H42.pick [2, 0, 1, 3] (by kernel_rfl)
      have H44 : Hold h h1 [box bs_ 96 [.slice as_a s_.a.length cs_a, .slice a1 s1.1.length c1, .slice a2 s1.2.length c2], own cd23 a1 s1.1.length c1 s1.1, own cd23 a2 s1.2.length c2 s1.2, it] := H43.pick [2, 1, 0, 3] (by kernel_rfl)
      exact Run_fall [] (by kernel_rfl) ⟨(s1.1, s1.2), a1, c1, a2, c2, rfl, rfl, H44⟩

set_option maxRecDepth 100000 in
set_option maxHeartbeats 4000000 in
theorem w_spec_OrbitRepeats (h : Heap) (a_ : List (List Int)) (aa_ : Option Addr) (ca_ : Nat) (ra_ : Rd cd23 h (Lt h) aa_ ca_ a_) (x_ : List Int) (ax_ : Option Addr) (cx_ : Nat) (rx_ : Rd cd2 h (Lt h) ax_ cx_ x_) (n : Nat) (r : Int × Int × Int × Int) (hF : spec_OrbitRepeats a_ x_ n = some r) :
    Fn Try.prog 24 #[.slice aa_ a_.length ca_, .slice ax_ x_.length cx_] h fun v h' => v = .tuple #[.int .i64 r.1, .int .i64 r.2.1, .int .i64 r.2.2.1, .int .i64 r.2.2.2] ∧ Hold h h' [] := by
  unfold spec_OrbitRepeats at hF
  refine Fn_enter (args := [.slice aa_ a_.length ca_, .slice ax_ x_.length cx_]) Try.func24 rfl (by kernel_rfl) (by kernel_rfl) (fun w0 _ => ?_)
  have H0 := Hold.init h
  refine Run_seq ?_
  refine Run_reg 4 (by kernel_rfl) (L' := [(0, .slice aa_ a_.length ca_), (1, .slice ax_ x_.length cx_)]) ?_ ?_
  · refine QRun_b [.int .i64 0, .int .i64 0, .int .i64 0, .int .i64 0] 0 _ (by kernel_rfl) (fun w => by kernel_rfl) ?_
    exact QRun_done [0, 1] (by kernel_rfl) (by kernel_rfl)
  refine Run_seq ?_
  obtain ⟨x1, hx1, hF⟩ := M.bind_some hF
  refine Run_reg 4 (by kernel_rfl) (L' := [(0, .slice aa_ a_.length ca_), (1, .slice ax_ x_.length cx_), (8, .int .i64 x1)]) ?_ ?_
  · refine QRun_b [.slice aa_ a_.length ca_, .slice ax_ x_.length cx_] 0 _ (by kernel_rfl) (fun w => by kernel_rfl) ?_
    refine QRun_y (.int .i64 x1) (by kernel_rfl) (Y_callq (f := 87) (args := #[.slice aa_ a_.length ca_, .slice ax_ x_.length cx_]) (v := .int .i64 x1) (by kernel_rfl) (w_spec_l07Code h a_ aa_ ca_ ra_ x_ ax_ cx_ rx_ _ _ hx1)) ?_
    refine QRun_b [.int .i64 x1] 3 _ (by kernel_rfl) (fun w => by kernel_rfl) ?_
    exact QRun_done [0, 1, 8] (by kernel_rfl) (by kernel_rfl)
  refine Run_seq ?_
  refine Run_seq ?_
  refine Run_reg 2 (by kernel_rfl) (L' := [(0, .slice aa_ a_.length ca_), (1, .slice ax_ x_.length cx_), (8, .int .i64 x1), (13, .bool (x1 != 0))]) ?_ ?_
  · refine QRun_b [.int .i64 x1, .bool (x1 != 0)] 0 _ (by kernel_rfl) (fun w => by kernel_rfl) ?_
    exact QRun_done [0, 1, 8, 13] (by kernel_rfl) (by kernel_rfl)
  refine Run_cond (b := x1 != 0) (by kernel_rfl) (fun hb1 => ?_) (fun hb1 => ?_)
  · have hF := (M.ite_some hF).1 hb1
    refine Run_seq ?_
    refine Run_reg 5 (by kernel_rfl) (L' := [(4, .int .i64 0), (5, .int .i64 0), (6, .int .i64 0), (7, .int .i64 x1)]) ?_ ?_
    · refine QRun_b [.int .i64 x1, .int .i64 0, .int .i64 0, .int .i64 0, .int .i64 x1] 0 _ (by kernel_rfl) (fun w => by kernel_rfl) ?_
      exact QRun_done [4, 5, 6, 7] (by kernel_rfl) (by kernel_rfl)
    have hF := M.ret_some hF
    subst hF
    exact Run_ret4 rfl (ResV_tmp (v := .int .i64 0) (by kernel_rfl)) (ResV_tmp (v := .int .i64 0) (by kernel_rfl)) (ResV_tmp (v := .int .i64 0) (by kernel_rfl)) (ResV_tmp (v := .int .i64 x1) (by kernel_rfl)) ⟨rfl, H0⟩
  · have hF := (M.ite_some hF).2 hb1
    refine Run_skip ?_
    refine Run_seq ?_
    refine Run_ops ?_
    refine Run_b [.slice aa_ a_.length ca_, .slice ax_ x_.length cx_] 0 _ (by kernel_rfl) (fun w => by kernel_rfl) ?_
    obtain ⟨x2, hx2, hF⟩ := M.bind_some hF
    refine Run_E (by kernel_rfl) ?_
    refine E_call (f := 88) (args := #[.slice ax_ x_.length cx_]) (w_spec_l07Column h x_ ax_ cx_ rx_ _ _ hx2) (by kernel_rfl) (fun v1 h1 hp1 => ?_)
    obtain ⟨a1, c1, rfl, H1⟩ := hp1
    have H2 : Hold h h1 [own cd23 a1 x2.length c1 x2] := H0.call H1 rfl
    obtain ⟨x3, hx3, hF⟩ := M.bind_some hF
    refine Run_E (by kernel_rfl) ?_
    refine E_call (f := 77) (args := #[.slice aa_ a_.length ca_, .slice a1 x2.length c1]) (w_spec_l07Start h1 a_ aa_ ca_ (ra_.at H2.ext) x2 a1 c1 (H2.rd 0 rfl) _ _ hx3) (by kernel_rfl) (fun v2 h2 hp2 => ?_)
    obtain ⟨b1, a2, c2, a3, c3, a4, c4, rfl, hd1, hd2, H3⟩ := hp2
    have H4 : Hold h h2 [box b1 96 [.slice a2 x3.a.length c2, .slice a3 x3.last.length c3, .slice a4 x3.lists.length c4], own cd23 a4 x3.lists.length c4 x3.lists, own cd23 a1 x2.length c1 x2] := H2.call H3 rfl
    have r1 := ra_.alias hd1
    have H5 : Hold h h2 [own cd23 a1 x2.length c1 x2, box b1 96 [.slice a2 x3.a.length c2, .slice a3 x3.last.length c3, .slice a4 x3.lists.length c4], own cd23 a4 x3.lists.length c4 x3.lists] := H4.pick [2, 0, 1] (by kernel_rfl)
    have H6 := H5.alias hd2
    obtain ⟨x4, hx4, hF⟩ := M.bind_some hF
    have H7 : Hold h h2 [own cd23 a4 x3.lists.length c4 x3.lists, own cd23 a3 x3.last.length c3 x3.last, box b1 96 [.slice a2 x3.a.length c2, .slice a3 x3.last.length c3, .slice a4 x3.lists.length c4]] := H6.pick [2, 0, 1] (by kernel_rfl)
    have H8 : Hold h h2 [box b1 96 [.slice a2 x3.a.length c2, .slice a3 x3.last.length c3, .slice a4 x3.lists.length c4], own cd23 a3 x3.last.length c3 x3.last, own cd23 a4 x3.lists.length c4 x3.lists] := H7.pick [2, 1, 0] (by kernel_rfl)
    have H9 : Hold h h2 [box b1 96 [.slice a2 x3.a.length c2, .slice a3 x3.last.length c3, .slice a4 x3.lists.length c4], own cd23 a3 x3.last.length c3 x3.last, own cd23 a4 x3.lists.length c4 x3.lists, bun []] := Hold.bundle (S := [box b1 96 [.slice a2 x3.a.length c2, .slice a3 x3.last.length c3, .slice a4 x3.lists.length c4], own cd23 a3 x3.last.length c3 x3.last, own cd23 a4 x3.lists.length c4 x3.lists]) (R := []) H8
    refine Run_E (by kernel_rfl) ?_
    refine E_call (f := 79) (args := #[.pointer (some ⟨b1, 0, none⟩)]) (w_spec_l07Find_B h h2 _ x3 b1 a2 c2 r1 a3 c3 a4 c4 H9 _ _ hx4) (by kernel_rfl) (fun v3 h3 hp3 => ?_)
    obtain ⟨a5, c5, a6, c6, rfl, H10⟩ := hp3
    have H11 : Hold h h3 [box b1 96 [.slice a2 x3.a.length c2, .slice a5 x4.2.2.2.2.last.length c5, .slice a6 x4.2.2.2.2.lists.length c6], own cd23 a5 x4.2.2.2.2.last.length c5 x4.2.2.2.2.last, own cd23 a6 x4.2.2.2.2.lists.length c6 x4.2.2.2.2.lists] := Hold.unbundle (S := [box b1 96 [.slice a2 x3.a.length c2, .slice a5 x4.2.2.2.2.last.length c5, .slice a6 x4.2.2.2.2.lists.length c6], own cd23 a5 x4.2.2.2.2.last.length c5 x4.2.2.2.2.last, own cd23 a6 x4.2.2.2.2.lists.length c6 x4.2.2.2.2.lists]) (R := []) H10 (Hold.tailBase (S := [box b1 96 [.slice a2 x3.a.length c2, .slice a3 x3.last.length c3, .slice a4 x3.lists.length c4], own cd23 a3 x3.last.length c3 x3.last, own cd23 a4 x3.lists.length c4 x3.lists]) (R := []) H8)
    refine Run_b [.int .i64 x4.1, .int .i64 x4.2.1, .int .i64 x4.2.2.1, .int .i64 x4.2.2.2.1, .int .i64 x4.1, .int .i64 x4.2.1, .int .i64 x4.2.2.1, .int .i64 x4.2.2.2.1] 5 _ (by kernel_rfl) (fun w => by kernel_rfl) ?_
    refine Run_nil (by kernel_rfl) ?_
    refine Run_keep [4, 5, 6, 7] (L' := [(4, .int .i64 x4.1), (5, .int .i64 x4.2.1), (6, .int .i64 x4.2.2.1), (7, .int .i64 x4.2.2.2.1)]) (by kernel_rfl) ?_
    have hF := M.ret_some hF
    subst hF
    have H12 : Hold h h3 [] := H11.pick [] (by kernel_rfl)
    exact Run_ret4 rfl (ResV_tmp (v := .int .i64 x4.1) (by kernel_rfl)) (ResV_tmp (v := .int .i64 x4.2.1) (by kernel_rfl)) (ResV_tmp (v := .int .i64 x4.2.2.1) (by kernel_rfl)) (ResV_tmp (v := .int .i64 x4.2.2.2.1) (by kernel_rfl)) ⟨rfl, H12⟩

set_option maxRecDepth 100000 in
set_option maxHeartbeats 4000000 in
theorem w_spec_l01Divisor (h : Heap) (a_ : Int) (b : Int) (n : Nat) (r : Int) (hF : spec_l01Divisor a_ b n = some r) :
    Fn Try.prog 126 #[.int .i64 a_, .int .i64 b] h fun v h' => v = .int .i64 r ∧ h' = h := by
  unfold spec_l01Divisor at hF
  refine Fn_enter (args := [.int .i64 a_, .int .i64 b]) Try.func126 rfl (by kernel_rfl) (by kernel_rfl) (fun w0 _ => ?_)
  refine Run_seq ?_
  refine Run_reg 1 (by kernel_rfl) (L' := [(0, .int .i64 a_), (1, .int .i64 b)]) ?_ ?_
  · refine QRun_b [.int .i64 0] 0 _ (by kernel_rfl) (fun w => by kernel_rfl) ?_
    exact QRun_done [0, 1] (by kernel_rfl) (by kernel_rfl)
  refine Run_seq ?_
  refine Run_reg 10 (by kernel_rfl) (L' := [(0, .int .i64 (mx a_ (w64 (0 - a_)))), (1, .int .i64 (mx b (w64 (0 - b))))]) ?_ ?_
  · refine QRun_b [.int .i64 a_, .int .i64 a_, .int .i64 (w64 (0 - a_)), .int .i64 (mx a_ (w64 (0 - a_))), .int .i64 b, .int .i64 b, .int .i64 (w64 (0 - b)), .int .i64 (mx b (w64 (0 - b))), .int .i64 (mx a_ (w64 (0 - a_))), .int .i64 (mx b (w64 (0 - b)))] 0 _ (by kernel_rfl) (fun w => by kernel_rfl) ?_
    exact QRun_done [0, 1] (by kernel_rfl) (by kernel_rfl)
  refine Run_seq ?_
  obtain ⟨x1, gx1, hF⟩ := M.bind_some hF
  refine Run_join (fun L' h' => L' = [(0, .int .i64 x1.1)] ∧ h = h') ?_ ?_
  · rintro _ _ ⟨rfl, rfl⟩
    refine Run_seq ?_
    refine Run_reg 2 (by kernel_rfl) (L' := [(4, .int .i64 x1.1)]) ?_ ?_
    · refine QRun_b [.int .i64 x1.1, .int .i64 x1.1] 0 _ (by kernel_rfl) (fun w => by kernel_rfl) ?_
      exact QRun_done [4] (by kernel_rfl) (by kernel_rfl)
    have hF := M.ret_some hF
    subst hF
    exact Run_ret1 rfl (ResV_tmp (v := .int .i64 x1.1) (by kernel_rfl)) ⟨rfl, rfl⟩
  · refine Run_block ?_
    refine Run_keep [0, 1] (L' := [(0, .int .i64 (mx a_ (w64 (0 - a_)))), (1, .int .i64 (mx b (w64 (0 - b))))]) (by kernel_rfl) ?_
    refine Run_loop (fun m L' h' => ∃ (s1 : Int × Int), M.loopN _ n m s1 = some x1 ∧ L' = [(0, .int .i64 s1.1), (1, .int .i64 s1.2)] ∧ h = h') n ⟨((mx a_ (w64 (0 - a_))), (mx b (w64 (0 - b)))), gx1, rfl, rfl⟩ ?_
    rintro my1 _ _ ⟨s1, gx1, rfl, rfl⟩
    obtain ⟨my1, y1, rfl, hB1, hgoy1, houty1⟩ := M.loop_some gx1
    refine Run_seq ?_
    refine Run_seq ?_
    refine Run_reg 2 (by kernel_rfl) (L' := [(0, .int .i64 s1.1), (1, .int .i64 s1.2), (14, .bool (decide (0 < s1.2)))]) ?_ ?_
    · refine QRun_b [.int .i64 s1.2, .bool (decide (0 < s1.2))] 0 _ (by kernel_rfl) (fun w => by kernel_rfl) ?_
      exact QRun_done [0, 1, 14] (by kernel_rfl) (by kernel_rfl)
    refine Run_cond (b := decide (0 < s1.2)) (by kernel_rfl) (fun hb1 => ?_) (fun hb1 => ?_)
    · have hB1 := (M.ite_some hB1).1 hb1
      refine Run_skip ?_
      refine Run_block ?_
      obtain ⟨u1, hz1, hB1⟩ := M.bind_some hB1
      have hz1 := M.guard_some hz1
      refine Run_draw 6 mixed (by kernel_rfl) (by kernel_rfl) (L' := [(0, .int .i64 s1.2), (1, .int .i64 (s1.1.tmod s1.2))]) ?_ ?_
      · refine QRun_b [.int .i64 s1.2, .int .i64 s1.1, .int .i64 s1.2] 0 _ (by kernel_rfl) (fun w => by kernel_rfl) ?_
        refine QRun_y (.int .i64 (s1.1.tmod s1.2)) (by kernel_rfl) (Y_rem (op := .rem) (k := .i64) (x := s1.1) (y := s1.2) (by kernel_rfl) hz1) ?_
        refine QRun_b [.int .i64 s1.2, .int .i64 (s1.1.tmod s1.2)] 4 _ (by kernel_rfl) (fun w => by kernel_rfl) ?_
        exact QRun_done [0, 1] (by kernel_rfl) (by kernel_rfl)
      refine Run_blk ?_
      have hB1 := M.ret_some hB1
      have gx1 := hgoy1 _ hB1.symm
      exact Run_again [0, 1] (by kernel_rfl) my1 (Nat.lt_succ_self _) ⟨(s1.2, (s1.1.tmod s1.2)), gx1, rfl, rfl⟩
    · have hB1 := (M.ite_some hB1).2 hb1
      refine Run_exit (k' := _) rfl ?_
      have hB1 := M.ret_some hB1
      have gx1 := houty1 _ hB1.symm
      subst gx1
      exact Run_fall [0] (by kernel_rfl) ⟨rfl, rfl⟩

set_option maxRecDepth 100000 in
set_option maxHeartbeats 4000000 in
theorem w_spec_l01Ratio (h : Heap) (num : Int) (den : Int) (n : Nat) (r : TRatio) (hF : spec_l01Ratio num den n = some r) :
    Fn Try.prog 58 #[.int .i64 num, .int .i64 den] h fun v h' => v = .agg #[.int .i64 r.Num, .int .i64 r.Den] ∧ Hold h h' [] := by
  unfold spec_l01Ratio at hF
  refine Fn_enter (args := [.int .i64 num, .int .i64 den]) Try.func58 rfl (by kernel_rfl) (by kernel_rfl) (fun w0 _ => ?_)
  have H0 := Hold.init h
  refine Run_seq ?_
  refine Run_ops ?_
  refine Run_E (by kernel_rfl) ?_
  refine E_box (ty := 26) (cs := [.int .i64 0, .int .i64 0]) H0 (fun w => by kernel_rfl) (fun b1 h1 H1 => ?_)
  refine Run_nil (by kernel_rfl) ?_
  refine Run_keep [0, 1, 4] (L' := [(0, .int .i64 num), (1, .int .i64 den), (4, .pointer (some ⟨b1, 0, none⟩))]) (by kernel_rfl) ?_
  refine Run_seq ?_
  refine Run_seq ?_
  refine Run_reg 2 (by kernel_rfl) (L' := [(0, .int .i64 num), (1, .int .i64 den), (4, .pointer (some ⟨b1, 0, none⟩)), (7, .bool (decide (den < 0)))]) ?_ ?_
  · refine QRun_b [.int .i64 den, .bool (decide (den < 0))] 0 _ (by kernel_rfl) (fun w => by kernel_rfl) ?_
    exact QRun_done [0, 1, 4, 7] (by kernel_rfl) (by kernel_rfl)
  obtain ⟨s1, gs1, hF⟩ := M.bind_some hF
  refine Run_join (fun L' h' => L' = [(0, .int .i64 s1.1), (1, .int .i64 s1.2), (4, .pointer (some ⟨b1, 0, none⟩))] ∧ Hold h h' [box b1 26 [.int .i64 0, .int .i64 0]]) ?_ ?_
  · rintro _ h2 ⟨rfl, H2⟩
    refine Run_seq ?_
    obtain ⟨x1, hx1, hF⟩ := M.bind_some hF
    refine Run_reg 4 (by kernel_rfl) (L' := [(0, .int .i64 s1.1), (1, .int .i64 s1.2), (4, .pointer (some ⟨b1, 0, none⟩)), (5, .int .i64 x1)]) ?_ ?_
    · refine QRun_b [.int .i64 s1.1, .int .i64 s1.2] 0 _ (by kernel_rfl) (fun w => by kernel_rfl) ?_
      refine QRun_y (.int .i64 x1) (by kernel_rfl) (Y_callq (f := 126) (args := #[.int .i64 s1.1, .int .i64 s1.2]) (v := .int .i64 x1) (by kernel_rfl) (w_spec_l01Divisor h2 s1.1 s1.2 _ _ hx1)) ?_
      refine QRun_b [.int .i64 x1] 3 _ (by kernel_rfl) (fun w => by kernel_rfl) ?_
      exact QRun_done [0, 1, 4, 5] (by kernel_rfl) (by kernel_rfl)
    refine Run_seq ?_
    obtain ⟨u1, hz1, hF⟩ := M.bind_some hF
    have hz1 := M.guard_some hz1
    obtain ⟨u2, hz2, hF⟩ := M.bind_some hF
    have hz2 := M.guard_some hz2
    refine Run_D (fun x => Hold h x [box b1 26 [.int .i64 0, .int .i64 0]]) (fun x => Hold h x [box b1 26 [.int .i64 0, .int .i64 0]]) mixed (by kernel_rfl) H2 Hold.stable (fun x Hy => (show Hold h x [box b1 26 [.int .i64 0, .int .i64 0]] from Hy).pick [0] (by kernel_rfl)) ?_
    refine DR_b 6 [.int .i64 s1.1, .int .i64 x1] 0 (by kernel_rfl) (by kernel_rfl) (by kernel_rfl) (fun w => by kernel_rfl) ?_
    refine DR_y 5 (i := 2) (.int .i64 (w64 (s1.1.tdiv x1))) (by kernel_rfl) (by kernel_rfl) (by kernel_rfl) (fun hx Hx => (YE.of (Y_quo (op := .quo) (k := .i64) (x := s1.1) (y := x1) (by kernel_rfl) hz1))) ?_
    refine DR_b 3 [.int .i64 s1.2, .int .i64 x1] 3 (by kernel_rfl) (by kernel_rfl) (by kernel_rfl) (fun w => by kernel_rfl) ?_
    refine DR_y 2 (i := 5) (.int .i64 (w64 (s1.2.tdiv x1))) (by kernel_rfl) (by kernel_rfl) (by kernel_rfl) (fun hx Hx => (YE.of (Y_quo (op := .quo) (k := .i64) (x := s1.2) (y := x1) (by kernel_rfl) hz2))) ?_
    refine DR_b 1 [.agg #[.int .i64 (w64 (s1.1.tdiv x1)), .int .i64 (w64 (s1.2.tdiv x1))]] 6 (by kernel_rfl) (by kernel_rfl) (by kernel_rfl) (fun w => by kernel_rfl) ?_
    refine DR_tail (i := 7) (by kernel_rfl) (by kernel_rfl) (by kernel_rfl) (fun h3 H3 => ?_)
    have H4 : Hold h h3 [box b1 26 [.int .i64 0, .int .i64 0]] := H3
    refine Run_E (by kernel_rfl) ?_
    refine E_bput (t := 26) (off := 0) (us := [.int .i64 (w64 (s1.1.tdiv x1)), .int .i64 (w64 (s1.2.tdiv x1))]) (v := .agg #[.int .i64 (w64 (s1.1.tdiv x1)), .int .i64 (w64 (s1.2.tdiv x1))]) H4 (by kernel_rfl) (by kernel_rfl) rfl (by kernel_rfl) rfl (fun h4 H5 => ?_)
    refine Run_nil (by kernel_rfl) ?_
    refine Run_keep [4] (L' := [(4, .pointer (some ⟨b1, 0, none⟩))]) (by kernel_rfl) ?_
    have hF := M.ret_some hF
    subst hF
    have H6 : Hold h h4 [] := H5.pick [] (by kernel_rfl)
    exact Run_ret1 rfl (ResV_cell (n := 2) (cs := [.int .i64 (w64 (s1.1.tdiv x1)), .int .i64 (w64 (s1.2.tdiv x1))]) (by kernel_rfl) (fun w => by kernel_rfl) (by kernel_rfl) rfl (H5.cells (n := 2) (off := 0) 0 rfl rfl)) ⟨rfl, H6⟩
  · refine Run_cond (b := decide (den < 0)) (by kernel_rfl) (fun hb1 => ?_) (fun hb1 => ?_)
    · have gs1 := (M.ite_some gs1).1 hb1
      refine Run_reg 6 (by kernel_rfl) (L' := [(0, .int .i64 (w64 (0 - num))), (1, .int .i64 (w64 (0 - den))), (4, .pointer (some ⟨b1, 0, none⟩))]) ?_ ?_
      · refine QRun_b [.int .i64 num, .int .i64 (w64 (0 - num)), .int .i64 den, .int .i64 (w64 (0 - den)), .int .i64 (w64 (0 - num)), .int .i64 (w64 (0 - den))] 0 _ (by kernel_rfl) (fun w => by kernel_rfl) ?_
        exact QRun_done [0, 1, 4] (by kernel_rfl) (by kernel_rfl)
      have gs1 := M.ret_some gs1
      subst gs1
      exact Run_fall [0, 1, 4] (by kernel_rfl) ⟨rfl, H1⟩
    · have gs1 := (M.ite_some gs1).2 hb1
      refine Run_skip ?_
      have gs1 := M.ret_some gs1
      subst gs1
      exact Run_fall [0, 1, 4] (by kernel_rfl) ⟨rfl, H1⟩

set_option maxRecDepth 100000 in
set_option maxHeartbeats 4000000 in
theorem w_spec_IsRatio (h : Heap) (r_ : TRatio) (n : Nat) (r : Bool) (hF : spec_IsRatio r_ n = some r) :
    Fn Try.prog 125 #[.agg #[.int .i64 r_.Num, .int .i64 r_.Den]] h fun v h' => v = .bool r ∧ Hold h h' [] := by
  unfold spec_IsRatio at hF
  refine Fn_enter (args := [.agg #[.int .i64 r_.Num, .int .i64 r_.Den]]) Try.func125 rfl (by kernel_rfl) (by kernel_rfl) (fun w0 _ => ?_)
  have H0 := Hold.init h
  refine Run_seq ?_
  refine Run_ops ?_
  refine Run_E (by kernel_rfl) ?_
  refine E_box (ty := 26) (cs := [.int .i64 r_.Num, .int .i64 r_.Den]) H0 (fun w => by kernel_rfl) (fun b1 h1 H1 => ?_)
  refine Run_b [.bool false] 1 _ (by kernel_rfl) (fun w => by kernel_rfl) ?_
  refine Run_nil (by kernel_rfl) ?_
  refine Run_keep [1] (L' := [(1, .pointer (some ⟨b1, 0, none⟩))]) (by kernel_rfl) ?_
  refine Run_seq ?_
  obtain ⟨x1, hx1, hF⟩ := M.bind_some hF
  obtain ⟨x2, gx2, hF⟩ := M.bind_some hF
  obtain ⟨x4, gx4, hF⟩ := M.bind_some hF
  refine Run_reg 17 (by kernel_rfl) (L' := [(2, .bool x4)]) ?_ ?_
  · refine QRun_b [.pointer (some ⟨b1, 0, none⟩)] 0 _ (by kernel_rfl) (fun w => by kernel_rfl) ?_
    refine QRun_y (.int .i64 r_.Num) (by kernel_rfl) (Y_load1 (t := 2) (p := ⟨b1, 0, none⟩) (v := .int .i64 r_.Num) (by kernel_rfl) (fun w => by kernel_rfl) (H1.cell 0 rfl rfl)) ?_
    refine QRun_y (.bool x1) (by kernel_rfl) (Y_callq (f := 101) (args := #[.int .i64 r_.Num]) (v := .bool x1) (by kernel_rfl) (w_spec_l01Finite h1 r_.Num _ _ hx1)) ?_
    refine QRun_seq 8 [(1, .pointer (some ⟨b1, 0, none⟩)), (10, .bool x2)] ?_ ?_
    · rcases Bool.eq_false_or_eq_true x1 with hb1 | hb1
      · refine QRun_bool x1 true (by kernel_rfl) (fun w => by kernel_rfl) hb1 ?_
        have gx2 := (M.ite_some gx2).1 hb1
        obtain ⟨x3, hx2, gx2⟩ := M.bind_some gx2
        have gx2 := M.ret_some gx2
        refine QRun_b [.pointer (some ⟨b1, 1, none⟩)] 4 _ (by kernel_rfl) (fun w => by kernel_rfl) ?_
        refine QRun_y (.int .i64 r_.Den) (by kernel_rfl) (Y_load1 (t := 2) (p := ⟨b1, 1, none⟩) (v := .int .i64 r_.Den) (by kernel_rfl) (fun w => by kernel_rfl) (H1.cell 0 rfl rfl)) ?_
        refine QRun_y (.bool x3) (by kernel_rfl) (Y_callq (f := 75) (args := #[.int .i64 r_.Den, .int .i64 1, .int .i64 1000000]) (v := .bool x3) (by kernel_rfl) (w_spec_l01In h1 r_.Den 1 1000000 _ _ hx2)) ?_
        refine QRun_bool x3 x2 (by kernel_rfl) (fun w => by kernel_rfl) gx2 ?_
        exact QRun_done [1, 10] (by kernel_rfl) (by kernel_rfl)
      · refine QRun_bool x1 false (by kernel_rfl) (fun w => by kernel_rfl) hb1 ?_
        have gx2 := M.ret_some ((M.ite_some gx2).2 hb1)
        refine QRun_n (by kernel_rfl) ?_
        refine QRun_n (by kernel_rfl) ?_
        refine QRun_n (by kernel_rfl) ?_
        refine QRun_bool false x2 (by kernel_rfl) (fun w => by kernel_rfl) gx2 ?_
        exact QRun_done [1, 10] (by kernel_rfl) (by kernel_rfl)
    refine QRun_seq 16 [(18, .bool x4)] ?_ ?_
    · rcases Bool.eq_false_or_eq_true x2 with hb2 | hb2
      · refine QRun_bool x2 true (by kernel_rfl) (fun w => by kernel_rfl) hb2 ?_
        have gx4 := (M.ite_some gx4).1 hb2
        obtain ⟨x5, hx3, gx4⟩ := M.bind_some gx4
        have gx4 := M.ret_some gx4
        refine QRun_b [.pointer (some ⟨b1, 0, none⟩)] 9 _ (by kernel_rfl) (fun w => by kernel_rfl) ?_
        refine QRun_y (.int .i64 r_.Num) (by kernel_rfl) (Y_load1 (t := 2) (p := ⟨b1, 0, none⟩) (v := .int .i64 r_.Num) (by kernel_rfl) (fun w => by kernel_rfl) (H1.cell 0 rfl rfl)) ?_
        refine QRun_b [.pointer (some ⟨b1, 1, none⟩)] 11 _ (by kernel_rfl) (fun w => by kernel_rfl) ?_
        refine QRun_y (.int .i64 r_.Den) (by kernel_rfl) (Y_load1 (t := 2) (p := ⟨b1, 1, none⟩) (v := .int .i64 r_.Den) (by kernel_rfl) (fun w => by kernel_rfl) (H1.cell 0 rfl rfl)) ?_
        refine QRun_y (.int .i64 x5) (by kernel_rfl) (Y_callq (f := 126) (args := #[.int .i64 r_.Num, .int .i64 r_.Den]) (v := .int .i64 x5) (by kernel_rfl) (w_spec_l01Divisor h1 r_.Num r_.Den _ _ hx3)) ?_
        refine QRun_b [.bool (x5 == 1)] 14 _ (by kernel_rfl) (fun w => by kernel_rfl) ?_
        refine QRun_bool (x5 == 1) x4 (by kernel_rfl) (fun w => by kernel_rfl) gx4 ?_
        exact QRun_done [18] (by kernel_rfl) (by kernel_rfl)
      · refine QRun_bool x2 false (by kernel_rfl) (fun w => by kernel_rfl) hb2 ?_
        have gx4 := M.ret_some ((M.ite_some gx4).2 hb2)
        refine QRun_n (by kernel_rfl) ?_
        refine QRun_n (by kernel_rfl) ?_
        refine QRun_n (by kernel_rfl) ?_
        refine QRun_n (by kernel_rfl) ?_
        refine QRun_n (by kernel_rfl) ?_
        refine QRun_n (by kernel_rfl) ?_
        refine QRun_bool false x4 (by kernel_rfl) (fun w => by kernel_rfl) gx4 ?_
        exact QRun_done [18] (by kernel_rfl) (by kernel_rfl)
    refine QRun_b [.bool x4] 16 _ (by kernel_rfl) (fun w => by kernel_rfl) ?_
    exact QRun_done [2] (by kernel_rfl) (by kernel_rfl)
  have hF := M.ret_some hF
  subst hF
  have H2 : Hold h h1 [] := H1.pick [] (by kernel_rfl)
  exact Run_ret1 rfl (ResV_tmp (v := .bool x4) (by kernel_rfl)) ⟨rfl, H2⟩

set_option maxRecDepth 100000 in
set_option maxHeartbeats 4000000 in
theorem w_spec_l04Result (h : Heap) (r_ : TRatio) (n : Nat) (r : TRatio × Int) (hF : spec_l04Result r_ n = some r) :
    Fn Try.prog 57 #[.agg #[.int .i64 r_.Num, .int .i64 r_.Den]] h fun v h' => v = .tuple #[.agg #[.int .i64 r.1.Num, .int .i64 r.1.Den], .int .i64 r.2] ∧ Hold h h' [] := by
  unfold spec_l04Result at hF
  refine Fn_enter (args := [.agg #[.int .i64 r_.Num, .int .i64 r_.Den]]) Try.func57 rfl (by kernel_rfl) (by kernel_rfl) (fun w0 _ => ?_)
  have H0 := Hold.init h
  refine Run_seq ?_
  refine Run_ops ?_
  refine Run_E (by kernel_rfl) ?_
  refine E_box (ty := 26) (cs := [.int .i64 r_.Num, .int .i64 r_.Den]) H0 (fun w => by kernel_rfl) (fun b1 h1 H1 => ?_)
  refine Run_E (by kernel_rfl) ?_
  refine E_box (ty := 26) (cs := [.int .i64 0, .int .i64 0]) H1 (fun w => by kernel_rfl) (fun b2 h2 H2 => ?_)
  refine Run_b [.int .i64 0] 2 _ (by kernel_rfl) (fun w => by kernel_rfl) ?_
  refine Run_nil (by kernel_rfl) ?_
  refine Run_keep [1, 2] (L' := [(1, .pointer (some ⟨b1, 0, none⟩)), (2, .pointer (some ⟨b2, 0, none⟩))]) (by kernel_rfl) ?_
  refine Run_seq ?_
  refine Run_seq ?_
  obtain ⟨x1, hx1, hF⟩ := M.bind_some hF
  refine Run_regC (j := 3) (C := fun x => Hold h x [box b2 26 [.int .i64 0, .int .i64 0], box b1 26 [.int .i64 r_.Num, .int .i64 r_.Den]]) (by kernel_rfl) H2 (L' := [(1, .pointer (some ⟨b1, 0, none⟩)), (2, .pointer (some ⟨b2, 0, none⟩)), (6, .bool (!x1))]) ?_ (fun h3 H3 => ?_)
  · refine QRun_y (.agg #[.int .i64 r_.Num, .int .i64 r_.Den]) (by kernel_rfl) (Y_cls fun hx Hx => (Y_loadA (t := 26) (n := 2) (p := ⟨b1, 0, none⟩) (cs := [.int .i64 r_.Num, .int .i64 r_.Den]) (by kernel_rfl) (fun w => by kernel_rfl) (by kernel_rfl) rfl (Hx.cells (n := 2) (off := 0) 1 rfl rfl))) ?_
    refine QRun_y (.bool x1) (by kernel_rfl) (Y_call (f := 125) (args := #[.agg #[.int .i64 r_.Num, .int .i64 r_.Den]]) (v := .bool x1) (by kernel_rfl) fun hx Hx => (w_spec_IsRatio hx r_ _ _ hx1).mono fun _ _ ⟨e, H'⟩ => ⟨e, Hx.call H' rfl⟩) ?_
    refine QRun_b [.bool (!x1)] 2 _ (by kernel_rfl) (fun w => by kernel_rfl) ?_
    exact QRun_done [1, 2, 6] (by kernel_rfl) (by kernel_rfl)
  have H4 : Hold h h3 [box b2 26 [.int .i64 0, .int .i64 0], box b1 26 [.int .i64 r_.Num, .int .i64 r_.Den]] := H3
  refine Run_cond (b := !x1) (by kernel_rfl) (fun hb1 => ?_) (fun hb1 => ?_)
  · have hF := (M.ite_some hF).1 hb1
    refine Run_seq ?_
    refine Run_ops ?_
    refine Run_b [.agg #[.int .i64 0, .int .i64 0]] 0 _ (by kernel_rfl) (fun w => by kernel_rfl) ?_
    refine Run_E (by kernel_rfl) ?_
    refine E_bput (t := 26) (off := 0) (us := [.int .i64 0, .int .i64 0]) (v := .agg #[.int .i64 0, .int .i64 0]) H4 (by kernel_rfl) (by kernel_rfl) rfl (by kernel_rfl) rfl (fun h4 H5 => ?_)
    refine Run_b [.int .i64 3] 2 _ (by kernel_rfl) (fun w => by kernel_rfl) ?_
    refine Run_nil (by kernel_rfl) ?_
    refine Run_keep [2, 3] (L' := [(2, .pointer (some ⟨b2, 0, none⟩)), (3, .int .i64 3)]) (by kernel_rfl) ?_
    have hF := M.ret_some hF
    subst hF
    have H6 : Hold h h4 [] := H5.pick [] (by kernel_rfl)
    exact Run_ret2 rfl (ResV_cell (n := 2) (cs := [.int .i64 0, .int .i64 0]) (by kernel_rfl) (fun w => by kernel_rfl) (by kernel_rfl) rfl (H5.cells (n := 2) (off := 0) 0 rfl rfl)) (ResV_tmp (v := .int .i64 3) (by kernel_rfl)) ⟨rfl, H6⟩
  · have hF := (M.ite_some hF).2 hb1
    refine Run_skip ?_
    refine Run_seq ?_
    refine Run_ops ?_
    refine Run_y (.agg #[.int .i64 r_.Num, .int .i64 r_.Den]) (by kernel_rfl) (Y_loadA (t := 26) (n := 2) (p := ⟨b1, 0, none⟩) (cs := [.int .i64 r_.Num, .int .i64 r_.Den]) (by kernel_rfl) (fun w => by kernel_rfl) (by kernel_rfl) rfl (H4.cells (n := 2) (off := 0) 1 rfl rfl)) ?_
    refine Run_E (by kernel_rfl) ?_
    refine E_bput (t := 26) (off := 0) (us := [.int .i64 r_.Num, .int .i64 r_.Den]) (v := .agg #[.int .i64 r_.Num, .int .i64 r_.Den]) H4 (by kernel_rfl) (by kernel_rfl) rfl (by kernel_rfl) rfl (fun h5 H7 => ?_)
    refine Run_b [.int .i64 0] 2 _ (by kernel_rfl) (fun w => by kernel_rfl) ?_
    refine Run_nil (by kernel_rfl) ?_
    refine Run_keep [2, 3] (L' := [(2, .pointer (some ⟨b2, 0, none⟩)), (3, .int .i64 0)]) (by kernel_rfl) ?_
    have hF := M.ret_some hF
    subst hF
    have H8 : Hold h h5 [] := H7.pick [] (by kernel_rfl)
    exact Run_ret2 rfl (ResV_cell (n := 2) (cs := [.int .i64 r_.Num, .int .i64 r_.Den]) (by kernel_rfl) (fun w => by kernel_rfl) (by kernel_rfl) rfl (H7.cells (n := 2) (off := 0) 0 rfl rfl)) (ResV_tmp (v := .int .i64 0) (by kernel_rfl)) ⟨rfl, H8⟩

set_option maxRecDepth 100000 in
set_option maxHeartbeats 4000000 in
theorem w_spec_OrbitRate (h : Heap) (a_ : List (List Int)) (aa_ : Option Addr) (ca_ : Nat) (ra_ : Rd cd23 h (Lt h) aa_ ca_ a_) (x_ : List Int) (ax_ : Option Addr) (cx_ : Nat) (rx_ : Rd cd2 h (Lt h) ax_ cx_ x_) (n : Nat) (r : TRatio × Int) (hF : spec_OrbitRate a_ x_ n = some r) :
    Fn Try.prog 10 #[.slice aa_ a_.length ca_, .slice ax_ x_.length cx_] h fun v h' => v = .tuple #[.agg #[.int .i64 r.1.Num, .int .i64 r.1.Den], .int .i64 r.2] ∧ Hold h h' [] := by
  unfold spec_OrbitRate at hF
  refine Fn_enter (args := [.slice aa_ a_.length ca_, .slice ax_ x_.length cx_]) Try.func10 rfl (by kernel_rfl) (by kernel_rfl) (fun w0 _ => ?_)
  have H0 := Hold.init h
  refine Run_seq ?_
  refine Run_ops ?_
  refine Run_E (by kernel_rfl) ?_
  refine E_box (ty := 26) (cs := [.int .i64 0, .int .i64 0]) H0 (fun w => by kernel_rfl) (fun b1 h1 H1 => ?_)
  refine Run_b [.int .i64 0] 1 _ (by kernel_rfl) (fun w => by kernel_rfl) ?_
  refine Run_nil (by kernel_rfl) ?_
  refine Run_keep [0, 1, 4] (L' := [(0, .slice aa_ a_.length ca_), (1, .slice ax_ x_.length cx_), (4, .pointer (some ⟨b1, 0, none⟩))]) (by kernel_rfl) ?_
  refine Run_seq ?_
  obtain ⟨x1, hx1, hF⟩ := M.bind_some hF
  refine Run_regC (j := 12) (C := fun x => Hold h x [box b1 26 [.int .i64 0, .int .i64 0]]) (by kernel_rfl) H1 (L' := [(4, .pointer (some ⟨b1, 0, none⟩)), (7, .int .i64 x1.2.1), (8, .int .i64 x1.2.2.1), (9, .int .i64 x1.2.2.2)]) ?_ (fun h2 H2 => ?_)
  · refine QRun_b [.slice aa_ a_.length ca_, .slice ax_ x_.length cx_] 0 _ (by kernel_rfl) (fun w => by kernel_rfl) ?_
    refine QRun_y (.tuple #[.int .i64 x1.1, .int .i64 x1.2.1, .int .i64 x1.2.2.1, .int .i64 x1.2.2.2]) (by kernel_rfl) (Y_call (f := 24) (args := #[.slice aa_ a_.length ca_, .slice ax_ x_.length cx_]) (v := .tuple #[.int .i64 x1.1, .int .i64 x1.2.1, .int .i64 x1.2.2.1, .int .i64 x1.2.2.2]) (by kernel_rfl) fun hx Hx => (w_spec_OrbitRepeats hx a_ aa_ ca_ (ra_.at Hx.ext) x_ ax_ cx_ (rx_.at Hx.ext) _ _ hx1).mono fun _ _ ⟨e, H'⟩ => ⟨e, Hx.call H' rfl⟩) ?_
    refine QRun_b [.tuple #[.int .i64 x1.1, .int .i64 x1.2.1, .int .i64 x1.2.2.1, .int .i64 x1.2.2.2], .int .i64 x1.1, .int .i64 x1.2.1, .int .i64 x1.2.2.1, .int .i64 x1.2.2.2, .int .i64 x1.1, .int .i64 x1.2.1, .int .i64 x1.2.2.1, .int .i64 x1.2.2.2] 3 _ (by kernel_rfl) (fun w => by kernel_rfl) ?_
    exact QRun_done [4, 7, 8, 9] (by kernel_rfl) (by kernel_rfl)
  have H3 : Hold h h2 [box b1 26 [.int .i64 0, .int .i64 0]] := H2
  refine Run_seq ?_
  refine Run_seq ?_
  refine Run_reg 2 (by kernel_rfl) (L' := [(4, .pointer (some ⟨b1, 0, none⟩)), (7, .int .i64 x1.2.1), (8, .int .i64 x1.2.2.1), (9, .int .i64 x1.2.2.2), (19, .bool (x1.2.2.2 != 0))]) ?_ ?_
  · refine QRun_b [.int .i64 x1.2.2.2, .bool (x1.2.2.2 != 0)] 0 _ (by kernel_rfl) (fun w => by kernel_rfl) ?_
    exact QRun_done [4, 7, 8, 9, 19] (by kernel_rfl) (by kernel_rfl)
  refine Run_cond (b := x1.2.2.2 != 0) (by kernel_rfl) (fun hb1 => ?_) (fun hb1 => ?_)
  · have hF := (M.ite_some hF).1 hb1
    refine Run_seq ?_
    refine Run_ops ?_
    refine Run_b [.agg #[.int .i64 0, .int .i64 0], .int .i64 x1.2.2.2] 0 _ (by kernel_rfl) (fun w => by kernel_rfl) ?_
    refine Run_E (by kernel_rfl) ?_
    refine E_bput (t := 26) (off := 0) (us := [.int .i64 0, .int .i64 0]) (v := .agg #[.int .i64 0, .int .i64 0]) H3 (by kernel_rfl) (by kernel_rfl) rfl (by kernel_rfl) rfl (fun h3 H4 => ?_)
    refine Run_b [.int .i64 x1.2.2.2] 3 _ (by kernel_rfl) (fun w => by kernel_rfl) ?_
    refine Run_nil (by kernel_rfl) ?_
    refine Run_keep [4, 5] (L' := [(4, .pointer (some ⟨b1, 0, none⟩)), (5, .int .i64 x1.2.2.2)]) (by kernel_rfl) ?_
    have hF := M.ret_some hF
    subst hF
    have H5 : Hold h h3 [] := H4.pick [] (by kernel_rfl)
    exact Run_ret2 rfl (ResV_cell (n := 2) (cs := [.int .i64 0, .int .i64 0]) (by kernel_rfl) (fun w => by kernel_rfl) (by kernel_rfl) rfl (H4.cells (n := 2) (off := 0) 0 rfl rfl)) (ResV_tmp (v := .int .i64 x1.2.2.2) (by kernel_rfl)) ⟨rfl, H5⟩
  · have hF := (M.ite_some hF).2 hb1
    refine Run_skip ?_
    refine Run_seq ?_
    refine Run_ops ?_
    refine Run_b [.int .i64 x1.2.2.1, .int .i64 x1.2.1] 0 _ (by kernel_rfl) (fun w => by kernel_rfl) ?_
    obtain ⟨x2, hx2, hF⟩ := M.bind_some hF
    refine Run_E (by kernel_rfl) ?_
    refine E_call (f := 58) (args := #[.int .i64 x1.2.2.1, .int .i64 x1.2.1]) (w_spec_l01Ratio h2 x1.2.2.1 x1.2.1 _ _ hx2) (by kernel_rfl) (fun v1 h4 hp1 => ?_)
    obtain ⟨rfl, H6⟩ := hp1
    have H7 : Hold h h4 [box b1 26 [.int .i64 0, .int .i64 0]] := H3.call H6 rfl
    obtain ⟨x3, hx3, hF⟩ := M.bind_some hF
    refine Run_E (by kernel_rfl) ?_
    refine E_call (f := 57) (args := #[.agg #[.int .i64 x2.Num, .int .i64 x2.Den]]) (w_spec_l04Result h4 x2 _ _ hx3) (by kernel_rfl) (fun v2 h5 hp2 => ?_)
    obtain ⟨rfl, H8⟩ := hp2
    have H9 : Hold h h5 [box b1 26 [.int .i64 0, .int .i64 0]] := H7.call H8 rfl
    refine Run_b [.agg #[.int .i64 x3.1.Num, .int .i64 x3.1.Den], .int .i64 x3.2] 4 _ (by kernel_rfl) (fun w => by kernel_rfl) ?_
    refine Run_E (by kernel_rfl) ?_
    refine E_bput (t := 26) (off := 0) (us := [.int .i64 x3.1.Num, .int .i64 x3.1.Den]) (v := .agg #[.int .i64 x3.1.Num, .int .i64 x3.1.Den]) H9 (by kernel_rfl) (by kernel_rfl) rfl (by kernel_rfl) rfl (fun h6 H10 => ?_)
    refine Run_b [.int .i64 x3.2] 7 _ (by kernel_rfl) (fun w => by kernel_rfl) ?_
    refine Run_nil (by kernel_rfl) ?_
    refine Run_keep [4, 5] (L' := [(4, .pointer (some ⟨b1, 0, none⟩)), (5, .int .i64 x3.2)]) (by kernel_rfl) ?_
    have hF := M.ret_some hF
    subst hF
    have H11 : Hold h h6 [] := H10.pick [] (by kernel_rfl)
    exact Run_ret2 rfl (ResV_cell (n := 2) (cs := [.int .i64 x3.1.Num, .int .i64 x3.1.Den]) (by kernel_rfl) (fun w => by kernel_rfl) (by kernel_rfl) rfl (H10.cells (n := 2) (off := 0) 0 rfl rfl)) (ResV_tmp (v := .int .i64 x3.2) (by kernel_rfl)) ⟨rfl, H11⟩

set_option maxRecDepth 100000 in
set_option maxHeartbeats 4000000 in
theorem w_impl_within (h : Heap) (n_ : Int) (low : Int) (high : Int) (n : Nat) (r : Bool) (hF : impl_within n_ low high n = some r) :
    Fn Try.prog 69 #[.int .i64 n_, .int .i64 low, .int .i64 high] h fun v h' => v = .bool r ∧ h' = h := by
  unfold impl_within at hF
  refine Fn_enter (args := [.int .i64 n_, .int .i64 low, .int .i64 high]) Try.func69 rfl (by kernel_rfl) (by kernel_rfl) (fun w0 _ => ?_)
  refine Run_seq ?_
  refine Run_reg 1 (by kernel_rfl) (L' := [(0, .int .i64 n_), (1, .int .i64 low), (2, .int .i64 high)]) ?_ ?_
  · refine QRun_b [.bool false] 0 _ (by kernel_rfl) (fun w => by kernel_rfl) ?_
    exact QRun_done [0, 1, 2] (by kernel_rfl) (by kernel_rfl)
  refine Run_seq ?_
  refine Run_reg 9 (by kernel_rfl) (L' := [(6, .bool ((decide (low ≤ n_)) && (decide (n_ ≤ high))))]) ?_ ?_
  · refine QRun_b [.int .i64 n_, .int .i64 low, .bool (decide (low ≤ n_))] 0 _ (by kernel_rfl) (fun w => by kernel_rfl) ?_
    refine QRun_seq 8 [(14, .bool ((decide (low ≤ n_)) && (decide (n_ ≤ high))))] ?_ ?_
    · rcases Bool.eq_false_or_eq_true (decide (low ≤ n_)) with hb1 | hb1
      · refine QRun_bool (decide (low ≤ n_)) true (by kernel_rfl) (fun w => by kernel_rfl) hb1 ?_
        refine QRun_b [.int .i64 n_, .int .i64 high, .bool (decide (n_ ≤ high))] 4 _ (by kernel_rfl) (fun w => by kernel_rfl) ?_
        refine QRun_bool (decide (n_ ≤ high)) ((decide (low ≤ n_)) && (decide (n_ ≤ high))) (by kernel_rfl) (fun w => by kernel_rfl) (by rw [hb1]; rfl) ?_
        exact QRun_done [14] (by kernel_rfl) (by kernel_rfl)
      · refine QRun_bool (decide (low ≤ n_)) false (by kernel_rfl) (fun w => by kernel_rfl) hb1 ?_
        refine QRun_n (by kernel_rfl) ?_
        refine QRun_n (by kernel_rfl) ?_
        refine QRun_n (by kernel_rfl) ?_
        refine QRun_bool false ((decide (low ≤ n_)) && (decide (n_ ≤ high))) (by kernel_rfl) (fun w => by kernel_rfl) (by rw [hb1]; rfl) ?_
        exact QRun_done [14] (by kernel_rfl) (by kernel_rfl)
    refine QRun_b [.bool ((decide (low ≤ n_)) && (decide (n_ ≤ high)))] 8 _ (by kernel_rfl) (fun w => by kernel_rfl) ?_
    exact QRun_done [6] (by kernel_rfl) (by kernel_rfl)
  have hF := M.ret_some hF
  subst hF
  exact Run_ret1 rfl (ResV_tmp (v := .bool ((decide (low ≤ n_)) && (decide (n_ ≤ high)))) (by kernel_rfl)) ⟨rfl, rfl⟩

set_option maxRecDepth 100000 in
set_option maxHeartbeats 4000000 in
theorem w_impl_isFinite (h : Heap) (n_ : Int) (n : Nat) (r : Bool) (hF : impl_isFinite n_ n = some r) :
    Fn Try.prog 92 #[.int .i64 n_] h fun v h' => v = .bool r ∧ h' = h := by
  unfold impl_isFinite at hF
  refine Fn_enter (args := [.int .i64 n_]) Try.func92 rfl (by kernel_rfl) (by kernel_rfl) (fun w0 _ => ?_)
  refine Run_seq ?_
  refine Run_reg 1 (by kernel_rfl) (L' := [(0, .int .i64 n_)]) ?_ ?_
  · refine QRun_b [.bool false] 0 _ (by kernel_rfl) (fun w => by kernel_rfl) ?_
    exact QRun_done [0] (by kernel_rfl) (by kernel_rfl)
  refine Run_seq ?_
  obtain ⟨x1, hx1, hF⟩ := M.bind_some hF
  refine Run_reg 3 (by kernel_rfl) (L' := [(2, .bool x1)]) ?_ ?_
  · refine QRun_b [.int .i64 n_] 0 _ (by kernel_rfl) (fun w => by kernel_rfl) ?_
    refine QRun_y (.bool x1) (by kernel_rfl) (Y_callq (f := 69) (args := #[.int .i64 n_, .int .i64 (-1000000), .int .i64 1000000]) (v := .bool x1) (by kernel_rfl) (w_impl_within h n_ (-1000000) 1000000 _ _ hx1)) ?_
    refine QRun_b [.bool x1] 2 _ (by kernel_rfl) (fun w => by kernel_rfl) ?_
    exact QRun_done [2] (by kernel_rfl) (by kernel_rfl)
  have hF := M.ret_some hF
  subst hF
  exact Run_ret1 rfl (ResV_tmp (v := .bool x1) (by kernel_rfl)) ⟨rfl, rfl⟩

set_option maxRecDepth 100000 in
set_option maxHeartbeats 4000000 in
theorem w_impl_IsValue (h : Heap) (a_ : Int) (n : Nat) (r : Bool) (hF : impl_IsValue a_ n = some r) :
    Fn Try.prog 130 #[.int .i64 a_] h fun v h' => v = .bool r ∧ h' = h := by
  unfold impl_IsValue at hF
  refine Fn_enter (args := [.int .i64 a_]) Try.func130 rfl (by kernel_rfl) (by kernel_rfl) (fun w0 _ => ?_)
  refine Run_seq ?_
  refine Run_reg 1 (by kernel_rfl) (L' := [(0, .int .i64 a_)]) ?_ ?_
  · refine QRun_b [.bool false] 0 _ (by kernel_rfl) (fun w => by kernel_rfl) ?_
    exact QRun_done [0] (by kernel_rfl) (by kernel_rfl)
  refine Run_seq ?_
  obtain ⟨x1, gx1, hF⟩ := M.bind_some hF
  refine Run_reg 7 (by kernel_rfl) (L' := [(2, .bool x1)]) ?_ ?_
  · refine QRun_b [.int .i64 a_, .bool (a_ == (-1000000000000000))] 0 _ (by kernel_rfl) (fun w => by kernel_rfl) ?_
    refine QRun_seq 6 [(8, .bool x1)] ?_ ?_
    · rcases Bool.eq_false_or_eq_true (a_ == (-1000000000000000)) with hb1 | hb1
      · refine QRun_bool (a_ == (-1000000000000000)) true (by kernel_rfl) (fun w => by kernel_rfl) hb1 ?_
        have gx1 := M.ret_some ((M.ite_some gx1).1 hb1)
        refine QRun_n (by kernel_rfl) ?_
        refine QRun_n (by kernel_rfl) ?_
        refine QRun_bool true x1 (by kernel_rfl) (fun w => by kernel_rfl) gx1 ?_
        exact QRun_done [8] (by kernel_rfl) (by kernel_rfl)
      · refine QRun_bool (a_ == (-1000000000000000)) false (by kernel_rfl) (fun w => by kernel_rfl) hb1 ?_
        have gx1 := (M.ite_some gx1).2 hb1
        obtain ⟨x2, hx1, gx1⟩ := M.bind_some gx1
        have gx1 := M.ret_some gx1
        refine QRun_b [.int .i64 a_] 3 _ (by kernel_rfl) (fun w => by kernel_rfl) ?_
        refine QRun_y (.bool x2) (by kernel_rfl) (Y_callq (f := 92) (args := #[.int .i64 a_]) (v := .bool x2) (by kernel_rfl) (w_impl_isFinite h a_ _ _ hx1)) ?_
        refine QRun_bool x2 x1 (by kernel_rfl) (fun w => by kernel_rfl) gx1 ?_
        exact QRun_done [8] (by kernel_rfl) (by kernel_rfl)
    refine QRun_b [.bool x1] 6 _ (by kernel_rfl) (fun w => by kernel_rfl) ?_
    exact QRun_done [2] (by kernel_rfl) (by kernel_rfl)
  have hF := M.ret_some hF
  subst hF
  exact Run_ret1 rfl (ResV_tmp (v := .bool x1) (by kernel_rfl)) ⟨rfl, rfl⟩

set_option maxRecDepth 100000 in
set_option maxHeartbeats 4000000 in
theorem w_impl_areValues_1 (h : Heap) (n_ : Int) (n : Nat) (r : Bool) (hF : impl_areValues_1 n_ n = some r) :
    Fn Try.prog 146 #[.int .i64 n_] h fun v h' => v = .bool r ∧ h' = h := by
  unfold impl_areValues_1 at hF
  refine Fn_enter (args := [.int .i64 n_]) Try.func146 rfl (by kernel_rfl) (by kernel_rfl) (fun w0 _ => ?_)
  refine Run_seq ?_
  refine Run_reg 1 (by kernel_rfl) (L' := [(0, .int .i64 n_)]) ?_ ?_
  · refine QRun_b [.bool false] 0 _ (by kernel_rfl) (fun w => by kernel_rfl) ?_
    exact QRun_done [0] (by kernel_rfl) (by kernel_rfl)
  refine Run_seq ?_
  obtain ⟨x1, hx1, hF⟩ := M.bind_some hF
  refine Run_reg 4 (by kernel_rfl) (L' := [(2, .bool (!x1))]) ?_ ?_
  · refine QRun_b [.int .i64 n_] 0 _ (by kernel_rfl) (fun w => by kernel_rfl) ?_
    refine QRun_y (.bool x1) (by kernel_rfl) (Y_callq (f := 130) (args := #[.int .i64 n_]) (v := .bool x1) (by kernel_rfl) (w_impl_IsValue h n_ _ _ hx1)) ?_
    refine QRun_b [.bool (!x1), .bool (!x1)] 2 _ (by kernel_rfl) (fun w => by kernel_rfl) ?_
    exact QRun_done [2] (by kernel_rfl) (by kernel_rfl)
  have hF := M.ret_some hF
  subst hF
  exact Run_ret1 rfl (ResV_tmp (v := .bool (!x1)) (by kernel_rfl)) ⟨rfl, rfl⟩

set_option maxRecDepth 100000 in
set_option maxHeartbeats 4000000 in
theorem w_slices_IndexFunc_int_F_impl_areValues_1 (h : Heap) (s_ : List Int) {Ss_ : Bs} (as_ : Option Addr) (cs_ : Nat) (rs_ : Rd cd2 h Ss_ as_ cs_ s_) (n : Nat) (r : Int) (hF : slices_IndexFunc_int_F_impl_areValues_1 s_ n = some r) :
    Fn Try.prog 153 #[.slice as_ s_.length cs_, .func (.func 146) #[] #[]] h fun v h' => v = .int .i64 r ∧ h' = h := by
  unfold slices_IndexFunc_int_F_impl_areValues_1 at hF
  refine Fn_enter (args := [.slice as_ s_.length cs_, .func (.func 146) #[] #[]]) Try.func153 rfl (by kernel_rfl) (by kernel_rfl) (fun w0 _ => ?_)
  refine Run_seq ?_
  refine Run_reg 1 (by kernel_rfl) (L' := [(0, .slice as_ s_.length cs_), (1, .func (.func 146) #[] #[])]) ?_ ?_
  · refine QRun_b [.int .i64 0] 0 _ (by kernel_rfl) (fun w => by kernel_rfl) ?_
    exact QRun_done [0, 1] (by kernel_rfl) (by kernel_rfl)
  refine Run_seq ?_
  refine Run_seq ?_
  refine Run_reg 3 (by kernel_rfl) (L' := [(0, .slice as_ s_.length cs_), (1, .func (.func 146) #[] #[]), (7, .int .i64 (s_.length : Int)), (8, .int .i64 0)]) ?_ ?_
  · refine QRun_b [.slice as_ s_.length cs_, .int .i64 (s_.length : Int), .int .i64 0] 0 _ (by kernel_rfl) (fun w => by kernel_rfl) ?_
    exact QRun_done [0, 1, 7, 8] (by kernel_rfl) (by kernel_rfl)
  obtain ⟨x1, gx1, hF⟩ := M.bind_some hF
  obtain ⟨hloy1, hhiy1, gx1⟩ := M.for_start gx1
  refine Run_join (fun L' h' => ∃ (s2 : Unit), x1 = .inl s2 ∧ L' = [] ∧ h = h') ?_ ?_
  · rintro _ _ ⟨s2, es2, rfl, rfl⟩
    have hF := M.cont_inl' hF es2
    refine Run_seq ?_
    refine Run_reg 1 (by kernel_rfl) (L' := [(4, .int .i64 (-1))]) ?_ ?_
    · refine QRun_b [.int .i64 (-1)] 0 _ (by kernel_rfl) (fun w => by kernel_rfl) ?_
      exact QRun_done [4] (by kernel_rfl) (by kernel_rfl)
    have hF := M.ret_some hF
    subst hF
    exact Run_ret1 rfl (ResV_tmp (v := .int .i64 (-1)) (by kernel_rfl)) ⟨rfl, rfl⟩
  · refine Run_block ?_
    refine Run_keep [0, 1, 7, 8] (L' := [(0, .slice as_ s_.length cs_), (1, .func (.func 146) #[] #[]), (7, .int .i64 (s_.length : Int)), (8, .int .i64 0)]) (by kernel_rfl) ?_
    refine Run_loop (fun m L' h' => ∃ (i1 : Int) (s1 : Unit), 0 ≤ i1 ∧ M.forN (s_.length : Int) _ _ n m i1 s1 = some x1 ∧ L' = [(0, .slice as_ s_.length cs_), (1, .func (.func 146) #[] #[]), (7, .int .i64 (s_.length : Int)), (8, .int .i64 i1)] ∧ h = h') ((s_.length : Int) - 0 : Int).toNat ⟨0, (), Int.le_refl _, gx1, rfl, rfl⟩ ?_
    rintro my1 _ _ ⟨i1, s1, hloy1', gx1, rfl, rfl⟩
    refine Run_seq ?_
    refine Run_reg 1 (by kernel_rfl) (L' := [(0, .slice as_ s_.length cs_), (1, .func (.func 146) #[] #[]), (7, .int .i64 (s_.length : Int)), (8, .int .i64 i1), (9, .bool (decide (i1 < (s_.length : Int))))]) ?_ ?_
    · refine QRun_b [.bool (decide (i1 < (s_.length : Int)))] 0 _ (by kernel_rfl) (fun w => by kernel_rfl) ?_
      exact QRun_done [0, 1, 7, 8, 9] (by kernel_rfl) (by kernel_rfl)
    refine Run_seq ?_
    refine Run_cond (b := decide (i1 < (s_.length : Int))) (by kernel_rfl) (fun hb1 => ?_) (fun hb1 => ?_)
    · obtain ⟨my1, y1, rfl, hB1, hgoy1, houty1⟩ := M.for_go gx1 hb1
      have hlty1 := of_decide_eq_true hb1
      refine Run_skip ?_
      refine Run_seq ?_
      refine Run_block ?_
      refine Run_seq ?_
      refine Run_reg 2 (by kernel_rfl) (L' := [(0, .slice as_ s_.length cs_), (1, .func (.func 146) #[] #[]), (5, .int .i64 i1), (7, .int .i64 (s_.length : Int)), (8, .int .i64 i1)]) ?_ ?_
      · refine QRun_b [.int .i64 i1, .int .i64 i1] 0 _ (by kernel_rfl) (fun w => by kernel_rfl) ?_
        exact QRun_done [0, 1, 5, 7, 8] (by kernel_rfl) (by kernel_rfl)
      refine Run_seq ?_
      obtain ⟨x2, hx1, hB1⟩ := M.bind_some hB1
      obtain ⟨hx1l, hx1u, hx1⟩ := M.idx_some hx1
      obtain ⟨x3, hx2, hB1⟩ := M.bind_some hB1
      refine Run_reg 6 (by kernel_rfl) (L' := [(0, .slice as_ s_.length cs_), (1, .func (.func 146) #[] #[]), (5, .int .i64 i1), (7, .int .i64 (s_.length : Int)), (8, .int .i64 i1), (16, .bool x3)]) ?_ ?_
      · refine QRun_b [.func (.func 146) #[] #[], .slice as_ s_.length cs_, .int .i64 i1] 0 _ (by kernel_rfl) (fun w => by kernel_rfl) ?_
        refine QRun_y (.pointer (some (adr as_ (i1.toNat * 1)))) (by kernel_rfl) (Y_idx (t := 23) (e := 2) (sz := 1) (a := as_) (n := s_.length) (cap := cs_) (kk := .i64) (i := i1) (by kernel_rfl) Try.underlying23 (by kernel_rfl) (rs_.cell hx1).1 hx1l hx1u) ?_
        refine QRun_y (.int .i64 x2) (by kernel_rfl) (Y_load1 (t := 2) (p := adr as_ (i1.toNat * 1)) (v := .int .i64 x2) (by kernel_rfl) (fun w => by kernel_rfl) (cd2_cell rs_ hx1)) ?_
        refine QRun_y (.bool x3) (by kernel_rfl) (Y_callq (f := 146) (args := #[.int .i64 x2]) (v := .bool x3) (by kernel_rfl) (w_impl_areValues_1 h x2 _ _ hx2)) ?_
        exact QRun_done [0, 1, 5, 7, 8, 16] (by kernel_rfl) (by kernel_rfl)
      refine Run_cond (b := x3) (by kernel_rfl) (fun hb2 => ?_) (fun hb2 => ?_)
      · have hB1 := (M.ite_some hB1).1 hb2
        refine Run_seq ?_
        refine Run_reg 2 (by kernel_rfl) (L' := [(4, .int .i64 i1)]) ?_ ?_
        · refine QRun_b [.int .i64 i1, .int .i64 i1] 0 _ (by kernel_rfl) (fun w => by kernel_rfl) ?_
          exact QRun_done [4] (by kernel_rfl) (by kernel_rfl)
        have hB1 := M.ret_some hB1
        have gx1 := houty1 _ hB1.symm
        have hF := M.cont_inr' hF gx1
        have hF := M.ret_some hF
        subst hF
        exact Run_ret1 rfl (ResV_tmp (v := .int .i64 i1) (by kernel_rfl)) ⟨rfl, rfl⟩
      · have hB1 := (M.ite_some hB1).2 hb2
        refine Run_skip ?_
        refine Run_blk ?_
        refine Run_reg 2 (by kernel_rfl) (L' := [(0, .slice as_ s_.length cs_), (1, .func (.func 146) #[] #[]), (7, .int .i64 (s_.length : Int)), (8, .int .i64 (i1 + 1))]) ?_ ?_
        · refine QRun_y (.int .i64 (i1 + 1)) (by kernel_rfl) (Y_eq (v := .int .i64 (w64 (i1 + 1))) (Y_pure (fun w => by kernel_rfl)) (by rw [w64_eq _ (by omega)])) ?_
          refine QRun_b [.int .i64 (i1 + 1)] 1 _ (by kernel_rfl) (fun w => by kernel_rfl) ?_
          exact QRun_done [0, 1, 7, 8] (by kernel_rfl) (by kernel_rfl)
        have hB1 := M.ret_some hB1
        have gx1 := hgoy1 _ hB1.symm
        exact Run_again [0, 1, 7, 8] (by kernel_rfl) my1 (Nat.lt_succ_self _) ⟨i1 + 1, (), by omega, gx1, rfl, rfl⟩
    · have gx1 := M.for_end gx1 hb1
      subst gx1
      refine Run_exit (k' := _) rfl ?_
      exact Run_fall [] (by kernel_rfl) ⟨(), rfl, rfl, rfl⟩

set_option maxRecDepth 100000 in
set_option maxHeartbeats 4000000 in
theorem w_slices_ContainsFunc_int_F_impl_areValues_1 (h : Heap) (s_ : List Int) {Ss_ : Bs} (as_ : Option Addr) (cs_ : Nat) (rs_ : Rd cd2 h Ss_ as_ cs_ s_) (n : Nat) (r : Bool) (hF : slices_ContainsFunc_int_F_impl_areValues_1 s_ n = some r) :
    Fn Try.prog 123 #[.slice as_ s_.length cs_, .func (.func 146) #[] #[]] h fun v h' => v = .bool r ∧ h' = h := by
  unfold slices_ContainsFunc_int_F_impl_areValues_1 at hF
  refine Fn_enter (args := [.slice as_ s_.length cs_, .func (.func 146) #[] #[]]) Try.func123 rfl (by kernel_rfl) (by kernel_rfl) (fun w0 _ => ?_)
  refine Run_seq ?_
  refine Run_reg 1 (by kernel_rfl) (L' := [(0, .slice as_ s_.length cs_), (1, .func (.func 146) #[] #[])]) ?_ ?_
  · refine QRun_b [.bool false] 0 _ (by kernel_rfl) (fun w => by kernel_rfl) ?_
    exact QRun_done [0, 1] (by kernel_rfl) (by kernel_rfl)
  refine Run_seq ?_
  obtain ⟨x1, hx1, hF⟩ := M.bind_some hF
  refine Run_reg 5 (by kernel_rfl) (L' := [(4, .bool (decide (0 ≤ x1)))]) ?_ ?_
  · refine QRun_b [.slice as_ s_.length cs_, .func (.func 146) #[] #[]] 0 _ (by kernel_rfl) (fun w => by kernel_rfl) ?_
    refine QRun_y (.int .i64 x1) (by kernel_rfl) (Y_callq (f := 153) (args := #[.slice as_ s_.length cs_, .func (.func 146) #[] #[]]) (v := .int .i64 x1) (by kernel_rfl) (w_slices_IndexFunc_int_F_impl_areValues_1 h s_ as_ cs_ rs_ _ _ hx1)) ?_
    refine QRun_b [.bool (decide (0 ≤ x1)), .bool (decide (0 ≤ x1))] 3 _ (by kernel_rfl) (fun w => by kernel_rfl) ?_
    exact QRun_done [4] (by kernel_rfl) (by kernel_rfl)
  have hF := M.ret_some hF
  subst hF
  exact Run_ret1 rfl (ResV_tmp (v := .bool (decide (0 ≤ x1))) (by kernel_rfl)) ⟨rfl, rfl⟩

set_option maxRecDepth 100000 in
set_option maxHeartbeats 4000000 in
theorem w_impl_areValues (h : Heap) (list : List Int) {Slist : Bs} (alist : Option Addr) (clist : Nat) (rlist : Rd cd2 h Slist alist clist list) (n : Nat) (r : Bool) (hF : impl_areValues list n = some r) :
    Fn Try.prog 102 #[.slice alist list.length clist] h fun v h' => v = .bool r ∧ h' = h := by
  unfold impl_areValues at hF
  refine Fn_enter (args := [.slice alist list.length clist]) Try.func102 rfl (by kernel_rfl) (by kernel_rfl) (fun w0 _ => ?_)
  refine Run_seq ?_
  refine Run_reg 1 (by kernel_rfl) (L' := [(0, .slice alist list.length clist)]) ?_ ?_
  · refine QRun_b [.bool false] 0 _ (by kernel_rfl) (fun w => by kernel_rfl) ?_
    exact QRun_done [0] (by kernel_rfl) (by kernel_rfl)
  refine Run_seq ?_
  obtain ⟨x1, hx1, hF⟩ := M.bind_some hF
  refine Run_reg 4 (by kernel_rfl) (L' := [(2, .bool (!x1))]) ?_ ?_
  · refine QRun_b [.slice alist list.length clist] 0 _ (by kernel_rfl) (fun w => by kernel_rfl) ?_
    refine QRun_y (.bool x1) (by kernel_rfl) (Y_callq (f := 123) (args := #[.slice alist list.length clist, .func (.func 146) #[] #[]]) (v := .bool x1) (by kernel_rfl) (w_slices_ContainsFunc_int_F_impl_areValues_1 h list alist clist rlist _ _ hx1)) ?_
    refine QRun_b [.bool (!x1), .bool (!x1)] 2 _ (by kernel_rfl) (fun w => by kernel_rfl) ?_
    exact QRun_done [2] (by kernel_rfl) (by kernel_rfl)
  have hF := M.ret_some hF
  subst hF
  exact Run_ret1 rfl (ResV_tmp (v := .bool (!x1)) (by kernel_rfl)) ⟨rfl, rfl⟩

set_option maxRecDepth 100000 in
set_option maxHeartbeats 4000000 in
theorem w_impl_IsMatrix_1 (h : Heap) (row : List Int) {Srow : Bs} (arow : Option Addr) (crow : Nat) (rrow : Rd cd2 h Srow arow crow row) (z0 : List (List Int)) {Sz0 : Bs} (az0 : Option Addr) (cz0 : Nat) (rz0 : Rd cd23 h Sz0 az0 cz0 z0) (bz0 : Nat) (vz0 : VarAt h bz0 22 [.slice az0 z0.length cz0]) (n : Nat) (r : Bool) (hF : impl_IsMatrix_1 row z0 n = some r) :
    Fn Try.prog 136 #[.slice arow row.length crow, .pointer (some ⟨bz0, 0, none⟩)] h fun v h' => v = .bool r ∧ h' = h := by
  unfold impl_IsMatrix_1 at hF
  refine Fn_enter (args := [.slice arow row.length crow, .pointer (some ⟨bz0, 0, none⟩)]) Try.func136 rfl (by kernel_rfl) (by kernel_rfl) (fun w0 _ => ?_)
  refine Run_seq ?_
  refine Run_reg 1 (by kernel_rfl) (L' := [(0, .slice arow row.length crow), (1, .pointer (some ⟨bz0, 0, none⟩))]) ?_ ?_
  · refine QRun_b [.bool false] 0 _ (by kernel_rfl) (fun w => by kernel_rfl) ?_
    exact QRun_done [0, 1] (by kernel_rfl) (by kernel_rfl)
  refine Run_seq ?_
  obtain ⟨x1, hx1, hF⟩ := M.bind_some hF
  obtain ⟨hx1l, hx1u, hx1⟩ := M.idx_some hx1
  obtain ⟨a1, c1, hc1, r1⟩ := rz0.row hx1
  obtain ⟨x2, gx2, hF⟩ := M.bind_some hF
  refine Run_reg 13 (by kernel_rfl) (L' := [(3, .bool x2)]) ?_ ?_
  · refine QRun_b [.slice arow row.length crow, .int .i64 (row.length : Int)] 0 _ (by kernel_rfl) (fun w => by kernel_rfl) ?_
    refine QRun_y (.slice az0 z0.length cz0) (by kernel_rfl) (Y_load1 (t := 22) (p := ⟨bz0, 0, none⟩) (v := .slice az0 z0.length cz0) (by kernel_rfl) (fun w => by kernel_rfl) (VarAt.cell vz0 rfl)) ?_
    refine QRun_y (.pointer (some (adr az0 (0 * 1)))) (by kernel_rfl) (Y_idx (t := 22) (e := 23) (sz := 1) (a := az0) (n := z0.length) (cap := cz0) (kk := .i64) (i := 0) (by kernel_rfl) Try.underlying22 (by kernel_rfl) (rz0.cell hx1).1 hx1l hx1u) ?_
    refine QRun_y (.slice a1 x1.length c1) (by kernel_rfl) (Y_load1 (t := 23) (p := adr az0 (0 * 1)) (v := .slice a1 x1.length c1) (by kernel_rfl) (fun w => by kernel_rfl) hc1) ?_
    refine QRun_b [.int .i64 (x1.length : Int), .bool ((row.length : Int) != (x1.length : Int))] 5 _ (by kernel_rfl) (fun w => by kernel_rfl) ?_
    refine QRun_seq 12 [(15, .bool x2)] ?_ ?_
    · rcases Bool.eq_false_or_eq_true ((row.length : Int) != (x1.length : Int)) with hb1 | hb1
      · refine QRun_bool ((row.length : Int) != (x1.length : Int)) true (by kernel_rfl) (fun w => by kernel_rfl) hb1 ?_
        have gx2 := M.ret_some ((M.ite_some gx2).1 hb1)
        refine QRun_n (by kernel_rfl) ?_
        refine QRun_n (by kernel_rfl) ?_
        refine QRun_n (by kernel_rfl) ?_
        refine QRun_bool true x2 (by kernel_rfl) (fun w => by kernel_rfl) gx2 ?_
        exact QRun_done [15] (by kernel_rfl) (by kernel_rfl)
      · refine QRun_bool ((row.length : Int) != (x1.length : Int)) false (by kernel_rfl) (fun w => by kernel_rfl) hb1 ?_
        have gx2 := (M.ite_some gx2).2 hb1
        obtain ⟨x3, hx2, gx2⟩ := M.bind_some gx2
        have gx2 := M.ret_some gx2
        refine QRun_b [.slice arow row.length crow] 8 _ (by kernel_rfl) (fun w => by kernel_rfl) ?_
        refine QRun_y (.bool x3) (by kernel_rfl) (Y_callq (f := 102) (args := #[.slice arow row.length crow]) (v := .bool x3) (by kernel_rfl) (w_impl_areValues h row arow crow rrow _ _ hx2)) ?_
        refine QRun_b [.bool (!x3)] 10 _ (by kernel_rfl) (fun w => by kernel_rfl) ?_
        refine QRun_bool (!x3) x2 (by kernel_rfl) (fun w => by kernel_rfl) gx2 ?_
        exact QRun_done [15] (by kernel_rfl) (by kernel_rfl)
    refine QRun_b [.bool x2] 12 _ (by kernel_rfl) (fun w => by kernel_rfl) ?_
    exact QRun_done [3] (by kernel_rfl) (by kernel_rfl)
  have hF := M.ret_some hF
  subst hF
  exact Run_ret1 rfl (ResV_tmp (v := .bool x2) (by kernel_rfl)) ⟨rfl, rfl⟩

set_option maxRecDepth 100000 in
set_option maxHeartbeats 4000000 in
theorem w_slices_IndexFunc_row_F_impl_IsMatrix_1 (h : Heap) (s_ : List (List Int)) {Ss_ : Bs} (as_ : Option Addr) (cs_ : Nat) (rs_ : Rd cd23 h Ss_ as_ cs_ s_) (f0 : List (List Int)) {Sf0 : Bs} (af0 : Option Addr) (cf0 : Nat) (rf0 : Rd cd23 h Sf0 af0 cf0 f0) (bf0 : Nat) (vf0 : VarAt h bf0 22 [.slice af0 f0.length cf0]) (n : Nat) (r : Int) (hF : slices_IndexFunc_row_F_impl_IsMatrix_1 s_ f0 n = some r) :
    Fn Try.prog 154 #[.slice as_ s_.length cs_, .func (.func 136) #[] #[.pointer (some ⟨bf0, 0, none⟩)]] h fun v h' => v = .int .i64 r ∧ h' = h := by
  unfold slices_IndexFunc_row_F_impl_IsMatrix_1 at hF
  refine Fn_enter (args := [.slice as_ s_.length cs_, .func (.func 136) #[] #[.pointer (some ⟨bf0, 0, none⟩)]]) Try.func154 rfl (by kernel_rfl) (by kernel_rfl) (fun w0 _ => ?_)
  refine Run_seq ?_
  refine Run_reg 1 (by kernel_rfl) (L' := [(0, .slice as_ s_.length cs_), (1, .func (.func 136) #[] #[.pointer (some ⟨bf0, 0, none⟩)])]) ?_ ?_
  · refine QRun_b [.int .i64 0] 0 _ (by kernel_rfl) (fun w => by kernel_rfl) ?_
    exact QRun_done [0, 1] (by kernel_rfl) (by kernel_rfl)
  refine Run_seq ?_
  refine Run_seq ?_
  refine Run_reg 3 (by kernel_rfl) (L' := [(0, .slice as_ s_.length cs_), (1, .func (.func 136) #[] #[.pointer (some ⟨bf0, 0, none⟩)]), (7, .int .i64 (s_.length : Int)), (8, .int .i64 0)]) ?_ ?_
  · refine QRun_b [.slice as_ s_.length cs_, .int .i64 (s_.length : Int), .int .i64 0] 0 _ (by kernel_rfl) (fun w => by kernel_rfl) ?_
    exact QRun_done [0, 1, 7, 8] (by kernel_rfl) (by kernel_rfl)
  obtain ⟨x1, gx1, hF⟩ := M.bind_some hF
  obtain ⟨hloy1, hhiy1, gx1⟩ := M.for_start gx1
  refine Run_join (fun L' h' => ∃ (s2 : Unit), x1 = .inl s2 ∧ L' = [] ∧ h = h') ?_ ?_
  · rintro _ _ ⟨s2, es2, rfl, rfl⟩
    have hF := M.cont_inl' hF es2
    refine Run_seq ?_
    refine Run_reg 1 (by kernel_rfl) (L' := [(4, .int .i64 (-1))]) ?_ ?_
    · refine QRun_b [.int .i64 (-1)] 0 _ (by kernel_rfl) (fun w => by kernel_rfl) ?_
      exact QRun_done [4] (by kernel_rfl) (by kernel_rfl)
    have hF := M.ret_some hF
    subst hF
    exact Run_ret1 rfl (ResV_tmp (v := .int .i64 (-1)) (by kernel_rfl)) ⟨rfl, rfl⟩
  · refine Run_block ?_
    refine Run_keep [0, 1, 7, 8] (L' := [(0, .slice as_ s_.length cs_), (1, .func (.func 136) #[] #[.pointer (some ⟨bf0, 0, none⟩)]), (7, .int .i64 (s_.length : Int)), (8, .int .i64 0)]) (by kernel_rfl) ?_
    refine Run_loop (fun m L' h' => ∃ (i1 : Int) (s1 : Unit), 0 ≤ i1 ∧ M.forN (s_.length : Int) _ _ n m i1 s1 = some x1 ∧ L' = [(0, .slice as_ s_.length cs_), (1, .func (.func 136) #[] #[.pointer (some ⟨bf0, 0, none⟩)]), (7, .int .i64 (s_.length : Int)), (8, .int .i64 i1)] ∧ h = h') ((s_.length : Int) - 0 : Int).toNat ⟨0, (), Int.le_refl _, gx1, rfl, rfl⟩ ?_
    rintro my1 _ _ ⟨i1, s1, hloy1', gx1, rfl, rfl⟩
    refine Run_seq ?_
    refine Run_reg 1 (by kernel_rfl) (L' := [(0, .slice as_ s_.length cs_), (1, .func (.func 136) #[] #[.pointer (some ⟨bf0, 0, none⟩)]), (7, .int .i64 (s_.length : Int)), (8, .int .i64 i1), (9, .bool (decide (i1 < (s_.length : Int))))]) ?_ ?_
    · refine QRun_b [.bool (decide (i1 < (s_.length : Int)))] 0 _ (by kernel_rfl) (fun w => by kernel_rfl) ?_
      exact QRun_done [0, 1, 7, 8, 9] (by kernel_rfl) (by kernel_rfl)
    refine Run_seq ?_
    refine Run_cond (b := decide (i1 < (s_.length : Int))) (by kernel_rfl) (fun hb1 => ?_) (fun hb1 => ?_)
    · obtain ⟨my1, y1, rfl, hB1, hgoy1, houty1⟩ := M.for_go gx1 hb1
      have hlty1 := of_decide_eq_true hb1
      refine Run_skip ?_
      refine Run_seq ?_
      refine Run_block ?_
      refine Run_seq ?_
      refine Run_reg 2 (by kernel_rfl) (L' := [(0, .slice as_ s_.length cs_), (1, .func (.func 136) #[] #[.pointer (some ⟨bf0, 0, none⟩)]), (5, .int .i64 i1), (7, .int .i64 (s_.length : Int)), (8, .int .i64 i1)]) ?_ ?_
      · refine QRun_b [.int .i64 i1, .int .i64 i1] 0 _ (by kernel_rfl) (fun w => by kernel_rfl) ?_
        exact QRun_done [0, 1, 5, 7, 8] (by kernel_rfl) (by kernel_rfl)
      refine Run_seq ?_
      obtain ⟨x2, hx1, hB1⟩ := M.bind_some hB1
      obtain ⟨hx1l, hx1u, hx1⟩ := M.idx_some hx1
      obtain ⟨a1, c1, hc1, r1⟩ := rs_.row hx1
      obtain ⟨x3, hx2, hB1⟩ := M.bind_some hB1
      refine Run_reg 6 (by kernel_rfl) (L' := [(0, .slice as_ s_.length cs_), (1, .func (.func 136) #[] #[.pointer (some ⟨bf0, 0, none⟩)]), (5, .int .i64 i1), (7, .int .i64 (s_.length : Int)), (8, .int .i64 i1), (16, .bool x3)]) ?_ ?_
      · refine QRun_b [.func (.func 136) #[] #[.pointer (some ⟨bf0, 0, none⟩)], .slice as_ s_.length cs_, .int .i64 i1] 0 _ (by kernel_rfl) (fun w => by kernel_rfl) ?_
        refine QRun_y (.pointer (some (adr as_ (i1.toNat * 1)))) (by kernel_rfl) (Y_idx (t := 22) (e := 23) (sz := 1) (a := as_) (n := s_.length) (cap := cs_) (kk := .i64) (i := i1) (by kernel_rfl) Try.underlying22 (by kernel_rfl) (rs_.cell hx1).1 hx1l hx1u) ?_
        refine QRun_y (.slice a1 x2.length c1) (by kernel_rfl) (Y_load1 (t := 23) (p := adr as_ (i1.toNat * 1)) (v := .slice a1 x2.length c1) (by kernel_rfl) (fun w => by kernel_rfl) hc1) ?_
        refine QRun_y (.bool x3) (by kernel_rfl) (Y_callq (f := 136) (args := #[.slice a1 x2.length c1, .pointer (some ⟨bf0, 0, none⟩)]) (v := .bool x3) (by kernel_rfl) (w_impl_IsMatrix_1 h x2 a1 c1 r1 f0 af0 cf0 rf0 bf0 vf0 _ _ hx2)) ?_
        exact QRun_done [0, 1, 5, 7, 8, 16] (by kernel_rfl) (by kernel_rfl)
      refine Run_cond (b := x3) (by kernel_rfl) (fun hb2 => ?_) (fun hb2 => ?_)
      · have hB1 := (M.ite_some hB1).1 hb2
        refine Run_seq ?_
        refine Run_reg 2 (by kernel_rfl) (L' := [(4, .int .i64 i1)]) ?_ ?_
        · refine QRun_b [.int .i64 i1, .int .i64 i1] 0 _ (by kernel_rfl) (fun w => by kernel_rfl) ?_
          exact QRun_done [4] (by kernel_rfl) (by kernel_rfl)
        have hB1 := M.ret_some hB1
        have gx1 := houty1 _ hB1.symm
        have hF := M.cont_inr' hF gx1
        have hF := M.ret_some hF
        subst hF
        exact Run_ret1 rfl (ResV_tmp (v := .int .i64 i1) (by kernel_rfl)) ⟨rfl, rfl⟩
      · have hB1 := (M.ite_some hB1).2 hb2
        refine Run_skip ?_
        refine Run_blk ?_
        refine Run_reg 2 (by kernel_rfl) (L' := [(0, .slice as_ s_.length cs_), (1, .func (.func 136) #[] #[.pointer (some ⟨bf0, 0, none⟩)]), (7, .int .i64 (s_.length : Int)), (8, .int .i64 (i1 + 1))]) ?_ ?_
        · refine QRun_y (.int .i64 (i1 + 1)) (by kernel_rfl) (Y_eq (v := .int .i64 (w64 (i1 + 1))) (Y_pure (fun w => by kernel_rfl)) (by rw [w64_eq _ (by omega)])) ?_
          refine QRun_b [.int .i64 (i1 + 1)] 1 _ (by kernel_rfl) (fun w => by kernel_rfl) ?_
          exact QRun_done [0, 1, 7, 8] (by kernel_rfl) (by kernel_rfl)
        have hB1 := M.ret_some hB1
        have gx1 := hgoy1 _ hB1.symm
        exact Run_again [0, 1, 7, 8] (by kernel_rfl) my1 (Nat.lt_succ_self _) ⟨i1 + 1, (), by omega, gx1, rfl, rfl⟩
    · have gx1 := M.for_end gx1 hb1
      subst gx1
      refine Run_exit (k' := _) rfl ?_
      exact Run_fall [] (by kernel_rfl) ⟨(), rfl, rfl, rfl⟩

set_option maxRecDepth 100000 in
set_option maxHeartbeats 4000000 in
theorem w_slices_ContainsFunc_row_F_impl_IsMatrix_1 (h : Heap) (s_ : List (List Int)) {Ss_ : Bs} (as_ : Option Addr) (cs_ : Nat) (rs_ : Rd cd23 h Ss_ as_ cs_ s_) (f0 : List (List Int)) {Sf0 : Bs} (af0 : Option Addr) (cf0 : Nat) (rf0 : Rd cd23 h Sf0 af0 cf0 f0) (bf0 : Nat) (vf0 : VarAt h bf0 22 [.slice af0 f0.length cf0]) (n : Nat) (r : Bool) (hF : slices_ContainsFunc_row_F_impl_IsMatrix_1 s_ f0 n = some r) :
    Fn Try.prog 135 #[.slice as_ s_.length cs_, .func (.func 136) #[] #[.pointer (some ⟨bf0, 0, none⟩)]] h fun v h' => v = .bool r ∧ h' = h := by
  unfold slices_ContainsFunc_row_F_impl_IsMatrix_1 at hF
  refine Fn_enter (args := [.slice as_ s_.length cs_, .func (.func 136) #[] #[.pointer (some ⟨bf0, 0, none⟩)]]) Try.func135 rfl (by kernel_rfl) (by kernel_rfl) (fun w0 _ => ?_)
  refine Run_seq ?_
  refine Run_reg 1 (by kernel_rfl) (L' := [(0, .slice as_ s_.length cs_), (1, .func (.func 136) #[] #[.pointer (some ⟨bf0, 0, none⟩)])]) ?_ ?_
  · refine QRun_b [.bool false] 0 _ (by kernel_rfl) (fun w => by kernel_rfl) ?_
    exact QRun_done [0, 1] (by kernel_rfl) (by kernel_rfl)
  refine Run_seq ?_
  obtain ⟨x1, hx1, hF⟩ := M.bind_some hF
  refine Run_reg 5 (by kernel_rfl) (L' := [(4, .bool (decide (0 ≤ x1)))]) ?_ ?_
  · refine QRun_b [.slice as_ s_.length cs_, .func (.func 136) #[] #[.pointer (some ⟨bf0, 0, none⟩)]] 0 _ (by kernel_rfl) (fun w => by kernel_rfl) ?_
    refine QRun_y (.int .i64 x1) (by kernel_rfl) (Y_callq (f := 154) (args := #[.slice as_ s_.length cs_, .func (.func 136) #[] #[.pointer (some ⟨bf0, 0, none⟩)]]) (v := .int .i64 x1) (by kernel_rfl) (w_slices_IndexFunc_row_F_impl_IsMatrix_1 h s_ as_ cs_ rs_ f0 af0 cf0 rf0 bf0 vf0 _ _ hx1)) ?_
    refine QRun_b [.bool (decide (0 ≤ x1)), .bool (decide (0 ≤ x1))] 3 _ (by kernel_rfl) (fun w => by kernel_rfl) ?_
    exact QRun_done [4] (by kernel_rfl) (by kernel_rfl)
  have hF := M.ret_some hF
  subst hF
  exact Run_ret1 rfl (ResV_tmp (v := .bool (decide (0 ≤ x1))) (by kernel_rfl)) ⟨rfl, rfl⟩

set_option maxRecDepth 100000 in
set_option maxHeartbeats 4000000 in
theorem w_impl_IsMatrix (h : Heap) (a_ : List (List Int)) (aa_ : Option Addr) (ca_ : Nat) (ra_ : Rd cd23 h (Lt h) aa_ ca_ a_) (n : Nat) (r : Bool) (hF : impl_IsMatrix a_ n = some r) :
    Fn Try.prog 82 #[.slice aa_ a_.length ca_] h fun v h' => v = .bool r ∧ Hold h h' [] := by
  unfold impl_IsMatrix at hF
  refine Fn_enter (args := [.slice aa_ a_.length ca_]) Try.func82 rfl (by kernel_rfl) (by kernel_rfl) (fun w0 _ => ?_)
  have H0 := Hold.init h
  refine Run_seq ?_
  refine Run_ops ?_
  refine Run_E (by kernel_rfl) ?_
  refine E_box (ty := 22) (cs := [.slice aa_ a_.length ca_]) H0 (fun w => by kernel_rfl) (fun b1 h1 H1 => ?_)
  refine Run_b [.bool false] 1 _ (by kernel_rfl) (fun w => by kernel_rfl) ?_
  refine Run_nil (by kernel_rfl) ?_
  refine Run_keep [1] (L' := [(1, .pointer (some ⟨b1, 0, none⟩))]) (by kernel_rfl) ?_
  refine Run_seq ?_
  refine Run_seq ?_
  obtain ⟨x1, hx1, hF⟩ := M.bind_some hF
  obtain ⟨x2, gx2, hF⟩ := M.bind_some hF
  refine Run_reg 12 (by kernel_rfl) (L' := [(1, .pointer (some ⟨b1, 0, none⟩)), (14, .bool x2)]) ?_ ?_
  · refine QRun_y (.slice aa_ a_.length ca_) (by kernel_rfl) (Y_load1 (t := 22) (p := ⟨b1, 0, none⟩) (v := .slice aa_ a_.length ca_) (by kernel_rfl) (fun w => by kernel_rfl) (H1.cell 0 rfl rfl)) ?_
    refine QRun_b [.int .i64 (a_.length : Int)] 1 _ (by kernel_rfl) (fun w => by kernel_rfl) ?_
    refine QRun_y (.bool x1) (by kernel_rfl) (Y_callq (f := 69) (args := #[.int .i64 (a_.length : Int), .int .i64 1, .int .i64 10]) (v := .bool x1) (by kernel_rfl) (w_impl_within h1 (a_.length : Int) 1 10 _ _ hx1)) ?_
    refine QRun_b [.bool (!x1)] 3 _ (by kernel_rfl) (fun w => by kernel_rfl) ?_
    refine QRun_seq 12 [(1, .pointer (some ⟨b1, 0, none⟩)), (14, .bool x2)] ?_ ?_
    · rcases Bool.eq_false_or_eq_true (!x1) with hb1 | hb1
      · refine QRun_bool (!x1) true (by kernel_rfl) (fun w => by kernel_rfl) hb1 ?_
        have gx2 := M.ret_some ((M.ite_some gx2).1 hb1)
        refine QRun_n (by kernel_rfl) ?_
        refine QRun_n (by kernel_rfl) ?_
        refine QRun_n (by kernel_rfl) ?_
        refine QRun_n (by kernel_rfl) ?_
        refine QRun_n (by kernel_rfl) ?_
        refine QRun_n (by kernel_rfl) ?_
        refine QRun_bool true x2 (by kernel_rfl) (fun w => by kernel_rfl) gx2 ?_
        exact QRun_done [1, 14] (by kernel_rfl) (by kernel_rfl)
      · refine QRun_bool (!x1) false (by kernel_rfl) (fun w => by kernel_rfl) hb1 ?_
        have gx2 := (M.ite_some gx2).2 hb1
        obtain ⟨x3, hx2, gx2⟩ := M.bind_some gx2
        obtain ⟨hx2l, hx2u, hx2⟩ := M.idx_some hx2
        obtain ⟨a1, c1, hc1, r1⟩ := ra_.row hx2
        obtain ⟨x4, hx3, gx2⟩ := M.bind_some gx2
        have gx2 := M.ret_some gx2
        refine QRun_y (.slice aa_ a_.length ca_) (by kernel_rfl) (Y_load1 (t := 22) (p := ⟨b1, 0, none⟩) (v := .slice aa_ a_.length ca_) (by kernel_rfl) (fun w => by kernel_rfl) (H1.cell 0 rfl rfl)) ?_
        refine QRun_y (.pointer (some (adr aa_ (0 * 1)))) (by kernel_rfl) (Y_idx (t := 22) (e := 23) (sz := 1) (a := aa_) (n := a_.length) (cap := ca_) (kk := .i64) (i := 0) (by kernel_rfl) Try.underlying22 (by kernel_rfl) ((ra_.at H1.ext).cell hx2).1 hx2l hx2u) ?_
        refine QRun_y (.slice a1 x3.length c1) (by kernel_rfl) (Y_load1 (t := 23) (p := adr aa_ (0 * 1)) (v := .slice a1 x3.length c1) (by kernel_rfl) (fun w => by kernel_rfl) (cell_at H1.ext hc1)) ?_
        refine QRun_b [.int .i64 (x3.length : Int)] 8 _ (by kernel_rfl) (fun w => by kernel_rfl) ?_
        refine QRun_y (.bool x4) (by kernel_rfl) (Y_callq (f := 69) (args := #[.int .i64 (x3.length : Int), .int .i64 1, .int .i64 10]) (v := .bool x4) (by kernel_rfl) (w_impl_within h1 (x3.length : Int) 1 10 _ _ hx3)) ?_
        refine QRun_b [.bool (!x4)] 10 _ (by kernel_rfl) (fun w => by kernel_rfl) ?_
        refine QRun_bool (!x4) x2 (by kernel_rfl) (fun w => by kernel_rfl) gx2 ?_
        exact QRun_done [1, 14] (by kernel_rfl) (by kernel_rfl)
    exact QRun_done [1, 14] (by kernel_rfl) (by kernel_rfl)
  refine Run_cond (b := x2) (by kernel_rfl) (fun hb2 => ?_) (fun hb2 => ?_)
  · have hF := (M.ite_some hF).1 hb2
    refine Run_seq ?_
    refine Run_reg 1 (by kernel_rfl) (L' := [(2, .bool false)]) ?_ ?_
    · refine QRun_b [.bool false] 0 _ (by kernel_rfl) (fun w => by kernel_rfl) ?_
      exact QRun_done [2] (by kernel_rfl) (by kernel_rfl)
    have hF := M.ret_some hF
    subst hF
    have H2 : Hold h h1 [] := H1.pick [] (by kernel_rfl)
    exact Run_ret1 rfl (ResV_tmp (v := .bool false) (by kernel_rfl)) ⟨rfl, H2⟩
  · have hF := (M.ite_some hF).2 hb2
    refine Run_skip ?_
    refine Run_seq ?_
    obtain ⟨x5, hx4, hF⟩ := M.bind_some hF
    refine Run_reg 5 (by kernel_rfl) (L' := [(2, .bool (!x5))]) ?_ ?_
    · refine QRun_y (.slice aa_ a_.length ca_) (by kernel_rfl) (Y_load1 (t := 22) (p := ⟨b1, 0, none⟩) (v := .slice aa_ a_.length ca_) (by kernel_rfl) (fun w => by kernel_rfl) (H1.cell 0 rfl rfl)) ?_
      refine QRun_b [.func (.func 136) #[] #[.pointer (some ⟨b1, 0, none⟩)]] 1 _ (by kernel_rfl) (fun w => by kernel_rfl) ?_
      refine QRun_y (.bool x5) (by kernel_rfl) (Y_callq (f := 135) (args := #[.slice aa_ a_.length ca_, .func (.func 136) #[] #[.pointer (some ⟨b1, 0, none⟩)]]) (v := .bool x5) (by kernel_rfl) (w_slices_ContainsFunc_row_F_impl_IsMatrix_1 h1 a_ aa_ ca_ (ra_.at H1.ext) a_ aa_ ca_ (ra_.at H1.ext) b1 (H1.var 0 rfl) _ _ hx4)) ?_
      refine QRun_b [.bool (!x5), .bool (!x5)] 3 _ (by kernel_rfl) (fun w => by kernel_rfl) ?_
      exact QRun_done [2] (by kernel_rfl) (by kernel_rfl)
    have hF := M.ret_some hF
    subst hF
    have H3 : Hold h h1 [] := H1.pick [] (by kernel_rfl)
    exact Run_ret1 rfl (ResV_tmp (v := .bool (!x5)) (by kernel_rfl)) ⟨rfl, H3⟩

set_option maxRecDepth 100000 in
set_option maxHeartbeats 4000000 in
theorem w_impl_isSquare (h : Heap) (a_ : List (List Int)) (aa_ : Option Addr) (ca_ : Nat) (ra_ : Rd cd23 h (Lt h) aa_ ca_ a_) (n : Nat) (r : Bool) (hF : impl_isSquare a_ n = some r) :
    Fn Try.prog 68 #[.slice aa_ a_.length ca_] h fun v h' => v = .bool r ∧ Hold h h' [] := by
  unfold impl_isSquare at hF
  refine Fn_enter (args := [.slice aa_ a_.length ca_]) Try.func68 rfl (by kernel_rfl) (by kernel_rfl) (fun w0 _ => ?_)
  have H0 := Hold.init h
  refine Run_seq ?_
  refine Run_reg 1 (by kernel_rfl) (L' := [(0, .slice aa_ a_.length ca_)]) ?_ ?_
  · refine QRun_b [.bool false] 0 _ (by kernel_rfl) (fun w => by kernel_rfl) ?_
    exact QRun_done [0] (by kernel_rfl) (by kernel_rfl)
  refine Run_seq ?_
  obtain ⟨x1, hx1, hF⟩ := M.bind_some hF
  obtain ⟨x2, gx2, hF⟩ := M.bind_some hF
  refine Run_regC (j := 12) (C := fun x => Hold h x []) (by kernel_rfl) H0 (L' := [(2, .bool x2)]) ?_ (fun h1 H1 => ?_)
  · refine QRun_b [.slice aa_ a_.length ca_] 0 _ (by kernel_rfl) (fun w => by kernel_rfl) ?_
    refine QRun_y (.bool x1) (by kernel_rfl) (Y_call (f := 82) (args := #[.slice aa_ a_.length ca_]) (v := .bool x1) (by kernel_rfl) fun hx Hx => (w_impl_IsMatrix hx a_ aa_ ca_ (ra_.at Hx.ext) _ _ hx1).mono fun _ _ ⟨e, H'⟩ => ⟨e, Hx.call H' rfl⟩) ?_
    refine QRun_seq 11 [(13, .bool x2)] ?_ ?_
    · rcases Bool.eq_false_or_eq_true x1 with hb1 | hb1
      · refine QRun_bool x1 true (by kernel_rfl) (fun w => by kernel_rfl) hb1 ?_
        have gx2 := (M.ite_some gx2).1 hb1
        obtain ⟨x3, hx2, gx2⟩ := M.bind_some gx2
        obtain ⟨hx2l, hx2u, hx2⟩ := M.idx_some hx2
        obtain ⟨a1, c1, hc1, r1⟩ := ra_.row hx2
        have gx2 := M.ret_some gx2
        refine QRun_b [.slice aa_ a_.length ca_, .int .i64 (a_.length : Int), .slice aa_ a_.length ca_] 3 _ (by kernel_rfl) (fun w => by kernel_rfl) ?_
        refine QRun_y (.pointer (some (adr aa_ (0 * 1)))) (by kernel_rfl) (Y_cls fun hx Hx => (Y_idx (t := 22) (e := 23) (sz := 1) (a := aa_) (n := a_.length) (cap := ca_) (kk := .i64) (i := 0) (by kernel_rfl) Try.underlying22 (by kernel_rfl) (ra_.cell hx2).1 hx2l hx2u)) ?_
        refine QRun_y (.slice a1 x3.length c1) (by kernel_rfl) (Y_cls fun hx Hx => (Y_load1 (t := 23) (p := adr aa_ (0 * 1)) (v := .slice a1 x3.length c1) (by kernel_rfl) (fun w => by kernel_rfl) (cell_at Hx.ext hc1))) ?_
        refine QRun_b [.int .i64 (x3.length : Int), .bool ((a_.length : Int) == (x3.length : Int))] 8 _ (by kernel_rfl) (fun w => by kernel_rfl) ?_
        refine QRun_bool ((a_.length : Int) == (x3.length : Int)) x2 (by kernel_rfl) (fun w => by kernel_rfl) gx2 ?_
        exact QRun_done [13] (by kernel_rfl) (by kernel_rfl)
      · refine QRun_bool x1 false (by kernel_rfl) (fun w => by kernel_rfl) hb1 ?_
        have gx2 := M.ret_some ((M.ite_some gx2).2 hb1)
        refine QRun_n (by kernel_rfl) ?_
        refine QRun_n (by kernel_rfl) ?_
        refine QRun_n (by kernel_rfl) ?_
        refine QRun_n (by kernel_rfl) ?_
        refine QRun_n (by kernel_rfl) ?_
        refine QRun_n (by kernel_rfl) ?_
        refine QRun_n (by kernel_rfl) ?_
        refine QRun_bool false x2 (by kernel_rfl) (fun w => by kernel_rfl) gx2 ?_
        exact QRun_done [13] (by kernel_rfl) (by kernel_rfl)
    refine QRun_b [.bool x2] 11 _ (by kernel_rfl) (fun w => by kernel_rfl) ?_
    exact QRun_done [2] (by kernel_rfl) (by kernel_rfl)
  have H2 : Hold h h1 [] := H1
  have hF := M.ret_some hF
  subst hF
  exact Run_ret1 rfl (ResV_tmp (v := .bool x2) (by kernel_rfl)) ⟨rfl, H2⟩

set_option maxRecDepth 100000 in
set_option maxHeartbeats 4000000 in
theorem w_impl_isVector (h : Heap) (x_ : List Int) {Sx_ : Bs} (ax_ : Option Addr) (cx_ : Nat) (rx_ : Rd cd2 h Sx_ ax_ cx_ x_) (n : Nat) (r : Bool) (hF : impl_isVector x_ n = some r) :
    Fn Try.prog 91 #[.slice ax_ x_.length cx_] h fun v h' => v = .bool r ∧ h' = h := by
  unfold impl_isVector at hF
  refine Fn_enter (args := [.slice ax_ x_.length cx_]) Try.func91 rfl (by kernel_rfl) (by kernel_rfl) (fun w0 _ => ?_)
  refine Run_seq ?_
  refine Run_reg 1 (by kernel_rfl) (L' := [(0, .slice ax_ x_.length cx_)]) ?_ ?_
  · refine QRun_b [.bool false] 0 _ (by kernel_rfl) (fun w => by kernel_rfl) ?_
    exact QRun_done [0] (by kernel_rfl) (by kernel_rfl)
  refine Run_seq ?_
  obtain ⟨x1, hx1, hF⟩ := M.bind_some hF
  obtain ⟨x2, gx2, hF⟩ := M.bind_some hF
  refine Run_reg 8 (by kernel_rfl) (L' := [(2, .bool x2)]) ?_ ?_
  · refine QRun_b [.slice ax_ x_.length cx_, .int .i64 (x_.length : Int)] 0 _ (by kernel_rfl) (fun w => by kernel_rfl) ?_
    refine QRun_y (.bool x1) (by kernel_rfl) (Y_callq (f := 69) (args := #[.int .i64 (x_.length : Int), .int .i64 1, .int .i64 10]) (v := .bool x1) (by kernel_rfl) (w_impl_within h (x_.length : Int) 1 10 _ _ hx1)) ?_
    refine QRun_seq 7 [(9, .bool x2)] ?_ ?_
    · rcases Bool.eq_false_or_eq_true x1 with hb1 | hb1
      · refine QRun_bool x1 true (by kernel_rfl) (fun w => by kernel_rfl) hb1 ?_
        have gx2 := (M.ite_some gx2).1 hb1
        obtain ⟨x3, hx2, gx2⟩ := M.bind_some gx2
        have gx2 := M.ret_some gx2
        refine QRun_b [.slice ax_ x_.length cx_] 4 _ (by kernel_rfl) (fun w => by kernel_rfl) ?_
        refine QRun_y (.bool x3) (by kernel_rfl) (Y_callq (f := 102) (args := #[.slice ax_ x_.length cx_]) (v := .bool x3) (by kernel_rfl) (w_impl_areValues h x_ ax_ cx_ rx_ _ _ hx2)) ?_
        refine QRun_bool x3 x2 (by kernel_rfl) (fun w => by kernel_rfl) gx2 ?_
        exact QRun_done [9] (by kernel_rfl) (by kernel_rfl)
      · refine QRun_bool x1 false (by kernel_rfl) (fun w => by kernel_rfl) hb1 ?_
        have gx2 := M.ret_some ((M.ite_some gx2).2 hb1)
        refine QRun_n (by kernel_rfl) ?_
        refine QRun_n (by kernel_rfl) ?_
        refine QRun_bool false x2 (by kernel_rfl) (fun w => by kernel_rfl) gx2 ?_
        exact QRun_done [9] (by kernel_rfl) (by kernel_rfl)
    refine QRun_b [.bool x2] 7 _ (by kernel_rfl) (fun w => by kernel_rfl) ?_
    exact QRun_done [2] (by kernel_rfl) (by kernel_rfl)
  have hF := M.ret_some hF
  subst hF
  exact Run_ret1 rfl (ResV_tmp (v := .bool x2) (by kernel_rfl)) ⟨rfl, rfl⟩

set_option maxRecDepth 100000 in
set_option maxHeartbeats 4000000 in
theorem w_impl_checkOrbit (h : Heap) (a_ : List (List Int)) (aa_ : Option Addr) (ca_ : Nat) (ra_ : Rd cd23 h (Lt h) aa_ ca_ a_) (x_ : List Int) (ax_ : Option Addr) (cx_ : Nat) (rx_ : Rd cd2 h (Lt h) ax_ cx_ x_) (n : Nat) (r : Int) (hF : impl_checkOrbit a_ x_ n = some r) :
    Fn Try.prog 59 #[.slice aa_ a_.length ca_, .slice ax_ x_.length cx_] h fun v h' => v = .int .i64 r ∧ Hold h h' [] := by
  unfold impl_checkOrbit at hF
  refine Fn_enter (args := [.slice aa_ a_.length ca_, .slice ax_ x_.length cx_]) Try.func59 rfl (by kernel_rfl) (by kernel_rfl) (fun w0 _ => ?_)
  have H0 := Hold.init h
  refine Run_seq ?_
  refine Run_reg 1 (by kernel_rfl) (L' := [(0, .slice aa_ a_.length ca_), (1, .slice ax_ x_.length cx_)]) ?_ ?_
  · refine QRun_b [.int .i64 0] 0 _ (by kernel_rfl) (fun w => by kernel_rfl) ?_
    exact QRun_done [0, 1] (by kernel_rfl) (by kernel_rfl)
  refine Run_seq ?_
  refine Run_block ?_
  refine Run_seq ?_
  obtain ⟨x1, hx1, hF⟩ := M.bind_some hF
  obtain ⟨x2, gx2, hF⟩ := M.bind_some hF
  refine Run_regC (j := 9) (C := fun x => Hold h x []) (by kernel_rfl) H0 (L' := [(0, .slice aa_ a_.length ca_), (1, .slice ax_ x_.length cx_), (5, .bool x2)]) ?_ (fun h1 H1 => ?_)
  · refine QRun_b [.slice aa_ a_.length ca_] 0 _ (by kernel_rfl) (fun w => by kernel_rfl) ?_
    refine QRun_y (.bool x1) (by kernel_rfl) (Y_call (f := 68) (args := #[.slice aa_ a_.length ca_]) (v := .bool x1) (by kernel_rfl) fun hx Hx => (w_impl_isSquare hx a_ aa_ ca_ (ra_.at Hx.ext) _ _ hx1).mono fun _ _ ⟨e, H'⟩ => ⟨e, Hx.call H' rfl⟩) ?_
    refine QRun_b [.bool (!x1)] 2 _ (by kernel_rfl) (fun w => by kernel_rfl) ?_
    refine QRun_seq 8 [(0, .slice aa_ a_.length ca_), (1, .slice ax_ x_.length cx_), (13, .bool x2)] ?_ ?_
    · rcases Bool.eq_false_or_eq_true (!x1) with hb1 | hb1
      · refine QRun_bool (!x1) true (by kernel_rfl) (fun w => by kernel_rfl) hb1 ?_
        have gx2 := M.ret_some ((M.ite_some gx2).1 hb1)
        refine QRun_n (by kernel_rfl) ?_
        refine QRun_n (by kernel_rfl) ?_
        refine QRun_n (by kernel_rfl) ?_
        refine QRun_bool true x2 (by kernel_rfl) (fun w => by kernel_rfl) gx2 ?_
        exact QRun_done [0, 1, 13] (by kernel_rfl) (by kernel_rfl)
      · refine QRun_bool (!x1) false (by kernel_rfl) (fun w => by kernel_rfl) hb1 ?_
        have gx2 := (M.ite_some gx2).2 hb1
        obtain ⟨x3, hx2, gx2⟩ := M.bind_some gx2
        have gx2 := M.ret_some gx2
        refine QRun_b [.slice ax_ x_.length cx_] 4 _ (by kernel_rfl) (fun w => by kernel_rfl) ?_
        refine QRun_y (.bool x3) (by kernel_rfl) (Y_cls fun hx Hx => (Y_callq (f := 91) (args := #[.slice ax_ x_.length cx_]) (v := .bool x3) (by kernel_rfl) (w_impl_isVector hx x_ ax_ cx_ (rx_.at Hx.ext) _ _ hx2))) ?_
        refine QRun_b [.bool (!x3)] 6 _ (by kernel_rfl) (fun w => by kernel_rfl) ?_
        refine QRun_bool (!x3) x2 (by kernel_rfl) (fun w => by kernel_rfl) gx2 ?_
        exact QRun_done [0, 1, 13] (by kernel_rfl) (by kernel_rfl)
    refine QRun_b [.bool x2] 8 _ (by kernel_rfl) (fun w => by kernel_rfl) ?_
    exact QRun_done [0, 1, 5] (by kernel_rfl) (by kernel_rfl)
  have H2 : Hold h h1 [] := H1
  refine Run_cond (b := x2) (by kernel_rfl) (fun hb2 => ?_) (fun hb2 => ?_)
  · have hF := (M.ite_some hF).1 hb2
    refine Run_seq ?_
    refine Run_reg 1 (by kernel_rfl) (L' := [(4, .int .i64 1)]) ?_ ?_
    · refine QRun_b [.int .i64 1] 0 _ (by kernel_rfl) (fun w => by kernel_rfl) ?_
      exact QRun_done [4] (by kernel_rfl) (by kernel_rfl)
    have hF := M.ret_some hF
    subst hF
    exact Run_ret1 rfl (ResV_tmp (v := .int .i64 1) (by kernel_rfl)) ⟨rfl, H2⟩
  · have hF := (M.ite_some hF).2 hb2
    refine Run_seq ?_
    refine Run_reg 6 (by kernel_rfl) (L' := [(14, .bool ((x_.length : Int) != (a_.length : Int)))]) ?_ ?_
    · refine QRun_b [.slice ax_ x_.length cx_, .int .i64 (x_.length : Int), .slice aa_ a_.length ca_, .int .i64 (a_.length : Int), .bool ((x_.length : Int) != (a_.length : Int)), .bool ((x_.length : Int) != (a_.length : Int))] 0 _ (by kernel_rfl) (fun w => by kernel_rfl) ?_
      exact QRun_done [14] (by kernel_rfl) (by kernel_rfl)
    refine Run_cond (b := (x_.length : Int) != (a_.length : Int)) (by kernel_rfl) (fun hb3 => ?_) (fun hb3 => ?_)
    · have hF := (M.ite_some hF).1 hb3
      refine Run_seq ?_
      refine Run_reg 1 (by kernel_rfl) (L' := [(4, .int .i64 5)]) ?_ ?_
      · refine QRun_b [.int .i64 5] 0 _ (by kernel_rfl) (fun w => by kernel_rfl) ?_
        exact QRun_done [4] (by kernel_rfl) (by kernel_rfl)
      have hF := M.ret_some hF
      subst hF
      exact Run_ret1 rfl (ResV_tmp (v := .int .i64 5) (by kernel_rfl)) ⟨rfl, H2⟩
    · have hF := (M.ite_some hF).2 hb3
      refine Run_skip ?_
      refine Run_blk ?_
      refine Run_seq ?_
      refine Run_reg 1 (by kernel_rfl) (L' := [(4, .int .i64 0)]) ?_ ?_
      · refine QRun_b [.int .i64 0] 0 _ (by kernel_rfl) (fun w => by kernel_rfl) ?_
        exact QRun_done [4] (by kernel_rfl) (by kernel_rfl)
      have hF := M.ret_some hF
      subst hF
      exact Run_ret1 rfl (ResV_tmp (v := .int .i64 0) (by kernel_rfl)) ⟨rfl, H2⟩

set_option maxRecDepth 100000 in
set_option maxHeartbeats 4000000 in
theorem w_impl_transposed_1 (h : Heap) (i : Int) (j : Int) (z0 : List (List Int)) {Sz0 : Bs} (az0 : Option Addr) (cz0 : Nat) (rz0 : Rd cd23 h Sz0 az0 cz0 z0) (bz0 : Nat) (vz0 : VarAt h bz0 22 [.slice az0 z0.length cz0]) (n : Nat) (r : Int) (hF : impl_transposed_1 i j z0 n = some r) :
    Fn Try.prog 142 #[.int .i64 i, .int .i64 j, .pointer (some ⟨bz0, 0, none⟩)] h fun v h' => v = .int .i64 r ∧ h' = h := by
  unfold impl_transposed_1 at hF
  refine Fn_enter (args := [.int .i64 i, .int .i64 j, .pointer (some ⟨bz0, 0, none⟩)]) Try.func142 rfl (by kernel_rfl) (by kernel_rfl) (fun w0 _ => ?_)
  refine Run_seq ?_
  refine Run_reg 1 (by kernel_rfl) (L' := [(0, .int .i64 i), (1, .int .i64 j), (2, .pointer (some ⟨bz0, 0, none⟩))]) ?_ ?_
  · refine QRun_b [.int .i64 0] 0 _ (by kernel_rfl) (fun w => by kernel_rfl) ?_
    exact QRun_done [0, 1, 2] (by kernel_rfl) (by kernel_rfl)
  refine Run_seq ?_
  obtain ⟨x1, hx1, hF⟩ := M.bind_some hF
  obtain ⟨hx1l, hx1u, hx1⟩ := M.idx_some hx1
  obtain ⟨a1, c1, hc1, r1⟩ := rz0.row hx1
  obtain ⟨x2, hx2, hF⟩ := M.bind_some hF
  obtain ⟨hx2l, hx2u, hx2⟩ := M.idx_some hx2
  refine Run_reg 8 (by kernel_rfl) (L' := [(5, .int .i64 x2)]) ?_ ?_
  · refine QRun_y (.slice az0 z0.length cz0) (by kernel_rfl) (Y_load1 (t := 22) (p := ⟨bz0, 0, none⟩) (v := .slice az0 z0.length cz0) (by kernel_rfl) (fun w => by kernel_rfl) (VarAt.cell vz0 rfl)) ?_
    refine QRun_b [.int .i64 j] 1 _ (by kernel_rfl) (fun w => by kernel_rfl) ?_
    refine QRun_y (.pointer (some (adr az0 (j.toNat * 1)))) (by kernel_rfl) (Y_idx (t := 22) (e := 23) (sz := 1) (a := az0) (n := z0.length) (cap := cz0) (kk := .i64) (i := j) (by kernel_rfl) Try.underlying22 (by kernel_rfl) (rz0.cell hx1).1 hx1l hx1u) ?_
    refine QRun_y (.slice a1 x1.length c1) (by kernel_rfl) (Y_load1 (t := 23) (p := adr az0 (j.toNat * 1)) (v := .slice a1 x1.length c1) (by kernel_rfl) (fun w => by kernel_rfl) hc1) ?_
    refine QRun_b [.int .i64 i] 4 _ (by kernel_rfl) (fun w => by kernel_rfl) ?_
    refine QRun_y (.pointer (some (adr a1 (i.toNat * 1)))) (by kernel_rfl) (Y_idx (t := 23) (e := 2) (sz := 1) (a := a1) (n := x1.length) (cap := c1) (kk := .i64) (i := i) (by kernel_rfl) Try.underlying23 (by kernel_rfl) (r1.cell hx2).1 hx2l hx2u) ?_
    refine QRun_y (.int .i64 x2) (by kernel_rfl) (Y_load1 (t := 2) (p := adr a1 (i.toNat * 1)) (v := .int .i64 x2) (by kernel_rfl) (fun w => by kernel_rfl) (cd2_cell r1 hx2)) ?_
    refine QRun_b [.int .i64 x2] 7 _ (by kernel_rfl) (fun w => by kernel_rfl) ?_
    exact QRun_done [5] (by kernel_rfl) (by kernel_rfl)
  have hF := M.ret_some hF
  subst hF
  exact Run_ret1 rfl (ResV_tmp (v := .int .i64 x2) (by kernel_rfl)) ⟨rfl, rfl⟩

set_option maxRecDepth 100000 in
set_option maxHeartbeats 4000000 in
theorem w_impl_matrixBy_F_impl_transposed_1 (h : Heap) (m_ : Int) (n_ : Int) (entry0 : List (List Int)) (aentry0 : Option Addr) (centry0 : Nat) (rentry0 : Rd cd23 h (Lt h) aentry0 centry0 entry0) (bentry0 : Nat) (ventry0 : VarAt h bentry0 22 [.slice aentry0 entry0.length centry0]) (n : Nat) (r : (List (List Int))) (hF : impl_matrixBy_F_impl_transposed_1 m_ n_ entry0 n = some r) :
    Fn Try.prog 137 #[.int .i64 m_, .int .i64 n_, .func (.func 142) #[] #[.pointer (some ⟨bentry0, 0, none⟩)]] h fun v h' => ∃ (a0 : Option Addr) (c0 : Nat), v = .slice a0 r.length c0 ∧ Hold h h' [own cd23 a0 r.length c0 r] := by
  unfold impl_matrixBy_F_impl_transposed_1 at hF
  refine Fn_enter (args := [.int .i64 m_, .int .i64 n_, .func (.func 142) #[] #[.pointer (some ⟨bentry0, 0, none⟩)]]) Try.func137 rfl (by kernel_rfl) (by kernel_rfl) (fun w0 _ => ?_)
  have H0 := Hold.init h
  refine Run_seq ?_
  refine Run_reg 1 (by kernel_rfl) (L' := [(0, .int .i64 m_), (1, .int .i64 n_), (2, .func (.func 142) #[] #[.pointer (some ⟨bentry0, 0, none⟩)])]) ?_ ?_
  · refine QRun_b [.slice none 0 0] 0 _ (by kernel_rfl) (fun w => by kernel_rfl) ?_
    exact QRun_done [0, 1, 2] (by kernel_rfl) (by kernel_rfl)
  refine Run_seq ?_
  refine Run_ops ?_
  refine Run_b [.int .i64 m_] 0 _ (by kernel_rfl) (fun w => by kernel_rfl) ?_
  obtain ⟨l1, hl1, hF⟩ := M.bind_some hF
  have hl1 := M.make_some hl1
  refine Run_E (by kernel_rfl) ?_
  refine E_make cd23 [] (kl := .i64) (kc := .i64) H0 cd23_ti Try.underlying22 (by decide) cd23_zero (by kernel_rfl) hl1 (fun a1 h1 H1 => ?_)
  refine Run_b [.slice a1 l1.length l1.length] 2 _ (by kernel_rfl) (fun w => by kernel_rfl) ?_
  refine Run_nil (by kernel_rfl) ?_
  refine Run_keep [1, 2, 7] (L' := [(1, .int .i64 n_), (2, .func (.func 142) #[] #[.pointer (some ⟨bentry0, 0, none⟩)]), (7, .slice a1 l1.length l1.length)]) (by kernel_rfl) ?_
  refine Run_seq ?_
  refine Run_seq ?_
  refine Run_reg 3 (by kernel_rfl) (L' := [(1, .int .i64 n_), (2, .func (.func 142) #[] #[.pointer (some ⟨bentry0, 0, none⟩)]), (7, .slice a1 l1.length l1.length), (13, .int .i64 (l1.length : Int)), (14, .int .i64 0)]) ?_ ?_
  · refine QRun_b [.slice a1 l1.length l1.length, .int .i64 (l1.length : Int), .int .i64 0] 0 _ (by kernel_rfl) (fun w => by kernel_rfl) ?_
    exact QRun_done [1, 2, 7, 13, 14] (by kernel_rfl) (by kernel_rfl)
  obtain ⟨x1, gx1, hF⟩ := M.bind_some hF
  obtain ⟨hloy1, hhiy1, gx1⟩ := M.for_start gx1
  refine Run_join (fun L' h' => L' = [(7, .slice a1 l1.length l1.length)] ∧ Hold h h' [own cd23 a1 l1.length l1.length x1]) ?_ ?_
  · rintro _ h3 ⟨rfl, H3⟩
    refine Run_seq ?_
    refine Run_reg 2 (by kernel_rfl) (L' := [(6, .slice a1 l1.length l1.length)]) ?_ ?_
    · refine QRun_b [.slice a1 l1.length l1.length, .slice a1 l1.length l1.length] 0 _ (by kernel_rfl) (fun w => by kernel_rfl) ?_
      exact QRun_done [6] (by kernel_rfl) (by kernel_rfl)
    have hF := M.ret_some hF
    subst hF
    have H20 := H3.norm
    exact Run_ret1 rfl (ResV_tmp (v := .slice a1 l1.length l1.length) (by kernel_rfl)) ⟨a1, l1.length, (by simp only [(H3.len 0 rfl)]), H20⟩
  · refine Run_block ?_
    refine Run_keep [1, 2, 7, 13, 14] (L' := [(1, .int .i64 n_), (2, .func (.func 142) #[] #[.pointer (some ⟨bentry0, 0, none⟩)]), (7, .slice a1 l1.length l1.length), (13, .int .i64 (l1.length : Int)), (14, .int .i64 0)]) (by kernel_rfl) ?_
    refine Run_loop (fun m L' h' => ∃ (i1 : Int) (s1 : (List (List Int))), 0 ≤ i1 ∧ M.forN (l1.length : Int) _ _ n m i1 s1 = some x1 ∧ L' = [(1, .int .i64 n_), (2, .func (.func 142) #[] #[.pointer (some ⟨bentry0, 0, none⟩)]), (7, .slice a1 l1.length l1.length), (13, .int .i64 (l1.length : Int)), (14, .int .i64 i1)] ∧ Hold h h' [own cd23 a1 l1.length l1.length s1]) ((l1.length : Int) - 0 : Int).toNat ⟨0, l1, Int.le_refl _, gx1, rfl, H1⟩ ?_
    rintro my1 _ h2 ⟨i1, s1, hloy1', gx1, rfl, H2⟩
    refine Run_seq ?_
    refine Run_reg 1 (by kernel_rfl) (L' := [(1, .int .i64 n_), (2, .func (.func 142) #[] #[.pointer (some ⟨bentry0, 0, none⟩)]), (7, .slice a1 l1.length l1.length), (13, .int .i64 (l1.length : Int)), (14, .int .i64 i1), (15, .bool (decide (i1 < (l1.length : Int))))]) ?_ ?_
    · refine QRun_b [.bool (decide (i1 < (l1.length : Int)))] 0 _ (by kernel_rfl) (fun w => by kernel_rfl) ?_
      exact QRun_done [1, 2, 7, 13, 14, 15] (by kernel_rfl) (by kernel_rfl)
    refine Run_seq ?_
    refine Run_cond (b := decide (i1 < (l1.length : Int))) (by kernel_rfl) (fun hb1 => ?_) (fun hb1 => ?_)
    · obtain ⟨my1, y1, rfl, hB1, hgoy1, houty1⟩ := M.for_go gx1 hb1
      have hlty1 := of_decide_eq_true hb1
      refine Run_skip ?_
      refine Run_seq ?_
      refine Run_block ?_
      refine Run_seq ?_
      refine Run_reg 2 (by kernel_rfl) (L' := [(1, .int .i64 n_), (2, .func (.func 142) #[] #[.pointer (some ⟨bentry0, 0, none⟩)]), (7, .slice a1 l1.length l1.length), (8, .int .i64 i1), (13, .int .i64 (l1.length : Int)), (14, .int .i64 i1)]) ?_ ?_
      · refine QRun_b [.int .i64 i1, .int .i64 i1] 0 _ (by kernel_rfl) (fun w => by kernel_rfl) ?_
        exact QRun_done [1, 2, 7, 8, 13, 14] (by kernel_rfl) (by kernel_rfl)
      refine Run_seq ?_
      refine Run_ops ?_
      refine Run_b [.slice a1 l1.length l1.length, .int .i64 i1, .int .i64 n_] 0 _ (by kernel_rfl) (fun w => by kernel_rfl) ?_
      obtain ⟨l2, hl2, hB1⟩ := M.bind_some hB1
      have hl2 := M.make_some hl2
      refine Run_E (by kernel_rfl) ?_
      refine E_make cd2 0 (kl := .i64) (kc := .i64) H2 cd2_ti Try.underlying23 (by decide) cd2_zero (by kernel_rfl) hl2 (fun a2 h4 H4 => ?_)
      obtain ⟨x2, hx1, hB1⟩ := M.bind_some hB1
      obtain ⟨hx1l, hx1u, hx1⟩ := M.idx_some hx1
      refine Run_y (.pointer (some (adr a1 (i1.toNat * 1)))) (by kernel_rfl) (Y_idx (t := 22) (e := 23) (sz := 1) (a := a1) (n := l1.length) (cap := l1.length) (kk := .i64) (i := i1) (by kernel_rfl) Try.underlying22 (by kernel_rfl) ((H4.rd 1 rfl).cell hx1).1 hx1l (by rw [← (H4.len 1 rfl)]; exact hx1u)) ?_
      obtain ⟨l3, hu1, hB1⟩ := M.bind_some hB1
      have hu1 := M.upd_some hu1
      have H6 : Hold h h4 [own cd23 a1 l1.length l1.length s1, own cd2 a2 l2.length l2.length l2] := H4.pick [1, 0] (by kernel_rfl)
      have H7 : Hold h h4 [own cd2 a2 l2.length l2.length l2, own cd23 a1 l1.length l1.length s1] := H6.pick [1, 0] (by kernel_rfl)
      have H8 : Hold h h4 [own cd23 a1 l1.length l1.length s1, own cd2 a2 l2.length l2.length l2] := H7.pick [1, 0] (by kernel_rfl)
      refine Run_E (by kernel_rfl) ?_
      refine E_putRow (t := 23) (j := i1) H8 (by kernel_rfl) (by kernel_rfl) hu1 (fun h5 H5 => ?_)
      refine Run_nil (by kernel_rfl) ?_
      refine Run_keep [1, 2, 7, 8, 13, 14] (L' := [(1, .int .i64 n_), (2, .func (.func 142) #[] #[.pointer (some ⟨bentry0, 0, none⟩)]), (7, .slice a1 l1.length l1.length), (8, .int .i64 i1), (13, .int .i64 (l1.length : Int)), (14, .int .i64 i1)]) (by kernel_rfl) ?_
      refine Run_seq ?_
      obtain ⟨x3, hx2, hB1⟩ := M.bind_some hB1
      obtain ⟨hx2l, hx2u, hx2⟩ := M.idx_some hx2
      have H9 := H5.toRows
      obtain ⟨a3, c1, H10⟩ := H9.pinRow hx2
      refine Run_reg 6 (by kernel_rfl) (L' := [(1, .int .i64 n_), (2, .func (.func 142) #[] #[.pointer (some ⟨bentry0, 0, none⟩)]), (7, .slice a1 l1.length l1.length), (8, .int .i64 i1), (13, .int .i64 (l1.length : Int)), (14, .int .i64 i1), (26, .int .i64 (x3.length : Int)), (27, .int .i64 0)]) ?_ ?_
      · refine QRun_b [.slice a1 l1.length l1.length, .int .i64 i1] 0 _ (by kernel_rfl) (fun w => by kernel_rfl) ?_
        refine QRun_y (.pointer (some (adr a1 (i1.toNat * 1)))) (by kernel_rfl) (Y_idx (t := 22) (e := 23) (sz := 1) (a := a1) (n := l1.length) (cap := l1.length) (kk := .i64) (i := i1) (by kernel_rfl) Try.underlying22 (by kernel_rfl) ((H5.rd 0 rfl).cell hx2).1 hx2l (by rw [← (H5.len 0 rfl)]; exact hx2u)) ?_
        refine QRun_y (.slice a3 x3.length c1) (by kernel_rfl) (Y_load1 (t := 23) (p := adr a1 (i1.toNat * 1)) (v := .slice a3 x3.length c1) (by kernel_rfl) (fun w => by kernel_rfl) (H10.cellPin 0 rfl 0 rfl)) ?_
        refine QRun_b [.int .i64 (x3.length : Int), .int .i64 0] 4 _ (by kernel_rfl) (fun w => by kernel_rfl) ?_
        exact QRun_done [1, 2, 7, 8, 13, 14, 26, 27] (by kernel_rfl) (by kernel_rfl)
      obtain ⟨x4, gx4, hB1⟩ := M.bind_some hB1
      obtain ⟨hloy2, hhiy2, gx4⟩ := M.for_start gx4
      refine Run_join (fun L' h' => L' = [(1, .int .i64 n_), (2, .func (.func 142) #[] #[.pointer (some ⟨bentry0, 0, none⟩)]), (7, .slice a1 l1.length l1.length), (13, .int .i64 (l1.length : Int)), (14, .int .i64 i1)] ∧ Hold h h' [own cd23 a1 l1.length l1.length x4]) ?_ ?_
      · rintro _ h7 ⟨rfl, H12⟩
        refine Run_blk ?_
        refine Run_reg 2 (by kernel_rfl) (L' := [(1, .int .i64 n_), (2, .func (.func 142) #[] #[.pointer (some ⟨bentry0, 0, none⟩)]), (7, .slice a1 l1.length l1.length), (13, .int .i64 (l1.length : Int)), (14, .int .i64 (i1 + 1))]) ?_ ?_
        · refine QRun_y (.int .i64 (i1 + 1)) (by kernel_rfl) (Y_eq (v := .int .i64 (w64 (i1 + 1))) (Y_pure (fun w => by kernel_rfl)) (by rw [w64_eq _ (by omega)])) ?_
          refine QRun_b [.int .i64 (i1 + 1)] 1 _ (by kernel_rfl) (fun w => by kernel_rfl) ?_
          exact QRun_done [1, 2, 7, 13, 14] (by kernel_rfl) (by kernel_rfl)
        have hB1 := M.ret_some hB1
        have gx1 := hgoy1 _ hB1.symm
        exact Run_again [1, 2, 7, 13, 14] (by kernel_rfl) my1 (Nat.lt_succ_self _) ⟨i1 + 1, x4, by omega, gx1, rfl, H12⟩
      · refine Run_block ?_
        have H19 := H10.ofRows
        refine Run_keep [1, 2, 7, 8, 13, 14, 26, 27] (L' := [(1, .int .i64 n_), (2, .func (.func 142) #[] #[.pointer (some ⟨bentry0, 0, none⟩)]), (7, .slice a1 l1.length l1.length), (8, .int .i64 i1), (13, .int .i64 (l1.length : Int)), (14, .int .i64 i1), (26, .int .i64 (x3.length : Int)), (27, .int .i64 0)]) (by kernel_rfl) ?_
        refine Run_loop (fun m L' h' => ∃ (i2 : Int) (s2 : (List (List Int))), 0 ≤ i2 ∧ M.forN (x3.length : Int) _ _ n m i2 s2 = some x4 ∧ L' = [(1, .int .i64 n_), (2, .func (.func 142) #[] #[.pointer (some ⟨bentry0, 0, none⟩)]), (7, .slice a1 l1.length l1.length), (8, .int .i64 i1), (13, .int .i64 (l1.length : Int)), (14, .int .i64 i1), (26, .int .i64 (x3.length : Int)), (27, .int .i64 i2)] ∧ Hold h h' [own cd23 a1 l1.length l1.length s2]) ((x3.length : Int) - 0 : Int).toNat ⟨0, l3, Int.le_refl _, gx4, rfl, H19⟩ ?_
        rintro my2 _ h6 ⟨i2, s2, hloy2', gx4, rfl, H11⟩
        refine Run_seq ?_
        refine Run_reg 1 (by kernel_rfl) (L' := [(1, .int .i64 n_), (2, .func (.func 142) #[] #[.pointer (some ⟨bentry0, 0, none⟩)]), (7, .slice a1 l1.length l1.length), (8, .int .i64 i1), (13, .int .i64 (l1.length : Int)), (14, .int .i64 i1), (26, .int .i64 (x3.length : Int)), (27, .int .i64 i2), (28, .bool (decide (i2 < (x3.length : Int))))]) ?_ ?_
        · refine QRun_b [.bool (decide (i2 < (x3.length : Int)))] 0 _ (by kernel_rfl) (fun w => by kernel_rfl) ?_
          exact QRun_done [1, 2, 7, 8, 13, 14, 26, 27, 28] (by kernel_rfl) (by kernel_rfl)
        refine Run_seq ?_
        refine Run_cond (b := decide (i2 < (x3.length : Int))) (by kernel_rfl) (fun hb2 => ?_) (fun hb2 => ?_)
        · obtain ⟨my2, y2, rfl, hB2, hgoy2, houty2⟩ := M.for_go gx4 hb2
          have hlty2 := of_decide_eq_true hb2
          refine Run_skip ?_
          refine Run_seq ?_
          refine Run_block ?_
          refine Run_seq ?_
          refine Run_reg 2 (by kernel_rfl) (L' := [(1, .int .i64 n_), (2, .func (.func 142) #[] #[.pointer (some ⟨bentry0, 0, none⟩)]), (7, .slice a1 l1.length l1.length), (8, .int .i64 i1), (9, .int .i64 i2), (13, .int .i64 (l1.length : Int)), (14, .int .i64 i1), (26, .int .i64 (x3.length : Int)), (27, .int .i64 i2)]) ?_ ?_
          · refine QRun_b [.int .i64 i2, .int .i64 i2] 0 _ (by kernel_rfl) (fun w => by kernel_rfl) ?_
            exact QRun_done [1, 2, 7, 8, 9, 13, 14, 26, 27] (by kernel_rfl) (by kernel_rfl)
          obtain ⟨x5, hx3, hB2⟩ := M.bind_some hB2
          obtain ⟨hx3l, hx3u, hx3⟩ := M.idx_some hx3
          have H13 := H11.toRows
          obtain ⟨a4, c2, H14⟩ := H13.pinRow hx3
          obtain ⟨x6, hx4, hB2⟩ := M.bind_some hB2
          obtain ⟨x7, hx5, hB2⟩ := M.bind_some hB2
          obtain ⟨hx5l, hx5u, hx5⟩ := M.idx_some hx5
          refine Run_D (fun x => Hold h x [rowsP cd2 23 a1 l1.length l1.length s2 [(i1.toNat, a4, x5.length, c2, x5)]]) (fun x => Hold h x [rowsP cd2 23 a1 l1.length l1.length s2 [(i1.toNat, a4, x5.length, c2, x5)]]) mixed (by kernel_rfl) H14 Hold.stable (fun x Hy => (show Hold h x [rowsP cd2 23 a1 l1.length l1.length s2 [(i1.toNat, a4, x5.length, c2, x5)]] from Hy).pick [0] (by kernel_rfl)) ?_
          refine DR_b 9 [.slice a1 l1.length l1.length, .int .i64 i1] 0 (by kernel_rfl) (by kernel_rfl) (by kernel_rfl) (fun w => by kernel_rfl) ?_
          refine DR_y 8 (i := 2) (.pointer (some (adr a1 (i1.toNat * 1)))) (by kernel_rfl) (by kernel_rfl) (by kernel_rfl) (fun hx Hx => (YE.of (Y_idx (t := 22) (e := 23) (sz := 1) (a := a1) (n := l1.length) (cap := l1.length) (kk := .i64) (i := i1) (by kernel_rfl) Try.underlying22 (by kernel_rfl) ((H11.rd 0 rfl).cell hx3).1 hx3l (by rw [← (H11.len 0 rfl)]; exact hx3u)))) ?_
          refine DR_y 7 (i := 3) (.slice a4 x5.length c2) (by kernel_rfl) (by kernel_rfl) (by kernel_rfl) (fun hx Hx => (YE.of (Y_load1 (t := 23) (p := adr a1 (i1.toNat * 1)) (v := .slice a4 x5.length c2) (by kernel_rfl) (fun w => by kernel_rfl) (Hx.cellPin 0 rfl 0 rfl)))) ?_
          refine DR_b 3 [.int .i64 i2, .func (.func 142) #[] #[.pointer (some ⟨bentry0, 0, none⟩)], .int .i64 i1, .int .i64 i2] 4 (by kernel_rfl) (by kernel_rfl) (by kernel_rfl) (fun w => by kernel_rfl) ?_
          refine DR_y 2 (i := 8) (.int .i64 x6) (by kernel_rfl) (by kernel_rfl) (by kernel_rfl) (fun hx Hx => (YE.of (Y_callq (f := 142) (args := #[.int .i64 i1, .int .i64 i2, .pointer (some ⟨bentry0, 0, none⟩)]) (v := .int .i64 x6) (by kernel_rfl) (w_impl_transposed_1 hx i1 i2 entry0 aentry0 centry0 (rentry0.at Hx.ext) bentry0 (ventry0.at Hx.ext) _ _ hx4)))) ?_
          refine DR_y 1 (i := 9) (.pointer (some (adr a4 (i2.toNat * 1)))) (by kernel_rfl) (by kernel_rfl) (by kernel_rfl) (fun hx Hx => (YE.of (Y_idx (t := 23) (e := 2) (sz := 1) (a := a4) (n := x5.length) (cap := c2) (kk := .i64) (i := i2) (by kernel_rfl) Try.underlying23 (by kernel_rfl) ((H14.rdPin 0 rfl 0 rfl).cell hx5).1 hx5l hx5u))) ?_
          refine DR_tail (i := 10) (by kernel_rfl) (by kernel_rfl) (by kernel_rfl) (fun h8 H15 => ?_)
          have H16 : Hold h h8 [rowsP cd2 23 a1 l1.length l1.length s2 [(i1.toNat, a4, x5.length, c2, x5)]] := H15
          obtain ⟨l4, hu2, hB2⟩ := M.bind_some hB2
          have hu2 := M.upd_some hu2
          refine Run_E (by kernel_rfl) ?_
          refine E_put2 (C := cd2) (t := 2) (sz := 1) (j := i2) (x := x6) (v := .int .i64 x6) (m2 := s2.set i1.toNat l4) H16 cd2_flat 0 rfl (by kernel_rfl) rfl (cd2_own _) (by kernel_rfl) hu2 rfl (fun h9 H17 => ?_)
          refine Run_nil (by kernel_rfl) ?_
          refine Run_keep [1, 2, 7, 8, 13, 14, 26, 27] (L' := [(1, .int .i64 n_), (2, .func (.func 142) #[] #[.pointer (some ⟨bentry0, 0, none⟩)]), (7, .slice a1 l1.length l1.length), (8, .int .i64 i1), (13, .int .i64 (l1.length : Int)), (14, .int .i64 i1), (26, .int .i64 (x3.length : Int)), (27, .int .i64 i2)]) (by kernel_rfl) ?_
          refine Run_blk ?_
          refine Run_reg 2 (by kernel_rfl) (L' := [(1, .int .i64 n_), (2, .func (.func 142) #[] #[.pointer (some ⟨bentry0, 0, none⟩)]), (7, .slice a1 l1.length l1.length), (8, .int .i64 i1), (13, .int .i64 (l1.length : Int)), (14, .int .i64 i1), (26, .int .i64 (x3.length : Int)), (27, .int .i64 (i2 + 1))]) ?_ ?_
          · refine QRun_y (.int .i64 (i2 + 1)) (by kernel_rfl) (Y_eq (v := .int .i64 (w64 (i2 + 1))) (Y_pure (fun w => by kernel_rfl)) (by rw [w64_eq _ (by omega)])) ?_
            refine QRun_b [.int .i64 (i2 + 1)] 1 _ (by kernel_rfl) (fun w => by kernel_rfl) ?_
            exact QRun_done [1, 2, 7, 8, 13, 14, 26, 27] (by kernel_rfl) (by kernel_rfl)
          have H18 := H17.ofRows
          have hB2 := M.ret_some hB2
          have gx4 := hgoy2 _ hB2.symm
          exact Run_again [1, 2, 7, 8, 13, 14, 26, 27] (by kernel_rfl) my2 (Nat.lt_succ_self _) ⟨i2 + 1, (s2.set i1.toNat l4), by omega, gx4, rfl, H18⟩
        · have gx4 := M.for_end gx4 hb2
          subst gx4
          refine Run_exit (k' := _) rfl ?_
          exact Run_fall [1, 2, 7, 13, 14] (by kernel_rfl) ⟨rfl, H11⟩
    · have gx1 := M.for_end gx1 hb1
      subst gx1
      refine Run_exit (k' := _) rfl ?_
      exact Run_fall [7] (by kernel_rfl) ⟨rfl, H2⟩

set_option maxRecDepth 100000 in
set_option maxHeartbeats 4000000 in
theorem w_impl_transposed (h : Heap) (a_ : List (List Int)) (aa_ : Option Addr) (ca_ : Nat) (ra_ : Rd cd23 h (Lt h) aa_ ca_ a_) (n : Nat) (r : (List (List Int))) (hF : impl_transposed a_ n = some r) :
    Fn Try.prog 90 #[.slice aa_ a_.length ca_] h fun v h' => ∃ (a0 : Option Addr) (c0 : Nat), v = .slice a0 r.length c0 ∧ Hold h h' [own cd23 a0 r.length c0 r] := by
  unfold impl_transposed at hF
  refine Fn_enter (args := [.slice aa_ a_.length ca_]) Try.func90 rfl (by kernel_rfl) (by kernel_rfl) (fun w0 _ => ?_)
  have H0 := Hold.init h
  refine Run_seq ?_
  refine Run_ops ?_
  refine Run_E (by kernel_rfl) ?_
  refine E_box (ty := 22) (cs := [.slice aa_ a_.length ca_]) H0 (fun w => by kernel_rfl) (fun b1 h1 H1 => ?_)
  refine Run_b [.slice none 0 0] 1 _ (by kernel_rfl) (fun w => by kernel_rfl) ?_
  refine Run_nil (by kernel_rfl) ?_
  refine Run_keep [1] (L' := [(1, .pointer (some ⟨b1, 0, none⟩))]) (by kernel_rfl) ?_
  refine Run_seq ?_
  obtain ⟨x1, hx1, hF⟩ := M.bind_some hF
  obtain ⟨hx1l, hx1u, hx1⟩ := M.idx_some hx1
  obtain ⟨a1, c1, hc1, r1⟩ := ra_.row hx1
  refine Run_D (fun x => Hold h x [box b1 22 [.slice aa_ a_.length ca_]]) (fun x => Hold h x [box b1 22 [.slice aa_ a_.length ca_]]) mixed (by kernel_rfl) H1 Hold.stable (fun x Hy => (show Hold h x [box b1 22 [.slice aa_ a_.length ca_]] from Hy).pick [0] (by kernel_rfl)) ?_
  refine DR_y 8 (i := 0) (.slice aa_ a_.length ca_) (by kernel_rfl) (by kernel_rfl) (by kernel_rfl) (fun hx Hx => (YE.of (Y_load1 (t := 22) (p := ⟨b1, 0, none⟩) (v := .slice aa_ a_.length ca_) (by kernel_rfl) (fun w => by kernel_rfl) (Hx.cell 0 rfl rfl)))) ?_
  refine DR_y 7 (i := 1) (.pointer (some (adr aa_ (0 * 1)))) (by kernel_rfl) (by kernel_rfl) (by kernel_rfl) (fun hx Hx => (YE.of (Y_idx (t := 22) (e := 23) (sz := 1) (a := aa_) (n := a_.length) (cap := ca_) (kk := .i64) (i := 0) (by kernel_rfl) Try.underlying22 (by kernel_rfl) ((ra_.at H1.ext).cell hx1).1 hx1l hx1u))) ?_
  refine DR_y 6 (i := 2) (.slice a1 x1.length c1) (by kernel_rfl) (by kernel_rfl) (by kernel_rfl) (fun hx Hx => (YE.of (Y_load1 (t := 23) (p := adr aa_ (0 * 1)) (v := .slice a1 x1.length c1) (by kernel_rfl) (fun w => by kernel_rfl) (cell_at Hx.ext hc1)))) ?_
  refine DR_b 5 [.int .i64 (x1.length : Int)] 3 (by kernel_rfl) (by kernel_rfl) (by kernel_rfl) (fun w => by kernel_rfl) ?_
  refine DR_y 4 (i := 4) (.slice aa_ a_.length ca_) (by kernel_rfl) (by kernel_rfl) (by kernel_rfl) (fun hx Hx => (YE.of (Y_load1 (t := 22) (p := ⟨b1, 0, none⟩) (v := .slice aa_ a_.length ca_) (by kernel_rfl) (fun w => by kernel_rfl) (Hx.cell 0 rfl rfl)))) ?_
  refine DR_b 2 [.int .i64 (a_.length : Int), .func (.func 142) #[] #[.pointer (some ⟨b1, 0, none⟩)]] 5 (by kernel_rfl) (by kernel_rfl) (by kernel_rfl) (fun w => by kernel_rfl) ?_
  refine DR_tail (i := 7) (by kernel_rfl) (by kernel_rfl) (by kernel_rfl) (fun h2 H2 => ?_)
  have H3 : Hold h h2 [box b1 22 [.slice aa_ a_.length ca_]] := H2
  obtain ⟨x2, hx2, hF⟩ := M.bind_some hF
  refine Run_E (by kernel_rfl) ?_
  refine E_call (f := 137) (args := #[.int .i64 (x1.length : Int), .int .i64 (a_.length : Int), .func (.func 142) #[] #[.pointer (some ⟨b1, 0, none⟩)]]) (w_impl_matrixBy_F_impl_transposed_1 h2 (x1.length : Int) (a_.length : Int) a_ aa_ ca_ (ra_.at H3.ext) b1 (H3.var 0 rfl) _ _ hx2) (by kernel_rfl) (fun v1 h3 hp1 => ?_)
  obtain ⟨a2, c2, rfl, H4⟩ := hp1
  have H5 : Hold h h3 [own cd23 a2 x2.length c2 x2, box b1 22 [.slice aa_ a_.length ca_]] := H3.call H4 rfl
  refine Run_b [.slice a2 x2.length c2] 8 _ (by kernel_rfl) (fun w => by kernel_rfl) ?_
  refine Run_nil (by kernel_rfl) ?_
  refine Run_keep [2] (L' := [(2, .slice a2 x2.length c2)]) (by kernel_rfl) ?_
  have hF := M.ret_some hF
  subst hF
  have H6 : Hold h h3 [own cd23 a2 x2.length c2 x2] := H5.pick [0] (by kernel_rfl)
  exact Run_ret1 rfl (ResV_tmp (v := .slice a2 x2.length c2) (by kernel_rfl)) ⟨a2, c2, rfl, H6⟩

set_option maxRecDepth 100000 in
set_option maxHeartbeats 4000000 in
theorem w_impl_vectorOrbit (h : Heap) (a_ : List (List Int)) (aa_ : Option Addr) (ca_ : Nat) (ra_ : Rd cd23 h (Lt h) aa_ ca_ a_) (x_ : List Int) (ax_ : Option Addr) (cx_ : Nat) (rx_ : Rd cd2 h (Lt h) ax_ cx_ x_) (n : Nat) (r : TOrbit) (hF : impl_vectorOrbit a_ x_ n = some r) :
    Fn Try.prog 60 #[.slice aa_ a_.length ca_, .slice ax_ x_.length cx_] h fun v h' => ∃ (b0 : Nat), ∃ (a0 : Option Addr) (c0 : Nat), ∃ (a1 : Option Addr) (c1 : Nat), v = .pointer (some ⟨b0, 0, none⟩) ∧ Ali a0 aa_ c0 ca_ r.matrix a_ ∧ Hold h h' [box b0 88 [.slice a0 r.matrix.length c0, .slice a1 r.list.length c1], own cd22 a1 r.list.length c1 r.list] := by
  unfold impl_vectorOrbit at hF
  refine Fn_enter (args := [.slice aa_ a_.length ca_, .slice ax_ x_.length cx_]) Try.func60 rfl (by kernel_rfl) (by kernel_rfl) (fun w0 _ => ?_)
  have H0 := Hold.init h
  refine Run_seq ?_
  refine Run_reg 1 (by kernel_rfl) (L' := [(0, .slice aa_ a_.length ca_), (1, .slice ax_ x_.length cx_)]) ?_ ?_
  · refine QRun_b [.pointer none] 0 _ (by kernel_rfl) (fun w => by kernel_rfl) ?_
    exact QRun_done [0, 1] (by kernel_rfl) (by kernel_rfl)
  refine Run_seq ?_
  refine Run_ops ?_
  refine Run_b [.slice aa_ a_.length ca_, .slice ax_ x_.length cx_] 0 _ (by kernel_rfl) (fun w => by kernel_rfl) ?_
  refine Run_E (by kernel_rfl) ?_
  refine E_litV (ey := 23) (n := x_.length) H0 rx_ rfl (fun w => by kernel_rfl) rfl (fun a1 h1 H1 => ?_)
  obtain ⟨x1, hx1, hF⟩ := M.bind_some hF
  refine Run_E (by kernel_rfl) ?_
  refine E_call (f := 90) (args := #[.slice a1 1 1]) (Fn.arg (w_impl_transposed h1 [x_] a1 1 (H1.rdV 0 rfl) _ _ hx1) (by simp only [(H1.lenV 0 rfl)])) (by kernel_rfl) (fun v1 h2 hp1 => ?_)
  obtain ⟨a2, c1, rfl, H2⟩ := hp1
  have H3 : Hold h h2 [own cd23 a2 x1.length c1 x1, view h.size cd23 a1 1 1 [x_]] := H1.call H2 rfl
  refine Run_E (by kernel_rfl) ?_
  refine E_lit1 (ey := 22) (n := x1.length) H3 (fun w => by kernel_rfl) rfl (fun a3 h3 H4 => ?_)
  refine Run_b [.agg #[.slice aa_ a_.length ca_, .slice a3 1 1]] 5 _ (by kernel_rfl) (fun w => by kernel_rfl) ?_
  refine Run_E (by kernel_rfl) ?_
  refine E_box (ty := 88) (cs := [.slice aa_ a_.length ca_, .slice a3 1 1]) H4 (fun w => by kernel_rfl) (fun b1 h4 H5 => ?_)
  refine Run_b [.pointer (some ⟨b1, 0, none⟩)] 7 _ (by kernel_rfl) (fun w => by kernel_rfl) ?_
  refine Run_nil (by kernel_rfl) ?_
  refine Run_keep [4] (L' := [(4, .pointer (some ⟨b1, 0, none⟩))]) (by kernel_rfl) ?_
  have hF := M.ret_some hF
  subst hF
  have H6 : Hold h h4 [own cd22 a3 1 1 [x1], box b1 88 [.slice aa_ a_.length ca_, .slice a3 1 1], view h.size cd23 a1 1 1 [x_]] := H5.pick [1, 0, 2] (by kernel_rfl)
  have H7 := H6.norm
  have H8 : Hold h h4 [box b1 88 [.slice aa_ a_.length ca_, .slice a3 1 1], own cd22 a3 ([x1].length) 1 [x1]] := H7.pick [1, 0] (by kernel_rfl)
  exact Run_ret1 rfl (ResV_tmp (v := .pointer (some ⟨b1, 0, none⟩)) (by kernel_rfl)) ⟨b1, aa_, ca_, a3, 1, (by simp only [(H6.len 0 rfl)]), .inl ⟨rfl, rfl, rfl⟩, H8⟩

set_option maxRecDepth 100000 in
set_option maxHeartbeats 4000000 in
theorem w_impl_times (h : Heap) (a_ : Int) (b : Int) (n : Nat) (r : Int) (hF : impl_times a_ b n = some r) :
    Fn Try.prog 72 #[.int .i64 a_, .int .i64 b] h fun v h' => v = .int .i64 r ∧ h' = h := by
  unfold impl_times at hF
  refine Fn_enter (args := [.int .i64 a_, .int .i64 b]) Try.func72 rfl (by kernel_rfl) (by kernel_rfl) (fun w0 _ => ?_)
  refine Run_seq ?_
  refine Run_reg 1 (by kernel_rfl) (L' := [(0, .int .i64 a_), (1, .int .i64 b)]) ?_ ?_
  · refine QRun_b [.int .i64 0] 0 _ (by kernel_rfl) (fun w => by kernel_rfl) ?_
    exact QRun_done [0, 1] (by kernel_rfl) (by kernel_rfl)
  refine Run_seq ?_
  refine Run_seq ?_
  refine Run_reg 6 (by kernel_rfl) (L' := [(0, .int .i64 a_), (1, .int .i64 b), (10, .bool ((a_ == (-1000000000000000)) || (b == (-1000000000000000))))]) ?_ ?_
  · refine QRun_b [.int .i64 a_, .bool (a_ == (-1000000000000000))] 0 _ (by kernel_rfl) (fun w => by kernel_rfl) ?_
    refine QRun_seq 6 [(0, .int .i64 a_), (1, .int .i64 b), (10, .bool ((a_ == (-1000000000000000)) || (b == (-1000000000000000))))] ?_ ?_
    · rcases Bool.eq_false_or_eq_true (a_ == (-1000000000000000)) with hb1 | hb1
      · refine QRun_bool (a_ == (-1000000000000000)) true (by kernel_rfl) (fun w => by kernel_rfl) hb1 ?_
        refine QRun_n (by kernel_rfl) ?_
        refine QRun_n (by kernel_rfl) ?_
        refine QRun_bool true ((a_ == (-1000000000000000)) || (b == (-1000000000000000))) (by kernel_rfl) (fun w => by kernel_rfl) (by rw [hb1]; rfl) ?_
        exact QRun_done [0, 1, 10] (by kernel_rfl) (by kernel_rfl)
      · refine QRun_bool (a_ == (-1000000000000000)) false (by kernel_rfl) (fun w => by kernel_rfl) hb1 ?_
        refine QRun_b [.int .i64 b, .bool (b == (-1000000000000000))] 3 _ (by kernel_rfl) (fun w => by kernel_rfl) ?_
        refine QRun_bool (b == (-1000000000000000)) ((a_ == (-1000000000000000)) || (b == (-1000000000000000))) (by kernel_rfl) (fun w => by kernel_rfl) (by rw [hb1]; rfl) ?_
        exact QRun_done [0, 1, 10] (by kernel_rfl) (by kernel_rfl)
    exact QRun_done [0, 1, 10] (by kernel_rfl) (by kernel_rfl)
  refine Run_cond (b := (a_ == (-1000000000000000)) || (b == (-1000000000000000))) (by kernel_rfl) (fun hb2 => ?_) (fun hb2 => ?_)
  · have hF := (M.ite_some hF).1 hb2
    refine Run_seq ?_
    refine Run_reg 1 (by kernel_rfl) (L' := [(4, .int .i64 (-1000000000000000))]) ?_ ?_
    · refine QRun_b [.int .i64 (-1000000000000000)] 0 _ (by kernel_rfl) (fun w => by kernel_rfl) ?_
      exact QRun_done [4] (by kernel_rfl) (by kernel_rfl)
    have hF := M.ret_some hF
    subst hF
    exact Run_ret1 rfl (ResV_tmp (v := .int .i64 (-1000000000000000)) (by kernel_rfl)) ⟨rfl, rfl⟩
  · have hF := (M.ite_some hF).2 hb2
    refine Run_skip ?_
    refine Run_seq ?_
    refine Run_reg 4 (by kernel_rfl) (L' := [(4, .int .i64 (w64 (a_ + b)))]) ?_ ?_
    · refine QRun_b [.int .i64 a_, .int .i64 b, .int .i64 (w64 (a_ + b)), .int .i64 (w64 (a_ + b))] 0 _ (by kernel_rfl) (fun w => by kernel_rfl) ?_
      exact QRun_done [4] (by kernel_rfl) (by kernel_rfl)
    have hF := M.ret_some hF
    subst hF
    exact Run_ret1 rfl (ResV_tmp (v := .int .i64 (w64 (a_ + b))) (by kernel_rfl)) ⟨rfl, rfl⟩

set_option maxRecDepth 100000 in
set_option maxHeartbeats 4000000 in
theorem w_impl_multiply_1 (h : Heap) (i : Int) (j : Int) (z0 : List (List Int)) {Sz0 : Bs} (az0 : Option Addr) (cz0 : Nat) (rz0 : Rd cd23 h Sz0 az0 cz0 z0) (bz0 : Nat) (vz0 : VarAt h bz0 22 [.slice az0 z0.length cz0]) (z1 : List (List Int)) {Sz1 : Bs} (az1 : Option Addr) (cz1 : Nat) (rz1 : Rd cd23 h Sz1 az1 cz1 z1) (bz1 : Nat) (vz1 : VarAt h bz1 22 [.slice az1 z1.length cz1]) (n : Nat) (r : Int) (hF : impl_multiply_1 i j z0 z1 n = some r) :
    Fn Try.prog 140 #[.int .i64 i, .int .i64 j, .pointer (some ⟨bz0, 0, none⟩), .pointer (some ⟨bz1, 0, none⟩)] h fun v h' => v = .int .i64 r ∧ h' = h := by
  unfold impl_multiply_1 at hF
  refine Fn_enter (args := [.int .i64 i, .int .i64 j, .pointer (some ⟨bz0, 0, none⟩), .pointer (some ⟨bz1, 0, none⟩)]) Try.func140 rfl (by kernel_rfl) (by kernel_rfl) (fun w0 _ => ?_)
  refine Run_seq ?_
  refine Run_reg 1 (by kernel_rfl) (L' := [(0, .int .i64 i), (1, .int .i64 j), (2, .pointer (some ⟨bz0, 0, none⟩)), (3, .pointer (some ⟨bz1, 0, none⟩))]) ?_ ?_
  · refine QRun_b [.int .i64 0] 0 _ (by kernel_rfl) (fun w => by kernel_rfl) ?_
    exact QRun_done [0, 1, 2, 3] (by kernel_rfl) (by kernel_rfl)
  refine Run_seq ?_
  refine Run_reg 1 (by kernel_rfl) (L' := [(0, .int .i64 i), (1, .int .i64 j), (2, .pointer (some ⟨bz0, 0, none⟩)), (3, .pointer (some ⟨bz1, 0, none⟩)), (7, .int .i64 (-1000000000000000))]) ?_ ?_
  · refine QRun_b [.int .i64 (-1000000000000000)] 0 _ (by kernel_rfl) (fun w => by kernel_rfl) ?_
    exact QRun_done [0, 1, 2, 3, 7] (by kernel_rfl) (by kernel_rfl)
  refine Run_seq ?_
  refine Run_seq ?_
  obtain ⟨x1, hx1, hF⟩ := M.bind_some hF
  obtain ⟨hx1l, hx1u, hx1⟩ := M.idx_some hx1
  obtain ⟨a1, c1, hc1, r1⟩ := rz0.row hx1
  refine Run_reg 6 (by kernel_rfl) (L' := [(1, .int .i64 j), (3, .pointer (some ⟨bz1, 0, none⟩)), (7, .int .i64 (-1000000000000000)), (13, .slice a1 x1.length c1), (14, .int .i64 (x1.length : Int)), (15, .int .i64 0)]) ?_ ?_
  · refine QRun_y (.slice az0 z0.length cz0) (by kernel_rfl) (Y_load1 (t := 22) (p := ⟨bz0, 0, none⟩) (v := .slice az0 z0.length cz0) (by kernel_rfl) (fun w => by kernel_rfl) (VarAt.cell vz0 rfl)) ?_
    refine QRun_b [.int .i64 i] 1 _ (by kernel_rfl) (fun w => by kernel_rfl) ?_
    refine QRun_y (.pointer (some (adr az0 (i.toNat * 1)))) (by kernel_rfl) (Y_idx (t := 22) (e := 23) (sz := 1) (a := az0) (n := z0.length) (cap := cz0) (kk := .i64) (i := i) (by kernel_rfl) Try.underlying22 (by kernel_rfl) (rz0.cell hx1).1 hx1l hx1u) ?_
    refine QRun_y (.slice a1 x1.length c1) (by kernel_rfl) (Y_load1 (t := 23) (p := adr az0 (i.toNat * 1)) (v := .slice a1 x1.length c1) (by kernel_rfl) (fun w => by kernel_rfl) hc1) ?_
    refine QRun_b [.int .i64 (x1.length : Int), .int .i64 0] 4 _ (by kernel_rfl) (fun w => by kernel_rfl) ?_
    exact QRun_done [1, 3, 7, 13, 14, 15] (by kernel_rfl) (by kernel_rfl)
  obtain ⟨x2, gx2, hF⟩ := M.bind_some hF
  obtain ⟨hloy1, hhiy1, gx2⟩ := M.for_start gx2
  refine Run_join (fun L' h' => L' = [(7, .int .i64 x2)] ∧ h = h') ?_ ?_
  · rintro _ _ ⟨rfl, rfl⟩
    refine Run_seq ?_
    refine Run_reg 2 (by kernel_rfl) (L' := [(6, .int .i64 x2)]) ?_ ?_
    · refine QRun_b [.int .i64 x2, .int .i64 x2] 0 _ (by kernel_rfl) (fun w => by kernel_rfl) ?_
      exact QRun_done [6] (by kernel_rfl) (by kernel_rfl)
    have hF := M.ret_some hF
    subst hF
    exact Run_ret1 rfl (ResV_tmp (v := .int .i64 x2) (by kernel_rfl)) ⟨rfl, rfl⟩
  · refine Run_block ?_
    refine Run_keep [1, 3, 7, 13, 14, 15] (L' := [(1, .int .i64 j), (3, .pointer (some ⟨bz1, 0, none⟩)), (7, .int .i64 (-1000000000000000)), (13, .slice a1 x1.length c1), (14, .int .i64 (x1.length : Int)), (15, .int .i64 0)]) (by kernel_rfl) ?_
    refine Run_loop (fun m L' h' => ∃ (i1 : Int) (s1 : Int), 0 ≤ i1 ∧ M.forN (x1.length : Int) _ _ n m i1 s1 = some x2 ∧ L' = [(1, .int .i64 j), (3, .pointer (some ⟨bz1, 0, none⟩)), (7, .int .i64 s1), (13, .slice a1 x1.length c1), (14, .int .i64 (x1.length : Int)), (15, .int .i64 i1)] ∧ h = h') ((x1.length : Int) - 0 : Int).toNat ⟨0, (-1000000000000000), Int.le_refl _, gx2, rfl, rfl⟩ ?_
    rintro my1 _ _ ⟨i1, s1, hloy1', gx2, rfl, rfl⟩
    refine Run_seq ?_
    refine Run_reg 1 (by kernel_rfl) (L' := [(1, .int .i64 j), (3, .pointer (some ⟨bz1, 0, none⟩)), (7, .int .i64 s1), (13, .slice a1 x1.length c1), (14, .int .i64 (x1.length : Int)), (15, .int .i64 i1), (16, .bool (decide (i1 < (x1.length : Int))))]) ?_ ?_
    · refine QRun_b [.bool (decide (i1 < (x1.length : Int)))] 0 _ (by kernel_rfl) (fun w => by kernel_rfl) ?_
      exact QRun_done [1, 3, 7, 13, 14, 15, 16] (by kernel_rfl) (by kernel_rfl)
    refine Run_seq ?_
    refine Run_cond (b := decide (i1 < (x1.length : Int))) (by kernel_rfl) (fun hb1 => ?_) (fun hb1 => ?_)
    · obtain ⟨my1, y1, rfl, hB1, hgoy1, houty1⟩ := M.for_go gx2 hb1
      have hlty1 := of_decide_eq_true hb1
      refine Run_skip ?_
      refine Run_seq ?_
      refine Run_block ?_
      refine Run_seq ?_
      obtain ⟨x3, hx2, hB1⟩ := M.bind_some hB1
      obtain ⟨hx2l, hx2u, hx2⟩ := M.idx_some hx2
      refine Run_reg 5 (by kernel_rfl) (L' := [(1, .int .i64 j), (3, .pointer (some ⟨bz1, 0, none⟩)), (7, .int .i64 s1), (8, .int .i64 i1), (9, .int .i64 x3), (13, .slice a1 x1.length c1), (14, .int .i64 (x1.length : Int)), (15, .int .i64 i1)]) ?_ ?_
      · refine QRun_b [.int .i64 i1] 0 _ (by kernel_rfl) (fun w => by kernel_rfl) ?_
        refine QRun_y (.pointer (some (adr a1 (i1.toNat * 1)))) (by kernel_rfl) (Y_idx (t := 23) (e := 2) (sz := 1) (a := a1) (n := x1.length) (cap := c1) (kk := .i64) (i := i1) (by kernel_rfl) Try.underlying23 (by kernel_rfl) (r1.cell hx2).1 hx2l hx2u) ?_
        refine QRun_y (.int .i64 x3) (by kernel_rfl) (Y_load1 (t := 2) (p := adr a1 (i1.toNat * 1)) (v := .int .i64 x3) (by kernel_rfl) (fun w => by kernel_rfl) (cd2_cell r1 hx2)) ?_
        refine QRun_b [.int .i64 i1, .int .i64 x3] 3 _ (by kernel_rfl) (fun w => by kernel_rfl) ?_
        exact QRun_done [1, 3, 7, 8, 9, 13, 14, 15] (by kernel_rfl) (by kernel_rfl)
      obtain ⟨x4, hx3, hB1⟩ := M.bind_some hB1
      obtain ⟨hx3l, hx3u, hx3⟩ := M.idx_some hx3
      obtain ⟨a2, c2, hc2, r2⟩ := rz1.row hx3
      obtain ⟨x5, hx4, hB1⟩ := M.bind_some hB1
      obtain ⟨hx4l, hx4u, hx4⟩ := M.idx_some hx4
      obtain ⟨x6, hx5, hB1⟩ := M.bind_some hB1
      refine Run_reg 12 (by kernel_rfl) (L' := [(1, .int .i64 j), (3, .pointer (some ⟨bz1, 0, none⟩)), (7, .int .i64 (mx s1 x6)), (13, .slice a1 x1.length c1), (14, .int .i64 (x1.length : Int)), (15, .int .i64 i1)]) ?_ ?_
      · refine QRun_b [.int .i64 s1, .int .i64 x3] 0 _ (by kernel_rfl) (fun w => by kernel_rfl) ?_
        refine QRun_y (.slice az1 z1.length cz1) (by kernel_rfl) (Y_load1 (t := 22) (p := ⟨bz1, 0, none⟩) (v := .slice az1 z1.length cz1) (by kernel_rfl) (fun w => by kernel_rfl) (VarAt.cell vz1 rfl)) ?_
        refine QRun_b [.int .i64 i1] 3 _ (by kernel_rfl) (fun w => by kernel_rfl) ?_
        refine QRun_y (.pointer (some (adr az1 (i1.toNat * 1)))) (by kernel_rfl) (Y_idx (t := 22) (e := 23) (sz := 1) (a := az1) (n := z1.length) (cap := cz1) (kk := .i64) (i := i1) (by kernel_rfl) Try.underlying22 (by kernel_rfl) (rz1.cell hx3).1 hx3l hx3u) ?_
        refine QRun_y (.slice a2 x4.length c2) (by kernel_rfl) (Y_load1 (t := 23) (p := adr az1 (i1.toNat * 1)) (v := .slice a2 x4.length c2) (by kernel_rfl) (fun w => by kernel_rfl) hc2) ?_
        refine QRun_b [.int .i64 j] 6 _ (by kernel_rfl) (fun w => by kernel_rfl) ?_
        refine QRun_y (.pointer (some (adr a2 (j.toNat * 1)))) (by kernel_rfl) (Y_idx (t := 23) (e := 2) (sz := 1) (a := a2) (n := x4.length) (cap := c2) (kk := .i64) (i := j) (by kernel_rfl) Try.underlying23 (by kernel_rfl) (r2.cell hx4).1 hx4l hx4u) ?_
        refine QRun_y (.int .i64 x5) (by kernel_rfl) (Y_load1 (t := 2) (p := adr a2 (j.toNat * 1)) (v := .int .i64 x5) (by kernel_rfl) (fun w => by kernel_rfl) (cd2_cell r2 hx4)) ?_
        refine QRun_y (.int .i64 x6) (by kernel_rfl) (Y_callq (f := 72) (args := #[.int .i64 x3, .int .i64 x5]) (v := .int .i64 x6) (by kernel_rfl) (w_impl_times h x3 x5 _ _ hx5)) ?_
        refine QRun_b [.int .i64 (mx s1 x6), .int .i64 (mx s1 x6)] 10 _ (by kernel_rfl) (fun w => by kernel_rfl) ?_
        exact QRun_done [1, 3, 7, 13, 14, 15] (by kernel_rfl) (by kernel_rfl)
      refine Run_blk ?_
      refine Run_reg 2 (by kernel_rfl) (L' := [(1, .int .i64 j), (3, .pointer (some ⟨bz1, 0, none⟩)), (7, .int .i64 (mx s1 x6)), (13, .slice a1 x1.length c1), (14, .int .i64 (x1.length : Int)), (15, .int .i64 (i1 + 1))]) ?_ ?_
      · refine QRun_y (.int .i64 (i1 + 1)) (by kernel_rfl) (Y_eq (v := .int .i64 (w64 (i1 + 1))) (Y_pure (fun w => by kernel_rfl)) (by rw [w64_eq _ (by omega)])) ?_
        refine QRun_b [.int .i64 (i1 + 1)] 1 _ (by kernel_rfl) (fun w => by kernel_rfl) ?_
        exact QRun_done [1, 3, 7, 13, 14, 15] (by kernel_rfl) (by kernel_rfl)
      have hB1 := M.ret_some hB1
      have gx2 := hgoy1 _ hB1.symm
      exact Run_again [1, 3, 7, 13, 14, 15] (by kernel_rfl) my1 (Nat.lt_succ_self _) ⟨i1 + 1, (mx s1 x6), by omega, gx2, rfl, rfl⟩
    · have gx2 := M.for_end gx2 hb1
      subst gx2
      refine Run_exit (k' := _) rfl ?_
      exact Run_fall [7] (by kernel_rfl) ⟨rfl, rfl⟩

set_option maxRecDepth 100000 in
set_option maxHeartbeats 4000000 in
theorem w_impl_matrixBy_F_impl_multiply_1 (h : Heap) (m_ : Int) (n_ : Int) (entry0 : List (List Int)) (aentry0 : Option Addr) (centry0 : Nat) (rentry0 : Rd cd23 h (Lt h) aentry0 centry0 entry0) (bentry0 : Nat) (ventry0 : VarAt h bentry0 22 [.slice aentry0 entry0.length centry0]) (entry1 : List (List Int)) (aentry1 : Option Addr) (centry1 : Nat) (rentry1 : Rd cd23 h (Lt h) aentry1 centry1 entry1) (bentry1 : Nat) (ventry1 : VarAt h bentry1 22 [.slice aentry1 entry1.length centry1]) (n : Nat) (r : (List (List Int))) (hF : impl_matrixBy_F_impl_multiply_1 m_ n_ entry0 entry1 n = some r) :
    Fn Try.prog 137 #[.int .i64 m_, .int .i64 n_, .func (.func 140) #[] #[.pointer (some ⟨bentry0, 0, none⟩), .pointer (some ⟨bentry1, 0, none⟩)]] h fun v h' => ∃ (a0 : Option Addr) (c0 : Nat), v = .slice a0 r.length c0 ∧ Hold h h' [own cd23 a0 r.length c0 r] := by
  unfold impl_matrixBy_F_impl_multiply_1 at hF
  refine Fn_enter (args := [.int .i64 m_, .int .i64 n_, .func (.func 140) #[] #[.pointer (some ⟨bentry0, 0, none⟩), .pointer (some ⟨bentry1, 0, none⟩)]]) Try.func137 rfl (by kernel_rfl) (by kernel_rfl) (fun w0 _ => ?_)
  have H0 := Hold.init h
  refine Run_seq ?_
  refine Run_reg 1 (by kernel_rfl) (L' := [(0, .int .i64 m_), (1, .int .i64 n_), (2, .func (.func 140) #[] #[.pointer (some ⟨bentry0, 0, none⟩), .pointer (some ⟨bentry1, 0, none⟩)])]) ?_ ?_
  · refine QRun_b [.slice none 0 0] 0 _ (by kernel_rfl) (fun w => by kernel_rfl) ?_
    exact QRun_done [0, 1, 2] (by kernel_rfl) (by kernel_rfl)
  refine Run_seq ?_
  refine Run_ops ?_
  refine Run_b [.int .i64 m_] 0 _ (by kernel_rfl) (fun w => by kernel_rfl) ?_
  obtain ⟨l1, hl1, hF⟩ := M.bind_some hF
  have hl1 := M.make_some hl1
  refine Run_E (by kernel_rfl) ?_
  refine E_make cd23 [] (kl := .i64) (kc := .i64) H0 cd23_ti Try.underlying22 (by decide) cd23_zero (by kernel_rfl) hl1 (fun a1 h1 H1 => ?_)
  refine Run_b [.slice a1 l1.length l1.length] 2 _ (by kernel_rfl) (fun w => by kernel_rfl) ?_
  refine Run_nil (by kernel_rfl) ?_
  refine Run_keep [1, 2, 7] (L' := [(1, .int .i64 n_), (2, .func (.func 140) #[] #[.pointer (some ⟨bentry0, 0, none⟩), .pointer (some ⟨bentry1, 0, none⟩)]), (7, .slice a1 l1.length l1.length)]) (by kernel_rfl) ?_
  refine Run_seq ?_
  refine Run_seq ?_
  refine Run_reg 3 (by kernel_rfl) (L' := [(1, .int .i64 n_), (2, .func (.func 140) #[] #[.pointer (some ⟨bentry0, 0, none⟩), .pointer (some ⟨bentry1, 0, none⟩)]), (7, .slice a1 l1.length l1.length), (13, .int .i64 (l1.length : Int)), (14, .int .i64 0)]) ?_ ?_
  · refine QRun_b [.slice a1 l1.length l1.length, .int .i64 (l1.length : Int), .int .i64 0] 0 _ (by kernel_rfl) (fun w => by kernel_rfl) ?_
    exact QRun_done [1, 2, 7, 13, 14] (by kernel_rfl) (by kernel_rfl)
  obtain ⟨x1, gx1, hF⟩ := M.bind_some hF
  obtain ⟨hloy1, hhiy1, gx1⟩ := M.for_start gx1
  refine Run_join (fun L' h' => L' = [(7, .slice a1 l1.length l1.length)] ∧ Hold h h' [own cd23 a1 l1.length l1.length x1]) ?_ ?_
  · rintro _ h3 ⟨rfl, H3⟩
    refine Run_seq ?_
    refine Run_reg 2 (by kernel_rfl) (L' := [(6, .slice a1 l1.length l1.length)]) ?_ ?_
    · refine QRun_b [.slice a1 l1.length l1.length, .slice a1 l1.length l1.length] 0 _ (by kernel_rfl) (fun w => by kernel_rfl) ?_
      exact QRun_done [6] (by kernel_rfl) (by kernel_rfl)
    have hF := M.ret_some hF
    subst hF
    have H20 := H3.norm
    exact Run_ret1 rfl (ResV_tmp (v := .slice a1 l1.length l1.length) (by kernel_rfl)) ⟨a1, l1.length, (by simp only [(H3.len 0 rfl)]), H20⟩
  · refine Run_block ?_
    refine Run_keep [1, 2, 7, 13, 14] (L' := [(1, .int .i64 n_), (2, .func (.func 140) #[] #[.pointer (some ⟨bentry0, 0, none⟩), .pointer (some ⟨bentry1, 0, none⟩)]), (7, .slice a1 l1.length l1.length), (13, .int .i64 (l1.length : Int)), (14, .int .i64 0)]) (by kernel_rfl) ?_
    refine Run_loop (fun m L' h' => ∃ (i1 : Int) (s1 : (List (List Int))), 0 ≤ i1 ∧ M.forN (l1.length : Int) _ _ n m i1 s1 = some x1 ∧ L' = [(1, .int .i64 n_), (2, .func (.func 140) #[] #[.pointer (some ⟨bentry0, 0, none⟩), .pointer (some ⟨bentry1, 0, none⟩)]), (7, .slice a1 l1.length l1.length), (13, .int .i64 (l1.length : Int)), (14, .int .i64 i1)] ∧ Hold h h' [own cd23 a1 l1.length l1.length s1]) ((l1.length : Int) - 0 : Int).toNat ⟨0, l1, Int.le_refl _, gx1, rfl, H1⟩ ?_
    rintro my1 _ h2 ⟨i1, s1, hloy1', gx1, rfl, H2⟩
    refine Run_seq ?_
    refine Run_reg 1 (by kernel_rfl) (L' := [(1, .int .i64 n_), (2, .func (.func 140) #[] #[.pointer (some ⟨bentry0, 0, none⟩), .pointer (some ⟨bentry1, 0, none⟩)]), (7, .slice a1 l1.length l1.length), (13, .int .i64 (l1.length : Int)), (14, .int .i64 i1), (15, .bool (decide (i1 < (l1.length : Int))))]) ?_ ?_
    · refine QRun_b [.bool (decide (i1 < (l1.length : Int)))] 0 _ (by kernel_rfl) (fun w => by kernel_rfl) ?_
      exact QRun_done [1, 2, 7, 13, 14, 15] (by kernel_rfl) (by kernel_rfl)
    refine Run_seq ?_
    refine Run_cond (b := decide (i1 < (l1.length : Int))) (by kernel_rfl) (fun hb1 => ?_) (fun hb1 => ?_)
    · obtain ⟨my1, y1, rfl, hB1, hgoy1, houty1⟩ := M.for_go gx1 hb1
      have hlty1 := of_decide_eq_true hb1
      refine Run_skip ?_
      refine Run_seq ?_
      refine Run_block ?_
      refine Run_seq ?_
      refine Run_reg 2 (by kernel_rfl) (L' := [(1, .int .i64 n_), (2, .func (.func 140) #[] #[.pointer (some ⟨bentry0, 0, none⟩), .pointer (some ⟨bentry1, 0, none⟩)]), (7, .slice a1 l1.length l1.length), (8, .int .i64 i1), (13, .int .i64 (l1.length : Int)), (14, .int .i64 i1)]) ?_ ?_
      · refine QRun_b [.int .i64 i1, .int .i64 i1] 0 _ (by kernel_rfl) (fun w => by kernel_rfl) ?_
        exact QRun_done [1, 2, 7, 8, 13, 14] (by kernel_rfl) (by kernel_rfl)
      refine Run_seq ?_
      refine Run_ops ?_
      refine Run_b [.slice a1 l1.length l1.length, .int .i64 i1, .int .i64 n_] 0 _ (by kernel_rfl) (fun w => by kernel_rfl) ?_
      obtain ⟨l2, hl2, hB1⟩ := M.bind_some hB1
      have hl2 := M.make_some hl2
      refine Run_E (by kernel_rfl) ?_
      refine E_make cd2 0 (kl := .i64) (kc := .i64) H2 cd2_ti Try.underlying23 (by decide) cd2_zero (by kernel_rfl) hl2 (fun a2 h4 H4 => ?_)
      obtain ⟨x2, hx1, hB1⟩ := M.bind_some hB1
      obtain ⟨hx1l, hx1u, hx1⟩ := M.idx_some hx1
      refine Run_y (.pointer (some (adr a1 (i1.toNat * 1)))) (by kernel_rfl) (Y_idx (t := 22) (e := 23) (sz := 1) (a := a1) (n := l1.length) (cap := l1.length) (kk := .i64) (i := i1) (by kernel_rfl) Try.underlying22 (by kernel_rfl) ((H4.rd 1 rfl).cell hx1).1 hx1l (by rw [← (H4.len 1 rfl)]; exact hx1u)) ?_
      obtain ⟨l3, hu1, hB1⟩ := M.bind_some hB1
      have hu1 := M.upd_some hu1
      have H6 : Hold h h4 [own cd23 a1 l1.length l1.length s1, own cd2 a2 l2.length l2.length l2] := H4.pick [1, 0] (by kernel_rfl)
      have H7 : Hold h h4 [own cd2 a2 l2.length l2.length l2, own cd23 a1 l1.length l1.length s1] := H6.pick [1, 0] (by kernel_rfl)
      have H8 : Hold h h4 [own cd23 a1 l1.length l1.length s1, own cd2 a2 l2.length l2.length l2] := H7.pick [1, 0] (by kernel_rfl)
      refine Run_E (by kernel_rfl) ?_
      refine E_putRow (t := 23) (j := i1) H8 (by kernel_rfl) (by kernel_rfl) hu1 (fun h5 H5 => ?_)
      refine Run_nil (by kernel_rfl) ?_
      refine Run_keep [1, 2, 7, 8, 13, 14] (L' := [(1, .int .i64 n_), (2, .func (.func 140) #[] #[.pointer (some ⟨bentry0, 0, none⟩), .pointer (some ⟨bentry1, 0, none⟩)]), (7, .slice a1 l1.length l1.length), (8, .int .i64 i1), (13, .int .i64 (l1.length : Int)), (14, .int .i64 i1)]) (by kernel_rfl) ?_
      refine Run_seq ?_
      obtain ⟨x3, hx2, hB1⟩ := M.bind_some hB1
      obtain ⟨hx2l, hx2u, hx2⟩ := M.idx_some hx2
      have H9 := H5.toRows
      obtain ⟨a3, c1, H10⟩ := H9.pinRow hx2
      refine Run_reg 6 (by kernel_rfl) (L' := [(1, .int .i64 n_), (2, .func (.func 140) #[] #[.pointer (some ⟨bentry0, 0, none⟩), .pointer (some ⟨bentry1, 0, none⟩)]), (7, .slice a1 l1.length l1.length), (8, .int .i64 i1), (13, .int .i64 (l1.length : Int)), (14, .int .i64 i1), (26, .int .i64 (x3.length : Int)), (27, .int .i64 0)]) ?_ ?_
      · refine QRun_b [.slice a1 l1.length l1.length, .int .i64 i1] 0 _ (by kernel_rfl) (fun w => by kernel_rfl) ?_
        refine QRun_y (.pointer (some (adr a1 (i1.toNat * 1)))) (by kernel_rfl) (Y_idx (t := 22) (e := 23) (sz := 1) (a := a1) (n := l1.length) (cap := l1.length) (kk := .i64) (i := i1) (by kernel_rfl) Try.underlying22 (by kernel_rfl) ((H5.rd 0 rfl).cell hx2).1 hx2l (by rw [← (H5.len 0 rfl)]; exact hx2u)) ?_
        refine QRun_y (.slice a3 x3.length c1) (by kernel_rfl) (Y_load1 (t := 23) (p := adr a1 (i1.toNat * 1)) (v := .slice a3 x3.length c1) (by kernel_rfl) (fun w => by kernel_rfl) (H10.cellPin 0 rfl 0 rfl)) ?_
        refine QRun_b [.int .i64 (x3.length : Int), .int .i64 0] 4 _ (by kernel_rfl) (fun w => by kernel_rfl) ?_
        exact QRun_done [1, 2, 7, 8, 13, 14, 26, 27] (by kernel_rfl) (by kernel_rfl)
      obtain ⟨x4, gx4, hB1⟩ := M.bind_some hB1
      obtain ⟨hloy2, hhiy2, gx4⟩ := M.for_start gx4
      refine Run_join (fun L' h' => L' = [(1, .int .i64 n_), (2, .func (.func 140) #[] #[.pointer (some ⟨bentry0, 0, none⟩), .pointer (some ⟨bentry1, 0, none⟩)]), (7, .slice a1 l1.length l1.length), (13, .int .i64 (l1.length : Int)), (14, .int .i64 i1)] ∧ Hold h h' [own cd23 a1 l1.length l1.length x4]) ?_ ?_
      · rintro _ h7 ⟨rfl, H12⟩
        refine Run_blk ?_
        refine Run_reg 2 (by kernel_rfl) (L' := [(1, .int .i64 n_), (2, .func (.func 140) #[] #[.pointer (some ⟨bentry0, 0, none⟩), .pointer (some ⟨bentry1, 0, none⟩)]), (7, .slice a1 l1.length l1.length), (13, .int .i64 (l1.length : Int)), (14, .int .i64 (i1 + 1))]) ?_ ?_
        · refine QRun_y (.int .i64 (i1 + 1)) (by kernel_rfl) (Y_eq (v := .int .i64 (w64 (i1 + 1))) (Y_pure (fun w => by kernel_rfl)) (by rw [w64_eq _ (by omega)])) ?_
          refine QRun_b [.int .i64 (i1 + 1)] 1 _ (by kernel_rfl) (fun w => by kernel_rfl) ?_
          exact QRun_done [1, 2, 7, 13, 14] (by kernel_rfl) (by kernel_rfl)
        have hB1 := M.ret_some hB1
        have gx1 := hgoy1 _ hB1.symm
        exact Run_again [1, 2, 7, 13, 14] (by kernel_rfl) my1 (Nat.lt_succ_self _) ⟨i1 + 1, x4, by omega, gx1, rfl, H12⟩
      · refine Run_block ?_
        have H19 := H10.ofRows
        refine Run_keep [1, 2, 7, 8, 13, 14, 26, 27] (L' := [(1, .int .i64 n_), (2, .func (.func 140) #[] #[.pointer (some ⟨bentry0, 0, none⟩), .pointer (some ⟨bentry1, 0, none⟩)]), (7, .slice a1 l1.length l1.length), (8, .int .i64 i1), (13, .int .i64 (l1.length : Int)), (14, .int .i64 i1), (26, .int .i64 (x3.length : Int)), (27, .int .i64 0)]) (by kernel_rfl) ?_
        refine Run_loop (fun m L' h' => ∃ (i2 : Int) (s2 : (List (List Int))), 0 ≤ i2 ∧ M.forN (x3.length : Int) _ _ n m i2 s2 = some x4 ∧ L' = [(1, .int .i64 n_), (2, .func (.func 140) #[] #[.pointer (some ⟨bentry0, 0, none⟩), .pointer (some ⟨bentry1, 0, none⟩)]), (7, .slice a1 l1.length l1.length), (8, .int .i64 i1), (13, .int .i64 (l1.length : Int)), (14, .int .i64 i1), (26, .int .i64 (x3.length : Int)), (27, .int .i64 i2)] ∧ Hold h h' [own cd23 a1 l1.length l1.length s2]) ((x3.length : Int) - 0 : Int).toNat ⟨0, l3, Int.le_refl _, gx4, rfl, H19⟩ ?_
        rintro my2 _ h6 ⟨i2, s2, hloy2', gx4, rfl, H11⟩
        refine Run_seq ?_
        refine Run_reg 1 (by kernel_rfl) (L' := [(1, .int .i64 n_), (2, .func (.func 140) #[] #[.pointer (some ⟨bentry0, 0, none⟩), .pointer (some ⟨bentry1, 0, none⟩)]), (7, .slice a1 l1.length l1.length), (8, .int .i64 i1), (13, .int .i64 (l1.length : Int)), (14, .int .i64 i1), (26, .int .i64 (x3.length : Int)), (27, .int .i64 i2), (28, .bool (decide (i2 < (x3.length : Int))))]) ?_ ?_
        · refine QRun_b [.bool (decide (i2 < (x3.length : Int)))] 0 _ (by kernel_rfl) (fun w => by kernel_rfl) ?_
          exact QRun_done [1, 2, 7, 8, 13, 14, 26, 27, 28] (by kernel_rfl) (by kernel_rfl)
        refine Run_seq ?_
        refine Run_cond (b := decide (i2 < (x3.length : Int))) (by kernel_rfl) (fun hb2 => ?_) (fun hb2 => ?_)
        · obtain ⟨my2, y2, rfl, hB2, hgoy2, houty2⟩ := M.for_go gx4 hb2
          have hlty2 := of_decide_eq_true hb2
          refine Run_skip ?_
          refine Run_seq ?_
          refine Run_block ?_
          refine Run_seq ?_
          refine Run_reg 2 (by kernel_rfl) (L' := [(1, .int .i64 n_), (2, .func (.func 140) #[] #[.pointer (some ⟨bentry0, 0, none⟩), .pointer (some ⟨bentry1, 0, none⟩)]), (7, .slice a1 l1.length l1.length), (8, .int .i64 i1), (9, .int .i64 i2), (13, .int .i64 (l1.length : Int)), (14, .int .i64 i1), (26, .int .i64 (x3.length : Int)), (27, .int .i64 i2)]) ?_ ?_
          · refine QRun_b [.int .i64 i2, .int .i64 i2] 0 _ (by kernel_rfl) (fun w => by kernel_rfl) ?_
            exact QRun_done [1, 2, 7, 8, 9, 13, 14, 26, 27] (by kernel_rfl) (by kernel_rfl)
          obtain ⟨x5, hx3, hB2⟩ := M.bind_some hB2
          obtain ⟨hx3l, hx3u, hx3⟩ := M.idx_some hx3
          have H13 := H11.toRows
          obtain ⟨a4, c2, H14⟩ := H13.pinRow hx3
          obtain ⟨x6, hx4, hB2⟩ := M.bind_some hB2
          obtain ⟨x7, hx5, hB2⟩ := M.bind_some hB2
          obtain ⟨hx5l, hx5u, hx5⟩ := M.idx_some hx5
          refine Run_D (fun x => Hold h x [rowsP cd2 23 a1 l1.length l1.length s2 [(i1.toNat, a4, x5.length, c2, x5)]]) (fun x => Hold h x [rowsP cd2 23 a1 l1.length l1.length s2 [(i1.toNat, a4, x5.length, c2, x5)]]) mixed (by kernel_rfl) H14 Hold.stable (fun x Hy => (show Hold h x [rowsP cd2 23 a1 l1.length l1.length s2 [(i1.toNat, a4, x5.length, c2, x5)]] from Hy).pick [0] (by kernel_rfl)) ?_
          refine DR_b 9 [.slice a1 l1.length l1.length, .int .i64 i1] 0 (by kernel_rfl) (by kernel_rfl) (by kernel_rfl) (fun w => by kernel_rfl) ?_
          refine DR_y 8 (i := 2) (.pointer (some (adr a1 (i1.toNat * 1)))) (by kernel_rfl) (by kernel_rfl) (by kernel_rfl) (fun hx Hx => (YE.of (Y_idx (t := 22) (e := 23) (sz := 1) (a := a1) (n := l1.length) (cap := l1.length) (kk := .i64) (i := i1) (by kernel_rfl) Try.underlying22 (by kernel_rfl) ((H11.rd 0 rfl).cell hx3).1 hx3l (by rw [← (H11.len 0 rfl)]; exact hx3u)))) ?_
          refine DR_y 7 (i := 3) (.slice a4 x5.length c2) (by kernel_rfl) (by kernel_rfl) (by kernel_rfl) (fun hx Hx => (YE.of (Y_load1 (t := 23) (p := adr a1 (i1.toNat * 1)) (v := .slice a4 x5.length c2) (by kernel_rfl) (fun w => by kernel_rfl) (Hx.cellPin 0 rfl 0 rfl)))) ?_
          refine DR_b 3 [.int .i64 i2, .func (.func 140) #[] #[.pointer (some ⟨bentry0, 0, none⟩), .pointer (some ⟨bentry1, 0, none⟩)], .int .i64 i1, .int .i64 i2] 4 (by kernel_rfl) (by kernel_rfl) (by kernel_rfl) (fun w => by kernel_rfl) ?_
          refine DR_y 2 (i := 8) (.int .i64 x6) (by kernel_rfl) (by kernel_rfl) (by kernel_rfl) (fun hx Hx => (YE.of (Y_callq (f := 140) (args := #[.int .i64 i1, .int .i64 i2, .pointer (some ⟨bentry0, 0, none⟩), .pointer (some ⟨bentry1, 0, none⟩)]) (v := .int .i64 x6) (by kernel_rfl) (w_impl_multiply_1 hx i1 i2 entry0 aentry0 centry0 (rentry0.at Hx.ext) bentry0 (ventry0.at Hx.ext) entry1 aentry1 centry1 (rentry1.at Hx.ext) bentry1 (ventry1.at Hx.ext) _ _ hx4)))) ?_
          refine DR_y 1 (i := 9) (.pointer (some (adr a4 (i2.toNat * 1)))) (by kernel_rfl) (by kernel_rfl) (by kernel_rfl) (fun hx Hx => (YE.of (Y_idx (t := 23) (e := 2) (sz := 1) (a := a4) (n := x5.length) (cap := c2) (kk := .i64) (i := i2) (by kernel_rfl) Try.underlying23 (by kernel_rfl) ((H14.rdPin 0 rfl 0 rfl).cell hx5).1 hx5l hx5u))) ?_
          refine DR_tail (i := 10) (by kernel_rfl) (by kernel_rfl) (by kernel_rfl) (fun h8 H15 => ?_)
          have H16 : Hold h h8 [rowsP cd2 23 a1 l1.length l1.length s2 [(i1.toNat, a4, x5.length, c2, x5)]] := H15
          obtain ⟨l4, hu2, hB2⟩ := M.bind_some hB2
          have hu2 := M.upd_some hu2
          refine Run_E (by kernel_rfl) ?_
          refine E_put2 (C := cd2) (t := 2) (sz := 1) (j := i2) (x := x6) (v := .int .i64 x6) (m2 := s2.set i1.toNat l4) H16 cd2_flat 0 rfl (by kernel_rfl) rfl (cd2_own _) (by kernel_rfl) hu2 rfl (fun h9 H17 => ?_)
          refine Run_nil (by kernel_rfl) ?_
          refine Run_keep [1, 2, 7, 8, 13, 14, 26, 27] (L' := [(1, .int .i64 n_), (2, .func (.func 140) #[] #[.pointer (some ⟨bentry0, 0, none⟩), .pointer (some ⟨bentry1, 0, none⟩)]), (7, .slice a1 l1.length l1.length), (8, .int .i64 i1), (13, .int .i64 (l1.length : Int)), (14, .int .i64 i1), (26, .int .i64 (x3.length : Int)), (27, .int .i64 i2)]) (by kernel_rfl) ?_
          refine Run_blk ?_
          refine Run_reg 2 (by kernel_rfl) (L' := [(1, .int .i64 n_), (2, .func (.func 140) #[] #[.pointer (some ⟨bentry0, 0, none⟩), .pointer (some ⟨bentry1, 0, none⟩)]), (7, .slice a1 l1.length l1.length), (8, .int .i64 i1), (13, .int .i64 (l1.length : Int)), (14, .int .i64 i1), (26, .int .i64 (x3.length : Int)), (27, .int .i64 (i2 + 1))]) ?_ ?_
          · refine QRun_y (.int .i64 (i2 + 1)) (by kernel_rfl) (Y_eq (v := .int .i64 (w64 (i2 + 1))) (Y_pure (fun w => by kernel_rfl)) (by rw [w64_eq _ (by omega)])) ?_
            refine QRun_b [.int .i64 (i2 + 1)] 1 _ (by kernel_rfl) (fun w => by kernel_rfl) ?_
            exact QRun_done [1, 2, 7, 8, 13, 14, 26, 27] (by kernel_rfl) (by kernel_rfl)
          have H18 := H17.ofRows
          have hB2 := M.ret_some hB2
          have gx4 := hgoy2 _ hB2.symm
          exact Run_again [1, 2, 7, 8, 13, 14, 26, 27] (by kernel_rfl) my2 (Nat.lt_succ_self _) ⟨i2 + 1, (s2.set i1.toNat l4), by omega, gx4, rfl, H18⟩
        · have gx4 := M.for_end gx4 hb2
          subst gx4
          refine Run_exit (k' := _) rfl ?_
          exact Run_fall [1, 2, 7, 13, 14] (by kernel_rfl) ⟨rfl, H11⟩
    · have gx1 := M.for_end gx1 hb1
      subst gx1
      refine Run_exit (k' := _) rfl ?_
      exact Run_fall [7] (by kernel_rfl) ⟨rfl, H2⟩

set_option maxRecDepth 100000 in
set_option maxHeartbeats 4000000 in
theorem w_impl_multiply (h : Heap) (a_ : List (List Int)) (aa_ : Option Addr) (ca_ : Nat) (ra_ : Rd cd23 h (Lt h) aa_ ca_ a_) (b : List (List Int)) (ab : Option Addr) (cb : Nat) (rb : Rd cd23 h (Lt h) ab cb b) (n : Nat) (r : (List (List Int))) (hF : impl_multiply a_ b n = some r) :
    Fn Try.prog 85 #[.slice aa_ a_.length ca_, .slice ab b.length cb] h fun v h' => ∃ (a0 : Option Addr) (c0 : Nat), v = .slice a0 r.length c0 ∧ Hold h h' [own cd23 a0 r.length c0 r] := by
  unfold impl_multiply at hF
  refine Fn_enter (args := [.slice aa_ a_.length ca_, .slice ab b.length cb]) Try.func85 rfl (by kernel_rfl) (by kernel_rfl) (fun w0 _ => ?_)
  have H0 := Hold.init h
  refine Run_seq ?_
  refine Run_ops ?_
  refine Run_E (by kernel_rfl) ?_
  refine E_box (ty := 22) (cs := [.slice aa_ a_.length ca_]) H0 (fun w => by kernel_rfl) (fun b1 h1 H1 => ?_)
  refine Run_E (by kernel_rfl) ?_
  refine E_box (ty := 22) (cs := [.slice ab b.length cb]) H1 (fun w => by kernel_rfl) (fun b2 h2 H2 => ?_)
  refine Run_b [.slice none 0 0] 2 _ (by kernel_rfl) (fun w => by kernel_rfl) ?_
  refine Run_nil (by kernel_rfl) ?_
  refine Run_keep [2, 3] (L' := [(2, .pointer (some ⟨b1, 0, none⟩)), (3, .pointer (some ⟨b2, 0, none⟩))]) (by kernel_rfl) ?_
  refine Run_seq ?_
  obtain ⟨x1, hx1, hF⟩ := M.bind_some hF
  obtain ⟨hx1l, hx1u, hx1⟩ := M.idx_some hx1
  obtain ⟨a1, c1, hc1, r1⟩ := rb.row hx1
  refine Run_D (fun x => Hold h x [box b2 22 [.slice ab b.length cb], box b1 22 [.slice aa_ a_.length ca_]]) (fun x => Hold h x [box b2 22 [.slice ab b.length cb], box b1 22 [.slice aa_ a_.length ca_]]) mixed (by kernel_rfl) H2 Hold.stable (fun x Hy => (show Hold h x [box b2 22 [.slice ab b.length cb], box b1 22 [.slice aa_ a_.length ca_]] from Hy).pick [0, 1] (by kernel_rfl)) ?_
  refine DR_y 8 (i := 0) (.slice aa_ a_.length ca_) (by kernel_rfl) (by kernel_rfl) (by kernel_rfl) (fun hx Hx => (YE.of (Y_load1 (t := 22) (p := ⟨b1, 0, none⟩) (v := .slice aa_ a_.length ca_) (by kernel_rfl) (fun w => by kernel_rfl) (Hx.cell 1 rfl rfl)))) ?_
  refine DR_b 7 [.int .i64 (a_.length : Int)] 1 (by kernel_rfl) (by kernel_rfl) (by kernel_rfl) (fun w => by kernel_rfl) ?_
  refine DR_y 6 (i := 2) (.slice ab b.length cb) (by kernel_rfl) (by kernel_rfl) (by kernel_rfl) (fun hx Hx => (YE.of (Y_load1 (t := 22) (p := ⟨b2, 0, none⟩) (v := .slice ab b.length cb) (by kernel_rfl) (fun w => by kernel_rfl) (Hx.cell 0 rfl rfl)))) ?_
  refine DR_y 5 (i := 3) (.pointer (some (adr ab (0 * 1)))) (by kernel_rfl) (by kernel_rfl) (by kernel_rfl) (fun hx Hx => (YE.of (Y_idx (t := 22) (e := 23) (sz := 1) (a := ab) (n := b.length) (cap := cb) (kk := .i64) (i := 0) (by kernel_rfl) Try.underlying22 (by kernel_rfl) ((rb.at H2.ext).cell hx1).1 hx1l hx1u))) ?_
  refine DR_y 4 (i := 4) (.slice a1 x1.length c1) (by kernel_rfl) (by kernel_rfl) (by kernel_rfl) (fun hx Hx => (YE.of (Y_load1 (t := 23) (p := adr ab (0 * 1)) (v := .slice a1 x1.length c1) (by kernel_rfl) (fun w => by kernel_rfl) (cell_at Hx.ext hc1)))) ?_
  refine DR_b 2 [.int .i64 (x1.length : Int), .func (.func 140) #[] #[.pointer (some ⟨b1, 0, none⟩), .pointer (some ⟨b2, 0, none⟩)]] 5 (by kernel_rfl) (by kernel_rfl) (by kernel_rfl) (fun w => by kernel_rfl) ?_
  refine DR_tail (i := 7) (by kernel_rfl) (by kernel_rfl) (by kernel_rfl) (fun h3 H3 => ?_)
  have H4 : Hold h h3 [box b2 22 [.slice ab b.length cb], box b1 22 [.slice aa_ a_.length ca_]] := H3
  obtain ⟨x2, hx2, hF⟩ := M.bind_some hF
  refine Run_E (by kernel_rfl) ?_
  refine E_call (f := 137) (args := #[.int .i64 (a_.length : Int), .int .i64 (x1.length : Int), .func (.func 140) #[] #[.pointer (some ⟨b1, 0, none⟩), .pointer (some ⟨b2, 0, none⟩)]]) (w_impl_matrixBy_F_impl_multiply_1 h3 (a_.length : Int) (x1.length : Int) a_ aa_ ca_ (ra_.at H4.ext) b1 (H4.var 1 rfl) b ab cb (rb.at H4.ext) b2 (H4.var 0 rfl) _ _ hx2) (by kernel_rfl) (fun v1 h4 hp1 => ?_)
  obtain ⟨a2, c2, rfl, H5⟩ := hp1
  have H6 : Hold h h4 [own cd23 a2 x2.length c2 x2, box b2 22 [.slice ab b.length cb], box b1 22 [.slice aa_ a_.length ca_]] := H4.call H5 rfl
  refine Run_b [.slice a2 x2.length c2] 8 _ (by kernel_rfl) (fun w => by kernel_rfl) ?_
  refine Run_nil (by kernel_rfl) ?_
  refine Run_keep [4] (L' := [(4, .slice a2 x2.length c2)]) (by kernel_rfl) ?_
  have hF := M.ret_some hF
  subst hF
  have H7 : Hold h h4 [own cd23 a2 x2.length c2 x2] := H6.pick [0] (by kernel_rfl)
  exact Run_ret1 rfl (ResV_tmp (v := .slice a2 x2.length c2) (by kernel_rfl)) ⟨a2, c2, rfl, H7⟩

set_option maxRecDepth 100000 in
set_option maxHeartbeats 4000000 in
theorem w_impl_checkedMatrix_1 (h : Heap) (row : List Int) {Srow : Bs} (arow : Option Addr) (crow : Nat) (rrow : Rd cd2 h Srow arow crow row) (n : Nat) (r : Bool) (hF : impl_checkedMatrix_1 row n = some r) :
    Fn Try.prog 139 #[.slice arow row.length crow] h fun v h' => v = .bool r ∧ h' = h := by
  unfold impl_checkedMatrix_1 at hF
  refine Fn_enter (args := [.slice arow row.length crow]) Try.func139 rfl (by kernel_rfl) (by kernel_rfl) (fun w0 _ => ?_)
  refine Run_seq ?_
  refine Run_reg 1 (by kernel_rfl) (L' := [(0, .slice arow row.length crow)]) ?_ ?_
  · refine QRun_b [.bool false] 0 _ (by kernel_rfl) (fun w => by kernel_rfl) ?_
    exact QRun_done [0] (by kernel_rfl) (by kernel_rfl)
  refine Run_seq ?_
  obtain ⟨x1, hx1, hF⟩ := M.bind_some hF
  refine Run_reg 4 (by kernel_rfl) (L' := [(2, .bool (!x1))]) ?_ ?_
  · refine QRun_b [.slice arow row.length crow] 0 _ (by kernel_rfl) (fun w => by kernel_rfl) ?_
    refine QRun_y (.bool x1) (by kernel_rfl) (Y_callq (f := 102) (args := #[.slice arow row.length crow]) (v := .bool x1) (by kernel_rfl) (w_impl_areValues h row arow crow rrow _ _ hx1)) ?_
    refine QRun_b [.bool (!x1), .bool (!x1)] 2 _ (by kernel_rfl) (fun w => by kernel_rfl) ?_
    exact QRun_done [2] (by kernel_rfl) (by kernel_rfl)
  have hF := M.ret_some hF
  subst hF
  exact Run_ret1 rfl (ResV_tmp (v := .bool (!x1)) (by kernel_rfl)) ⟨rfl, rfl⟩

set_option maxRecDepth 100000 in
set_option maxHeartbeats 4000000 in
theorem w_slices_IndexFunc_row_F_impl_checkedMatrix_1 (h : Heap) (s_ : List (List Int)) {Ss_ : Bs} (as_ : Option Addr) (cs_ : Nat) (rs_ : Rd cd23 h Ss_ as_ cs_ s_) (n : Nat) (r : Int) (hF : slices_IndexFunc_row_F_impl_checkedMatrix_1 s_ n = some r) :
    Fn Try.prog 154 #[.slice as_ s_.length cs_, .func (.func 139) #[] #[]] h fun v h' => v = .int .i64 r ∧ h' = h := by
  unfold slices_IndexFunc_row_F_impl_checkedMatrix_1 at hF
  refine Fn_enter (args := [.slice as_ s_.length cs_, .func (.func 139) #[] #[]]) Try.func154 rfl (by kernel_rfl) (by kernel_rfl) (fun w0 _ => ?_)
  refine Run_seq ?_
  refine Run_reg 1 (by kernel_rfl) (L' := [(0, .slice as_ s_.length cs_), (1, .func (.func 139) #[] #[])]) ?_ ?_
  · refine QRun_b [.int .i64 0] 0 _ (by kernel_rfl) (fun w => by kernel_rfl) ?_
    exact QRun_done [0, 1] (by kernel_rfl) (by kernel_rfl)
  refine Run_seq ?_
  refine Run_seq ?_
  refine Run_reg 3 (by kernel_rfl) (L' := [(0, .slice as_ s_.length cs_), (1, .func (.func 139) #[] #[]), (7, .int .i64 (s_.length : Int)), (8, .int .i64 0)]) ?_ ?_
  · refine QRun_b [.slice as_ s_.length cs_, .int .i64 (s_.length : Int), .int .i64 0] 0 _ (by kernel_rfl) (fun w => by kernel_rfl) ?_
    exact QRun_done [0, 1, 7, 8] (by kernel_rfl) (by kernel_rfl)
  obtain ⟨x1, gx1, hF⟩ := M.bind_some hF
  obtain ⟨hloy1, hhiy1, gx1⟩ := M.for_start gx1
  refine Run_join (fun L' h' => ∃ (s2 : Unit), x1 = .inl s2 ∧ L' = [] ∧ h = h') ?_ ?_
  · rintro _ _ ⟨s2, es2, rfl, rfl⟩
    have hF := M.cont_inl' hF es2
    refine Run_seq ?_
    refine Run_reg 1 (by kernel_rfl) (L' := [(4, .int .i64 (-1))]) ?_ ?_
    · refine QRun_b [.int .i64 (-1)] 0 _ (by kernel_rfl) (fun w => by kernel_rfl) ?_
      exact QRun_done [4] (by kernel_rfl) (by kernel_rfl)
    have hF := M.ret_some hF
    subst hF
    exact Run_ret1 rfl (ResV_tmp (v := .int .i64 (-1)) (by kernel_rfl)) ⟨rfl, rfl⟩
  · refine Run_block ?_
    refine Run_keep [0, 1, 7, 8] (L' := [(0, .slice as_ s_.length cs_), (1, .func (.func 139) #[] #[]), (7, .int .i64 (s_.length : Int)), (8, .int .i64 0)]) (by kernel_rfl) ?_
    refine Run_loop (fun m L' h' => ∃ (i1 : Int) (s1 : Unit), 0 ≤ i1 ∧ M.forN (s_.length : Int) _ _ n m i1 s1 = some x1 ∧ L' = [(0, .slice as_ s_.length cs_), (1, .func (.func 139) #[] #[]), (7, .int .i64 (s_.length : Int)), (8, .int .i64 i1)] ∧ h = h') ((s_.length : Int) - 0 : Int).toNat ⟨0, (), Int.le_refl _, gx1, rfl, rfl⟩ ?_
    rintro my1 _ _ ⟨i1, s1, hloy1', gx1, rfl, rfl⟩
    refine Run_seq ?_
    refine Run_reg 1 (by kernel_rfl) (L' := [(0, .slice as_ s_.length cs_), (1, .func (.func 139) #[] #[]), (7, .int .i64 (s_.length : Int)), (8, .int .i64 i1), (9, .bool (decide (i1 < (s_.length : Int))))]) ?_ ?_
    · refine QRun_b [.bool (decide (i1 < (s_.length : Int)))] 0 _ (by kernel_rfl) (fun w => by kernel_rfl) ?_
      exact QRun_done [0, 1, 7, 8, 9] (by kernel_rfl) (by kernel_rfl)
    refine Run_seq ?_
    refine Run_cond (b := decide (i1 < (s_.length : Int))) (by kernel_rfl) (fun hb1 => ?_) (fun hb1 => ?_)
    · obtain ⟨my1, y1, rfl, hB1, hgoy1, houty1⟩ := M.for_go gx1 hb1
      have hlty1 := of_decide_eq_true hb1
      refine Run_skip ?_
      refine Run_seq ?_
      refine Run_block ?_
      refine Run_seq ?_
      refine Run_reg 2 (by kernel_rfl) (L' := [(0, .slice as_ s_.length cs_), (1, .func (.func 139) #[] #[]), (5, .int .i64 i1), (7, .int .i64 (s_.length : Int)), (8, .int .i64 i1)]) ?_ ?_
      · refine QRun_b [.int .i64 i1, .int .i64 i1] 0 _ (by kernel_rfl) (fun w => by kernel_rfl) ?_
        exact QRun_done [0, 1, 5, 7, 8] (by kernel_rfl) (by kernel_rfl)
      refine Run_seq ?_
      obtain ⟨x2, hx1, hB1⟩ := M.bind_some hB1
      obtain ⟨hx1l, hx1u, hx1⟩ := M.idx_some hx1
      obtain ⟨a1, c1, hc1, r1⟩ := rs_.row hx1
      obtain ⟨x3, hx2, hB1⟩ := M.bind_some hB1
      refine Run_reg 6 (by kernel_rfl) (L' := [(0, .slice as_ s_.length cs_), (1, .func (.func 139) #[] #[]), (5, .int .i64 i1), (7, .int .i64 (s_.length : Int)), (8, .int .i64 i1), (16, .bool x3)]) ?_ ?_
      · refine QRun_b [.func (.func 139) #[] #[], .slice as_ s_.length cs_, .int .i64 i1] 0 _ (by kernel_rfl) (fun w => by kernel_rfl) ?_
        refine QRun_y (.pointer (some (adr as_ (i1.toNat * 1)))) (by kernel_rfl) (Y_idx (t := 22) (e := 23) (sz := 1) (a := as_) (n := s_.length) (cap := cs_) (kk := .i64) (i := i1) (by kernel_rfl) Try.underlying22 (by kernel_rfl) (rs_.cell hx1).1 hx1l hx1u) ?_
        refine QRun_y (.slice a1 x2.length c1) (by kernel_rfl) (Y_load1 (t := 23) (p := adr as_ (i1.toNat * 1)) (v := .slice a1 x2.length c1) (by kernel_rfl) (fun w => by kernel_rfl) hc1) ?_
        refine QRun_y (.bool x3) (by kernel_rfl) (Y_callq (f := 139) (args := #[.slice a1 x2.length c1]) (v := .bool x3) (by kernel_rfl) (w_impl_checkedMatrix_1 h x2 a1 c1 r1 _ _ hx2)) ?_
        exact QRun_done [0, 1, 5, 7, 8, 16] (by kernel_rfl) (by kernel_rfl)
      refine Run_cond (b := x3) (by kernel_rfl) (fun hb2 => ?_) (fun hb2 => ?_)
      · have hB1 := (M.ite_some hB1).1 hb2
        refine Run_seq ?_
        refine Run_reg 2 (by kernel_rfl) (L' := [(4, .int .i64 i1)]) ?_ ?_
        · refine QRun_b [.int .i64 i1, .int .i64 i1] 0 _ (by kernel_rfl) (fun w => by kernel_rfl) ?_
          exact QRun_done [4] (by kernel_rfl) (by kernel_rfl)
        have hB1 := M.ret_some hB1
        have gx1 := houty1 _ hB1.symm
        have hF := M.cont_inr' hF gx1
        have hF := M.ret_some hF
        subst hF
        exact Run_ret1 rfl (ResV_tmp (v := .int .i64 i1) (by kernel_rfl)) ⟨rfl, rfl⟩
      · have hB1 := (M.ite_some hB1).2 hb2
        refine Run_skip ?_
        refine Run_blk ?_
        refine Run_reg 2 (by kernel_rfl) (L' := [(0, .slice as_ s_.length cs_), (1, .func (.func 139) #[] #[]), (7, .int .i64 (s_.length : Int)), (8, .int .i64 (i1 + 1))]) ?_ ?_
        · refine QRun_y (.int .i64 (i1 + 1)) (by kernel_rfl) (Y_eq (v := .int .i64 (w64 (i1 + 1))) (Y_pure (fun w => by kernel_rfl)) (by rw [w64_eq _ (by omega)])) ?_
          refine QRun_b [.int .i64 (i1 + 1)] 1 _ (by kernel_rfl) (fun w => by kernel_rfl) ?_
          exact QRun_done [0, 1, 7, 8] (by kernel_rfl) (by kernel_rfl)
        have hB1 := M.ret_some hB1
        have gx1 := hgoy1 _ hB1.symm
        exact Run_again [0, 1, 7, 8] (by kernel_rfl) my1 (Nat.lt_succ_self _) ⟨i1 + 1, (), by omega, gx1, rfl, rfl⟩
    · have gx1 := M.for_end gx1 hb1
      subst gx1
      refine Run_exit (k' := _) rfl ?_
      exact Run_fall [] (by kernel_rfl) ⟨(), rfl, rfl, rfl⟩

set_option maxRecDepth 100000 in
set_option maxHeartbeats 4000000 in
theorem w_slices_ContainsFunc_row_F_impl_checkedMatrix_1 (h : Heap) (s_ : List (List Int)) {Ss_ : Bs} (as_ : Option Addr) (cs_ : Nat) (rs_ : Rd cd23 h Ss_ as_ cs_ s_) (n : Nat) (r : Bool) (hF : slices_ContainsFunc_row_F_impl_checkedMatrix_1 s_ n = some r) :
    Fn Try.prog 135 #[.slice as_ s_.length cs_, .func (.func 139) #[] #[]] h fun v h' => v = .bool r ∧ h' = h := by
  unfold slices_ContainsFunc_row_F_impl_checkedMatrix_1 at hF
  refine Fn_enter (args := [.slice as_ s_.length cs_, .func (.func 139) #[] #[]]) Try.func135 rfl (by kernel_rfl) (by kernel_rfl) (fun w0 _ => ?_)
  refine Run_seq ?_
  refine Run_reg 1 (by kernel_rfl) (L' := [(0, .slice as_ s_.length cs_), (1, .func (.func 139) #[] #[])]) ?_ ?_
  · refine QRun_b [.bool false] 0 _ (by kernel_rfl) (fun w => by kernel_rfl) ?_
    exact QRun_done [0, 1] (by kernel_rfl) (by kernel_rfl)
  refine Run_seq ?_
  obtain ⟨x1, hx1, hF⟩ := M.bind_some hF
  refine Run_reg 5 (by kernel_rfl) (L' := [(4, .bool (decide (0 ≤ x1)))]) ?_ ?_
  · refine QRun_b [.slice as_ s_.length cs_, .func (.func 139) #[] #[]] 0 _ (by kernel_rfl) (fun w => by kernel_rfl) ?_
    refine QRun_y (.int .i64 x1) (by kernel_rfl) (Y_callq (f := 154) (args := #[.slice as_ s_.length cs_, .func (.func 139) #[] #[]]) (v := .int .i64 x1) (by kernel_rfl) (w_slices_IndexFunc_row_F_impl_checkedMatrix_1 h s_ as_ cs_ rs_ _ _ hx1)) ?_
    refine QRun_b [.bool (decide (0 ≤ x1)), .bool (decide (0 ≤ x1))] 3 _ (by kernel_rfl) (fun w => by kernel_rfl) ?_
    exact QRun_done [4] (by kernel_rfl) (by kernel_rfl)
  have hF := M.ret_some hF
  subst hF
  exact Run_ret1 rfl (ResV_tmp (v := .bool (decide (0 ≤ x1))) (by kernel_rfl)) ⟨rfl, rfl⟩

set_option maxRecDepth 100000 in
set_option maxHeartbeats 4000000 in
theorem w_impl_checkedMatrix (h : Heap) (a_ : List (List Int)) (aa_ : Option Addr) (ca_ : Nat) (ra_ : Rd cd23 h (Lt h) aa_ ca_ a_) (n : Nat) (r : (List (List Int)) × Int) (hF : impl_checkedMatrix a_ n = some r) :
    Fn Try.prog 84 #[.slice aa_ a_.length ca_] h fun v h' => ∃ (a0 : Option Addr) (c0 : Nat), v = .tuple #[.slice a0 r.1.length c0, .int .i64 r.2] ∧ Ali a0 aa_ c0 ca_ r.1 a_ ∧ Hold h h' [] := by
  unfold impl_checkedMatrix at hF
  refine Fn_enter (args := [.slice aa_ a_.length ca_]) Try.func84 rfl (by kernel_rfl) (by kernel_rfl) (fun w0 _ => ?_)
  have H0 := Hold.init h
  refine Run_seq ?_
  refine Run_reg 2 (by kernel_rfl) (L' := [(0, .slice aa_ a_.length ca_)]) ?_ ?_
  · refine QRun_b [.slice none 0 0, .int .i64 0] 0 _ (by kernel_rfl) (fun w => by kernel_rfl) ?_
    exact QRun_done [0] (by kernel_rfl) (by kernel_rfl)
  refine Run_seq ?_
  refine Run_seq ?_
  obtain ⟨x1, hx1, hF⟩ := M.bind_some hF
  refine Run_reg 2 (by kernel_rfl) (L' := [(0, .slice aa_ a_.length ca_), (5, .bool x1)]) ?_ ?_
  · refine QRun_b [.slice aa_ a_.length ca_] 0 _ (by kernel_rfl) (fun w => by kernel_rfl) ?_
    refine QRun_y (.bool x1) (by kernel_rfl) (Y_callq (f := 135) (args := #[.slice aa_ a_.length ca_, .func (.func 139) #[] #[]]) (v := .bool x1) (by kernel_rfl) (w_slices_ContainsFunc_row_F_impl_checkedMatrix_1 h a_ aa_ ca_ ra_ _ _ hx1)) ?_
    exact QRun_done [0, 5] (by kernel_rfl) (by kernel_rfl)
  refine Run_cond (b := x1) (by kernel_rfl) (fun hb1 => ?_) (fun hb1 => ?_)
  · have hF := (M.ite_some hF).1 hb1
    refine Run_seq ?_
    refine Run_reg 2 (by kernel_rfl) (L' := [(2, .slice none 0 0), (3, .int .i64 3)]) ?_ ?_
    · refine QRun_b [.slice none 0 0, .int .i64 3] 0 _ (by kernel_rfl) (fun w => by kernel_rfl) ?_
      exact QRun_done [2, 3] (by kernel_rfl) (by kernel_rfl)
    have hF := M.ret_some hF
    subst hF
    exact Run_ret2 rfl (ResV_tmp (v := .slice none 0 0) (by kernel_rfl)) (ResV_tmp (v := .int .i64 3) (by kernel_rfl)) ⟨none, 0, rfl, .inr ⟨rfl, rfl, rfl⟩, H0⟩
  · have hF := (M.ite_some hF).2 hb1
    refine Run_skip ?_
    refine Run_seq ?_
    refine Run_reg 3 (by kernel_rfl) (L' := [(2, .slice aa_ a_.length ca_), (3, .int .i64 0)]) ?_ ?_
    · refine QRun_b [.slice aa_ a_.length ca_, .slice aa_ a_.length ca_, .int .i64 0] 0 _ (by kernel_rfl) (fun w => by kernel_rfl) ?_
      exact QRun_done [2, 3] (by kernel_rfl) (by kernel_rfl)
    have hF := M.ret_some hF
    subst hF
    exact Run_ret2 rfl (ResV_tmp (v := .slice aa_ a_.length ca_) (by kernel_rfl)) (ResV_tmp (v := .int .i64 0) (by kernel_rfl)) ⟨aa_, ca_, rfl, .inl ⟨rfl, rfl, rfl⟩, H0⟩

set_option maxRecDepth 100000 in
set_option maxHeartbeats 4000000 in
theorem w_impl_growthBetween (h : Heap) (a_ : List (List Int)) {Sa_ : Bs} (aa_ : Option Addr) (ca_ : Nat) (ra_ : Rd cd23 h Sa_ aa_ ca_ a_) (b : List (List Int)) {Sb : Bs} (ab : Option Addr) (cb : Nat) (rb : Rd cd23 h Sb ab cb b) (n : Nat) (r : Int × Bool) (hF : impl_growthBetween a_ b n = some r) :
    Fn Try.prog 104 #[.slice aa_ a_.length ca_, .slice ab b.length cb] h fun v h' => v = .tuple #[.int .i64 r.1, .bool r.2] ∧ h' = h := by
  unfold impl_growthBetween at hF
  refine Fn_enter (args := [.slice aa_ a_.length ca_, .slice ab b.length cb]) Try.func104 rfl (by kernel_rfl) (by kernel_rfl) (fun w0 _ => ?_)
  refine Run_seq ?_
  refine Run_reg 2 (by kernel_rfl) (L' := [(0, .slice aa_ a_.length ca_), (1, .slice ab b.length cb)]) ?_ ?_
  · refine QRun_b [.int .i64 0, .bool false] 0 _ (by kernel_rfl) (fun w => by kernel_rfl) ?_
    exact QRun_done [0, 1] (by kernel_rfl) (by kernel_rfl)
  refine Run_seq ?_
  refine Run_reg 1 (by kernel_rfl) (L' := [(0, .slice aa_ a_.length ca_), (1, .slice ab b.length cb), (6, .int .i64 0)]) ?_ ?_
  · refine QRun_b [.int .i64 0] 0 _ (by kernel_rfl) (fun w => by kernel_rfl) ?_
    exact QRun_done [0, 1, 6] (by kernel_rfl) (by kernel_rfl)
  refine Run_seq ?_
  refine Run_reg 1 (by kernel_rfl) (L' := [(0, .slice aa_ a_.length ca_), (1, .slice ab b.length cb), (6, .int .i64 0), (7, .bool false)]) ?_ ?_
  · refine QRun_b [.bool false] 0 _ (by kernel_rfl) (fun w => by kernel_rfl) ?_
    exact QRun_done [0, 1, 6, 7] (by kernel_rfl) (by kernel_rfl)
  refine Run_seq ?_
  refine Run_seq ?_
  refine Run_reg 3 (by kernel_rfl) (L' := [(1, .slice ab b.length cb), (6, .int .i64 0), (7, .bool false), (13, .slice aa_ a_.length ca_), (14, .int .i64 (a_.length : Int)), (15, .int .i64 0)]) ?_ ?_
  · refine QRun_b [.slice aa_ a_.length ca_, .int .i64 (a_.length : Int), .int .i64 0] 0 _ (by kernel_rfl) (fun w => by kernel_rfl) ?_
    exact QRun_done [1, 6, 7, 13, 14, 15] (by kernel_rfl) (by kernel_rfl)
  obtain ⟨x1, gx1, hF⟩ := M.bind_some hF
  obtain ⟨hloy1, hhiy1, gx1⟩ := M.for_start gx1
  refine Run_join (fun L' h' => ∃ (s2 : Int × Bool), x1 = .inl s2 ∧ L' = [(6, .int .i64 s2.1)] ∧ h = h') ?_ ?_
  · rintro _ _ ⟨s2, es2, rfl, rfl⟩
    have hF := M.cont_inl' hF es2
    refine Run_seq ?_
    refine Run_reg 3 (by kernel_rfl) (L' := [(4, .int .i64 s2.1), (5, .bool true)]) ?_ ?_
    · refine QRun_b [.int .i64 s2.1, .int .i64 s2.1, .bool true] 0 _ (by kernel_rfl) (fun w => by kernel_rfl) ?_
      exact QRun_done [4, 5] (by kernel_rfl) (by kernel_rfl)
    have hF := M.ret_some hF
    subst hF
    exact Run_ret2 rfl (ResV_tmp (v := .int .i64 s2.1) (by kernel_rfl)) (ResV_tmp (v := .bool true) (by kernel_rfl)) ⟨rfl, rfl⟩
  · refine Run_block ?_
    refine Run_keep [1, 6, 7, 13, 14, 15] (L' := [(1, .slice ab b.length cb), (6, .int .i64 0), (7, .bool false), (13, .slice aa_ a_.length ca_), (14, .int .i64 (a_.length : Int)), (15, .int .i64 0)]) (by kernel_rfl) ?_
    refine Run_loop (fun m L' h' => ∃ (i1 : Int) (s1 : Int × Bool), 0 ≤ i1 ∧ M.forN (a_.length : Int) _ _ n m i1 s1 = some x1 ∧ L' = [(1, .slice ab b.length cb), (6, .int .i64 s1.1), (7, .bool s1.2), (13, .slice aa_ a_.length ca_), (14, .int .i64 (a_.length : Int)), (15, .int .i64 i1)] ∧ h = h') ((a_.length : Int) - 0 : Int).toNat ⟨0, (0, false), Int.le_refl _, gx1, rfl, rfl⟩ ?_
    rintro my1 _ _ ⟨i1, s1, hloy1', gx1, rfl, rfl⟩
    refine Run_seq ?_
    refine Run_reg 1 (by kernel_rfl) (L' := [(1, .slice ab b.length cb), (6, .int .i64 s1.1), (7, .bool s1.2), (13, .slice aa_ a_.length ca_), (14, .int .i64 (a_.length : Int)), (15, .int .i64 i1), (16, .bool (decide (i1 < (a_.length : Int))))]) ?_ ?_
    · refine QRun_b [.bool (decide (i1 < (a_.length : Int)))] 0 _ (by kernel_rfl) (fun w => by kernel_rfl) ?_
      exact QRun_done [1, 6, 7, 13, 14, 15, 16] (by kernel_rfl) (by kernel_rfl)
    refine Run_seq ?_
    refine Run_cond (b := decide (i1 < (a_.length : Int))) (by kernel_rfl) (fun hb1 => ?_) (fun hb1 => ?_)
    · obtain ⟨my1, y1, rfl, hB1, hgoy1, houty1⟩ := M.for_go gx1 hb1
      have hlty1 := of_decide_eq_true hb1
      refine Run_skip ?_
      refine Run_seq ?_
      refine Run_block ?_
      refine Run_seq ?_
      obtain ⟨x2, hx1, hB1⟩ := M.bind_some hB1
      obtain ⟨hx1l, hx1u, hx1⟩ := M.idx_some hx1
      obtain ⟨a1, c1, hc1, r1⟩ := ra_.row hx1
      refine Run_reg 5 (by kernel_rfl) (L' := [(1, .slice ab b.length cb), (6, .int .i64 s1.1), (7, .bool s1.2), (8, .int .i64 i1), (9, .slice a1 x2.length c1), (13, .slice aa_ a_.length ca_), (14, .int .i64 (a_.length : Int)), (15, .int .i64 i1)]) ?_ ?_
      · refine QRun_b [.int .i64 i1] 0 _ (by kernel_rfl) (fun w => by kernel_rfl) ?_
        refine QRun_y (.pointer (some (adr aa_ (i1.toNat * 1)))) (by kernel_rfl) (Y_idx (t := 22) (e := 23) (sz := 1) (a := aa_) (n := a_.length) (cap := ca_) (kk := .i64) (i := i1) (by kernel_rfl) Try.underlying22 (by kernel_rfl) (ra_.cell hx1).1 hx1l hx1u) ?_
        refine QRun_y (.slice a1 x2.length c1) (by kernel_rfl) (Y_load1 (t := 23) (p := adr aa_ (i1.toNat * 1)) (v := .slice a1 x2.length c1) (by kernel_rfl) (fun w => by kernel_rfl) hc1) ?_
        refine QRun_b [.int .i64 i1, .slice a1 x2.length c1] 3 _ (by kernel_rfl) (fun w => by kernel_rfl) ?_
        exact QRun_done [1, 6, 7, 8, 9, 13, 14, 15] (by kernel_rfl) (by kernel_rfl)
      refine Run_seq ?_
      refine Run_reg 3 (by kernel_rfl) (L' := [(1, .slice ab b.length cb), (6, .int .i64 s1.1), (7, .bool s1.2), (8, .int .i64 i1), (13, .slice aa_ a_.length ca_), (14, .int .i64 (a_.length : Int)), (15, .int .i64 i1), (20, .slice a1 x2.length c1), (21, .int .i64 (x2.length : Int)), (22, .int .i64 0)]) ?_ ?_
      · refine QRun_b [.slice a1 x2.length c1, .int .i64 (x2.length : Int), .int .i64 0] 0 _ (by kernel_rfl) (fun w => by kernel_rfl) ?_
        exact QRun_done [1, 6, 7, 8, 13, 14, 15, 20, 21, 22] (by kernel_rfl) (by kernel_rfl)
      obtain ⟨x3, gx3, hB1⟩ := M.bind_some hB1
      obtain ⟨hloy2, hhiy2, gx3⟩ := M.for_start gx3
      refine Run_join (fun L' h' => ∃ (s4 : Int × Bool), x3 = .inl s4 ∧ L' = [(1, .slice ab b.length cb), (6, .int .i64 s4.1), (7, .bool s4.2), (13, .slice aa_ a_.length ca_), (14, .int .i64 (a_.length : Int)), (15, .int .i64 i1)] ∧ h = h') ?_ ?_
      · rintro _ _ ⟨s4, es4, rfl, rfl⟩
        have hB1 := M.cont_inl' hB1 es4
        refine Run_blk ?_
        refine Run_reg 2 (by kernel_rfl) (L' := [(1, .slice ab b.length cb), (6, .int .i64 s4.1), (7, .bool s4.2), (13, .slice aa_ a_.length ca_), (14, .int .i64 (a_.length : Int)), (15, .int .i64 (i1 + 1))]) ?_ ?_
        · refine QRun_y (.int .i64 (i1 + 1)) (by kernel_rfl) (Y_eq (v := .int .i64 (w64 (i1 + 1))) (Y_pure (fun w => by kernel_rfl)) (by rw [w64_eq _ (by omega)])) ?_
          refine QRun_b [.int .i64 (i1 + 1)] 1 _ (by kernel_rfl) (fun w => by kernel_rfl) ?_
          exact QRun_done [1, 6, 7, 13, 14, 15] (by kernel_rfl) (by kernel_rfl)
        have hB1 := M.ret_some hB1
        have gx1 := hgoy1 _ hB1.symm
        exact Run_again [1, 6, 7, 13, 14, 15] (by kernel_rfl) my1 (Nat.lt_succ_self _) ⟨i1 + 1, (s4.1, s4.2), by omega, gx1, rfl, rfl⟩
      · refine Run_block ?_
        refine Run_keep [1, 6, 7, 8, 13, 14, 15, 20, 21, 22] (L' := [(1, .slice ab b.length cb), (6, .int .i64 s1.1), (7, .bool s1.2), (8, .int .i64 i1), (13, .slice aa_ a_.length ca_), (14, .int .i64 (a_.length : Int)), (15, .int .i64 i1), (20, .slice a1 x2.length c1), (21, .int .i64 (x2.length : Int)), (22, .int .i64 0)]) (by kernel_rfl) ?_
        refine Run_loop (fun m L' h' => ∃ (i2 : Int) (s3 : Int × Bool), 0 ≤ i2 ∧ M.forN (x2.length : Int) _ _ n m i2 s3 = some x3 ∧ L' = [(1, .slice ab b.length cb), (6, .int .i64 s3.1), (7, .bool s3.2), (8, .int .i64 i1), (13, .slice aa_ a_.length ca_), (14, .int .i64 (a_.length : Int)), (15, .int .i64 i1), (20, .slice a1 x2.length c1), (21, .int .i64 (x2.length : Int)), (22, .int .i64 i2)] ∧ h = h') ((x2.length : Int) - 0 : Int).toNat ⟨0, (s1.1, s1.2), Int.le_refl _, gx3, rfl, rfl⟩ ?_
        rintro my2 _ _ ⟨i2, s3, hloy2', gx3, rfl, rfl⟩
        refine Run_seq ?_
        refine Run_reg 1 (by kernel_rfl) (L' := [(1, .slice ab b.length cb), (6, .int .i64 s3.1), (7, .bool s3.2), (8, .int .i64 i1), (13, .slice aa_ a_.length ca_), (14, .int .i64 (a_.length : Int)), (15, .int .i64 i1), (20, .slice a1 x2.length c1), (21, .int .i64 (x2.length : Int)), (22, .int .i64 i2), (23, .bool (decide (i2 < (x2.length : Int))))]) ?_ ?_
        · refine QRun_b [.bool (decide (i2 < (x2.length : Int)))] 0 _ (by kernel_rfl) (fun w => by kernel_rfl) ?_
          exact QRun_done [1, 6, 7, 8, 13, 14, 15, 20, 21, 22, 23] (by kernel_rfl) (by kernel_rfl)
        refine Run_seq ?_
        refine Run_cond (b := decide (i2 < (x2.length : Int))) (by kernel_rfl) (fun hb2 => ?_) (fun hb2 => ?_)
        · obtain ⟨my2, y2, rfl, hB2, hgoy2, houty2⟩ := M.for_go gx3 hb2
          have hlty2 := of_decide_eq_true hb2
          refine Run_skip ?_
          refine Run_seq ?_
          refine Run_block ?_
          refine Run_seq ?_
          obtain ⟨x4, hx2, hB2⟩ := M.bind_some hB2
          obtain ⟨hx2l, hx2u, hx2⟩ := M.idx_some hx2
          refine Run_reg 5 (by kernel_rfl) (L' := [(1, .slice ab b.length cb), (6, .int .i64 s3.1), (7, .bool s3.2), (8, .int .i64 i1), (10, .int .i64 i2), (11, .int .i64 x4), (13, .slice aa_ a_.length ca_), (14, .int .i64 (a_.length : Int)), (15, .int .i64 i1), (20, .slice a1 x2.length c1), (21, .int .i64 (x2.length : Int)), (22, .int .i64 i2)]) ?_ ?_
          · refine QRun_b [.int .i64 i2] 0 _ (by kernel_rfl) (fun w => by kernel_rfl) ?_
            refine QRun_y (.pointer (some (adr a1 (i2.toNat * 1)))) (by kernel_rfl) (Y_idx (t := 23) (e := 2) (sz := 1) (a := a1) (n := x2.length) (cap := c1) (kk := .i64) (i := i2) (by kernel_rfl) Try.underlying23 (by kernel_rfl) (r1.cell hx2).1 hx2l hx2u) ?_
            refine QRun_y (.int .i64 x4) (by kernel_rfl) (Y_load1 (t := 2) (p := adr a1 (i2.toNat * 1)) (v := .int .i64 x4) (by kernel_rfl) (fun w => by kernel_rfl) (cd2_cell r1 hx2)) ?_
            refine QRun_b [.int .i64 i2, .int .i64 x4] 3 _ (by kernel_rfl) (fun w => by kernel_rfl) ?_
            exact QRun_done [1, 6, 7, 8, 10, 11, 13, 14, 15, 20, 21, 22] (by kernel_rfl) (by kernel_rfl)
          refine Run_seq ?_
          obtain ⟨x5, hx3, hB2⟩ := M.bind_some hB2
          obtain ⟨hx3l, hx3u, hx3⟩ := M.idx_some hx3
          obtain ⟨a2, c2, hc2, r2⟩ := rb.row hx3
          obtain ⟨x6, hx4, hB2⟩ := M.bind_some hB2
          obtain ⟨hx4l, hx4u, hx4⟩ := M.idx_some hx4
          refine Run_reg 8 (by kernel_rfl) (L' := [(1, .slice ab b.length cb), (6, .int .i64 s3.1), (7, .bool s3.2), (8, .int .i64 i1), (11, .int .i64 x4), (12, .int .i64 x6), (13, .slice aa_ a_.length ca_), (14, .int .i64 (a_.length : Int)), (15, .int .i64 i1), (20, .slice a1 x2.length c1), (21, .int .i64 (x2.length : Int)), (22, .int .i64 i2)]) ?_ ?_
          · refine QRun_b [.slice ab b.length cb, .int .i64 i1] 0 _ (by kernel_rfl) (fun w => by kernel_rfl) ?_
            refine QRun_y (.pointer (some (adr ab (i1.toNat * 1)))) (by kernel_rfl) (Y_idx (t := 22) (e := 23) (sz := 1) (a := ab) (n := b.length) (cap := cb) (kk := .i64) (i := i1) (by kernel_rfl) Try.underlying22 (by kernel_rfl) (rb.cell hx3).1 hx3l hx3u) ?_
            refine QRun_y (.slice a2 x5.length c2) (by kernel_rfl) (Y_load1 (t := 23) (p := adr ab (i1.toNat * 1)) (v := .slice a2 x5.length c2) (by kernel_rfl) (fun w => by kernel_rfl) hc2) ?_
            refine QRun_b [.int .i64 i2] 4 _ (by kernel_rfl) (fun w => by kernel_rfl) ?_
            refine QRun_y (.pointer (some (adr a2 (i2.toNat * 1)))) (by kernel_rfl) (Y_idx (t := 23) (e := 2) (sz := 1) (a := a2) (n := x5.length) (cap := c2) (kk := .i64) (i := i2) (by kernel_rfl) Try.underlying23 (by kernel_rfl) (r2.cell hx4).1 hx4l hx4u) ?_
            refine QRun_y (.int .i64 x6) (by kernel_rfl) (Y_load1 (t := 2) (p := adr a2 (i2.toNat * 1)) (v := .int .i64 x6) (by kernel_rfl) (fun w => by kernel_rfl) (cd2_cell r2 hx4)) ?_
            refine QRun_b [.int .i64 x6] 7 _ (by kernel_rfl) (fun w => by kernel_rfl) ?_
            exact QRun_done [1, 6, 7, 8, 11, 12, 13, 14, 15, 20, 21, 22] (by kernel_rfl) (by kernel_rfl)
          refine Run_block ?_
          refine Run_seq ?_
          refine Run_reg 7 (by kernel_rfl) (L' := [(1, .slice ab b.length cb), (6, .int .i64 s3.1), (7, .bool s3.2), (8, .int .i64 i1), (11, .int .i64 x4), (12, .int .i64 x6), (13, .slice aa_ a_.length ca_), (14, .int .i64 (a_.length : Int)), (15, .int .i64 i1), (20, .slice a1 x2.length c1), (21, .int .i64 (x2.length : Int)), (22, .int .i64 i2), (37, .bool ((x4 == (-1000000000000000)) && (x6 == (-1000000000000000))))]) ?_ ?_
          · refine QRun_b [.int .i64 x4, .bool (x4 == (-1000000000000000))] 0 _ (by kernel_rfl) (fun w => by kernel_rfl) ?_
            refine QRun_seq 6 [(1, .slice ab b.length cb), (6, .int .i64 s3.1), (7, .bool s3.2), (8, .int .i64 i1), (11, .int .i64 x4), (12, .int .i64 x6), (13, .slice aa_ a_.length ca_), (14, .int .i64 (a_.length : Int)), (15, .int .i64 i1), (20, .slice a1 x2.length c1), (21, .int .i64 (x2.length : Int)), (22, .int .i64 i2), (43, .bool ((x4 == (-1000000000000000)) && (x6 == (-1000000000000000))))] ?_ ?_
            · rcases Bool.eq_false_or_eq_true (x4 == (-1000000000000000)) with hb3 | hb3
              · refine QRun_bool (x4 == (-1000000000000000)) true (by kernel_rfl) (fun w => by kernel_rfl) hb3 ?_
                refine QRun_b [.int .i64 x6, .bool (x6 == (-1000000000000000))] 3 _ (by kernel_rfl) (fun w => by kernel_rfl) ?_
                refine QRun_bool (x6 == (-1000000000000000)) ((x4 == (-1000000000000000)) && (x6 == (-1000000000000000))) (by kernel_rfl) (fun w => by kernel_rfl) (by rw [hb3]; rfl) ?_
                exact QRun_done [1, 6, 7, 8, 11, 12, 13, 14, 15, 20, 21, 22, 43] (by kernel_rfl) (by kernel_rfl)
              · refine QRun_bool (x4 == (-1000000000000000)) false (by kernel_rfl) (fun w => by kernel_rfl) hb3 ?_
                refine QRun_n (by kernel_rfl) ?_
                refine QRun_n (by kernel_rfl) ?_
                refine QRun_bool false ((x4 == (-1000000000000000)) && (x6 == (-1000000000000000))) (by kernel_rfl) (fun w => by kernel_rfl) (by rw [hb3]; rfl) ?_
                exact QRun_done [1, 6, 7, 8, 11, 12, 13, 14, 15, 20, 21, 22, 43] (by kernel_rfl) (by kernel_rfl)
            refine QRun_b [.bool ((x4 == (-1000000000000000)) && (x6 == (-1000000000000000)))] 6 _ (by kernel_rfl) (fun w => by kernel_rfl) ?_
            exact QRun_done [1, 6, 7, 8, 11, 12, 13, 14, 15, 20, 21, 22, 37] (by kernel_rfl) (by kernel_rfl)
          refine Run_cond (b := (x4 == (-1000000000000000)) && (x6 == (-1000000000000000))) (by kernel_rfl) (fun hb4 => ?_) (fun hb4 => ?_)
          · have hB2 := (M.ite_some hB2).1 hb4
            refine Run_skip ?_
            refine Run_blk ?_
            refine Run_blk ?_
            refine Run_reg 2 (by kernel_rfl) (L' := [(1, .slice ab b.length cb), (6, .int .i64 s3.1), (7, .bool s3.2), (8, .int .i64 i1), (13, .slice aa_ a_.length ca_), (14, .int .i64 (a_.length : Int)), (15, .int .i64 i1), (20, .slice a1 x2.length c1), (21, .int .i64 (x2.length : Int)), (22, .int .i64 (i2 + 1))]) ?_ ?_
            · refine QRun_y (.int .i64 (i2 + 1)) (by kernel_rfl) (Y_eq (v := .int .i64 (w64 (i2 + 1))) (Y_pure (fun w => by kernel_rfl)) (by rw [w64_eq _ (by omega)])) ?_
              refine QRun_b [.int .i64 (i2 + 1)] 1 _ (by kernel_rfl) (fun w => by kernel_rfl) ?_
              exact QRun_done [1, 6, 7, 8, 13, 14, 15, 20, 21, 22] (by kernel_rfl) (by kernel_rfl)
            have hB2 := M.ret_some hB2
            have gx3 := hgoy2 _ hB2.symm
            exact Run_again [1, 6, 7, 8, 13, 14, 15, 20, 21, 22] (by kernel_rfl) my2 (Nat.lt_succ_self _) ⟨i2 + 1, (s3.1, s3.2), by omega, gx3, rfl, rfl⟩
          · have hB2 := (M.ite_some hB2).2 hb4
            refine Run_seq ?_
            refine Run_reg 17 (by kernel_rfl) (L' := [(1, .slice ab b.length cb), (8, .int .i64 i1), (11, .int .i64 x4), (12, .int .i64 x6), (13, .slice aa_ a_.length ca_), (14, .int .i64 (a_.length : Int)), (15, .int .i64 i1), (20, .slice a1 x2.length c1), (21, .int .i64 (x2.length : Int)), (22, .int .i64 i2), (44, .bool (((x4 == (-1000000000000000)) || (x6 == (-1000000000000000))) || (s3.2 && ((w64 (x6 - x4)) != s3.1))))]) ?_ ?_
            · refine QRun_b [.int .i64 x4, .bool (x4 == (-1000000000000000))] 0 _ (by kernel_rfl) (fun w => by kernel_rfl) ?_
              refine QRun_seq 6 [(1, .slice ab b.length cb), (6, .int .i64 s3.1), (7, .bool s3.2), (8, .int .i64 i1), (11, .int .i64 x4), (12, .int .i64 x6), (13, .slice aa_ a_.length ca_), (14, .int .i64 (a_.length : Int)), (15, .int .i64 i1), (20, .slice a1 x2.length c1), (21, .int .i64 (x2.length : Int)), (22, .int .i64 i2), (50, .bool ((x4 == (-1000000000000000)) || (x6 == (-1000000000000000))))] ?_ ?_
              · rcases Bool.eq_false_or_eq_true (x4 == (-1000000000000000)) with hb5 | hb5
                · refine QRun_bool (x4 == (-1000000000000000)) true (by kernel_rfl) (fun w => by kernel_rfl) hb5 ?_
                  refine QRun_n (by kernel_rfl) ?_
                  refine QRun_n (by kernel_rfl) ?_
                  refine QRun_bool true ((x4 == (-1000000000000000)) || (x6 == (-1000000000000000))) (by kernel_rfl) (fun w => by kernel_rfl) (by rw [hb5]; rfl) ?_
                  exact QRun_done [1, 6, 7, 8, 11, 12, 13, 14, 15, 20, 21, 22, 50] (by kernel_rfl) (by kernel_rfl)
                · refine QRun_bool (x4 == (-1000000000000000)) false (by kernel_rfl) (fun w => by kernel_rfl) hb5 ?_
                  refine QRun_b [.int .i64 x6, .bool (x6 == (-1000000000000000))] 3 _ (by kernel_rfl) (fun w => by kernel_rfl) ?_
                  refine QRun_bool (x6 == (-1000000000000000)) ((x4 == (-1000000000000000)) || (x6 == (-1000000000000000))) (by kernel_rfl) (fun w => by kernel_rfl) (by rw [hb5]; rfl) ?_
                  exact QRun_done [1, 6, 7, 8, 11, 12, 13, 14, 15, 20, 21, 22, 50] (by kernel_rfl) (by kernel_rfl)
              refine QRun_seq 16 [(1, .slice ab b.length cb), (8, .int .i64 i1), (11, .int .i64 x4), (12, .int .i64 x6), (13, .slice aa_ a_.length ca_), (14, .int .i64 (a_.length : Int)), (15, .int .i64 i1), (20, .slice a1 x2.length c1), (21, .int .i64 (x2.length : Int)), (22, .int .i64 i2), (60, .bool (((x4 == (-1000000000000000)) || (x6 == (-1000000000000000))) || (s3.2 && ((w64 (x6 - x4)) != s3.1))))] ?_ ?_
              · rcases Bool.eq_false_or_eq_true ((x4 == (-1000000000000000)) || (x6 == (-1000000000000000))) with hb6 | hb6
                · refine QRun_bool ((x4 == (-1000000000000000)) || (x6 == (-1000000000000000))) true (by kernel_rfl) (fun w => by kernel_rfl) hb6 ?_
                  refine QRun_n (by kernel_rfl) ?_
                  refine QRun_n (by kernel_rfl) ?_
                  refine QRun_n (by kernel_rfl) ?_
                  refine QRun_n (by kernel_rfl) ?_
                  refine QRun_n (by kernel_rfl) ?_
                  refine QRun_n (by kernel_rfl) ?_
                  refine QRun_n (by kernel_rfl) ?_
                  refine QRun_n (by kernel_rfl) ?_
                  refine QRun_bool true (((x4 == (-1000000000000000)) || (x6 == (-1000000000000000))) || (s3.2 && ((w64 (x6 - x4)) != s3.1))) (by kernel_rfl) (fun w => by kernel_rfl) (by rw [hb6]; rfl) ?_
                  exact QRun_done [1, 8, 11, 12, 13, 14, 15, 20, 21, 22, 60] (by kernel_rfl) (by kernel_rfl)
                · refine QRun_bool ((x4 == (-1000000000000000)) || (x6 == (-1000000000000000))) false (by kernel_rfl) (fun w => by kernel_rfl) hb6 ?_
                  refine QRun_b [.bool s3.2] 7 _ (by kernel_rfl) (fun w => by kernel_rfl) ?_
                  refine QRun_seq 15 [(1, .slice ab b.length cb), (8, .int .i64 i1), (11, .int .i64 x4), (12, .int .i64 x6), (13, .slice aa_ a_.length ca_), (14, .int .i64 (a_.length : Int)), (15, .int .i64 i1), (20, .slice a1 x2.length c1), (21, .int .i64 (x2.length : Int)), (22, .int .i64 i2), (51, .bool false), (59, .bool (s3.2 && ((w64 (x6 - x4)) != s3.1)))] ?_ ?_
                  · rcases Bool.eq_false_or_eq_true s3.2 with hb7 | hb7
                    · refine QRun_bool s3.2 true (by kernel_rfl) (fun w => by kernel_rfl) hb7 ?_
                      refine QRun_b [.int .i64 x6, .int .i64 x4, .int .i64 (w64 (x6 - x4)), .int .i64 s3.1, .bool ((w64 (x6 - x4)) != s3.1)] 9 _ (by kernel_rfl) (fun w => by kernel_rfl) ?_
                      refine QRun_bool ((w64 (x6 - x4)) != s3.1) (s3.2 && ((w64 (x6 - x4)) != s3.1)) (by kernel_rfl) (fun w => by kernel_rfl) (by rw [hb7]; rfl) ?_
                      exact QRun_done [1, 8, 11, 12, 13, 14, 15, 20, 21, 22, 51, 59] (by kernel_rfl) (by kernel_rfl)
                    · refine QRun_bool s3.2 false (by kernel_rfl) (fun w => by kernel_rfl) hb7 ?_
                      refine QRun_n (by kernel_rfl) ?_
                      refine QRun_n (by kernel_rfl) ?_
                      refine QRun_n (by kernel_rfl) ?_
                      refine QRun_n (by kernel_rfl) ?_
                      refine QRun_n (by kernel_rfl) ?_
                      refine QRun_bool false (s3.2 && ((w64 (x6 - x4)) != s3.1)) (by kernel_rfl) (fun w => by kernel_rfl) (by rw [hb7]; rfl) ?_
                      exact QRun_done [1, 8, 11, 12, 13, 14, 15, 20, 21, 22, 51, 59] (by kernel_rfl) (by kernel_rfl)
                  refine QRun_bool (s3.2 && ((w64 (x6 - x4)) != s3.1)) (((x4 == (-1000000000000000)) || (x6 == (-1000000000000000))) || (s3.2 && ((w64 (x6 - x4)) != s3.1))) (by kernel_rfl) (fun w => by kernel_rfl) (by rw [hb6]; rfl) ?_
                  exact QRun_done [1, 8, 11, 12, 13, 14, 15, 20, 21, 22, 60] (by kernel_rfl) (by kernel_rfl)
              refine QRun_b [.bool (((x4 == (-1000000000000000)) || (x6 == (-1000000000000000))) || (s3.2 && ((w64 (x6 - x4)) != s3.1)))] 16 _ (by kernel_rfl) (fun w => by kernel_rfl) ?_
              exact QRun_done [1, 8, 11, 12, 13, 14, 15, 20, 21, 22, 44] (by kernel_rfl) (by kernel_rfl)
            refine Run_cond (b := ((x4 == (-1000000000000000)) || (x6 == (-1000000000000000))) || (s3.2 && ((w64 (x6 - x4)) != s3.1))) (by kernel_rfl) (fun hb8 => ?_) (fun hb8 => ?_)
            · have hB2 := (M.ite_some hB2).1 hb8
              refine Run_seq ?_
              refine Run_reg 2 (by kernel_rfl) (L' := [(4, .int .i64 0), (5, .bool false)]) ?_ ?_
              · refine QRun_b [.int .i64 0, .bool false] 0 _ (by kernel_rfl) (fun w => by kernel_rfl) ?_
                exact QRun_done [4, 5] (by kernel_rfl) (by kernel_rfl)
              have hB2 := M.ret_some hB2
              have gx3 := houty2 _ hB2.symm
              have hB1 := M.cont_inr' hB1 gx3
              have hB1 := M.ret_some hB1
              have gx1 := houty1 _ hB1.symm
              have hF := M.cont_inr' hF gx1
              have hF := M.ret_some hF
              subst hF
              exact Run_ret2 rfl (ResV_tmp (v := .int .i64 0) (by kernel_rfl)) (ResV_tmp (v := .bool false) (by kernel_rfl)) ⟨rfl, rfl⟩
            · have hB2 := (M.ite_some hB2).2 hb8
              refine Run_reg 5 (by kernel_rfl) (L' := [(1, .slice ab b.length cb), (6, .int .i64 (w64 (x6 - x4))), (7, .bool true), (8, .int .i64 i1), (13, .slice aa_ a_.length ca_), (14, .int .i64 (a_.length : Int)), (15, .int .i64 i1), (20, .slice a1 x2.length c1), (21, .int .i64 (x2.length : Int)), (22, .int .i64 i2)]) ?_ ?_
              · refine QRun_b [.int .i64 x6, .int .i64 x4, .int .i64 (w64 (x6 - x4)), .int .i64 (w64 (x6 - x4)), .bool true] 0 _ (by kernel_rfl) (fun w => by kernel_rfl) ?_
                exact QRun_done [1, 6, 7, 8, 13, 14, 15, 20, 21, 22] (by kernel_rfl) (by kernel_rfl)
              refine Run_blk ?_
              refine Run_blk ?_
              refine Run_reg 2 (by kernel_rfl) (L' := [(1, .slice ab b.length cb), (6, .int .i64 (w64 (x6 - x4))), (7, .bool true), (8, .int .i64 i1), (13, .slice aa_ a_.length ca_), (14, .int .i64 (a_.length : Int)), (15, .int .i64 i1), (20, .slice a1 x2.length c1), (21, .int .i64 (x2.length : Int)), (22, .int .i64 (i2 + 1))]) ?_ ?_
              · refine QRun_y (.int .i64 (i2 + 1)) (by kernel_rfl) (Y_eq (v := .int .i64 (w64 (i2 + 1))) (Y_pure (fun w => by kernel_rfl)) (by rw [w64_eq _ (by omega)])) ?_
                refine QRun_b [.int .i64 (i2 + 1)] 1 _ (by kernel_rfl) (fun w => by kernel_rfl) ?_
                exact QRun_done [1, 6, 7, 8, 13, 14, 15, 20, 21, 22] (by kernel_rfl) (by kernel_rfl)
              have hB2 := M.ret_some hB2
              have gx3 := hgoy2 _ hB2.symm
              exact Run_again [1, 6, 7, 8, 13, 14, 15, 20, 21, 22] (by kernel_rfl) my2 (Nat.lt_succ_self _) ⟨i2 + 1, ((w64 (x6 - x4)), true), by omega, gx3, rfl, rfl⟩
        · have gx3 := M.for_end gx3 hb2
          subst gx3
          refine Run_exit (k' := _) rfl ?_
          exact Run_fall [1, 6, 7, 13, 14, 15] (by kernel_rfl) ⟨(s3.1, s3.2), rfl, rfl, rfl⟩
    · have gx1 := M.for_end gx1 hb1
      subst gx1
      refine Run_exit (k' := _) rfl ?_
      exact Run_fall [6] (by kernel_rfl) ⟨(s1.1, s1.2), rfl, rfl, rfl⟩

set_option maxRecDepth 100000 in
set_option maxHeartbeats 4000000 in
theorem w_impl_absOf (h : Heap) (n_ : Int) (n : Nat) (r : Int) (hF : impl_absOf n_ n = some r) :
    Fn Try.prog 128 #[.int .i64 n_] h fun v h' => v = .int .i64 r ∧ h' = h := by
  unfold impl_absOf at hF
  refine Fn_enter (args := [.int .i64 n_]) Try.func128 rfl (by kernel_rfl) (by kernel_rfl) (fun w0 _ => ?_)
  refine Run_seq ?_
  refine Run_reg 1 (by kernel_rfl) (L' := [(0, .int .i64 n_)]) ?_ ?_
  · refine QRun_b [.int .i64 0] 0 _ (by kernel_rfl) (fun w => by kernel_rfl) ?_
    exact QRun_done [0] (by kernel_rfl) (by kernel_rfl)
  refine Run_seq ?_
  refine Run_seq ?_
  refine Run_reg 2 (by kernel_rfl) (L' := [(0, .int .i64 n_), (4, .bool (decide (n_ < 0)))]) ?_ ?_
  · refine QRun_b [.int .i64 n_, .bool (decide (n_ < 0))] 0 _ (by kernel_rfl) (fun w => by kernel_rfl) ?_
    exact QRun_done [0, 4] (by kernel_rfl) (by kernel_rfl)
  refine Run_cond (b := decide (n_ < 0)) (by kernel_rfl) (fun hb1 => ?_) (fun hb1 => ?_)
  · have hF := (M.ite_some hF).1 hb1
    refine Run_seq ?_
    refine Run_reg 3 (by kernel_rfl) (L' := [(2, .int .i64 (w64 (0 - n_)))]) ?_ ?_
    · refine QRun_b [.int .i64 n_, .int .i64 (w64 (0 - n_)), .int .i64 (w64 (0 - n_))] 0 _ (by kernel_rfl) (fun w => by kernel_rfl) ?_
      exact QRun_done [2] (by kernel_rfl) (by kernel_rfl)
    have hF := M.ret_some hF
    subst hF
    exact Run_ret1 rfl (ResV_tmp (v := .int .i64 (w64 (0 - n_))) (by kernel_rfl)) ⟨rfl, rfl⟩
  · have hF := (M.ite_some hF).2 hb1
    refine Run_skip ?_
    refine Run_seq ?_
    refine Run_reg 2 (by kernel_rfl) (L' := [(2, .int .i64 n_)]) ?_ ?_
    · refine QRun_b [.int .i64 n_, .int .i64 n_] 0 _ (by kernel_rfl) (fun w => by kernel_rfl) ?_
      exact QRun_done [2] (by kernel_rfl) (by kernel_rfl)
    have hF := M.ret_some hF
    subst hF
    exact Run_ret1 rfl (ResV_tmp (v := .int .i64 n_) (by kernel_rfl)) ⟨rfl, rfl⟩

set_option maxRecDepth 100000 in
set_option maxHeartbeats 4000000 in
theorem w_impl_divisorOf (h : Heap) (a_ : Int) (b : Int) (n : Nat) (r : Int) (hF : impl_divisorOf a_ b n = some r) :
    Fn Try.prog 112 #[.int .i64 a_, .int .i64 b] h fun v h' => v = .int .i64 r ∧ h' = h := by
  unfold impl_divisorOf at hF
  refine Fn_enter (args := [.int .i64 a_, .int .i64 b]) Try.func112 rfl (by kernel_rfl) (by kernel_rfl) (fun w0 _ => ?_)
  refine Run_seq ?_
  refine Run_reg 1 (by kernel_rfl) (L' := [(0, .int .i64 a_), (1, .int .i64 b)]) ?_ ?_
  · refine QRun_b [.int .i64 0] 0 _ (by kernel_rfl) (fun w => by kernel_rfl) ?_
    exact QRun_done [0, 1] (by kernel_rfl) (by kernel_rfl)
  refine Run_seq ?_
  obtain ⟨x1, gx1, hF⟩ := M.bind_some hF
  refine Run_join (fun L' h' => L' = [(0, .int .i64 x1.1)] ∧ h = h') ?_ ?_
  · rintro _ _ ⟨rfl, rfl⟩
    refine Run_seq ?_
    refine Run_reg 2 (by kernel_rfl) (L' := [(4, .int .i64 x1.1)]) ?_ ?_
    · refine QRun_b [.int .i64 x1.1, .int .i64 x1.1] 0 _ (by kernel_rfl) (fun w => by kernel_rfl) ?_
      exact QRun_done [4] (by kernel_rfl) (by kernel_rfl)
    have hF := M.ret_some hF
    subst hF
    exact Run_ret1 rfl (ResV_tmp (v := .int .i64 x1.1) (by kernel_rfl)) ⟨rfl, rfl⟩
  · refine Run_block ?_
    refine Run_keep [0, 1] (L' := [(0, .int .i64 a_), (1, .int .i64 b)]) (by kernel_rfl) ?_
    refine Run_loop (fun m L' h' => ∃ (s1 : Int × Int), M.loopN _ n m s1 = some x1 ∧ L' = [(0, .int .i64 s1.1), (1, .int .i64 s1.2)] ∧ h = h') n ⟨(a_, b), gx1, rfl, rfl⟩ ?_
    rintro my1 _ _ ⟨s1, gx1, rfl, rfl⟩
    obtain ⟨my1, y1, rfl, hB1, hgoy1, houty1⟩ := M.loop_some gx1
    refine Run_seq ?_
    refine Run_seq ?_
    refine Run_reg 2 (by kernel_rfl) (L' := [(0, .int .i64 s1.1), (1, .int .i64 s1.2), (6, .bool (decide (0 < s1.2)))]) ?_ ?_
    · refine QRun_b [.int .i64 s1.2, .bool (decide (0 < s1.2))] 0 _ (by kernel_rfl) (fun w => by kernel_rfl) ?_
      exact QRun_done [0, 1, 6] (by kernel_rfl) (by kernel_rfl)
    refine Run_cond (b := decide (0 < s1.2)) (by kernel_rfl) (fun hb1 => ?_) (fun hb1 => ?_)
    · have hB1 := (M.ite_some hB1).1 hb1
      refine Run_skip ?_
      refine Run_block ?_
      obtain ⟨u1, hz1, hB1⟩ := M.bind_some hB1
      have hz1 := M.guard_some hz1
      refine Run_draw 6 mixed (by kernel_rfl) (by kernel_rfl) (L' := [(0, .int .i64 s1.2), (1, .int .i64 (s1.1.tmod s1.2))]) ?_ ?_
      · refine QRun_b [.int .i64 s1.2, .int .i64 s1.1, .int .i64 s1.2] 0 _ (by kernel_rfl) (fun w => by kernel_rfl) ?_
        refine QRun_y (.int .i64 (s1.1.tmod s1.2)) (by kernel_rfl) (Y_rem (op := .rem) (k := .i64) (x := s1.1) (y := s1.2) (by kernel_rfl) hz1) ?_
        refine QRun_b [.int .i64 s1.2, .int .i64 (s1.1.tmod s1.2)] 4 _ (by kernel_rfl) (fun w => by kernel_rfl) ?_
        exact QRun_done [0, 1] (by kernel_rfl) (by kernel_rfl)
      refine Run_blk ?_
      have hB1 := M.ret_some hB1
      have gx1 := hgoy1 _ hB1.symm
      exact Run_again [0, 1] (by kernel_rfl) my1 (Nat.lt_succ_self _) ⟨(s1.2, (s1.1.tmod s1.2)), gx1, rfl, rfl⟩
    · have hB1 := (M.ite_some hB1).2 hb1
      refine Run_exit (k' := _) rfl ?_
      have hB1 := M.ret_some hB1
      have gx1 := houty1 _ hB1.symm
      subst gx1
      exact Run_fall [0] (by kernel_rfl) ⟨rfl, rfl⟩

set_option maxRecDepth 100000 in
set_option maxHeartbeats 4000000 in
theorem w_impl_ratioOf (h : Heap) (num : Int) (den : Int) (n : Nat) (r : TRatio) (hF : impl_ratioOf num den n = some r) :
    Fn Try.prog 63 #[.int .i64 num, .int .i64 den] h fun v h' => v = .agg #[.int .i64 r.Num, .int .i64 r.Den] ∧ Hold h h' [] := by
  unfold impl_ratioOf at hF
  refine Fn_enter (args := [.int .i64 num, .int .i64 den]) Try.func63 rfl (by kernel_rfl) (by kernel_rfl) (fun w0 _ => ?_)
  have H0 := Hold.init h
  refine Run_seq ?_
  refine Run_ops ?_
  refine Run_E (by kernel_rfl) ?_
  refine E_box (ty := 26) (cs := [.int .i64 0, .int .i64 0]) H0 (fun w => by kernel_rfl) (fun b1 h1 H1 => ?_)
  refine Run_nil (by kernel_rfl) ?_
  refine Run_keep [0, 1, 4] (L' := [(0, .int .i64 num), (1, .int .i64 den), (4, .pointer (some ⟨b1, 0, none⟩))]) (by kernel_rfl) ?_
  refine Run_seq ?_
  refine Run_seq ?_
  refine Run_reg 2 (by kernel_rfl) (L' := [(0, .int .i64 num), (1, .int .i64 den), (4, .pointer (some ⟨b1, 0, none⟩)), (7, .bool (decide (den < 0)))]) ?_ ?_
  · refine QRun_b [.int .i64 den, .bool (decide (den < 0))] 0 _ (by kernel_rfl) (fun w => by kernel_rfl) ?_
    exact QRun_done [0, 1, 4, 7] (by kernel_rfl) (by kernel_rfl)
  obtain ⟨s1, gs1, hF⟩ := M.bind_some hF
  refine Run_join (fun L' h' => L' = [(0, .int .i64 s1.1), (1, .int .i64 s1.2), (4, .pointer (some ⟨b1, 0, none⟩))] ∧ Hold h h' [box b1 26 [.int .i64 0, .int .i64 0]]) ?_ ?_
  · rintro _ h2 ⟨rfl, H2⟩
    refine Run_seq ?_
    obtain ⟨x1, hx1, hF⟩ := M.bind_some hF
    obtain ⟨x2, hx2, hF⟩ := M.bind_some hF
    refine Run_reg 5 (by kernel_rfl) (L' := [(0, .int .i64 s1.1), (1, .int .i64 s1.2), (4, .pointer (some ⟨b1, 0, none⟩)), (5, .int .i64 x2)]) ?_ ?_
    · refine QRun_b [.int .i64 s1.1] 0 _ (by kernel_rfl) (fun w => by kernel_rfl) ?_
      refine QRun_y (.int .i64 x1) (by kernel_rfl) (Y_callq (f := 128) (args := #[.int .i64 s1.1]) (v := .int .i64 x1) (by kernel_rfl) (w_impl_absOf h2 s1.1 _ _ hx1)) ?_
      refine QRun_b [.int .i64 s1.2] 2 _ (by kernel_rfl) (fun w => by kernel_rfl) ?_
      refine QRun_y (.int .i64 x2) (by kernel_rfl) (Y_callq (f := 112) (args := #[.int .i64 x1, .int .i64 s1.2]) (v := .int .i64 x2) (by kernel_rfl) (w_impl_divisorOf h2 x1 s1.2 _ _ hx2)) ?_
      refine QRun_b [.int .i64 x2] 4 _ (by kernel_rfl) (fun w => by kernel_rfl) ?_
      exact QRun_done [0, 1, 4, 5] (by kernel_rfl) (by kernel_rfl)
    refine Run_seq ?_
    obtain ⟨u1, hz1, hF⟩ := M.bind_some hF
    have hz1 := M.guard_some hz1
    obtain ⟨u2, hz2, hF⟩ := M.bind_some hF
    have hz2 := M.guard_some hz2
    refine Run_D (fun x => Hold h x [box b1 26 [.int .i64 0, .int .i64 0]]) (fun x => Hold h x [box b1 26 [.int .i64 0, .int .i64 0]]) mixed (by kernel_rfl) H2 Hold.stable (fun x Hy => (show Hold h x [box b1 26 [.int .i64 0, .int .i64 0]] from Hy).pick [0] (by kernel_rfl)) ?_
    refine DR_b 6 [.int .i64 s1.1, .int .i64 x2] 0 (by kernel_rfl) (by kernel_rfl) (by kernel_rfl) (fun w => by kernel_rfl) ?_
    refine DR_y 5 (i := 2) (.int .i64 (w64 (s1.1.tdiv x2))) (by kernel_rfl) (by kernel_rfl) (by kernel_rfl) (fun hx Hx => (YE.of (Y_quo (op := .quo) (k := .i64) (x := s1.1) (y := x2) (by kernel_rfl) hz1))) ?_
    refine DR_b 3 [.int .i64 s1.2, .int .i64 x2] 3 (by kernel_rfl) (by kernel_rfl) (by kernel_rfl) (fun w => by kernel_rfl) ?_
    refine DR_y 2 (i := 5) (.int .i64 (w64 (s1.2.tdiv x2))) (by kernel_rfl) (by kernel_rfl) (by kernel_rfl) (fun hx Hx => (YE.of (Y_quo (op := .quo) (k := .i64) (x := s1.2) (y := x2) (by kernel_rfl) hz2))) ?_
    refine DR_b 1 [.agg #[.int .i64 (w64 (s1.1.tdiv x2)), .int .i64 (w64 (s1.2.tdiv x2))]] 6 (by kernel_rfl) (by kernel_rfl) (by kernel_rfl) (fun w => by kernel_rfl) ?_
    refine DR_tail (i := 7) (by kernel_rfl) (by kernel_rfl) (by kernel_rfl) (fun h3 H3 => ?_)
    have H4 : Hold h h3 [box b1 26 [.int .i64 0, .int .i64 0]] := H3
    refine Run_E (by kernel_rfl) ?_
    refine E_bput (t := 26) (off := 0) (us := [.int .i64 (w64 (s1.1.tdiv x2)), .int .i64 (w64 (s1.2.tdiv x2))]) (v := .agg #[.int .i64 (w64 (s1.1.tdiv x2)), .int .i64 (w64 (s1.2.tdiv x2))]) H4 (by kernel_rfl) (by kernel_rfl) rfl (by kernel_rfl) rfl (fun h4 H5 => ?_)
    refine Run_nil (by kernel_rfl) ?_
    refine Run_keep [4] (L' := [(4, .pointer (some ⟨b1, 0, none⟩))]) (by kernel_rfl) ?_
    have hF := M.ret_some hF
    subst hF
    have H6 : Hold h h4 [] := H5.pick [] (by kernel_rfl)
    exact Run_ret1 rfl (ResV_cell (n := 2) (cs := [.int .i64 (w64 (s1.1.tdiv x2)), .int .i64 (w64 (s1.2.tdiv x2))]) (by kernel_rfl) (fun w => by kernel_rfl) (by kernel_rfl) rfl (H5.cells (n := 2) (off := 0) 0 rfl rfl)) ⟨rfl, H6⟩
  · refine Run_cond (b := decide (den < 0)) (by kernel_rfl) (fun hb1 => ?_) (fun hb1 => ?_)
    · have gs1 := (M.ite_some gs1).1 hb1
      refine Run_reg 6 (by kernel_rfl) (L' := [(0, .int .i64 (w64 (0 - num))), (1, .int .i64 (w64 (0 - den))), (4, .pointer (some ⟨b1, 0, none⟩))]) ?_ ?_
      · refine QRun_b [.int .i64 num, .int .i64 (w64 (0 - num)), .int .i64 den, .int .i64 (w64 (0 - den)), .int .i64 (w64 (0 - num)), .int .i64 (w64 (0 - den))] 0 _ (by kernel_rfl) (fun w => by kernel_rfl) ?_
        exact QRun_done [0, 1, 4] (by kernel_rfl) (by kernel_rfl)
      have gs1 := M.ret_some gs1
      subst gs1
      exact Run_fall [0, 1, 4] (by kernel_rfl) ⟨rfl, H1⟩
    · have gs1 := (M.ite_some gs1).2 hb1
      refine Run_skip ?_
      have gs1 := M.ret_some gs1
      subst gs1
      exact Run_fall [0, 1, 4] (by kernel_rfl) ⟨rfl, H1⟩

set_option maxRecDepth 100000 in
set_option maxHeartbeats 4000000 in
theorem w_impl_IsRatio (h : Heap) (r_ : TRatio) (n : Nat) (r : Bool) (hF : impl_IsRatio r_ n = some r) :
    Fn Try.prog 127 #[.agg #[.int .i64 r_.Num, .int .i64 r_.Den]] h fun v h' => v = .bool r ∧ Hold h h' [] := by
  unfold impl_IsRatio at hF
  refine Fn_enter (args := [.agg #[.int .i64 r_.Num, .int .i64 r_.Den]]) Try.func127 rfl (by kernel_rfl) (by kernel_rfl) (fun w0 _ => ?_)
  have H0 := Hold.init h
  refine Run_seq ?_
  refine Run_ops ?_
  refine Run_E (by kernel_rfl) ?_
  refine E_box (ty := 26) (cs := [.int .i64 r_.Num, .int .i64 r_.Den]) H0 (fun w => by kernel_rfl) (fun b1 h1 H1 => ?_)
  refine Run_b [.bool false] 1 _ (by kernel_rfl) (fun w => by kernel_rfl) ?_
  refine Run_nil (by kernel_rfl) ?_
  refine Run_keep [1] (L' := [(1, .pointer (some ⟨b1, 0, none⟩))]) (by kernel_rfl) ?_
  refine Run_seq ?_
  obtain ⟨x1, hx1, hF⟩ := M.bind_some hF
  obtain ⟨x2, gx2, hF⟩ := M.bind_some hF
  obtain ⟨x4, gx4, hF⟩ := M.bind_some hF
  refine Run_draw 18 mixed (by kernel_rfl) (by kernel_rfl) (L' := [(2, .bool x4)]) ?_ ?_
  · refine QRun_b [.pointer (some ⟨b1, 0, none⟩)] 0 _ (by kernel_rfl) (fun w => by kernel_rfl) ?_
    refine QRun_y (.int .i64 r_.Num) (by kernel_rfl) (Y_load1 (t := 2) (p := ⟨b1, 0, none⟩) (v := .int .i64 r_.Num) (by kernel_rfl) (fun w => by kernel_rfl) (H1.cell 0 rfl rfl)) ?_
    refine QRun_y (.bool x1) (by kernel_rfl) (Y_callq (f := 92) (args := #[.int .i64 r_.Num]) (v := .bool x1) (by kernel_rfl) (w_impl_isFinite h1 r_.Num _ _ hx1)) ?_
    refine QRun_seq 8 [(1, .pointer (some ⟨b1, 0, none⟩)), (10, .bool x2)] ?_ ?_
    · rcases Bool.eq_false_or_eq_true x1 with hb1 | hb1
      · refine QRun_bool x1 true (by kernel_rfl) (fun w => by kernel_rfl) hb1 ?_
        have gx2 := (M.ite_some gx2).1 hb1
        obtain ⟨x3, hx2, gx2⟩ := M.bind_some gx2
        have gx2 := M.ret_some gx2
        refine QRun_b [.pointer (some ⟨b1, 1, none⟩)] 4 _ (by kernel_rfl) (fun w => by kernel_rfl) ?_
        refine QRun_y (.int .i64 r_.Den) (by kernel_rfl) (Y_load1 (t := 2) (p := ⟨b1, 1, none⟩) (v := .int .i64 r_.Den) (by kernel_rfl) (fun w => by kernel_rfl) (H1.cell 0 rfl rfl)) ?_
        refine QRun_y (.bool x3) (by kernel_rfl) (Y_callq (f := 69) (args := #[.int .i64 r_.Den, .int .i64 1, .int .i64 1000000]) (v := .bool x3) (by kernel_rfl) (w_impl_within h1 r_.Den 1 1000000 _ _ hx2)) ?_
        refine QRun_bool x3 x2 (by kernel_rfl) (fun w => by kernel_rfl) gx2 ?_
        exact QRun_done [1, 10] (by kernel_rfl) (by kernel_rfl)
      · refine QRun_bool x1 false (by kernel_rfl) (fun w => by kernel_rfl) hb1 ?_
        have gx2 := M.ret_some ((M.ite_some gx2).2 hb1)
        refine QRun_n (by kernel_rfl) ?_
        refine QRun_n (by kernel_rfl) ?_
        refine QRun_n (by kernel_rfl) ?_
        refine QRun_bool false x2 (by kernel_rfl) (fun w => by kernel_rfl) gx2 ?_
        exact QRun_done [1, 10] (by kernel_rfl) (by kernel_rfl)
    refine QRun_seq 17 [(19, .bool x4)] ?_ ?_
    · rcases Bool.eq_false_or_eq_true x2 with hb2 | hb2
      · refine QRun_bool x2 true (by kernel_rfl) (fun w => by kernel_rfl) hb2 ?_
        have gx4 := (M.ite_some gx4).1 hb2
        obtain ⟨x5, hx3, gx4⟩ := M.bind_some gx4
        obtain ⟨x6, hx4, gx4⟩ := M.bind_some gx4
        have gx4 := M.ret_some gx4
        refine QRun_b [.pointer (some ⟨b1, 0, none⟩)] 9 _ (by kernel_rfl) (fun w => by kernel_rfl) ?_
        refine QRun_y (.int .i64 r_.Num) (by kernel_rfl) (Y_load1 (t := 2) (p := ⟨b1, 0, none⟩) (v := .int .i64 r_.Num) (by kernel_rfl) (fun w => by kernel_rfl) (H1.cell 0 rfl rfl)) ?_
        refine QRun_y (.int .i64 x5) (by kernel_rfl) (Y_callq (f := 128) (args := #[.int .i64 r_.Num]) (v := .int .i64 x5) (by kernel_rfl) (w_impl_absOf h1 r_.Num _ _ hx3)) ?_
        refine QRun_b [.pointer (some ⟨b1, 1, none⟩)] 12 _ (by kernel_rfl) (fun w => by kernel_rfl) ?_
        refine QRun_y (.int .i64 r_.Den) (by kernel_rfl) (Y_load1 (t := 2) (p := ⟨b1, 1, none⟩) (v := .int .i64 r_.Den) (by kernel_rfl) (fun w => by kernel_rfl) (H1.cell 0 rfl rfl)) ?_
        refine QRun_y (.int .i64 x6) (by kernel_rfl) (Y_callq (f := 112) (args := #[.int .i64 x5, .int .i64 r_.Den]) (v := .int .i64 x6) (by kernel_rfl) (w_impl_divisorOf h1 x5 r_.Den _ _ hx4)) ?_
        refine QRun_b [.bool (x6 == 1)] 15 _ (by kernel_rfl) (fun w => by kernel_rfl) ?_
        refine QRun_bool (x6 == 1) x4 (by kernel_rfl) (fun w => by kernel_rfl) gx4 ?_
        exact QRun_done [19] (by kernel_rfl) (by kernel_rfl)
      · refine QRun_bool x2 false (by kernel_rfl) (fun w => by kernel_rfl) hb2 ?_
        have gx4 := M.ret_some ((M.ite_some gx4).2 hb2)
        refine QRun_n (by kernel_rfl) ?_
        refine QRun_n (by kernel_rfl) ?_
        refine QRun_n (by kernel_rfl) ?_
        refine QRun_n (by kernel_rfl) ?_
        refine QRun_n (by kernel_rfl) ?_
        refine QRun_n (by kernel_rfl) ?_
        refine QRun_n (by kernel_rfl) ?_
        refine QRun_bool false x4 (by kernel_rfl) (fun w => by kernel_rfl) gx4 ?_
        exact QRun_done [19] (by kernel_rfl) (by kernel_rfl)
    refine QRun_b [.bool x4] 17 _ (by kernel_rfl) (fun w => by kernel_rfl) ?_
    exact QRun_done [2] (by kernel_rfl) (by kernel_rfl)
  have hF := M.ret_some hF
  subst hF
  have H2 : Hold h h1 [] := H1.pick [] (by kernel_rfl)
  exact Run_ret1 rfl (ResV_tmp (v := .bool x4) (by kernel_rfl)) ⟨rfl, H2⟩

set_option maxRecDepth 100000 in
set_option maxHeartbeats 4000000 in
theorem w_impl_checkedRatio (h : Heap) (r_ : TRatio) (n : Nat) (r : TRatio × Int) (hF : impl_checkedRatio r_ n = some r) :
    Fn Try.prog 62 #[.agg #[.int .i64 r_.Num, .int .i64 r_.Den]] h fun v h' => v = .tuple #[.agg #[.int .i64 r.1.Num, .int .i64 r.1.Den], .int .i64 r.2] ∧ Hold h h' [] := by
  unfold impl_checkedRatio at hF
  refine Fn_enter (args := [.agg #[.int .i64 r_.Num, .int .i64 r_.Den]]) Try.func62 rfl (by kernel_rfl) (by kernel_rfl) (fun w0 _ => ?_)
  have H0 := Hold.init h
  refine Run_seq ?_
  refine Run_ops ?_
  refine Run_E (by kernel_rfl) ?_
  refine E_box (ty := 26) (cs := [.int .i64 r_.Num, .int .i64 r_.Den]) H0 (fun w => by kernel_rfl) (fun b1 h1 H1 => ?_)
  refine Run_E (by kernel_rfl) ?_
  refine E_box (ty := 26) (cs := [.int .i64 0, .int .i64 0]) H1 (fun w => by kernel_rfl) (fun b2 h2 H2 => ?_)
  refine Run_b [.int .i64 0] 2 _ (by kernel_rfl) (fun w => by kernel_rfl) ?_
  refine Run_nil (by kernel_rfl) ?_
  refine Run_keep [1, 2] (L' := [(1, .pointer (some ⟨b1, 0, none⟩)), (2, .pointer (some ⟨b2, 0, none⟩))]) (by kernel_rfl) ?_
  refine Run_seq ?_
  refine Run_seq ?_
  obtain ⟨x1, hx1, hF⟩ := M.bind_some hF
  refine Run_regC (j := 3) (C := fun x => Hold h x [box b2 26 [.int .i64 0, .int .i64 0], box b1 26 [.int .i64 r_.Num, .int .i64 r_.Den]]) (by kernel_rfl) H2 (L' := [(1, .pointer (some ⟨b1, 0, none⟩)), (2, .pointer (some ⟨b2, 0, none⟩)), (6, .bool (!x1))]) ?_ (fun h3 H3 => ?_)
  · refine QRun_y (.agg #[.int .i64 r_.Num, .int .i64 r_.Den]) (by kernel_rfl) (Y_cls fun hx Hx => (Y_loadA (t := 26) (n := 2) (p := ⟨b1, 0, none⟩) (cs := [.int .i64 r_.Num, .int .i64 r_.Den]) (by kernel_rfl) (fun w => by kernel_rfl) (by kernel_rfl) rfl (Hx.cells (n := 2) (off := 0) 1 rfl rfl))) ?_
    refine QRun_y (.bool x1) (by kernel_rfl) (Y_call (f := 127) (args := #[.agg #[.int .i64 r_.Num, .int .i64 r_.Den]]) (v := .bool x1) (by kernel_rfl) fun hx Hx => (w_impl_IsRatio hx r_ _ _ hx1).mono fun _ _ ⟨e, H'⟩ => ⟨e, Hx.call H' rfl⟩) ?_
    refine QRun_b [.bool (!x1)] 2 _ (by kernel_rfl) (fun w => by kernel_rfl) ?_
    exact QRun_done [1, 2, 6] (by kernel_rfl) (by kernel_rfl)
  have H4 : Hold h h3 [box b2 26 [.int .i64 0, .int .i64 0], box b1 26 [.int .i64 r_.Num, .int .i64 r_.Den]] := H3
  refine Run_cond (b := !x1) (by kernel_rfl) (fun hb1 => ?_) (fun hb1 => ?_)
  · have hF := (M.ite_some hF).1 hb1
    refine Run_seq ?_
    refine Run_ops ?_
    refine Run_b [.agg #[.int .i64 0, .int .i64 0]] 0 _ (by kernel_rfl) (fun w => by kernel_rfl) ?_
    refine Run_E (by kernel_rfl) ?_
    refine E_bput (t := 26) (off := 0) (us := [.int .i64 0, .int .i64 0]) (v := .agg #[.int .i64 0, .int .i64 0]) H4 (by kernel_rfl) (by kernel_rfl) rfl (by kernel_rfl) rfl (fun h4 H5 => ?_)
    refine Run_b [.int .i64 3] 2 _ (by kernel_rfl) (fun w => by kernel_rfl) ?_
    refine Run_nil (by kernel_rfl) ?_
    refine Run_keep [2, 3] (L' := [(2, .pointer (some ⟨b2, 0, none⟩)), (3, .int .i64 3)]) (by kernel_rfl) ?_
    have hF := M.ret_some hF
    subst hF
    have H6 : Hold h h4 [] := H5.pick [] (by kernel_rfl)
    exact Run_ret2 rfl (ResV_cell (n := 2) (cs := [.int .i64 0, .int .i64 0]) (by kernel_rfl) (fun w => by kernel_rfl) (by kernel_rfl) rfl (H5.cells (n := 2) (off := 0) 0 rfl rfl)) (ResV_tmp (v := .int .i64 3) (by kernel_rfl)) ⟨rfl, H6⟩
  · have hF := (M.ite_some hF).2 hb1
    refine Run_skip ?_
    refine Run_seq ?_
    refine Run_ops ?_
    refine Run_y (.agg #[.int .i64 r_.Num, .int .i64 r_.Den]) (by kernel_rfl) (Y_loadA (t := 26) (n := 2) (p := ⟨b1, 0, none⟩) (cs := [.int .i64 r_.Num, .int .i64 r_.Den]) (by kernel_rfl) (fun w => by kernel_rfl) (by kernel_rfl) rfl (H4.cells (n := 2) (off := 0) 1 rfl rfl)) ?_
    refine Run_E (by kernel_rfl) ?_
    refine E_bput (t := 26) (off := 0) (us := [.int .i64 r_.Num, .int .i64 r_.Den]) (v := .agg #[.int .i64 r_.Num, .int .i64 r_.Den]) H4 (by kernel_rfl) (by kernel_rfl) rfl (by kernel_rfl) rfl (fun h5 H7 => ?_)
    refine Run_b [.int .i64 0] 2 _ (by kernel_rfl) (fun w => by kernel_rfl) ?_
    refine Run_nil (by kernel_rfl) ?_
    refine Run_keep [2, 3] (L' := [(2, .pointer (some ⟨b2, 0, none⟩)), (3, .int .i64 0)]) (by kernel_rfl) ?_
    have hF := M.ret_some hF
    subst hF
    have H8 : Hold h h5 [] := H7.pick [] (by kernel_rfl)
    exact Run_ret2 rfl (ResV_cell (n := 2) (cs := [.int .i64 r_.Num, .int .i64 r_.Den]) (by kernel_rfl) (fun w => by kernel_rfl) (by kernel_rfl) rfl (H7.cells (n := 2) (off := 0) 0 rfl rfl)) (ResV_tmp (v := .int .i64 0) (by kernel_rfl)) ⟨rfl, H8⟩

end Go.Proofs.Ytjdcdcipilhmeaa
