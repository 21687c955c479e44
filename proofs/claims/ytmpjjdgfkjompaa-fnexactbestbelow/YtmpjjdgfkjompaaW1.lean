/-
  Walks: each Go function, called with what reads as plain data, returns what its plain program computes.
  Conditions: None beyond the given statement.
-/
import Derived.Test.YtmpjjdgfkjompaaW0
namespace Go.Proofs.Ytmpjjdgfkjompaa
open Go
attribute [local irreducible] setL setB opA fineI idleI fineB evB okB markB markBs readyB readyBs chainB lk rho pickL dropSlot tailOK
set_option maxRecDepth 100000 in
set_option maxHeartbeats 4000000 in
theorem w_laws_heldInt64S (h : Heap) (a_ : List Int) {Sa_ : Bs} (aa_ : Option Addr) (ca_ : Nat) (ra_ : Rd cd2 h Sa_ aa_ ca_ a_) (k_ : Int) (n : Nat) (r : Int) (hF : laws_heldInt64S a_ k_ n = some r) :
    Fn Try.prog 24 #[.slice aa_ a_.length ca_, .int .i64 k_] h fun v h' => v = .int .i64 r ∧ h' = h := by
  unfold laws_heldInt64S at hF
  refine Fn_enter (args := [.slice aa_ a_.length ca_, .int .i64 k_]) Try.func24 rfl (by kernel_rfl) (by kernel_rfl) (fun w0 _ => ?_)
  refine Run_seq ?_
  refine Run_reg 1 (by kernel_rfl) (L' := [(0, .slice aa_ a_.length ca_), (1, .int .i64 k_)]) ?_ ?_
  · refine QRun_b [.int .i64 0] 0 _ (by kernel_rfl) (fun w => by kernel_rfl) ?_
    exact QRun_done [0, 1] (by kernel_rfl) (by kernel_rfl)
  refine Run_seq ?_
  refine Run_seq ?_
  refine Run_reg 1 (by kernel_rfl) (L' := [(0, .slice aa_ a_.length ca_), (1, .int .i64 k_), (5, .int .i64 0)]) ?_ ?_
  · refine QRun_b [.int .i64 0] 0 _ (by kernel_rfl) (fun w => by kernel_rfl) ?_
    exact QRun_done [0, 1, 5] (by kernel_rfl) (by kernel_rfl)
  obtain ⟨x1, gx1, hF⟩ := M.bind_some hF
  obtain ⟨hloy1, hhiy1, gx1⟩ := M.for_start gx1
  refine Run_join (fun L' h' => ∃ (s2 : Int), x1 = .inl s2 ∧ L' = [(1, .int .i64 s2)] ∧ h = h') ?_ ?_
  · rintro _ _ ⟨s2, es2, rfl, rfl⟩
    have hF := M.cont_inl' hF es2
    refine Run_seq ?_
    refine Run_reg 2 (by kernel_rfl) (L' := [(4, .int .i64 s2)]) ?_ ?_
    · refine QRun_b [.int .i64 s2, .int .i64 s2] 0 _ (by kernel_rfl) (fun w => by kernel_rfl) ?_
      exact QRun_done [4] (by kernel_rfl) (by kernel_rfl)
    have hF := M.ret_some hF
    subst hF
    exact Run_ret1 rfl (ResV_tmp (v := .int .i64 s2) (by kernel_rfl)) ⟨rfl, rfl⟩
  · refine Run_block ?_
    refine Run_keep [0, 1, 5] (L' := [(0, .slice aa_ a_.length ca_), (1, .int .i64 k_), (5, .int .i64 0)]) (by kernel_rfl) ?_
    refine Run_loop (fun m L' h' => ∃ (i1 : Int) (s1 : Int), 0 ≤ i1 ∧ M.forN (a_.length : Int) _ _ n m i1 s1 = some x1 ∧ L' = [(0, .slice aa_ a_.length ca_), (1, .int .i64 s1), (5, .int .i64 i1)] ∧ h = h') ((a_.length : Int) - 0).toNat ⟨0, k_, Int.le_refl _, gx1, rfl, rfl⟩ ?_
    rintro my1 _ _ ⟨i1, s1, hloy1', gx1, rfl, rfl⟩
    refine Run_seq ?_
    refine Run_seq ?_
    refine Run_reg 4 (by kernel_rfl) (L' := [(0, .slice aa_ a_.length ca_), (1, .int .i64 s1), (5, .int .i64 i1), (9, .bool (decide (i1 < (a_.length : Int))))]) ?_ ?_
    · refine QRun_b [.int .i64 i1, .slice aa_ a_.length ca_, .int .i64 (a_.length : Int), .bool (decide (i1 < (a_.length : Int)))] 0 _ (by kernel_rfl) (fun w => by kernel_rfl) ?_
      exact QRun_done [0, 1, 5, 9] (by kernel_rfl) (by kernel_rfl)
    refine Run_cond (b := decide (i1 < (a_.length : Int))) (by kernel_rfl) (fun hb1 => ?_) (fun hb1 => ?_)
    · obtain ⟨my1, y1, rfl, hB1, hgoy1, houty1⟩ := M.for_go gx1 hb1
      have hlty1 := of_decide_eq_true hb1
      refine Run_skip ?_
      refine Run_seq ?_
      refine Run_block ?_
      refine Run_seq ?_
      refine Run_seq ?_
      obtain ⟨x2, hx1, hB1⟩ := M.bind_some hB1
      obtain ⟨hx1l, hx1u, hx1⟩ := M.idx_some hx1
      refine Run_reg 6 (by kernel_rfl) (L' := [(0, .slice aa_ a_.length ca_), (1, .int .i64 s1), (5, .int .i64 i1), (17, .bool (x2 != s1))]) ?_ ?_
      · refine QRun_b [.slice aa_ a_.length ca_, .int .i64 i1] 0 _ (by kernel_rfl) (fun w => by kernel_rfl) ?_
        refine QRun_y (.pointer (some (adr aa_ (i1.toNat * 1)))) (by kernel_rfl) (Y_idx (t := 23) (e := 2) (sz := 1) (a := aa_) (n := a_.length) (cap := ca_) (kk := .i64) (i := i1) (by kernel_rfl) Try.underlying23 (by kernel_rfl) (ra_.cell hx1).1 hx1l hx1u) ?_
        refine QRun_y (.int .i64 x2) (by kernel_rfl) (Y_load1 (t := 2) (p := adr aa_ (i1.toNat * 1)) (v := .int .i64 x2) (by kernel_rfl) (fun w => by kernel_rfl) (cd2_cell ra_ hx1)) ?_
        refine QRun_b [.int .i64 s1, .bool (x2 != s1)] 4 _ (by kernel_rfl) (fun w => by kernel_rfl) ?_
        exact QRun_done [0, 1, 5, 17] (by kernel_rfl) (by kernel_rfl)
      refine Run_cond (b := x2 != s1) (by kernel_rfl) (fun hb2 => ?_) (fun hb2 => ?_)
      · have hB1 := (M.ite_some hB1).1 hb2
        refine Run_seq ?_
        refine Run_reg 1 (by kernel_rfl) (L' := [(4, .int .i64 (-1))]) ?_ ?_
        · refine QRun_b [.int .i64 (-1)] 0 _ (by kernel_rfl) (fun w => by kernel_rfl) ?_
          exact QRun_done [4] (by kernel_rfl) (by kernel_rfl)
        have hB1 := M.ret_some hB1
        have gx1 := houty1 _ hB1.symm
        have hF := M.cont_inr' hF gx1
        have hF := M.ret_some hF
        subst hF
        exact Run_ret1 rfl (ResV_tmp (v := .int .i64 (-1)) (by kernel_rfl)) ⟨rfl, rfl⟩
      · have hB1 := (M.ite_some hB1).2 hb2
        refine Run_skip ?_
        refine Run_reg 3 (by kernel_rfl) (L' := [(0, .slice aa_ a_.length ca_), (1, .int .i64 (w64 (s1 + 1))), (5, .int .i64 i1)]) ?_ ?_
        · refine QRun_b [.int .i64 s1, .int .i64 (w64 (s1 + 1)), .int .i64 (w64 (s1 + 1))] 0 _ (by kernel_rfl) (fun w => by kernel_rfl) ?_
          exact QRun_done [0, 1, 5] (by kernel_rfl) (by kernel_rfl)
        refine Run_blk ?_
        refine Run_reg 3 (by kernel_rfl) (L' := [(0, .slice aa_ a_.length ca_), (1, .int .i64 (w64 (s1 + 1))), (5, .int .i64 (i1 + 1))]) ?_ ?_
        · refine QRun_b [.int .i64 i1] 0 _ (by kernel_rfl) (fun w => by kernel_rfl) ?_
          refine QRun_y (.int .i64 (i1 + 1)) (by kernel_rfl) (Y_eq (v := .int .i64 (w64 (i1 + 1))) (Y_pure (fun w => by kernel_rfl)) (by rw [w64_eq _ (by omega)])) ?_
          refine QRun_b [.int .i64 (i1 + 1)] 2 _ (by kernel_rfl) (fun w => by kernel_rfl) ?_
          exact QRun_done [0, 1, 5] (by kernel_rfl) (by kernel_rfl)
        have hB1 := M.ret_some hB1
        have gx1 := hgoy1 _ hB1.symm
        exact Run_again [0, 1, 5] (by kernel_rfl) my1 (Nat.lt_succ_self _) ⟨i1 + 1, (w64 (s1 + 1)), by omega, gx1, rfl, rfl⟩
    · have gx1 := M.for_end gx1 hb1
      subst gx1
      refine Run_exit (k' := _) rfl ?_
      exact Run_fall [1] (by kernel_rfl) ⟨s1, rfl, rfl, rfl⟩

set_option maxRecDepth 100000 in
set_option maxHeartbeats 4000000 in
theorem w_laws_markInt64S (h hE : Heap) (it : Item) (a_ : List Int) (aa_ : Option Addr) (ca_ : Nat) (k_ : Int) (HM : Hold h hE [own cd2 aa_ a_.length ca_ a_, it]) (n : Nat) (r : Int × (List Int)) (hF : laws_markInt64S a_ k_ n = some r) :
    Fn Try.prog 23 #[.slice aa_ a_.length ca_, .int .i64 k_] hE fun v h' => v = .int .i64 r.1 ∧ Hold h h' [own cd2 aa_ a_.length ca_ r.2, it] := by
  unfold laws_markInt64S at hF
  refine Fn_enter (args := [.slice aa_ a_.length ca_, .int .i64 k_]) Try.func23 rfl (by kernel_rfl) (by kernel_rfl) (fun w0 _ => ?_)
  refine Run_seq ?_
  refine Run_reg 1 (by kernel_rfl) (L' := [(0, .slice aa_ a_.length ca_), (1, .int .i64 k_)]) ?_ ?_
  · refine QRun_b [.int .i64 0] 0 _ (by kernel_rfl) (fun w => by kernel_rfl) ?_
    exact QRun_done [0, 1] (by kernel_rfl) (by kernel_rfl)
  refine Run_seq ?_
  refine Run_seq ?_
  refine Run_reg 1 (by kernel_rfl) (L' := [(0, .slice aa_ a_.length ca_), (1, .int .i64 k_), (5, .int .i64 0)]) ?_ ?_
  · refine QRun_b [.int .i64 0] 0 _ (by kernel_rfl) (fun w => by kernel_rfl) ?_
    exact QRun_done [0, 1, 5] (by kernel_rfl) (by kernel_rfl)
  obtain ⟨x1, gx1, hF⟩ := M.bind_some hF
  obtain ⟨hloy1, hhiy1, gx1⟩ := M.for_start gx1
  refine Run_join (fun L' h' => L' = [(1, .int .i64 x1.2)] ∧ Hold h h' [own cd2 aa_ a_.length ca_ x1.1, it]) ?_ ?_
  · rintro _ h2 ⟨rfl, H2⟩
    refine Run_seq ?_
    refine Run_reg 2 (by kernel_rfl) (L' := [(4, .int .i64 x1.2)]) ?_ ?_
    · refine QRun_b [.int .i64 x1.2, .int .i64 x1.2] 0 _ (by kernel_rfl) (fun w => by kernel_rfl) ?_
      exact QRun_done [4] (by kernel_rfl) (by kernel_rfl)
    have hF := M.ret_some hF
    subst hF
    exact Run_ret1 rfl (ResV_tmp (v := .int .i64 x1.2) (by kernel_rfl)) ⟨rfl, H2⟩
  · refine Run_block ?_
    refine Run_keep [0, 1, 5] (L' := [(0, .slice aa_ a_.length ca_), (1, .int .i64 k_), (5, .int .i64 0)]) (by kernel_rfl) ?_
    refine Run_loop (fun m L' h' => ∃ (i1 : Int) (s1 : (List Int) × Int), 0 ≤ i1 ∧ M.forN (a_.length : Int) _ _ n m i1 s1 = some x1 ∧ L' = [(0, .slice aa_ a_.length ca_), (1, .int .i64 s1.2), (5, .int .i64 i1)] ∧ Hold h h' [own cd2 aa_ a_.length ca_ s1.1, it]) ((a_.length : Int) - 0).toNat ⟨0, (a_, k_), Int.le_refl _, gx1, rfl, HM⟩ ?_
    rintro my1 _ h1 ⟨i1, s1, hloy1', gx1, rfl, H1⟩
    refine Run_seq ?_
    refine Run_seq ?_
    refine Run_reg 4 (by kernel_rfl) (L' := [(0, .slice aa_ a_.length ca_), (1, .int .i64 s1.2), (5, .int .i64 i1), (9, .bool (decide (i1 < (a_.length : Int))))]) ?_ ?_
    · refine QRun_b [.int .i64 i1, .slice aa_ a_.length ca_, .int .i64 (a_.length : Int), .bool (decide (i1 < (a_.length : Int)))] 0 _ (by kernel_rfl) (fun w => by kernel_rfl) ?_
      exact QRun_done [0, 1, 5, 9] (by kernel_rfl) (by kernel_rfl)
    refine Run_cond (b := decide (i1 < (a_.length : Int))) (by kernel_rfl) (fun hb1 => ?_) (fun hb1 => ?_)
    · obtain ⟨my1, y1, rfl, hB1, hgoy1, houty1⟩ := M.for_go gx1 hb1
      have hlty1 := of_decide_eq_true hb1
      refine Run_skip ?_
      refine Run_seq ?_
      refine Run_block ?_
      refine Run_seq ?_
      refine Run_ops ?_
      obtain ⟨x2, hx1, hB1⟩ := M.bind_some hB1
      obtain ⟨hx1l, hx1u, hx1⟩ := M.idx_some hx1
      refine Run_b [.slice aa_ a_.length ca_, .int .i64 i1, .int .i64 s1.2] 0 _ (by kernel_rfl) (fun w => by kernel_rfl) ?_
      refine Run_y (.pointer (some (adr aa_ (i1.toNat * 1)))) (by kernel_rfl) (Y_idx (t := 23) (e := 2) (sz := 1) (a := aa_) (n := a_.length) (cap := ca_) (kk := .i64) (i := i1) (by kernel_rfl) Try.underlying23 (by kernel_rfl) ((H1.rd 0 rfl).cell hx1).1 hx1l (by rw [← (H1.len 0 rfl)]; exact hx1u)) ?_
      obtain ⟨l1, hu1, hB1⟩ := M.bind_some hB1
      have hu1 := M.upd_some hu1
      refine Run_E (by kernel_rfl) ?_
      refine E_put (C := cd2) (t := 2) (sz := 1) (j := i1) (x := s1.2) (v := .int .i64 s1.2) H1 cd2_flat (by kernel_rfl) rfl (cd2_own _) (by kernel_rfl) hu1 (fun h3 H3 => ?_)
      refine Run_nil (by kernel_rfl) ?_
      refine Run_keep [0, 1, 5] (L' := [(0, .slice aa_ a_.length ca_), (1, .int .i64 s1.2), (5, .int .i64 i1)]) (by kernel_rfl) ?_
      refine Run_reg 3 (by kernel_rfl) (L' := [(0, .slice aa_ a_.length ca_), (1, .int .i64 (w64 (s1.2 + 1))), (5, .int .i64 i1)]) ?_ ?_
      · refine QRun_b [.int .i64 s1.2, .int .i64 (w64 (s1.2 + 1)), .int .i64 (w64 (s1.2 + 1))] 0 _ (by kernel_rfl) (fun w => by kernel_rfl) ?_
        exact QRun_done [0, 1, 5] (by kernel_rfl) (by kernel_rfl)
      refine Run_blk ?_
      refine Run_reg 3 (by kernel_rfl) (L' := [(0, .slice aa_ a_.length ca_), (1, .int .i64 (w64 (s1.2 + 1))), (5, .int .i64 (i1 + 1))]) ?_ ?_
      · refine QRun_b [.int .i64 i1] 0 _ (by kernel_rfl) (fun w => by kernel_rfl) ?_
        refine QRun_y (.int .i64 (i1 + 1)) (by kernel_rfl) (Y_eq (v := .int .i64 (w64 (i1 + 1))) (Y_pure (fun w => by kernel_rfl)) (by rw [w64_eq _ (by omega)])) ?_
        refine QRun_b [.int .i64 (i1 + 1)] 2 _ (by kernel_rfl) (fun w => by kernel_rfl) ?_
        exact QRun_done [0, 1, 5] (by kernel_rfl) (by kernel_rfl)
      have hB1 := M.ret_some hB1
      have gx1 := hgoy1 _ hB1.symm
      exact Run_again [0, 1, 5] (by kernel_rfl) my1 (Nat.lt_succ_self _) ⟨i1 + 1, (l1, (w64 (s1.2 + 1))), by omega, gx1, rfl, H3⟩
    · have gx1 := M.for_end gx1 hb1
      subst gx1
      refine Run_exit (k' := _) rfl ?_
      exact Run_fall [1] (by kernel_rfl) ⟨rfl, H1⟩

set_option maxRecDepth 100000 in
set_option maxHeartbeats 4000000 in
theorem w_laws_markInt64SS (h hE : Heap) (it : Item) (a_ : List (List Int)) (aa_ : Option Addr) (ca_ : Nat) (k_ : Int) (HM : Hold h hE [own cd23 aa_ a_.length ca_ a_, it]) (n : Nat) (r : Int × (List (List Int))) (hF : laws_markInt64SS a_ k_ n = some r) :
    Fn Try.prog 22 #[.slice aa_ a_.length ca_, .int .i64 k_] hE fun v h' => v = .int .i64 r.1 ∧ Hold h h' [own cd23 aa_ a_.length ca_ r.2, it] := by
  unfold laws_markInt64SS at hF
  refine Fn_enter (args := [.slice aa_ a_.length ca_, .int .i64 k_]) Try.func22 rfl (by kernel_rfl) (by kernel_rfl) (fun w0 _ => ?_)
  refine Run_seq ?_
  refine Run_reg 1 (by kernel_rfl) (L' := [(0, .slice aa_ a_.length ca_), (1, .int .i64 k_)]) ?_ ?_
  · refine QRun_b [.int .i64 0] 0 _ (by kernel_rfl) (fun w => by kernel_rfl) ?_
    exact QRun_done [0, 1] (by kernel_rfl) (by kernel_rfl)
  refine Run_seq ?_
  refine Run_seq ?_
  refine Run_reg 1 (by kernel_rfl) (L' := [(0, .slice aa_ a_.length ca_), (1, .int .i64 k_), (5, .int .i64 0)]) ?_ ?_
  · refine QRun_b [.int .i64 0] 0 _ (by kernel_rfl) (fun w => by kernel_rfl) ?_
    exact QRun_done [0, 1, 5] (by kernel_rfl) (by kernel_rfl)
  obtain ⟨x1, gx1, hF⟩ := M.bind_some hF
  obtain ⟨hloy1, hhiy1, gx1⟩ := M.for_start gx1
  refine Run_join (fun L' h' => L' = [(1, .int .i64 x1.2)] ∧ Hold h h' [own cd23 aa_ a_.length ca_ x1.1, it]) ?_ ?_
  · rintro _ h2 ⟨rfl, H2⟩
    refine Run_seq ?_
    refine Run_reg 2 (by kernel_rfl) (L' := [(4, .int .i64 x1.2)]) ?_ ?_
    · refine QRun_b [.int .i64 x1.2, .int .i64 x1.2] 0 _ (by kernel_rfl) (fun w => by kernel_rfl) ?_
      exact QRun_done [4] (by kernel_rfl) (by kernel_rfl)
    have hF := M.ret_some hF
    subst hF
    exact Run_ret1 rfl (ResV_tmp (v := .int .i64 x1.2) (by kernel_rfl)) ⟨rfl, H2⟩
  · refine Run_block ?_
    refine Run_keep [0, 1, 5] (L' := [(0, .slice aa_ a_.length ca_), (1, .int .i64 k_), (5, .int .i64 0)]) (by kernel_rfl) ?_
    refine Run_loop (fun m L' h' => ∃ (i1 : Int) (s1 : (List (List Int)) × Int), 0 ≤ i1 ∧ M.forN (a_.length : Int) _ _ n m i1 s1 = some x1 ∧ L' = [(0, .slice aa_ a_.length ca_), (1, .int .i64 s1.2), (5, .int .i64 i1)] ∧ Hold h h' [own cd23 aa_ a_.length ca_ s1.1, it]) ((a_.length : Int) - 0).toNat ⟨0, (a_, k_), Int.le_refl _, gx1, rfl, HM⟩ ?_
    rintro my1 _ h1 ⟨i1, s1, hloy1', gx1, rfl, H1⟩
    refine Run_seq ?_
    refine Run_seq ?_
    refine Run_reg 4 (by kernel_rfl) (L' := [(0, .slice aa_ a_.length ca_), (1, .int .i64 s1.2), (5, .int .i64 i1), (9, .bool (decide (i1 < (a_.length : Int))))]) ?_ ?_
    · refine QRun_b [.int .i64 i1, .slice aa_ a_.length ca_, .int .i64 (a_.length : Int), .bool (decide (i1 < (a_.length : Int)))] 0 _ (by kernel_rfl) (fun w => by kernel_rfl) ?_
      exact QRun_done [0, 1, 5, 9] (by kernel_rfl) (by kernel_rfl)
    refine Run_cond (b := decide (i1 < (a_.length : Int))) (by kernel_rfl) (fun hb1 => ?_) (fun hb1 => ?_)
    · obtain ⟨my1, y1, rfl, hB1, hgoy1, houty1⟩ := M.for_go gx1 hb1
      have hlty1 := of_decide_eq_true hb1
      refine Run_skip ?_
      refine Run_seq ?_
      refine Run_block ?_
      refine Run_ops ?_
      obtain ⟨x2, hx1, hB1⟩ := M.bind_some hB1
      obtain ⟨hx1l, hx1u, hx1⟩ := M.idx_some hx1
      have H3 := H1.toRows
      obtain ⟨a1, c1, H4⟩ := H3.pinRow hx1
      refine Run_b [.slice aa_ a_.length ca_, .int .i64 i1] 0 _ (by kernel_rfl) (fun w => by kernel_rfl) ?_
      refine Run_y (.pointer (some (adr aa_ (i1.toNat * 1)))) (by kernel_rfl) (Y_idx (t := 22) (e := 23) (sz := 1) (a := aa_) (n := a_.length) (cap := ca_) (kk := .i64) (i := i1) (by kernel_rfl) Try.underlying22 (by kernel_rfl) ((H1.rd 0 rfl).cell hx1).1 hx1l (by rw [← (H1.len 0 rfl)]; exact hx1u)) ?_
      refine Run_y (.slice a1 x2.length c1) (by kernel_rfl) (Y_load1 (t := 23) (p := adr aa_ (i1.toNat * 1)) (v := .slice a1 x2.length c1) (by kernel_rfl) (fun w => by kernel_rfl) (H4.cellPin 0 rfl 0 rfl)) ?_
      refine Run_b [.int .i64 s1.2] 4 _ (by kernel_rfl) (fun w => by kernel_rfl) ?_
      obtain ⟨x3, hx2, hB1⟩ := M.bind_some hB1
      have hc1 := H4.cellPin 0 rfl 0 rfl
      have hr1 := H4.getPin 0 rfl 0 rfl
      have H6 := H4.ofRows
      obtain ⟨a2, c2, hc2, H5⟩ := H6.takeRow hr1
      have ha1 := hc2.symm.trans hc1
      simp only [Option.some.injEq, Value.slice.injEq, true_and] at ha1
      obtain ⟨rfl, rfl⟩ := ha1
      have H7 : Hold h h1 [own cd2 a2 x2.length c2 x2, bun [rest cd2 23 aa_ a_.length ca_ s1.1 i1.toNat a2 x2.length c2, it]] := Hold.bundle (S := [own cd2 a2 x2.length c2 x2]) (R := [rest cd2 23 aa_ a_.length ca_ s1.1 i1.toNat a2 x2.length c2, it]) H5
      refine Run_E (by kernel_rfl) ?_
      refine E_call (f := 23) (args := #[.slice a2 x2.length c2, .int .i64 s1.2]) (w_laws_markInt64S h h1 _ x2 a2 c2 s1.2 H7 _ _ hx2) (by kernel_rfl) (fun v1 h3 hp1 => ?_)
      obtain ⟨rfl, H8⟩ := hp1
      have H9 : Hold h h3 [own cd2 a2 x2.length c2 x3.2, rest cd2 23 aa_ a_.length ca_ s1.1 i1.toNat a2 x2.length c2, it] := Hold.unbundle (S := [own cd2 a2 x2.length c2 x3.2]) (R := [rest cd2 23 aa_ a_.length ca_ s1.1 i1.toNat a2 x2.length c2, it]) H8 (Hold.tailBase (S := [own cd2 a2 x2.length c2 x2]) (R := [rest cd2 23 aa_ a_.length ca_ s1.1 i1.toNat a2 x2.length c2, it]) H5)
      have H10 : Hold h h3 [own cd23 aa_ a_.length ca_ (s1.1.set i1.toNat x3.2), it] := Hold.putRow H9
      refine Run_b [.int .i64 x3.1] 6 _ (by kernel_rfl) (fun w => by kernel_rfl) ?_
      refine Run_nil (by kernel_rfl) ?_
      refine Run_keep [0, 1, 5] (L' := [(0, .slice aa_ a_.length ca_), (1, .int .i64 x3.1), (5, .int .i64 i1)]) (by kernel_rfl) ?_
      refine Run_blk ?_
      refine Run_reg 3 (by kernel_rfl) (L' := [(0, .slice aa_ a_.length ca_), (1, .int .i64 x3.1), (5, .int .i64 (i1 + 1))]) ?_ ?_
      · refine QRun_b [.int .i64 i1] 0 _ (by kernel_rfl) (fun w => by kernel_rfl) ?_
        refine QRun_y (.int .i64 (i1 + 1)) (by kernel_rfl) (Y_eq (v := .int .i64 (w64 (i1 + 1))) (Y_pure (fun w => by kernel_rfl)) (by rw [w64_eq _ (by omega)])) ?_
        refine QRun_b [.int .i64 (i1 + 1)] 2 _ (by kernel_rfl) (fun w => by kernel_rfl) ?_
        exact QRun_done [0, 1, 5] (by kernel_rfl) (by kernel_rfl)
      have hB1 := M.ret_some hB1
      have gx1 := hgoy1 _ hB1.symm
      exact Run_again [0, 1, 5] (by kernel_rfl) my1 (Nat.lt_succ_self _) ⟨i1 + 1, ((s1.1.set i1.toNat x3.2), x3.1), by omega, gx1, rfl, H10⟩
    · have gx1 := M.for_end gx1 hb1
      subst gx1
      refine Run_exit (k' := _) rfl ?_
      exact Run_fall [1] (by kernel_rfl) ⟨rfl, H1⟩

set_option maxRecDepth 100000 in
set_option maxHeartbeats 4000000 in
theorem w_laws_FnExactBestBelow (h : Heap) (aA : List (List Int)) (aaA : Option Addr) (caA : Nat) (raA : Rd cd23 h (Lt h) aaA caA aA) (aB : List Int) (aaB : Option Addr) (caB : Nat) (raB : Rd cd2 h (Lt h) aaB caB aB) (n : Nat) (r : Bool) (hF : laws_FnExactBestBelow aA aB n = some r) :
    Fn Try.prog 5 #[.slice aaA aA.length caA, .slice aaB aB.length caB] h fun v h' => v = .bool r ∧ Hold h h' [] := by
  unfold laws_FnExactBestBelow at hF
  refine Fn_enter (args := [.slice aaA aA.length caA, .slice aaB aB.length caB]) Try.func5 rfl (by kernel_rfl) (by kernel_rfl) (fun w0 _ => ?_)
  have H0 := Hold.init h
  refine Run_seq ?_
  refine Run_reg 1 (by kernel_rfl) (L' := [(0, .slice aaA aA.length caA), (1, .slice aaB aB.length caB)]) ?_ ?_
  · refine QRun_b [.bool false] 0 _ (by kernel_rfl) (fun w => by kernel_rfl) ?_
    exact QRun_done [0, 1] (by kernel_rfl) (by kernel_rfl)
  refine Run_seq ?_
  refine Run_seq ?_
  refine Run_reg 3 (by kernel_rfl) (L' := [(0, .slice aaA aA.length caA), (1, .slice aaB aB.length caB), (19, .bool (decide (1048576 < (aB.length : Int))))]) ?_ ?_
  · refine QRun_b [.slice aaB aB.length caB, .int .i64 (aB.length : Int), .bool (decide (1048576 < (aB.length : Int)))] 0 _ (by kernel_rfl) (fun w => by kernel_rfl) ?_
    exact QRun_done [0, 1, 19] (by kernel_rfl) (by kernel_rfl)
  refine Run_cond (b := decide (1048576 < (aB.length : Int))) (by kernel_rfl) (fun hb1 => ?_) (fun hb1 => ?_)
  · have hF := (M.ite_some hF).1 hb1
    refine Run_seq ?_
    refine Run_reg 1 (by kernel_rfl) (L' := [(4, .bool true)]) ?_ ?_
    · refine QRun_b [.bool true] 0 _ (by kernel_rfl) (fun w => by kernel_rfl) ?_
      exact QRun_done [4] (by kernel_rfl) (by kernel_rfl)
    have hF := M.ret_some hF
    subst hF
    exact Run_ret1 rfl (ResV_tmp (v := .bool true) (by kernel_rfl)) ⟨rfl, H0⟩
  · have hF := (M.ite_some hF).2 hb1
    refine Run_skip ?_
    refine Run_seq ?_
    refine Run_reg 1 (by kernel_rfl) (L' := [(0, .slice aaA aA.length caA), (1, .slice aaB aB.length caB), (5, .int .i64 1048576)]) ?_ ?_
    · refine QRun_b [.int .i64 1048576] 0 _ (by kernel_rfl) (fun w => by kernel_rfl) ?_
      exact QRun_done [0, 1, 5] (by kernel_rfl) (by kernel_rfl)
    refine Run_seq ?_
    obtain ⟨x1, hx1, hF⟩ := M.bind_some hF
    refine Run_reg 4 (by kernel_rfl) (L' := [(0, .slice aaA aA.length caA), (1, .slice aaB aB.length caB), (5, .int .i64 x1)]) ?_ ?_
    · refine QRun_b [.slice aaA aA.length caA, .int .i64 1048576] 0 _ (by kernel_rfl) (fun w => by kernel_rfl) ?_
      refine QRun_y (.int .i64 x1) (by kernel_rfl) (Y_callq (f := 15) (args := #[.slice aaA aA.length caA, .int .i64 1048576]) (v := .int .i64 x1) (by kernel_rfl) (w_laws_szInt64SS h aA aaA caA raA 1048576 _ _ hx1)) ?_
      refine QRun_b [.int .i64 x1] 3 _ (by kernel_rfl) (fun w => by kernel_rfl) ?_
      exact QRun_done [0, 1, 5] (by kernel_rfl) (by kernel_rfl)
    refine Run_seq ?_
    refine Run_seq ?_
    refine Run_reg 2 (by kernel_rfl) (L' := [(0, .slice aaA aA.length caA), (1, .slice aaB aB.length caB), (24, .bool (decide (x1 < 0)))]) ?_ ?_
    · refine QRun_b [.int .i64 x1, .bool (decide (x1 < 0))] 0 _ (by kernel_rfl) (fun w => by kernel_rfl) ?_
      exact QRun_done [0, 1, 24] (by kernel_rfl) (by kernel_rfl)
    refine Run_cond (b := decide (x1 < 0)) (by kernel_rfl) (fun hb2 => ?_) (fun hb2 => ?_)
    · have hF := (M.ite_some hF).1 hb2
      refine Run_seq ?_
      refine Run_reg 1 (by kernel_rfl) (L' := [(4, .bool true)]) ?_ ?_
      · refine QRun_b [.bool true] 0 _ (by kernel_rfl) (fun w => by kernel_rfl) ?_
        exact QRun_done [4] (by kernel_rfl) (by kernel_rfl)
      have hF := M.ret_some hF
      subst hF
      exact Run_ret1 rfl (ResV_tmp (v := .bool true) (by kernel_rfl)) ⟨rfl, H0⟩
    · have hF := (M.ite_some hF).2 hb2
      refine Run_skip ?_
      refine Run_seq ?_
      refine Run_ops ?_
      refine Run_b [.slice aaA aA.length caA] 0 _ (by kernel_rfl) (fun w => by kernel_rfl) ?_
      obtain ⟨x2, hx2, hF⟩ := M.bind_some hF
      refine Run_E (by kernel_rfl) ?_
      refine E_call (f := 17) (args := #[.slice aaA aA.length caA]) (w_laws_toInt64SS h aA aaA caA raA _ _ hx2) (by kernel_rfl) (fun v1 h1 hp1 => ?_)
      obtain ⟨a1, c1, rfl, H1⟩ := hp1
      have H2 : Hold h h1 [own cd23 a1 x2.length c1 x2] := H0.call H1 rfl
      refine Run_b [.slice aaB aB.length caB] 2 _ (by kernel_rfl) (fun w => by kernel_rfl) ?_
      obtain ⟨x3, hx3, hF⟩ := M.bind_some hF
      refine Run_E (by kernel_rfl) ?_
      refine E_call (f := 18) (args := #[.slice aaB aB.length caB]) (w_laws_toInt64S h1 aB aaB caB (raB.at H2.ext) _ _ hx3) (by kernel_rfl) (fun v2 h2 hp2 => ?_)
      obtain ⟨a2, c2, rfl, H3⟩ := hp2
      have H4 : Hold h h2 [own cd2 a2 x3.length c2 x3, own cd23 a1 x2.length c1 x2] := H2.call H3 rfl
      obtain ⟨x4, hx4, hF⟩ := M.bind_some hF
      refine Run_E (by kernel_rfl) ?_
      refine E_call (f := 27) (args := #[.slice a1 x2.length c1, .slice a2 x3.length c2]) (w_spec_BestBelow h2 x2 a1 c1 (H4.rd 1 rfl) x3 a2 c2 (H4.rd 0 rfl) _ _ hx4) (by kernel_rfl) (fun v3 h3 hp3 => ?_)
      obtain ⟨a3, c3, rfl, H5⟩ := hp3
      have H6 : Hold h h3 [own cd2 a3 x4.1.length c3 x4.1, own cd2 a2 x3.length c2 x3, own cd23 a1 x2.length c1 x2] := H4.call H5 rfl
      refine Run_b [.tuple #[.slice a3 x4.1.length c3, .int .i64 x4.2], .slice a3 x4.1.length c3, .int .i64 x4.2, .slice a3 x4.1.length c3, .int .i64 x4.2] 5 _ (by kernel_rfl) (fun w => by kernel_rfl) ?_
      refine Run_nil (by kernel_rfl) ?_
      refine Run_keep [0, 1, 6, 7] (L' := [(0, .slice aaA aA.length caA), (1, .slice aaB aB.length caB), (6, .slice a3 x4.1.length c3), (7, .int .i64 x4.2)]) (by kernel_rfl) ?_
      refine Run_seq ?_
      refine Run_ops ?_
      refine Run_b [.slice aaA aA.length caA] 0 _ (by kernel_rfl) (fun w => by kernel_rfl) ?_
      obtain ⟨x5, hx5, hF⟩ := M.bind_some hF
      refine Run_E (by kernel_rfl) ?_
      refine E_call (f := 17) (args := #[.slice aaA aA.length caA]) (w_laws_toInt64SS h3 aA aaA caA (raA.at H6.ext) _ _ hx5) (by kernel_rfl) (fun v4 h4 hp4 => ?_)
      obtain ⟨a4, c4, rfl, H7⟩ := hp4
      have H8 : Hold h h4 [own cd23 a4 x5.length c4 x5, own cd2 a3 x4.1.length c3 x4.1, own cd2 a2 x3.length c2 x3, own cd23 a1 x2.length c1 x2] := H6.call H7 rfl
      refine Run_b [.slice a4 x5.length c4] 2 _ (by kernel_rfl) (fun w => by kernel_rfl) ?_
      refine Run_nil (by kernel_rfl) ?_
      refine Run_keep [0, 1, 6, 7, 8] (L' := [(0, .slice aaA aA.length caA), (1, .slice aaB aB.length caB), (6, .slice a3 x4.1.length c3), (7, .int .i64 x4.2), (8, .slice a4 x5.length c4)]) (by kernel_rfl) ?_
      refine Run_seq ?_
      refine Run_ops ?_
      refine Run_b [.slice aaB aB.length caB] 0 _ (by kernel_rfl) (fun w => by kernel_rfl) ?_
      obtain ⟨x6, hx6, hF⟩ := M.bind_some hF
      refine Run_E (by kernel_rfl) ?_
      refine E_call (f := 18) (args := #[.slice aaB aB.length caB]) (w_laws_toInt64S h4 aB aaB caB (raB.at H8.ext) _ _ hx6) (by kernel_rfl) (fun v5 h5 hp5 => ?_)
      obtain ⟨a5, c5, rfl, H9⟩ := hp5
      have H10 : Hold h h5 [own cd2 a5 x6.length c5 x6, own cd23 a4 x5.length c4 x5, own cd2 a3 x4.1.length c3 x4.1, own cd2 a2 x3.length c2 x3, own cd23 a1 x2.length c1 x2] := H8.call H9 rfl
      refine Run_b [.slice a5 x6.length c5] 2 _ (by kernel_rfl) (fun w => by kernel_rfl) ?_
      refine Run_nil (by kernel_rfl) ?_
      refine Run_keep [0, 1, 6, 7, 8, 9] (L' := [(0, .slice aaA aA.length caA), (1, .slice aaB aB.length caB), (6, .slice a3 x4.1.length c3), (7, .int .i64 x4.2), (8, .slice a4 x5.length c4), (9, .slice a5 x6.length c5)]) (by kernel_rfl) ?_
      refine Run_seq ?_
      refine Run_ops ?_
      refine Run_b [.slice a4 x5.length c4, .slice a5 x6.length c5] 0 _ (by kernel_rfl) (fun w => by kernel_rfl) ?_
      obtain ⟨x7, hx7, hF⟩ := M.bind_some hF
      refine Run_E (by kernel_rfl) ?_
      refine E_call (f := 28) (args := #[.slice a4 x5.length c4, .slice a5 x6.length c5]) (w_impl_BestBelow h5 x5 a4 c4 (H10.rd 1 rfl) x6 a5 c5 (H10.rd 0 rfl) _ _ hx7) (by kernel_rfl) (fun v6 h6 hp6 => ?_)
      obtain ⟨a6, c6, rfl, H11⟩ := hp6
      have H12 : Hold h h6 [own cd2 a6 x7.1.length c6 x7.1, own cd2 a5 x6.length c5 x6, own cd23 a4 x5.length c4 x5, own cd2 a3 x4.1.length c3 x4.1, own cd2 a2 x3.length c2 x3, own cd23 a1 x2.length c1 x2] := H10.call H11 rfl
      refine Run_b [.tuple #[.slice a6 x7.1.length c6, .int .i64 x7.2], .slice a6 x7.1.length c6, .int .i64 x7.2, .slice a6 x7.1.length c6, .int .i64 x7.2] 3 _ (by kernel_rfl) (fun w => by kernel_rfl) ?_
      refine Run_nil (by kernel_rfl) ?_
      refine Run_keep [0, 1, 6, 7, 8, 9, 10, 11] (L' := [(0, .slice aaA aA.length caA), (1, .slice aaB aB.length caB), (6, .slice a3 x4.1.length c3), (7, .int .i64 x4.2), (8, .slice a4 x5.length c4), (9, .slice a5 x6.length c5), (10, .slice a6 x7.1.length c6), (11, .int .i64 x7.2)]) (by kernel_rfl) ?_
      refine Run_seq ?_
      refine Run_seq ?_
      obtain ⟨x8, hx8, hF⟩ := M.bind_some hF
      refine Run_reg 9 (by kernel_rfl) (L' := [(0, .slice aaA aA.length caA), (1, .slice aaB aB.length caB), (6, .slice a3 x4.1.length c3), (7, .int .i64 x4.2), (8, .slice a4 x5.length c4), (9, .slice a5 x6.length c5), (10, .slice a6 x7.1.length c6), (11, .int .i64 x7.2), (51, .bool ((!x8) || (x7.2 != x4.2)))]) ?_ ?_
      · refine QRun_b [.slice a6 x7.1.length c6, .slice a3 x4.1.length c3] 0 _ (by kernel_rfl) (fun w => by kernel_rfl) ?_
        refine QRun_y (.bool x8) (by kernel_rfl) (Y_callq (f := 20) (args := #[.slice a6 x7.1.length c6, .slice a3 x4.1.length c3]) (v := .bool x8) (by kernel_rfl) (w_laws_eqInt64S h6 x7.1 a6 c6 (H12.rd 0 rfl) x4.1 a3 c3 (H12.rd 3 rfl) _ _ hx8)) ?_
        refine QRun_b [.bool (!x8)] 3 _ (by kernel_rfl) (fun w => by kernel_rfl) ?_
        refine QRun_seq 9 [(0, .slice aaA aA.length caA), (1, .slice aaB aB.length caB), (6, .slice a3 x4.1.length c3), (7, .int .i64 x4.2), (8, .slice a4 x5.length c4), (9, .slice a5 x6.length c5), (10, .slice a6 x7.1.length c6), (11, .int .i64 x7.2), (51, .bool ((!x8) || (x7.2 != x4.2)))] ?_ ?_
        · rcases Bool.eq_false_or_eq_true (!x8) with hb3 | hb3
          · refine QRun_bool (!x8) true (by kernel_rfl) (fun w => by kernel_rfl) hb3 ?_
            refine QRun_n (by kernel_rfl) ?_
            refine QRun_n (by kernel_rfl) ?_
            refine QRun_n (by kernel_rfl) ?_
            refine QRun_bool true ((!x8) || (x7.2 != x4.2)) (by kernel_rfl) (fun w => by kernel_rfl) (by rw [hb3]; rfl) ?_
            exact QRun_done [0, 1, 6, 7, 8, 9, 10, 11, 51] (by kernel_rfl) (by kernel_rfl)
          · refine QRun_bool (!x8) false (by kernel_rfl) (fun w => by kernel_rfl) hb3 ?_
            refine QRun_b [.int .i64 x7.2, .int .i64 x4.2, .bool (x7.2 != x4.2)] 5 _ (by kernel_rfl) (fun w => by kernel_rfl) ?_
            refine QRun_bool (x7.2 != x4.2) ((!x8) || (x7.2 != x4.2)) (by kernel_rfl) (fun w => by kernel_rfl) (by rw [hb3]; rfl) ?_
            exact QRun_done [0, 1, 6, 7, 8, 9, 10, 11, 51] (by kernel_rfl) (by kernel_rfl)
        exact QRun_done [0, 1, 6, 7, 8, 9, 10, 11, 51] (by kernel_rfl) (by kernel_rfl)
      refine Run_cond (b := (!x8) || (x7.2 != x4.2)) (by kernel_rfl) (fun hb4 => ?_) (fun hb4 => ?_)
      · have hF := (M.ite_some hF).1 hb4
        refine Run_seq ?_
        refine Run_reg 1 (by kernel_rfl) (L' := [(4, .bool false)]) ?_ ?_
        · refine QRun_b [.bool false] 0 _ (by kernel_rfl) (fun w => by kernel_rfl) ?_
          exact QRun_done [4] (by kernel_rfl) (by kernel_rfl)
        have hF := M.ret_some hF
        subst hF
        have H13 : Hold h h6 [] := H12.pick [] (by kernel_rfl)
        exact Run_ret1 rfl (ResV_tmp (v := .bool false) (by kernel_rfl)) ⟨rfl, H13⟩
      · have hF := (M.ite_some hF).2 hb4
        refine Run_skip ?_
        refine Run_seq ?_
        refine Run_seq ?_
        refine Run_ops ?_
        refine Run_b [.slice a4 x5.length c4, .slice aaA aA.length caA] 0 _ (by kernel_rfl) (fun w => by kernel_rfl) ?_
        obtain ⟨x10, hx9, hF⟩ := M.bind_some hF
        refine Run_E (by kernel_rfl) ?_
        refine E_call (f := 17) (args := #[.slice aaA aA.length caA]) (w_laws_toInt64SS h6 aA aaA caA (raA.at H12.ext) _ _ hx9) (by kernel_rfl) (fun v7 h7 hp7 => ?_)
        obtain ⟨a7, c7, rfl, H14⟩ := hp7
        have H15 : Hold h h7 [own cd23 a7 x10.length c7 x10, own cd2 a6 x7.1.length c6 x7.1, own cd2 a5 x6.length c5 x6, own cd23 a4 x5.length c4 x5, own cd2 a3 x4.1.length c3 x4.1, own cd2 a2 x3.length c2 x3, own cd23 a1 x2.length c1 x2] := H12.call H14 rfl
        obtain ⟨x11, hx10, hF⟩ := M.bind_some hF
        refine Run_y (.bool x11) (by kernel_rfl) (Y_callq (f := 21) (args := #[.slice a4 x5.length c4, .slice a7 x10.length c7]) (v := .bool x11) (by kernel_rfl) (w_laws_eqInt64SS h7 x5 a4 c4 (H15.rd 3 rfl) x10 a7 c7 (H15.rd 0 rfl) _ _ hx10)) ?_
        refine Run_b [.bool (!x11)] 4 _ (by kernel_rfl) (fun w => by kernel_rfl) ?_
        refine Run_nil (by kernel_rfl) ?_
        refine Run_keep [0, 1, 6, 7, 8, 9, 10, 11, 56] (L' := [(0, .slice aaA aA.length caA), (1, .slice aaB aB.length caB), (6, .slice a3 x4.1.length c3), (7, .int .i64 x4.2), (8, .slice a4 x5.length c4), (9, .slice a5 x6.length c5), (10, .slice a6 x7.1.length c6), (11, .int .i64 x7.2), (56, .bool (!x11))]) (by kernel_rfl) ?_
        refine Run_cond (b := !x11) (by kernel_rfl) (fun hb5 => ?_) (fun hb5 => ?_)
        · have hF := (M.ite_some hF).1 hb5
          refine Run_seq ?_
          refine Run_reg 1 (by kernel_rfl) (L' := [(4, .bool false)]) ?_ ?_
          · refine QRun_b [.bool false] 0 _ (by kernel_rfl) (fun w => by kernel_rfl) ?_
            exact QRun_done [4] (by kernel_rfl) (by kernel_rfl)
          have hF := M.ret_some hF
          subst hF
          have H16 : Hold h h7 [] := H15.pick [] (by kernel_rfl)
          exact Run_ret1 rfl (ResV_tmp (v := .bool false) (by kernel_rfl)) ⟨rfl, H16⟩
        · have hF := (M.ite_some hF).2 hb5
          refine Run_skip ?_
          refine Run_seq ?_
          refine Run_seq ?_
          refine Run_ops ?_
          refine Run_b [.slice a5 x6.length c5, .slice aaB aB.length caB] 0 _ (by kernel_rfl) (fun w => by kernel_rfl) ?_
          obtain ⟨x12, hx11, hF⟩ := M.bind_some hF
          refine Run_E (by kernel_rfl) ?_
          refine E_call (f := 18) (args := #[.slice aaB aB.length caB]) (w_laws_toInt64S h7 aB aaB caB (raB.at H15.ext) _ _ hx11) (by kernel_rfl) (fun v8 h8 hp8 => ?_)
          obtain ⟨a8, c8, rfl, H17⟩ := hp8
          have H18 : Hold h h8 [own cd2 a8 x12.length c8 x12, own cd23 a7 x10.length c7 x10, own cd2 a6 x7.1.length c6 x7.1, own cd2 a5 x6.length c5 x6, own cd23 a4 x5.length c4 x5, own cd2 a3 x4.1.length c3 x4.1, own cd2 a2 x3.length c2 x3, own cd23 a1 x2.length c1 x2] := H15.call H17 rfl
          obtain ⟨x13, hx12, hF⟩ := M.bind_some hF
          refine Run_y (.bool x13) (by kernel_rfl) (Y_callq (f := 20) (args := #[.slice a5 x6.length c5, .slice a8 x12.length c8]) (v := .bool x13) (by kernel_rfl) (w_laws_eqInt64S h8 x6 a5 c5 (H18.rd 3 rfl) x12 a8 c8 (H18.rd 0 rfl) _ _ hx12)) ?_
          refine Run_b [.bool (!x13)] 4 _ (by kernel_rfl) (fun w => by kernel_rfl) ?_
          refine Run_nil (by kernel_rfl) ?_
          refine Run_keep [0, 1, 6, 7, 8, 9, 10, 11, 61] (L' := [(0, .slice aaA aA.length caA), (1, .slice aaB aB.length caB), (6, .slice a3 x4.1.length c3), (7, .int .i64 x4.2), (8, .slice a4 x5.length c4), (9, .slice a5 x6.length c5), (10, .slice a6 x7.1.length c6), (11, .int .i64 x7.2), (61, .bool (!x13))]) (by kernel_rfl) ?_
          refine Run_cond (b := !x13) (by kernel_rfl) (fun hb6 => ?_) (fun hb6 => ?_)
          · have hF := (M.ite_some hF).1 hb6
            refine Run_seq ?_
            refine Run_reg 1 (by kernel_rfl) (L' := [(4, .bool false)]) ?_ ?_
            · refine QRun_b [.bool false] 0 _ (by kernel_rfl) (fun w => by kernel_rfl) ?_
              exact QRun_done [4] (by kernel_rfl) (by kernel_rfl)
            have hF := M.ret_some hF
            subst hF
            have H19 : Hold h h8 [] := H18.pick [] (by kernel_rfl)
            exact Run_ret1 rfl (ResV_tmp (v := .bool false) (by kernel_rfl)) ⟨rfl, H19⟩
          · have hF := (M.ite_some hF).2 hb6
            refine Run_skip ?_
            refine Run_seq ?_
            refine Run_reg 1 (by kernel_rfl) (L' := [(0, .slice aaA aA.length caA), (1, .slice aaB aB.length caB), (6, .slice a3 x4.1.length c3), (7, .int .i64 x4.2), (8, .slice a4 x5.length c4), (9, .slice a5 x6.length c5), (10, .slice a6 x7.1.length c6), (11, .int .i64 x7.2), (12, .int .i64 1)]) ?_ ?_
            · refine QRun_b [.int .i64 1] 0 _ (by kernel_rfl) (fun w => by kernel_rfl) ?_
              exact QRun_done [0, 1, 6, 7, 8, 9, 10, 11, 12] (by kernel_rfl) (by kernel_rfl)
            refine Run_seq ?_
            refine Run_ops ?_
            refine Run_b [.slice a4 x5.length c4, .int .i64 1] 0 _ (by kernel_rfl) (fun w => by kernel_rfl) ?_
            obtain ⟨x14, hx13, hF⟩ := M.bind_some hF
            have H20 : Hold h h8 [own cd23 a4 x5.length c4 x5, own cd2 a8 x12.length c8 x12, own cd23 a7 x10.length c7 x10, own cd2 a6 x7.1.length c6 x7.1, own cd2 a5 x6.length c5 x6, own cd2 a3 x4.1.length c3 x4.1, own cd2 a2 x3.length c2 x3, own cd23 a1 x2.length c1 x2] := H18.pick [4, 0, 1, 2, 3, 5, 6, 7] (by kernel_rfl)
            have H21 : Hold h h8 [own cd23 a4 x5.length c4 x5, bun [own cd2 a8 x12.length c8 x12, own cd23 a7 x10.length c7 x10, own cd2 a6 x7.1.length c6 x7.1, own cd2 a5 x6.length c5 x6, own cd2 a3 x4.1.length c3 x4.1, own cd2 a2 x3.length c2 x3, own cd23 a1 x2.length c1 x2]] := Hold.bundle (S := [own cd23 a4 x5.length c4 x5]) (R := [own cd2 a8 x12.length c8 x12, own cd23 a7 x10.length c7 x10, own cd2 a6 x7.1.length c6 x7.1, own cd2 a5 x6.length c5 x6, own cd2 a3 x4.1.length c3 x4.1, own cd2 a2 x3.length c2 x3, own cd23 a1 x2.length c1 x2]) H20
            refine Run_E (by kernel_rfl) ?_
            refine E_call (f := 22) (args := #[.slice a4 x5.length c4, .int .i64 1]) (w_laws_markInt64SS h h8 _ x5 a4 c4 1 H21 _ _ hx13) (by kernel_rfl) (fun v9 h9 hp9 => ?_)
            obtain ⟨rfl, H22⟩ := hp9
            have H23 : Hold h h9 [own cd23 a4 x5.length c4 x14.2, own cd2 a8 x12.length c8 x12, own cd23 a7 x10.length c7 x10, own cd2 a6 x7.1.length c6 x7.1, own cd2 a5 x6.length c5 x6, own cd2 a3 x4.1.length c3 x4.1, own cd2 a2 x3.length c2 x3, own cd23 a1 x2.length c1 x2] := Hold.unbundle (S := [own cd23 a4 x5.length c4 x14.2]) (R := [own cd2 a8 x12.length c8 x12, own cd23 a7 x10.length c7 x10, own cd2 a6 x7.1.length c6 x7.1, own cd2 a5 x6.length c5 x6, own cd2 a3 x4.1.length c3 x4.1, own cd2 a2 x3.length c2 x3, own cd23 a1 x2.length c1 x2]) H22 (Hold.tailBase (S := [own cd23 a4 x5.length c4 x5]) (R := [own cd2 a8 x12.length c8 x12, own cd23 a7 x10.length c7 x10, own cd2 a6 x7.1.length c6 x7.1, own cd2 a5 x6.length c5 x6, own cd2 a3 x4.1.length c3 x4.1, own cd2 a2 x3.length c2 x3, own cd23 a1 x2.length c1 x2]) H20)
            refine Run_b [.int .i64 x14.1] 3 _ (by kernel_rfl) (fun w => by kernel_rfl) ?_
            refine Run_nil (by kernel_rfl) ?_
            refine Run_keep [0, 1, 6, 7, 9, 10, 11, 12] (L' := [(0, .slice aaA aA.length caA), (1, .slice aaB aB.length caB), (6, .slice a3 x4.1.length c3), (7, .int .i64 x4.2), (9, .slice a5 x6.length c5), (10, .slice a6 x7.1.length c6), (11, .int .i64 x7.2), (12, .int .i64 x14.1)]) (by kernel_rfl) ?_
            refine Run_seq ?_
            refine Run_ops ?_
            refine Run_b [.slice a5 x6.length c5, .int .i64 x14.1] 0 _ (by kernel_rfl) (fun w => by kernel_rfl) ?_
            obtain ⟨x15, hx14, hF⟩ := M.bind_some hF
            have H24 : Hold h h9 [own cd2 a5 x6.length c5 x6, own cd23 a4 x5.length c4 x14.2, own cd2 a8 x12.length c8 x12, own cd23 a7 x10.length c7 x10, own cd2 a6 x7.1.length c6 x7.1, own cd2 a3 x4.1.length c3 x4.1, own cd2 a2 x3.length c2 x3, own cd23 a1 x2.length c1 x2] := H23.pick [4, 0, 1, 2, 3, 5, 6, 7] (by kernel_rfl)
            have H25 : Hold h h9 [own cd2 a5 x6.length c5 x6, bun [own cd23 a4 x5.length c4 x14.2, own cd2 a8 x12.length c8 x12, own cd23 a7 x10.length c7 x10, own cd2 a6 x7.1.length c6 x7.1, own cd2 a3 x4.1.length c3 x4.1, own cd2 a2 x3.length c2 x3, own cd23 a1 x2.length c1 x2]] := Hold.bundle (S := [own cd2 a5 x6.length c5 x6]) (R := [own cd23 a4 x5.length c4 x14.2, own cd2 a8 x12.length c8 x12, own cd23 a7 x10.length c7 x10, own cd2 a6 x7.1.length c6 x7.1, own cd2 a3 x4.1.length c3 x4.1, own cd2 a2 x3.length c2 x3, own cd23 a1 x2.length c1 x2]) H24
            refine Run_E (by kernel_rfl) ?_
            refine E_call (f := 23) (args := #[.slice a5 x6.length c5, .int .i64 x14.1]) (w_laws_markInt64S h h9 _ x6 a5 c5 x14.1 H25 _ _ hx14) (by kernel_rfl) (fun v10 h10 hp10 => ?_)
            obtain ⟨rfl, H26⟩ := hp10
            have H27 : Hold h h10 [own cd2 a5 x6.length c5 x15.2, own cd23 a4 x5.length c4 x14.2, own cd2 a8 x12.length c8 x12, own cd23 a7 x10.length c7 x10, own cd2 a6 x7.1.length c6 x7.1, own cd2 a3 x4.1.length c3 x4.1, own cd2 a2 x3.length c2 x3, own cd23 a1 x2.length c1 x2] := Hold.unbundle (S := [own cd2 a5 x6.length c5 x15.2]) (R := [own cd23 a4 x5.length c4 x14.2, own cd2 a8 x12.length c8 x12, own cd23 a7 x10.length c7 x10, own cd2 a6 x7.1.length c6 x7.1, own cd2 a3 x4.1.length c3 x4.1, own cd2 a2 x3.length c2 x3, own cd23 a1 x2.length c1 x2]) H26 (Hold.tailBase (S := [own cd2 a5 x6.length c5 x6]) (R := [own cd23 a4 x5.length c4 x14.2, own cd2 a8 x12.length c8 x12, own cd23 a7 x10.length c7 x10, own cd2 a6 x7.1.length c6 x7.1, own cd2 a3 x4.1.length c3 x4.1, own cd2 a2 x3.length c2 x3, own cd23 a1 x2.length c1 x2]) H24)
            refine Run_b [.int .i64 x15.1] 3 _ (by kernel_rfl) (fun w => by kernel_rfl) ?_
            refine Run_nil (by kernel_rfl) ?_
            refine Run_keep [0, 1, 6, 7, 10, 11, 12] (L' := [(0, .slice aaA aA.length caA), (1, .slice aaB aB.length caB), (6, .slice a3 x4.1.length c3), (7, .int .i64 x4.2), (10, .slice a6 x7.1.length c6), (11, .int .i64 x7.2), (12, .int .i64 x15.1)]) (by kernel_rfl) ?_
            refine Run_seq ?_
            refine Run_seq ?_
            obtain ⟨x16, gx16, hF⟩ := M.bind_some hF
            refine Run_reg 13 (by kernel_rfl) (L' := [(0, .slice aaA aA.length caA), (1, .slice aaB aB.length caB), (6, .slice a3 x4.1.length c3), (7, .int .i64 x4.2), (10, .slice a6 x7.1.length c6), (80, .bool (x16 || (x7.2 != x4.2)))]) ?_ ?_
            · refine QRun_b [.int .i64 x15.1, .bool (decide (x15.1 < 0))] 0 _ (by kernel_rfl) (fun w => by kernel_rfl) ?_
              refine QRun_seq 8 [(0, .slice aaA aA.length caA), (1, .slice aaB aB.length caB), (6, .slice a3 x4.1.length c3), (7, .int .i64 x4.2), (10, .slice a6 x7.1.length c6), (11, .int .i64 x7.2), (75, .bool x16)] ?_ ?_
              · rcases Bool.eq_false_or_eq_true (decide (x15.1 < 0)) with hb7 | hb7
                · refine QRun_bool (decide (x15.1 < 0)) true (by kernel_rfl) (fun w => by kernel_rfl) hb7 ?_
                  have gx16 := M.ret_some ((M.ite_some gx16).1 hb7)
                  refine QRun_n (by kernel_rfl) ?_
                  refine QRun_n (by kernel_rfl) ?_
                  refine QRun_n (by kernel_rfl) ?_
                  refine QRun_n (by kernel_rfl) ?_
                  refine QRun_bool true x16 (by kernel_rfl) (fun w => by kernel_rfl) gx16 ?_
                  exact QRun_done [0, 1, 6, 7, 10, 11, 75] (by kernel_rfl) (by kernel_rfl)
                · refine QRun_bool (decide (x15.1 < 0)) false (by kernel_rfl) (fun w => by kernel_rfl) hb7 ?_
                  have gx16 := (M.ite_some gx16).2 hb7
                  obtain ⟨x17, hx15, gx16⟩ := M.bind_some gx16
                  have gx16 := M.ret_some gx16
                  refine QRun_b [.slice a6 x7.1.length c6, .slice a3 x4.1.length c3] 3 _ (by kernel_rfl) (fun w => by kernel_rfl) ?_
                  refine QRun_y (.bool x17) (by kernel_rfl) (Y_callq (f := 20) (args := #[.slice a6 x7.1.length c6, .slice a3 x4.1.length c3]) (v := .bool x17) (by kernel_rfl) (w_laws_eqInt64S h10 x7.1 a6 c6 (H27.rd 4 rfl) x4.1 a3 c3 (H27.rd 5 rfl) _ _ hx15)) ?_
                  refine QRun_b [.bool (!x17)] 6 _ (by kernel_rfl) (fun w => by kernel_rfl) ?_
                  refine QRun_bool (!x17) x16 (by kernel_rfl) (fun w => by kernel_rfl) gx16 ?_
                  exact QRun_done [0, 1, 6, 7, 10, 11, 75] (by kernel_rfl) (by kernel_rfl)
              refine QRun_seq 13 [(0, .slice aaA aA.length caA), (1, .slice aaB aB.length caB), (6, .slice a3 x4.1.length c3), (7, .int .i64 x4.2), (10, .slice a6 x7.1.length c6), (80, .bool (x16 || (x7.2 != x4.2)))] ?_ ?_
              · rcases Bool.eq_false_or_eq_true x16 with hb8 | hb8
                · refine QRun_bool x16 true (by kernel_rfl) (fun w => by kernel_rfl) hb8 ?_
                  refine QRun_n (by kernel_rfl) ?_
                  refine QRun_n (by kernel_rfl) ?_
                  refine QRun_n (by kernel_rfl) ?_
                  refine QRun_bool true (x16 || (x7.2 != x4.2)) (by kernel_rfl) (fun w => by kernel_rfl) (by rw [hb8]; rfl) ?_
                  exact QRun_done [0, 1, 6, 7, 10, 80] (by kernel_rfl) (by kernel_rfl)
                · refine QRun_bool x16 false (by kernel_rfl) (fun w => by kernel_rfl) hb8 ?_
                  refine QRun_b [.int .i64 x7.2, .int .i64 x4.2, .bool (x7.2 != x4.2)] 9 _ (by kernel_rfl) (fun w => by kernel_rfl) ?_
                  refine QRun_bool (x7.2 != x4.2) (x16 || (x7.2 != x4.2)) (by kernel_rfl) (fun w => by kernel_rfl) (by rw [hb8]; rfl) ?_
                  exact QRun_done [0, 1, 6, 7, 10, 80] (by kernel_rfl) (by kernel_rfl)
              exact QRun_done [0, 1, 6, 7, 10, 80] (by kernel_rfl) (by kernel_rfl)
            refine Run_cond (b := x16 || (x7.2 != x4.2)) (by kernel_rfl) (fun hb9 => ?_) (fun hb9 => ?_)
            · have hF := (M.ite_some hF).1 hb9
              refine Run_seq ?_
              refine Run_reg 1 (by kernel_rfl) (L' := [(4, .bool false)]) ?_ ?_
              · refine QRun_b [.bool false] 0 _ (by kernel_rfl) (fun w => by kernel_rfl) ?_
                exact QRun_done [4] (by kernel_rfl) (by kernel_rfl)
              have hF := M.ret_some hF
              subst hF
              have H28 : Hold h h10 [] := H27.pick [] (by kernel_rfl)
              exact Run_ret1 rfl (ResV_tmp (v := .bool false) (by kernel_rfl)) ⟨rfl, H28⟩
            · have hF := (M.ite_some hF).2 hb9
              refine Run_skip ?_
              refine Run_seq ?_
              refine Run_reg 1 (by kernel_rfl) (L' := [(0, .slice aaA aA.length caA), (1, .slice aaB aB.length caB), (6, .slice a3 x4.1.length c3), (7, .int .i64 x4.2), (10, .slice a6 x7.1.length c6), (13, .int .i64 1)]) ?_ ?_
              · refine QRun_b [.int .i64 1] 0 _ (by kernel_rfl) (fun w => by kernel_rfl) ?_
                exact QRun_done [0, 1, 6, 7, 10, 13] (by kernel_rfl) (by kernel_rfl)
              refine Run_seq ?_
              refine Run_ops ?_
              refine Run_b [.slice a6 x7.1.length c6, .int .i64 1] 0 _ (by kernel_rfl) (fun w => by kernel_rfl) ?_
              obtain ⟨x19, hx16, hF⟩ := M.bind_some hF
              have H29 : Hold h h10 [own cd2 a6 x7.1.length c6 x7.1, own cd2 a5 x6.length c5 x15.2, own cd23 a4 x5.length c4 x14.2, own cd2 a8 x12.length c8 x12, own cd23 a7 x10.length c7 x10, own cd2 a3 x4.1.length c3 x4.1, own cd2 a2 x3.length c2 x3, own cd23 a1 x2.length c1 x2] := H27.pick [4, 0, 1, 2, 3, 5, 6, 7] (by kernel_rfl)
              have H30 : Hold h h10 [own cd2 a6 x7.1.length c6 x7.1, bun [own cd2 a5 x6.length c5 x15.2, own cd23 a4 x5.length c4 x14.2, own cd2 a8 x12.length c8 x12, own cd23 a7 x10.length c7 x10, own cd2 a3 x4.1.length c3 x4.1, own cd2 a2 x3.length c2 x3, own cd23 a1 x2.length c1 x2]] := Hold.bundle (S := [own cd2 a6 x7.1.length c6 x7.1]) (R := [own cd2 a5 x6.length c5 x15.2, own cd23 a4 x5.length c4 x14.2, own cd2 a8 x12.length c8 x12, own cd23 a7 x10.length c7 x10, own cd2 a3 x4.1.length c3 x4.1, own cd2 a2 x3.length c2 x3, own cd23 a1 x2.length c1 x2]) H29
              refine Run_E (by kernel_rfl) ?_
              refine E_call (f := 23) (args := #[.slice a6 x7.1.length c6, .int .i64 1]) (w_laws_markInt64S h h10 _ x7.1 a6 c6 1 H30 _ _ hx16) (by kernel_rfl) (fun v11 h11 hp11 => ?_)
              obtain ⟨rfl, H31⟩ := hp11
              have H32 : Hold h h11 [own cd2 a6 x7.1.length c6 x19.2, own cd2 a5 x6.length c5 x15.2, own cd23 a4 x5.length c4 x14.2, own cd2 a8 x12.length c8 x12, own cd23 a7 x10.length c7 x10, own cd2 a3 x4.1.length c3 x4.1, own cd2 a2 x3.length c2 x3, own cd23 a1 x2.length c1 x2] := Hold.unbundle (S := [own cd2 a6 x7.1.length c6 x19.2]) (R := [own cd2 a5 x6.length c5 x15.2, own cd23 a4 x5.length c4 x14.2, own cd2 a8 x12.length c8 x12, own cd23 a7 x10.length c7 x10, own cd2 a3 x4.1.length c3 x4.1, own cd2 a2 x3.length c2 x3, own cd23 a1 x2.length c1 x2]) H31 (Hold.tailBase (S := [own cd2 a6 x7.1.length c6 x7.1]) (R := [own cd2 a5 x6.length c5 x15.2, own cd23 a4 x5.length c4 x14.2, own cd2 a8 x12.length c8 x12, own cd23 a7 x10.length c7 x10, own cd2 a3 x4.1.length c3 x4.1, own cd2 a2 x3.length c2 x3, own cd23 a1 x2.length c1 x2]) H29)
              refine Run_b [.int .i64 x19.1] 3 _ (by kernel_rfl) (fun w => by kernel_rfl) ?_
              refine Run_nil (by kernel_rfl) ?_
              refine Run_keep [0, 1, 6, 7, 10, 13] (L' := [(0, .slice aaA aA.length caA), (1, .slice aaB aB.length caB), (6, .slice a3 x4.1.length c3), (7, .int .i64 x4.2), (10, .slice a6 x7.1.length c6), (13, .int .i64 x19.1)]) (by kernel_rfl) ?_
              refine Run_seq ?_
              refine Run_reg 1 (by kernel_rfl) (L' := [(0, .slice aaA aA.length caA), (1, .slice aaB aB.length caB), (6, .slice a3 x4.1.length c3), (7, .int .i64 x4.2), (10, .slice a6 x7.1.length c6), (13, .int .i64 x19.1), (14, .int .i64 1)]) ?_ ?_
              · refine QRun_b [.int .i64 1] 0 _ (by kernel_rfl) (fun w => by kernel_rfl) ?_
                exact QRun_done [0, 1, 6, 7, 10, 13, 14] (by kernel_rfl) (by kernel_rfl)
              refine Run_seq ?_
              obtain ⟨x20, hx17, hF⟩ := M.bind_some hF
              refine Run_reg 4 (by kernel_rfl) (L' := [(0, .slice aaA aA.length caA), (1, .slice aaB aB.length caB), (6, .slice a3 x4.1.length c3), (7, .int .i64 x4.2), (10, .slice a6 x7.1.length c6), (13, .int .i64 x19.1), (14, .int .i64 x20)]) ?_ ?_
              · refine QRun_b [.slice a6 x7.1.length c6, .int .i64 1] 0 _ (by kernel_rfl) (fun w => by kernel_rfl) ?_
                refine QRun_y (.int .i64 x20) (by kernel_rfl) (Y_callq (f := 24) (args := #[.slice a6 x7.1.length c6, .int .i64 1]) (v := .int .i64 x20) (by kernel_rfl) (Fn.arg (w_laws_heldInt64S h11 x19.2 a6 c6 (H32.rd 0 rfl) 1 _ _ hx17) (by simp only [(H32.len 0 rfl)]))) ?_
                refine QRun_b [.int .i64 x20] 3 _ (by kernel_rfl) (fun w => by kernel_rfl) ?_
                exact QRun_done [0, 1, 6, 7, 10, 13, 14] (by kernel_rfl) (by kernel_rfl)
              refine Run_seq ?_
              refine Run_seq ?_
              refine Run_reg 2 (by kernel_rfl) (L' := [(0, .slice aaA aA.length caA), (1, .slice aaB aB.length caB), (6, .slice a3 x4.1.length c3), (7, .int .i64 x4.2), (10, .slice a6 x7.1.length c6), (13, .int .i64 x19.1), (14, .int .i64 x20), (88, .bool (decide (x20 < 0)))]) ?_ ?_
              · refine QRun_b [.int .i64 x20, .bool (decide (x20 < 0))] 0 _ (by kernel_rfl) (fun w => by kernel_rfl) ?_
                exact QRun_done [0, 1, 6, 7, 10, 13, 14, 88] (by kernel_rfl) (by kernel_rfl)
              refine Run_cond (b := decide (x20 < 0)) (by kernel_rfl) (fun hb10 => ?_) (fun hb10 => ?_)
              · have hF := (M.ite_some hF).1 hb10
                refine Run_seq ?_
                refine Run_reg 1 (by kernel_rfl) (L' := [(4, .bool false)]) ?_ ?_
                · refine QRun_b [.bool false] 0 _ (by kernel_rfl) (fun w => by kernel_rfl) ?_
                  exact QRun_done [4] (by kernel_rfl) (by kernel_rfl)
                have hF := M.ret_some hF
                subst hF
                have H33 : Hold h h11 [] := H32.pick [] (by kernel_rfl)
                exact Run_ret1 rfl (ResV_tmp (v := .bool false) (by kernel_rfl)) ⟨rfl, H33⟩
              · have hF := (M.ite_some hF).2 hb10
                refine Run_skip ?_
                refine Run_seq ?_
                refine Run_seq ?_
                refine Run_reg 3 (by kernel_rfl) (L' := [(0, .slice aaA aA.length caA), (1, .slice aaB aB.length caB), (6, .slice a3 x4.1.length c3), (7, .int .i64 x4.2), (10, .slice a6 x7.1.length c6), (13, .int .i64 x19.1), (91, .bool (x20 != x19.1))]) ?_ ?_
                · refine QRun_b [.int .i64 x20, .int .i64 x19.1, .bool (x20 != x19.1)] 0 _ (by kernel_rfl) (fun w => by kernel_rfl) ?_
                  exact QRun_done [0, 1, 6, 7, 10, 13, 91] (by kernel_rfl) (by kernel_rfl)
                refine Run_cond (b := x20 != x19.1) (by kernel_rfl) (fun hb11 => ?_) (fun hb11 => ?_)
                · have hF := (M.ite_some hF).1 hb11
                  refine Run_seq ?_
                  refine Run_reg 1 (by kernel_rfl) (L' := [(4, .bool false)]) ?_ ?_
                  · refine QRun_b [.bool false] 0 _ (by kernel_rfl) (fun w => by kernel_rfl) ?_
                    exact QRun_done [4] (by kernel_rfl) (by kernel_rfl)
                  have hF := M.ret_some hF
                  subst hF
                  have H34 : Hold h h11 [] := H32.pick [] (by kernel_rfl)
                  exact Run_ret1 rfl (ResV_tmp (v := .bool false) (by kernel_rfl)) ⟨rfl, H34⟩
                · have hF := (M.ite_some hF).2 hb11
                  refine Run_skip ?_
                  refine Run_seq ?_
                  refine Run_ops ?_
                  refine Run_b [.slice aaA aA.length caA] 0 _ (by kernel_rfl) (fun w => by kernel_rfl) ?_
                  obtain ⟨x21, hx18, hF⟩ := M.bind_some hF
                  refine Run_E (by kernel_rfl) ?_
                  refine E_call (f := 17) (args := #[.slice aaA aA.length caA]) (w_laws_toInt64SS h11 aA aaA caA (raA.at H32.ext) _ _ hx18) (by kernel_rfl) (fun v12 h12 hp12 => ?_)
                  obtain ⟨a9, c9, rfl, H35⟩ := hp12
                  have H36 : Hold h h12 [own cd23 a9 x21.length c9 x21, own cd2 a6 x7.1.length c6 x19.2, own cd2 a5 x6.length c5 x15.2, own cd23 a4 x5.length c4 x14.2, own cd2 a8 x12.length c8 x12, own cd23 a7 x10.length c7 x10, own cd2 a3 x4.1.length c3 x4.1, own cd2 a2 x3.length c2 x3, own cd23 a1 x2.length c1 x2] := H32.call H35 rfl
                  refine Run_b [.slice aaB aB.length caB] 2 _ (by kernel_rfl) (fun w => by kernel_rfl) ?_
                  obtain ⟨x22, hx19, hF⟩ := M.bind_some hF
                  refine Run_E (by kernel_rfl) ?_
                  refine E_call (f := 18) (args := #[.slice aaB aB.length caB]) (w_laws_toInt64S h12 aB aaB caB (raB.at H36.ext) _ _ hx19) (by kernel_rfl) (fun v13 h13 hp13 => ?_)
                  obtain ⟨a10, c10, rfl, H37⟩ := hp13
                  have H38 : Hold h h13 [own cd2 a10 x22.length c10 x22, own cd23 a9 x21.length c9 x21, own cd2 a6 x7.1.length c6 x19.2, own cd2 a5 x6.length c5 x15.2, own cd23 a4 x5.length c4 x14.2, own cd2 a8 x12.length c8 x12, own cd23 a7 x10.length c7 x10, own cd2 a3 x4.1.length c3 x4.1, own cd2 a2 x3.length c2 x3, own cd23 a1 x2.length c1 x2] := H36.call H37 rfl
                  obtain ⟨x23, hx20, hF⟩ := M.bind_some hF
                  refine Run_E (by kernel_rfl) ?_
                  refine E_call (f := 28) (args := #[.slice a9 x21.length c9, .slice a10 x22.length c10]) (w_impl_BestBelow h13 x21 a9 c9 (H38.rd 1 rfl) x22 a10 c10 (H38.rd 0 rfl) _ _ hx20) (by kernel_rfl) (fun v14 h14 hp14 => ?_)
                  obtain ⟨a11, c11, rfl, H39⟩ := hp14
                  have H40 : Hold h h14 [own cd2 a11 x23.1.length c11 x23.1, own cd2 a10 x22.length c10 x22, own cd23 a9 x21.length c9 x21, own cd2 a6 x7.1.length c6 x19.2, own cd2 a5 x6.length c5 x15.2, own cd23 a4 x5.length c4 x14.2, own cd2 a8 x12.length c8 x12, own cd23 a7 x10.length c7 x10, own cd2 a3 x4.1.length c3 x4.1, own cd2 a2 x3.length c2 x3, own cd23 a1 x2.length c1 x2] := H38.call H39 rfl
                  refine Run_b [.tuple #[.slice a11 x23.1.length c11, .int .i64 x23.2], .slice a11 x23.1.length c11, .int .i64 x23.2, .slice a11 x23.1.length c11, .int .i64 x23.2] 5 _ (by kernel_rfl) (fun w => by kernel_rfl) ?_
                  refine Run_nil (by kernel_rfl) ?_
                  refine Run_keep [6, 7, 10, 13, 15, 16] (L' := [(6, .slice a3 x4.1.length c3), (7, .int .i64 x4.2), (10, .slice a6 x7.1.length c6), (13, .int .i64 x19.1), (15, .slice a11 x23.1.length c11), (16, .int .i64 x23.2)]) (by kernel_rfl) ?_
                  refine Run_seq ?_
                  refine Run_seq ?_
                  obtain ⟨x24, hx21, hF⟩ := M.bind_some hF
                  refine Run_reg 9 (by kernel_rfl) (L' := [(10, .slice a6 x7.1.length c6), (13, .int .i64 x19.1), (108, .bool ((!x24) || (x23.2 != x4.2)))]) ?_ ?_
                  · refine QRun_b [.slice a11 x23.1.length c11, .slice a3 x4.1.length c3] 0 _ (by kernel_rfl) (fun w => by kernel_rfl) ?_
                    refine QRun_y (.bool x24) (by kernel_rfl) (Y_callq (f := 20) (args := #[.slice a11 x23.1.length c11, .slice a3 x4.1.length c3]) (v := .bool x24) (by kernel_rfl) (w_laws_eqInt64S h14 x23.1 a11 c11 (H40.rd 0 rfl) x4.1 a3 c3 (H40.rd 8 rfl) _ _ hx21)) ?_
                    refine QRun_b [.bool (!x24)] 3 _ (by kernel_rfl) (fun w => by kernel_rfl) ?_
                    refine QRun_seq 9 [(10, .slice a6 x7.1.length c6), (13, .int .i64 x19.1), (108, .bool ((!x24) || (x23.2 != x4.2)))] ?_ ?_
                    · rcases Bool.eq_false_or_eq_true (!x24) with hb12 | hb12
                      · refine QRun_bool (!x24) true (by kernel_rfl) (fun w => by kernel_rfl) hb12 ?_
                        refine QRun_n (by kernel_rfl) ?_
                        refine QRun_n (by kernel_rfl) ?_
                        refine QRun_n (by kernel_rfl) ?_
                        refine QRun_bool true ((!x24) || (x23.2 != x4.2)) (by kernel_rfl) (fun w => by kernel_rfl) (by rw [hb12]; rfl) ?_
                        exact QRun_done [10, 13, 108] (by kernel_rfl) (by kernel_rfl)
                      · refine QRun_bool (!x24) false (by kernel_rfl) (fun w => by kernel_rfl) hb12 ?_
                        refine QRun_b [.int .i64 x23.2, .int .i64 x4.2, .bool (x23.2 != x4.2)] 5 _ (by kernel_rfl) (fun w => by kernel_rfl) ?_
                        refine QRun_bool (x23.2 != x4.2) ((!x24) || (x23.2 != x4.2)) (by kernel_rfl) (fun w => by kernel_rfl) (by rw [hb12]; rfl) ?_
                        exact QRun_done [10, 13, 108] (by kernel_rfl) (by kernel_rfl)
                    exact QRun_done [10, 13, 108] (by kernel_rfl) (by kernel_rfl)
                  refine Run_cond (b := (!x24) || (x23.2 != x4.2)) (by kernel_rfl) (fun hb13 => ?_) (fun hb13 => ?_)
                  · have hF := (M.ite_some hF).1 hb13
                    refine Run_seq ?_
                    refine Run_reg 1 (by kernel_rfl) (L' := [(4, .bool false)]) ?_ ?_
                    · refine QRun_b [.bool false] 0 _ (by kernel_rfl) (fun w => by kernel_rfl) ?_
                      exact QRun_done [4] (by kernel_rfl) (by kernel_rfl)
                    have hF := M.ret_some hF
                    subst hF
                    have H41 : Hold h h14 [] := H40.pick [] (by kernel_rfl)
                    exact Run_ret1 rfl (ResV_tmp (v := .bool false) (by kernel_rfl)) ⟨rfl, H41⟩
                  · have hF := (M.ite_some hF).2 hb13
                    refine Run_skip ?_
                    refine Run_seq ?_
                    refine Run_reg 1 (by kernel_rfl) (L' := [(10, .slice a6 x7.1.length c6), (13, .int .i64 x19.1), (14, .int .i64 1)]) ?_ ?_
                    · refine QRun_b [.int .i64 1] 0 _ (by kernel_rfl) (fun w => by kernel_rfl) ?_
                      exact QRun_done [10, 13, 14] (by kernel_rfl) (by kernel_rfl)
                    refine Run_seq ?_
                    obtain ⟨x26, hx22, hF⟩ := M.bind_some hF
                    refine Run_reg 4 (by kernel_rfl) (L' := [(13, .int .i64 x19.1), (14, .int .i64 x26)]) ?_ ?_
                    · refine QRun_b [.slice a6 x7.1.length c6, .int .i64 1] 0 _ (by kernel_rfl) (fun w => by kernel_rfl) ?_
                      refine QRun_y (.int .i64 x26) (by kernel_rfl) (Y_callq (f := 24) (args := #[.slice a6 x7.1.length c6, .int .i64 1]) (v := .int .i64 x26) (by kernel_rfl) (Fn.arg (w_laws_heldInt64S h14 x19.2 a6 c6 (H40.rd 3 rfl) 1 _ _ hx22) (by simp only [(H40.len 3 rfl)]))) ?_
                      refine QRun_b [.int .i64 x26] 3 _ (by kernel_rfl) (fun w => by kernel_rfl) ?_
                      exact QRun_done [13, 14] (by kernel_rfl) (by kernel_rfl)
                    refine Run_seq ?_
                    refine Run_seq ?_
                    refine Run_reg 2 (by kernel_rfl) (L' := [(13, .int .i64 x19.1), (14, .int .i64 x26), (113, .bool (decide (x26 < 0)))]) ?_ ?_
                    · refine QRun_b [.int .i64 x26, .bool (decide (x26 < 0))] 0 _ (by kernel_rfl) (fun w => by kernel_rfl) ?_
                      exact QRun_done [13, 14, 113] (by kernel_rfl) (by kernel_rfl)
                    refine Run_cond (b := decide (x26 < 0)) (by kernel_rfl) (fun hb14 => ?_) (fun hb14 => ?_)
                    · have hF := (M.ite_some hF).1 hb14
                      refine Run_seq ?_
                      refine Run_reg 1 (by kernel_rfl) (L' := [(4, .bool false)]) ?_ ?_
                      · refine QRun_b [.bool false] 0 _ (by kernel_rfl) (fun w => by kernel_rfl) ?_
                        exact QRun_done [4] (by kernel_rfl) (by kernel_rfl)
                      have hF := M.ret_some hF
                      subst hF
                      have H42 : Hold h h14 [] := H40.pick [] (by kernel_rfl)
                      exact Run_ret1 rfl (ResV_tmp (v := .bool false) (by kernel_rfl)) ⟨rfl, H42⟩
                    · have hF := (M.ite_some hF).2 hb14
                      refine Run_skip ?_
                      refine Run_seq ?_
                      refine Run_seq ?_
                      refine Run_reg 3 (by kernel_rfl) (L' := [(116, .bool (x26 != x19.1))]) ?_ ?_
                      · refine QRun_b [.int .i64 x26, .int .i64 x19.1, .bool (x26 != x19.1)] 0 _ (by kernel_rfl) (fun w => by kernel_rfl) ?_
                        exact QRun_done [116] (by kernel_rfl) (by kernel_rfl)
                      refine Run_cond (b := x26 != x19.1) (by kernel_rfl) (fun hb15 => ?_) (fun hb15 => ?_)
                      · have hF := (M.ite_some hF).1 hb15
                        refine Run_seq ?_
                        refine Run_reg 1 (by kernel_rfl) (L' := [(4, .bool false)]) ?_ ?_
                        · refine QRun_b [.bool false] 0 _ (by kernel_rfl) (fun w => by kernel_rfl) ?_
                          exact QRun_done [4] (by kernel_rfl) (by kernel_rfl)
                        have hF := M.ret_some hF
                        subst hF
                        have H43 : Hold h h14 [] := H40.pick [] (by kernel_rfl)
                        exact Run_ret1 rfl (ResV_tmp (v := .bool false) (by kernel_rfl)) ⟨rfl, H43⟩
                      · have hF := (M.ite_some hF).2 hb15
                        refine Run_skip ?_
                        refine Run_seq ?_
                        refine Run_reg 1 (by kernel_rfl) (L' := [(4, .bool true)]) ?_ ?_
                        · refine QRun_b [.bool true] 0 _ (by kernel_rfl) (fun w => by kernel_rfl) ?_
                          exact QRun_done [4] (by kernel_rfl) (by kernel_rfl)
                        have hF := M.ret_some hF
                        subst hF
                        have H44 : Hold h h14 [] := H40.pick [] (by kernel_rfl)
                        exact Run_ret1 rfl (ResV_tmp (v := .bool true) (by kernel_rfl)) ⟨rfl, H44⟩

end Go.Proofs.Ytmpjjdgfkjompaa
