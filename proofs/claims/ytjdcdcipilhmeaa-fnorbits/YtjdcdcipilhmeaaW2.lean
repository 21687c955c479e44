/-
  Walks: each Go function, called with what reads as plain data, returns what its plain program computes.
  Conditions: None beyond the given statement.
-/
import Derived.Test.YtjdcdcipilhmeaaW1
namespace Go.Proofs.Ytjdcdcipilhmeaa
open Go
attribute [local irreducible] setL setB opA fineI idleI fineB evB okB markB markBs readyB readyBs chainB lk rho pickL dropSlot tailOK
set_option maxRecDepth 100000 in
set_option maxHeartbeats 4000000 in
theorem w_impl_sumOf (h : Heap) (list : List Int) {Slist : Bs} (alist : Option Addr) (clist : Nat) (rlist : Rd cd2 h Slist alist clist list) (n : Nat) (r : Int) (hF : impl_sumOf list n = some r) :
    Fn Try.prog 96 #[.slice alist list.length clist] h fun v h' => v = .int .i64 r ∧ h' = h := by
  unfold impl_sumOf at hF
  refine Fn_enter (args := [.slice alist list.length clist]) Try.func96 rfl (by kernel_rfl) (by kernel_rfl) (fun w0 _ => ?_)
  refine Run_seq ?_
  refine Run_reg 1 (by kernel_rfl) (L' := [(0, .slice alist list.length clist)]) ?_ ?_
  · refine QRun_b [.int .i64 0] 0 _ (by kernel_rfl) (fun w => by kernel_rfl) ?_
    exact QRun_done [0] (by kernel_rfl) (by kernel_rfl)
  refine Run_seq ?_
  refine Run_reg 1 (by kernel_rfl) (L' := [(0, .slice alist list.length clist), (3, .int .i64 (-1000000000000000))]) ?_ ?_
  · refine QRun_b [.int .i64 (-1000000000000000)] 0 _ (by kernel_rfl) (fun w => by kernel_rfl) ?_
    exact QRun_done [0, 3] (by kernel_rfl) (by kernel_rfl)
  refine Run_seq ?_
  refine Run_seq ?_
  refine Run_reg 3 (by kernel_rfl) (L' := [(3, .int .i64 (-1000000000000000)), (6, .slice alist list.length clist), (7, .int .i64 (list.length : Int)), (8, .int .i64 0)]) ?_ ?_
  · refine QRun_b [.slice alist list.length clist, .int .i64 (list.length : Int), .int .i64 0] 0 _ (by kernel_rfl) (fun w => by kernel_rfl) ?_
    exact QRun_done [3, 6, 7, 8] (by kernel_rfl) (by kernel_rfl)
  obtain ⟨x1, gx1, hF⟩ := M.bind_some hF
  obtain ⟨hloy1, hhiy1, gx1⟩ := M.for_start gx1
  refine Run_join (fun L' h' => L' = [(3, .int .i64 x1)] ∧ h = h') ?_ ?_
  · rintro _ _ ⟨rfl, rfl⟩
    refine Run_seq ?_
    refine Run_reg 2 (by kernel_rfl) (L' := [(2, .int .i64 x1)]) ?_ ?_
    · refine QRun_b [.int .i64 x1, .int .i64 x1] 0 _ (by kernel_rfl) (fun w => by kernel_rfl) ?_
      exact QRun_done [2] (by kernel_rfl) (by kernel_rfl)
    have hF := M.ret_some hF
    subst hF
    exact Run_ret1 rfl (ResV_tmp (v := .int .i64 x1) (by kernel_rfl)) ⟨rfl, rfl⟩
  · refine Run_block ?_
    refine Run_keep [3, 6, 7, 8] (L' := [(3, .int .i64 (-1000000000000000)), (6, .slice alist list.length clist), (7, .int .i64 (list.length : Int)), (8, .int .i64 0)]) (by kernel_rfl) ?_
    refine Run_loop (fun m L' h' => ∃ (i1 : Int) (s1 : Int), 0 ≤ i1 ∧ M.forN (list.length : Int) _ _ n m i1 s1 = some x1 ∧ L' = [(3, .int .i64 s1), (6, .slice alist list.length clist), (7, .int .i64 (list.length : Int)), (8, .int .i64 i1)] ∧ h = h') ((list.length : Int) - 0 : Int).toNat ⟨0, (-1000000000000000), Int.le_refl _, gx1, rfl, rfl⟩ ?_
    rintro my1 _ _ ⟨i1, s1, hloy1', gx1, rfl, rfl⟩
    refine Run_seq ?_
    refine Run_reg 1 (by kernel_rfl) (L' := [(3, .int .i64 s1), (6, .slice alist list.length clist), (7, .int .i64 (list.length : Int)), (8, .int .i64 i1), (9, .bool (decide (i1 < (list.length : Int))))]) ?_ ?_
    · refine QRun_b [.bool (decide (i1 < (list.length : Int)))] 0 _ (by kernel_rfl) (fun w => by kernel_rfl) ?_
      exact QRun_done [3, 6, 7, 8, 9] (by kernel_rfl) (by kernel_rfl)
    refine Run_seq ?_
    refine Run_cond (b := decide (i1 < (list.length : Int))) (by kernel_rfl) (fun hb1 => ?_) (fun hb1 => ?_)
    · obtain ⟨my1, y1, rfl, hB1, hgoy1, houty1⟩ := M.for_go gx1 hb1
      have hlty1 := of_decide_eq_true hb1
      refine Run_skip ?_
      refine Run_seq ?_
      refine Run_block ?_
      refine Run_seq ?_
      obtain ⟨x2, hx1, hB1⟩ := M.bind_some hB1
      obtain ⟨hx1l, hx1u, hx1⟩ := M.idx_some hx1
      refine Run_reg 3 (by kernel_rfl) (L' := [(3, .int .i64 s1), (5, .int .i64 x2), (6, .slice alist list.length clist), (7, .int .i64 (list.length : Int)), (8, .int .i64 i1)]) ?_ ?_
      · refine QRun_y (.pointer (some (adr alist (i1.toNat * 1)))) (by kernel_rfl) (Y_idx (t := 23) (e := 2) (sz := 1) (a := alist) (n := list.length) (cap := clist) (kk := .i64) (i := i1) (by kernel_rfl) Try.underlying23 (by kernel_rfl) (rlist.cell hx1).1 hx1l hx1u) ?_
        refine QRun_y (.int .i64 x2) (by kernel_rfl) (Y_load1 (t := 2) (p := adr alist (i1.toNat * 1)) (v := .int .i64 x2) (by kernel_rfl) (fun w => by kernel_rfl) (cd2_cell rlist hx1)) ?_
        refine QRun_b [.int .i64 x2] 2 _ (by kernel_rfl) (fun w => by kernel_rfl) ?_
        exact QRun_done [3, 5, 6, 7, 8] (by kernel_rfl) (by kernel_rfl)
      refine Run_reg 4 (by kernel_rfl) (L' := [(3, .int .i64 (mx s1 x2)), (6, .slice alist list.length clist), (7, .int .i64 (list.length : Int)), (8, .int .i64 i1)]) ?_ ?_
      · refine QRun_b [.int .i64 s1, .int .i64 x2, .int .i64 (mx s1 x2), .int .i64 (mx s1 x2)] 0 _ (by kernel_rfl) (fun w => by kernel_rfl) ?_
        exact QRun_done [3, 6, 7, 8] (by kernel_rfl) (by kernel_rfl)
      refine Run_blk ?_
      refine Run_reg 2 (by kernel_rfl) (L' := [(3, .int .i64 (mx s1 x2)), (6, .slice alist list.length clist), (7, .int .i64 (list.length : Int)), (8, .int .i64 (i1 + 1))]) ?_ ?_
      · refine QRun_y (.int .i64 (i1 + 1)) (by kernel_rfl) (Y_eq (v := .int .i64 (w64 (i1 + 1))) (Y_pure (fun w => by kernel_rfl)) (by rw [w64_eq _ (by omega)])) ?_
        refine QRun_b [.int .i64 (i1 + 1)] 1 _ (by kernel_rfl) (fun w => by kernel_rfl) ?_
        exact QRun_done [3, 6, 7, 8] (by kernel_rfl) (by kernel_rfl)
      have hB1 := M.ret_some hB1
      have gx1 := hgoy1 _ hB1.symm
      exact Run_again [3, 6, 7, 8] (by kernel_rfl) my1 (Nat.lt_succ_self _) ⟨i1 + 1, (mx s1 x2), by omega, gx1, rfl, rfl⟩
    · have gx1 := M.for_end gx1 hb1
      subst gx1
      refine Run_exit (k' := _) rfl ?_
      exact Run_fall [3] (by kernel_rfl) ⟨rfl, rfl⟩

set_option maxRecDepth 100000 in
set_option maxHeartbeats 4000000 in
theorem w_impl_shiftedVector (h : Heap) (x_ : List Int) (ax_ : Option Addr) (cx_ : Nat) (rx_ : Rd cd2 h (Lt h) ax_ cx_ x_) (g : Int) (n : Nat) (r : (List Int)) (hF : impl_shiftedVector x_ g n = some r) :
    Fn Try.prog 94 #[.slice ax_ x_.length cx_, .int .i64 g] h fun v h' => ∃ (a0 : Option Addr) (c0 : Nat), v = .slice a0 r.length c0 ∧ Hold h h' [own cd2 a0 r.length c0 r] := by
  unfold impl_shiftedVector at hF
  refine Fn_enter (args := [.slice ax_ x_.length cx_, .int .i64 g]) Try.func94 rfl (by kernel_rfl) (by kernel_rfl) (fun w0 _ => ?_)
  have H0 := Hold.init h
  refine Run_seq ?_
  refine Run_reg 1 (by kernel_rfl) (L' := [(0, .slice ax_ x_.length cx_), (1, .int .i64 g)]) ?_ ?_
  · refine QRun_b [.slice none 0 0] 0 _ (by kernel_rfl) (fun w => by kernel_rfl) ?_
    exact QRun_done [0, 1] (by kernel_rfl) (by kernel_rfl)
  refine Run_seq ?_
  refine Run_ops ?_
  refine Run_b [.slice ax_ x_.length cx_, .int .i64 (x_.length : Int)] 0 _ (by kernel_rfl) (fun w => by kernel_rfl) ?_
  obtain ⟨l1, hl1, hF⟩ := M.bind_some hF
  have hl1 := M.make_some hl1
  refine Run_E (by kernel_rfl) ?_
  refine E_make cd2 0 (kl := .i64) (kc := .i64) H0 cd2_ti Try.underlying23 (by decide) cd2_zero (by kernel_rfl) hl1 (fun a1 h1 H1 => ?_)
  refine Run_b [.slice a1 l1.length l1.length] 3 _ (by kernel_rfl) (fun w => by kernel_rfl) ?_
  refine Run_nil (by kernel_rfl) ?_
  refine Run_keep [0, 1, 5] (L' := [(0, .slice ax_ x_.length cx_), (1, .int .i64 g), (5, .slice a1 l1.length l1.length)]) (by kernel_rfl) ?_
  refine Run_seq ?_
  refine Run_seq ?_
  refine Run_reg 3 (by kernel_rfl) (L' := [(1, .int .i64 g), (5, .slice a1 l1.length l1.length), (11, .slice ax_ x_.length cx_), (12, .int .i64 (x_.length : Int)), (13, .int .i64 0)]) ?_ ?_
  · refine QRun_b [.slice ax_ x_.length cx_, .int .i64 (x_.length : Int), .int .i64 0] 0 _ (by kernel_rfl) (fun w => by kernel_rfl) ?_
    exact QRun_done [1, 5, 11, 12, 13] (by kernel_rfl) (by kernel_rfl)
  obtain ⟨x1, gx1, hF⟩ := M.bind_some hF
  obtain ⟨hloy1, hhiy1, gx1⟩ := M.for_start gx1
  refine Run_join (fun L' h' => L' = [(5, .slice a1 l1.length l1.length)] ∧ Hold h h' [own cd2 a1 l1.length l1.length x1]) ?_ ?_
  · rintro _ h3 ⟨rfl, H3⟩
    refine Run_seq ?_
    refine Run_reg 2 (by kernel_rfl) (L' := [(4, .slice a1 l1.length l1.length)]) ?_ ?_
    · refine QRun_b [.slice a1 l1.length l1.length, .slice a1 l1.length l1.length] 0 _ (by kernel_rfl) (fun w => by kernel_rfl) ?_
      exact QRun_done [4] (by kernel_rfl) (by kernel_rfl)
    have hF := M.ret_some hF
    subst hF
    have H5 := H3.norm
    exact Run_ret1 rfl (ResV_tmp (v := .slice a1 l1.length l1.length) (by kernel_rfl)) ⟨a1, l1.length, (by simp only [(H3.len 0 rfl)]), H5⟩
  · refine Run_block ?_
    refine Run_keep [1, 5, 11, 12, 13] (L' := [(1, .int .i64 g), (5, .slice a1 l1.length l1.length), (11, .slice ax_ x_.length cx_), (12, .int .i64 (x_.length : Int)), (13, .int .i64 0)]) (by kernel_rfl) ?_
    refine Run_loop (fun m L' h' => ∃ (i1 : Int) (s1 : (List Int)), 0 ≤ i1 ∧ M.forN (x_.length : Int) _ _ n m i1 s1 = some x1 ∧ L' = [(1, .int .i64 g), (5, .slice a1 l1.length l1.length), (11, .slice ax_ x_.length cx_), (12, .int .i64 (x_.length : Int)), (13, .int .i64 i1)] ∧ Hold h h' [own cd2 a1 l1.length l1.length s1]) ((x_.length : Int) - 0 : Int).toNat ⟨0, l1, Int.le_refl _, gx1, rfl, H1⟩ ?_
    rintro my1 _ h2 ⟨i1, s1, hloy1', gx1, rfl, H2⟩
    refine Run_seq ?_
    refine Run_reg 1 (by kernel_rfl) (L' := [(1, .int .i64 g), (5, .slice a1 l1.length l1.length), (11, .slice ax_ x_.length cx_), (12, .int .i64 (x_.length : Int)), (13, .int .i64 i1), (14, .bool (decide (i1 < (x_.length : Int))))]) ?_ ?_
    · refine QRun_b [.bool (decide (i1 < (x_.length : Int)))] 0 _ (by kernel_rfl) (fun w => by kernel_rfl) ?_
      exact QRun_done [1, 5, 11, 12, 13, 14] (by kernel_rfl) (by kernel_rfl)
    refine Run_seq ?_
    refine Run_cond (b := decide (i1 < (x_.length : Int))) (by kernel_rfl) (fun hb1 => ?_) (fun hb1 => ?_)
    · obtain ⟨my1, y1, rfl, hB1, hgoy1, houty1⟩ := M.for_go gx1 hb1
      have hlty1 := of_decide_eq_true hb1
      refine Run_skip ?_
      refine Run_seq ?_
      refine Run_block ?_
      refine Run_seq ?_
      obtain ⟨x2, hx1, hB1⟩ := M.bind_some hB1
      obtain ⟨hx1l, hx1u, hx1⟩ := M.idx_some hx1
      refine Run_reg 5 (by kernel_rfl) (L' := [(1, .int .i64 g), (5, .slice a1 l1.length l1.length), (6, .int .i64 i1), (7, .int .i64 x2), (11, .slice ax_ x_.length cx_), (12, .int .i64 (x_.length : Int)), (13, .int .i64 i1)]) ?_ ?_
      · refine QRun_b [.int .i64 i1] 0 _ (by kernel_rfl) (fun w => by kernel_rfl) ?_
        refine QRun_y (.pointer (some (adr ax_ (i1.toNat * 1)))) (by kernel_rfl) (Y_idx (t := 23) (e := 2) (sz := 1) (a := ax_) (n := x_.length) (cap := cx_) (kk := .i64) (i := i1) (by kernel_rfl) Try.underlying23 (by kernel_rfl) ((rx_.at H2.ext).cell hx1).1 hx1l hx1u) ?_
        refine QRun_y (.int .i64 x2) (by kernel_rfl) (Y_load1 (t := 2) (p := adr ax_ (i1.toNat * 1)) (v := .int .i64 x2) (by kernel_rfl) (fun w => by kernel_rfl) (cd2_cell (rx_.at H2.ext) hx1)) ?_
        refine QRun_b [.int .i64 i1, .int .i64 x2] 3 _ (by kernel_rfl) (fun w => by kernel_rfl) ?_
        exact QRun_done [1, 5, 6, 7, 11, 12, 13] (by kernel_rfl) (by kernel_rfl)
      refine Run_ops ?_
      obtain ⟨x3, hx2, hB1⟩ := M.bind_some hB1
      obtain ⟨x4, hx3, hB1⟩ := M.bind_some hB1
      obtain ⟨hx3l, hx3u, hx3⟩ := M.idx_some hx3
      refine Run_b [.slice a1 l1.length l1.length, .int .i64 i1, .int .i64 x2, .int .i64 g] 0 _ (by kernel_rfl) (fun w => by kernel_rfl) ?_
      refine Run_y (.int .i64 x3) (by kernel_rfl) (Y_callq (f := 72) (args := #[.int .i64 x2, .int .i64 g]) (v := .int .i64 x3) (by kernel_rfl) (w_impl_times h2 x2 g _ _ hx2)) ?_
      refine Run_y (.pointer (some (adr a1 (i1.toNat * 1)))) (by kernel_rfl) (Y_idx (t := 23) (e := 2) (sz := 1) (a := a1) (n := l1.length) (cap := l1.length) (kk := .i64) (i := i1) (by kernel_rfl) Try.underlying23 (by kernel_rfl) ((H2.rd 0 rfl).cell hx3).1 hx3l (by rw [← (H2.len 0 rfl)]; exact hx3u)) ?_
      obtain ⟨l2, hu1, hB1⟩ := M.bind_some hB1
      have hu1 := M.upd_some hu1
      refine Run_E (by kernel_rfl) ?_
      refine E_put (C := cd2) (t := 2) (sz := 1) (j := i1) (x := x3) (v := .int .i64 x3) H2 cd2_flat (by kernel_rfl) rfl (cd2_own _) (by kernel_rfl) hu1 (fun h4 H4 => ?_)
      refine Run_nil (by kernel_rfl) ?_
      refine Run_keep [1, 5, 11, 12, 13] (L' := [(1, .int .i64 g), (5, .slice a1 l1.length l1.length), (11, .slice ax_ x_.length cx_), (12, .int .i64 (x_.length : Int)), (13, .int .i64 i1)]) (by kernel_rfl) ?_
      refine Run_blk ?_
      refine Run_reg 2 (by kernel_rfl) (L' := [(1, .int .i64 g), (5, .slice a1 l1.length l1.length), (11, .slice ax_ x_.length cx_), (12, .int .i64 (x_.length : Int)), (13, .int .i64 (i1 + 1))]) ?_ ?_
      · refine QRun_y (.int .i64 (i1 + 1)) (by kernel_rfl) (Y_eq (v := .int .i64 (w64 (i1 + 1))) (Y_pure (fun w => by kernel_rfl)) (by rw [w64_eq _ (by omega)])) ?_
        refine QRun_b [.int .i64 (i1 + 1)] 1 _ (by kernel_rfl) (fun w => by kernel_rfl) ?_
        exact QRun_done [1, 5, 11, 12, 13] (by kernel_rfl) (by kernel_rfl)
      have hB1 := M.ret_some hB1
      have gx1 := hgoy1 _ hB1.symm
      exact Run_again [1, 5, 11, 12, 13] (by kernel_rfl) my1 (Nat.lt_succ_self _) ⟨i1 + 1, l2, by omega, gx1, rfl, H4⟩
    · have gx1 := M.for_end gx1 hb1
      subst gx1
      refine Run_exit (k' := _) rfl ?_
      exact Run_fall [5] (by kernel_rfl) ⟨rfl, H2⟩

set_option maxRecDepth 100000 in
set_option maxHeartbeats 4000000 in
theorem w_impl_checkedVector (h : Heap) (x_ : List Int) (ax_ : Option Addr) (cx_ : Nat) (rx_ : Rd cd2 h (Lt h) ax_ cx_ x_) (n : Nat) (r : (List Int) × Int) (hF : impl_checkedVector x_ n = some r) :
    Fn Try.prog 93 #[.slice ax_ x_.length cx_] h fun v h' => ∃ (a0 : Option Addr) (c0 : Nat), v = .tuple #[.slice a0 r.1.length c0, .int .i64 r.2] ∧ Ali a0 ax_ c0 cx_ r.1 x_ ∧ Hold h h' [] := by
  unfold impl_checkedVector at hF
  refine Fn_enter (args := [.slice ax_ x_.length cx_]) Try.func93 rfl (by kernel_rfl) (by kernel_rfl) (fun w0 _ => ?_)
  have H0 := Hold.init h
  refine Run_seq ?_
  refine Run_reg 2 (by kernel_rfl) (L' := [(0, .slice ax_ x_.length cx_)]) ?_ ?_
  · refine QRun_b [.slice none 0 0, .int .i64 0] 0 _ (by kernel_rfl) (fun w => by kernel_rfl) ?_
    exact QRun_done [0] (by kernel_rfl) (by kernel_rfl)
  refine Run_seq ?_
  refine Run_seq ?_
  obtain ⟨x1, hx1, hF⟩ := M.bind_some hF
  refine Run_reg 3 (by kernel_rfl) (L' := [(0, .slice ax_ x_.length cx_), (6, .bool (!x1))]) ?_ ?_
  · refine QRun_b [.slice ax_ x_.length cx_] 0 _ (by kernel_rfl) (fun w => by kernel_rfl) ?_
    refine QRun_y (.bool x1) (by kernel_rfl) (Y_callq (f := 102) (args := #[.slice ax_ x_.length cx_]) (v := .bool x1) (by kernel_rfl) (w_impl_areValues h x_ ax_ cx_ rx_ _ _ hx1)) ?_
    refine QRun_b [.bool (!x1)] 2 _ (by kernel_rfl) (fun w => by kernel_rfl) ?_
    exact QRun_done [0, 6] (by kernel_rfl) (by kernel_rfl)
  refine Run_cond (b := !x1) (by kernel_rfl) (fun hb1 => ?_) (fun hb1 => ?_)
  · have hF := (M.ite_some hF).1 hb1
    refine Run_seq ?_
    refine Run_reg 2 (by kernel_rfl) (L' := [(2, .slice none 0 0), (3, .int .i64 3)]) ?_ ?_
    · refine QRun_b [.slice none 0 0, .int .i64 3] 0 _ (by kernel_rfl) (fun w => by kernel_rfl) ?_
      exact QRun_done [2, 3] (by kernel_rfl) (by kernel_rfl)
    have hF := M.ret_some hF
    subst hF
    exact Run_ret2 rfl (ResV_tmp (v := .slice none 0 0) (by kernel_rfl)) (ResV_tmp (v := .int .i64 3) (by kernel_rfl)) ⟨none, 0, rfl, .inr ⟨rfl, rfl, rfl⟩, H0⟩
  · have hF := (M.ite_some hF).2 hb1
    refine Run_skip ?_
    refine Run_seq ?_
    refine Run_reg 3 (by kernel_rfl) (L' := [(2, .slice ax_ x_.length cx_), (3, .int .i64 0)]) ?_ ?_
    · refine QRun_b [.slice ax_ x_.length cx_, .slice ax_ x_.length cx_, .int .i64 0] 0 _ (by kernel_rfl) (fun w => by kernel_rfl) ?_
      exact QRun_done [2, 3] (by kernel_rfl) (by kernel_rfl)
    have hF := M.ret_some hF
    subst hF
    exact Run_ret2 rfl (ResV_tmp (v := .slice ax_ x_.length cx_) (by kernel_rfl)) (ResV_tmp (v := .int .i64 0) (by kernel_rfl)) ⟨ax_, cx_, rfl, .inl ⟨rfl, rfl, rfl⟩, H0⟩

set_option maxRecDepth 100000 in
set_option maxHeartbeats 4000000 in
theorem w_impl_orbit_firstRepeat_B (h hE : Heap) (it : Item) (o : TOrbit) (bo : Nat) (aomatrix : Option Addr) (comatrix : Nat) (romatrix : Rd cd23 h (Lt h) aomatrix comatrix o.matrix) (aolist : Option Addr) (colist : Nat) (HM : Hold h hE [box bo 88 [.slice aomatrix o.matrix.length comatrix, .slice aolist o.list.length colist], own cd22 aolist o.list.length colist o.list, it]) (n : Nat) (r : TRepeat × Int × TOrbit) (hF : impl_orbit_firstRepeat_B o n = some r) :
    Fn Try.prog 61 #[.pointer (some ⟨bo, 0, none⟩)] hE fun v h' => ∃ (a0 : Option Addr) (c0 : Nat), v = .tuple #[.agg #[.int .i64 r.1.at_, .int .i64 r.1.period, .int .i64 r.1.growth], .int .i64 r.2.1] ∧ Hold h h' [box bo 88 [.slice aomatrix o.matrix.length comatrix, .slice a0 r.2.2.list.length c0], own cd22 a0 r.2.2.list.length c0 r.2.2.list, it] := by
  unfold impl_orbit_firstRepeat_B at hF
  refine Fn_enter (args := [.pointer (some ⟨bo, 0, none⟩)]) Try.func61 rfl (by kernel_rfl) (by kernel_rfl) (fun w0 _ => ?_)
  refine Run_seq ?_
  refine Run_ops ?_
  refine Run_E (by kernel_rfl) ?_
  refine E_box (ty := 74) (cs := [.int .i64 0, .int .i64 0, .int .i64 0]) HM (fun w => by kernel_rfl) (fun b1 h1 H1 => ?_)
  refine Run_b [.int .i64 0] 1 _ (by kernel_rfl) (fun w => by kernel_rfl) ?_
  refine Run_nil (by kernel_rfl) ?_
  refine Run_keep [0, 2] (L' := [(0, .pointer (some ⟨bo, 0, none⟩)), (2, .pointer (some ⟨b1, 0, none⟩))]) (by kernel_rfl) ?_
  refine Run_seq ?_
  refine Run_seq ?_
  refine Run_reg 1 (by kernel_rfl) (L' := [(0, .pointer (some ⟨bo, 0, none⟩)), (2, .pointer (some ⟨b1, 0, none⟩)), (8, .int .i64 0)]) ?_ ?_
  · refine QRun_b [.int .i64 0] 0 _ (by kernel_rfl) (fun w => by kernel_rfl) ?_
    exact QRun_done [0, 2, 8] (by kernel_rfl) (by kernel_rfl)
  obtain ⟨x1, gx1, hF⟩ := M.bind_some hF
  obtain ⟨hloy1, hhiy1, gx1⟩ := M.for_start gx1
  refine Run_join (fun L' h' => ∃ (s2 : (List (List (List Int)))) (a2 : Option Addr) (c2 : Nat), x1 = .inl s2 ∧ L' = [(2, .pointer (some ⟨b1, 0, none⟩))] ∧ Hold h h' [box bo 88 [.slice aomatrix o.matrix.length comatrix, .slice a2 s2.length c2], own cd22 a2 s2.length c2 s2, box b1 74 [.int .i64 0, .int .i64 0, .int .i64 0], it]) ?_ ?_
  · rintro _ h3 ⟨s2, a2, c2, es2, rfl, H3⟩
    have hF := M.cont_inl' hF es2
    refine Run_seq ?_
    refine Run_ops ?_
    refine Run_b [.agg #[.int .i64 0, .int .i64 0, .int .i64 0]] 0 _ (by kernel_rfl) (fun w => by kernel_rfl) ?_
    have H39 : Hold h h3 [box b1 74 [.int .i64 0, .int .i64 0, .int .i64 0], box bo 88 [.slice aomatrix o.matrix.length comatrix, .slice a2 s2.length c2], own cd22 a2 s2.length c2 s2, it] := H3.pick [2, 0, 1, 3] (by kernel_rfl)
    refine Run_E (by kernel_rfl) ?_
    refine E_bput (t := 74) (off := 0) (us := [.int .i64 0, .int .i64 0, .int .i64 0]) (v := .agg #[.int .i64 0, .int .i64 0, .int .i64 0]) H39 (by kernel_rfl) (by kernel_rfl) rfl (by kernel_rfl) rfl (fun h9 H38 => ?_)
    refine Run_b [.int .i64 4] 2 _ (by kernel_rfl) (fun w => by kernel_rfl) ?_
    refine Run_nil (by kernel_rfl) ?_
    refine Run_keep [2, 3] (L' := [(2, .pointer (some ⟨b1, 0, none⟩)), (3, .int .i64 4)]) (by kernel_rfl) ?_
    have hF := M.ret_some hF
    subst hF
    have H40 : Hold h h9 [own cd22 a2 s2.length c2 s2, box b1 74 [.int .i64 0, .int .i64 0, .int .i64 0], box bo 88 [.slice aomatrix o.matrix.length comatrix, .slice a2 s2.length c2], it] := H38.pick [2, 0, 1, 3] (by kernel_rfl)
    have H41 : Hold h h9 [box bo 88 [.slice aomatrix o.matrix.length comatrix, .slice a2 s2.length c2], own cd22 a2 s2.length c2 s2, it] := H40.pick [2, 0, 3] (by kernel_rfl)
    exact Run_ret2 rfl (ResV_cell (n := 3) (cs := [.int .i64 0, .int .i64 0, .int .i64 0]) (by kernel_rfl) (fun w => by kernel_rfl) (by kernel_rfl) rfl (H38.cells (n := 3) (off := 0) 0 rfl rfl)) (ResV_tmp (v := .int .i64 4) (by kernel_rfl)) ⟨a2, c2, rfl, H41⟩
  · refine Run_block ?_
    have H42 : Hold h h1 [own cd22 aolist o.list.length colist o.list, box b1 74 [.int .i64 0, .int .i64 0, .int .i64 0], box bo 88 [.slice aomatrix o.matrix.length comatrix, .slice aolist o.list.length colist], it] := H1.pick [2, 0, 1, 3] (by kernel_rfl)
    have H43 : Hold h h1 [box bo 88 [.slice aomatrix o.matrix.length comatrix, .slice aolist o.list.length colist], own cd22 aolist o.list.length colist o.list, box b1 74 [.int .i64 0, .int .i64 0, .int .i64 0], it] := H42.pick [2, 0, 1, 3] (by kernel_rfl)
    refine Run_keep [0, 2, 8] (L' := [(0, .pointer (some ⟨bo, 0, none⟩)), (2, .pointer (some ⟨b1, 0, none⟩)), (8, .int .i64 0)]) (by kernel_rfl) ?_
    refine Run_loop (fun m L' h' => ∃ (i1 : Int) (s1 : (List (List (List Int)))) (a1 : Option Addr) (c1 : Nat), 0 ≤ i1 ∧ M.forN 100 _ _ n m i1 s1 = some x1 ∧ L' = [(0, .pointer (some ⟨bo, 0, none⟩)), (2, .pointer (some ⟨b1, 0, none⟩)), (8, .int .i64 i1)] ∧ Hold h h' [box bo 88 [.slice aomatrix o.matrix.length comatrix, .slice a1 s1.length c1], own cd22 a1 s1.length c1 s1, box b1 74 [.int .i64 0, .int .i64 0, .int .i64 0], it]) (100 - 0 : Int).toNat ⟨0, o.list, aolist, colist, Int.le_refl _, gx1, rfl, H43⟩ ?_
    rintro my1 _ h2 ⟨i1, s1, a1, c1, hloy1', gx1, rfl, H2⟩
    refine Run_seq ?_
    refine Run_reg 1 (by kernel_rfl) (L' := [(0, .pointer (some ⟨bo, 0, none⟩)), (2, .pointer (some ⟨b1, 0, none⟩)), (8, .int .i64 i1), (9, .bool (decide (i1 < 100)))]) ?_ ?_
    · refine QRun_b [.bool (decide (i1 < 100))] 0 _ (by kernel_rfl) (fun w => by kernel_rfl) ?_
      exact QRun_done [0, 2, 8, 9] (by kernel_rfl) (by kernel_rfl)
    refine Run_seq ?_
    refine Run_cond (b := decide (i1 < 100)) (by kernel_rfl) (fun hb1 => ?_) (fun hb1 => ?_)
    · obtain ⟨my1, y1, rfl, hB1, hgoy1, houty1⟩ := M.for_go gx1 hb1
      have hlty1 := of_decide_eq_true hb1
      refine Run_skip ?_
      refine Run_seq ?_
      refine Run_block ?_
      refine Run_seq ?_
      refine Run_reg 2 (by kernel_rfl) (L' := [(0, .pointer (some ⟨bo, 0, none⟩)), (2, .pointer (some ⟨b1, 0, none⟩)), (4, .int .i64 i1), (8, .int .i64 i1)]) ?_ ?_
      · refine QRun_b [.int .i64 i1, .int .i64 i1] 0 _ (by kernel_rfl) (fun w => by kernel_rfl) ?_
        exact QRun_done [0, 2, 4, 8] (by kernel_rfl) (by kernel_rfl)
      refine Run_seq ?_
      refine Run_reg 1 (by kernel_rfl) (L' := [(0, .pointer (some ⟨bo, 0, none⟩)), (2, .pointer (some ⟨b1, 0, none⟩)), (4, .int .i64 i1), (5, .int .i64 1), (8, .int .i64 i1)]) ?_ ?_
      · refine QRun_b [.int .i64 1] 0 _ (by kernel_rfl) (fun w => by kernel_rfl) ?_
        exact QRun_done [0, 2, 4, 5, 8] (by kernel_rfl) (by kernel_rfl)
      obtain ⟨x2, gx2, hB1⟩ := M.bind_some hB1
      refine Run_join (fun L' h' => ∃ (s4 : (List (List (List Int))) × Int) (a4 : Option Addr) (c4 : Nat), x2 = .inl s4 ∧ L' = [(0, .pointer (some ⟨bo, 0, none⟩)), (2, .pointer (some ⟨b1, 0, none⟩)), (8, .int .i64 i1)] ∧ Hold h h' [box bo 88 [.slice aomatrix o.matrix.length comatrix, .slice a4 s4.1.length c4], own cd22 a4 s4.1.length c4 s4.1, box b1 74 [.int .i64 0, .int .i64 0, .int .i64 0], it]) ?_ ?_
      · rintro _ h5 ⟨s4, a4, c4, es4, rfl, H5⟩
        have hB1 := M.cont_inl' hB1 es4
        refine Run_blk ?_
        refine Run_reg 2 (by kernel_rfl) (L' := [(0, .pointer (some ⟨bo, 0, none⟩)), (2, .pointer (some ⟨b1, 0, none⟩)), (8, .int .i64 (i1 + 1))]) ?_ ?_
        · refine QRun_y (.int .i64 (i1 + 1)) (by kernel_rfl) (Y_eq (v := .int .i64 (w64 (i1 + 1))) (Y_pure (fun w => by kernel_rfl)) (by rw [w64_eq _ (by omega)])) ?_
          refine QRun_b [.int .i64 (i1 + 1)] 1 _ (by kernel_rfl) (fun w => by kernel_rfl) ?_
          exact QRun_done [0, 2, 8] (by kernel_rfl) (by kernel_rfl)
        have H32 : Hold h h5 [own cd22 a4 s4.1.length c4 s4.1, box bo 88 [.slice aomatrix o.matrix.length comatrix, .slice a4 s4.1.length c4], box b1 74 [.int .i64 0, .int .i64 0, .int .i64 0], it] := H5.pick [1, 0, 2, 3] (by kernel_rfl)
        have H33 : Hold h h5 [box bo 88 [.slice aomatrix o.matrix.length comatrix, .slice a4 s4.1.length c4], own cd22 a4 s4.1.length c4 s4.1, box b1 74 [.int .i64 0, .int .i64 0, .int .i64 0], it] := H32.pick [1, 0, 2, 3] (by kernel_rfl)
        have hB1 := M.ret_some hB1
        have gx1 := hgoy1 _ hB1.symm
        exact Run_again [0, 2, 8] (by kernel_rfl) my1 (Nat.lt_succ_self _) ⟨i1 + 1, s4.1, a4, c4, by omega, gx1, rfl, H33⟩
      · refine Run_block ?_
        have H34 : Hold h h2 [own cd22 a1 s1.length c1 s1, box bo 88 [.slice aomatrix o.matrix.length comatrix, .slice a1 s1.length c1], box b1 74 [.int .i64 0, .int .i64 0, .int .i64 0], it] := H2.pick [1, 0, 2, 3] (by kernel_rfl)
        have H35 : Hold h h2 [box bo 88 [.slice aomatrix o.matrix.length comatrix, .slice a1 s1.length c1], own cd22 a1 s1.length c1 s1, box b1 74 [.int .i64 0, .int .i64 0, .int .i64 0], it] := H34.pick [1, 0, 2, 3] (by kernel_rfl)
        refine Run_keep [0, 2, 4, 5, 8] (L' := [(0, .pointer (some ⟨bo, 0, none⟩)), (2, .pointer (some ⟨b1, 0, none⟩)), (4, .int .i64 i1), (5, .int .i64 1), (8, .int .i64 i1)]) (by kernel_rfl) ?_
        refine Run_loop (fun m L' h' => ∃ (s3 : (List (List (List Int))) × Int) (a3 : Option Addr) (c3 : Nat), M.loopN _ n m s3 = some x2 ∧ L' = [(0, .pointer (some ⟨bo, 0, none⟩)), (2, .pointer (some ⟨b1, 0, none⟩)), (4, .int .i64 i1), (5, .int .i64 s3.2), (8, .int .i64 i1)] ∧ Hold h h' [box bo 88 [.slice aomatrix o.matrix.length comatrix, .slice a3 s3.1.length c3], own cd22 a3 s3.1.length c3 s3.1, box b1 74 [.int .i64 0, .int .i64 0, .int .i64 0], it]) n ⟨(s1, 1), a1, c1, gx2, rfl, H35⟩ ?_
        rintro my2 _ h4 ⟨s3, a3, c3, gx2, rfl, H4⟩
        obtain ⟨my2, y2, rfl, hB2, hgoy2, houty2⟩ := M.loop_some gx2
        refine Run_seq ?_
        refine Run_seq ?_
        refine Run_reg 4 (by kernel_rfl) (L' := [(0, .pointer (some ⟨bo, 0, none⟩)), (2, .pointer (some ⟨b1, 0, none⟩)), (4, .int .i64 i1), (5, .int .i64 s3.2), (8, .int .i64 i1), (14, .bool (decide ((w64 (i1 + s3.2)) ≤ 100)))]) ?_ ?_
        · refine QRun_b [.int .i64 i1, .int .i64 s3.2, .int .i64 (w64 (i1 + s3.2)), .bool (decide ((w64 (i1 + s3.2)) ≤ 100))] 0 _ (by kernel_rfl) (fun w => by kernel_rfl) ?_
          exact QRun_done [0, 2, 4, 5, 8, 14] (by kernel_rfl) (by kernel_rfl)
        refine Run_cond (b := decide ((w64 (i1 + s3.2)) ≤ 100)) (by kernel_rfl) (fun hb2 => ?_) (fun hb2 => ?_)
        · have hB2 := (M.ite_some hB2).1 hb2
          refine Run_skip ?_
          refine Run_seq ?_
          refine Run_block ?_
          refine Run_seq ?_
          refine Run_seq ?_
          refine Run_ops ?_
          refine Run_b [.pointer (some ⟨bo, 0, none⟩), .int .i64 i1, .int .i64 s3.2, .int .i64 (w64 (i1 + s3.2))] 0 _ (by kernel_rfl) (fun w => by kernel_rfl) ?_
          obtain ⟨x3, hx1, hB2⟩ := M.bind_some hB2
          have H6 : Hold h h4 [own cd22 a3 s3.1.length c3 s3.1, box bo 88 [.slice aomatrix o.matrix.length comatrix, .slice a3 s3.1.length c3], box b1 74 [.int .i64 0, .int .i64 0, .int .i64 0], it] := H4.pick [1, 0, 2, 3] (by kernel_rfl)
          have H7 : Hold h h4 [box bo 88 [.slice aomatrix o.matrix.length comatrix, .slice a3 s3.1.length c3], own cd22 a3 s3.1.length c3 s3.1, box b1 74 [.int .i64 0, .int .i64 0, .int .i64 0], it] := H6.pick [1, 0, 2, 3] (by kernel_rfl)
          have H8 : Hold h h4 [box bo 88 [.slice aomatrix o.matrix.length comatrix, .slice a3 s3.1.length c3], own cd22 a3 s3.1.length c3 s3.1, bun [box b1 74 [.int .i64 0, .int .i64 0, .int .i64 0], it]] := Hold.bundle (S := [box bo 88 [.slice aomatrix o.matrix.length comatrix, .slice a3 s3.1.length c3], own cd22 a3 s3.1.length c3 s3.1]) (R := [box b1 74 [.int .i64 0, .int .i64 0, .int .i64 0], it]) H7
          refine Run_E (by kernel_rfl) ?_
          refine E_call (f := 89) (args := #[.pointer (some ⟨bo, 0, none⟩), .int .i64 (w64 (i1 + s3.2))]) (w_impl_orbit_grow_B h h4 _ (⟨o.matrix, s3.1⟩ : TOrbit) bo aomatrix comatrix romatrix a3 c3 (w64 (i1 + s3.2)) H8 _ _ hx1) (by kernel_rfl) (fun v1 h6 hp1 => ?_)
          obtain ⟨a5, c5, rfl, H9⟩ := hp1
          have H10 : Hold h h6 [box bo 88 [.slice aomatrix o.matrix.length comatrix, .slice a5 x3.2.list.length c5], own cd22 a5 x3.2.list.length c5 x3.2.list, box b1 74 [.int .i64 0, .int .i64 0, .int .i64 0], it] := Hold.unbundle (S := [box bo 88 [.slice aomatrix o.matrix.length comatrix, .slice a5 x3.2.list.length c5], own cd22 a5 x3.2.list.length c5 x3.2.list]) (R := [box b1 74 [.int .i64 0, .int .i64 0, .int .i64 0], it]) H9 (Hold.tailBase (S := [box bo 88 [.slice aomatrix o.matrix.length comatrix, .slice a3 s3.1.length c3], own cd22 a3 s3.1.length c3 s3.1]) (R := [box b1 74 [.int .i64 0, .int .i64 0, .int .i64 0], it]) H7)
          refine Run_b [.bool (!x3.1)] 5 _ (by kernel_rfl) (fun w => by kernel_rfl) ?_
          refine Run_nil (by kernel_rfl) ?_
          refine Run_keep [0, 2, 4, 5, 8, 22] (L' := [(0, .pointer (some ⟨bo, 0, none⟩)), (2, .pointer (some ⟨b1, 0, none⟩)), (4, .int .i64 i1), (5, .int .i64 s3.2), (8, .int .i64 i1), (22, .bool (!x3.1))]) (by kernel_rfl) ?_
          refine Run_cond (b := !x3.1) (by kernel_rfl) (fun hb3 => ?_) (fun hb3 => ?_)
          · have hB2 := (M.ite_some hB2).1 hb3
            refine Run_seq ?_
            refine Run_ops ?_
            refine Run_b [.agg #[.int .i64 0, .int .i64 0, .int .i64 0]] 0 _ (by kernel_rfl) (fun w => by kernel_rfl) ?_
            have H12 : Hold h h6 [box b1 74 [.int .i64 0, .int .i64 0, .int .i64 0], box bo 88 [.slice aomatrix o.matrix.length comatrix, .slice a5 x3.2.list.length c5], own cd22 a5 x3.2.list.length c5 x3.2.list, it] := H10.pick [2, 0, 1, 3] (by kernel_rfl)
            refine Run_E (by kernel_rfl) ?_
            refine E_bput (t := 74) (off := 0) (us := [.int .i64 0, .int .i64 0, .int .i64 0]) (v := .agg #[.int .i64 0, .int .i64 0, .int .i64 0]) H12 (by kernel_rfl) (by kernel_rfl) rfl (by kernel_rfl) rfl (fun h7 H11 => ?_)
            refine Run_b [.int .i64 3] 2 _ (by kernel_rfl) (fun w => by kernel_rfl) ?_
            refine Run_nil (by kernel_rfl) ?_
            refine Run_keep [2, 3] (L' := [(2, .pointer (some ⟨b1, 0, none⟩)), (3, .int .i64 3)]) (by kernel_rfl) ?_
            have hB2 := M.ret_some hB2
            have gx2 := houty2 _ hB2.symm
            have hB1 := M.cont_inr' hB1 gx2
            have hB1 := M.ret_some hB1
            have gx1 := houty1 _ hB1.symm
            have hF := M.cont_inr' hF gx1
            have hF := M.ret_some hF
            subst hF
            have H13 : Hold h h7 [own cd22 a5 x3.2.list.length c5 x3.2.list, box b1 74 [.int .i64 0, .int .i64 0, .int .i64 0], box bo 88 [.slice aomatrix o.matrix.length comatrix, .slice a5 x3.2.list.length c5], it] := H11.pick [2, 0, 1, 3] (by kernel_rfl)
            have H14 : Hold h h7 [box bo 88 [.slice aomatrix o.matrix.length comatrix, .slice a5 x3.2.list.length c5], own cd22 a5 x3.2.list.length c5 x3.2.list, it] := H13.pick [2, 0, 3] (by kernel_rfl)
            exact Run_ret2 rfl (ResV_cell (n := 3) (cs := [.int .i64 0, .int .i64 0, .int .i64 0]) (by kernel_rfl) (fun w => by kernel_rfl) (by kernel_rfl) rfl (H11.cells (n := 3) (off := 0) 0 rfl rfl)) (ResV_tmp (v := .int .i64 3) (by kernel_rfl)) ⟨a5, c5, rfl, H14⟩
          · have hB2 := (M.ite_some hB2).2 hb3
            refine Run_skip ?_
            refine Run_seq ?_
            obtain ⟨x4, hx2, hB2⟩ := M.bind_some hB2
            obtain ⟨hx2l, hx2u, hx2⟩ := M.idx_some hx2
            have H15 : Hold h h6 [own cd22 a5 x3.2.list.length c5 x3.2.list, box bo 88 [.slice aomatrix o.matrix.length comatrix, .slice a5 x3.2.list.length c5], box b1 74 [.int .i64 0, .int .i64 0, .int .i64 0], it] := H10.pick [1, 0, 2, 3] (by kernel_rfl)
            have H16 := H15.toRows
            obtain ⟨a6, c6, H17⟩ := H16.pinRow hx2
            have H18 : Hold h h6 [box bo 88 [.slice aomatrix o.matrix.length comatrix, .slice a5 x3.2.list.length c5], rowsP cd23 22 a5 x3.2.list.length c5 x3.2.list [(i1.toNat, a6, x4.length, c6, x4)], box b1 74 [.int .i64 0, .int .i64 0, .int .i64 0], it] := H17.pick [1, 0, 2, 3] (by kernel_rfl)
            obtain ⟨x5, hx3, hB2⟩ := M.bind_some hB2
            obtain ⟨hx3l, hx3u, hx3⟩ := M.idx_some hx3
            have H19 : Hold h h6 [rowsP cd23 22 a5 x3.2.list.length c5 x3.2.list [(i1.toNat, a6, x4.length, c6, x4)], box bo 88 [.slice aomatrix o.matrix.length comatrix, .slice a5 x3.2.list.length c5], box b1 74 [.int .i64 0, .int .i64 0, .int .i64 0], it] := H18.pick [1, 0, 2, 3] (by kernel_rfl)
            obtain ⟨a7, c7, H20⟩ := H19.pinRow hx3
            have H21 : Hold h h6 [box bo 88 [.slice aomatrix o.matrix.length comatrix, .slice a5 x3.2.list.length c5], rowsP cd23 22 a5 x3.2.list.length c5 x3.2.list [((w64 (i1 + s3.2)).toNat, a7, x5.length, c7, x5), (i1.toNat, a6, x4.length, c6, x4)], box b1 74 [.int .i64 0, .int .i64 0, .int .i64 0], it] := H20.pick [1, 0, 2, 3] (by kernel_rfl)
            obtain ⟨x6, hx4, hB2⟩ := M.bind_some hB2
            refine Run_draw 22 mixed (by kernel_rfl) (by kernel_rfl) (L' := [(0, .pointer (some ⟨bo, 0, none⟩)), (2, .pointer (some ⟨b1, 0, none⟩)), (4, .int .i64 i1), (5, .int .i64 s3.2), (6, .int .i64 x6.1), (7, .bool x6.2), (8, .int .i64 i1)]) ?_ ?_
            · refine QRun_b [.pointer (some ⟨bo, 0, none⟩), .pointer (some ⟨bo, 0, none⟩), .pointer (some ⟨bo, 1, none⟩)] 0 _ (by kernel_rfl) (fun w => by kernel_rfl) ?_
              refine QRun_y (.slice a5 x3.2.list.length c5) (by kernel_rfl) (Y_load1 (t := 86) (p := ⟨bo, 1, none⟩) (v := .slice a5 x3.2.list.length c5) (by kernel_rfl) (fun w => by kernel_rfl) (H10.cell 0 rfl rfl)) ?_
              refine QRun_b [.int .i64 i1] 4 _ (by kernel_rfl) (fun w => by kernel_rfl) ?_
              refine QRun_y (.pointer (some (adr a5 (i1.toNat * 1)))) (by kernel_rfl) (Y_idx (t := 86) (e := 22) (sz := 1) (a := a5) (n := x3.2.list.length) (cap := c5) (kk := .i64) (i := i1) (by kernel_rfl) Try.underlying86 (by kernel_rfl) ((H10.rd 1 rfl).cell hx2).1 hx2l hx2u) ?_
              refine QRun_y (.slice a6 x4.length c6) (by kernel_rfl) (Y_load1 (t := 22) (p := adr a5 (i1.toNat * 1)) (v := .slice a6 x4.length c6) (by kernel_rfl) (fun w => by kernel_rfl) (H18.cellPin 1 rfl 0 rfl)) ?_
              refine QRun_b [.pointer (some ⟨bo, 0, none⟩), .pointer (some ⟨bo, 0, none⟩), .pointer (some ⟨bo, 1, none⟩)] 7 _ (by kernel_rfl) (fun w => by kernel_rfl) ?_
              refine QRun_y (.slice a5 x3.2.list.length c5) (by kernel_rfl) (Y_load1 (t := 86) (p := ⟨bo, 1, none⟩) (v := .slice a5 x3.2.list.length c5) (by kernel_rfl) (fun w => by kernel_rfl) (H18.cell 0 rfl rfl)) ?_
              refine QRun_b [.int .i64 i1, .int .i64 s3.2, .int .i64 (w64 (i1 + s3.2))] 11 _ (by kernel_rfl) (fun w => by kernel_rfl) ?_
              refine QRun_y (.pointer (some (adr a5 ((w64 (i1 + s3.2)).toNat * 1)))) (by kernel_rfl) (Y_idx (t := 86) (e := 22) (sz := 1) (a := a5) (n := x3.2.list.length) (cap := c5) (kk := .i64) (i := w64 (i1 + s3.2)) (by kernel_rfl) Try.underlying86 (by kernel_rfl) ((H18.rdRows 1 rfl).cell hx3).1 hx3l hx3u) ?_
              refine QRun_y (.slice a7 x5.length c7) (by kernel_rfl) (Y_load1 (t := 22) (p := adr a5 ((w64 (i1 + s3.2)).toNat * 1)) (v := .slice a7 x5.length c7) (by kernel_rfl) (fun w => by kernel_rfl) (H21.cellPin 1 rfl 0 rfl)) ?_
              refine QRun_y (.tuple #[.int .i64 x6.1, .bool x6.2]) (by kernel_rfl) (Y_callq (f := 104) (args := #[.slice a6 x4.length c6, .slice a7 x5.length c7]) (v := .tuple #[.int .i64 x6.1, .bool x6.2]) (by kernel_rfl) (w_impl_growthBetween h6 x4 a6 c6 (H21.rdPin 1 rfl 1 rfl) x5 a7 c7 (H21.rdPin 1 rfl 0 rfl) _ _ hx4)) ?_
              refine QRun_b [.tuple #[.int .i64 x6.1, .bool x6.2], .int .i64 x6.1, .bool x6.2, .int .i64 x6.1, .bool x6.2] 17 _ (by kernel_rfl) (fun w => by kernel_rfl) ?_
              exact QRun_done [0, 2, 4, 5, 6, 7, 8] (by kernel_rfl) (by kernel_rfl)
            refine Run_seq ?_
            refine Run_reg 1 (by kernel_rfl) (L' := [(0, .pointer (some ⟨bo, 0, none⟩)), (2, .pointer (some ⟨b1, 0, none⟩)), (4, .int .i64 i1), (5, .int .i64 s3.2), (6, .int .i64 x6.1), (8, .int .i64 i1), (44, .bool x6.2)]) ?_ ?_
            · refine QRun_b [.bool x6.2] 0 _ (by kernel_rfl) (fun w => by kernel_rfl) ?_
              exact QRun_done [0, 2, 4, 5, 6, 8, 44] (by kernel_rfl) (by kernel_rfl)
            refine Run_cond (b := x6.2) (by kernel_rfl) (fun hb4 => ?_) (fun hb4 => ?_)
            · have hB2 := (M.ite_some hB2).1 hb4
              refine Run_seq ?_
              refine Run_ops ?_
              refine Run_b [.int .i64 i1, .int .i64 s3.2, .int .i64 x6.1, .agg #[.int .i64 i1, .int .i64 s3.2, .int .i64 x6.1]] 0 _ (by kernel_rfl) (fun w => by kernel_rfl) ?_
              have H23 : Hold h h6 [box b1 74 [.int .i64 0, .int .i64 0, .int .i64 0], box bo 88 [.slice aomatrix o.matrix.length comatrix, .slice a5 x3.2.list.length c5], rowsP cd23 22 a5 x3.2.list.length c5 x3.2.list [((w64 (i1 + s3.2)).toNat, a7, x5.length, c7, x5), (i1.toNat, a6, x4.length, c6, x4)], it] := H21.pick [2, 0, 1, 3] (by kernel_rfl)
              refine Run_E (by kernel_rfl) ?_
              refine E_bput (t := 74) (off := 0) (us := [.int .i64 i1, .int .i64 s3.2, .int .i64 x6.1]) (v := .agg #[.int .i64 i1, .int .i64 s3.2, .int .i64 x6.1]) H23 (by kernel_rfl) (by kernel_rfl) rfl (by kernel_rfl) rfl (fun h8 H22 => ?_)
              refine Run_b [.int .i64 0] 5 _ (by kernel_rfl) (fun w => by kernel_rfl) ?_
              refine Run_nil (by kernel_rfl) ?_
              refine Run_keep [2, 3] (L' := [(2, .pointer (some ⟨b1, 0, none⟩)), (3, .int .i64 0)]) (by kernel_rfl) ?_
              have hB2 := M.ret_some hB2
              have gx2 := houty2 _ hB2.symm
              have hB1 := M.cont_inr' hB1 gx2
              have hB1 := M.ret_some hB1
              have gx1 := houty1 _ hB1.symm
              have hF := M.cont_inr' hF gx1
              have hF := M.ret_some hF
              subst hF
              have H24 : Hold h h8 [rowsP cd23 22 a5 x3.2.list.length c5 x3.2.list [((w64 (i1 + s3.2)).toNat, a7, x5.length, c7, x5), (i1.toNat, a6, x4.length, c6, x4)], box b1 74 [.int .i64 i1, .int .i64 s3.2, .int .i64 x6.1], box bo 88 [.slice aomatrix o.matrix.length comatrix, .slice a5 x3.2.list.length c5], it] := H22.pick [2, 0, 1, 3] (by kernel_rfl)
              have H25 := H24.ofRows
              have H26 : Hold h h8 [box bo 88 [.slice aomatrix o.matrix.length comatrix, .slice a5 x3.2.list.length c5], own cd22 a5 x3.2.list.length c5 x3.2.list, it] := H25.pick [2, 0, 3] (by kernel_rfl)
              exact Run_ret2 rfl (ResV_cell (n := 3) (cs := [.int .i64 i1, .int .i64 s3.2, .int .i64 x6.1]) (by kernel_rfl) (fun w => by kernel_rfl) (by kernel_rfl) rfl (H22.cells (n := 3) (off := 0) 0 rfl rfl)) (ResV_tmp (v := .int .i64 0) (by kernel_rfl)) ⟨a5, c5, rfl, H26⟩
            · have hB2 := (M.ite_some hB2).2 hb4
              refine Run_skip ?_
              refine Run_blk ?_
              refine Run_reg 3 (by kernel_rfl) (L' := [(0, .pointer (some ⟨bo, 0, none⟩)), (2, .pointer (some ⟨b1, 0, none⟩)), (4, .int .i64 i1), (5, .int .i64 (w64 (s3.2 + 1))), (8, .int .i64 i1)]) ?_ ?_
              · refine QRun_b [.int .i64 s3.2, .int .i64 (w64 (s3.2 + 1)), .int .i64 (w64 (s3.2 + 1))] 0 _ (by kernel_rfl) (fun w => by kernel_rfl) ?_
                exact QRun_done [0, 2, 4, 5, 8] (by kernel_rfl) (by kernel_rfl)
              have H27 : Hold h h6 [rowsP cd23 22 a5 x3.2.list.length c5 x3.2.list [((w64 (i1 + s3.2)).toNat, a7, x5.length, c7, x5), (i1.toNat, a6, x4.length, c6, x4)], box bo 88 [.slice aomatrix o.matrix.length comatrix, .slice a5 x3.2.list.length c5], box b1 74 [.int .i64 0, .int .i64 0, .int .i64 0], it] := H21.pick [1, 0, 2, 3] (by kernel_rfl)
              have H28 := H27.ofRows
              have H29 : Hold h h6 [box bo 88 [.slice aomatrix o.matrix.length comatrix, .slice a5 x3.2.list.length c5], own cd22 a5 x3.2.list.length c5 x3.2.list, box b1 74 [.int .i64 0, .int .i64 0, .int .i64 0], it] := H28.pick [1, 0, 2, 3] (by kernel_rfl)
              have hB2 := M.ret_some hB2
              have gx2 := hgoy2 _ hB2.symm
              exact Run_again [0, 2, 4, 5, 8] (by kernel_rfl) my2 (Nat.lt_succ_self _) ⟨(x3.2.list, (w64 (s3.2 + 1))), a5, c5, gx2, rfl, H29⟩
        · have hB2 := (M.ite_some hB2).2 hb2
          refine Run_exit (k' := _) rfl ?_
          have H30 : Hold h h4 [own cd22 a3 s3.1.length c3 s3.1, box bo 88 [.slice aomatrix o.matrix.length comatrix, .slice a3 s3.1.length c3], box b1 74 [.int .i64 0, .int .i64 0, .int .i64 0], it] := H4.pick [1, 0, 2, 3] (by kernel_rfl)
          have H31 : Hold h h4 [box bo 88 [.slice aomatrix o.matrix.length comatrix, .slice a3 s3.1.length c3], own cd22 a3 s3.1.length c3 s3.1, box b1 74 [.int .i64 0, .int .i64 0, .int .i64 0], it] := H30.pick [1, 0, 2, 3] (by kernel_rfl)
          have hB2 := M.ret_some hB2
          have gx2 := houty2 _ hB2.symm
          subst gx2
          exact Run_fall [0, 2, 8] (by kernel_rfl) ⟨(s3.1, s3.2), a3, c3, rfl, rfl, H31⟩
    · have gx1 := M.for_end gx1 hb1
      subst gx1
      refine Run_exit (k' := _) rfl ?_
      have H36 : Hold h h2 [own cd22 a1 s1.length c1 s1, box bo 88 [.slice aomatrix o.matrix.length comatrix, .slice a1 s1.length c1], box b1 74 [.int .i64 0, .int .i64 0, .int .i64 0], it] := H2.pick [1, 0, 2, 3] (by kernel_rfl)
      have H37 : Hold h h2 [box bo 88 [.slice aomatrix o.matrix.length comatrix, .slice a1 s1.length c1], own cd22 a1 s1.length c1 s1, box b1 74 [.int .i64 0, .int .i64 0, .int .i64 0], it] := H36.pick [1, 0, 2, 3] (by kernel_rfl)
      exact Run_fall [2] (by kernel_rfl) ⟨s1, a1, c1, rfl, rfl, H37⟩

set_option maxRecDepth 100000 in
set_option maxHeartbeats 4000000 in
theorem w_impl_SteadyState (h : Heap) (a_ : List (List Int)) (aa_ : Option Addr) (ca_ : Nat) (ra_ : Rd cd23 h (Lt h) aa_ ca_ a_) (x_ : List Int) (ax_ : Option Addr) (cx_ : Nat) (rx_ : Rd cd2 h (Lt h) ax_ cx_ x_) (n : Nat) (r : (List Int) × Int) (hF : impl_SteadyState a_ x_ n = some r) :
    Fn Try.prog 31 #[.slice aa_ a_.length ca_, .slice ax_ x_.length cx_] h fun v h' => ∃ (a0 : Option Addr) (c0 : Nat), v = .tuple #[.slice a0 r.1.length c0, .int .i64 r.2] ∧ Hold h h' [own cd2 a0 r.1.length c0 r.1] := by
  unfold impl_SteadyState at hF
  refine Fn_enter (args := [.slice aa_ a_.length ca_, .slice ax_ x_.length cx_]) Try.func31 rfl (by kernel_rfl) (by kernel_rfl) (fun w0 _ => ?_)
  have H0 := Hold.init h
  refine Run_seq ?_
  refine Run_reg 2 (by kernel_rfl) (L' := [(0, .slice aa_ a_.length ca_), (1, .slice ax_ x_.length cx_)]) ?_ ?_
  · refine QRun_b [.slice none 0 0, .int .i64 0] 0 _ (by kernel_rfl) (fun w => by kernel_rfl) ?_
    exact QRun_done [0, 1] (by kernel_rfl) (by kernel_rfl)
  refine Run_seq ?_
  refine Run_seq ?_
  obtain ⟨x1, hx1, hF⟩ := M.bind_some hF
  refine Run_regC (j := 4) (C := fun x => Hold h x []) (by kernel_rfl) H0 (L' := [(0, .slice aa_ a_.length ca_), (1, .slice ax_ x_.length cx_), (6, .int .i64 x1)]) ?_ (fun h1 H1 => ?_)
  · refine QRun_b [.slice aa_ a_.length ca_, .slice ax_ x_.length cx_] 0 _ (by kernel_rfl) (fun w => by kernel_rfl) ?_
    refine QRun_y (.int .i64 x1) (by kernel_rfl) (Y_call (f := 59) (args := #[.slice aa_ a_.length ca_, .slice ax_ x_.length cx_]) (v := .int .i64 x1) (by kernel_rfl) fun hx Hx => (w_impl_checkOrbit hx a_ aa_ ca_ (ra_.at Hx.ext) x_ ax_ cx_ (rx_.at Hx.ext) _ _ hx1).mono fun _ _ ⟨e, H'⟩ => ⟨e, Hx.call H' rfl⟩) ?_
    refine QRun_b [.int .i64 x1] 3 _ (by kernel_rfl) (fun w => by kernel_rfl) ?_
    exact QRun_done [0, 1, 6] (by kernel_rfl) (by kernel_rfl)
  have H2 : Hold h h1 [] := H1
  refine Run_seq ?_
  refine Run_reg 2 (by kernel_rfl) (L' := [(0, .slice aa_ a_.length ca_), (1, .slice ax_ x_.length cx_), (6, .int .i64 x1), (16, .bool (x1 != 0))]) ?_ ?_
  · refine QRun_b [.int .i64 x1, .bool (x1 != 0)] 0 _ (by kernel_rfl) (fun w => by kernel_rfl) ?_
    exact QRun_done [0, 1, 6, 16] (by kernel_rfl) (by kernel_rfl)
  refine Run_cond (b := x1 != 0) (by kernel_rfl) (fun hb1 => ?_) (fun hb1 => ?_)
  · have hF := (M.ite_some hF).1 hb1
    refine Run_seq ?_
    refine Run_reg 3 (by kernel_rfl) (L' := [(4, .slice none 0 0), (5, .int .i64 x1)]) ?_ ?_
    · refine QRun_b [.int .i64 x1, .slice none 0 0, .int .i64 x1] 0 _ (by kernel_rfl) (fun w => by kernel_rfl) ?_
      exact QRun_done [4, 5] (by kernel_rfl) (by kernel_rfl)
    have hF := M.ret_some hF
    subst hF
    have H3 := H2.empty cd2
    exact Run_ret2 rfl (ResV_tmp (v := .slice none 0 0) (by kernel_rfl)) (ResV_tmp (v := .int .i64 x1) (by kernel_rfl)) ⟨none, 0, rfl, H3⟩
  · have hF := (M.ite_some hF).2 hb1
    refine Run_skip ?_
    refine Run_seq ?_
    refine Run_ops ?_
    refine Run_b [.slice aa_ a_.length ca_, .slice ax_ x_.length cx_] 0 _ (by kernel_rfl) (fun w => by kernel_rfl) ?_
    obtain ⟨x2, hx2, hF⟩ := M.bind_some hF
    refine Run_E (by kernel_rfl) ?_
    refine E_call (f := 60) (args := #[.slice aa_ a_.length ca_, .slice ax_ x_.length cx_]) (w_impl_vectorOrbit h1 a_ aa_ ca_ (ra_.at H2.ext) x_ ax_ cx_ (rx_.at H2.ext) _ _ hx2) (by kernel_rfl) (fun v1 h2 hp1 => ?_)
    obtain ⟨b1, a1, c1, a2, c2, rfl, hd1, H4⟩ := hp1
    have H5 : Hold h h2 [box b1 88 [.slice a1 x2.matrix.length c1, .slice a2 x2.list.length c2], own cd22 a2 x2.list.length c2 x2.list] := H2.call H4 rfl
    have r1 := ra_.alias hd1
    refine Run_b [.pointer (some ⟨b1, 0, none⟩)] 3 _ (by kernel_rfl) (fun w => by kernel_rfl) ?_
    refine Run_nil (by kernel_rfl) ?_
    refine Run_keep [7] (L' := [(7, .pointer (some ⟨b1, 0, none⟩))]) (by kernel_rfl) ?_
    refine Run_seq ?_
    refine Run_ops ?_
    refine Run_b [.pointer (some ⟨b1, 0, none⟩)] 0 _ (by kernel_rfl) (fun w => by kernel_rfl) ?_
    obtain ⟨x3, hx3, hF⟩ := M.bind_some hF
    have H6 : Hold h h2 [own cd22 a2 x2.list.length c2 x2.list, box b1 88 [.slice a1 x2.matrix.length c1, .slice a2 x2.list.length c2]] := H5.pick [1, 0] (by kernel_rfl)
    have H7 : Hold h h2 [box b1 88 [.slice a1 x2.matrix.length c1, .slice a2 x2.list.length c2], own cd22 a2 x2.list.length c2 x2.list] := H6.pick [1, 0] (by kernel_rfl)
    have H8 : Hold h h2 [box b1 88 [.slice a1 x2.matrix.length c1, .slice a2 x2.list.length c2], own cd22 a2 x2.list.length c2 x2.list, bun []] := Hold.bundle (S := [box b1 88 [.slice a1 x2.matrix.length c1, .slice a2 x2.list.length c2], own cd22 a2 x2.list.length c2 x2.list]) (R := []) H7
    refine Run_E (by kernel_rfl) ?_
    refine E_call (f := 61) (args := #[.pointer (some ⟨b1, 0, none⟩)]) (w_impl_orbit_firstRepeat_B h h2 _ x2 b1 a1 c1 r1 a2 c2 H8 _ _ hx3) (by kernel_rfl) (fun v2 h3 hp2 => ?_)
    obtain ⟨a3, c3, rfl, H9⟩ := hp2
    have H10 : Hold h h3 [box b1 88 [.slice a1 x2.matrix.length c1, .slice a3 x3.2.2.list.length c3], own cd22 a3 x3.2.2.list.length c3 x3.2.2.list] := Hold.unbundle (S := [box b1 88 [.slice a1 x2.matrix.length c1, .slice a3 x3.2.2.list.length c3], own cd22 a3 x3.2.2.list.length c3 x3.2.2.list]) (R := []) H9 (Hold.tailBase (S := [box b1 88 [.slice a1 x2.matrix.length c1, .slice a2 x2.list.length c2], own cd22 a2 x2.list.length c2 x2.list]) (R := []) H7)
    refine Run_b [.tuple #[.agg #[.int .i64 x3.1.at_, .int .i64 x3.1.period, .int .i64 x3.1.growth], .int .i64 x3.2.1], .agg #[.int .i64 x3.1.at_, .int .i64 x3.1.period, .int .i64 x3.1.growth], .int .i64 x3.2.1] 2 _ (by kernel_rfl) (fun w => by kernel_rfl) ?_
    refine Run_E (by kernel_rfl) ?_
    refine E_box (ty := 74) (cs := [.int .i64 0, .int .i64 0, .int .i64 0]) H10 (fun w => by kernel_rfl) (fun b2 h4 H11 => ?_)
    refine Run_E (by kernel_rfl) ?_
    refine E_bput (t := 74) (off := 0) (us := [.int .i64 x3.1.at_, .int .i64 x3.1.period, .int .i64 x3.1.growth]) (v := .agg #[.int .i64 x3.1.at_, .int .i64 x3.1.period, .int .i64 x3.1.growth]) H11 (by kernel_rfl) (by kernel_rfl) rfl (by kernel_rfl) rfl (fun h5 H12 => ?_)
    refine Run_b [.int .i64 x3.2.1] 7 _ (by kernel_rfl) (fun w => by kernel_rfl) ?_
    refine Run_nil (by kernel_rfl) ?_
    refine Run_keep [7, 8, 9] (L' := [(7, .pointer (some ⟨b1, 0, none⟩)), (8, .pointer (some ⟨b2, 0, none⟩)), (9, .int .i64 x3.2.1)]) (by kernel_rfl) ?_
    refine Run_seq ?_
    refine Run_seq ?_
    refine Run_reg 2 (by kernel_rfl) (L' := [(7, .pointer (some ⟨b1, 0, none⟩)), (8, .pointer (some ⟨b2, 0, none⟩)), (9, .int .i64 x3.2.1), (27, .bool (x3.2.1 != 0))]) ?_ ?_
    · refine QRun_b [.int .i64 x3.2.1, .bool (x3.2.1 != 0)] 0 _ (by kernel_rfl) (fun w => by kernel_rfl) ?_
      exact QRun_done [7, 8, 9, 27] (by kernel_rfl) (by kernel_rfl)
    refine Run_cond (b := x3.2.1 != 0) (by kernel_rfl) (fun hb2 => ?_) (fun hb2 => ?_)
    · have hF := (M.ite_some hF).1 hb2
      refine Run_seq ?_
      refine Run_reg 3 (by kernel_rfl) (L' := [(4, .slice none 0 0), (5, .int .i64 x3.2.1)]) ?_ ?_
      · refine QRun_b [.int .i64 x3.2.1, .slice none 0 0, .int .i64 x3.2.1] 0 _ (by kernel_rfl) (fun w => by kernel_rfl) ?_
        exact QRun_done [4, 5] (by kernel_rfl) (by kernel_rfl)
      have hF := M.ret_some hF
      subst hF
      have H13 := H12.empty cd2
      have H14 : Hold h h5 [own cd2 none 0 0 []] := H13.pick [0] (by kernel_rfl)
      exact Run_ret2 rfl (ResV_tmp (v := .slice none 0 0) (by kernel_rfl)) (ResV_tmp (v := .int .i64 x3.2.1) (by kernel_rfl)) ⟨none, 0, rfl, H14⟩
    · have hF := (M.ite_some hF).2 hb2
      refine Run_skip ?_
      refine Run_seq ?_
      obtain ⟨x4, hx4, hF⟩ := M.bind_some hF
      obtain ⟨hx4l, hx4u, hx4⟩ := M.idx_some hx4
      have H15 : Hold h h5 [own cd22 a3 x3.2.2.list.length c3 x3.2.2.list, box b2 74 [.int .i64 x3.1.at_, .int .i64 x3.1.period, .int .i64 x3.1.growth], box b1 88 [.slice a1 x2.matrix.length c1, .slice a3 x3.2.2.list.length c3]] := H12.pick [2, 0, 1] (by kernel_rfl)
      have H16 := H15.toRows
      obtain ⟨a4, c4, H17⟩ := H16.pinRow hx4
      have H18 : Hold h h5 [box b2 74 [.int .i64 x3.1.at_, .int .i64 x3.1.period, .int .i64 x3.1.growth], box b1 88 [.slice a1 x2.matrix.length c1, .slice a3 x3.2.2.list.length c3], rowsP cd23 22 a3 x3.2.2.list.length c3 x3.2.2.list [(x3.1.at_.toNat, a4, x4.length, c4, x4)]] := H17.pick [1, 2, 0] (by kernel_rfl)
      refine Run_D (fun x => Hold h x [box b2 74 [.int .i64 x3.1.at_, .int .i64 x3.1.period, .int .i64 x3.1.growth], box b1 88 [.slice a1 x2.matrix.length c1, .slice a3 x3.2.2.list.length c3], rowsP cd23 22 a3 x3.2.2.list.length c3 x3.2.2.list [(x3.1.at_.toNat, a4, x4.length, c4, x4)]]) (fun x => Hold h x [box b2 74 [.int .i64 x3.1.at_, .int .i64 x3.1.period, .int .i64 x3.1.growth], box b1 88 [.slice a1 x2.matrix.length c1, .slice a3 x3.2.2.list.length c3], rowsP cd23 22 a3 x3.2.2.list.length c3 x3.2.2.list [(x3.1.at_.toNat, a4, x4.length, c4, x4)]]) mixed (by kernel_rfl) H18 Hold.stable (fun x Hy => (show Hold h x [box b2 74 [.int .i64 x3.1.at_, .int .i64 x3.1.period, .int .i64 x3.1.growth], box b1 88 [.slice a1 x2.matrix.length c1, .slice a3 x3.2.2.list.length c3], rowsP cd23 22 a3 x3.2.2.list.length c3 x3.2.2.list [(x3.1.at_.toNat, a4, x4.length, c4, x4)]] from Hy).pick [0, 1, 2] (by kernel_rfl)) ?_
      refine DR_b 9 [.pointer (some ⟨b1, 0, none⟩), .pointer (some ⟨b1, 0, none⟩), .pointer (some ⟨b1, 1, none⟩)] 0 (by kernel_rfl) (by kernel_rfl) (by kernel_rfl) (fun w => by kernel_rfl) ?_
      refine DR_y 8 (i := 3) (.slice a3 x3.2.2.list.length c3) (by kernel_rfl) (by kernel_rfl) (by kernel_rfl) (fun hx Hx => (YE.of (Y_load1 (t := 86) (p := ⟨b1, 1, none⟩) (v := .slice a3 x3.2.2.list.length c3) (by kernel_rfl) (fun w => by kernel_rfl) (Hx.cell 1 rfl rfl)))) ?_
      refine DR_b 7 [.pointer (some ⟨b2, 0, none⟩)] 4 (by kernel_rfl) (by kernel_rfl) (by kernel_rfl) (fun w => by kernel_rfl) ?_
      refine DR_y 6 (i := 5) (.int .i64 x3.1.at_) (by kernel_rfl) (by kernel_rfl) (by kernel_rfl) (fun hx Hx => (YE.of (Y_load1 (t := 2) (p := ⟨b2, 0, none⟩) (v := .int .i64 x3.1.at_) (by kernel_rfl) (fun w => by kernel_rfl) (Hx.cell 0 rfl rfl)))) ?_
      refine DR_y 5 (i := 6) (.pointer (some (adr a3 (x3.1.at_.toNat * 1)))) (by kernel_rfl) (by kernel_rfl) (by kernel_rfl) (fun hx Hx => (YE.of (Y_idx (t := 86) (e := 22) (sz := 1) (a := a3) (n := x3.2.2.list.length) (cap := c3) (kk := .i64) (i := x3.1.at_) (by kernel_rfl) Try.underlying86 (by kernel_rfl) ((H12.rd 2 rfl).cell hx4).1 hx4l hx4u))) ?_
      refine DR_y 4 (i := 7) (.slice a4 x4.length c4) (by kernel_rfl) (by kernel_rfl) (by kernel_rfl) (fun hx Hx => (YE.of (Y_load1 (t := 22) (p := adr a3 (x3.1.at_.toNat * 1)) (v := .slice a4 x4.length c4) (by kernel_rfl) (fun w => by kernel_rfl) (Hx.cellPin 2 rfl 0 rfl)))) ?_
      refine DR_tail (i := 8) (by kernel_rfl) (by kernel_rfl) (by kernel_rfl) (fun h6 H19 => ?_)
      have H20 : Hold h h6 [box b2 74 [.int .i64 x3.1.at_, .int .i64 x3.1.period, .int .i64 x3.1.growth], box b1 88 [.slice a1 x2.matrix.length c1, .slice a3 x3.2.2.list.length c3], rowsP cd23 22 a3 x3.2.2.list.length c3 x3.2.2.list [(x3.1.at_.toNat, a4, x4.length, c4, x4)]] := H19
      obtain ⟨x5, hx5, hF⟩ := M.bind_some hF
      refine Run_E (by kernel_rfl) ?_
      refine E_call (f := 90) (args := #[.slice a4 x4.length c4]) (w_impl_transposed h6 x4 a4 c4 (H20.rdPin 2 rfl 0 rfl) _ _ hx5) (by kernel_rfl) (fun v3 h7 hp3 => ?_)
      obtain ⟨a5, c5, rfl, H21⟩ := hp3
      have H22 : Hold h h7 [own cd23 a5 x5.length c5 x5, box b2 74 [.int .i64 x3.1.at_, .int .i64 x3.1.period, .int .i64 x3.1.growth], box b1 88 [.slice a1 x2.matrix.length c1, .slice a3 x3.2.2.list.length c3], rowsP cd23 22 a3 x3.2.2.list.length c3 x3.2.2.list [(x3.1.at_.toNat, a4, x4.length, c4, x4)]] := H20.call H21 rfl
      obtain ⟨x6, hx6, hF⟩ := M.bind_some hF
      obtain ⟨hx6l, hx6u, hx6⟩ := M.idx_some hx6
      obtain ⟨a6, c6, hc1, H23⟩ := H22.takeRow hx6
      refine Run_y (.pointer (some (adr a5 (0 * 1)))) (by kernel_rfl) (Y_idx (t := 22) (e := 23) (sz := 1) (a := a5) (n := x5.length) (cap := c5) (kk := .i64) (i := 0) (by kernel_rfl) Try.underlying22 (by kernel_rfl) ((H22.rd 0 rfl).cell hx6).1 hx6l hx6u) ?_
      refine Run_y (.slice a6 x6.length c6) (by kernel_rfl) (Y_load1 (t := 23) (p := adr a5 (0 * 1)) (v := .slice a6 x6.length c6) (by kernel_rfl) (fun w => by kernel_rfl) hc1) ?_
      refine Run_b [.slice a6 x6.length c6] 11 _ (by kernel_rfl) (fun w => by kernel_rfl) ?_
      refine Run_nil (by kernel_rfl) ?_
      refine Run_keep [10] (L' := [(10, .slice a6 x6.length c6)]) (by kernel_rfl) ?_
      refine Run_seq ?_
      refine Run_seq ?_
      obtain ⟨x7, hx7, hF⟩ := M.bind_some hF
      refine Run_reg 3 (by kernel_rfl) (L' := [(10, .slice a6 x6.length c6), (11, .int .i64 x7)]) ?_ ?_
      · refine QRun_b [.slice a6 x6.length c6] 0 _ (by kernel_rfl) (fun w => by kernel_rfl) ?_
        refine QRun_y (.int .i64 x7) (by kernel_rfl) (Y_callq (f := 96) (args := #[.slice a6 x6.length c6]) (v := .int .i64 x7) (by kernel_rfl) (w_impl_sumOf h7 x6 a6 c6 (H23.rd 0 rfl) _ _ hx7)) ?_
        refine QRun_b [.int .i64 x7] 2 _ (by kernel_rfl) (fun w => by kernel_rfl) ?_
        exact QRun_done [10, 11] (by kernel_rfl) (by kernel_rfl)
      refine Run_seq ?_
      refine Run_reg 2 (by kernel_rfl) (L' := [(10, .slice a6 x6.length c6), (11, .int .i64 x7), (43, .bool (x7 != (-1000000000000000)))]) ?_ ?_
      · refine QRun_b [.int .i64 x7, .bool (x7 != (-1000000000000000))] 0 _ (by kernel_rfl) (fun w => by kernel_rfl) ?_
        exact QRun_done [10, 11, 43] (by kernel_rfl) (by kernel_rfl)
      obtain ⟨s1, gs1, hF⟩ := M.bind_some hF
      refine Run_join (fun L' h' => ∃ (a8 : Option Addr), ∃ (c8 : Nat), L' = [(10, .slice a8 s1.length c8)] ∧ Hold h h' [own cd2 a8 s1.length c8 s1]) ?_ ?_
      · rintro _ h9 ⟨a8, c8, rfl, H26⟩
        refine Run_seq ?_
        refine Run_ops ?_
        refine Run_b [.slice a8 s1.length c8] 0 _ (by kernel_rfl) (fun w => by kernel_rfl) ?_
        obtain ⟨x9, hx9, hF⟩ := M.bind_some hF
        refine Run_E (by kernel_rfl) ?_
        refine E_call (f := 93) (args := #[.slice a8 s1.length c8]) (w_impl_checkedVector h9 s1 a8 c8 (H26.rd 0 rfl) _ _ hx9) (by kernel_rfl) (fun v5 h10 hp5 => ?_)
        obtain ⟨a9, c9, rfl, hd2, H29⟩ := hp5
        have H30 : Hold h h10 [own cd2 a8 s1.length c8 s1] := H26.call H29 rfl
        have H31 := H30.alias hd2
        refine Run_b [.slice a9 x9.1.length c9, .int .i64 x9.2, .slice a9 x9.1.length c9, .int .i64 x9.2] 2 _ (by kernel_rfl) (fun w => by kernel_rfl) ?_
        refine Run_nil (by kernel_rfl) ?_
        refine Run_keep [4, 5] (L' := [(4, .slice a9 x9.1.length c9), (5, .int .i64 x9.2)]) (by kernel_rfl) ?_
        have hF := M.ret_some hF
        subst hF
        exact Run_ret2 rfl (ResV_tmp (v := .slice a9 x9.1.length c9) (by kernel_rfl)) (ResV_tmp (v := .int .i64 x9.2) (by kernel_rfl)) ⟨a9, c9, rfl, H31⟩
      · refine Run_cond (b := x7 != (-1000000000000000)) (by kernel_rfl) (fun hb3 => ?_) (fun hb3 => ?_)
        · have gs1 := (M.ite_some gs1).1 hb3
          refine Run_ops ?_
          refine Run_b [.slice a6 x6.length c6, .int .i64 x7, .int .i64 (w64 (0 - x7))] 0 _ (by kernel_rfl) (fun w => by kernel_rfl) ?_
          obtain ⟨x8, hx8, gs1⟩ := M.bind_some gs1
          refine Run_E (by kernel_rfl) ?_
          refine E_call (f := 94) (args := #[.slice a6 x6.length c6, .int .i64 (w64 (0 - x7))]) (w_impl_shiftedVector h7 x6 a6 c6 (H23.rd 0 rfl) (w64 (0 - x7)) _ _ hx8) (by kernel_rfl) (fun v4 h8 hp4 => ?_)
          obtain ⟨a7, c7, rfl, H24⟩ := hp4
          have H25 : Hold h h8 [own cd2 a7 x8.length c7 x8, own cd2 a6 x6.length c6 x6, rest cd2 23 a5 x5.length c5 x5 0 a6 x6.length c6, box b2 74 [.int .i64 x3.1.at_, .int .i64 x3.1.period, .int .i64 x3.1.growth], box b1 88 [.slice a1 x2.matrix.length c1, .slice a3 x3.2.2.list.length c3], rowsP cd23 22 a3 x3.2.2.list.length c3 x3.2.2.list [(x3.1.at_.toNat, a4, x4.length, c4, x4)]] := H23.call H24 rfl
          refine Run_b [.slice a7 x8.length c7] 4 _ (by kernel_rfl) (fun w => by kernel_rfl) ?_
          refine Run_nil (by kernel_rfl) ?_
          refine Run_keep [10] (L' := [(10, .slice a7 x8.length c7)]) (by kernel_rfl) ?_
          have H27 : Hold h h8 [own cd2 a7 x8.length c7 x8] := H25.pick [0] (by kernel_rfl)
          have gs1 := M.ret_some gs1
          subst gs1
          exact Run_fall [10] (by kernel_rfl) ⟨a7, c7, rfl, H27⟩
        · have gs1 := (M.ite_some gs1).2 hb3
          refine Run_skip ?_
          have H28 : Hold h h7 [own cd2 a6 x6.length c6 x6] := H23.pick [0] (by kernel_rfl)
          have gs1 := M.ret_some gs1
          subst gs1
          exact Run_fall [10] (by kernel_rfl) ⟨a6, c6, rfl, H28⟩

set_option maxRecDepth 100000 in
set_option maxHeartbeats 4000000 in
theorem w_spec_l07Shift (h : Heap) (x_ : List Int) (ax_ : Option Addr) (cx_ : Nat) (rx_ : Rd cd2 h (Lt h) ax_ cx_ x_) (g : Int) (n : Nat) (r : (List Int)) (hF : spec_l07Shift x_ g n = some r) :
    Fn Try.prog 98 #[.slice ax_ x_.length cx_, .int .i64 g] h fun v h' => ∃ (a0 : Option Addr) (c0 : Nat), v = .slice a0 r.length c0 ∧ Hold h h' [own cd2 a0 r.length c0 r] := by
  unfold spec_l07Shift at hF
  refine Fn_enter (args := [.slice ax_ x_.length cx_, .int .i64 g]) Try.func98 rfl (by kernel_rfl) (by kernel_rfl) (fun w0 _ => ?_)
  have H0 := Hold.init h
  refine Run_seq ?_
  refine Run_reg 1 (by kernel_rfl) (L' := [(0, .slice ax_ x_.length cx_), (1, .int .i64 g)]) ?_ ?_
  · refine QRun_b [.slice none 0 0] 0 _ (by kernel_rfl) (fun w => by kernel_rfl) ?_
    exact QRun_done [0, 1] (by kernel_rfl) (by kernel_rfl)
  refine Run_seq ?_
  refine Run_ops ?_
  refine Run_E (by kernel_rfl) ?_
  refine E_lit (C := cd2) (n := 0) (l := ([] : List Int)) (cs := []) H0 (fun w => by kernel_rfl) (Enc.nil _ _) rfl (by decide) (fun a1 h1 H1 => ?_)
  refine Run_b [.slice a1 0 0] 1 _ (by kernel_rfl) (fun w => by kernel_rfl) ?_
  refine Run_nil (by kernel_rfl) ?_
  refine Run_keep [0, 1, 5] (L' := [(0, .slice ax_ x_.length cx_), (1, .int .i64 g), (5, .slice a1 0 0)]) (by kernel_rfl) ?_
  refine Run_seq ?_
  refine Run_seq ?_
  refine Run_reg 1 (by kernel_rfl) (L' := [(0, .slice ax_ x_.length cx_), (1, .int .i64 g), (5, .slice a1 0 0), (6, .int .i64 0)]) ?_ ?_
  · refine QRun_b [.int .i64 0] 0 _ (by kernel_rfl) (fun w => by kernel_rfl) ?_
    exact QRun_done [0, 1, 5, 6] (by kernel_rfl) (by kernel_rfl)
  obtain ⟨x1, gx1, hF⟩ := M.bind_some hF
  obtain ⟨hloy1, hhiy1, gx1⟩ := M.for_start gx1
  refine Run_join (fun L' h' => ∃ (a3 : Option Addr) (c2 : Nat), L' = [(5, .slice a3 x1.length c2)] ∧ Hold h h' [own cd2 a3 x1.length c2 x1]) ?_ ?_
  · rintro _ h3 ⟨a3, c2, rfl, H3⟩
    refine Run_seq ?_
    refine Run_reg 2 (by kernel_rfl) (L' := [(4, .slice a3 x1.length c2)]) ?_ ?_
    · refine QRun_b [.slice a3 x1.length c2, .slice a3 x1.length c2] 0 _ (by kernel_rfl) (fun w => by kernel_rfl) ?_
      exact QRun_done [4] (by kernel_rfl) (by kernel_rfl)
    have hF := M.ret_some hF
    subst hF
    exact Run_ret1 rfl (ResV_tmp (v := .slice a3 x1.length c2) (by kernel_rfl)) ⟨a3, c2, rfl, H3⟩
  · refine Run_block ?_
    have hn1 := (H1.len 0 rfl)
    have H9 : Hold h h1 [own cd2 a1 (([] : List Int).length) 0 ([] : List Int)] := by rw [hn1]; exact H1
    refine Run_keep [0, 1, 5, 6] (L' := [(0, .slice ax_ x_.length cx_), (1, .int .i64 g), (5, .slice a1 (([] : List Int).length) 0), (6, .int .i64 0)]) (by rw [hn1]; kernel_rfl) ?_
    refine Run_loop (fun m L' h' => ∃ (i1 : Int) (s1 : (List Int)) (a2 : Option Addr) (c1 : Nat), 0 ≤ i1 ∧ M.forN (x_.length : Int) _ _ n m i1 s1 = some x1 ∧ L' = [(0, .slice ax_ x_.length cx_), (1, .int .i64 g), (5, .slice a2 s1.length c1), (6, .int .i64 i1)] ∧ Hold h h' [own cd2 a2 s1.length c1 s1]) ((x_.length : Int) - 0 : Int).toNat ⟨0, ([] : List Int), a1, 0, Int.le_refl _, gx1, rfl, H9⟩ ?_
    rintro my1 _ h2 ⟨i1, s1, a2, c1, hloy1', gx1, rfl, H2⟩
    refine Run_seq ?_
    refine Run_seq ?_
    refine Run_reg 4 (by kernel_rfl) (L' := [(0, .slice ax_ x_.length cx_), (1, .int .i64 g), (5, .slice a2 s1.length c1), (6, .int .i64 i1), (11, .bool (decide (i1 < (x_.length : Int))))]) ?_ ?_
    · refine QRun_b [.int .i64 i1, .slice ax_ x_.length cx_, .int .i64 (x_.length : Int), .bool (decide (i1 < (x_.length : Int)))] 0 _ (by kernel_rfl) (fun w => by kernel_rfl) ?_
      exact QRun_done [0, 1, 5, 6, 11] (by kernel_rfl) (by kernel_rfl)
    refine Run_cond (b := decide (i1 < (x_.length : Int))) (by kernel_rfl) (fun hb1 => ?_) (fun hb1 => ?_)
    · obtain ⟨my1, y1, rfl, hB1, hgoy1, houty1⟩ := M.for_go gx1 hb1
      have hlty1 := of_decide_eq_true hb1
      refine Run_skip ?_
      refine Run_seq ?_
      refine Run_block ?_
      refine Run_ops ?_
      obtain ⟨x2, hx1, hB1⟩ := M.bind_some hB1
      obtain ⟨hx1l, hx1u, hx1⟩ := M.idx_some hx1
      obtain ⟨x3, hx2, hB1⟩ := M.bind_some hB1
      refine Run_b [.slice a2 s1.length c1, .slice ax_ x_.length cx_, .int .i64 i1] 0 _ (by kernel_rfl) (fun w => by kernel_rfl) ?_
      refine Run_y (.pointer (some (adr ax_ (i1.toNat * 1)))) (by kernel_rfl) (Y_idx (t := 23) (e := 2) (sz := 1) (a := ax_) (n := x_.length) (cap := cx_) (kk := .i64) (i := i1) (by kernel_rfl) Try.underlying23 (by kernel_rfl) ((rx_.at H2.ext).cell hx1).1 hx1l hx1u) ?_
      refine Run_y (.int .i64 x2) (by kernel_rfl) (Y_load1 (t := 2) (p := adr ax_ (i1.toNat * 1)) (v := .int .i64 x2) (by kernel_rfl) (fun w => by kernel_rfl) (cd2_cell (rx_.at H2.ext) hx1)) ?_
      refine Run_b [.int .i64 g] 5 _ (by kernel_rfl) (fun w => by kernel_rfl) ?_
      refine Run_y (.int .i64 x3) (by kernel_rfl) (Y_callq (f := 81) (args := #[.int .i64 x2, .int .i64 g]) (v := .int .i64 x3) (by kernel_rfl) (w_spec_l01Times h2 x2 g _ _ hx2)) ?_
      refine Run_E (by kernel_rfl) ?_
      refine E_lit (C := cd2) (n := 1) (l := ([x3] : List Int)) (cs := [.int .i64 x3]) H2 (fun w => by kernel_rfl) (Enc.consE (cd2_own x3 _) (Enc.nil _ _) rfl) rfl (by decide) (fun a4 h4 H4 => ?_)
      obtain ⟨l1, hl1, hB1⟩ := M.bind_some hB1
      have hl1 := M.app_some hl1
      have H5 : Hold h h4 [own cd2 a2 s1.length c1 s1, own cd2 a4 1 1 ([x3] : List Int)] := H4.pick [1, 0] (by kernel_rfl)
      have H6 : Hold h h4 [own cd2 a4 1 1 ([x3] : List Int), own cd2 a2 s1.length c1 s1] := H5.pick [1, 0] (by kernel_rfl)
      have H7 : Hold h h4 [own cd2 a2 s1.length c1 s1, own cd2 a4 1 1 ([x3] : List Int)] := H6.pick [1, 0] (by kernel_rfl)
      refine Run_E (by kernel_rfl) ?_
      refine E_app (C := cd2) (t := 23) (ty := 23) (n := s1.length) (m := 1) H7 cd2_ti rfl Try.underlying23 (by decide) (by kernel_rfl) hl1 (fun a5 c3 h5 H8 => ?_)
      refine Run_b [.slice a5 l1.length c3] 9 _ (by kernel_rfl) (fun w => by kernel_rfl) ?_
      refine Run_nil (by kernel_rfl) ?_
      refine Run_keep [0, 1, 5, 6] (L' := [(0, .slice ax_ x_.length cx_), (1, .int .i64 g), (5, .slice a5 l1.length c3), (6, .int .i64 i1)]) (by kernel_rfl) ?_
      refine Run_blk ?_
      refine Run_reg 3 (by kernel_rfl) (L' := [(0, .slice ax_ x_.length cx_), (1, .int .i64 g), (5, .slice a5 l1.length c3), (6, .int .i64 (i1 + 1))]) ?_ ?_
      · refine QRun_b [.int .i64 i1] 0 _ (by kernel_rfl) (fun w => by kernel_rfl) ?_
        refine QRun_y (.int .i64 (i1 + 1)) (by kernel_rfl) (Y_eq (v := .int .i64 (w64 (i1 + 1))) (Y_pure (fun w => by kernel_rfl)) (by rw [w64_eq _ (by omega)])) ?_
        refine QRun_b [.int .i64 (i1 + 1)] 2 _ (by kernel_rfl) (fun w => by kernel_rfl) ?_
        exact QRun_done [0, 1, 5, 6] (by kernel_rfl) (by kernel_rfl)
      have hB1 := M.ret_some hB1
      have gx1 := hgoy1 _ hB1.symm
      exact Run_again [0, 1, 5, 6] (by kernel_rfl) my1 (Nat.lt_succ_self _) ⟨i1 + 1, l1, a5, c3, by omega, gx1, rfl, H8⟩
    · have gx1 := M.for_end gx1 hb1
      subst gx1
      refine Run_exit (k' := _) rfl ?_
      exact Run_fall [5] (by kernel_rfl) ⟨a2, c1, rfl, H2⟩

set_option maxRecDepth 100000 in
set_option maxHeartbeats 4000000 in
theorem w_spec_l01Same (h : Heap) (a_ : List Int) {Sa_ : Bs} (aa_ : Option Addr) (ca_ : Nat) (ra_ : Rd cd2 h Sa_ aa_ ca_ a_) (b : List Int) {Sb : Bs} (ab : Option Addr) (cb : Nat) (rb : Rd cd2 h Sb ab cb b) (n : Nat) (r : Bool) (hF : spec_l01Same a_ b n = some r) :
    Fn Try.prog 106 #[.slice aa_ a_.length ca_, .slice ab b.length cb] h fun v h' => v = .bool r ∧ h' = h := by
  unfold spec_l01Same at hF
  refine Fn_enter (args := [.slice aa_ a_.length ca_, .slice ab b.length cb]) Try.func106 rfl (by kernel_rfl) (by kernel_rfl) (fun w0 _ => ?_)
  refine Run_seq ?_
  refine Run_reg 1 (by kernel_rfl) (L' := [(0, .slice aa_ a_.length ca_), (1, .slice ab b.length cb)]) ?_ ?_
  · refine QRun_b [.bool false] 0 _ (by kernel_rfl) (fun w => by kernel_rfl) ?_
    exact QRun_done [0, 1] (by kernel_rfl) (by kernel_rfl)
  refine Run_seq ?_
  refine Run_seq ?_
  refine Run_reg 5 (by kernel_rfl) (L' := [(0, .slice aa_ a_.length ca_), (1, .slice ab b.length cb), (10, .bool ((a_.length : Int) != (b.length : Int)))]) ?_ ?_
  · refine QRun_b [.slice aa_ a_.length ca_, .int .i64 (a_.length : Int), .slice ab b.length cb, .int .i64 (b.length : Int), .bool ((a_.length : Int) != (b.length : Int))] 0 _ (by kernel_rfl) (fun w => by kernel_rfl) ?_
    exact QRun_done [0, 1, 10] (by kernel_rfl) (by kernel_rfl)
  refine Run_cond (b := (a_.length : Int) != (b.length : Int)) (by kernel_rfl) (fun hb1 => ?_) (fun hb1 => ?_)
  · have hF := (M.ite_some hF).1 hb1
    refine Run_seq ?_
    refine Run_reg 1 (by kernel_rfl) (L' := [(4, .bool false)]) ?_ ?_
    · refine QRun_b [.bool false] 0 _ (by kernel_rfl) (fun w => by kernel_rfl) ?_
      exact QRun_done [4] (by kernel_rfl) (by kernel_rfl)
    have hF := M.ret_some hF
    subst hF
    exact Run_ret1 rfl (ResV_tmp (v := .bool false) (by kernel_rfl)) ⟨rfl, rfl⟩
  · have hF := (M.ite_some hF).2 hb1
    refine Run_skip ?_
    refine Run_seq ?_
    refine Run_seq ?_
    refine Run_reg 1 (by kernel_rfl) (L' := [(0, .slice aa_ a_.length ca_), (1, .slice ab b.length cb), (5, .int .i64 0)]) ?_ ?_
    · refine QRun_b [.int .i64 0] 0 _ (by kernel_rfl) (fun w => by kernel_rfl) ?_
      exact QRun_done [0, 1, 5] (by kernel_rfl) (by kernel_rfl)
    obtain ⟨x1, gx1, hF⟩ := M.bind_some hF
    obtain ⟨hloy1, hhiy1, gx1⟩ := M.for_start gx1
    refine Run_join (fun L' h' => ∃ (s2 : Unit), x1 = .inl s2 ∧ L' = [] ∧ h = h') ?_ ?_
    · rintro _ _ ⟨s2, es2, rfl, rfl⟩
      have hF := M.cont_inl' hF es2
      refine Run_seq ?_
      refine Run_reg 1 (by kernel_rfl) (L' := [(4, .bool true)]) ?_ ?_
      · refine QRun_b [.bool true] 0 _ (by kernel_rfl) (fun w => by kernel_rfl) ?_
        exact QRun_done [4] (by kernel_rfl) (by kernel_rfl)
      have hF := M.ret_some hF
      subst hF
      exact Run_ret1 rfl (ResV_tmp (v := .bool true) (by kernel_rfl)) ⟨rfl, rfl⟩
    · refine Run_block ?_
      refine Run_keep [0, 1, 5] (L' := [(0, .slice aa_ a_.length ca_), (1, .slice ab b.length cb), (5, .int .i64 0)]) (by kernel_rfl) ?_
      refine Run_loop (fun m L' h' => ∃ (i1 : Int) (s1 : Unit), 0 ≤ i1 ∧ M.forN (a_.length : Int) _ _ n m i1 s1 = some x1 ∧ L' = [(0, .slice aa_ a_.length ca_), (1, .slice ab b.length cb), (5, .int .i64 i1)] ∧ h = h') ((a_.length : Int) - 0 : Int).toNat ⟨0, (), Int.le_refl _, gx1, rfl, rfl⟩ ?_
      rintro my1 _ _ ⟨i1, s1, hloy1', gx1, rfl, rfl⟩
      refine Run_seq ?_
      refine Run_seq ?_
      refine Run_reg 4 (by kernel_rfl) (L' := [(0, .slice aa_ a_.length ca_), (1, .slice ab b.length cb), (5, .int .i64 i1), (14, .bool (decide (i1 < (a_.length : Int))))]) ?_ ?_
      · refine QRun_b [.int .i64 i1, .slice aa_ a_.length ca_, .int .i64 (a_.length : Int), .bool (decide (i1 < (a_.length : Int)))] 0 _ (by kernel_rfl) (fun w => by kernel_rfl) ?_
        exact QRun_done [0, 1, 5, 14] (by kernel_rfl) (by kernel_rfl)
      refine Run_cond (b := decide (i1 < (a_.length : Int))) (by kernel_rfl) (fun hb2 => ?_) (fun hb2 => ?_)
      · obtain ⟨my1, y1, rfl, hB1, hgoy1, houty1⟩ := M.for_go gx1 hb2
        have hlty1 := of_decide_eq_true hb2
        refine Run_skip ?_
        refine Run_seq ?_
        refine Run_block ?_
        refine Run_seq ?_
        obtain ⟨x2, hx1, hB1⟩ := M.bind_some hB1
        obtain ⟨hx1l, hx1u, hx1⟩ := M.idx_some hx1
        obtain ⟨x3, hx2, hB1⟩ := M.bind_some hB1
        obtain ⟨hx2l, hx2u, hx2⟩ := M.idx_some hx2
        refine Run_draw 9 mixed (by kernel_rfl) (by kernel_rfl) (L' := [(0, .slice aa_ a_.length ca_), (1, .slice ab b.length cb), (5, .int .i64 i1), (25, .bool (x2 != x3))]) ?_ ?_
        · refine QRun_b [.slice aa_ a_.length ca_, .int .i64 i1] 0 _ (by kernel_rfl) (fun w => by kernel_rfl) ?_
          refine QRun_y (.pointer (some (adr aa_ (i1.toNat * 1)))) (by kernel_rfl) (Y_idx (t := 23) (e := 2) (sz := 1) (a := aa_) (n := a_.length) (cap := ca_) (kk := .i64) (i := i1) (by kernel_rfl) Try.underlying23 (by kernel_rfl) (ra_.cell hx1).1 hx1l hx1u) ?_
          refine QRun_y (.int .i64 x2) (by kernel_rfl) (Y_load1 (t := 2) (p := adr aa_ (i1.toNat * 1)) (v := .int .i64 x2) (by kernel_rfl) (fun w => by kernel_rfl) (cd2_cell ra_ hx1)) ?_
          refine QRun_b [.slice ab b.length cb, .int .i64 i1] 4 _ (by kernel_rfl) (fun w => by kernel_rfl) ?_
          refine QRun_y (.pointer (some (adr ab (i1.toNat * 1)))) (by kernel_rfl) (Y_idx (t := 23) (e := 2) (sz := 1) (a := ab) (n := b.length) (cap := cb) (kk := .i64) (i := i1) (by kernel_rfl) Try.underlying23 (by kernel_rfl) (rb.cell hx2).1 hx2l hx2u) ?_
          refine QRun_y (.int .i64 x3) (by kernel_rfl) (Y_load1 (t := 2) (p := adr ab (i1.toNat * 1)) (v := .int .i64 x3) (by kernel_rfl) (fun w => by kernel_rfl) (cd2_cell rb hx2)) ?_
          refine QRun_b [.bool (x2 != x3)] 8 _ (by kernel_rfl) (fun w => by kernel_rfl) ?_
          exact QRun_done [0, 1, 5, 25] (by kernel_rfl) (by kernel_rfl)
        refine Run_cond (b := x2 != x3) (by kernel_rfl) (fun hb3 => ?_) (fun hb3 => ?_)
        · have hB1 := (M.ite_some hB1).1 hb3
          refine Run_seq ?_
          refine Run_reg 1 (by kernel_rfl) (L' := [(4, .bool false)]) ?_ ?_
          · refine QRun_b [.bool false] 0 _ (by kernel_rfl) (fun w => by kernel_rfl) ?_
            exact QRun_done [4] (by kernel_rfl) (by kernel_rfl)
          have hB1 := M.ret_some hB1
          have gx1 := houty1 _ hB1.symm
          have hF := M.cont_inr' hF gx1
          have hF := M.ret_some hF
          subst hF
          exact Run_ret1 rfl (ResV_tmp (v := .bool false) (by kernel_rfl)) ⟨rfl, rfl⟩
        · have hB1 := (M.ite_some hB1).2 hb3
          refine Run_skip ?_
          refine Run_blk ?_
          refine Run_reg 3 (by kernel_rfl) (L' := [(0, .slice aa_ a_.length ca_), (1, .slice ab b.length cb), (5, .int .i64 (i1 + 1))]) ?_ ?_
          · refine QRun_b [.int .i64 i1] 0 _ (by kernel_rfl) (fun w => by kernel_rfl) ?_
            refine QRun_y (.int .i64 (i1 + 1)) (by kernel_rfl) (Y_eq (v := .int .i64 (w64 (i1 + 1))) (Y_pure (fun w => by kernel_rfl)) (by rw [w64_eq _ (by omega)])) ?_
            refine QRun_b [.int .i64 (i1 + 1)] 2 _ (by kernel_rfl) (fun w => by kernel_rfl) ?_
            exact QRun_done [0, 1, 5] (by kernel_rfl) (by kernel_rfl)
          have hB1 := M.ret_some hB1
          have gx1 := hgoy1 _ hB1.symm
          exact Run_again [0, 1, 5] (by kernel_rfl) my1 (Nat.lt_succ_self _) ⟨i1 + 1, (), by omega, gx1, rfl, rfl⟩
      · have gx1 := M.for_end gx1 hb2
        subst gx1
        refine Run_exit (k' := _) rfl ?_
        exact Run_fall [] (by kernel_rfl) ⟨(), rfl, rfl, rfl⟩

set_option maxRecDepth 100000 in
set_option maxHeartbeats 4000000 in
theorem w_spec_l07Gap (h : Heap) (x_ : List Int) (ax_ : Option Addr) (cx_ : Nat) (rx_ : Rd cd2 h (Lt h) ax_ cx_ x_) (y_ : List Int) (ay_ : Option Addr) (cy_ : Nat) (ry_ : Rd cd2 h (Lt h) ay_ cy_ y_) (n : Nat) (r : Int × Bool) (hF : spec_l07Gap x_ y_ n = some r) :
    Fn Try.prog 133 #[.slice ax_ x_.length cx_, .slice ay_ y_.length cy_] h fun v h' => v = .tuple #[.int .i64 r.1, .bool r.2] ∧ Hold h h' [] := by
  unfold spec_l07Gap at hF
  refine Fn_enter (args := [.slice ax_ x_.length cx_, .slice ay_ y_.length cy_]) Try.func133 rfl (by kernel_rfl) (by kernel_rfl) (fun w0 _ => ?_)
  have H0 := Hold.init h
  refine Run_seq ?_
  refine Run_reg 2 (by kernel_rfl) (L' := [(0, .slice ax_ x_.length cx_), (1, .slice ay_ y_.length cy_)]) ?_ ?_
  · refine QRun_b [.int .i64 0, .bool false] 0 _ (by kernel_rfl) (fun w => by kernel_rfl) ?_
    exact QRun_done [0, 1] (by kernel_rfl) (by kernel_rfl)
  refine Run_seq ?_
  refine Run_reg 1 (by kernel_rfl) (L' := [(0, .slice ax_ x_.length cx_), (1, .slice ay_ y_.length cy_), (6, .int .i64 0)]) ?_ ?_
  · refine QRun_b [.int .i64 0] 0 _ (by kernel_rfl) (fun w => by kernel_rfl) ?_
    exact QRun_done [0, 1, 6] (by kernel_rfl) (by kernel_rfl)
  refine Run_seq ?_
  refine Run_seq ?_
  refine Run_reg 1 (by kernel_rfl) (L' := [(0, .slice ax_ x_.length cx_), (1, .slice ay_ y_.length cy_), (6, .int .i64 0), (7, .int .i64 0)]) ?_ ?_
  · refine QRun_b [.int .i64 0] 0 _ (by kernel_rfl) (fun w => by kernel_rfl) ?_
    exact QRun_done [0, 1, 6, 7] (by kernel_rfl) (by kernel_rfl)
  obtain ⟨x1, gx1, hF⟩ := M.bind_some hF
  obtain ⟨hloy1, hhiy1, gx1⟩ := M.for_start gx1
  refine Run_join (fun L' h' => L' = [(0, .slice ax_ x_.length cx_), (1, .slice ay_ y_.length cy_), (6, .int .i64 x1)] ∧ Hold h h' []) ?_ ?_
  · rintro _ h2 ⟨rfl, H2⟩
    refine Run_seq ?_
    refine Run_ops ?_
    refine Run_b [.int .i64 x1, .slice ax_ x_.length cx_, .int .i64 x1] 0 _ (by kernel_rfl) (fun w => by kernel_rfl) ?_
    obtain ⟨x7, hx5, hF⟩ := M.bind_some hF
    refine Run_E (by kernel_rfl) ?_
    refine E_call (f := 98) (args := #[.slice ax_ x_.length cx_, .int .i64 x1]) (w_spec_l07Shift h2 x_ ax_ cx_ (rx_.at H2.ext) x1 _ _ hx5) (by kernel_rfl) (fun v1 h3 hp1 => ?_)
    obtain ⟨a1, c1, rfl, H3⟩ := hp1
    have H4 : Hold h h3 [own cd2 a1 x7.length c1 x7] := H2.call H3 rfl
    obtain ⟨x8, hx6, hF⟩ := M.bind_some hF
    refine Run_b [.slice ay_ y_.length cy_] 4 _ (by kernel_rfl) (fun w => by kernel_rfl) ?_
    refine Run_y (.bool x8) (by kernel_rfl) (Y_callq (f := 106) (args := #[.slice a1 x7.length c1, .slice ay_ y_.length cy_]) (v := .bool x8) (by kernel_rfl) (w_spec_l01Same h3 x7 a1 c1 (H4.rd 0 rfl) y_ ay_ cy_ (ry_.at H4.ext) _ _ hx6)) ?_
    refine Run_b [.int .i64 x1, .bool x8] 6 _ (by kernel_rfl) (fun w => by kernel_rfl) ?_
    refine Run_nil (by kernel_rfl) ?_
    refine Run_keep [4, 5] (L' := [(4, .int .i64 x1), (5, .bool x8)]) (by kernel_rfl) ?_
    have hF := M.ret_some hF
    subst hF
    have H5 : Hold h h3 [] := H4.pick [] (by kernel_rfl)
    exact Run_ret2 rfl (ResV_tmp (v := .int .i64 x1) (by kernel_rfl)) (ResV_tmp (v := .bool x8) (by kernel_rfl)) ⟨rfl, H5⟩
  · refine Run_block ?_
    refine Run_keep [0, 1, 6, 7] (L' := [(0, .slice ax_ x_.length cx_), (1, .slice ay_ y_.length cy_), (6, .int .i64 0), (7, .int .i64 0)]) (by kernel_rfl) ?_
    refine Run_loop (fun m L' h' => ∃ (i1 : Int) (s1 : Int), 0 ≤ i1 ∧ M.forN (x_.length : Int) _ _ n m i1 s1 = some x1 ∧ L' = [(0, .slice ax_ x_.length cx_), (1, .slice ay_ y_.length cy_), (6, .int .i64 s1), (7, .int .i64 i1)] ∧ Hold h h' []) ((x_.length : Int) - 0 : Int).toNat ⟨0, 0, Int.le_refl _, gx1, rfl, H0⟩ ?_
    rintro my1 _ h1 ⟨i1, s1, hloy1', gx1, rfl, H1⟩
    refine Run_seq ?_
    refine Run_seq ?_
    refine Run_reg 4 (by kernel_rfl) (L' := [(0, .slice ax_ x_.length cx_), (1, .slice ay_ y_.length cy_), (6, .int .i64 s1), (7, .int .i64 i1), (11, .bool (decide (i1 < (x_.length : Int))))]) ?_ ?_
    · refine QRun_b [.int .i64 i1, .slice ax_ x_.length cx_, .int .i64 (x_.length : Int), .bool (decide (i1 < (x_.length : Int)))] 0 _ (by kernel_rfl) (fun w => by kernel_rfl) ?_
      exact QRun_done [0, 1, 6, 7, 11] (by kernel_rfl) (by kernel_rfl)
    refine Run_cond (b := decide (i1 < (x_.length : Int))) (by kernel_rfl) (fun hb1 => ?_) (fun hb1 => ?_)
    · obtain ⟨my1, y1, rfl, hB1, hgoy1, houty1⟩ := M.for_go gx1 hb1
      have hlty1 := of_decide_eq_true hb1
      refine Run_skip ?_
      refine Run_seq ?_
      refine Run_block ?_
      refine Run_seq ?_
      obtain ⟨x2, hx1, hB1⟩ := M.bind_some hB1
      obtain ⟨hx1l, hx1u, hx1⟩ := M.idx_some hx1
      obtain ⟨x3, gx3, hB1⟩ := M.bind_some hB1
      refine Run_reg 12 (by kernel_rfl) (L' := [(0, .slice ax_ x_.length cx_), (1, .slice ay_ y_.length cy_), (6, .int .i64 s1), (7, .int .i64 i1), (25, .bool x3)]) ?_ ?_
      · refine QRun_b [.slice ax_ x_.length cx_, .int .i64 i1] 0 _ (by kernel_rfl) (fun w => by kernel_rfl) ?_
        refine QRun_y (.pointer (some (adr ax_ (i1.toNat * 1)))) (by kernel_rfl) (Y_idx (t := 23) (e := 2) (sz := 1) (a := ax_) (n := x_.length) (cap := cx_) (kk := .i64) (i := i1) (by kernel_rfl) Try.underlying23 (by kernel_rfl) ((rx_.at H1.ext).cell hx1).1 hx1l hx1u) ?_
        refine QRun_y (.int .i64 x2) (by kernel_rfl) (Y_load1 (t := 2) (p := adr ax_ (i1.toNat * 1)) (v := .int .i64 x2) (by kernel_rfl) (fun w => by kernel_rfl) (cd2_cell (rx_.at H1.ext) hx1)) ?_
        refine QRun_b [.bool (x2 != (-1000000000000000))] 4 _ (by kernel_rfl) (fun w => by kernel_rfl) ?_
        refine QRun_seq 12 [(0, .slice ax_ x_.length cx_), (1, .slice ay_ y_.length cy_), (6, .int .i64 s1), (7, .int .i64 i1), (25, .bool x3)] ?_ ?_
        · rcases Bool.eq_false_or_eq_true (x2 != (-1000000000000000)) with hb2 | hb2
          · refine QRun_bool (x2 != (-1000000000000000)) true (by kernel_rfl) (fun w => by kernel_rfl) hb2 ?_
            have gx3 := (M.ite_some gx3).1 hb2
            obtain ⟨x4, hx2, gx3⟩ := M.bind_some gx3
            obtain ⟨hx2l, hx2u, hx2⟩ := M.idx_some hx2
            have gx3 := M.ret_some gx3
            refine QRun_b [.slice ay_ y_.length cy_, .int .i64 i1] 6 _ (by kernel_rfl) (fun w => by kernel_rfl) ?_
            refine QRun_y (.pointer (some (adr ay_ (i1.toNat * 1)))) (by kernel_rfl) (Y_idx (t := 23) (e := 2) (sz := 1) (a := ay_) (n := y_.length) (cap := cy_) (kk := .i64) (i := i1) (by kernel_rfl) Try.underlying23 (by kernel_rfl) ((ry_.at H1.ext).cell hx2).1 hx2l hx2u) ?_
            refine QRun_y (.int .i64 x4) (by kernel_rfl) (Y_load1 (t := 2) (p := adr ay_ (i1.toNat * 1)) (v := .int .i64 x4) (by kernel_rfl) (fun w => by kernel_rfl) (cd2_cell (ry_.at H1.ext) hx2)) ?_
            refine QRun_b [.bool (x4 != (-1000000000000000))] 10 _ (by kernel_rfl) (fun w => by kernel_rfl) ?_
            refine QRun_bool (x4 != (-1000000000000000)) x3 (by kernel_rfl) (fun w => by kernel_rfl) gx3 ?_
            exact QRun_done [0, 1, 6, 7, 25] (by kernel_rfl) (by kernel_rfl)
          · refine QRun_bool (x2 != (-1000000000000000)) false (by kernel_rfl) (fun w => by kernel_rfl) hb2 ?_
            have gx3 := M.ret_some ((M.ite_some gx3).2 hb2)
            refine QRun_n (by kernel_rfl) ?_
            refine QRun_n (by kernel_rfl) ?_
            refine QRun_n (by kernel_rfl) ?_
            refine QRun_n (by kernel_rfl) ?_
            refine QRun_n (by kernel_rfl) ?_
            refine QRun_bool false x3 (by kernel_rfl) (fun w => by kernel_rfl) gx3 ?_
            exact QRun_done [0, 1, 6, 7, 25] (by kernel_rfl) (by kernel_rfl)
        exact QRun_done [0, 1, 6, 7, 25] (by kernel_rfl) (by kernel_rfl)
      refine Run_cond (b := x3) (by kernel_rfl) (fun hb3 => ?_) (fun hb3 => ?_)
      · have hB1 := (M.ite_some hB1).1 hb3
        refine Run_seq ?_
        obtain ⟨x5, hx3, hB1⟩ := M.bind_some hB1
        obtain ⟨hx3l, hx3u, hx3⟩ := M.idx_some hx3
        obtain ⟨x6, hx4, hB1⟩ := M.bind_some hB1
        obtain ⟨hx4l, hx4u, hx4⟩ := M.idx_some hx4
        refine Run_draw 10 mixed (by kernel_rfl) (by kernel_rfl) (L' := [(0, .slice ax_ x_.length cx_), (1, .slice ay_ y_.length cy_), (6, .int .i64 (w64 (x5 - x6)))]) ?_ ?_
        · refine QRun_b [.slice ay_ y_.length cy_, .int .i64 i1] 0 _ (by kernel_rfl) (fun w => by kernel_rfl) ?_
          refine QRun_y (.pointer (some (adr ay_ (i1.toNat * 1)))) (by kernel_rfl) (Y_idx (t := 23) (e := 2) (sz := 1) (a := ay_) (n := y_.length) (cap := cy_) (kk := .i64) (i := i1) (by kernel_rfl) Try.underlying23 (by kernel_rfl) ((ry_.at H1.ext).cell hx3).1 hx3l hx3u) ?_
          refine QRun_y (.int .i64 x5) (by kernel_rfl) (Y_load1 (t := 2) (p := adr ay_ (i1.toNat * 1)) (v := .int .i64 x5) (by kernel_rfl) (fun w => by kernel_rfl) (cd2_cell (ry_.at H1.ext) hx3)) ?_
          refine QRun_b [.slice ax_ x_.length cx_, .int .i64 i1] 4 _ (by kernel_rfl) (fun w => by kernel_rfl) ?_
          refine QRun_y (.pointer (some (adr ax_ (i1.toNat * 1)))) (by kernel_rfl) (Y_idx (t := 23) (e := 2) (sz := 1) (a := ax_) (n := x_.length) (cap := cx_) (kk := .i64) (i := i1) (by kernel_rfl) Try.underlying23 (by kernel_rfl) ((rx_.at H1.ext).cell hx4).1 hx4l hx4u) ?_
          refine QRun_y (.int .i64 x6) (by kernel_rfl) (Y_load1 (t := 2) (p := adr ax_ (i1.toNat * 1)) (v := .int .i64 x6) (by kernel_rfl) (fun w => by kernel_rfl) (cd2_cell (rx_.at H1.ext) hx4)) ?_
          refine QRun_b [.int .i64 (w64 (x5 - x6)), .int .i64 (w64 (x5 - x6))] 8 _ (by kernel_rfl) (fun w => by kernel_rfl) ?_
          exact QRun_done [0, 1, 6] (by kernel_rfl) (by kernel_rfl)
        refine Run_exit (k' := _) rfl ?_
        have hB1 := M.ret_some hB1
        have gx1 := houty1 _ hB1.symm
        subst gx1
        exact Run_fall [0, 1, 6] (by kernel_rfl) ⟨rfl, H1⟩
      · have hB1 := (M.ite_some hB1).2 hb3
        refine Run_skip ?_
        refine Run_blk ?_
        refine Run_reg 3 (by kernel_rfl) (L' := [(0, .slice ax_ x_.length cx_), (1, .slice ay_ y_.length cy_), (6, .int .i64 s1), (7, .int .i64 (i1 + 1))]) ?_ ?_
        · refine QRun_b [.int .i64 i1] 0 _ (by kernel_rfl) (fun w => by kernel_rfl) ?_
          refine QRun_y (.int .i64 (i1 + 1)) (by kernel_rfl) (Y_eq (v := .int .i64 (w64 (i1 + 1))) (Y_pure (fun w => by kernel_rfl)) (by rw [w64_eq _ (by omega)])) ?_
          refine QRun_b [.int .i64 (i1 + 1)] 2 _ (by kernel_rfl) (fun w => by kernel_rfl) ?_
          exact QRun_done [0, 1, 6, 7] (by kernel_rfl) (by kernel_rfl)
        have hB1 := M.ret_some hB1
        have gx1 := hgoy1 _ hB1.symm
        exact Run_again [0, 1, 6, 7] (by kernel_rfl) my1 (Nat.lt_succ_self _) ⟨i1 + 1, s1, by omega, gx1, rfl, H1⟩
    · have gx1 := M.for_end gx1 hb1
      subst gx1
      refine Run_exit (k' := _) rfl ?_
      exact Run_fall [0, 1, 6] (by kernel_rfl) ⟨rfl, H1⟩

set_option maxRecDepth 100000 in
set_option maxHeartbeats 4000000 in
theorem w_spec_l01Own (h : Heap) (list : List Int) (alist : Option Addr) (clist : Nat) (rlist : Rd cd2 h (Lt h) alist clist list) (n : Nat) (r : (List Int)) (hF : spec_l01Own list n = some r) :
    Fn Try.prog 97 #[.slice alist list.length clist] h fun v h' => ∃ (a0 : Option Addr) (c0 : Nat), v = .slice a0 r.length c0 ∧ Hold h h' [own cd2 a0 r.length c0 r] := by
  unfold spec_l01Own at hF
  refine Fn_enter (args := [.slice alist list.length clist]) Try.func97 rfl (by kernel_rfl) (by kernel_rfl) (fun w0 _ => ?_)
  have H0 := Hold.init h
  refine Run_seq ?_
  refine Run_reg 1 (by kernel_rfl) (L' := [(0, .slice alist list.length clist)]) ?_ ?_
  · refine QRun_b [.slice none 0 0] 0 _ (by kernel_rfl) (fun w => by kernel_rfl) ?_
    exact QRun_done [0] (by kernel_rfl) (by kernel_rfl)
  refine Run_seq ?_
  refine Run_ops ?_
  refine Run_E (by kernel_rfl) ?_
  refine E_lit (C := cd2) (n := 0) (l := ([] : List Int)) (cs := []) H0 (fun w => by kernel_rfl) (Enc.nil _ _) rfl (by decide) (fun a1 h1 H1 => ?_)
  refine Run_b [.slice alist list.length clist] 1 _ (by kernel_rfl) (fun w => by kernel_rfl) ?_
  obtain ⟨l1, hl1, hF⟩ := M.bind_some hF
  have hl1 := M.app_some hl1
  refine Run_E (by kernel_rfl) ?_
  refine E_appR (C := cd2) (t := 23) (ty := 23) (n := 0) (m := list.length) H1 cd2_copies (rlist.at H1.ext) rfl cd2_ti rfl Try.underlying23 (by decide) (by kernel_rfl) hl1 (fun a2 c1 h2 H2 => ?_)
  refine Run_b [.slice a2 l1.length c1] 3 _ (by kernel_rfl) (fun w => by kernel_rfl) ?_
  refine Run_nil (by kernel_rfl) ?_
  refine Run_keep [2] (L' := [(2, .slice a2 l1.length c1)]) (by kernel_rfl) ?_
  have hF := M.ret_some hF
  subst hF
  exact Run_ret1 rfl (ResV_tmp (v := .slice a2 l1.length c1) (by kernel_rfl)) ⟨a2, c1, rfl, H2⟩

set_option maxRecDepth 100000 in
set_option maxHeartbeats 4000000 in
theorem w_spec_l07At_BQ1 (h hE : Heap) (it : Item) (s_ : TL07series) (bs_ : Nat) (as_a : Option Addr) (cs_a : Nat) (rs_a : Rd cd23 h (Lt h) as_a cs_a s_.a) (as_last : Option Addr) (cs_last : Nat) (as_lists : Option Addr) (cs_lists : Nat) (qas_lists0 : Option Addr) (qcs_lists0 : Nat) (qls_lists0 : List Int) (k_ : Int) (HM : Hold h hE [box bs_ 96 [.slice as_a s_.a.length cs_a, .slice as_last s_.last.length cs_last, .slice as_lists s_.lists.length cs_lists], own cd23 as_last s_.last.length cs_last s_.last, rowsQ cd2 23 as_lists s_.lists.length cs_lists s_.lists [(qas_lists0, qcs_lists0, qls_lists0)], it]) (n : Nat) (r : (List Int) × Bool × TL07series) (hF : spec_l07At_BQ1 s_ k_ n = some r) :
    Fn Try.prog 95 #[.pointer (some ⟨bs_, 0, none⟩), .int .i64 k_] hE fun v h' => ∃ (a0 : Option Addr) (c0 : Nat), ∃ (a1 : Option Addr) (c1 : Nat), ∃ (a2 : Option Addr) (c2 : Nat), v = .tuple #[.slice a0 r.1.length c0, .bool r.2.1] ∧ Hold h h' [box bs_ 96 [.slice as_a s_.a.length cs_a, .slice a1 r.2.2.last.length c1, .slice a2 r.2.2.lists.length c2], own cd23 a1 r.2.2.last.length c1 r.2.2.last, rowsQ cd2 23 a2 r.2.2.lists.length c2 r.2.2.lists [(a0, c0, r.1), (qas_lists0, qcs_lists0, qls_lists0)], it] := by
  unfold spec_l07At_BQ1 at hF
  refine Fn_enter (args := [.pointer (some ⟨bs_, 0, none⟩), .int .i64 k_]) Try.func95 rfl (by kernel_rfl) (by kernel_rfl) (fun w0 _ => ?_)
  refine Run_seq ?_
  refine Run_reg 2 (by kernel_rfl) (L' := [(0, .pointer (some ⟨bs_, 0, none⟩)), (1, .int .i64 k_)]) ?_ ?_
  · refine QRun_b [.slice none 0 0, .bool false] 0 _ (by kernel_rfl) (fun w => by kernel_rfl) ?_
    exact QRun_done [0, 1] (by kernel_rfl) (by kernel_rfl)
  refine Run_seq ?_
  obtain ⟨x1, gx1, hF⟩ := M.bind_some hF
  refine Run_join (fun L' h' => ∃ (s2 : (List (List Int)) × (List (List Int))) (a3 : Option Addr) (c3 : Nat) (a4 : Option Addr) (c4 : Nat), x1 = .inl s2 ∧ L' = [(0, .pointer (some ⟨bs_, 0, none⟩)), (1, .int .i64 k_)] ∧ Hold h h' [box bs_ 96 [.slice as_a s_.a.length cs_a, .slice a3 s2.1.length c3, .slice a4 s2.2.length c4], own cd23 a3 s2.1.length c3 s2.1, rowsQ cd2 23 a4 s2.2.length c4 s2.2 [(qas_lists0, qcs_lists0, qls_lists0)], it]) ?_ ?_
  · rintro _ h2 ⟨s2, a3, c3, a4, c4, es2, rfl, H2⟩
    have hF := M.cont_inl' hF es2
    refine Run_seq ?_
    obtain ⟨x5, hx4, hF⟩ := M.bind_some hF
    obtain ⟨hx4l, hx4u, hx4⟩ := M.idx_some hx4
    have H37 : Hold h h2 [rowsQ cd2 23 a4 s2.2.length c4 s2.2 [(qas_lists0, qcs_lists0, qls_lists0)], box bs_ 96 [.slice as_a s_.a.length cs_a, .slice a3 s2.1.length c3, .slice a4 s2.2.length c4], own cd23 a3 s2.1.length c3 s2.1, it] := H2.pick [2, 0, 1, 3] (by kernel_rfl)
    obtain ⟨a9, c8, hc1, H38⟩ := H37.peekRow hx4
    have H39 : Hold h h2 [box bs_ 96 [.slice as_a s_.a.length cs_a, .slice a3 s2.1.length c3, .slice a4 s2.2.length c4], own cd23 a3 s2.1.length c3 s2.1, rowsQ cd2 23 a4 s2.2.length c4 s2.2 [(a9, c8, x5), (qas_lists0, qcs_lists0, qls_lists0)], it] := H38.pick [1, 2, 0, 3] (by kernel_rfl)
    refine Run_reg 9 (by kernel_rfl) (L' := [(4, .slice a9 x5.length c8), (5, .bool true)]) ?_ ?_
    · refine QRun_b [.pointer (some ⟨bs_, 0, none⟩), .pointer (some ⟨bs_, 0, none⟩), .pointer (some ⟨bs_, 2, none⟩)] 0 _ (by kernel_rfl) (fun w => by kernel_rfl) ?_
      refine QRun_y (.slice a4 s2.2.length c4) (by kernel_rfl) (Y_load1 (t := 22) (p := ⟨bs_, 2, none⟩) (v := .slice a4 s2.2.length c4) (by kernel_rfl) (fun w => by kernel_rfl) (H2.cell 0 rfl rfl)) ?_
      refine QRun_b [.int .i64 k_] 4 _ (by kernel_rfl) (fun w => by kernel_rfl) ?_
      refine QRun_y (.pointer (some (adr a4 (k_.toNat * 1)))) (by kernel_rfl) (Y_idx (t := 22) (e := 23) (sz := 1) (a := a4) (n := s2.2.length) (cap := c4) (kk := .i64) (i := k_) (by kernel_rfl) Try.underlying22 (by kernel_rfl) ((H2.rdQ 2 rfl).cell hx4).1 hx4l hx4u) ?_
      refine QRun_y (.slice a9 x5.length c8) (by kernel_rfl) (Y_load1 (t := 23) (p := adr a4 (k_.toNat * 1)) (v := .slice a9 x5.length c8) (by kernel_rfl) (fun w => by kernel_rfl) hc1) ?_
      refine QRun_b [.slice a9 x5.length c8, .bool true] 7 _ (by kernel_rfl) (fun w => by kernel_rfl) ?_
      exact QRun_done [4, 5] (by kernel_rfl) (by kernel_rfl)
    have hF := M.ret_some hF
    subst hF
    have H40 : Hold h h2 [rowsQ cd2 23 a4 s2.2.length c4 s2.2 [(a9, c8, x5), (qas_lists0, qcs_lists0, qls_lists0)], box bs_ 96 [.slice as_a s_.a.length cs_a, .slice a3 s2.1.length c3, .slice a4 s2.2.length c4], own cd23 a3 s2.1.length c3 s2.1, it] := H39.pick [2, 0, 1, 3] (by kernel_rfl)
    have H41 : Hold h h2 [own cd23 a3 s2.1.length c3 s2.1, rowsQ cd2 23 a4 s2.2.length c4 s2.2 [(a9, c8, x5), (qas_lists0, qcs_lists0, qls_lists0)], box bs_ 96 [.slice as_a s_.a.length cs_a, .slice a3 s2.1.length c3, .slice a4 s2.2.length c4], it] := H40.pick [2, 0, 1, 3] (by kernel_rfl)
    have H42 : Hold h h2 [rowsQ cd2 23 a4 s2.2.length c4 s2.2 [(a9, c8, x5), (qas_lists0, qcs_lists0, qls_lists0)], own cd23 a3 s2.1.length c3 s2.1, box bs_ 96 [.slice as_a s_.a.length cs_a, .slice a3 s2.1.length c3, .slice a4 s2.2.length c4], it] := H41.pick [1, 0, 2, 3] (by kernel_rfl)
    have H43 : Hold h h2 [box bs_ 96 [.slice as_a s_.a.length cs_a, .slice a3 s2.1.length c3, .slice a4 s2.2.length c4], own cd23 a3 s2.1.length c3 s2.1, rowsQ cd2 23 a4 s2.2.length c4 s2.2 [(a9, c8, x5), (qas_lists0, qcs_lists0, qls_lists0)], it] := H42.pick [2, 1, 0, 3] (by kernel_rfl)
    exact Run_ret2 rfl (ResV_tmp (v := .slice a9 x5.length c8) (by kernel_rfl)) (ResV_tmp (v := .bool true) (by kernel_rfl)) ⟨a9, c8, a3, c3, a4, c4, rfl, H43⟩
  · refine Run_block ?_
    have H44 : Hold h hE [own cd23 as_last s_.last.length cs_last s_.last, box bs_ 96 [.slice as_a s_.a.length cs_a, .slice as_last s_.last.length cs_last, .slice as_lists s_.lists.length cs_lists], rowsQ cd2 23 as_lists s_.lists.length cs_lists s_.lists [(qas_lists0, qcs_lists0, qls_lists0)], it] := HM.pick [1, 0, 2, 3] (by kernel_rfl)
    have H45 : Hold h hE [rowsQ cd2 23 as_lists s_.lists.length cs_lists s_.lists [(qas_lists0, qcs_lists0, qls_lists0)], own cd23 as_last s_.last.length cs_last s_.last, box bs_ 96 [.slice as_a s_.a.length cs_a, .slice as_last s_.last.length cs_last, .slice as_lists s_.lists.length cs_lists], it] := H44.pick [2, 0, 1, 3] (by kernel_rfl)
    have H46 : Hold h hE [box bs_ 96 [.slice as_a s_.a.length cs_a, .slice as_last s_.last.length cs_last, .slice as_lists s_.lists.length cs_lists], own cd23 as_last s_.last.length cs_last s_.last, rowsQ cd2 23 as_lists s_.lists.length cs_lists s_.lists [(qas_lists0, qcs_lists0, qls_lists0)], it] := H45.pick [2, 1, 0, 3] (by kernel_rfl)
    refine Run_keep [0, 1] (L' := [(0, .pointer (some ⟨bs_, 0, none⟩)), (1, .int .i64 k_)]) (by kernel_rfl) ?_
    refine Run_loop (fun m L' h' => ∃ (s1 : (List (List Int)) × (List (List Int))) (a1 : Option Addr) (c1 : Nat) (a2 : Option Addr) (c2 : Nat), M.loopN _ n m s1 = some x1 ∧ L' = [(0, .pointer (some ⟨bs_, 0, none⟩)), (1, .int .i64 k_)] ∧ Hold h h' [box bs_ 96 [.slice as_a s_.a.length cs_a, .slice a1 s1.1.length c1, .slice a2 s1.2.length c2], own cd23 a1 s1.1.length c1 s1.1, rowsQ cd2 23 a2 s1.2.length c2 s1.2 [(qas_lists0, qcs_lists0, qls_lists0)], it]) n ⟨(s_.last, s_.lists), as_last, cs_last, as_lists, cs_lists, gx1, rfl, H46⟩ ?_
    rintro my1 _ h1 ⟨s1, a1, c1, a2, c2, gx1, rfl, H1⟩
    obtain ⟨my1, y1, rfl, hB1, hgoy1, houty1⟩ := M.loop_some gx1
    refine Run_seq ?_
    refine Run_seq ?_
    refine Run_reg 7 (by kernel_rfl) (L' := [(0, .pointer (some ⟨bs_, 0, none⟩)), (1, .int .i64 k_), (12, .bool (decide ((s1.2.length : Int) ≤ k_)))]) ?_ ?_
    · refine QRun_b [.pointer (some ⟨bs_, 0, none⟩), .pointer (some ⟨bs_, 0, none⟩), .pointer (some ⟨bs_, 2, none⟩)] 0 _ (by kernel_rfl) (fun w => by kernel_rfl) ?_
      refine QRun_y (.slice a2 s1.2.length c2) (by kernel_rfl) (Y_load1 (t := 22) (p := ⟨bs_, 2, none⟩) (v := .slice a2 s1.2.length c2) (by kernel_rfl) (fun w => by kernel_rfl) (H1.cell 0 rfl rfl)) ?_
      refine QRun_b [.int .i64 (s1.2.length : Int), .int .i64 k_, .bool (decide ((s1.2.length : Int) ≤ k_))] 4 _ (by kernel_rfl) (fun w => by kernel_rfl) ?_
      exact QRun_done [0, 1, 12] (by kernel_rfl) (by kernel_rfl)
    refine Run_cond (b := decide ((s1.2.length : Int) ≤ k_)) (by kernel_rfl) (fun hb1 => ?_) (fun hb1 => ?_)
    · have hB1 := (M.ite_some hB1).1 hb1
      refine Run_skip ?_
      refine Run_block ?_
      refine Run_seq ?_
      refine Run_D (fun x => Hold h x [box bs_ 96 [.slice as_a s_.a.length cs_a, .slice a1 s1.1.length c1, .slice a2 s1.2.length c2], own cd23 a1 s1.1.length c1 s1.1, rowsQ cd2 23 a2 s1.2.length c2 s1.2 [(qas_lists0, qcs_lists0, qls_lists0)], it]) (fun x => Hold h x [box bs_ 96 [.slice as_a s_.a.length cs_a, .slice a1 s1.1.length c1, .slice a2 s1.2.length c2], own cd23 a1 s1.1.length c1 s1.1, rowsQ cd2 23 a2 s1.2.length c2 s1.2 [(qas_lists0, qcs_lists0, qls_lists0)], it]) mixed (by kernel_rfl) H1 Hold.stable (fun x Hy => (show Hold h x [box bs_ 96 [.slice as_a s_.a.length cs_a, .slice a1 s1.1.length c1, .slice a2 s1.2.length c2], own cd23 a1 s1.1.length c1 s1.1, rowsQ cd2 23 a2 s1.2.length c2 s1.2 [(qas_lists0, qcs_lists0, qls_lists0)], it] from Hy).pick [0, 1, 2, 3] (by kernel_rfl)) ?_
      refine DR_b 9 [.pointer (some ⟨bs_, 0, none⟩), .pointer (some ⟨bs_, 0, none⟩), .pointer (some ⟨bs_, 0, none⟩), .pointer (some ⟨bs_, 0, none⟩)] 0 (by kernel_rfl) (by kernel_rfl) (by kernel_rfl) (fun w => by kernel_rfl) ?_
      refine DR_y 8 (i := 4) (.slice as_a s_.a.length cs_a) (by kernel_rfl) (by kernel_rfl) (by kernel_rfl) (fun hx Hx => (YE.of (Y_load1 (t := 22) (p := ⟨bs_, 0, none⟩) (v := .slice as_a s_.a.length cs_a) (by kernel_rfl) (fun w => by kernel_rfl) (Hx.cell 0 rfl rfl)))) ?_
      refine DR_b 5 [.pointer (some ⟨bs_, 0, none⟩), .pointer (some ⟨bs_, 0, none⟩), .pointer (some ⟨bs_, 1, none⟩)] 5 (by kernel_rfl) (by kernel_rfl) (by kernel_rfl) (fun w => by kernel_rfl) ?_
      refine DR_y 4 (i := 8) (.slice a1 s1.1.length c1) (by kernel_rfl) (by kernel_rfl) (by kernel_rfl) (fun hx Hx => (YE.of (Y_load1 (t := 22) (p := ⟨bs_, 1, none⟩) (v := .slice a1 s1.1.length c1) (by kernel_rfl) (fun w => by kernel_rfl) (Hx.cell 0 rfl rfl)))) ?_
      refine DR_e 3 9 (by kernel_rfl) (by kernel_rfl) (by kernel_rfl) (fun h3 H3 => ?_)
      have H4 : Hold h h3 [box bs_ 96 [.slice as_a s_.a.length cs_a, .slice a1 s1.1.length c1, .slice a2 s1.2.length c2], own cd23 a1 s1.1.length c1 s1.1, rowsQ cd2 23 a2 s1.2.length c2 s1.2 [(qas_lists0, qcs_lists0, qls_lists0)], it] := H3
      obtain ⟨x2, hx1, hB1⟩ := M.bind_some hB1
      refine E_call (f := 143) (args := #[.slice as_a s_.a.length cs_a, .slice a1 s1.1.length c1]) (w_spec_l02Multiply h3 s_.a as_a cs_a (rs_a.at H4.ext) s1.1 a1 c1 (H4.rd 1 rfl) _ _ hx1) (by kernel_rfl) (fun v1 h4 hp1 => ?_)
      obtain ⟨a5, c5, rfl, H5⟩ := hp1
      have H6 : Hold h h4 [own cd23 a5 x2.length c5 x2, box bs_ 96 [.slice as_a s_.a.length cs_a, .slice a1 s1.1.length c1, .slice a2 s1.2.length c2], own cd23 a1 s1.1.length c1 s1.1, rowsQ cd2 23 a2 s1.2.length c2 s1.2 [(qas_lists0, qcs_lists0, qls_lists0)], it] := H4.call H5 rfl
      refine ⟨fun x => Hold h x [box bs_ 96 [.slice as_a s_.a.length cs_a, .slice a1 s1.1.length c1, .slice a2 s1.2.length c2], own cd23 a1 s1.1.length c1 s1.1, rowsQ cd2 23 a2 s1.2.length c2 s1.2 [(qas_lists0, qcs_lists0, qls_lists0)], it, own cd23 a5 x2.length c5 x2], fun x => Hold h x [own cd23 a5 x2.length c5 x2, box bs_ 96 [.slice as_a s_.a.length cs_a, .slice a1 s1.1.length c1, .slice a2 s1.2.length c2], own cd23 a1 s1.1.length c1 s1.1, rowsQ cd2 23 a2 s1.2.length c2 s1.2 [(qas_lists0, qcs_lists0, qls_lists0)], it], H6, Hold.stable, fun x Hy => (show Hold h x [own cd23 a5 x2.length c5 x2, box bs_ 96 [.slice as_a s_.a.length cs_a, .slice a1 s1.1.length c1, .slice a2 s1.2.length c2], own cd23 a1 s1.1.length c1 s1.1, rowsQ cd2 23 a2 s1.2.length c2 s1.2 [(qas_lists0, qcs_lists0, qls_lists0)], it] from Hy).pick [1, 2, 3, 4, 0] (by kernel_rfl), fun x Hy => (show Hold h x [box bs_ 96 [.slice as_a s_.a.length cs_a, .slice a1 s1.1.length c1, .slice a2 s1.2.length c2], own cd23 a1 s1.1.length c1 s1.1, rowsQ cd2 23 a2 s1.2.length c2 s1.2 [(qas_lists0, qcs_lists0, qls_lists0)], it, own cd23 a5 x2.length c5 x2] from Hy).pick [0, 1, 2, 3] (by kernel_rfl), ?_⟩
      refine DR_b 1 [.pointer (some ⟨bs_, 0, none⟩), .pointer (some ⟨bs_, 1, none⟩)] 10 (by kernel_rfl) (by kernel_rfl) (by kernel_rfl) (fun w => by kernel_rfl) ?_
      refine DR_tail (i := 12) (by kernel_rfl) (by kernel_rfl) (by kernel_rfl) (fun h5 H7 => ?_)
      have H8 : Hold h h5 [own cd23 a5 x2.length c5 x2, box bs_ 96 [.slice as_a s_.a.length cs_a, .slice a1 s1.1.length c1, .slice a2 s1.2.length c2], own cd23 a1 s1.1.length c1 s1.1, rowsQ cd2 23 a2 s1.2.length c2 s1.2 [(qas_lists0, qcs_lists0, qls_lists0)], it] := H7
      have H10 : Hold h h5 [box bs_ 96 [.slice as_a s_.a.length cs_a, .slice a1 s1.1.length c1, .slice a2 s1.2.length c2], own cd23 a5 x2.length c5 x2, own cd23 a1 s1.1.length c1 s1.1, rowsQ cd2 23 a2 s1.2.length c2 s1.2 [(qas_lists0, qcs_lists0, qls_lists0)], it] := H8.pick [1, 0, 2, 3, 4] (by kernel_rfl)
      refine Run_E (by kernel_rfl) ?_
      refine E_bput (t := 22) (off := 1) (us := [.slice as_a s_.a.length cs_a, .slice a5 x2.length c5, .slice a2 s1.2.length c2]) (v := .slice a5 x2.length c5) H10 (by kernel_rfl) (by kernel_rfl) rfl (by kernel_rfl) rfl (fun h6 H9 => ?_)
      refine Run_nil (by kernel_rfl) ?_
      refine Run_keep [0, 1] (L' := [(0, .pointer (some ⟨bs_, 0, none⟩)), (1, .int .i64 k_)]) (by kernel_rfl) ?_
      refine Run_seq ?_
      refine Run_seq ?_
      obtain ⟨x3, hx2, hB1⟩ := M.bind_some hB1
      refine Run_reg 6 (by kernel_rfl) (L' := [(0, .pointer (some ⟨bs_, 0, none⟩)), (1, .int .i64 k_), (30, .bool (!x3))]) ?_ ?_
      · refine QRun_b [.pointer (some ⟨bs_, 0, none⟩), .pointer (some ⟨bs_, 0, none⟩), .pointer (some ⟨bs_, 1, none⟩)] 0 _ (by kernel_rfl) (fun w => by kernel_rfl) ?_
        refine QRun_y (.slice a5 x2.length c5) (by kernel_rfl) (Y_load1 (t := 22) (p := ⟨bs_, 1, none⟩) (v := .slice a5 x2.length c5) (by kernel_rfl) (fun w => by kernel_rfl) (H9.cell 0 rfl rfl)) ?_
        refine QRun_y (.bool x3) (by kernel_rfl) (Y_callq (f := 131) (args := #[.slice a5 x2.length c5]) (v := .bool x3) (by kernel_rfl) (w_spec_IsMatrix h6 x2 a5 c5 (H9.rd 1 rfl) _ _ hx2)) ?_
        refine QRun_b [.bool (!x3)] 5 _ (by kernel_rfl) (fun w => by kernel_rfl) ?_
        exact QRun_done [0, 1, 30] (by kernel_rfl) (by kernel_rfl)
      refine Run_cond (b := !x3) (by kernel_rfl) (fun hb2 => ?_) (fun hb2 => ?_)
      · have hB1 := (M.ite_some hB1).1 hb2
        refine Run_seq ?_
        refine Run_reg 2 (by kernel_rfl) (L' := [(4, .slice none 0 0), (5, .bool false)]) ?_ ?_
        · refine QRun_b [.slice none 0 0, .bool false] 0 _ (by kernel_rfl) (fun w => by kernel_rfl) ?_
          exact QRun_done [4, 5] (by kernel_rfl) (by kernel_rfl)
        have hB1 := M.ret_some hB1
        have gx1 := houty1 _ hB1.symm
        have hF := M.cont_inr' hF gx1
        have hF := M.ret_some hF
        subst hF
        have H11 : Hold h h6 [rowsQ cd2 23 a2 s1.2.length c2 s1.2 [(qas_lists0, qcs_lists0, qls_lists0)], box bs_ 96 [.slice as_a s_.a.length cs_a, .slice a5 x2.length c5, .slice a2 s1.2.length c2], own cd23 a5 x2.length c5 x2, own cd23 a1 s1.1.length c1 s1.1, it] := H9.pick [3, 0, 1, 2, 4] (by kernel_rfl)
        have H12 := H11.nilPeek
        have H13 : Hold h h6 [own cd23 a5 x2.length c5 x2, rowsQ cd2 23 a2 s1.2.length c2 s1.2 [(none, 0, []), (qas_lists0, qcs_lists0, qls_lists0)], box bs_ 96 [.slice as_a s_.a.length cs_a, .slice a5 x2.length c5, .slice a2 s1.2.length c2], own cd23 a1 s1.1.length c1 s1.1, it] := H12.pick [2, 0, 1, 3, 4] (by kernel_rfl)
        have H14 : Hold h h6 [rowsQ cd2 23 a2 s1.2.length c2 s1.2 [(none, 0, []), (qas_lists0, qcs_lists0, qls_lists0)], own cd23 a5 x2.length c5 x2, box bs_ 96 [.slice as_a s_.a.length cs_a, .slice a5 x2.length c5, .slice a2 s1.2.length c2], own cd23 a1 s1.1.length c1 s1.1, it] := H13.pick [1, 0, 2, 3, 4] (by kernel_rfl)
        have H15 : Hold h h6 [box bs_ 96 [.slice as_a s_.a.length cs_a, .slice a5 x2.length c5, .slice a2 s1.2.length c2], own cd23 a5 x2.length c5 x2, rowsQ cd2 23 a2 s1.2.length c2 s1.2 [(none, 0, []), (qas_lists0, qcs_lists0, qls_lists0)], it] := H14.pick [2, 1, 0, 4] (by kernel_rfl)
        exact Run_ret2 rfl (ResV_tmp (v := .slice none 0 0) (by kernel_rfl)) (ResV_tmp (v := .bool false) (by kernel_rfl)) ⟨none, 0, a5, c5, a2, c2, rfl, H15⟩
      · have hB1 := (M.ite_some hB1).2 hb2
        refine Run_skip ?_
        refine Run_D (fun x => Hold h x [box bs_ 96 [.slice as_a s_.a.length cs_a, .slice a5 x2.length c5, .slice a2 s1.2.length c2], own cd23 a5 x2.length c5 x2, own cd23 a1 s1.1.length c1 s1.1, it]) (fun x => Hold h x [box bs_ 96 [.slice as_a s_.a.length cs_a, .slice a5 x2.length c5, .slice a2 s1.2.length c2], own cd23 a5 x2.length c5 x2, own cd23 a1 s1.1.length c1 s1.1, rowsQ cd2 23 a2 s1.2.length c2 s1.2 [(qas_lists0, qcs_lists0, qls_lists0)], it]) mixed (by kernel_rfl) H9 Hold.stable (fun x Hy => (show Hold h x [box bs_ 96 [.slice as_a s_.a.length cs_a, .slice a5 x2.length c5, .slice a2 s1.2.length c2], own cd23 a5 x2.length c5 x2, own cd23 a1 s1.1.length c1 s1.1, rowsQ cd2 23 a2 s1.2.length c2 s1.2 [(qas_lists0, qcs_lists0, qls_lists0)], it] from Hy).pick [0, 1, 2, 4] (by kernel_rfl)) ?_
        refine DR_b 11 [.pointer (some ⟨bs_, 0, none⟩), .pointer (some ⟨bs_, 0, none⟩), .pointer (some ⟨bs_, 0, none⟩), .pointer (some ⟨bs_, 2, none⟩)] 0 (by kernel_rfl) (by kernel_rfl) (by kernel_rfl) (fun w => by kernel_rfl) ?_
        refine DR_y 10 (i := 4) (.slice a2 s1.2.length c2) (by kernel_rfl) (by kernel_rfl) (by kernel_rfl) (fun hx Hx => (YE.of (Y_load1 (t := 22) (p := ⟨bs_, 2, none⟩) (v := .slice a2 s1.2.length c2) (by kernel_rfl) (fun w => by kernel_rfl) (Hx.cell 0 rfl rfl)))) ?_
        refine DR_b 7 [.pointer (some ⟨bs_, 0, none⟩), .pointer (some ⟨bs_, 0, none⟩), .pointer (some ⟨bs_, 1, none⟩)] 5 (by kernel_rfl) (by kernel_rfl) (by kernel_rfl) (fun w => by kernel_rfl) ?_
        refine DR_y 6 (i := 8) (.slice a5 x2.length c5) (by kernel_rfl) (by kernel_rfl) (by kernel_rfl) (fun hx Hx => (YE.of (Y_load1 (t := 22) (p := ⟨bs_, 1, none⟩) (v := .slice a5 x2.length c5) (by kernel_rfl) (fun w => by kernel_rfl) (Hx.cell 0 rfl rfl)))) ?_
        refine DR_e 5 9 (by kernel_rfl) (by kernel_rfl) (by kernel_rfl) (fun h7 H16 => ?_)
        have H17 : Hold h h7 [box bs_ 96 [.slice as_a s_.a.length cs_a, .slice a5 x2.length c5, .slice a2 s1.2.length c2], own cd23 a5 x2.length c5 x2, own cd23 a1 s1.1.length c1 s1.1, rowsQ cd2 23 a2 s1.2.length c2 s1.2 [(qas_lists0, qcs_lists0, qls_lists0)], it] := H16
        obtain ⟨x4, hx3, hB1⟩ := M.bind_some hB1
        refine E_call (f := 132) (args := #[.slice a5 x2.length c5]) (w_spec_l07Flat h7 x2 a5 c5 (H17.rd 1 rfl) _ _ hx3) (by kernel_rfl) (fun v2 h8 hp2 => ?_)
        obtain ⟨a6, c6, rfl, H18⟩ := hp2
        have H19 : Hold h h8 [own cd2 a6 x4.length c6 x4, box bs_ 96 [.slice as_a s_.a.length cs_a, .slice a5 x2.length c5, .slice a2 s1.2.length c2], own cd23 a5 x2.length c5 x2, own cd23 a1 s1.1.length c1 s1.1, rowsQ cd2 23 a2 s1.2.length c2 s1.2 [(qas_lists0, qcs_lists0, qls_lists0)], it] := H17.call H18 rfl
        refine ⟨fun x => Hold h x [box bs_ 96 [.slice as_a s_.a.length cs_a, .slice a5 x2.length c5, .slice a2 s1.2.length c2], own cd23 a5 x2.length c5 x2, own cd23 a1 s1.1.length c1 s1.1, it], fun x => Hold h x [own cd2 a6 x4.length c6 x4, box bs_ 96 [.slice as_a s_.a.length cs_a, .slice a5 x2.length c5, .slice a2 s1.2.length c2], own cd23 a5 x2.length c5 x2, own cd23 a1 s1.1.length c1 s1.1, rowsQ cd2 23 a2 s1.2.length c2 s1.2 [(qas_lists0, qcs_lists0, qls_lists0)], it], H19, Hold.stable, fun x Hy => (show Hold h x [own cd2 a6 x4.length c6 x4, box bs_ 96 [.slice as_a s_.a.length cs_a, .slice a5 x2.length c5, .slice a2 s1.2.length c2], own cd23 a5 x2.length c5 x2, own cd23 a1 s1.1.length c1 s1.1, rowsQ cd2 23 a2 s1.2.length c2 s1.2 [(qas_lists0, qcs_lists0, qls_lists0)], it] from Hy).pick [1, 2, 3, 5] (by kernel_rfl), fun x Hy => (show Hold h x [box bs_ 96 [.slice as_a s_.a.length cs_a, .slice a5 x2.length c5, .slice a2 s1.2.length c2], own cd23 a5 x2.length c5 x2, own cd23 a1 s1.1.length c1 s1.1, it] from Hy).pick [0, 1, 2, 3] (by kernel_rfl), ?_⟩
        refine DR_e 4 10 (by kernel_rfl) (by kernel_rfl) (by kernel_rfl) (fun h9 H20 => ?_)
        have H21 : Hold h h9 [own cd2 a6 x4.length c6 x4, box bs_ 96 [.slice as_a s_.a.length cs_a, .slice a5 x2.length c5, .slice a2 s1.2.length c2], own cd23 a5 x2.length c5 x2, own cd23 a1 s1.1.length c1 s1.1, rowsQ cd2 23 a2 s1.2.length c2 s1.2 [(qas_lists0, qcs_lists0, qls_lists0)], it] := H20
        refine E_lit1 (ey := 23) (n := x4.length) H21 (fun w => by kernel_rfl) rfl (fun a7 h10 H22 => ?_)
        refine ⟨fun x => Hold h x [box bs_ 96 [.slice as_a s_.a.length cs_a, .slice a5 x2.length c5, .slice a2 s1.2.length c2], own cd23 a5 x2.length c5 x2, own cd23 a1 s1.1.length c1 s1.1, it], fun x => Hold h x [own cd23 a7 1 1 [x4], box bs_ 96 [.slice as_a s_.a.length cs_a, .slice a5 x2.length c5, .slice a2 s1.2.length c2], own cd23 a5 x2.length c5 x2, own cd23 a1 s1.1.length c1 s1.1, rowsQ cd2 23 a2 s1.2.length c2 s1.2 [(qas_lists0, qcs_lists0, qls_lists0)], it], H22, Hold.stable, fun x Hy => (show Hold h x [own cd23 a7 1 1 [x4], box bs_ 96 [.slice as_a s_.a.length cs_a, .slice a5 x2.length c5, .slice a2 s1.2.length c2], own cd23 a5 x2.length c5 x2, own cd23 a1 s1.1.length c1 s1.1, rowsQ cd2 23 a2 s1.2.length c2 s1.2 [(qas_lists0, qcs_lists0, qls_lists0)], it] from Hy).pick [1, 2, 3, 5] (by kernel_rfl), fun x Hy => (show Hold h x [box bs_ 96 [.slice as_a s_.a.length cs_a, .slice a5 x2.length c5, .slice a2 s1.2.length c2], own cd23 a5 x2.length c5 x2, own cd23 a1 s1.1.length c1 s1.1, it] from Hy).pick [0, 1, 2, 3] (by kernel_rfl), ?_⟩
        refine DR_e 3 11 (by kernel_rfl) (by kernel_rfl) (by kernel_rfl) (fun h11 H23 => ?_)
        have H24 : Hold h h11 [own cd23 a7 1 1 [x4], box bs_ 96 [.slice as_a s_.a.length cs_a, .slice a5 x2.length c5, .slice a2 s1.2.length c2], own cd23 a5 x2.length c5 x2, own cd23 a1 s1.1.length c1 s1.1, rowsQ cd2 23 a2 s1.2.length c2 s1.2 [(qas_lists0, qcs_lists0, qls_lists0)], it] := H23
        obtain ⟨l1, hl1, hB1⟩ := M.bind_some hB1
        have hl1 := M.app_some hl1
        have H25 : Hold h h11 [rowsQ cd2 23 a2 s1.2.length c2 s1.2 [(qas_lists0, qcs_lists0, qls_lists0)], own cd23 a7 1 1 [x4], box bs_ 96 [.slice as_a s_.a.length cs_a, .slice a5 x2.length c5, .slice a2 s1.2.length c2], own cd23 a5 x2.length c5 x2, own cd23 a1 s1.1.length c1 s1.1, it] := H24.pick [4, 0, 1, 2, 3, 5] (by kernel_rfl)
        refine E_appQ (C := cd2) (t := 22) (ty := 22) (tr := 23) (n := s1.2.length) (m := 1) H25 cd23_ti rfl Try.underlying22 (by decide) (by kernel_rfl) hl1 (fun a8 c7 h12 H26 => ?_)
        refine ⟨fun x => Hold h x [box bs_ 96 [.slice as_a s_.a.length cs_a, .slice a5 x2.length c5, .slice a2 s1.2.length c2], own cd23 a5 x2.length c5 x2, own cd23 a1 s1.1.length c1 s1.1, it, rowsQ cd2 23 a8 l1.length c7 l1 [(qas_lists0, qcs_lists0, qls_lists0)]], fun x => Hold h x [rowsQ cd2 23 a8 l1.length c7 l1 [(qas_lists0, qcs_lists0, qls_lists0)], box bs_ 96 [.slice as_a s_.a.length cs_a, .slice a5 x2.length c5, .slice a2 s1.2.length c2], own cd23 a5 x2.length c5 x2, own cd23 a1 s1.1.length c1 s1.1, it], H26, Hold.stable, fun x Hy => (show Hold h x [rowsQ cd2 23 a8 l1.length c7 l1 [(qas_lists0, qcs_lists0, qls_lists0)], box bs_ 96 [.slice as_a s_.a.length cs_a, .slice a5 x2.length c5, .slice a2 s1.2.length c2], own cd23 a5 x2.length c5 x2, own cd23 a1 s1.1.length c1 s1.1, it] from Hy).pick [1, 2, 3, 4, 0] (by kernel_rfl), fun x Hy => (show Hold h x [box bs_ 96 [.slice as_a s_.a.length cs_a, .slice a5 x2.length c5, .slice a2 s1.2.length c2], own cd23 a5 x2.length c5 x2, own cd23 a1 s1.1.length c1 s1.1, it, rowsQ cd2 23 a8 l1.length c7 l1 [(qas_lists0, qcs_lists0, qls_lists0)]] from Hy).pick [0, 1, 2, 3] (by kernel_rfl), ?_⟩
        refine DR_b 1 [.pointer (some ⟨bs_, 0, none⟩), .pointer (some ⟨bs_, 2, none⟩)] 12 (by kernel_rfl) (by kernel_rfl) (by kernel_rfl) (fun w => by kernel_rfl) ?_
        refine DR_tail (i := 14) (by kernel_rfl) (by kernel_rfl) (by kernel_rfl) (fun h13 H27 => ?_)
        have H28 : Hold h h13 [rowsQ cd2 23 a8 l1.length c7 l1 [(qas_lists0, qcs_lists0, qls_lists0)], box bs_ 96 [.slice as_a s_.a.length cs_a, .slice a5 x2.length c5, .slice a2 s1.2.length c2], own cd23 a5 x2.length c5 x2, own cd23 a1 s1.1.length c1 s1.1, it] := H27
        have H30 : Hold h h13 [box bs_ 96 [.slice as_a s_.a.length cs_a, .slice a5 x2.length c5, .slice a2 s1.2.length c2], rowsQ cd2 23 a8 l1.length c7 l1 [(qas_lists0, qcs_lists0, qls_lists0)], own cd23 a5 x2.length c5 x2, own cd23 a1 s1.1.length c1 s1.1, it] := H28.pick [1, 0, 2, 3, 4] (by kernel_rfl)
        refine Run_E (by kernel_rfl) ?_
        refine E_bput (t := 22) (off := 2) (us := [.slice as_a s_.a.length cs_a, .slice a5 x2.length c5, .slice a8 l1.length c7]) (v := .slice a8 l1.length c7) H30 (by kernel_rfl) (by kernel_rfl) rfl (by kernel_rfl) rfl (fun h14 H29 => ?_)
        refine Run_nil (by kernel_rfl) ?_
        refine Run_keep [0, 1] (L' := [(0, .pointer (some ⟨bs_, 0, none⟩)), (1, .int .i64 k_)]) (by kernel_rfl) ?_
        refine Run_blk ?_
        have H31 : Hold h h14 [own cd23 a5 x2.length c5 x2, box bs_ 96 [.slice as_a s_.a.length cs_a, .slice a5 x2.length c5, .slice a8 l1.length c7], rowsQ cd2 23 a8 l1.length c7 l1 [(qas_lists0, qcs_lists0, qls_lists0)], own cd23 a1 s1.1.length c1 s1.1, it] := H29.pick [2, 0, 1, 3, 4] (by kernel_rfl)
        have H32 : Hold h h14 [rowsQ cd2 23 a8 l1.length c7 l1 [(qas_lists0, qcs_lists0, qls_lists0)], own cd23 a5 x2.length c5 x2, box bs_ 96 [.slice as_a s_.a.length cs_a, .slice a5 x2.length c5, .slice a8 l1.length c7], own cd23 a1 s1.1.length c1 s1.1, it] := H31.pick [2, 0, 1, 3, 4] (by kernel_rfl)
        have H33 : Hold h h14 [box bs_ 96 [.slice as_a s_.a.length cs_a, .slice a5 x2.length c5, .slice a8 l1.length c7], own cd23 a5 x2.length c5 x2, rowsQ cd2 23 a8 l1.length c7 l1 [(qas_lists0, qcs_lists0, qls_lists0)], it] := H32.pick [2, 1, 0, 4] (by kernel_rfl)
        have hB1 := M.ret_some hB1
        have gx1 := hgoy1 _ hB1.symm
        exact Run_again [0, 1] (by kernel_rfl) my1 (Nat.lt_succ_self _) ⟨(x2, l1), a5, c5, a8, c7, gx1, rfl, H33⟩
    · have hB1 := (M.ite_some hB1).2 hb1
      refine Run_exit (k' := _) rfl ?_
      have H34 : Hold h h1 [own cd23 a1 s1.1.length c1 s1.1, box bs_ 96 [.slice as_a s_.a.length cs_a, .slice a1 s1.1.length c1, .slice a2 s1.2.length c2], rowsQ cd2 23 a2 s1.2.length c2 s1.2 [(qas_lists0, qcs_lists0, qls_lists0)], it] := H1.pick [1, 0, 2, 3] (by kernel_rfl)
      have H35 : Hold h h1 [rowsQ cd2 23 a2 s1.2.length c2 s1.2 [(qas_lists0, qcs_lists0, qls_lists0)], own cd23 a1 s1.1.length c1 s1.1, box bs_ 96 [.slice as_a s_.a.length cs_a, .slice a1 s1.1.length c1, .slice a2 s1.2.length c2], it] := H34.pick [2, 0, 1, 3] (by kernel_rfl)
      have H36 : Hold h h1 [box bs_ 96 [.slice as_a s_.a.length cs_a, .slice a1 s1.1.length c1, .slice a2 s1.2.length c2], own cd23 a1 s1.1.length c1 s1.1, rowsQ cd2 23 a2 s1.2.length c2 s1.2 [(qas_lists0, qcs_lists0, qls_lists0)], it] := H35.pick [2, 1, 0, 3] (by kernel_rfl)
      have hB1 := M.ret_some hB1
      have gx1 := houty1 _ hB1.symm
      subst gx1
      exact Run_fall [0, 1] (by kernel_rfl) ⟨(s1.1, s1.2), a1, c1, a2, c2, rfl, rfl, H36⟩

set_option maxRecDepth 100000 in
set_option maxHeartbeats 4000000 in
theorem w_spec_l07Find_B (h hE : Heap) (it : Item) (s_ : TL07series) (bs_ : Nat) (as_a : Option Addr) (cs_a : Nat) (rs_a : Rd cd23 h (Lt h) as_a cs_a s_.a) (as_last : Option Addr) (cs_last : Nat) (as_lists : Option Addr) (cs_lists : Nat) (HM : Hold h hE [box bs_ 96 [.slice as_a s_.a.length cs_a, .slice as_last s_.last.length cs_last, .slice as_lists s_.lists.length cs_lists], own cd23 as_last s_.last.length cs_last s_.last, own cd23 as_lists s_.lists.length cs_lists s_.lists, it]) (n : Nat) (r : Int × Int × Int × Int × TL07series) (hF : spec_l07Find_B s_ n = some r) :
    Fn Try.prog 79 #[.pointer (some ⟨bs_, 0, none⟩)] hE fun v h' => ∃ (a0 : Option Addr) (c0 : Nat), ∃ (a1 : Option Addr) (c1 : Nat), v = .tuple #[.int .i64 r.1, .int .i64 r.2.1, .int .i64 r.2.2.1, .int .i64 r.2.2.2.1] ∧ Hold h h' [box bs_ 96 [.slice as_a s_.a.length cs_a, .slice a0 r.2.2.2.2.last.length c0, .slice a1 r.2.2.2.2.lists.length c1], own cd23 a0 r.2.2.2.2.last.length c0 r.2.2.2.2.last, own cd23 a1 r.2.2.2.2.lists.length c1 r.2.2.2.2.lists, it] := by
  unfold spec_l07Find_B at hF
  refine Fn_enter (args := [.pointer (some ⟨bs_, 0, none⟩)]) Try.func79 rfl (by kernel_rfl) (by kernel_rfl) (fun w0 _ => ?_)
  refine Run_seq ?_
  refine Run_reg 4 (by kernel_rfl) (L' := [(0, .pointer (some ⟨bs_, 0, none⟩))]) ?_ ?_
  · refine QRun_b [.int .i64 0, .int .i64 0, .int .i64 0, .int .i64 0] 0 _ (by kernel_rfl) (fun w => by kernel_rfl) ?_
    exact QRun_done [0] (by kernel_rfl) (by kernel_rfl)
  refine Run_seq ?_
  refine Run_seq ?_
  refine Run_reg 1 (by kernel_rfl) (L' := [(0, .pointer (some ⟨bs_, 0, none⟩)), (6, .int .i64 0)]) ?_ ?_
  · refine QRun_b [.int .i64 0] 0 _ (by kernel_rfl) (fun w => by kernel_rfl) ?_
    exact QRun_done [0, 6] (by kernel_rfl) (by kernel_rfl)
  obtain ⟨x1, gx1, hF⟩ := M.bind_some hF
  obtain ⟨hloy1, hhiy1, gx1⟩ := M.for_start gx1
  refine Run_join (fun L' h' => ∃ (s2 : (List (List Int)) × (List (List Int))) (a3 : Option Addr) (c3 : Nat) (a4 : Option Addr) (c4 : Nat), x1 = .inl s2 ∧ L' = [] ∧ Hold h h' [box bs_ 96 [.slice as_a s_.a.length cs_a, .slice a3 s2.1.length c3, .slice a4 s2.2.length c4], own cd23 a3 s2.1.length c3 s2.1, own cd23 a4 s2.2.length c4 s2.2, it]) ?_ ?_
  · rintro _ h2 ⟨s2, a3, c3, a4, c4, es2, rfl, H2⟩
    have hF := M.cont_inl' hF es2
    refine Run_seq ?_
    refine Run_reg 4 (by kernel_rfl) (L' := [(2, .int .i64 0), (3, .int .i64 0), (4, .int .i64 0), (5, .int .i64 4)]) ?_ ?_
    · refine QRun_b [.int .i64 0, .int .i64 0, .int .i64 0, .int .i64 4] 0 _ (by kernel_rfl) (fun w => by kernel_rfl) ?_
      exact QRun_done [2, 3, 4, 5] (by kernel_rfl) (by kernel_rfl)
    have hF := M.ret_some hF
    subst hF
    have H45 : Hold h h2 [own cd23 a3 s2.1.length c3 s2.1, box bs_ 96 [.slice as_a s_.a.length cs_a, .slice a3 s2.1.length c3, .slice a4 s2.2.length c4], own cd23 a4 s2.2.length c4 s2.2, it] := H2.pick [1, 0, 2, 3] (by kernel_rfl)
    have H46 : Hold h h2 [own cd23 a4 s2.2.length c4 s2.2, own cd23 a3 s2.1.length c3 s2.1, box bs_ 96 [.slice as_a s_.a.length cs_a, .slice a3 s2.1.length c3, .slice a4 s2.2.length c4], it] := H45.pick [2, 0, 1, 3] (by kernel_rfl)
    have H47 : Hold h h2 [box bs_ 96 [.slice as_a s_.a.length cs_a, .slice a3 s2.1.length c3, .slice a4 s2.2.length c4], own cd23 a3 s2.1.length c3 s2.1, own cd23 a4 s2.2.length c4 s2.2, it] := H46.pick [2, 1, 0, 3] (by kernel_rfl)
    exact Run_ret4 rfl (ResV_tmp (v := .int .i64 0) (by kernel_rfl)) (ResV_tmp (v := .int .i64 0) (by kernel_rfl)) (ResV_tmp (v := .int .i64 0) (by kernel_rfl)) (ResV_tmp (v := .int .i64 4) (by kernel_rfl)) ⟨a3, c3, a4, c4, rfl, H47⟩
  · refine Run_block ?_
    have H48 : Hold h hE [own cd23 as_last s_.last.length cs_last s_.last, box bs_ 96 [.slice as_a s_.a.length cs_a, .slice as_last s_.last.length cs_last, .slice as_lists s_.lists.length cs_lists], own cd23 as_lists s_.lists.length cs_lists s_.lists, it] := HM.pick [1, 0, 2, 3] (by kernel_rfl)
    have H49 : Hold h hE [own cd23 as_lists s_.lists.length cs_lists s_.lists, own cd23 as_last s_.last.length cs_last s_.last, box bs_ 96 [.slice as_a s_.a.length cs_a, .slice as_last s_.last.length cs_last, .slice as_lists s_.lists.length cs_lists], it] := H48.pick [2, 0, 1, 3] (by kernel_rfl)
    have H50 : Hold h hE [box bs_ 96 [.slice as_a s_.a.length cs_a, .slice as_last s_.last.length cs_last, .slice as_lists s_.lists.length cs_lists], own cd23 as_last s_.last.length cs_last s_.last, own cd23 as_lists s_.lists.length cs_lists s_.lists, it] := H49.pick [2, 1, 0, 3] (by kernel_rfl)
    refine Run_keep [0, 6] (L' := [(0, .pointer (some ⟨bs_, 0, none⟩)), (6, .int .i64 0)]) (by kernel_rfl) ?_
    refine Run_loop (fun m L' h' => ∃ (i1 : Int) (s1 : (List (List Int)) × (List (List Int))) (a1 : Option Addr) (c1 : Nat) (a2 : Option Addr) (c2 : Nat), 0 ≤ i1 ∧ M.forN 100 _ _ n m i1 s1 = some x1 ∧ L' = [(0, .pointer (some ⟨bs_, 0, none⟩)), (6, .int .i64 i1)] ∧ Hold h h' [box bs_ 96 [.slice as_a s_.a.length cs_a, .slice a1 s1.1.length c1, .slice a2 s1.2.length c2], own cd23 a1 s1.1.length c1 s1.1, own cd23 a2 s1.2.length c2 s1.2, it]) (100 - 0 : Int).toNat ⟨0, (s_.last, s_.lists), as_last, cs_last, as_lists, cs_lists, Int.le_refl _, gx1, rfl, H50⟩ ?_
    rintro my1 _ h1 ⟨i1, s1, a1, c1, a2, c2, hloy1', gx1, rfl, H1⟩
    refine Run_seq ?_
    refine Run_seq ?_
    refine Run_reg 2 (by kernel_rfl) (L' := [(0, .pointer (some ⟨bs_, 0, none⟩)), (6, .int .i64 i1), (15, .bool (decide (i1 < 100)))]) ?_ ?_
    · refine QRun_b [.int .i64 i1, .bool (decide (i1 < 100))] 0 _ (by kernel_rfl) (fun w => by kernel_rfl) ?_
      exact QRun_done [0, 6, 15] (by kernel_rfl) (by kernel_rfl)
    refine Run_cond (b := decide (i1 < 100)) (by kernel_rfl) (fun hb1 => ?_) (fun hb1 => ?_)
    · obtain ⟨my1, y1, rfl, hB1, hgoy1, houty1⟩ := M.for_go gx1 hb1
      have hlty1 := of_decide_eq_true hb1
      refine Run_skip ?_
      refine Run_seq ?_
      refine Run_block ?_
      refine Run_seq ?_
      refine Run_ops ?_
      refine Run_b [.pointer (some ⟨bs_, 0, none⟩), .int .i64 i1] 0 _ (by kernel_rfl) (fun w => by kernel_rfl) ?_
      obtain ⟨x2, hx1, hB1⟩ := M.bind_some hB1
      have H3 : Hold h h1 [own cd23 a1 s1.1.length c1 s1.1, box bs_ 96 [.slice as_a s_.a.length cs_a, .slice a1 s1.1.length c1, .slice a2 s1.2.length c2], own cd23 a2 s1.2.length c2 s1.2, it] := H1.pick [1, 0, 2, 3] (by kernel_rfl)
      have H4 : Hold h h1 [own cd23 a2 s1.2.length c2 s1.2, own cd23 a1 s1.1.length c1 s1.1, box bs_ 96 [.slice as_a s_.a.length cs_a, .slice a1 s1.1.length c1, .slice a2 s1.2.length c2], it] := H3.pick [2, 0, 1, 3] (by kernel_rfl)
      have H5 := H4.toQ
      have H6 : Hold h h1 [box bs_ 96 [.slice as_a s_.a.length cs_a, .slice a1 s1.1.length c1, .slice a2 s1.2.length c2], own cd23 a1 s1.1.length c1 s1.1, rowsQ cd2 23 a2 s1.2.length c2 s1.2 [], it] := H5.pick [2, 1, 0, 3] (by kernel_rfl)
      have H7 : Hold h h1 [box bs_ 96 [.slice as_a s_.a.length cs_a, .slice a1 s1.1.length c1, .slice a2 s1.2.length c2], own cd23 a1 s1.1.length c1 s1.1, rowsQ cd2 23 a2 s1.2.length c2 s1.2 [], bun [it]] := Hold.bundle (S := [box bs_ 96 [.slice as_a s_.a.length cs_a, .slice a1 s1.1.length c1, .slice a2 s1.2.length c2], own cd23 a1 s1.1.length c1 s1.1, rowsQ cd2 23 a2 s1.2.length c2 s1.2 []]) (R := [it]) H6
      refine Run_E (by kernel_rfl) ?_
      refine E_call (f := 95) (args := #[.pointer (some ⟨bs_, 0, none⟩), .int .i64 i1]) (w_spec_l07At_BQ0 h h1 _ (⟨s_.a, s1.1, s1.2⟩ : TL07series) bs_ as_a cs_a rs_a a1 c1 a2 c2 i1 H7 _ _ hx1) (by kernel_rfl) (fun v1 h3 hp1 => ?_)
      obtain ⟨a5, c5, a6, c6, a7, c7, rfl, H8⟩ := hp1
      have H9 : Hold h h3 [box bs_ 96 [.slice as_a s_.a.length cs_a, .slice a6 x2.2.2.last.length c6, .slice a7 x2.2.2.lists.length c7], own cd23 a6 x2.2.2.last.length c6 x2.2.2.last, rowsQ cd2 23 a7 x2.2.2.lists.length c7 x2.2.2.lists [(a5, c5, x2.1)], it] := Hold.unbundle (S := [box bs_ 96 [.slice as_a s_.a.length cs_a, .slice a6 x2.2.2.last.length c6, .slice a7 x2.2.2.lists.length c7], own cd23 a6 x2.2.2.last.length c6 x2.2.2.last, rowsQ cd2 23 a7 x2.2.2.lists.length c7 x2.2.2.lists [(a5, c5, x2.1)]]) (R := [it]) H8 (Hold.tailBase (S := [box bs_ 96 [.slice as_a s_.a.length cs_a, .slice a1 s1.1.length c1, .slice a2 s1.2.length c2], own cd23 a1 s1.1.length c1 s1.1, rowsQ cd2 23 a2 s1.2.length c2 s1.2 []]) (R := [it]) H6)
      refine Run_b [.tuple #[.slice a5 x2.1.length c5, .bool x2.2.1], .slice a5 x2.1.length c5, .bool x2.2.1, .slice a5 x2.1.length c5, .bool x2.2.1] 3 _ (by kernel_rfl) (fun w => by kernel_rfl) ?_
      refine Run_nil (by kernel_rfl) ?_
      refine Run_keep [0, 6, 7] (L' := [(0, .pointer (some ⟨bs_, 0, none⟩)), (6, .int .i64 i1), (7, .slice a5 x2.1.length c5)]) (by kernel_rfl) ?_
      refine Run_seq ?_
      refine Run_reg 1 (by kernel_rfl) (L' := [(0, .pointer (some ⟨bs_, 0, none⟩)), (6, .int .i64 i1), (7, .slice a5 x2.1.length c5), (9, .int .i64 1)]) ?_ ?_
      · refine QRun_b [.int .i64 1] 0 _ (by kernel_rfl) (fun w => by kernel_rfl) ?_
        exact QRun_done [0, 6, 7, 9] (by kernel_rfl) (by kernel_rfl)
      obtain ⟨x3, gx3, hB1⟩ := M.bind_some hB1
      refine Run_join (fun L' h' => ∃ (s4 : (List (List Int)) × (List (List Int)) × Int) (a10 : Option Addr) (c10 : Nat) (a11 : Option Addr) (c11 : Nat), x3 = .inl s4 ∧ L' = [(0, .pointer (some ⟨bs_, 0, none⟩)), (6, .int .i64 i1)] ∧ Hold h h' [box bs_ 96 [.slice as_a s_.a.length cs_a, .slice a10 s4.1.length c10, .slice a11 s4.2.1.length c11], own cd23 a10 s4.1.length c10 s4.1, rowsQ cd2 23 a11 s4.2.1.length c11 s4.2.1 [(a5, c5, x2.1)], it]) ?_ ?_
      · rintro _ h5 ⟨s4, a10, c10, a11, c11, es4, rfl, H11⟩
        have hB1 := M.cont_inl' hB1 es4
        refine Run_blk ?_
        refine Run_reg 3 (by kernel_rfl) (L' := [(0, .pointer (some ⟨bs_, 0, none⟩)), (6, .int .i64 (i1 + 1))]) ?_ ?_
        · refine QRun_b [.int .i64 i1] 0 _ (by kernel_rfl) (fun w => by kernel_rfl) ?_
          refine QRun_y (.int .i64 (i1 + 1)) (by kernel_rfl) (Y_eq (v := .int .i64 (w64 (i1 + 1))) (Y_pure (fun w => by kernel_rfl)) (by rw [w64_eq _ (by omega)])) ?_
          refine QRun_b [.int .i64 (i1 + 1)] 2 _ (by kernel_rfl) (fun w => by kernel_rfl) ?_
          exact QRun_done [0, 6] (by kernel_rfl) (by kernel_rfl)
        have H35 : Hold h h5 [own cd23 a10 s4.1.length c10 s4.1, box bs_ 96 [.slice as_a s_.a.length cs_a, .slice a10 s4.1.length c10, .slice a11 s4.2.1.length c11], rowsQ cd2 23 a11 s4.2.1.length c11 s4.2.1 [(a5, c5, x2.1)], it] := H11.pick [1, 0, 2, 3] (by kernel_rfl)
        have H36 : Hold h h5 [rowsQ cd2 23 a11 s4.2.1.length c11 s4.2.1 [(a5, c5, x2.1)], own cd23 a10 s4.1.length c10 s4.1, box bs_ 96 [.slice as_a s_.a.length cs_a, .slice a10 s4.1.length c10, .slice a11 s4.2.1.length c11], it] := H35.pick [2, 0, 1, 3] (by kernel_rfl)
        have H37 := H36.ofQ
        have H38 : Hold h h5 [box bs_ 96 [.slice as_a s_.a.length cs_a, .slice a10 s4.1.length c10, .slice a11 s4.2.1.length c11], own cd23 a10 s4.1.length c10 s4.1, own cd23 a11 s4.2.1.length c11 s4.2.1, it] := H37.pick [2, 1, 0, 3] (by kernel_rfl)
        have hB1 := M.ret_some hB1
        have gx1 := hgoy1 _ hB1.symm
        exact Run_again [0, 6] (by kernel_rfl) my1 (Nat.lt_succ_self _) ⟨i1 + 1, (s4.1, s4.2.1), a10, c10, a11, c11, by omega, gx1, rfl, H38⟩
      · refine Run_block ?_
        have H39 : Hold h h3 [own cd23 a6 x2.2.2.last.length c6 x2.2.2.last, box bs_ 96 [.slice as_a s_.a.length cs_a, .slice a6 x2.2.2.last.length c6, .slice a7 x2.2.2.lists.length c7], rowsQ cd2 23 a7 x2.2.2.lists.length c7 x2.2.2.lists [(a5, c5, x2.1)], it] := H9.pick [1, 0, 2, 3] (by kernel_rfl)
        have H40 : Hold h h3 [rowsQ cd2 23 a7 x2.2.2.lists.length c7 x2.2.2.lists [(a5, c5, x2.1)], own cd23 a6 x2.2.2.last.length c6 x2.2.2.last, box bs_ 96 [.slice as_a s_.a.length cs_a, .slice a6 x2.2.2.last.length c6, .slice a7 x2.2.2.lists.length c7], it] := H39.pick [2, 0, 1, 3] (by kernel_rfl)
        have H41 : Hold h h3 [box bs_ 96 [.slice as_a s_.a.length cs_a, .slice a6 x2.2.2.last.length c6, .slice a7 x2.2.2.lists.length c7], own cd23 a6 x2.2.2.last.length c6 x2.2.2.last, rowsQ cd2 23 a7 x2.2.2.lists.length c7 x2.2.2.lists [(a5, c5, x2.1)], it] := H40.pick [2, 1, 0, 3] (by kernel_rfl)
        refine Run_keep [0, 6, 7, 9] (L' := [(0, .pointer (some ⟨bs_, 0, none⟩)), (6, .int .i64 i1), (7, .slice a5 x2.1.length c5), (9, .int .i64 1)]) (by kernel_rfl) ?_
        refine Run_loop (fun m L' h' => ∃ (s3 : (List (List Int)) × (List (List Int)) × Int) (a8 : Option Addr) (c8 : Nat) (a9 : Option Addr) (c9 : Nat), M.loopN _ n m s3 = some x3 ∧ L' = [(0, .pointer (some ⟨bs_, 0, none⟩)), (6, .int .i64 i1), (7, .slice a5 x2.1.length c5), (9, .int .i64 s3.2.2)] ∧ Hold h h' [box bs_ 96 [.slice as_a s_.a.length cs_a, .slice a8 s3.1.length c8, .slice a9 s3.2.1.length c9], own cd23 a8 s3.1.length c8 s3.1, rowsQ cd2 23 a9 s3.2.1.length c9 s3.2.1 [(a5, c5, x2.1)], it]) n ⟨(x2.2.2.last, x2.2.2.lists, 1), a6, c6, a7, c7, gx3, rfl, H41⟩ ?_
        rintro my2 _ h4 ⟨s3, a8, c8, a9, c9, gx3, rfl, H10⟩
        obtain ⟨my2, y2, rfl, hB2, hgoy2, houty2⟩ := M.loop_some gx3
        refine Run_seq ?_
        refine Run_seq ?_
        refine Run_reg 4 (by kernel_rfl) (L' := [(0, .pointer (some ⟨bs_, 0, none⟩)), (6, .int .i64 i1), (7, .slice a5 x2.1.length c5), (9, .int .i64 s3.2.2), (27, .bool (decide ((w64 (i1 + s3.2.2)) ≤ 100)))]) ?_ ?_
        · refine QRun_b [.int .i64 i1, .int .i64 s3.2.2, .int .i64 (w64 (i1 + s3.2.2)), .bool (decide ((w64 (i1 + s3.2.2)) ≤ 100))] 0 _ (by kernel_rfl) (fun w => by kernel_rfl) ?_
          exact QRun_done [0, 6, 7, 9, 27] (by kernel_rfl) (by kernel_rfl)
        refine Run_cond (b := decide ((w64 (i1 + s3.2.2)) ≤ 100)) (by kernel_rfl) (fun hb2 => ?_) (fun hb2 => ?_)
        · have hB2 := (M.ite_some hB2).1 hb2
          refine Run_skip ?_
          refine Run_seq ?_
          refine Run_block ?_
          refine Run_seq ?_
          refine Run_ops ?_
          refine Run_b [.pointer (some ⟨bs_, 0, none⟩), .int .i64 i1, .int .i64 s3.2.2, .int .i64 (w64 (i1 + s3.2.2))] 0 _ (by kernel_rfl) (fun w => by kernel_rfl) ?_
          obtain ⟨x4, hx2, hB2⟩ := M.bind_some hB2
          have H12 : Hold h h4 [own cd23 a8 s3.1.length c8 s3.1, box bs_ 96 [.slice as_a s_.a.length cs_a, .slice a8 s3.1.length c8, .slice a9 s3.2.1.length c9], rowsQ cd2 23 a9 s3.2.1.length c9 s3.2.1 [(a5, c5, x2.1)], it] := H10.pick [1, 0, 2, 3] (by kernel_rfl)
          have H13 : Hold h h4 [rowsQ cd2 23 a9 s3.2.1.length c9 s3.2.1 [(a5, c5, x2.1)], own cd23 a8 s3.1.length c8 s3.1, box bs_ 96 [.slice as_a s_.a.length cs_a, .slice a8 s3.1.length c8, .slice a9 s3.2.1.length c9], it] := H12.pick [2, 0, 1, 3] (by kernel_rfl)
          have H14 : Hold h h4 [box bs_ 96 [.slice as_a s_.a.length cs_a, .slice a8 s3.1.length c8, .slice a9 s3.2.1.length c9], own cd23 a8 s3.1.length c8 s3.1, rowsQ cd2 23 a9 s3.2.1.length c9 s3.2.1 [(a5, c5, x2.1)], it] := H13.pick [2, 1, 0, 3] (by kernel_rfl)
          have H15 : Hold h h4 [box bs_ 96 [.slice as_a s_.a.length cs_a, .slice a8 s3.1.length c8, .slice a9 s3.2.1.length c9], own cd23 a8 s3.1.length c8 s3.1, rowsQ cd2 23 a9 s3.2.1.length c9 s3.2.1 [(a5, c5, x2.1)], bun [it]] := Hold.bundle (S := [box bs_ 96 [.slice as_a s_.a.length cs_a, .slice a8 s3.1.length c8, .slice a9 s3.2.1.length c9], own cd23 a8 s3.1.length c8 s3.1, rowsQ cd2 23 a9 s3.2.1.length c9 s3.2.1 [(a5, c5, x2.1)]]) (R := [it]) H14
          refine Run_E (by kernel_rfl) ?_
          refine E_call (f := 95) (args := #[.pointer (some ⟨bs_, 0, none⟩), .int .i64 (w64 (i1 + s3.2.2))]) (w_spec_l07At_BQ1 h h4 _ (⟨s_.a, s3.1, s3.2.1⟩ : TL07series) bs_ as_a cs_a rs_a a8 c8 a9 c9 a5 c5 x2.1 (w64 (i1 + s3.2.2)) H15 _ _ hx2) (by kernel_rfl) (fun v2 h6 hp2 => ?_)
          obtain ⟨a12, c12, a13, c13, a14, c14, rfl, H16⟩ := hp2
          have H17 : Hold h h6 [box bs_ 96 [.slice as_a s_.a.length cs_a, .slice a13 x4.2.2.last.length c13, .slice a14 x4.2.2.lists.length c14], own cd23 a13 x4.2.2.last.length c13 x4.2.2.last, rowsQ cd2 23 a14 x4.2.2.lists.length c14 x4.2.2.lists [(a12, c12, x4.1), (a5, c5, x2.1)], it] := Hold.unbundle (S := [box bs_ 96 [.slice as_a s_.a.length cs_a, .slice a13 x4.2.2.last.length c13, .slice a14 x4.2.2.lists.length c14], own cd23 a13 x4.2.2.last.length c13 x4.2.2.last, rowsQ cd2 23 a14 x4.2.2.lists.length c14 x4.2.2.lists [(a12, c12, x4.1), (a5, c5, x2.1)]]) (R := [it]) H16 (Hold.tailBase (S := [box bs_ 96 [.slice as_a s_.a.length cs_a, .slice a8 s3.1.length c8, .slice a9 s3.2.1.length c9], own cd23 a8 s3.1.length c8 s3.1, rowsQ cd2 23 a9 s3.2.1.length c9 s3.2.1 [(a5, c5, x2.1)]]) (R := [it]) H14)
          refine Run_b [.tuple #[.slice a12 x4.1.length c12, .bool x4.2.1], .slice a12 x4.1.length c12, .bool x4.2.1, .slice a12 x4.1.length c12, .bool x4.2.1] 5 _ (by kernel_rfl) (fun w => by kernel_rfl) ?_
          refine Run_nil (by kernel_rfl) ?_
          refine Run_keep [0, 6, 7, 9, 10, 11] (L' := [(0, .pointer (some ⟨bs_, 0, none⟩)), (6, .int .i64 i1), (7, .slice a5 x2.1.length c5), (9, .int .i64 s3.2.2), (10, .slice a12 x4.1.length c12), (11, .bool x4.2.1)]) (by kernel_rfl) ?_
          refine Run_seq ?_
          refine Run_seq ?_
          refine Run_reg 2 (by kernel_rfl) (L' := [(0, .pointer (some ⟨bs_, 0, none⟩)), (6, .int .i64 i1), (7, .slice a5 x2.1.length c5), (9, .int .i64 s3.2.2), (10, .slice a12 x4.1.length c12), (39, .bool (!x4.2.1))]) ?_ ?_
          · refine QRun_b [.bool x4.2.1, .bool (!x4.2.1)] 0 _ (by kernel_rfl) (fun w => by kernel_rfl) ?_
            exact QRun_done [0, 6, 7, 9, 10, 39] (by kernel_rfl) (by kernel_rfl)
          refine Run_cond (b := !x4.2.1) (by kernel_rfl) (fun hb3 => ?_) (fun hb3 => ?_)
          · have hB2 := (M.ite_some hB2).1 hb3
            refine Run_seq ?_
            refine Run_reg 4 (by kernel_rfl) (L' := [(2, .int .i64 0), (3, .int .i64 0), (4, .int .i64 0), (5, .int .i64 3)]) ?_ ?_
            · refine QRun_b [.int .i64 0, .int .i64 0, .int .i64 0, .int .i64 3] 0 _ (by kernel_rfl) (fun w => by kernel_rfl) ?_
              exact QRun_done [2, 3, 4, 5] (by kernel_rfl) (by kernel_rfl)
            have hB2 := M.ret_some hB2
            have gx3 := houty2 _ hB2.symm
            have hB1 := M.cont_inr' hB1 gx3
            have hB1 := M.ret_some hB1
            have gx1 := houty1 _ hB1.symm
            have hF := M.cont_inr' hF gx1
            have hF := M.ret_some hF
            subst hF
            have H18 : Hold h h6 [own cd23 a13 x4.2.2.last.length c13 x4.2.2.last, box bs_ 96 [.slice as_a s_.a.length cs_a, .slice a13 x4.2.2.last.length c13, .slice a14 x4.2.2.lists.length c14], rowsQ cd2 23 a14 x4.2.2.lists.length c14 x4.2.2.lists [(a12, c12, x4.1), (a5, c5, x2.1)], it] := H17.pick [1, 0, 2, 3] (by kernel_rfl)
            have H19 : Hold h h6 [rowsQ cd2 23 a14 x4.2.2.lists.length c14 x4.2.2.lists [(a12, c12, x4.1), (a5, c5, x2.1)], own cd23 a13 x4.2.2.last.length c13 x4.2.2.last, box bs_ 96 [.slice as_a s_.a.length cs_a, .slice a13 x4.2.2.last.length c13, .slice a14 x4.2.2.lists.length c14], it] := H18.pick [2, 0, 1, 3] (by kernel_rfl)
            have H20 := H19.ofQ
            have H21 : Hold h h6 [box bs_ 96 [.slice as_a s_.a.length cs_a, .slice a13 x4.2.2.last.length c13, .slice a14 x4.2.2.lists.length c14], own cd23 a13 x4.2.2.last.length c13 x4.2.2.last, own cd23 a14 x4.2.2.lists.length c14 x4.2.2.lists, it] := H20.pick [2, 1, 0, 3] (by kernel_rfl)
            exact Run_ret4 rfl (ResV_tmp (v := .int .i64 0) (by kernel_rfl)) (ResV_tmp (v := .int .i64 0) (by kernel_rfl)) (ResV_tmp (v := .int .i64 0) (by kernel_rfl)) (ResV_tmp (v := .int .i64 3) (by kernel_rfl)) ⟨a13, c13, a14, c14, rfl, H21⟩
          · have hB2 := (M.ite_some hB2).2 hb3
            refine Run_skip ?_
            refine Run_seq ?_
            obtain ⟨x5, hx3, hB2⟩ := M.bind_some hB2
            refine Run_regC (j := 8) (C := fun x => Hold h x [box bs_ 96 [.slice as_a s_.a.length cs_a, .slice a13 x4.2.2.last.length c13, .slice a14 x4.2.2.lists.length c14], own cd23 a13 x4.2.2.last.length c13 x4.2.2.last, rowsQ cd2 23 a14 x4.2.2.lists.length c14 x4.2.2.lists [(a12, c12, x4.1), (a5, c5, x2.1)], it]) (by kernel_rfl) H17 (L' := [(0, .pointer (some ⟨bs_, 0, none⟩)), (6, .int .i64 i1), (7, .slice a5 x2.1.length c5), (9, .int .i64 s3.2.2), (12, .int .i64 x5.1), (13, .bool x5.2)]) ?_ (fun h7 H22 => ?_)
            · refine QRun_b [.slice a5 x2.1.length c5, .slice a12 x4.1.length c12] 0 _ (by kernel_rfl) (fun w => by kernel_rfl) ?_
              refine QRun_y (.tuple #[.int .i64 x5.1, .bool x5.2]) (by kernel_rfl) (Y_call (f := 133) (args := #[.slice a5 x2.1.length c5, .slice a12 x4.1.length c12]) (v := .tuple #[.int .i64 x5.1, .bool x5.2]) (by kernel_rfl) fun hx Hx => (w_spec_l07Gap hx x2.1 a5 c5 (Hx.rdPeek 2 rfl 1 rfl) x4.1 a12 c12 (Hx.rdPeek 2 rfl 0 rfl) _ _ hx3).mono fun _ _ ⟨e, H'⟩ => ⟨e, Hx.call H' rfl⟩) ?_
              refine QRun_b [.tuple #[.int .i64 x5.1, .bool x5.2], .int .i64 x5.1, .bool x5.2, .int .i64 x5.1, .bool x5.2] 3 _ (by kernel_rfl) (fun w => by kernel_rfl) ?_
              exact QRun_done [0, 6, 7, 9, 12, 13] (by kernel_rfl) (by kernel_rfl)
            have H23 : Hold h h7 [box bs_ 96 [.slice as_a s_.a.length cs_a, .slice a13 x4.2.2.last.length c13, .slice a14 x4.2.2.lists.length c14], own cd23 a13 x4.2.2.last.length c13 x4.2.2.last, rowsQ cd2 23 a14 x4.2.2.lists.length c14 x4.2.2.lists [(a12, c12, x4.1), (a5, c5, x2.1)], it] := H22
            refine Run_seq ?_
            refine Run_reg 1 (by kernel_rfl) (L' := [(0, .pointer (some ⟨bs_, 0, none⟩)), (6, .int .i64 i1), (7, .slice a5 x2.1.length c5), (9, .int .i64 s3.2.2), (12, .int .i64 x5.1), (46, .bool x5.2)]) ?_ ?_
            · refine QRun_b [.bool x5.2] 0 _ (by kernel_rfl) (fun w => by kernel_rfl) ?_
              exact QRun_done [0, 6, 7, 9, 12, 46] (by kernel_rfl) (by kernel_rfl)
            refine Run_cond (b := x5.2) (by kernel_rfl) (fun hb4 => ?_) (fun hb4 => ?_)
            · have hB2 := (M.ite_some hB2).1 hb4
              refine Run_seq ?_
              refine Run_reg 7 (by kernel_rfl) (L' := [(2, .int .i64 i1), (3, .int .i64 s3.2.2), (4, .int .i64 x5.1), (5, .int .i64 0)]) ?_ ?_
              · refine QRun_b [.int .i64 i1, .int .i64 s3.2.2, .int .i64 x5.1, .int .i64 i1, .int .i64 s3.2.2, .int .i64 x5.1, .int .i64 0] 0 _ (by kernel_rfl) (fun w => by kernel_rfl) ?_
                exact QRun_done [2, 3, 4, 5] (by kernel_rfl) (by kernel_rfl)
              have hB2 := M.ret_some hB2
              have gx3 := houty2 _ hB2.symm
              have hB1 := M.cont_inr' hB1 gx3
              have hB1 := M.ret_some hB1
              have gx1 := houty1 _ hB1.symm
              have hF := M.cont_inr' hF gx1
              have hF := M.ret_some hF
              subst hF
              have H24 : Hold h h7 [own cd23 a13 x4.2.2.last.length c13 x4.2.2.last, box bs_ 96 [.slice as_a s_.a.length cs_a, .slice a13 x4.2.2.last.length c13, .slice a14 x4.2.2.lists.length c14], rowsQ cd2 23 a14 x4.2.2.lists.length c14 x4.2.2.lists [(a12, c12, x4.1), (a5, c5, x2.1)], it] := H23.pick [1, 0, 2, 3] (by kernel_rfl)
              have H25 : Hold h h7 [rowsQ cd2 23 a14 x4.2.2.lists.length c14 x4.2.2.lists [(a12, c12, x4.1), (a5, c5, x2.1)], own cd23 a13 x4.2.2.last.length c13 x4.2.2.last, box bs_ 96 [.slice as_a s_.a.length cs_a, .slice a13 x4.2.2.last.length c13, .slice a14 x4.2.2.lists.length c14], it] := H24.pick [2, 0, 1, 3] (by kernel_rfl)
              have H26 := H25.ofQ
              have H27 : Hold h h7 [box bs_ 96 [.slice as_a s_.a.length cs_a, .slice a13 x4.2.2.last.length c13, .slice a14 x4.2.2.lists.length c14], own cd23 a13 x4.2.2.last.length c13 x4.2.2.last, own cd23 a14 x4.2.2.lists.length c14 x4.2.2.lists, it] := H26.pick [2, 1, 0, 3] (by kernel_rfl)
              exact Run_ret4 rfl (ResV_tmp (v := .int .i64 i1) (by kernel_rfl)) (ResV_tmp (v := .int .i64 s3.2.2) (by kernel_rfl)) (ResV_tmp (v := .int .i64 x5.1) (by kernel_rfl)) (ResV_tmp (v := .int .i64 0) (by kernel_rfl)) ⟨a13, c13, a14, c14, rfl, H27⟩
            · have hB2 := (M.ite_some hB2).2 hb4
              refine Run_skip ?_
              refine Run_blk ?_
              refine Run_reg 3 (by kernel_rfl) (L' := [(0, .pointer (some ⟨bs_, 0, none⟩)), (6, .int .i64 i1), (7, .slice a5 x2.1.length c5), (9, .int .i64 (w64 (s3.2.2 + 1)))]) ?_ ?_
              · refine QRun_b [.int .i64 s3.2.2, .int .i64 (w64 (s3.2.2 + 1)), .int .i64 (w64 (s3.2.2 + 1))] 0 _ (by kernel_rfl) (fun w => by kernel_rfl) ?_
                exact QRun_done [0, 6, 7, 9] (by kernel_rfl) (by kernel_rfl)
              have H28 : Hold h h7 [own cd23 a13 x4.2.2.last.length c13 x4.2.2.last, box bs_ 96 [.slice as_a s_.a.length cs_a, .slice a13 x4.2.2.last.length c13, .slice a14 x4.2.2.lists.length c14], rowsQ cd2 23 a14 x4.2.2.lists.length c14 x4.2.2.lists [(a12, c12, x4.1), (a5, c5, x2.1)], it] := H23.pick [1, 0, 2, 3] (by kernel_rfl)
              have H29 : Hold h h7 [rowsQ cd2 23 a14 x4.2.2.lists.length c14 x4.2.2.lists [(a12, c12, x4.1), (a5, c5, x2.1)], own cd23 a13 x4.2.2.last.length c13 x4.2.2.last, box bs_ 96 [.slice as_a s_.a.length cs_a, .slice a13 x4.2.2.last.length c13, .slice a14 x4.2.2.lists.length c14], it] := H28.pick [2, 0, 1, 3] (by kernel_rfl)
              have H30 := H29.pickQ [(a5, c5, x2.1)] (by simp)
              have H31 : Hold h h7 [box bs_ 96 [.slice as_a s_.a.length cs_a, .slice a13 x4.2.2.last.length c13, .slice a14 x4.2.2.lists.length c14], own cd23 a13 x4.2.2.last.length c13 x4.2.2.last, rowsQ cd2 23 a14 x4.2.2.lists.length c14 x4.2.2.lists [(a5, c5, x2.1)], it] := H30.pick [2, 1, 0, 3] (by kernel_rfl)
              have hB2 := M.ret_some hB2
              have gx3 := hgoy2 _ hB2.symm
              exact Run_again [0, 6, 7, 9] (by kernel_rfl) my2 (Nat.lt_succ_self _) ⟨(x4.2.2.last, x4.2.2.lists, (w64 (s3.2.2 + 1))), a13, c13, a14, c14, gx3, rfl, H31⟩
        · have hB2 := (M.ite_some hB2).2 hb2
          refine Run_exit (k' := _) rfl ?_
          have H32 : Hold h h4 [own cd23 a8 s3.1.length c8 s3.1, box bs_ 96 [.slice as_a s_.a.length cs_a, .slice a8 s3.1.length c8, .slice a9 s3.2.1.length c9], rowsQ cd2 23 a9 s3.2.1.length c9 s3.2.1 [(a5, c5, x2.1)], it] := H10.pick [1, 0, 2, 3] (by kernel_rfl)
          have H33 : Hold h h4 [rowsQ cd2 23 a9 s3.2.1.length c9 s3.2.1 [(a5, c5, x2.1)], own cd23 a8 s3.1.length c8 s3.1, box bs_ 96 [.slice as_a s_.a.length cs_a, .slice a8 s3.1.length c8, .slice a9 s3.2.1.length c9], it] := H32.pick [2, 0, 1, 3] (by kernel_rfl)
          have H34 : Hold h h4 [box bs_ 96 [.slice as_a s_.a.length cs_a, .slice a8 s3.1.length c8, .slice a9 s3.2.1.length c9], own cd23 a8 s3.1.length c8 s3.1, rowsQ cd2 23 a9 s3.2.1.length c9 s3.2.1 [(a5, c5, x2.1)], it] := H33.pick [2, 1, 0, 3] (by kernel_rfl)
          have hB2 := M.ret_some hB2
          have gx3 := houty2 _ hB2.symm
          subst gx3
          exact Run_fall [0, 6] (by kernel_rfl) ⟨(s3.1, s3.2.1, s3.2.2), a8, c8, a9, c9, rfl, rfl, H34⟩
    · have gx1 := M.for_end gx1 hb1
      subst gx1
      refine Run_exit (k' := _) rfl ?_
      have H42 : Hold h h1 [own cd23 a1 s1.1.length c1 s1.1, box bs_ 96 [.slice as_a s_.a.length cs_a, .slice a1 s1.1.length c1, .slice a2 s1.2.length c2], own cd23 a2 s1.2.length c2 s1.2, it] := H1.pick [1, 0, 2, 3] (by kernel_rfl)
      have H43 : Hold h h1 [own cd23 a2 s1.2.length c2 s1.2, own cd23 a1 s1.1.length c1 s1.1, box bs_ 96 [.slice as_a s_.a.length cs_a, .slice a1 s1.1.length c1, .slice a2 s1.2.length c2], it] := H42.pick [2, 0, 1, 3] (by kernel_rfl)
      have H44 : Hold h h1 [box bs_ 96 [.slice as_a s_.a.length cs_a, .slice a1 s1.1.length c1, .slice a2 s1.2.length c2], own cd23 a1 s1.1.length c1 s1.1, own cd23 a2 s1.2.length c2 s1.2, it] := H43.pick [2, 1, 0, 3] (by kernel_rfl)
      exact Run_fall [] (by kernel_rfl) ⟨(s1.1, s1.2), a1, c1, a2, c2, rfl, rfl, H44⟩

set_option maxRecDepth 100000 in
set_option maxHeartbeats 4000000 in
theorem w_spec_SteadyState (h : Heap) (a_ : List (List Int)) (aa_ : Option Addr) (ca_ : Nat) (ra_ : Rd cd23 h (Lt h) aa_ ca_ a_) (x_ : List Int) (ax_ : Option Addr) (cx_ : Nat) (rx_ : Rd cd2 h (Lt h) ax_ cx_ x_) (n : Nat) (r : (List Int) × Int) (hF : spec_SteadyState a_ x_ n = some r) :
    Fn Try.prog 32 #[.slice aa_ a_.length ca_, .slice ax_ x_.length cx_] h fun v h' => ∃ (a0 : Option Addr) (c0 : Nat), v = .tuple #[.slice a0 r.1.length c0, .int .i64 r.2] ∧ Hold h h' [own cd2 a0 r.1.length c0 r.1] := by
  unfold spec_SteadyState at hF
  refine Fn_enter (args := [.slice aa_ a_.length ca_, .slice ax_ x_.length cx_]) Try.func32 rfl (by kernel_rfl) (by kernel_rfl) (fun w0 _ => ?_)
  have H0 := Hold.init h
  refine Run_seq ?_
  refine Run_reg 2 (by kernel_rfl) (L' := [(0, .slice aa_ a_.length ca_), (1, .slice ax_ x_.length cx_)]) ?_ ?_
  · refine QRun_b [.slice none 0 0, .int .i64 0] 0 _ (by kernel_rfl) (fun w => by kernel_rfl) ?_
    exact QRun_done [0, 1] (by kernel_rfl) (by kernel_rfl)
  refine Run_seq ?_
  obtain ⟨x1, hx1, hF⟩ := M.bind_some hF
  refine Run_reg 4 (by kernel_rfl) (L' := [(0, .slice aa_ a_.length ca_), (1, .slice ax_ x_.length cx_), (6, .int .i64 x1)]) ?_ ?_
  · refine QRun_b [.slice aa_ a_.length ca_, .slice ax_ x_.length cx_] 0 _ (by kernel_rfl) (fun w => by kernel_rfl) ?_
    refine QRun_y (.int .i64 x1) (by kernel_rfl) (Y_callq (f := 87) (args := #[.slice aa_ a_.length ca_, .slice ax_ x_.length cx_]) (v := .int .i64 x1) (by kernel_rfl) (w_spec_l07Code h a_ aa_ ca_ ra_ x_ ax_ cx_ rx_ _ _ hx1)) ?_
    refine QRun_b [.int .i64 x1] 3 _ (by kernel_rfl) (fun w => by kernel_rfl) ?_
    exact QRun_done [0, 1, 6] (by kernel_rfl) (by kernel_rfl)
  refine Run_seq ?_
  refine Run_seq ?_
  refine Run_reg 2 (by kernel_rfl) (L' := [(0, .slice aa_ a_.length ca_), (1, .slice ax_ x_.length cx_), (6, .int .i64 x1), (19, .bool (x1 != 0))]) ?_ ?_
  · refine QRun_b [.int .i64 x1, .bool (x1 != 0)] 0 _ (by kernel_rfl) (fun w => by kernel_rfl) ?_
    exact QRun_done [0, 1, 6, 19] (by kernel_rfl) (by kernel_rfl)
  refine Run_cond (b := x1 != 0) (by kernel_rfl) (fun hb1 => ?_) (fun hb1 => ?_)
  · have hF := (M.ite_some hF).1 hb1
    refine Run_seq ?_
    refine Run_reg 3 (by kernel_rfl) (L' := [(4, .slice none 0 0), (5, .int .i64 x1)]) ?_ ?_
    · refine QRun_b [.int .i64 x1, .slice none 0 0, .int .i64 x1] 0 _ (by kernel_rfl) (fun w => by kernel_rfl) ?_
      exact QRun_done [4, 5] (by kernel_rfl) (by kernel_rfl)
    have hF := M.ret_some hF
    subst hF
    have H1 := H0.empty cd2
    exact Run_ret2 rfl (ResV_tmp (v := .slice none 0 0) (by kernel_rfl)) (ResV_tmp (v := .int .i64 x1) (by kernel_rfl)) ⟨none, 0, rfl, H1⟩
  · have hF := (M.ite_some hF).2 hb1
    refine Run_skip ?_
    refine Run_seq ?_
    refine Run_ops ?_
    refine Run_b [.slice aa_ a_.length ca_, .slice ax_ x_.length cx_] 0 _ (by kernel_rfl) (fun w => by kernel_rfl) ?_
    obtain ⟨x2, hx2, hF⟩ := M.bind_some hF
    refine Run_E (by kernel_rfl) ?_
    refine E_call (f := 88) (args := #[.slice ax_ x_.length cx_]) (w_spec_l07Column h x_ ax_ cx_ rx_ _ _ hx2) (by kernel_rfl) (fun v1 h1 hp1 => ?_)
    obtain ⟨a1, c1, rfl, H2⟩ := hp1
    have H3 : Hold h h1 [own cd23 a1 x2.length c1 x2] := H0.call H2 rfl
    obtain ⟨x3, hx3, hF⟩ := M.bind_some hF
    refine Run_E (by kernel_rfl) ?_
    refine E_call (f := 77) (args := #[.slice aa_ a_.length ca_, .slice a1 x2.length c1]) (w_spec_l07Start h1 a_ aa_ ca_ (ra_.at H3.ext) x2 a1 c1 (H3.rd 0 rfl) _ _ hx3) (by kernel_rfl) (fun v2 h2 hp2 => ?_)
    obtain ⟨b1, a2, c2, a3, c3, a4, c4, rfl, hd1, hd2, H4⟩ := hp2
    have H5 : Hold h h2 [box b1 96 [.slice a2 x3.a.length c2, .slice a3 x3.last.length c3, .slice a4 x3.lists.length c4], own cd23 a4 x3.lists.length c4 x3.lists, own cd23 a1 x2.length c1 x2] := H3.call H4 rfl
    have r1 := ra_.alias hd1
    have H6 : Hold h h2 [own cd23 a1 x2.length c1 x2, box b1 96 [.slice a2 x3.a.length c2, .slice a3 x3.last.length c3, .slice a4 x3.lists.length c4], own cd23 a4 x3.lists.length c4 x3.lists] := H5.pick [2, 0, 1] (by kernel_rfl)
    have H7 := H6.alias hd2
    refine Run_b [.pointer (some ⟨b1, 0, none⟩)] 4 _ (by kernel_rfl) (fun w => by kernel_rfl) ?_
    refine Run_nil (by kernel_rfl) ?_
    refine Run_keep [1, 7] (L' := [(1, .slice ax_ x_.length cx_), (7, .pointer (some ⟨b1, 0, none⟩))]) (by kernel_rfl) ?_
    refine Run_seq ?_
    refine Run_ops ?_
    refine Run_b [.pointer (some ⟨b1, 0, none⟩)] 0 _ (by kernel_rfl) (fun w => by kernel_rfl) ?_
    obtain ⟨x4, hx4, hF⟩ := M.bind_some hF
    have H8 : Hold h h2 [own cd23 a4 x3.lists.length c4 x3.lists, own cd23 a3 x3.last.length c3 x3.last, box b1 96 [.slice a2 x3.a.length c2, .slice a3 x3.last.length c3, .slice a4 x3.lists.length c4]] := H7.pick [2, 0, 1] (by kernel_rfl)
    have H9 : Hold h h2 [box b1 96 [.slice a2 x3.a.length c2, .slice a3 x3.last.length c3, .slice a4 x3.lists.length c4], own cd23 a3 x3.last.length c3 x3.last, own cd23 a4 x3.lists.length c4 x3.lists] := H8.pick [2, 1, 0] (by kernel_rfl)
    have H10 : Hold h h2 [box b1 96 [.slice a2 x3.a.length c2, .slice a3 x3.last.length c3, .slice a4 x3.lists.length c4], own cd23 a3 x3.last.length c3 x3.last, own cd23 a4 x3.lists.length c4 x3.lists, bun []] := Hold.bundle (S := [box b1 96 [.slice a2 x3.a.length c2, .slice a3 x3.last.length c3, .slice a4 x3.lists.length c4], own cd23 a3 x3.last.length c3 x3.last, own cd23 a4 x3.lists.length c4 x3.lists]) (R := []) H9
    refine Run_E (by kernel_rfl) ?_
    refine E_call (f := 79) (args := #[.pointer (some ⟨b1, 0, none⟩)]) (w_spec_l07Find_B h h2 _ x3 b1 a2 c2 r1 a3 c3 a4 c4 H10 _ _ hx4) (by kernel_rfl) (fun v3 h3 hp3 => ?_)
    obtain ⟨a5, c5, a6, c6, rfl, H11⟩ := hp3
    have H12 : Hold h h3 [box b1 96 [.slice a2 x3.a.length c2, .slice a5 x4.2.2.2.2.last.length c5, .slice a6 x4.2.2.2.2.lists.length c6], own cd23 a5 x4.2.2.2.2.last.length c5 x4.2.2.2.2.last, own cd23 a6 x4.2.2.2.2.lists.length c6 x4.2.2.2.2.lists] := Hold.unbundle (S := [box b1 96 [.slice a2 x3.a.length c2, .slice a5 x4.2.2.2.2.last.length c5, .slice a6 x4.2.2.2.2.lists.length c6], own cd23 a5 x4.2.2.2.2.last.length c5 x4.2.2.2.2.last, own cd23 a6 x4.2.2.2.2.lists.length c6 x4.2.2.2.2.lists]) (R := []) H11 (Hold.tailBase (S := [box b1 96 [.slice a2 x3.a.length c2, .slice a3 x3.last.length c3, .slice a4 x3.lists.length c4], own cd23 a3 x3.last.length c3 x3.last, own cd23 a4 x3.lists.length c4 x3.lists]) (R := []) H9)
    refine Run_b [.tuple #[.int .i64 x4.1, .int .i64 x4.2.1, .int .i64 x4.2.2.1, .int .i64 x4.2.2.2.1], .int .i64 x4.1, .int .i64 x4.2.1, .int .i64 x4.2.2.1, .int .i64 x4.2.2.2.1, .int .i64 x4.1, .int .i64 x4.2.1, .int .i64 x4.2.2.1, .int .i64 x4.2.2.2.1] 2 _ (by kernel_rfl) (fun w => by kernel_rfl) ?_
    refine Run_nil (by kernel_rfl) ?_
    refine Run_keep [1, 7, 8, 11] (L' := [(1, .slice ax_ x_.length cx_), (7, .pointer (some ⟨b1, 0, none⟩)), (8, .int .i64 x4.1), (11, .int .i64 x4.2.2.2.1)]) (by kernel_rfl) ?_
    refine Run_seq ?_
    refine Run_seq ?_
    refine Run_reg 2 (by kernel_rfl) (L' := [(1, .slice ax_ x_.length cx_), (7, .pointer (some ⟨b1, 0, none⟩)), (8, .int .i64 x4.1), (11, .int .i64 x4.2.2.2.1), (33, .bool (x4.2.2.2.1 != 0))]) ?_ ?_
    · refine QRun_b [.int .i64 x4.2.2.2.1, .bool (x4.2.2.2.1 != 0)] 0 _ (by kernel_rfl) (fun w => by kernel_rfl) ?_
      exact QRun_done [1, 7, 8, 11, 33] (by kernel_rfl) (by kernel_rfl)
    refine Run_cond (b := x4.2.2.2.1 != 0) (by kernel_rfl) (fun hb2 => ?_) (fun hb2 => ?_)
    · have hF := (M.ite_some hF).1 hb2
      refine Run_seq ?_
      refine Run_reg 3 (by kernel_rfl) (L' := [(4, .slice none 0 0), (5, .int .i64 x4.2.2.2.1)]) ?_ ?_
      · refine QRun_b [.int .i64 x4.2.2.2.1, .slice none 0 0, .int .i64 x4.2.2.2.1] 0 _ (by kernel_rfl) (fun w => by kernel_rfl) ?_
        exact QRun_done [4, 5] (by kernel_rfl) (by kernel_rfl)
      have hF := M.ret_some hF
      subst hF
      have H13 := H12.empty cd2
      have H14 : Hold h h3 [own cd2 none 0 0 []] := H13.pick [0] (by kernel_rfl)
      exact Run_ret2 rfl (ResV_tmp (v := .slice none 0 0) (by kernel_rfl)) (ResV_tmp (v := .int .i64 x4.2.2.2.1) (by kernel_rfl)) ⟨none, 0, rfl, H14⟩
    · have hF := (M.ite_some hF).2 hb2
      refine Run_skip ?_
      refine Run_seq ?_
      refine Run_reg 1 (by kernel_rfl) (L' := [(1, .slice ax_ x_.length cx_), (7, .pointer (some ⟨b1, 0, none⟩)), (8, .int .i64 x4.1), (12, .int .i64 (-1000000000000000))]) ?_ ?_
      · refine QRun_b [.int .i64 (-1000000000000000)] 0 _ (by kernel_rfl) (fun w => by kernel_rfl) ?_
        exact QRun_done [1, 7, 8, 12] (by kernel_rfl) (by kernel_rfl)
      refine Run_seq ?_
      refine Run_seq ?_
      refine Run_reg 1 (by kernel_rfl) (L' := [(1, .slice ax_ x_.length cx_), (7, .pointer (some ⟨b1, 0, none⟩)), (8, .int .i64 x4.1), (12, .int .i64 (-1000000000000000)), (13, .int .i64 0)]) ?_ ?_
      · refine QRun_b [.int .i64 0] 0 _ (by kernel_rfl) (fun w => by kernel_rfl) ?_
        exact QRun_done [1, 7, 8, 12, 13] (by kernel_rfl) (by kernel_rfl)
      obtain ⟨x5, gx5, hF⟩ := M.bind_some hF
      obtain ⟨hloy1, hhiy1, gx5⟩ := M.for_start gx5
      refine Run_join (fun L' h' => L' = [(7, .pointer (some ⟨b1, 0, none⟩)), (8, .int .i64 x4.1), (12, .int .i64 x5)] ∧ Hold h h' [box b1 96 [.slice a2 x3.a.length c2, .slice a5 x4.2.2.2.2.last.length c5, .slice a6 x4.2.2.2.2.lists.length c6], own cd23 a5 x4.2.2.2.2.last.length c5 x4.2.2.2.2.last, own cd23 a6 x4.2.2.2.2.lists.length c6 x4.2.2.2.2.lists]) ?_ ?_
      · rintro _ h5 ⟨rfl, H16⟩
        refine Run_seq ?_
        refine Run_seq ?_
        refine Run_reg 2 (by kernel_rfl) (L' := [(7, .pointer (some ⟨b1, 0, none⟩)), (8, .int .i64 x4.1), (12, .int .i64 x5), (54, .bool (x5 == (-1000000000000000)))]) ?_ ?_
        · refine QRun_b [.int .i64 x5, .bool (x5 == (-1000000000000000))] 0 _ (by kernel_rfl) (fun w => by kernel_rfl) ?_
          exact QRun_done [7, 8, 12, 54] (by kernel_rfl) (by kernel_rfl)
        refine Run_cond (b := x5 == (-1000000000000000)) (by kernel_rfl) (fun hb4 => ?_) (fun hb4 => ?_)
        · have hF := (M.ite_some hF).1 hb4
          refine Run_seq ?_
          refine Run_ops ?_
          obtain ⟨x8, hx7, hF⟩ := M.bind_some hF
          obtain ⟨hx7l, hx7u, hx7⟩ := M.idx_some hx7
          have H24 : Hold h h5 [own cd23 a6 x4.2.2.2.2.lists.length c6 x4.2.2.2.2.lists, box b1 96 [.slice a2 x3.a.length c2, .slice a5 x4.2.2.2.2.last.length c5, .slice a6 x4.2.2.2.2.lists.length c6], own cd23 a5 x4.2.2.2.2.last.length c5 x4.2.2.2.2.last] := H16.pick [2, 0, 1] (by kernel_rfl)
          have H25 := H24.toRows
          obtain ⟨a8, c8, H26⟩ := H25.pinRow hx7
          have H27 : Hold h h5 [box b1 96 [.slice a2 x3.a.length c2, .slice a5 x4.2.2.2.2.last.length c5, .slice a6 x4.2.2.2.2.lists.length c6], own cd23 a5 x4.2.2.2.2.last.length c5 x4.2.2.2.2.last, rowsP cd2 23 a6 x4.2.2.2.2.lists.length c6 x4.2.2.2.2.lists [(x4.1.toNat, a8, x8.length, c8, x8)]] := H26.pick [1, 2, 0] (by kernel_rfl)
          refine Run_b [.pointer (some ⟨b1, 0, none⟩), .pointer (some ⟨b1, 0, none⟩), .pointer (some ⟨b1, 2, none⟩)] 0 _ (by kernel_rfl) (fun w => by kernel_rfl) ?_
          refine Run_y (.slice a6 x4.2.2.2.2.lists.length c6) (by kernel_rfl) (Y_load1 (t := 22) (p := ⟨b1, 2, none⟩) (v := .slice a6 x4.2.2.2.2.lists.length c6) (by kernel_rfl) (fun w => by kernel_rfl) (H16.cell 0 rfl rfl)) ?_
          refine Run_b [.int .i64 x4.1] 4 _ (by kernel_rfl) (fun w => by kernel_rfl) ?_
          refine Run_y (.pointer (some (adr a6 (x4.1.toNat * 1)))) (by kernel_rfl) (Y_idx (t := 22) (e := 23) (sz := 1) (a := a6) (n := x4.2.2.2.2.lists.length) (cap := c6) (kk := .i64) (i := x4.1) (by kernel_rfl) Try.underlying22 (by kernel_rfl) ((H16.rd 2 rfl).cell hx7).1 hx7l hx7u) ?_
          refine Run_y (.slice a8 x8.length c8) (by kernel_rfl) (Y_load1 (t := 23) (p := adr a6 (x4.1.toNat * 1)) (v := .slice a8 x8.length c8) (by kernel_rfl) (fun w => by kernel_rfl) (H27.cellPin 2 rfl 0 rfl)) ?_
          obtain ⟨x9, hx8, hF⟩ := M.bind_some hF
          refine Run_E (by kernel_rfl) ?_
          refine E_call (f := 97) (args := #[.slice a8 x8.length c8]) (w_spec_l01Own h5 x8 a8 c8 (H27.rdPin 2 rfl 0 rfl) _ _ hx8) (by kernel_rfl) (fun v4 h6 hp4 => ?_)
          obtain ⟨a9, c9, rfl, H28⟩ := hp4
          have H29 : Hold h h6 [own cd2 a9 x9.length c9 x9, box b1 96 [.slice a2 x3.a.length c2, .slice a5 x4.2.2.2.2.last.length c5, .slice a6 x4.2.2.2.2.lists.length c6], own cd23 a5 x4.2.2.2.2.last.length c5 x4.2.2.2.2.last, rowsP cd2 23 a6 x4.2.2.2.2.lists.length c6 x4.2.2.2.2.lists [(x4.1.toNat, a8, x8.length, c8, x8)]] := H27.call H28 rfl
          refine Run_b [.slice a9 x9.length c9, .int .i64 0] 8 _ (by kernel_rfl) (fun w => by kernel_rfl) ?_
          refine Run_nil (by kernel_rfl) ?_
          refine Run_keep [4, 5] (L' := [(4, .slice a9 x9.length c9), (5, .int .i64 0)]) (by kernel_rfl) ?_
          have hF := M.ret_some hF
          subst hF
          have H30 : Hold h h6 [own cd2 a9 x9.length c9 x9] := H29.pick [0] (by kernel_rfl)
          exact Run_ret2 rfl (ResV_tmp (v := .slice a9 x9.length c9) (by kernel_rfl)) (ResV_tmp (v := .int .i64 0) (by kernel_rfl)) ⟨a9, c9, rfl, H30⟩
        · have hF := (M.ite_some hF).2 hb4
          refine Run_skip ?_
          refine Run_seq ?_
          refine Run_ops ?_
          obtain ⟨x10, hx9, hF⟩ := M.bind_some hF
          obtain ⟨hx9l, hx9u, hx9⟩ := M.idx_some hx9
          have H31 : Hold h h5 [own cd23 a6 x4.2.2.2.2.lists.length c6 x4.2.2.2.2.lists, box b1 96 [.slice a2 x3.a.length c2, .slice a5 x4.2.2.2.2.last.length c5, .slice a6 x4.2.2.2.2.lists.length c6], own cd23 a5 x4.2.2.2.2.last.length c5 x4.2.2.2.2.last] := H16.pick [2, 0, 1] (by kernel_rfl)
          have H32 := H31.toRows
          obtain ⟨a10, c10, H33⟩ := H32.pinRow hx9
          have H34 : Hold h h5 [box b1 96 [.slice a2 x3.a.length c2, .slice a5 x4.2.2.2.2.last.length c5, .slice a6 x4.2.2.2.2.lists.length c6], own cd23 a5 x4.2.2.2.2.last.length c5 x4.2.2.2.2.last, rowsP cd2 23 a6 x4.2.2.2.2.lists.length c6 x4.2.2.2.2.lists [(x4.1.toNat, a10, x10.length, c10, x10)]] := H33.pick [1, 2, 0] (by kernel_rfl)
          refine Run_b [.pointer (some ⟨b1, 0, none⟩), .pointer (some ⟨b1, 0, none⟩), .pointer (some ⟨b1, 2, none⟩)] 0 _ (by kernel_rfl) (fun w => by kernel_rfl) ?_
          refine Run_y (.slice a6 x4.2.2.2.2.lists.length c6) (by kernel_rfl) (Y_load1 (t := 22) (p := ⟨b1, 2, none⟩) (v := .slice a6 x4.2.2.2.2.lists.length c6) (by kernel_rfl) (fun w => by kernel_rfl) (H16.cell 0 rfl rfl)) ?_
          refine Run_b [.int .i64 x4.1] 4 _ (by kernel_rfl) (fun w => by kernel_rfl) ?_
          refine Run_y (.pointer (some (adr a6 (x4.1.toNat * 1)))) (by kernel_rfl) (Y_idx (t := 22) (e := 23) (sz := 1) (a := a6) (n := x4.2.2.2.2.lists.length) (cap := c6) (kk := .i64) (i := x4.1) (by kernel_rfl) Try.underlying22 (by kernel_rfl) ((H16.rd 2 rfl).cell hx9).1 hx9l hx9u) ?_
          refine Run_y (.slice a10 x10.length c10) (by kernel_rfl) (Y_load1 (t := 23) (p := adr a6 (x4.1.toNat * 1)) (v := .slice a10 x10.length c10) (by kernel_rfl) (fun w => by kernel_rfl) (H34.cellPin 2 rfl 0 rfl)) ?_
          refine Run_b [.int .i64 x5, .int .i64 (w64 (0 - x5))] 7 _ (by kernel_rfl) (fun w => by kernel_rfl) ?_
          obtain ⟨x11, hx10, hF⟩ := M.bind_some hF
          refine Run_E (by kernel_rfl) ?_
          refine E_call (f := 98) (args := #[.slice a10 x10.length c10, .int .i64 (w64 (0 - x5))]) (w_spec_l07Shift h5 x10 a10 c10 (H34.rdPin 2 rfl 0 rfl) (w64 (0 - x5)) _ _ hx10) (by kernel_rfl) (fun v5 h7 hp5 => ?_)
          obtain ⟨a11, c11, rfl, H35⟩ := hp5
          have H36 : Hold h h7 [own cd2 a11 x11.length c11 x11, box b1 96 [.slice a2 x3.a.length c2, .slice a5 x4.2.2.2.2.last.length c5, .slice a6 x4.2.2.2.2.lists.length c6], own cd23 a5 x4.2.2.2.2.last.length c5 x4.2.2.2.2.last, rowsP cd2 23 a6 x4.2.2.2.2.lists.length c6 x4.2.2.2.2.lists [(x4.1.toNat, a10, x10.length, c10, x10)]] := H34.call H35 rfl
          refine Run_b [.slice a11 x11.length c11] 10 _ (by kernel_rfl) (fun w => by kernel_rfl) ?_
          refine Run_nil (by kernel_rfl) ?_
          refine Run_keep [14] (L' := [(14, .slice a11 x11.length c11)]) (by kernel_rfl) ?_
          refine Run_seq ?_
          refine Run_seq ?_
          obtain ⟨x12, hx11, hF⟩ := M.bind_some hF
          refine Run_reg 3 (by kernel_rfl) (L' := [(14, .slice a11 x11.length c11), (75, .bool (!x12))]) ?_ ?_
          · refine QRun_b [.slice a11 x11.length c11] 0 _ (by kernel_rfl) (fun w => by kernel_rfl) ?_
            refine QRun_y (.bool x12) (by kernel_rfl) (Y_callq (f := 99) (args := #[.slice a11 x11.length c11]) (v := .bool x12) (by kernel_rfl) (w_spec_l02Vector h7 x11 a11 c11 (H36.rd 0 rfl) _ _ hx11)) ?_
            refine QRun_b [.bool (!x12)] 2 _ (by kernel_rfl) (fun w => by kernel_rfl) ?_
            exact QRun_done [14, 75] (by kernel_rfl) (by kernel_rfl)
          refine Run_cond (b := !x12) (by kernel_rfl) (fun hb5 => ?_) (fun hb5 => ?_)
          · have hF := (M.ite_some hF).1 hb5
            refine Run_seq ?_
            refine Run_reg 2 (by kernel_rfl) (L' := [(4, .slice none 0 0), (5, .int .i64 3)]) ?_ ?_
            · refine QRun_b [.slice none 0 0, .int .i64 3] 0 _ (by kernel_rfl) (fun w => by kernel_rfl) ?_
              exact QRun_done [4, 5] (by kernel_rfl) (by kernel_rfl)
            have hF := M.ret_some hF
            subst hF
            have H37 := H36.empty cd2
            have H38 : Hold h h7 [own cd2 none 0 0 []] := H37.pick [0] (by kernel_rfl)
            exact Run_ret2 rfl (ResV_tmp (v := .slice none 0 0) (by kernel_rfl)) (ResV_tmp (v := .int .i64 3) (by kernel_rfl)) ⟨none, 0, rfl, H38⟩
          · have hF := (M.ite_some hF).2 hb5
            refine Run_skip ?_
            refine Run_seq ?_
            refine Run_reg 3 (by kernel_rfl) (L' := [(4, .slice a11 x11.length c11), (5, .int .i64 0)]) ?_ ?_
            · refine QRun_b [.slice a11 x11.length c11, .slice a11 x11.length c11, .int .i64 0] 0 _ (by kernel_rfl) (fun w => by kernel_rfl) ?_
              exact QRun_done [4, 5] (by kernel_rfl) (by kernel_rfl)
            have hF := M.ret_some hF
            subst hF
            have H39 : Hold h h7 [own cd2 a11 x11.length c11 x11] := H36.pick [0] (by kernel_rfl)
            exact Run_ret2 rfl (ResV_tmp (v := .slice a11 x11.length c11) (by kernel_rfl)) (ResV_tmp (v := .int .i64 0) (by kernel_rfl)) ⟨a11, c11, rfl, H39⟩
      · refine Run_block ?_
        refine Run_keep [1, 7, 8, 12, 13] (L' := [(1, .slice ax_ x_.length cx_), (7, .pointer (some ⟨b1, 0, none⟩)), (8, .int .i64 x4.1), (12, .int .i64 (-1000000000000000)), (13, .int .i64 0)]) (by kernel_rfl) ?_
        refine Run_loop (fun m L' h' => ∃ (i1 : Int) (s1 : Int), 0 ≤ i1 ∧ M.forN (x_.length : Int) _ _ n m i1 s1 = some x5 ∧ L' = [(1, .slice ax_ x_.length cx_), (7, .pointer (some ⟨b1, 0, none⟩)), (8, .int .i64 x4.1), (12, .int .i64 s1), (13, .int .i64 i1)] ∧ Hold h h' [box b1 96 [.slice a2 x3.a.length c2, .slice a5 x4.2.2.2.2.last.length c5, .slice a6 x4.2.2.2.2.lists.length c6], own cd23 a5 x4.2.2.2.2.last.length c5 x4.2.2.2.2.last, own cd23 a6 x4.2.2.2.2.lists.length c6 x4.2.2.2.2.lists]) ((x_.length : Int) - 0 : Int).toNat ⟨0, (-1000000000000000), Int.le_refl _, gx5, rfl, H12⟩ ?_
        rintro my1 _ h4 ⟨i1, s1, hloy1', gx5, rfl, H15⟩
        refine Run_seq ?_
        refine Run_seq ?_
        refine Run_reg 4 (by kernel_rfl) (L' := [(1, .slice ax_ x_.length cx_), (7, .pointer (some ⟨b1, 0, none⟩)), (8, .int .i64 x4.1), (12, .int .i64 s1), (13, .int .i64 i1), (38, .bool (decide (i1 < (x_.length : Int))))]) ?_ ?_
        · refine QRun_b [.int .i64 i1, .slice ax_ x_.length cx_, .int .i64 (x_.length : Int), .bool (decide (i1 < (x_.length : Int)))] 0 _ (by kernel_rfl) (fun w => by kernel_rfl) ?_
          exact QRun_done [1, 7, 8, 12, 13, 38] (by kernel_rfl) (by kernel_rfl)
        refine Run_cond (b := decide (i1 < (x_.length : Int))) (by kernel_rfl) (fun hb3 => ?_) (fun hb3 => ?_)
        · obtain ⟨my1, y1, rfl, hB1, hgoy1, houty1⟩ := M.for_go gx5 hb3
          have hlty1 := of_decide_eq_true hb3
          refine Run_skip ?_
          refine Run_seq ?_
          refine Run_block ?_
          obtain ⟨x6, hx5, hB1⟩ := M.bind_some hB1
          obtain ⟨hx5l, hx5u, hx5⟩ := M.idx_some hx5
          have H17 : Hold h h4 [own cd23 a6 x4.2.2.2.2.lists.length c6 x4.2.2.2.2.lists, box b1 96 [.slice a2 x3.a.length c2, .slice a5 x4.2.2.2.2.last.length c5, .slice a6 x4.2.2.2.2.lists.length c6], own cd23 a5 x4.2.2.2.2.last.length c5 x4.2.2.2.2.last] := H15.pick [2, 0, 1] (by kernel_rfl)
          have H18 := H17.toRows
          obtain ⟨a7, c7, H19⟩ := H18.pinRow hx5
          have H20 : Hold h h4 [box b1 96 [.slice a2 x3.a.length c2, .slice a5 x4.2.2.2.2.last.length c5, .slice a6 x4.2.2.2.2.lists.length c6], own cd23 a5 x4.2.2.2.2.last.length c5 x4.2.2.2.2.last, rowsP cd2 23 a6 x4.2.2.2.2.lists.length c6 x4.2.2.2.2.lists [(x4.1.toNat, a7, x6.length, c7, x6)]] := H19.pick [1, 2, 0] (by kernel_rfl)
          obtain ⟨x7, hx6, hB1⟩ := M.bind_some hB1
          obtain ⟨hx6l, hx6u, hx6⟩ := M.idx_some hx6
          refine Run_reg 13 (by kernel_rfl) (L' := [(1, .slice ax_ x_.length cx_), (7, .pointer (some ⟨b1, 0, none⟩)), (8, .int .i64 x4.1), (12, .int .i64 (mx s1 x7)), (13, .int .i64 i1)]) ?_ ?_
          · refine QRun_b [.int .i64 s1, .pointer (some ⟨b1, 0, none⟩), .pointer (some ⟨b1, 0, none⟩), .pointer (some ⟨b1, 2, none⟩)] 0 _ (by kernel_rfl) (fun w => by kernel_rfl) ?_
            refine QRun_y (.slice a6 x4.2.2.2.2.lists.length c6) (by kernel_rfl) (Y_load1 (t := 22) (p := ⟨b1, 2, none⟩) (v := .slice a6 x4.2.2.2.2.lists.length c6) (by kernel_rfl) (fun w => by kernel_rfl) (H15.cell 0 rfl rfl)) ?_
            refine QRun_b [.int .i64 x4.1] 5 _ (by kernel_rfl) (fun w => by kernel_rfl) ?_
            refine QRun_y (.pointer (some (adr a6 (x4.1.toNat * 1)))) (by kernel_rfl) (Y_idx (t := 22) (e := 23) (sz := 1) (a := a6) (n := x4.2.2.2.2.lists.length) (cap := c6) (kk := .i64) (i := x4.1) (by kernel_rfl) Try.underlying22 (by kernel_rfl) ((H15.rd 2 rfl).cell hx5).1 hx5l hx5u) ?_
            refine QRun_y (.slice a7 x6.length c7) (by kernel_rfl) (Y_load1 (t := 23) (p := adr a6 (x4.1.toNat * 1)) (v := .slice a7 x6.length c7) (by kernel_rfl) (fun w => by kernel_rfl) (H20.cellPin 2 rfl 0 rfl)) ?_
            refine QRun_b [.int .i64 i1] 8 _ (by kernel_rfl) (fun w => by kernel_rfl) ?_
            refine QRun_y (.pointer (some (adr a7 (i1.toNat * 1)))) (by kernel_rfl) (Y_idx (t := 23) (e := 2) (sz := 1) (a := a7) (n := x6.length) (cap := c7) (kk := .i64) (i := i1) (by kernel_rfl) Try.underlying23 (by kernel_rfl) ((H20.rdPin 2 rfl 0 rfl).cell hx6).1 hx6l hx6u) ?_
            refine QRun_y (.int .i64 x7) (by kernel_rfl) (Y_load1 (t := 2) (p := adr a7 (i1.toNat * 1)) (v := .int .i64 x7) (by kernel_rfl) (fun w => by kernel_rfl) (cd2_cell (H20.rdPin 2 rfl 0 rfl) hx6)) ?_
            refine QRun_b [.int .i64 (mx s1 x7), .int .i64 (mx s1 x7)] 11 _ (by kernel_rfl) (fun w => by kernel_rfl) ?_
            exact QRun_done [1, 7, 8, 12, 13] (by kernel_rfl) (by kernel_rfl)
          refine Run_blk ?_
          refine Run_reg 3 (by kernel_rfl) (L' := [(1, .slice ax_ x_.length cx_), (7, .pointer (some ⟨b1, 0, none⟩)), (8, .int .i64 x4.1), (12, .int .i64 (mx s1 x7)), (13, .int .i64 (i1 + 1))]) ?_ ?_
          · refine QRun_b [.int .i64 i1] 0 _ (by kernel_rfl) (fun w => by kernel_rfl) ?_
            refine QRun_y (.int .i64 (i1 + 1)) (by kernel_rfl) (Y_eq (v := .int .i64 (w64 (i1 + 1))) (Y_pure (fun w => by kernel_rfl)) (by rw [w64_eq _ (by omega)])) ?_
            refine QRun_b [.int .i64 (i1 + 1)] 2 _ (by kernel_rfl) (fun w => by kernel_rfl) ?_
            exact QRun_done [1, 7, 8, 12, 13] (by kernel_rfl) (by kernel_rfl)
          have H21 : Hold h h4 [rowsP cd2 23 a6 x4.2.2.2.2.lists.length c6 x4.2.2.2.2.lists [(x4.1.toNat, a7, x6.length, c7, x6)], box b1 96 [.slice a2 x3.a.length c2, .slice a5 x4.2.2.2.2.last.length c5, .slice a6 x4.2.2.2.2.lists.length c6], own cd23 a5 x4.2.2.2.2.last.length c5 x4.2.2.2.2.last] := H20.pick [2, 0, 1] (by kernel_rfl)
          have H22 := H21.ofRows
          have H23 : Hold h h4 [box b1 96 [.slice a2 x3.a.length c2, .slice a5 x4.2.2.2.2.last.length c5, .slice a6 x4.2.2.2.2.lists.length c6], own cd23 a5 x4.2.2.2.2.last.length c5 x4.2.2.2.2.last, own cd23 a6 x4.2.2.2.2.lists.length c6 x4.2.2.2.2.lists] := H22.pick [1, 2, 0] (by kernel_rfl)
          have hB1 := M.ret_some hB1
          have gx5 := hgoy1 _ hB1.symm
          exact Run_again [1, 7, 8, 12, 13] (by kernel_rfl) my1 (Nat.lt_succ_self _) ⟨i1 + 1, (mx s1 x7), by omega, gx5, rfl, H23⟩
        · have gx5 := M.for_end gx5 hb3
          subst gx5
          refine Run_exit (k' := _) rfl ?_
          exact Run_fall [7, 8, 12] (by kernel_rfl) ⟨rfl, H15⟩

set_option maxRecDepth 100000 in
set_option maxHeartbeats 4000000 in
theorem w_spec_DrawShiftVector (h : Heap) (code : List Int) (acode : Option Addr) (ccode : Nat) (rcode : Rd cd5 h (Lt h) acode ccode code) (n : Nat) (r : (List Int) × Int) (hF : spec_DrawShiftVector code n = some r) :
    Fn Try.prog 33 #[.slice acode code.length ccode] h fun v h' => ∃ (a0 : Option Addr) (c0 : Nat), v = .tuple #[.slice a0 r.1.length c0, .int .i64 r.2] ∧ Hold h h' [own cd2 a0 r.1.length c0 r.1] := by
  unfold spec_DrawShiftVector at hF
  refine Fn_enter (args := [.slice acode code.length ccode]) Try.func33 rfl (by kernel_rfl) (by kernel_rfl) (fun w0 _ => ?_)
  have H0 := Hold.init h
  refine Run_seq ?_
  refine Run_reg 2 (by kernel_rfl) (L' := [(0, .slice acode code.length ccode)]) ?_ ?_
  · refine QRun_b [.slice none 0 0, .int .i64 0] 0 _ (by kernel_rfl) (fun w => by kernel_rfl) ?_
    exact QRun_done [0] (by kernel_rfl) (by kernel_rfl)
  refine Run_seq ?_
  refine Run_ops ?_
  refine Run_b [.slice acode code.length ccode] 0 _ (by kernel_rfl) (fun w => by kernel_rfl) ?_
  obtain ⟨x1, hx1, hF⟩ := M.bind_some hF
  refine Run_E (by kernel_rfl) ?_
  refine E_call (f := 64) (args := #[.slice acode code.length ccode]) (w_spec_l01From h code acode ccode rcode _ _ hx1) (by kernel_rfl) (fun v1 h1 hp1 => ?_)
  obtain ⟨b1, a1, c1, rfl, hd1, H1⟩ := hp1
  have H2 : Hold h h1 [box b1 122 [.slice a1 x1.code.length c1, .int .i64 x1.at_, .int .i64 x1.seed]] := H0.call H1 rfl
  have r1 := rcode.alias hd1
  refine Run_b [.pointer (some ⟨b1, 0, none⟩)] 2 _ (by kernel_rfl) (fun w => by kernel_rfl) ?_
  refine Run_nil (by kernel_rfl) ?_
  refine Run_keep [4] (L' := [(4, .pointer (some ⟨b1, 0, none⟩))]) (by kernel_rfl) ?_
  refine Run_seq ?_
  refine Run_ops ?_
  refine Run_b [.pointer (some ⟨b1, 0, none⟩), .pointer (some ⟨b1, 0, none⟩)] 0 _ (by kernel_rfl) (fun w => by kernel_rfl) ?_
  obtain ⟨x2, hx2, hF⟩ := M.bind_some hF
  have H3 : Hold h h1 [box b1 122 [.slice a1 x1.code.length c1, .int .i64 x1.at_, .int .i64 x1.seed], bun []] := Hold.bundle (S := [box b1 122 [.slice a1 x1.code.length c1, .int .i64 x1.at_, .int .i64 x1.seed]]) (R := []) H2
  refine Run_E (by kernel_rfl) ?_
  refine E_call (f := 67) (args := #[.pointer (some ⟨b1, 0, none⟩), .int .i64 5]) (w_spec_l01Next h h1 _ x1 b1 a1 c1 r1 5 H3 _ _ hx2) (by kernel_rfl) (fun v2 h2 hp2 => ?_)
  obtain ⟨rfl, H4⟩ := hp2
  have H5 : Hold h h2 [box b1 122 [.slice a1 x1.code.length c1, .int .i64 x2.2.at_, .int .i64 x2.2.seed]] := Hold.unbundle (S := [box b1 122 [.slice a1 x1.code.length c1, .int .i64 x2.2.at_, .int .i64 x2.2.seed]]) (R := []) H4 (Hold.tailBase (S := [box b1 122 [.slice a1 x1.code.length c1, .int .i64 x1.at_, .int .i64 x1.seed]]) (R := []) H2)
  refine Run_b [.int .i64 (w64 (1 + x2.1))] 3 _ (by kernel_rfl) (fun w => by kernel_rfl) ?_
  obtain ⟨x3, hx3, hF⟩ := M.bind_some hF
  have H6 : Hold h h2 [box b1 122 [.slice a1 x1.code.length c1, .int .i64 x2.2.at_, .int .i64 x2.2.seed], bun []] := Hold.bundle (S := [box b1 122 [.slice a1 x1.code.length c1, .int .i64 x2.2.at_, .int .i64 x2.2.seed]]) (R := []) H5
  refine Run_E (by kernel_rfl) ?_
  refine E_call (f := 100) (args := #[.pointer (some ⟨b1, 0, none⟩), .int .i64 (w64 (1 + x2.1))]) (w_spec_l02DrawVector h h2 _ (⟨x1.code, x2.2.at_, x2.2.seed⟩ : TL01source) b1 a1 c1 r1 (w64 (1 + x2.1)) H6 _ _ hx3) (by kernel_rfl) (fun v3 h3 hp3 => ?_)
  obtain ⟨a2, c2, rfl, H7⟩ := hp3
  have H8 : Hold h h3 [own cd2 a2 x3.1.length c2 x3.1, box b1 122 [.slice a1 x1.code.length c1, .int .i64 x3.2.at_, .int .i64 x3.2.seed]] := Hold.unbundle (S := [own cd2 a2 x3.1.length c2 x3.1, box b1 122 [.slice a1 x1.code.length c1, .int .i64 x3.2.at_, .int .i64 x3.2.seed]]) (R := []) H7 (Hold.tailBase (S := [box b1 122 [.slice a1 x1.code.length c1, .int .i64 x2.2.at_, .int .i64 x2.2.seed]]) (R := []) H5)
  refine Run_b [.slice a2 x3.1.length c2] 5 _ (by kernel_rfl) (fun w => by kernel_rfl) ?_
  refine Run_nil (by kernel_rfl) ?_
  refine Run_keep [4, 5] (L' := [(4, .pointer (some ⟨b1, 0, none⟩)), (5, .slice a2 x3.1.length c2)]) (by kernel_rfl) ?_
  refine Run_seq ?_
  refine Run_seq ?_
  refine Run_ops ?_
  refine Run_b [.pointer (some ⟨b1, 0, none⟩)] 0 _ (by kernel_rfl) (fun w => by kernel_rfl) ?_
  obtain ⟨x4, hx4, hF⟩ := M.bind_some hF
  have H9 : Hold h h3 [box b1 122 [.slice a1 x1.code.length c1, .int .i64 x3.2.at_, .int .i64 x3.2.seed], own cd2 a2 x3.1.length c2 x3.1] := H8.pick [1, 0] (by kernel_rfl)
  have H10 : Hold h h3 [box b1 122 [.slice a1 x1.code.length c1, .int .i64 x3.2.at_, .int .i64 x3.2.seed], bun [own cd2 a2 x3.1.length c2 x3.1]] := Hold.bundle (S := [box b1 122 [.slice a1 x1.code.length c1, .int .i64 x3.2.at_, .int .i64 x3.2.seed]]) (R := [own cd2 a2 x3.1.length c2 x3.1]) H9
  refine Run_E (by kernel_rfl) ?_
  refine E_call (f := 67) (args := #[.pointer (some ⟨b1, 0, none⟩), .int .i64 12]) (w_spec_l01Next h h3 _ (⟨x1.code, x3.2.at_, x3.2.seed⟩ : TL01source) b1 a1 c1 r1 12 H10 _ _ hx4) (by kernel_rfl) (fun v4 h4 hp4 => ?_)
  obtain ⟨rfl, H11⟩ := hp4
  have H12 : Hold h h4 [box b1 122 [.slice a1 x1.code.length c1, .int .i64 x4.2.at_, .int .i64 x4.2.seed], own cd2 a2 x3.1.length c2 x3.1] := Hold.unbundle (S := [box b1 122 [.slice a1 x1.code.length c1, .int .i64 x4.2.at_, .int .i64 x4.2.seed]]) (R := [own cd2 a2 x3.1.length c2 x3.1]) H11 (Hold.tailBase (S := [box b1 122 [.slice a1 x1.code.length c1, .int .i64 x3.2.at_, .int .i64 x3.2.seed]]) (R := [own cd2 a2 x3.1.length c2 x3.1]) H9)
  refine Run_b [.bool (x4.1 == 0)] 2 _ (by kernel_rfl) (fun w => by kernel_rfl) ?_
  refine Run_nil (by kernel_rfl) ?_
  refine Run_keep [4, 5, 15] (L' := [(4, .pointer (some ⟨b1, 0, none⟩)), (5, .slice a2 x3.1.length c2), (15, .bool (x4.1 == 0))]) (by kernel_rfl) ?_
  refine Run_cond (b := x4.1 == 0) (by kernel_rfl) (fun hb1 => ?_) (fun hb1 => ?_)
  · have hF := (M.ite_some hF).1 hb1
    refine Run_seq ?_
    refine Run_ops ?_
    refine Run_b [.slice a2 x3.1.length c2, .pointer (some ⟨b1, 0, none⟩)] 0 _ (by kernel_rfl) (fun w => by kernel_rfl) ?_
    refine Run_E (by kernel_rfl) ?_
    refine E_lit (C := cd2) (n := 4) (l := ([1000000, 1000001, (-1000000), (-1000000000000000)] : List Int)) (cs := [.int .i64 1000000, .int .i64 1000001, .int .i64 (-1000000), .int .i64 (-1000000000000000)]) H12 (fun w => by kernel_rfl) (Enc.consE (cd2_own 1000000 _) (Enc.consE (cd2_own 1000001 _) (Enc.consE (cd2_own (-1000000) _) (Enc.consE (cd2_own (-1000000000000000) _) (Enc.nil _ _) rfl) rfl) rfl) rfl) rfl (by decide) (fun a3 h5 H13 => ?_)
    obtain ⟨x5, hx5, hF⟩ := M.bind_some hF
    have hn1 := (H13.len 0 rfl)
    have H14 : Hold h h5 [own cd2 a3 (([1000000, 1000001, (-1000000), (-1000000000000000)] : List Int).length) 4 ([1000000, 1000001, (-1000000), (-1000000000000000)] : List Int), box b1 122 [.slice a1 x1.code.length c1, .int .i64 x4.2.at_, .int .i64 x4.2.seed], own cd2 a2 x3.1.length c2 x3.1] := by rw [hn1]; exact H13
    have H15 : Hold h h5 [box b1 122 [.slice a1 x1.code.length c1, .int .i64 x4.2.at_, .int .i64 x4.2.seed], own cd2 a3 (([1000000, 1000001, (-1000000), (-1000000000000000)] : List Int).length) 4 ([1000000, 1000001, (-1000000), (-1000000000000000)] : List Int), own cd2 a2 x3.1.length c2 x3.1] := H14.pick [1, 0, 2] (by kernel_rfl)
    have H16 : Hold h h5 [box b1 122 [.slice a1 x1.code.length c1, .int .i64 x4.2.at_, .int .i64 x4.2.seed], own cd2 a3 (([1000000, 1000001, (-1000000), (-1000000000000000)] : List Int).length) 4 ([1000000, 1000001, (-1000000), (-1000000000000000)] : List Int), bun [own cd2 a2 x3.1.length c2 x3.1]] := Hold.bundle (S := [box b1 122 [.slice a1 x1.code.length c1, .int .i64 x4.2.at_, .int .i64 x4.2.seed], own cd2 a3 (([1000000, 1000001, (-1000000), (-1000000000000000)] : List Int).length) 4 ([1000000, 1000001, (-1000000), (-1000000000000000)] : List Int)]) (R := [own cd2 a2 x3.1.length c2 x3.1]) H15
    refine Run_E (by kernel_rfl) ?_
    refine E_call (f := 66) (args := #[.pointer (some ⟨b1, 0, none⟩), .slice a3 4 4]) (Fn.arg (w_spec_l01Pick h h5 _ (⟨x1.code, x4.2.at_, x4.2.seed⟩ : TL01source) b1 a1 c1 r1 ([1000000, 1000001, (-1000000), (-1000000000000000)] : List Int) a3 4 H16 _ _ hx5) (by simp only [hn1])) (by kernel_rfl) (fun v5 h6 hp5 => ?_)
    obtain ⟨rfl, H17⟩ := hp5
    have H18 : Hold h h6 [box b1 122 [.slice a1 x1.code.length c1, .int .i64 x5.2.1.at_, .int .i64 x5.2.1.seed], own cd2 a3 (([1000000, 1000001, (-1000000), (-1000000000000000)] : List Int).length) 4 x5.2.2, own cd2 a2 x3.1.length c2 x3.1] := Hold.unbundle (S := [box b1 122 [.slice a1 x1.code.length c1, .int .i64 x5.2.1.at_, .int .i64 x5.2.1.seed], own cd2 a3 (([1000000, 1000001, (-1000000), (-1000000000000000)] : List Int).length) 4 x5.2.2]) (R := [own cd2 a2 x3.1.length c2 x3.1]) H17 (Hold.tailBase (S := [box b1 122 [.slice a1 x1.code.length c1, .int .i64 x4.2.at_, .int .i64 x4.2.seed], own cd2 a3 (([1000000, 1000001, (-1000000), (-1000000000000000)] : List Int).length) 4 ([1000000, 1000001, (-1000000), (-1000000000000000)] : List Int)]) (R := [own cd2 a2 x3.1.length c2 x3.1]) H15)
    refine Run_b [.slice a2 x3.1.length c2, .int .i64 x5.1] 4 _ (by kernel_rfl) (fun w => by kernel_rfl) ?_
    refine Run_nil (by kernel_rfl) ?_
    refine Run_keep [2, 3] (L' := [(2, .slice a2 x3.1.length c2), (3, .int .i64 x5.1)]) (by kernel_rfl) ?_
    have hF := M.ret_some hF
    subst hF
    have H19 : Hold h h6 [own cd2 a2 x3.1.length c2 x3.1, box b1 122 [.slice a1 x1.code.length c1, .int .i64 x5.2.1.at_, .int .i64 x5.2.1.seed], own cd2 a3 (([1000000, 1000001, (-1000000), (-1000000000000000)] : List Int).length) 4 x5.2.2] := H18.pick [2, 0, 1] (by kernel_rfl)
    have H20 : Hold h h6 [own cd2 a2 x3.1.length c2 x3.1] := H19.pick [0] (by kernel_rfl)
    exact Run_ret2 rfl (ResV_tmp (v := .slice a2 x3.1.length c2) (by kernel_rfl)) (ResV_tmp (v := .int .i64 x5.1) (by kernel_rfl)) ⟨a2, c2, rfl, H20⟩
  · have hF := (M.ite_some hF).2 hb1
    refine Run_skip ?_
    refine Run_seq ?_
    refine Run_ops ?_
    refine Run_b [.slice a2 x3.1.length c2, .pointer (some ⟨b1, 0, none⟩)] 0 _ (by kernel_rfl) (fun w => by kernel_rfl) ?_
    obtain ⟨x6, hx6, hF⟩ := M.bind_some hF
    have H21 : Hold h h4 [box b1 122 [.slice a1 x1.code.length c1, .int .i64 x4.2.at_, .int .i64 x4.2.seed], bun [own cd2 a2 x3.1.length c2 x3.1]] := Hold.bundle (S := [box b1 122 [.slice a1 x1.code.length c1, .int .i64 x4.2.at_, .int .i64 x4.2.seed]]) (R := [own cd2 a2 x3.1.length c2 x3.1]) H12
    refine Run_E (by kernel_rfl) ?_
    refine E_call (f := 67) (args := #[.pointer (some ⟨b1, 0, none⟩), .int .i64 40]) (w_spec_l01Next h h4 _ (⟨x1.code, x4.2.at_, x4.2.seed⟩ : TL01source) b1 a1 c1 r1 40 H21 _ _ hx6) (by kernel_rfl) (fun v6 h7 hp6 => ?_)
    obtain ⟨rfl, H22⟩ := hp6
    have H23 : Hold h h7 [box b1 122 [.slice a1 x1.code.length c1, .int .i64 x6.2.at_, .int .i64 x6.2.seed], own cd2 a2 x3.1.length c2 x3.1] := Hold.unbundle (S := [box b1 122 [.slice a1 x1.code.length c1, .int .i64 x6.2.at_, .int .i64 x6.2.seed]]) (R := [own cd2 a2 x3.1.length c2 x3.1]) H22 (Hold.tailBase (S := [box b1 122 [.slice a1 x1.code.length c1, .int .i64 x4.2.at_, .int .i64 x4.2.seed]]) (R := [own cd2 a2 x3.1.length c2 x3.1]) H12)
    refine Run_b [.int .i64 (w64 (x6.1 - 20)), .slice a2 x3.1.length c2, .int .i64 (w64 (x6.1 - 20))] 3 _ (by kernel_rfl) (fun w => by kernel_rfl) ?_
    refine Run_nil (by kernel_rfl) ?_
    refine Run_keep [2, 3] (L' := [(2, .slice a2 x3.1.length c2), (3, .int .i64 (w64 (x6.1 - 20)))]) (by kernel_rfl) ?_
    have hF := M.ret_some hF
    subst hF
    have H24 : Hold h h7 [own cd2 a2 x3.1.length c2 x3.1, box b1 122 [.slice a1 x1.code.length c1, .int .i64 x6.2.at_, .int .i64 x6.2.seed]] := H23.pick [1, 0] (by kernel_rfl)
    have H25 : Hold h h7 [own cd2 a2 x3.1.length c2 x3.1] := H24.pick [0] (by kernel_rfl)
    exact Run_ret2 rfl (ResV_tmp (v := .slice a2 x3.1.length c2) (by kernel_rfl)) (ResV_tmp (v := .int .i64 (w64 (x6.1 - 20))) (by kernel_rfl)) ⟨a2, c2, rfl, H25⟩

set_option maxRecDepth 100000 in
set_option maxHeartbeats 4000000 in
theorem w_impl_ShiftVector (h : Heap) (x_ : List Int) (ax_ : Option Addr) (cx_ : Nat) (rx_ : Rd cd2 h (Lt h) ax_ cx_ x_) (g : Int) (n : Nat) (r : (List Int) × Int) (hF : impl_ShiftVector x_ g n = some r) :
    Fn Try.prog 26 #[.slice ax_ x_.length cx_, .int .i64 g] h fun v h' => ∃ (a0 : Option Addr) (c0 : Nat), v = .tuple #[.slice a0 r.1.length c0, .int .i64 r.2] ∧ Hold h h' [own cd2 a0 r.1.length c0 r.1] := by
  unfold impl_ShiftVector at hF
  refine Fn_enter (args := [.slice ax_ x_.length cx_, .int .i64 g]) Try.func26 rfl (by kernel_rfl) (by kernel_rfl) (fun w0 _ => ?_)
  have H0 := Hold.init h
  refine Run_seq ?_
  refine Run_reg 2 (by kernel_rfl) (L' := [(0, .slice ax_ x_.length cx_), (1, .int .i64 g)]) ?_ ?_
  · refine QRun_b [.slice none 0 0, .int .i64 0] 0 _ (by kernel_rfl) (fun w => by kernel_rfl) ?_
    exact QRun_done [0, 1] (by kernel_rfl) (by kernel_rfl)
  refine Run_seq ?_
  refine Run_seq ?_
  obtain ⟨x1, hx1, hF⟩ := M.bind_some hF
  refine Run_reg 3 (by kernel_rfl) (L' := [(0, .slice ax_ x_.length cx_), (1, .int .i64 g), (8, .bool (!x1))]) ?_ ?_
  · refine QRun_b [.slice ax_ x_.length cx_] 0 _ (by kernel_rfl) (fun w => by kernel_rfl) ?_
    refine QRun_y (.bool x1) (by kernel_rfl) (Y_callq (f := 91) (args := #[.slice ax_ x_.length cx_]) (v := .bool x1) (by kernel_rfl) (w_impl_isVector h x_ ax_ cx_ rx_ _ _ hx1)) ?_
    refine QRun_b [.bool (!x1)] 2 _ (by kernel_rfl) (fun w => by kernel_rfl) ?_
    exact QRun_done [0, 1, 8] (by kernel_rfl) (by kernel_rfl)
  refine Run_cond (b := !x1) (by kernel_rfl) (fun hb1 => ?_) (fun hb1 => ?_)
  · have hF := (M.ite_some hF).1 hb1
    refine Run_seq ?_
    refine Run_reg 2 (by kernel_rfl) (L' := [(4, .slice none 0 0), (5, .int .i64 1)]) ?_ ?_
    · refine QRun_b [.slice none 0 0, .int .i64 1] 0 _ (by kernel_rfl) (fun w => by kernel_rfl) ?_
      exact QRun_done [4, 5] (by kernel_rfl) (by kernel_rfl)
    have hF := M.ret_some hF
    subst hF
    have H1 := H0.empty cd2
    exact Run_ret2 rfl (ResV_tmp (v := .slice none 0 0) (by kernel_rfl)) (ResV_tmp (v := .int .i64 1) (by kernel_rfl)) ⟨none, 0, rfl, H1⟩
  · have hF := (M.ite_some hF).2 hb1
    refine Run_skip ?_
    refine Run_seq ?_
    refine Run_seq ?_
    obtain ⟨x2, hx2, hF⟩ := M.bind_some hF
    refine Run_reg 3 (by kernel_rfl) (L' := [(0, .slice ax_ x_.length cx_), (1, .int .i64 g), (11, .bool (!x2))]) ?_ ?_
    · refine QRun_b [.int .i64 g] 0 _ (by kernel_rfl) (fun w => by kernel_rfl) ?_
      refine QRun_y (.bool x2) (by kernel_rfl) (Y_callq (f := 92) (args := #[.int .i64 g]) (v := .bool x2) (by kernel_rfl) (w_impl_isFinite h g _ _ hx2)) ?_
      refine QRun_b [.bool (!x2)] 2 _ (by kernel_rfl) (fun w => by kernel_rfl) ?_
      exact QRun_done [0, 1, 11] (by kernel_rfl) (by kernel_rfl)
    refine Run_cond (b := !x2) (by kernel_rfl) (fun hb2 => ?_) (fun hb2 => ?_)
    · have hF := (M.ite_some hF).1 hb2
      refine Run_seq ?_
      refine Run_reg 2 (by kernel_rfl) (L' := [(4, .slice none 0 0), (5, .int .i64 2)]) ?_ ?_
      · refine QRun_b [.slice none 0 0, .int .i64 2] 0 _ (by kernel_rfl) (fun w => by kernel_rfl) ?_
        exact QRun_done [4, 5] (by kernel_rfl) (by kernel_rfl)
      have hF := M.ret_some hF
      subst hF
      have H2 := H0.empty cd2
      exact Run_ret2 rfl (ResV_tmp (v := .slice none 0 0) (by kernel_rfl)) (ResV_tmp (v := .int .i64 2) (by kernel_rfl)) ⟨none, 0, rfl, H2⟩
    · have hF := (M.ite_some hF).2 hb2
      refine Run_skip ?_
      refine Run_seq ?_
      refine Run_ops ?_
      refine Run_b [.slice ax_ x_.length cx_, .int .i64 g] 0 _ (by kernel_rfl) (fun w => by kernel_rfl) ?_
      obtain ⟨x3, hx3, hF⟩ := M.bind_some hF
      refine Run_E (by kernel_rfl) ?_
      refine E_call (f := 94) (args := #[.slice ax_ x_.length cx_, .int .i64 g]) (w_impl_shiftedVector h x_ ax_ cx_ rx_ g _ _ hx3) (by kernel_rfl) (fun v1 h1 hp1 => ?_)
      obtain ⟨a1, c1, rfl, H3⟩ := hp1
      have H4 : Hold h h1 [own cd2 a1 x3.length c1 x3] := H0.call H3 rfl
      obtain ⟨x4, hx4, hF⟩ := M.bind_some hF
      refine Run_E (by kernel_rfl) ?_
      refine E_call (f := 93) (args := #[.slice a1 x3.length c1]) (w_impl_checkedVector h1 x3 a1 c1 (H4.rd 0 rfl) _ _ hx4) (by kernel_rfl) (fun v2 h2 hp2 => ?_)
      obtain ⟨a2, c2, rfl, hd1, H5⟩ := hp2
      have H6 : Hold h h2 [own cd2 a1 x3.length c1 x3] := H4.call H5 rfl
      have H7 := H6.alias hd1
      refine Run_b [.slice a2 x4.1.length c2, .int .i64 x4.2, .slice a2 x4.1.length c2, .int .i64 x4.2] 4 _ (by kernel_rfl) (fun w => by kernel_rfl) ?_
      refine Run_nil (by kernel_rfl) ?_
      refine Run_keep [4, 5] (L' := [(4, .slice a2 x4.1.length c2), (5, .int .i64 x4.2)]) (by kernel_rfl) ?_
      have hF := M.ret_some hF
      subst hF
      exact Run_ret2 rfl (ResV_tmp (v := .slice a2 x4.1.length c2) (by kernel_rfl)) (ResV_tmp (v := .int .i64 x4.2) (by kernel_rfl)) ⟨a2, c2, rfl, H7⟩

set_option maxRecDepth 100000 in
set_option maxHeartbeats 4000000 in
theorem w_spec_ShiftVector (h : Heap) (x_ : List Int) (ax_ : Option Addr) (cx_ : Nat) (rx_ : Rd cd2 h (Lt h) ax_ cx_ x_) (g : Int) (n : Nat) (r : (List Int) × Int) (hF : spec_ShiftVector x_ g n = some r) :
    Fn Try.prog 34 #[.slice ax_ x_.length cx_, .int .i64 g] h fun v h' => ∃ (a0 : Option Addr) (c0 : Nat), v = .tuple #[.slice a0 r.1.length c0, .int .i64 r.2] ∧ Hold h h' [own cd2 a0 r.1.length c0 r.1] := by
  unfold spec_ShiftVector at hF
  refine Fn_enter (args := [.slice ax_ x_.length cx_, .int .i64 g]) Try.func34 rfl (by kernel_rfl) (by kernel_rfl) (fun w0 _ => ?_)
  have H0 := Hold.init h
  refine Run_seq ?_
  refine Run_reg 2 (by kernel_rfl) (L' := [(0, .slice ax_ x_.length cx_), (1, .int .i64 g)]) ?_ ?_
  · refine QRun_b [.slice none 0 0, .int .i64 0] 0 _ (by kernel_rfl) (fun w => by kernel_rfl) ?_
    exact QRun_done [0, 1] (by kernel_rfl) (by kernel_rfl)
  refine Run_seq ?_
  refine Run_block ?_
  refine Run_seq ?_
  obtain ⟨x1, hx1, hF⟩ := M.bind_some hF
  refine Run_reg 4 (by kernel_rfl) (L' := [(0, .slice ax_ x_.length cx_), (1, .int .i64 g), (7, .bool (!x1))]) ?_ ?_
  · refine QRun_b [.slice ax_ x_.length cx_] 0 _ (by kernel_rfl) (fun w => by kernel_rfl) ?_
    refine QRun_y (.bool x1) (by kernel_rfl) (Y_callq (f := 99) (args := #[.slice ax_ x_.length cx_]) (v := .bool x1) (by kernel_rfl) (w_spec_l02Vector h x_ ax_ cx_ rx_ _ _ hx1)) ?_
    refine QRun_b [.bool (!x1), .bool (!x1)] 2 _ (by kernel_rfl) (fun w => by kernel_rfl) ?_
    exact QRun_done [0, 1, 7] (by kernel_rfl) (by kernel_rfl)
  refine Run_cond (b := !x1) (by kernel_rfl) (fun hb1 => ?_) (fun hb1 => ?_)
  · have hF := (M.ite_some hF).1 hb1
    refine Run_seq ?_
    refine Run_reg 2 (by kernel_rfl) (L' := [(4, .slice none 0 0), (5, .int .i64 1)]) ?_ ?_
    · refine QRun_b [.slice none 0 0, .int .i64 1] 0 _ (by kernel_rfl) (fun w => by kernel_rfl) ?_
      exact QRun_done [4, 5] (by kernel_rfl) (by kernel_rfl)
    have hF := M.ret_some hF
    subst hF
    have H1 := H0.empty cd2
    exact Run_ret2 rfl (ResV_tmp (v := .slice none 0 0) (by kernel_rfl)) (ResV_tmp (v := .int .i64 1) (by kernel_rfl)) ⟨none, 0, rfl, H1⟩
  · have hF := (M.ite_some hF).2 hb1
    refine Run_seq ?_
    obtain ⟨x2, hx2, hF⟩ := M.bind_some hF
    refine Run_reg 4 (by kernel_rfl) (L' := [(0, .slice ax_ x_.length cx_), (1, .int .i64 g), (11, .bool (!x2))]) ?_ ?_
    · refine QRun_b [.int .i64 g] 0 _ (by kernel_rfl) (fun w => by kernel_rfl) ?_
      refine QRun_y (.bool x2) (by kernel_rfl) (Y_callq (f := 101) (args := #[.int .i64 g]) (v := .bool x2) (by kernel_rfl) (w_spec_l01Finite h g _ _ hx2)) ?_
      refine QRun_b [.bool (!x2), .bool (!x2)] 2 _ (by kernel_rfl) (fun w => by kernel_rfl) ?_
      exact QRun_done [0, 1, 11] (by kernel_rfl) (by kernel_rfl)
    refine Run_cond (b := !x2) (by kernel_rfl) (fun hb2 => ?_) (fun hb2 => ?_)
    · have hF := (M.ite_some hF).1 hb2
      refine Run_seq ?_
      refine Run_reg 2 (by kernel_rfl) (L' := [(4, .slice none 0 0), (5, .int .i64 2)]) ?_ ?_
      · refine QRun_b [.slice none 0 0, .int .i64 2] 0 _ (by kernel_rfl) (fun w => by kernel_rfl) ?_
        exact QRun_done [4, 5] (by kernel_rfl) (by kernel_rfl)
      have hF := M.ret_some hF
      subst hF
      have H2 := H0.empty cd2
      exact Run_ret2 rfl (ResV_tmp (v := .slice none 0 0) (by kernel_rfl)) (ResV_tmp (v := .int .i64 2) (by kernel_rfl)) ⟨none, 0, rfl, H2⟩
    · have hF := (M.ite_some hF).2 hb2
      refine Run_skip ?_
      refine Run_blk ?_
      refine Run_seq ?_
      refine Run_ops ?_
      refine Run_b [.slice ax_ x_.length cx_, .int .i64 g] 0 _ (by kernel_rfl) (fun w => by kernel_rfl) ?_
      obtain ⟨x3, hx3, hF⟩ := M.bind_some hF
      refine Run_E (by kernel_rfl) ?_
      refine E_call (f := 98) (args := #[.slice ax_ x_.length cx_, .int .i64 g]) (w_spec_l07Shift h x_ ax_ cx_ rx_ g _ _ hx3) (by kernel_rfl) (fun v1 h1 hp1 => ?_)
      obtain ⟨a1, c1, rfl, H3⟩ := hp1
      have H4 : Hold h h1 [own cd2 a1 x3.length c1 x3] := H0.call H3 rfl
      refine Run_b [.slice a1 x3.length c1] 3 _ (by kernel_rfl) (fun w => by kernel_rfl) ?_
      refine Run_nil (by kernel_rfl) ?_
      refine Run_keep [6] (L' := [(6, .slice a1 x3.length c1)]) (by kernel_rfl) ?_
      refine Run_seq ?_
      refine Run_seq ?_
      obtain ⟨x4, hx4, hF⟩ := M.bind_some hF
      refine Run_reg 3 (by kernel_rfl) (L' := [(6, .slice a1 x3.length c1), (20, .bool (!x4))]) ?_ ?_
      · refine QRun_b [.slice a1 x3.length c1] 0 _ (by kernel_rfl) (fun w => by kernel_rfl) ?_
        refine QRun_y (.bool x4) (by kernel_rfl) (Y_callq (f := 99) (args := #[.slice a1 x3.length c1]) (v := .bool x4) (by kernel_rfl) (w_spec_l02Vector h1 x3 a1 c1 (H4.rd 0 rfl) _ _ hx4)) ?_
        refine QRun_b [.bool (!x4)] 2 _ (by kernel_rfl) (fun w => by kernel_rfl) ?_
        exact QRun_done [6, 20] (by kernel_rfl) (by kernel_rfl)
      refine Run_cond (b := !x4) (by kernel_rfl) (fun hb3 => ?_) (fun hb3 => ?_)
      · have hF := (M.ite_some hF).1 hb3
        refine Run_seq ?_
        refine Run_reg 2 (by kernel_rfl) (L' := [(4, .slice none 0 0), (5, .int .i64 3)]) ?_ ?_
        · refine QRun_b [.slice none 0 0, .int .i64 3] 0 _ (by kernel_rfl) (fun w => by kernel_rfl) ?_
          exact QRun_done [4, 5] (by kernel_rfl) (by kernel_rfl)
        have hF := M.ret_some hF
        subst hF
        have H5 := H4.empty cd2
        have H6 : Hold h h1 [own cd2 none 0 0 []] := H5.pick [0] (by kernel_rfl)
        exact Run_ret2 rfl (ResV_tmp (v := .slice none 0 0) (by kernel_rfl)) (ResV_tmp (v := .int .i64 3) (by kernel_rfl)) ⟨none, 0, rfl, H6⟩
      · have hF := (M.ite_some hF).2 hb3
        refine Run_skip ?_
        refine Run_seq ?_
        refine Run_reg 3 (by kernel_rfl) (L' := [(4, .slice a1 x3.length c1), (5, .int .i64 0)]) ?_ ?_
        · refine QRun_b [.slice a1 x3.length c1, .slice a1 x3.length c1, .int .i64 0] 0 _ (by kernel_rfl) (fun w => by kernel_rfl) ?_
          exact QRun_done [4, 5] (by kernel_rfl) (by kernel_rfl)
        have hF := M.ret_some hF
        subst hF
        exact Run_ret2 rfl (ResV_tmp (v := .slice a1 x3.length c1) (by kernel_rfl)) (ResV_tmp (v := .int .i64 0) (by kernel_rfl)) ⟨a1, c1, rfl, H4⟩

set_option maxRecDepth 100000 in
set_option maxHeartbeats 4000000 in
theorem w_laws_likeInts (h : Heap) (a_ : List Int) {Sa_ : Bs} (aa_ : Option Addr) (ca_ : Nat) (ra_ : Rd cd2 h Sa_ aa_ ca_ a_) (b : List Int) {Sb : Bs} (ab : Option Addr) (cb : Nat) (rb : Rd cd2 h Sb ab cb b) (n : Nat) (r : Bool) (hF : laws_likeInts a_ b n = some r) :
    Fn Try.prog 27 #[.slice aa_ a_.length ca_, .slice ab b.length cb] h fun v h' => v = .bool r ∧ h' = h := by
  unfold laws_likeInts at hF
  refine Fn_enter (args := [.slice aa_ a_.length ca_, .slice ab b.length cb]) Try.func27 rfl (by kernel_rfl) (by kernel_rfl) (fun w0 _ => ?_)
  refine Run_seq ?_
  refine Run_reg 1 (by kernel_rfl) (L' := [(0, .slice aa_ a_.length ca_), (1, .slice ab b.length cb)]) ?_ ?_
  · refine QRun_b [.bool false] 0 _ (by kernel_rfl) (fun w => by kernel_rfl) ?_
    exact QRun_done [0, 1] (by kernel_rfl) (by kernel_rfl)
  refine Run_seq ?_
  refine Run_seq ?_
  refine Run_reg 5 (by kernel_rfl) (L' := [(0, .slice aa_ a_.length ca_), (1, .slice ab b.length cb), (10, .bool ((a_.length : Int) != (b.length : Int)))]) ?_ ?_
  · refine QRun_b [.slice aa_ a_.length ca_, .int .i64 (a_.length : Int), .slice ab b.length cb, .int .i64 (b.length : Int), .bool ((a_.length : Int) != (b.length : Int))] 0 _ (by kernel_rfl) (fun w => by kernel_rfl) ?_
    exact QRun_done [0, 1, 10] (by kernel_rfl) (by kernel_rfl)
  refine Run_cond (b := (a_.length : Int) != (b.length : Int)) (by kernel_rfl) (fun hb1 => ?_) (fun hb1 => ?_)
  · have hF := (M.ite_some hF).1 hb1
    refine Run_seq ?_
    refine Run_reg 1 (by kernel_rfl) (L' := [(4, .bool false)]) ?_ ?_
    · refine QRun_b [.bool false] 0 _ (by kernel_rfl) (fun w => by kernel_rfl) ?_
      exact QRun_done [4] (by kernel_rfl) (by kernel_rfl)
    have hF := M.ret_some hF
    subst hF
    exact Run_ret1 rfl (ResV_tmp (v := .bool false) (by kernel_rfl)) ⟨rfl, rfl⟩
  · have hF := (M.ite_some hF).2 hb1
    refine Run_skip ?_
    refine Run_seq ?_
    refine Run_seq ?_
    refine Run_reg 1 (by kernel_rfl) (L' := [(0, .slice aa_ a_.length ca_), (1, .slice ab b.length cb), (5, .int .i64 0)]) ?_ ?_
    · refine QRun_b [.int .i64 0] 0 _ (by kernel_rfl) (fun w => by kernel_rfl) ?_
      exact QRun_done [0, 1, 5] (by kernel_rfl) (by kernel_rfl)
    obtain ⟨x1, gx1, hF⟩ := M.bind_some hF
    obtain ⟨hloy1, hhiy1, gx1⟩ := M.for_start gx1
    refine Run_join (fun L' h' => ∃ (s2 : Unit), x1 = .inl s2 ∧ L' = [] ∧ h = h') ?_ ?_
    · rintro _ _ ⟨s2, es2, rfl, rfl⟩
      have hF := M.cont_inl' hF es2
      refine Run_seq ?_
      refine Run_reg 1 (by kernel_rfl) (L' := [(4, .bool true)]) ?_ ?_
      · refine QRun_b [.bool true] 0 _ (by kernel_rfl) (fun w => by kernel_rfl) ?_
        exact QRun_done [4] (by kernel_rfl) (by kernel_rfl)
      have hF := M.ret_some hF
      subst hF
      exact Run_ret1 rfl (ResV_tmp (v := .bool true) (by kernel_rfl)) ⟨rfl, rfl⟩
    · refine Run_block ?_
      refine Run_keep [0, 1, 5] (L' := [(0, .slice aa_ a_.length ca_), (1, .slice ab b.length cb), (5, .int .i64 0)]) (by kernel_rfl) ?_
      refine Run_loop (fun m L' h' => ∃ (i1 : Int) (s1 : Unit), 0 ≤ i1 ∧ M.forN (a_.length : Int) _ _ n m i1 s1 = some x1 ∧ L' = [(0, .slice aa_ a_.length ca_), (1, .slice ab b.length cb), (5, .int .i64 i1)] ∧ h = h') ((a_.length : Int) - 0 : Int).toNat ⟨0, (), Int.le_refl _, gx1, rfl, rfl⟩ ?_
      rintro my1 _ _ ⟨i1, s1, hloy1', gx1, rfl, rfl⟩
      refine Run_seq ?_
      refine Run_seq ?_
      refine Run_reg 4 (by kernel_rfl) (L' := [(0, .slice aa_ a_.length ca_), (1, .slice ab b.length cb), (5, .int .i64 i1), (14, .bool (decide (i1 < (a_.length : Int))))]) ?_ ?_
      · refine QRun_b [.int .i64 i1, .slice aa_ a_.length ca_, .int .i64 (a_.length : Int), .bool (decide (i1 < (a_.length : Int)))] 0 _ (by kernel_rfl) (fun w => by kernel_rfl) ?_
        exact QRun_done [0, 1, 5, 14] (by kernel_rfl) (by kernel_rfl)
      refine Run_cond (b := decide (i1 < (a_.length : Int))) (by kernel_rfl) (fun hb2 => ?_) (fun hb2 => ?_)
      · obtain ⟨my1, y1, rfl, hB1, hgoy1, houty1⟩ := M.for_go gx1 hb2
        have hlty1 := of_decide_eq_true hb2
        refine Run_skip ?_
        refine Run_seq ?_
        refine Run_block ?_
        refine Run_seq ?_
        obtain ⟨x2, hx1, hB1⟩ := M.bind_some hB1
        obtain ⟨hx1l, hx1u, hx1⟩ := M.idx_some hx1
        obtain ⟨x3, hx2, hB1⟩ := M.bind_some hB1
        obtain ⟨hx2l, hx2u, hx2⟩ := M.idx_some hx2
        refine Run_draw 9 mixed (by kernel_rfl) (by kernel_rfl) (L' := [(0, .slice aa_ a_.length ca_), (1, .slice ab b.length cb), (5, .int .i64 i1), (25, .bool (x2 != x3))]) ?_ ?_
        · refine QRun_b [.slice aa_ a_.length ca_, .int .i64 i1] 0 _ (by kernel_rfl) (fun w => by kernel_rfl) ?_
          refine QRun_y (.pointer (some (adr aa_ (i1.toNat * 1)))) (by kernel_rfl) (Y_idx (t := 23) (e := 2) (sz := 1) (a := aa_) (n := a_.length) (cap := ca_) (kk := .i64) (i := i1) (by kernel_rfl) Try.underlying23 (by kernel_rfl) (ra_.cell hx1).1 hx1l hx1u) ?_
          refine QRun_y (.int .i64 x2) (by kernel_rfl) (Y_load1 (t := 2) (p := adr aa_ (i1.toNat * 1)) (v := .int .i64 x2) (by kernel_rfl) (fun w => by kernel_rfl) (cd2_cell ra_ hx1)) ?_
          refine QRun_b [.slice ab b.length cb, .int .i64 i1] 4 _ (by kernel_rfl) (fun w => by kernel_rfl) ?_
          refine QRun_y (.pointer (some (adr ab (i1.toNat * 1)))) (by kernel_rfl) (Y_idx (t := 23) (e := 2) (sz := 1) (a := ab) (n := b.length) (cap := cb) (kk := .i64) (i := i1) (by kernel_rfl) Try.underlying23 (by kernel_rfl) (rb.cell hx2).1 hx2l hx2u) ?_
          refine QRun_y (.int .i64 x3) (by kernel_rfl) (Y_load1 (t := 2) (p := adr ab (i1.toNat * 1)) (v := .int .i64 x3) (by kernel_rfl) (fun w => by kernel_rfl) (cd2_cell rb hx2)) ?_
          refine QRun_b [.bool (x2 != x3)] 8 _ (by kernel_rfl) (fun w => by kernel_rfl) ?_
          exact QRun_done [0, 1, 5, 25] (by kernel_rfl) (by kernel_rfl)
        refine Run_cond (b := x2 != x3) (by kernel_rfl) (fun hb3 => ?_) (fun hb3 => ?_)
        · have hB1 := (M.ite_some hB1).1 hb3
          refine Run_seq ?_
          refine Run_reg 1 (by kernel_rfl) (L' := [(4, .bool false)]) ?_ ?_
          · refine QRun_b [.bool false] 0 _ (by kernel_rfl) (fun w => by kernel_rfl) ?_
            exact QRun_done [4] (by kernel_rfl) (by kernel_rfl)
          have hB1 := M.ret_some hB1
          have gx1 := houty1 _ hB1.symm
          have hF := M.cont_inr' hF gx1
          have hF := M.ret_some hF
          subst hF
          exact Run_ret1 rfl (ResV_tmp (v := .bool false) (by kernel_rfl)) ⟨rfl, rfl⟩
        · have hB1 := (M.ite_some hB1).2 hb3
          refine Run_skip ?_
          refine Run_blk ?_
          refine Run_reg 3 (by kernel_rfl) (L' := [(0, .slice aa_ a_.length ca_), (1, .slice ab b.length cb), (5, .int .i64 (i1 + 1))]) ?_ ?_
          · refine QRun_b [.int .i64 i1] 0 _ (by kernel_rfl) (fun w => by kernel_rfl) ?_
            refine QRun_y (.int .i64 (i1 + 1)) (by kernel_rfl) (Y_eq (v := .int .i64 (w64 (i1 + 1))) (Y_pure (fun w => by kernel_rfl)) (by rw [w64_eq _ (by omega)])) ?_
            refine QRun_b [.int .i64 (i1 + 1)] 2 _ (by kernel_rfl) (fun w => by kernel_rfl) ?_
            exact QRun_done [0, 1, 5] (by kernel_rfl) (by kernel_rfl)
          have hB1 := M.ret_some hB1
          have gx1 := hgoy1 _ hB1.symm
          exact Run_again [0, 1, 5] (by kernel_rfl) my1 (Nat.lt_succ_self _) ⟨i1 + 1, (), by omega, gx1, rfl, rfl⟩
      · have gx1 := M.for_end gx1 hb2
        subst gx1
        refine Run_exit (k' := _) rfl ?_
        exact Run_fall [] (by kernel_rfl) ⟨(), rfl, rfl, rfl⟩

set_option maxRecDepth 100000 in
set_option maxHeartbeats 4000000 in
theorem w_laws_likeTables9 (h : Heap) (a_ : List (List Int)) {Sa_ : Bs} (aa_ : Option Addr) (ca_ : Nat) (ra_ : Rd cd23 h Sa_ aa_ ca_ a_) (b : List (List Int)) {Sb : Bs} (ab : Option Addr) (cb : Nat) (rb : Rd cd23 h Sb ab cb b) (n : Nat) (r : Bool) (hF : laws_likeTables9 a_ b n = some r) :
    Fn Try.prog 35 #[.slice aa_ a_.length ca_, .slice ab b.length cb] h fun v h' => v = .bool r ∧ h' = h := by
  unfold laws_likeTables9 at hF
  refine Fn_enter (args := [.slice aa_ a_.length ca_, .slice ab b.length cb]) Try.func35 rfl (by kernel_rfl) (by kernel_rfl) (fun w0 _ => ?_)
  refine Run_seq ?_
  refine Run_reg 1 (by kernel_rfl) (L' := [(0, .slice aa_ a_.length ca_), (1, .slice ab b.length cb)]) ?_ ?_
  · refine QRun_b [.bool false] 0 _ (by kernel_rfl) (fun w => by kernel_rfl) ?_
    exact QRun_done [0, 1] (by kernel_rfl) (by kernel_rfl)
  refine Run_seq ?_
  refine Run_seq ?_
  refine Run_reg 5 (by kernel_rfl) (L' := [(0, .slice aa_ a_.length ca_), (1, .slice ab b.length cb), (10, .bool ((a_.length : Int) != (b.length : Int)))]) ?_ ?_
  · refine QRun_b [.slice aa_ a_.length ca_, .int .i64 (a_.length : Int), .slice ab b.length cb, .int .i64 (b.length : Int), .bool ((a_.length : Int) != (b.length : Int))] 0 _ (by kernel_rfl) (fun w => by kernel_rfl) ?_
    exact QRun_done [0, 1, 10] (by kernel_rfl) (by kernel_rfl)
  refine Run_cond (b := (a_.length : Int) != (b.length : Int)) (by kernel_rfl) (fun hb1 => ?_) (fun hb1 => ?_)
  · have hF := (M.ite_some hF).1 hb1
    refine Run_seq ?_
    refine Run_reg 1 (by kernel_rfl) (L' := [(4, .bool false)]) ?_ ?_
    · refine QRun_b [.bool false] 0 _ (by kernel_rfl) (fun w => by kernel_rfl) ?_
      exact QRun_done [4] (by kernel_rfl) (by kernel_rfl)
    have hF := M.ret_some hF
    subst hF
    exact Run_ret1 rfl (ResV_tmp (v := .bool false) (by kernel_rfl)) ⟨rfl, rfl⟩
  · have hF := (M.ite_some hF).2 hb1
    refine Run_skip ?_
    refine Run_seq ?_
    refine Run_seq ?_
    refine Run_reg 1 (by kernel_rfl) (L' := [(0, .slice aa_ a_.length ca_), (1, .slice ab b.length cb), (5, .int .i64 0)]) ?_ ?_
    · refine QRun_b [.int .i64 0] 0 _ (by kernel_rfl) (fun w => by kernel_rfl) ?_
      exact QRun_done [0, 1, 5] (by kernel_rfl) (by kernel_rfl)
    obtain ⟨x1, gx1, hF⟩ := M.bind_some hF
    obtain ⟨hloy1, hhiy1, gx1⟩ := M.for_start gx1
    refine Run_join (fun L' h' => ∃ (s2 : Unit), x1 = .inl s2 ∧ L' = [] ∧ h = h') ?_ ?_
    · rintro _ _ ⟨s2, es2, rfl, rfl⟩
      have hF := M.cont_inl' hF es2
      refine Run_seq ?_
      refine Run_reg 1 (by kernel_rfl) (L' := [(4, .bool true)]) ?_ ?_
      · refine QRun_b [.bool true] 0 _ (by kernel_rfl) (fun w => by kernel_rfl) ?_
        exact QRun_done [4] (by kernel_rfl) (by kernel_rfl)
      have hF := M.ret_some hF
      subst hF
      exact Run_ret1 rfl (ResV_tmp (v := .bool true) (by kernel_rfl)) ⟨rfl, rfl⟩
    · refine Run_block ?_
      refine Run_keep [0, 1, 5] (L' := [(0, .slice aa_ a_.length ca_), (1, .slice ab b.length cb), (5, .int .i64 0)]) (by kernel_rfl) ?_
      refine Run_loop (fun m L' h' => ∃ (i1 : Int) (s1 : Unit), 0 ≤ i1 ∧ M.forN (a_.length : Int) _ _ n m i1 s1 = some x1 ∧ L' = [(0, .slice aa_ a_.length ca_), (1, .slice ab b.length cb), (5, .int .i64 i1)] ∧ h = h') ((a_.length : Int) - 0 : Int).toNat ⟨0, (), Int.le_refl _, gx1, rfl, rfl⟩ ?_
      rintro my1 _ _ ⟨i1, s1, hloy1', gx1, rfl, rfl⟩
      refine Run_seq ?_
      refine Run_seq ?_
      refine Run_reg 4 (by kernel_rfl) (L' := [(0, .slice aa_ a_.length ca_), (1, .slice ab b.length cb), (5, .int .i64 i1), (14, .bool (decide (i1 < (a_.length : Int))))]) ?_ ?_
      · refine QRun_b [.int .i64 i1, .slice aa_ a_.length ca_, .int .i64 (a_.length : Int), .bool (decide (i1 < (a_.length : Int)))] 0 _ (by kernel_rfl) (fun w => by kernel_rfl) ?_
        exact QRun_done [0, 1, 5, 14] (by kernel_rfl) (by kernel_rfl)
      refine Run_cond (b := decide (i1 < (a_.length : Int))) (by kernel_rfl) (fun hb2 => ?_) (fun hb2 => ?_)
      · obtain ⟨my1, y1, rfl, hB1, hgoy1, houty1⟩ := M.for_go gx1 hb2
        have hlty1 := of_decide_eq_true hb2
        refine Run_skip ?_
        refine Run_seq ?_
        refine Run_block ?_
        refine Run_seq ?_
        obtain ⟨x2, hx1, hB1⟩ := M.bind_some hB1
        obtain ⟨hx1l, hx1u, hx1⟩ := M.idx_some hx1
        obtain ⟨a1, c1, hc1, r1⟩ := ra_.row hx1
        obtain ⟨x3, hx2, hB1⟩ := M.bind_some hB1
        obtain ⟨hx2l, hx2u, hx2⟩ := M.idx_some hx2
        obtain ⟨a2, c2, hc2, r2⟩ := rb.row hx2
        obtain ⟨x4, hx3, hB1⟩ := M.bind_some hB1
        refine Run_draw 10 mixed (by kernel_rfl) (by kernel_rfl) (L' := [(0, .slice aa_ a_.length ca_), (1, .slice ab b.length cb), (5, .int .i64 i1), (26, .bool (!x4))]) ?_ ?_
        · refine QRun_b [.slice aa_ a_.length ca_, .int .i64 i1] 0 _ (by kernel_rfl) (fun w => by kernel_rfl) ?_
          refine QRun_y (.pointer (some (adr aa_ (i1.toNat * 1)))) (by kernel_rfl) (Y_idx (t := 22) (e := 23) (sz := 1) (a := aa_) (n := a_.length) (cap := ca_) (kk := .i64) (i := i1) (by kernel_rfl) Try.underlying22 (by kernel_rfl) (ra_.cell hx1).1 hx1l hx1u) ?_
          refine QRun_y (.slice a1 x2.length c1) (by kernel_rfl) (Y_load1 (t := 23) (p := adr aa_ (i1.toNat * 1)) (v := .slice a1 x2.length c1) (by kernel_rfl) (fun w => by kernel_rfl) hc1) ?_
          refine QRun_b [.slice ab b.length cb, .int .i64 i1] 4 _ (by kernel_rfl) (fun w => by kernel_rfl) ?_
          refine QRun_y (.pointer (some (adr ab (i1.toNat * 1)))) (by kernel_rfl) (Y_idx (t := 22) (e := 23) (sz := 1) (a := ab) (n := b.length) (cap := cb) (kk := .i64) (i := i1) (by kernel_rfl) Try.underlying22 (by kernel_rfl) (rb.cell hx2).1 hx2l hx2u) ?_
          refine QRun_y (.slice a2 x3.length c2) (by kernel_rfl) (Y_load1 (t := 23) (p := adr ab (i1.toNat * 1)) (v := .slice a2 x3.length c2) (by kernel_rfl) (fun w => by kernel_rfl) hc2) ?_
          refine QRun_y (.bool x4) (by kernel_rfl) (Y_callq (f := 27) (args := #[.slice a1 x2.length c1, .slice a2 x3.length c2]) (v := .bool x4) (by kernel_rfl) (w_laws_likeInts h x2 a1 c1 r1 x3 a2 c2 r2 _ _ hx3)) ?_
          refine QRun_b [.bool (!x4)] 9 _ (by kernel_rfl) (fun w => by kernel_rfl) ?_
          exact QRun_done [0, 1, 5, 26] (by kernel_rfl) (by kernel_rfl)
        refine Run_cond (b := !x4) (by kernel_rfl) (fun hb3 => ?_) (fun hb3 => ?_)
        · have hB1 := (M.ite_some hB1).1 hb3
          refine Run_seq ?_
          refine Run_reg 1 (by kernel_rfl) (L' := [(4, .bool false)]) ?_ ?_
          · refine QRun_b [.bool false] 0 _ (by kernel_rfl) (fun w => by kernel_rfl) ?_
            exact QRun_done [4] (by kernel_rfl) (by kernel_rfl)
          have hB1 := M.ret_some hB1
          have gx1 := houty1 _ hB1.symm
          have hF := M.cont_inr' hF gx1
          have hF := M.ret_some hF
          subst hF
          exact Run_ret1 rfl (ResV_tmp (v := .bool false) (by kernel_rfl)) ⟨rfl, rfl⟩
        · have hB1 := (M.ite_some hB1).2 hb3
          refine Run_skip ?_
          refine Run_blk ?_
          refine Run_reg 3 (by kernel_rfl) (L' := [(0, .slice aa_ a_.length ca_), (1, .slice ab b.length cb), (5, .int .i64 (i1 + 1))]) ?_ ?_
          · refine QRun_b [.int .i64 i1] 0 _ (by kernel_rfl) (fun w => by kernel_rfl) ?_
            refine QRun_y (.int .i64 (i1 + 1)) (by kernel_rfl) (Y_eq (v := .int .i64 (w64 (i1 + 1))) (Y_pure (fun w => by kernel_rfl)) (by rw [w64_eq _ (by omega)])) ?_
            refine QRun_b [.int .i64 (i1 + 1)] 2 _ (by kernel_rfl) (fun w => by kernel_rfl) ?_
            exact QRun_done [0, 1, 5] (by kernel_rfl) (by kernel_rfl)
          have hB1 := M.ret_some hB1
          have gx1 := hgoy1 _ hB1.symm
          exact Run_again [0, 1, 5] (by kernel_rfl) my1 (Nat.lt_succ_self _) ⟨i1 + 1, (), by omega, gx1, rfl, rfl⟩
      · have gx1 := M.for_end gx1 hb2
        subst gx1
        refine Run_exit (k' := _) rfl ?_
        exact Run_fall [] (by kernel_rfl) ⟨(), rfl, rfl, rfl⟩

set_option maxRecDepth 100000 in
set_option maxHeartbeats 4000000 in
theorem w_impl_SumOf (h : Heap) (list : List Int) {Slist : Bs} (alist : Option Addr) (clist : Nat) (rlist : Rd cd2 h Slist alist clist list) (n : Nat) (r : Int × Int) (hF : impl_SumOf list n = some r) :
    Fn Try.prog 36 #[.slice alist list.length clist] h fun v h' => v = .tuple #[.int .i64 r.1, .int .i64 r.2] ∧ h' = h := by
  unfold impl_SumOf at hF
  refine Fn_enter (args := [.slice alist list.length clist]) Try.func36 rfl (by kernel_rfl) (by kernel_rfl) (fun w0 _ => ?_)
  refine Run_seq ?_
  refine Run_reg 2 (by kernel_rfl) (L' := [(0, .slice alist list.length clist)]) ?_ ?_
  · refine QRun_b [.int .i64 0, .int .i64 0] 0 _ (by kernel_rfl) (fun w => by kernel_rfl) ?_
    exact QRun_done [0] (by kernel_rfl) (by kernel_rfl)
  refine Run_seq ?_
  refine Run_seq ?_
  refine Run_reg 3 (by kernel_rfl) (L' := [(0, .slice alist list.length clist), (6, .bool (decide (200 < (list.length : Int))))]) ?_ ?_
  · refine QRun_b [.slice alist list.length clist, .int .i64 (list.length : Int), .bool (decide (200 < (list.length : Int)))] 0 _ (by kernel_rfl) (fun w => by kernel_rfl) ?_
    exact QRun_done [0, 6] (by kernel_rfl) (by kernel_rfl)
  refine Run_cond (b := decide (200 < (list.length : Int))) (by kernel_rfl) (fun hb1 => ?_) (fun hb1 => ?_)
  · have hF := (M.ite_some hF).1 hb1
    refine Run_seq ?_
    refine Run_reg 2 (by kernel_rfl) (L' := [(2, .int .i64 0), (3, .int .i64 3)]) ?_ ?_
    · refine QRun_b [.int .i64 0, .int .i64 3] 0 _ (by kernel_rfl) (fun w => by kernel_rfl) ?_
      exact QRun_done [2, 3] (by kernel_rfl) (by kernel_rfl)
    have hF := M.ret_some hF
    subst hF
    exact Run_ret2 rfl (ResV_tmp (v := .int .i64 0) (by kernel_rfl)) (ResV_tmp (v := .int .i64 3) (by kernel_rfl)) ⟨rfl, rfl⟩
  · have hF := (M.ite_some hF).2 hb1
    refine Run_skip ?_
    refine Run_seq ?_
    refine Run_seq ?_
    obtain ⟨x1, hx1, hF⟩ := M.bind_some hF
    refine Run_reg 3 (by kernel_rfl) (L' := [(0, .slice alist list.length clist), (9, .bool (!x1))]) ?_ ?_
    · refine QRun_b [.slice alist list.length clist] 0 _ (by kernel_rfl) (fun w => by kernel_rfl) ?_
      refine QRun_y (.bool x1) (by kernel_rfl) (Y_callq (f := 102) (args := #[.slice alist list.length clist]) (v := .bool x1) (by kernel_rfl) (w_impl_areValues h list alist clist rlist _ _ hx1)) ?_
      refine QRun_b [.bool (!x1)] 2 _ (by kernel_rfl) (fun w => by kernel_rfl) ?_
      exact QRun_done [0, 9] (by kernel_rfl) (by kernel_rfl)
    refine Run_cond (b := !x1) (by kernel_rfl) (fun hb2 => ?_) (fun hb2 => ?_)
    · have hF := (M.ite_some hF).1 hb2
      refine Run_seq ?_
      refine Run_reg 2 (by kernel_rfl) (L' := [(2, .int .i64 0), (3, .int .i64 1)]) ?_ ?_
      · refine QRun_b [.int .i64 0, .int .i64 1] 0 _ (by kernel_rfl) (fun w => by kernel_rfl) ?_
        exact QRun_done [2, 3] (by kernel_rfl) (by kernel_rfl)
      have hF := M.ret_some hF
      subst hF
      exact Run_ret2 rfl (ResV_tmp (v := .int .i64 0) (by kernel_rfl)) (ResV_tmp (v := .int .i64 1) (by kernel_rfl)) ⟨rfl, rfl⟩
    · have hF := (M.ite_some hF).2 hb2
      refine Run_skip ?_
      refine Run_seq ?_
      obtain ⟨x2, hx2, hF⟩ := M.bind_some hF
      refine Run_reg 4 (by kernel_rfl) (L' := [(2, .int .i64 x2), (3, .int .i64 0)]) ?_ ?_
      · refine QRun_b [.slice alist list.length clist] 0 _ (by kernel_rfl) (fun w => by kernel_rfl) ?_
        refine QRun_y (.int .i64 x2) (by kernel_rfl) (Y_callq (f := 96) (args := #[.slice alist list.length clist]) (v := .int .i64 x2) (by kernel_rfl) (w_impl_sumOf h list alist clist rlist _ _ hx2)) ?_
        refine QRun_b [.int .i64 x2, .int .i64 0] 2 _ (by kernel_rfl) (fun w => by kernel_rfl) ?_
        exact QRun_done [2, 3] (by kernel_rfl) (by kernel_rfl)
      have hF := M.ret_some hF
      subst hF
      exact Run_ret2 rfl (ResV_tmp (v := .int .i64 x2) (by kernel_rfl)) (ResV_tmp (v := .int .i64 0) (by kernel_rfl)) ⟨rfl, rfl⟩

set_option maxRecDepth 100000 in
set_option maxHeartbeats 4000000 in
theorem w_impl_timesVector (h : Heap) (a_ : List (List Int)) (aa_ : Option Addr) (ca_ : Nat) (ra_ : Rd cd23 h (Lt h) aa_ ca_ a_) (x_ : List Int) (ax_ : Option Addr) (cx_ : Nat) (rx_ : Rd cd2 h (Lt h) ax_ cx_ x_) (n : Nat) (r : (List Int)) (hF : impl_timesVector a_ x_ n = some r) :
    Fn Try.prog 103 #[.slice aa_ a_.length ca_, .slice ax_ x_.length cx_] h fun v h' => ∃ (a0 : Option Addr) (c0 : Nat), v = .slice a0 r.length c0 ∧ Hold h h' [own cd2 a0 r.length c0 r] := by
  unfold impl_timesVector at hF
  refine Fn_enter (args := [.slice aa_ a_.length ca_, .slice ax_ x_.length cx_]) Try.func103 rfl (by kernel_rfl) (by kernel_rfl) (fun w0 _ => ?_)
  have H0 := Hold.init h
  refine Run_seq ?_
  refine Run_reg 1 (by kernel_rfl) (L' := [(0, .slice aa_ a_.length ca_), (1, .slice ax_ x_.length cx_)]) ?_ ?_
  · refine QRun_b [.slice none 0 0] 0 _ (by kernel_rfl) (fun w => by kernel_rfl) ?_
    exact QRun_done [0, 1] (by kernel_rfl) (by kernel_rfl)
  refine Run_seq ?_
  refine Run_ops ?_
  refine Run_b [.slice aa_ a_.length ca_, .int .i64 (a_.length : Int)] 0 _ (by kernel_rfl) (fun w => by kernel_rfl) ?_
  obtain ⟨l1, hl1, hF⟩ := M.bind_some hF
  have hl1 := M.make_some hl1
  refine Run_E (by kernel_rfl) ?_
  refine E_make cd2 0 (kl := .i64) (kc := .i64) H0 cd2_ti Try.underlying23 (by decide) cd2_zero (by kernel_rfl) hl1 (fun a1 h1 H1 => ?_)
  refine Run_b [.slice a1 l1.length l1.length] 3 _ (by kernel_rfl) (fun w => by kernel_rfl) ?_
  refine Run_nil (by kernel_rfl) ?_
  refine Run_keep [0, 1, 5] (L' := [(0, .slice aa_ a_.length ca_), (1, .slice ax_ x_.length cx_), (5, .slice a1 l1.length l1.length)]) (by kernel_rfl) ?_
  refine Run_seq ?_
  refine Run_seq ?_
  refine Run_reg 3 (by kernel_rfl) (L' := [(1, .slice ax_ x_.length cx_), (5, .slice a1 l1.length l1.length), (13, .slice aa_ a_.length ca_), (14, .int .i64 (a_.length : Int)), (15, .int .i64 0)]) ?_ ?_
  · refine QRun_b [.slice aa_ a_.length ca_, .int .i64 (a_.length : Int), .int .i64 0] 0 _ (by kernel_rfl) (fun w => by kernel_rfl) ?_
    exact QRun_done [1, 5, 13, 14, 15] (by kernel_rfl) (by kernel_rfl)
  obtain ⟨x1, gx1, hF⟩ := M.bind_some hF
  obtain ⟨hloy1, hhiy1, gx1⟩ := M.for_start gx1
  refine Run_join (fun L' h' => L' = [(5, .slice a1 l1.length l1.length)] ∧ Hold h h' [own cd2 a1 l1.length l1.length x1]) ?_ ?_
  · rintro _ h3 ⟨rfl, H3⟩
    refine Run_seq ?_
    refine Run_reg 2 (by kernel_rfl) (L' := [(4, .slice a1 l1.length l1.length)]) ?_ ?_
    · refine QRun_b [.slice a1 l1.length l1.length, .slice a1 l1.length l1.length] 0 _ (by kernel_rfl) (fun w => by kernel_rfl) ?_
      exact QRun_done [4] (by kernel_rfl) (by kernel_rfl)
    have hF := M.ret_some hF
    subst hF
    have H10 := H3.norm
    exact Run_ret1 rfl (ResV_tmp (v := .slice a1 l1.length l1.length) (by kernel_rfl)) ⟨a1, l1.length, (by simp only [(H3.len 0 rfl)]), H10⟩
  · refine Run_block ?_
    refine Run_keep [1, 5, 13, 14, 15] (L' := [(1, .slice ax_ x_.length cx_), (5, .slice a1 l1.length l1.length), (13, .slice aa_ a_.length ca_), (14, .int .i64 (a_.length : Int)), (15, .int .i64 0)]) (by kernel_rfl) ?_
    refine Run_loop (fun m L' h' => ∃ (i1 : Int) (s1 : (List Int)), 0 ≤ i1 ∧ M.forN (a_.length : Int) _ _ n m i1 s1 = some x1 ∧ L' = [(1, .slice ax_ x_.length cx_), (5, .slice a1 l1.length l1.length), (13, .slice aa_ a_.length ca_), (14, .int .i64 (a_.length : Int)), (15, .int .i64 i1)] ∧ Hold h h' [own cd2 a1 l1.length l1.length s1]) ((a_.length : Int) - 0 : Int).toNat ⟨0, l1, Int.le_refl _, gx1, rfl, H1⟩ ?_
    rintro my1 _ h2 ⟨i1, s1, hloy1', gx1, rfl, H2⟩
    refine Run_seq ?_
    refine Run_reg 1 (by kernel_rfl) (L' := [(1, .slice ax_ x_.length cx_), (5, .slice a1 l1.length l1.length), (13, .slice aa_ a_.length ca_), (14, .int .i64 (a_.length : Int)), (15, .int .i64 i1), (16, .bool (decide (i1 < (a_.length : Int))))]) ?_ ?_
    · refine QRun_b [.bool (decide (i1 < (a_.length : Int)))] 0 _ (by kernel_rfl) (fun w => by kernel_rfl) ?_
      exact QRun_done [1, 5, 13, 14, 15, 16] (by kernel_rfl) (by kernel_rfl)
    refine Run_seq ?_
    refine Run_cond (b := decide (i1 < (a_.length : Int))) (by kernel_rfl) (fun hb1 => ?_) (fun hb1 => ?_)
    · obtain ⟨my1, y1, rfl, hB1, hgoy1, houty1⟩ := M.for_go gx1 hb1
      have hlty1 := of_decide_eq_true hb1
      refine Run_skip ?_
      refine Run_seq ?_
      refine Run_block ?_
      refine Run_seq ?_
      obtain ⟨x2, hx1, hB1⟩ := M.bind_some hB1
      obtain ⟨hx1l, hx1u, hx1⟩ := M.idx_some hx1
      obtain ⟨a2, c1, hc1, r1⟩ := ra_.row hx1
      refine Run_reg 5 (by kernel_rfl) (L' := [(1, .slice ax_ x_.length cx_), (5, .slice a1 l1.length l1.length), (6, .int .i64 i1), (7, .slice a2 x2.length c1), (13, .slice aa_ a_.length ca_), (14, .int .i64 (a_.length : Int)), (15, .int .i64 i1)]) ?_ ?_
      · refine QRun_b [.int .i64 i1] 0 _ (by kernel_rfl) (fun w => by kernel_rfl) ?_
        refine QRun_y (.pointer (some (adr aa_ (i1.toNat * 1)))) (by kernel_rfl) (Y_idx (t := 22) (e := 23) (sz := 1) (a := aa_) (n := a_.length) (cap := ca_) (kk := .i64) (i := i1) (by kernel_rfl) Try.underlying22 (by kernel_rfl) ((ra_.at H2.ext).cell hx1).1 hx1l hx1u) ?_
        refine QRun_y (.slice a2 x2.length c1) (by kernel_rfl) (Y_load1 (t := 23) (p := adr aa_ (i1.toNat * 1)) (v := .slice a2 x2.length c1) (by kernel_rfl) (fun w => by kernel_rfl) (cell_at H2.ext hc1)) ?_
        refine QRun_b [.int .i64 i1, .slice a2 x2.length c1] 3 _ (by kernel_rfl) (fun w => by kernel_rfl) ?_
        exact QRun_done [1, 5, 6, 7, 13, 14, 15] (by kernel_rfl) (by kernel_rfl)
      refine Run_seq ?_
      refine Run_ops ?_
      obtain ⟨x3, hx2, hB1⟩ := M.bind_some hB1
      obtain ⟨hx2l, hx2u, hx2⟩ := M.idx_some hx2
      refine Run_b [.slice a1 l1.length l1.length, .int .i64 i1] 0 _ (by kernel_rfl) (fun w => by kernel_rfl) ?_
      refine Run_y (.pointer (some (adr a1 (i1.toNat * 1)))) (by kernel_rfl) (Y_idx (t := 23) (e := 2) (sz := 1) (a := a1) (n := l1.length) (cap := l1.length) (kk := .i64) (i := i1) (by kernel_rfl) Try.underlying23 (by kernel_rfl) ((H2.rd 0 rfl).cell hx2).1 hx2l (by rw [← (H2.len 0 rfl)]; exact hx2u)) ?_
      obtain ⟨l2, hu1, hB1⟩ := M.bind_some hB1
      have hu1 := M.upd_some hu1
      refine Run_E (by kernel_rfl) ?_
      refine E_put (C := cd2) (t := 2) (sz := 1) (j := i1) (x := (-1000000000000000)) (v := .int .i64 (-1000000000000000)) H2 cd2_flat (by kernel_rfl) rfl (cd2_own _) (by kernel_rfl) hu1 (fun h4 H4 => ?_)
      refine Run_nil (by kernel_rfl) ?_
      refine Run_keep [1, 5, 6, 7, 13, 14, 15] (L' := [(1, .slice ax_ x_.length cx_), (5, .slice a1 l1.length l1.length), (6, .int .i64 i1), (7, .slice a2 x2.length c1), (13, .slice aa_ a_.length ca_), (14, .int .i64 (a_.length : Int)), (15, .int .i64 i1)]) (by kernel_rfl) ?_
      refine Run_seq ?_
      refine Run_reg 3 (by kernel_rfl) (L' := [(1, .slice ax_ x_.length cx_), (5, .slice a1 l1.length l1.length), (6, .int .i64 i1), (13, .slice aa_ a_.length ca_), (14, .int .i64 (a_.length : Int)), (15, .int .i64 i1), (23, .slice a2 x2.length c1), (24, .int .i64 (x2.length : Int)), (25, .int .i64 0)]) ?_ ?_
      · refine QRun_b [.slice a2 x2.length c1, .int .i64 (x2.length : Int), .int .i64 0] 0 _ (by kernel_rfl) (fun w => by kernel_rfl) ?_
        exact QRun_done [1, 5, 6, 13, 14, 15, 23, 24, 25] (by kernel_rfl) (by kernel_rfl)
      obtain ⟨x4, gx4, hB1⟩ := M.bind_some hB1
      obtain ⟨hloy2, hhiy2, gx4⟩ := M.for_start gx4
      refine Run_join (fun L' h' => L' = [(1, .slice ax_ x_.length cx_), (5, .slice a1 l1.length l1.length), (13, .slice aa_ a_.length ca_), (14, .int .i64 (a_.length : Int)), (15, .int .i64 i1)] ∧ Hold h h' [own cd2 a1 l1.length l1.length x4]) ?_ ?_
      · rintro _ h6 ⟨rfl, H6⟩
        refine Run_blk ?_
        refine Run_reg 2 (by kernel_rfl) (L' := [(1, .slice ax_ x_.length cx_), (5, .slice a1 l1.length l1.length), (13, .slice aa_ a_.length ca_), (14, .int .i64 (a_.length : Int)), (15, .int .i64 (i1 + 1))]) ?_ ?_
        · refine QRun_y (.int .i64 (i1 + 1)) (by kernel_rfl) (Y_eq (v := .int .i64 (w64 (i1 + 1))) (Y_pure (fun w => by kernel_rfl)) (by rw [w64_eq _ (by omega)])) ?_
          refine QRun_b [.int .i64 (i1 + 1)] 1 _ (by kernel_rfl) (fun w => by kernel_rfl) ?_
          exact QRun_done [1, 5, 13, 14, 15] (by kernel_rfl) (by kernel_rfl)
        have hB1 := M.ret_some hB1
        have gx1 := hgoy1 _ hB1.symm
        exact Run_again [1, 5, 13, 14, 15] (by kernel_rfl) my1 (Nat.lt_succ_self _) ⟨i1 + 1, x4, by omega, gx1, rfl, H6⟩
      · refine Run_block ?_
        refine Run_keep [1, 5, 6, 13, 14, 15, 23, 24, 25] (L' := [(1, .slice ax_ x_.length cx_), (5, .slice a1 l1.length l1.length), (6, .int .i64 i1), (13, .slice aa_ a_.length ca_), (14, .int .i64 (a_.length : Int)), (15, .int .i64 i1), (23, .slice a2 x2.length c1), (24, .int .i64 (x2.length : Int)), (25, .int .i64 0)]) (by kernel_rfl) ?_
        refine Run_loop (fun m L' h' => ∃ (i2 : Int) (s2 : (List Int)), 0 ≤ i2 ∧ M.forN (x2.length : Int) _ _ n m i2 s2 = some x4 ∧ L' = [(1, .slice ax_ x_.length cx_), (5, .slice a1 l1.length l1.length), (6, .int .i64 i1), (13, .slice aa_ a_.length ca_), (14, .int .i64 (a_.length : Int)), (15, .int .i64 i1), (23, .slice a2 x2.length c1), (24, .int .i64 (x2.length : Int)), (25, .int .i64 i2)] ∧ Hold h h' [own cd2 a1 l1.length l1.length s2]) ((x2.length : Int) - 0 : Int).toNat ⟨0, l2, Int.le_refl _, gx4, rfl, H4⟩ ?_
        rintro my2 _ h5 ⟨i2, s2, hloy2', gx4, rfl, H5⟩
        refine Run_seq ?_
        refine Run_reg 1 (by kernel_rfl) (L' := [(1, .slice ax_ x_.length cx_), (5, .slice a1 l1.length l1.length), (6, .int .i64 i1), (13, .slice aa_ a_.length ca_), (14, .int .i64 (a_.length : Int)), (15, .int .i64 i1), (23, .slice a2 x2.length c1), (24, .int .i64 (x2.length : Int)), (25, .int .i64 i2), (26, .bool (decide (i2 < (x2.length : Int))))]) ?_ ?_
        · refine QRun_b [.bool (decide (i2 < (x2.length : Int)))] 0 _ (by kernel_rfl) (fun w => by kernel_rfl) ?_
          exact QRun_done [1, 5, 6, 13, 14, 15, 23, 24, 25, 26] (by kernel_rfl) (by kernel_rfl)
        refine Run_seq ?_
        refine Run_cond (b := decide (i2 < (x2.length : Int))) (by kernel_rfl) (fun hb2 => ?_) (fun hb2 => ?_)
        · obtain ⟨my2, y2, rfl, hB2, hgoy2, houty2⟩ := M.for_go gx4 hb2
          have hlty2 := of_decide_eq_true hb2
          refine Run_skip ?_
          refine Run_seq ?_
          refine Run_block ?_
          refine Run_seq ?_
          obtain ⟨x5, hx3, hB2⟩ := M.bind_some hB2
          obtain ⟨hx3l, hx3u, hx3⟩ := M.idx_some hx3
          refine Run_reg 5 (by kernel_rfl) (L' := [(1, .slice ax_ x_.length cx_), (5, .slice a1 l1.length l1.length), (6, .int .i64 i1), (8, .int .i64 i2), (9, .int .i64 x5), (13, .slice aa_ a_.length ca_), (14, .int .i64 (a_.length : Int)), (15, .int .i64 i1), (23, .slice a2 x2.length c1), (24, .int .i64 (x2.length : Int)), (25, .int .i64 i2)]) ?_ ?_
          · refine QRun_b [.int .i64 i2] 0 _ (by kernel_rfl) (fun w => by kernel_rfl) ?_
            refine QRun_y (.pointer (some (adr a2 (i2.toNat * 1)))) (by kernel_rfl) (Y_idx (t := 23) (e := 2) (sz := 1) (a := a2) (n := x2.length) (cap := c1) (kk := .i64) (i := i2) (by kernel_rfl) Try.underlying23 (by kernel_rfl) ((r1.at H5.ext).cell hx3).1 hx3l hx3u) ?_
            refine QRun_y (.int .i64 x5) (by kernel_rfl) (Y_load1 (t := 2) (p := adr a2 (i2.toNat * 1)) (v := .int .i64 x5) (by kernel_rfl) (fun w => by kernel_rfl) (cd2_cell (r1.at H5.ext) hx3)) ?_
            refine QRun_b [.int .i64 i2, .int .i64 x5] 3 _ (by kernel_rfl) (fun w => by kernel_rfl) ?_
            exact QRun_done [1, 5, 6, 8, 9, 13, 14, 15, 23, 24, 25] (by kernel_rfl) (by kernel_rfl)
          obtain ⟨x6, hx4, hB2⟩ := M.bind_some hB2
          obtain ⟨hx4l, hx4u, hx4⟩ := M.idx_some hx4
          obtain ⟨x7, hx5, hB2⟩ := M.bind_some hB2
          obtain ⟨hx5l, hx5u, hx5⟩ := M.idx_some hx5
          obtain ⟨x8, hx6, hB2⟩ := M.bind_some hB2
          obtain ⟨x9, hx7, hB2⟩ := M.bind_some hB2
          obtain ⟨hx7l, hx7u, hx7⟩ := M.idx_some hx7
          refine Run_D (fun x => Hold h x [own cd2 a1 l1.length l1.length s2]) (fun x => Hold h x [own cd2 a1 l1.length l1.length s2]) mixed (by kernel_rfl) H5 Hold.stable (fun x Hy => (show Hold h x [own cd2 a1 l1.length l1.length s2] from Hy).pick [0] (by kernel_rfl)) ?_
          refine DR_b 11 [.slice a1 l1.length l1.length, .int .i64 i1, .slice a1 l1.length l1.length, .int .i64 i1] 0 (by kernel_rfl) (by kernel_rfl) (by kernel_rfl) (fun w => by kernel_rfl) ?_
          refine DR_y 10 (i := 4) (.pointer (some (adr a1 (i1.toNat * 1)))) (by kernel_rfl) (by kernel_rfl) (by kernel_rfl) (fun hx Hx => (YE.of (Y_idx (t := 23) (e := 2) (sz := 1) (a := a1) (n := l1.length) (cap := l1.length) (kk := .i64) (i := i1) (by kernel_rfl) Try.underlying23 (by kernel_rfl) ((H5.rd 0 rfl).cell hx4).1 hx4l (by rw [← (H5.len 0 rfl)]; exact hx4u)))) ?_
          refine DR_y 9 (i := 5) (.int .i64 x6) (by kernel_rfl) (by kernel_rfl) (by kernel_rfl) (fun hx Hx => (YE.of (Y_load1 (t := 2) (p := adr a1 (i1.toNat * 1)) (v := .int .i64 x6) (by kernel_rfl) (fun w => by kernel_rfl) (cd2_cell (Hx.rd 0 rfl) hx4)))) ?_
          refine DR_b 6 [.int .i64 x5, .slice ax_ x_.length cx_, .int .i64 i2] 6 (by kernel_rfl) (by kernel_rfl) (by kernel_rfl) (fun w => by kernel_rfl) ?_
          refine DR_y 5 (i := 9) (.pointer (some (adr ax_ (i2.toNat * 1)))) (by kernel_rfl) (by kernel_rfl) (by kernel_rfl) (fun hx Hx => (YE.of (Y_idx (t := 23) (e := 2) (sz := 1) (a := ax_) (n := x_.length) (cap := cx_) (kk := .i64) (i := i2) (by kernel_rfl) Try.underlying23 (by kernel_rfl) ((rx_.at H5.ext).cell hx5).1 hx5l hx5u))) ?_
          refine DR_y 4 (i := 10) (.int .i64 x7) (by kernel_rfl) (by kernel_rfl) (by kernel_rfl) (fun hx Hx => (YE.of (Y_load1 (t := 2) (p := adr ax_ (i2.toNat * 1)) (v := .int .i64 x7) (by kernel_rfl) (fun w => by kernel_rfl) (cd2_cell (rx_.at Hx.ext) hx5)))) ?_
          refine DR_y 3 (i := 11) (.int .i64 x8) (by kernel_rfl) (by kernel_rfl) (by kernel_rfl) (fun hx Hx => (YE.of (Y_callq (f := 72) (args := #[.int .i64 x5, .int .i64 x7]) (v := .int .i64 x8) (by kernel_rfl) (w_impl_times hx x5 x7 _ _ hx6)))) ?_
          refine DR_b 2 [.int .i64 (mx x6 x8)] 12 (by kernel_rfl) (by kernel_rfl) (by kernel_rfl) (fun w => by kernel_rfl) ?_
          refine DR_y 1 (i := 13) (.pointer (some (adr a1 (i1.toNat * 1)))) (by kernel_rfl) (by kernel_rfl) (by kernel_rfl) (fun hx Hx => (YE.of (Y_idx (t := 23) (e := 2) (sz := 1) (a := a1) (n := l1.length) (cap := l1.length) (kk := .i64) (i := i1) (by kernel_rfl) Try.underlying23 (by kernel_rfl) ((H5.rd 0 rfl).cell hx7).1 hx7l (by rw [← (H5.len 0 rfl)]; exact hx7u)))) ?_
          refine DR_tail (i := 14) (by kernel_rfl) (by kernel_rfl) (by kernel_rfl) (fun h7 H7 => ?_)
          have H8 : Hold h h7 [own cd2 a1 l1.length l1.length s2] := H7
          obtain ⟨l3, hu2, hB2⟩ := M.bind_some hB2
          have hu2 := M.upd_some hu2
          refine Run_E (by kernel_rfl) ?_
          refine E_put (C := cd2) (t := 2) (sz := 1) (j := i1) (x := (mx x6 x8)) (v := .int .i64 (mx x6 x8)) H8 cd2_flat (by kernel_rfl) rfl (cd2_own _) (by kernel_rfl) hu2 (fun h8 H9 => ?_)
          refine Run_nil (by kernel_rfl) ?_
          refine Run_keep [1, 5, 6, 13, 14, 15, 23, 24, 25] (L' := [(1, .slice ax_ x_.length cx_), (5, .slice a1 l1.length l1.length), (6, .int .i64 i1), (13, .slice aa_ a_.length ca_), (14, .int .i64 (a_.length : Int)), (15, .int .i64 i1), (23, .slice a2 x2.length c1), (24, .int .i64 (x2.length : Int)), (25, .int .i64 i2)]) (by kernel_rfl) ?_
          refine Run_blk ?_
          refine Run_reg 2 (by kernel_rfl) (L' := [(1, .slice ax_ x_.length cx_), (5, .slice a1 l1.length l1.length), (6, .int .i64 i1), (13, .slice aa_ a_.length ca_), (14, .int .i64 (a_.length : Int)), (15, .int .i64 i1), (23, .slice a2 x2.length c1), (24, .int .i64 (x2.length : Int)), (25, .int .i64 (i2 + 1))]) ?_ ?_
          · refine QRun_y (.int .i64 (i2 + 1)) (by kernel_rfl) (Y_eq (v := .int .i64 (w64 (i2 + 1))) (Y_pure (fun w => by kernel_rfl)) (by rw [w64_eq _ (by omega)])) ?_
            refine QRun_b [.int .i64 (i2 + 1)] 1 _ (by kernel_rfl) (fun w => by kernel_rfl) ?_
            exact QRun_done [1, 5, 6, 13, 14, 15, 23, 24, 25] (by kernel_rfl) (by kernel_rfl)
          have hB2 := M.ret_some hB2
          have gx4 := hgoy2 _ hB2.symm
          exact Run_again [1, 5, 6, 13, 14, 15, 23, 24, 25] (by kernel_rfl) my2 (Nat.lt_succ_self _) ⟨i2 + 1, l3, by omega, gx4, rfl, H9⟩
        · have gx4 := M.for_end gx4 hb2
          subst gx4
          refine Run_exit (k' := _) rfl ?_
          exact Run_fall [1, 5, 13, 14, 15] (by kernel_rfl) ⟨rfl, H5⟩
    · have gx1 := M.for_end gx1 hb1
      subst gx1
      refine Run_exit (k' := _) rfl ?_
      exact Run_fall [5] (by kernel_rfl) ⟨rfl, H2⟩

end Go.Proofs.Ytjdcdcipilhmeaa
