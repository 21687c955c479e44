/-
  Walks: each Go function, called with what reads as plain data, returns what its plain program computes.
  Conditions: None beyond the given statement.
-/
import Derived.Test.YtipdgiljgbjjkaaW2
namespace Go.Proofs.Ytipdgiljgbjjkaa
open Go
attribute [local irreducible] setL setB opA fineI idleI fineB evB okB markB markBs readyB readyBs chainB lk rho pickL dropSlot tailOK
set_option maxRecDepth 100000 in
set_option maxHeartbeats 4000000 in
theorem w_spec_l01Own (h : Heap) (list : List Int) (alist : Option Addr) (clist : Nat) (rlist : Rd cd2 h (Lt h) alist clist list) (n : Nat) (r : (List Int)) (hF : spec_l01Own list n = some r) :
    Fn Try.prog 187 #[.slice alist list.length clist] h fun v h' => ∃ (a0 : Option Addr) (c0 : Nat), v = .slice a0 r.length c0 ∧ Hold h h' [own cd2 a0 r.length c0 r] := by
  unfold spec_l01Own at hF
  refine Fn_enter (args := [.slice alist list.length clist]) Try.func187 rfl (by kernel_rfl) (by kernel_rfl) (fun w0 _ => ?_)
  have H0 := Hold.init h
  refine Run_seq ?_
  refine Run_reg 1 (by kernel_rfl) (L' := [(0, .slice alist list.length clist)]) ?_ ?_
  · refine QRun_b [.slice none 0 0] 0 _ (by kernel_rfl) (fun w => by kernel_rfl) ?_
    exact QRun_done [0] (by kernel_rfl) (by kernel_rfl)
  refine Run_seq ?_
  refine Run_ops ?_
  refine Run_E (by kernel_rfl) ?_
  refine E_lit (C := cd2) (n := 0) (l := ([] : List Int)) (cs := []) H0 (fun w => by kernel_rfl) (Enc.nil _ _) rfl (by decide) (fun a1 h1 H1 => ?_)
  refine Run_b [.slice alist list.length clist] 1 _ (by kernel_rfl) (fun w => by kernel_rfl) ?_
  obtain ⟨l1, hl1, hF⟩ := M.bind_some hF
  have hl1 := M.app_some hl1
  refine Run_E (by kernel_rfl) ?_
  refine E_appR (C := cd2) (t := 39) (ty := 39) (n := 0) (m := list.length) H1 cd2_copies (rlist.at H1.ext) rfl cd2_ti rfl Try.underlying39 (by decide) (by kernel_rfl) hl1 (fun a2 c1 h2 H2 => ?_)
  refine Run_b [.slice a2 l1.length c1] 3 _ (by kernel_rfl) (fun w => by kernel_rfl) ?_
  refine Run_nil (by kernel_rfl) ?_
  refine Run_keep [2] (L' := [(2, .slice a2 l1.length c1)]) (by kernel_rfl) ?_
  have hF := M.ret_some hF
  subst hF
  exact Run_ret1 rfl (ResV_tmp (v := .slice a2 l1.length c1) (by kernel_rfl)) ⟨a2, c1, rfl, H2⟩

set_option maxRecDepth 100000 in
set_option maxHeartbeats 4000000 in
theorem w_spec_l02Own (h : Heap) (a_ : List (List Int)) (aa_ : Option Addr) (ca_ : Nat) (ra_ : Rd cd39 h (Lt h) aa_ ca_ a_) (n : Nat) (r : (List (List Int))) (hF : spec_l02Own a_ n = some r) :
    Fn Try.prog 176 #[.slice aa_ a_.length ca_] h fun v h' => ∃ (a0 : Option Addr) (c0 : Nat), v = .slice a0 r.length c0 ∧ Hold h h' [own cd39 a0 r.length c0 r] := by
  unfold spec_l02Own at hF
  refine Fn_enter (args := [.slice aa_ a_.length ca_]) Try.func176 rfl (by kernel_rfl) (by kernel_rfl) (fun w0 _ => ?_)
  have H0 := Hold.init h
  refine Run_seq ?_
  refine Run_reg 1 (by kernel_rfl) (L' := [(0, .slice aa_ a_.length ca_)]) ?_ ?_
  · refine QRun_b [.slice none 0 0] 0 _ (by kernel_rfl) (fun w => by kernel_rfl) ?_
    exact QRun_done [0] (by kernel_rfl) (by kernel_rfl)
  refine Run_seq ?_
  refine Run_ops ?_
  refine Run_E (by kernel_rfl) ?_
  refine E_lit (C := cd39) (n := 0) (l := []) (cs := []) H0 (fun w => by kernel_rfl) (Enc.nil _ _) rfl (by decide) (fun a1 h1 H1 => ?_)
  refine Run_b [.slice a1 0 0] 1 _ (by kernel_rfl) (fun w => by kernel_rfl) ?_
  refine Run_nil (by kernel_rfl) ?_
  refine Run_keep [0, 3] (L' := [(0, .slice aa_ a_.length ca_), (3, .slice a1 0 0)]) (by kernel_rfl) ?_
  refine Run_seq ?_
  refine Run_seq ?_
  refine Run_reg 1 (by kernel_rfl) (L' := [(0, .slice aa_ a_.length ca_), (3, .slice a1 0 0), (4, .int .i64 0)]) ?_ ?_
  · refine QRun_b [.int .i64 0] 0 _ (by kernel_rfl) (fun w => by kernel_rfl) ?_
    exact QRun_done [0, 3, 4] (by kernel_rfl) (by kernel_rfl)
  obtain ⟨x1, gx1, hF⟩ := M.bind_some hF
  obtain ⟨hloy1, hhiy1, gx1⟩ := M.for_start gx1
  refine Run_join (fun L' h' => ∃ (a3 : Option Addr) (c2 : Nat), L' = [(3, .slice a3 x1.length c2)] ∧ Hold h h' [own cd39 a3 x1.length c2 x1]) ?_ ?_
  · rintro _ h3 ⟨a3, c2, rfl, H3⟩
    refine Run_seq ?_
    refine Run_reg 2 (by kernel_rfl) (L' := [(2, .slice a3 x1.length c2)]) ?_ ?_
    · refine QRun_b [.slice a3 x1.length c2, .slice a3 x1.length c2] 0 _ (by kernel_rfl) (fun w => by kernel_rfl) ?_
      exact QRun_done [2] (by kernel_rfl) (by kernel_rfl)
    have hF := M.ret_some hF
    subst hF
    exact Run_ret1 rfl (ResV_tmp (v := .slice a3 x1.length c2) (by kernel_rfl)) ⟨a3, c2, rfl, H3⟩
  · refine Run_block ?_
    have hn1 := (H1.len 0 rfl)
    have H11 : Hold h h1 [own cd39 a1 (([] : List (List Int)).length) 0 ([] : List (List Int))] := by rw [hn1]; exact H1
    refine Run_keep [0, 3, 4] (L' := [(0, .slice aa_ a_.length ca_), (3, .slice a1 (([] : List (List Int)).length) 0), (4, .int .i64 0)]) (by first | (rw [hn1]; kernel_rfl) | (simp only [hn1]; kernel_rfl) | kernel_rfl) ?_
    refine Run_loop (fun m L' h' => ∃ (i1 : Int) (s1 : (List (List Int))) (a2 : Option Addr) (c1 : Nat), 0 ≤ i1 ∧ M.forN (a_.length : Int) _ _ n m i1 s1 = some x1 ∧ L' = [(0, .slice aa_ a_.length ca_), (3, .slice a2 s1.length c1), (4, .int .i64 i1)] ∧ Hold h h' [own cd39 a2 s1.length c1 s1]) ((a_.length : Int) - 0 : Int).toNat ⟨0, ([] : List (List Int)), a1, 0, Int.le_refl _, gx1, rfl, H11⟩ ?_
    rintro my1 _ h2 ⟨i1, s1, a2, c1, hloy1', gx1, rfl, H2⟩
    refine Run_seq ?_
    refine Run_seq ?_
    refine Run_reg 4 (by kernel_rfl) (L' := [(0, .slice aa_ a_.length ca_), (3, .slice a2 s1.length c1), (4, .int .i64 i1), (9, .bool (decide (i1 < (a_.length : Int))))]) ?_ ?_
    · refine QRun_b [.int .i64 i1, .slice aa_ a_.length ca_, .int .i64 (a_.length : Int), .bool (decide (i1 < (a_.length : Int)))] 0 _ (by kernel_rfl) (fun w => by kernel_rfl) ?_
      exact QRun_done [0, 3, 4, 9] (by kernel_rfl) (by kernel_rfl)
    refine Run_cond (b := decide (i1 < (a_.length : Int))) (by kernel_rfl) (fun hb1 => ?_) (fun hb1 => ?_)
    · obtain ⟨my1, y1, rfl, hB1, hgoy1, houty1⟩ := M.for_go gx1 hb1
      have hlty1 := of_decide_eq_true hb1
      refine Run_skip ?_
      refine Run_seq ?_
      refine Run_block ?_
      refine Run_ops ?_
      obtain ⟨x2, hx1, hB1⟩ := M.bind_some hB1
      obtain ⟨hx1l, hx1u, hx1⟩ := M.idx_some hx1
      obtain ⟨a4, c3, hc1, r1⟩ := ra_.row hx1
      refine Run_b [.slice a2 s1.length c1, .slice aa_ a_.length ca_, .int .i64 i1] 0 _ (by kernel_rfl) (fun w => by kernel_rfl) ?_
      refine Run_y (.pointer (some (adr aa_ (i1.toNat * 1)))) (by kernel_rfl) (Y_idx (t := 37) (e := 39) (sz := 1) (a := aa_) (n := a_.length) (cap := ca_) (kk := .i64) (i := i1) (by kernel_rfl) Try.underlying37 (by kernel_rfl) ((ra_.at H2.ext).cell hx1).1 hx1l hx1u) ?_
      refine Run_y (.slice a4 x2.length c3) (by kernel_rfl) (Y_load1 (t := 39) (p := adr aa_ (i1.toNat * 1)) (v := .slice a4 x2.length c3) (by kernel_rfl) (fun w => by kernel_rfl) (cell_at H2.ext hc1)) ?_
      obtain ⟨x3, hx2, hB1⟩ := M.bind_some hB1
      refine Run_E (by kernel_rfl) ?_
      refine E_call (f := 187) (args := #[.slice a4 x2.length c3]) (w_spec_l01Own h2 x2 a4 c3 (r1.at H2.ext) _ _ hx2) (by kernel_rfl) (fun v1 h4 hp1 => ?_)
      obtain ⟨a5, c4, rfl, H4⟩ := hp1
      have H5 : Hold h h4 [own cd2 a5 x3.length c4 x3, own cd39 a2 s1.length c1 s1] := H2.call H4 rfl
      refine Run_E (by kernel_rfl) ?_
      refine E_lit1 (ey := 39) (n := x3.length) H5 (fun w => by kernel_rfl) rfl (fun a6 h5 H6 => ?_)
      obtain ⟨l1, hl1, hB1⟩ := M.bind_some hB1
      have hl1 := M.app_some hl1
      have H7 : Hold h h5 [own cd39 a2 s1.length c1 s1, own cd39 a6 1 1 [x3]] := H6.pick [1, 0] (by kernel_rfl)
      have H8 : Hold h h5 [own cd39 a6 1 1 [x3], own cd39 a2 s1.length c1 s1] := H7.pick [1, 0] (by kernel_rfl)
      have H9 : Hold h h5 [own cd39 a2 s1.length c1 s1, own cd39 a6 1 1 [x3]] := H8.pick [1, 0] (by kernel_rfl)
      refine Run_E (by kernel_rfl) ?_
      refine E_app (C := cd39) (t := 37) (ty := 37) (n := s1.length) (m := 1) H9 cd39_ti rfl Try.underlying37 (by decide) (by kernel_rfl) hl1 (fun a7 c5 h6 H10 => ?_)
      refine Run_b [.slice a7 l1.length c5] 8 _ (by kernel_rfl) (fun w => by kernel_rfl) ?_
      refine Run_nil (by kernel_rfl) ?_
      refine Run_keep [0, 3, 4] (L' := [(0, .slice aa_ a_.length ca_), (3, .slice a7 l1.length c5), (4, .int .i64 i1)]) (by kernel_rfl) ?_
      refine Run_blk ?_
      refine Run_reg 3 (by kernel_rfl) (L' := [(0, .slice aa_ a_.length ca_), (3, .slice a7 l1.length c5), (4, .int .i64 (i1 + 1))]) ?_ ?_
      · refine QRun_b [.int .i64 i1] 0 _ (by kernel_rfl) (fun w => by kernel_rfl) ?_
        refine QRun_y (.int .i64 (i1 + 1)) (by kernel_rfl) (Y_eq (v := .int .i64 (w64 (i1 + 1))) (Y_pure (fun w => by kernel_rfl)) (by rw [w64_eq _ (by omega)])) ?_
        refine QRun_b [.int .i64 (i1 + 1)] 2 _ (by kernel_rfl) (fun w => by kernel_rfl) ?_
        exact QRun_done [0, 3, 4] (by kernel_rfl) (by kernel_rfl)
      have hB1 := M.ret_some hB1
      have gx1 := hgoy1 _ hB1.symm
      exact Run_again [0, 3, 4] (by kernel_rfl) my1 (Nat.lt_succ_self _) ⟨i1 + 1, l1, a7, c5, by omega, gx1, rfl, H10⟩
    · have gx1 := M.for_end gx1 hb1
      subst gx1
      refine Run_exit (k' := _) rfl ?_
      exact Run_fall [3] (by kernel_rfl) ⟨a2, c1, rfl, H2⟩

set_option maxRecDepth 100000 in
set_option maxHeartbeats 4000000 in
theorem w_spec_l02Add (h : Heap) (a_ : List (List Int)) (aa_ : Option Addr) (ca_ : Nat) (ra_ : Rd cd39 h (Lt h) aa_ ca_ a_) (b : List (List Int)) (ab : Option Addr) (cb : Nat) (rb : Rd cd39 h (Lt h) ab cb b) (n : Nat) (r : (List (List Int))) (hF : spec_l02Add a_ b n = some r) :
    Fn Try.prog 150 #[.slice aa_ a_.length ca_, .slice ab b.length cb] h fun v h' => ∃ (a0 : Option Addr) (c0 : Nat), v = .slice a0 r.length c0 ∧ Hold h h' [own cd39 a0 r.length c0 r] := by
  unfold spec_l02Add at hF
  refine Fn_enter (args := [.slice aa_ a_.length ca_, .slice ab b.length cb]) Try.func150 rfl (by kernel_rfl) (by kernel_rfl) (fun w0 _ => ?_)
  have H0 := Hold.init h
  refine Run_seq ?_
  refine Run_reg 1 (by kernel_rfl) (L' := [(0, .slice aa_ a_.length ca_), (1, .slice ab b.length cb)]) ?_ ?_
  · refine QRun_b [.slice none 0 0] 0 _ (by kernel_rfl) (fun w => by kernel_rfl) ?_
    exact QRun_done [0, 1] (by kernel_rfl) (by kernel_rfl)
  refine Run_seq ?_
  refine Run_ops ?_
  refine Run_b [.slice aa_ a_.length ca_] 0 _ (by kernel_rfl) (fun w => by kernel_rfl) ?_
  obtain ⟨x1, hx1, hF⟩ := M.bind_some hF
  refine Run_E (by kernel_rfl) ?_
  refine E_call (f := 176) (args := #[.slice aa_ a_.length ca_]) (w_spec_l02Own h a_ aa_ ca_ ra_ _ _ hx1) (by kernel_rfl) (fun v1 h1 hp1 => ?_)
  obtain ⟨a1, c1, rfl, H1⟩ := hp1
  have H2 : Hold h h1 [own cd39 a1 x1.length c1 x1] := H0.call H1 rfl
  refine Run_b [.slice a1 x1.length c1] 2 _ (by kernel_rfl) (fun w => by kernel_rfl) ?_
  refine Run_nil (by kernel_rfl) ?_
  refine Run_keep [1, 5] (L' := [(1, .slice ab b.length cb), (5, .slice a1 x1.length c1)]) (by kernel_rfl) ?_
  refine Run_seq ?_
  refine Run_seq ?_
  refine Run_reg 1 (by kernel_rfl) (L' := [(1, .slice ab b.length cb), (5, .slice a1 x1.length c1), (6, .int .i64 0)]) ?_ ?_
  · refine QRun_b [.int .i64 0] 0 _ (by kernel_rfl) (fun w => by kernel_rfl) ?_
    exact QRun_done [1, 5, 6] (by kernel_rfl) (by kernel_rfl)
  obtain ⟨x2, gx2, hF⟩ := M.bind_some hF
  obtain ⟨hloy1, hhiy1, gx2⟩ := M.for_start gx2
  refine Run_join (fun L' h' => L' = [(5, .slice a1 x1.length c1)] ∧ Hold h h' [own cd39 a1 x1.length c1 x2]) ?_ ?_
  · rintro _ h3 ⟨rfl, H4⟩
    refine Run_seq ?_
    refine Run_reg 2 (by kernel_rfl) (L' := [(4, .slice a1 x1.length c1)]) ?_ ?_
    · refine QRun_b [.slice a1 x1.length c1, .slice a1 x1.length c1] 0 _ (by kernel_rfl) (fun w => by kernel_rfl) ?_
      exact QRun_done [4] (by kernel_rfl) (by kernel_rfl)
    have hF := M.ret_some hF
    subst hF
    have H16 := H4.norm
    exact Run_ret1 rfl (ResV_tmp (v := .slice a1 x1.length c1) (by kernel_rfl)) ⟨a1, c1, (by simp only [(H4.len 0 rfl)]), H16⟩
  · refine Run_block ?_
    refine Run_keep [1, 5, 6] (L' := [(1, .slice ab b.length cb), (5, .slice a1 x1.length c1), (6, .int .i64 0)]) (by kernel_rfl) ?_
    refine Run_loop (fun m L' h' => ∃ (i1 : Int) (s1 : (List (List Int))), 0 ≤ i1 ∧ M.forN (x1.length : Int) _ _ n m i1 s1 = some x2 ∧ L' = [(1, .slice ab b.length cb), (5, .slice a1 x1.length c1), (6, .int .i64 i1)] ∧ Hold h h' [own cd39 a1 x1.length c1 s1]) ((x1.length : Int) - 0 : Int).toNat ⟨0, x1, Int.le_refl _, gx2, rfl, H2⟩ ?_
    rintro my1 _ h2 ⟨i1, s1, hloy1', gx2, rfl, H3⟩
    refine Run_seq ?_
    refine Run_seq ?_
    refine Run_reg 4 (by kernel_rfl) (L' := [(1, .slice ab b.length cb), (5, .slice a1 x1.length c1), (6, .int .i64 i1), (13, .bool (decide (i1 < (x1.length : Int))))]) ?_ ?_
    · refine QRun_b [.int .i64 i1, .slice a1 x1.length c1, .int .i64 (x1.length : Int), .bool (decide (i1 < (x1.length : Int)))] 0 _ (by kernel_rfl) (fun w => by kernel_rfl) ?_
      exact QRun_done [1, 5, 6, 13] (by kernel_rfl) (by kernel_rfl)
    refine Run_cond (b := decide (i1 < (x1.length : Int))) (by kernel_rfl) (fun hb1 => ?_) (fun hb1 => ?_)
    · obtain ⟨my1, y1, rfl, hB1, hgoy1, houty1⟩ := M.for_go gx2 hb1
      have hlty1 := of_decide_eq_true hb1
      refine Run_skip ?_
      refine Run_seq ?_
      refine Run_block ?_
      refine Run_seq ?_
      refine Run_reg 1 (by kernel_rfl) (L' := [(1, .slice ab b.length cb), (5, .slice a1 x1.length c1), (6, .int .i64 i1), (7, .int .i64 0)]) ?_ ?_
      · refine QRun_b [.int .i64 0] 0 _ (by kernel_rfl) (fun w => by kernel_rfl) ?_
        exact QRun_done [1, 5, 6, 7] (by kernel_rfl) (by kernel_rfl)
      obtain ⟨x3, gx3, hB1⟩ := M.bind_some hB1
      refine Run_join (fun L' h' => L' = [(1, .slice ab b.length cb), (5, .slice a1 x1.length c1), (6, .int .i64 i1)] ∧ Hold h h' [own cd39 a1 x1.length c1 x3.1]) ?_ ?_
      · rintro _ h5 ⟨rfl, H6⟩
        refine Run_blk ?_
        refine Run_reg 3 (by kernel_rfl) (L' := [(1, .slice ab b.length cb), (5, .slice a1 x1.length c1), (6, .int .i64 (i1 + 1))]) ?_ ?_
        · refine QRun_b [.int .i64 i1] 0 _ (by kernel_rfl) (fun w => by kernel_rfl) ?_
          refine QRun_y (.int .i64 (i1 + 1)) (by kernel_rfl) (Y_eq (v := .int .i64 (w64 (i1 + 1))) (Y_pure (fun w => by kernel_rfl)) (by rw [w64_eq _ (by omega)])) ?_
          refine QRun_b [.int .i64 (i1 + 1)] 2 _ (by kernel_rfl) (fun w => by kernel_rfl) ?_
          exact QRun_done [1, 5, 6] (by kernel_rfl) (by kernel_rfl)
        have hB1 := M.ret_some hB1
        have gx2 := hgoy1 _ hB1.symm
        exact Run_again [1, 5, 6] (by kernel_rfl) my1 (Nat.lt_succ_self _) ⟨i1 + 1, x3.1, by omega, gx2, rfl, H6⟩
      · refine Run_block ?_
        refine Run_keep [1, 5, 6, 7] (L' := [(1, .slice ab b.length cb), (5, .slice a1 x1.length c1), (6, .int .i64 i1), (7, .int .i64 0)]) (by kernel_rfl) ?_
        refine Run_loop (fun m L' h' => ∃ (s2 : (List (List Int)) × Int), M.loopN _ n m s2 = some x3 ∧ L' = [(1, .slice ab b.length cb), (5, .slice a1 x1.length c1), (6, .int .i64 i1), (7, .int .i64 s2.2)] ∧ Hold h h' [own cd39 a1 x1.length c1 s2.1]) n ⟨(s1, 0), gx3, rfl, H3⟩ ?_
        rintro my2 _ h4 ⟨s2, gx3, rfl, H5⟩
        obtain ⟨my2, y2, rfl, hB2, hgoy2, houty2⟩ := M.loop_some gx3
        refine Run_seq ?_
        refine Run_seq ?_
        obtain ⟨x4, hx2, hB2⟩ := M.bind_some hB2
        obtain ⟨hx2l, hx2u, hx2⟩ := M.idx_some hx2
        have H7 := H5.toRows
        obtain ⟨a2, c2, H8⟩ := H7.pinRow hx2
        refine Run_reg 7 (by kernel_rfl) (L' := [(1, .slice ab b.length cb), (5, .slice a1 x1.length c1), (6, .int .i64 i1), (7, .int .i64 s2.2), (22, .bool (decide (s2.2 < (x4.length : Int))))]) ?_ ?_
        · refine QRun_b [.int .i64 s2.2, .slice a1 x1.length c1, .int .i64 i1] 0 _ (by kernel_rfl) (fun w => by kernel_rfl) ?_
          refine QRun_y (.pointer (some (adr a1 (i1.toNat * 1)))) (by kernel_rfl) (Y_idx (t := 37) (e := 39) (sz := 1) (a := a1) (n := x1.length) (cap := c1) (kk := .i64) (i := i1) (by kernel_rfl) Try.underlying37 (by kernel_rfl) ((H5.rd 0 rfl).cell hx2).1 hx2l (by rw [← (H5.len 0 rfl)]; exact hx2u)) ?_
          refine QRun_y (.slice a2 x4.length c2) (by kernel_rfl) (Y_load1 (t := 39) (p := adr a1 (i1.toNat * 1)) (v := .slice a2 x4.length c2) (by kernel_rfl) (fun w => by kernel_rfl) (H8.cellPin 0 rfl 0 rfl)) ?_
          refine QRun_b [.int .i64 (x4.length : Int), .bool (decide (s2.2 < (x4.length : Int)))] 5 _ (by kernel_rfl) (fun w => by kernel_rfl) ?_
          exact QRun_done [1, 5, 6, 7, 22] (by kernel_rfl) (by kernel_rfl)
        refine Run_cond (b := decide (s2.2 < (x4.length : Int))) (by kernel_rfl) (fun hb2 => ?_) (fun hb2 => ?_)
        · have hB2 := (M.ite_some hB2).1 hb2
          refine Run_skip ?_
          refine Run_seq ?_
          refine Run_block ?_
          obtain ⟨x5, hx3, hB2⟩ := M.bind_some hB2
          obtain ⟨hx3l, hx3u, hx3⟩ := M.idx_some hx3
          obtain ⟨a3, c3, H9⟩ := H8.pinRow hx3
          obtain ⟨x6, hx4, hB2⟩ := M.bind_some hB2
          obtain ⟨hx4l, hx4u, hx4⟩ := M.idx_some hx4
          obtain ⟨a4, c4, H10⟩ := H9.pinRow hx4
          obtain ⟨x7, hx5, hB2⟩ := M.bind_some hB2
          obtain ⟨hx5l, hx5u, hx5⟩ := M.idx_some hx5
          obtain ⟨x8, hx6, hB2⟩ := M.bind_some hB2
          obtain ⟨hx6l, hx6u, hx6⟩ := M.idx_some hx6
          obtain ⟨a5, c5, hc1, r1⟩ := rb.row hx6
          obtain ⟨x9, hx7, hB2⟩ := M.bind_some hB2
          obtain ⟨hx7l, hx7u, hx7⟩ := M.idx_some hx7
          obtain ⟨x10, hx8, hB2⟩ := M.bind_some hB2
          obtain ⟨hx8l, hx8u, hx8⟩ := M.idx_some hx8
          refine Run_D (fun x => Hold h x [rowsP cd2 39 a1 x1.length c1 s2.1 [(i1.toNat, a4, x6.length, c4, x6), (i1.toNat, a3, x5.length, c3, x5), (i1.toNat, a2, x4.length, c2, x4)]]) (fun x => Hold h x [rowsP cd2 39 a1 x1.length c1 s2.1 [(i1.toNat, a4, x6.length, c4, x6), (i1.toNat, a3, x5.length, c3, x5), (i1.toNat, a2, x4.length, c2, x4)]]) mixed (by kernel_rfl) H10 Hold.stable (fun x Hy => (show Hold h x [rowsP cd2 39 a1 x1.length c1 s2.1 [(i1.toNat, a4, x6.length, c4, x6), (i1.toNat, a3, x5.length, c3, x5), (i1.toNat, a2, x4.length, c2, x4)]] from Hy).pick [0] (by kernel_rfl)) ?_
          refine DR_b 20 [.slice a1 x1.length c1, .int .i64 i1] 0 (by kernel_rfl) (by kernel_rfl) (by kernel_rfl) (fun w => by kernel_rfl) ?_
          refine DR_y 19 (i := 2) (.pointer (some (adr a1 (i1.toNat * 1)))) (by kernel_rfl) (by kernel_rfl) (by kernel_rfl) (fun hx Hx => (YE.of (Y_idx (t := 37) (e := 39) (sz := 1) (a := a1) (n := x1.length) (cap := c1) (kk := .i64) (i := i1) (by kernel_rfl) Try.underlying37 (by kernel_rfl) ((H8.rdRows 0 rfl).cell hx3).1 hx3l (by rw [← (H8.lenRows 0 rfl)]; exact hx3u)))) ?_
          refine DR_y 18 (i := 3) (.slice a3 x5.length c3) (by kernel_rfl) (by kernel_rfl) (by kernel_rfl) (fun hx Hx => (YE.of (Y_load1 (t := 39) (p := adr a1 (i1.toNat * 1)) (v := .slice a3 x5.length c3) (by kernel_rfl) (fun w => by kernel_rfl) (Hx.cellPin 0 rfl 1 rfl)))) ?_
          refine DR_b 15 [.int .i64 s2.2, .slice a1 x1.length c1, .int .i64 i1] 4 (by kernel_rfl) (by kernel_rfl) (by kernel_rfl) (fun w => by kernel_rfl) ?_
          refine DR_y 14 (i := 7) (.pointer (some (adr a1 (i1.toNat * 1)))) (by kernel_rfl) (by kernel_rfl) (by kernel_rfl) (fun hx Hx => (YE.of (Y_idx (t := 37) (e := 39) (sz := 1) (a := a1) (n := x1.length) (cap := c1) (kk := .i64) (i := i1) (by kernel_rfl) Try.underlying37 (by kernel_rfl) ((H9.rdRows 0 rfl).cell hx4).1 hx4l (by rw [← (H9.lenRows 0 rfl)]; exact hx4u)))) ?_
          refine DR_y 13 (i := 8) (.slice a4 x6.length c4) (by kernel_rfl) (by kernel_rfl) (by kernel_rfl) (fun hx Hx => (YE.of (Y_load1 (t := 39) (p := adr a1 (i1.toNat * 1)) (v := .slice a4 x6.length c4) (by kernel_rfl) (fun w => by kernel_rfl) (Hx.cellPin 0 rfl 0 rfl)))) ?_
          refine DR_b 12 [.int .i64 s2.2] 9 (by kernel_rfl) (by kernel_rfl) (by kernel_rfl) (fun w => by kernel_rfl) ?_
          refine DR_y 11 (i := 10) (.pointer (some (adr a4 (s2.2.toNat * 1)))) (by kernel_rfl) (by kernel_rfl) (by kernel_rfl) (fun hx Hx => (YE.of (Y_idx (t := 39) (e := 2) (sz := 1) (a := a4) (n := x6.length) (cap := c4) (kk := .i64) (i := s2.2) (by kernel_rfl) Try.underlying39 (by kernel_rfl) ((H10.rdPin 0 rfl 0 rfl).cell hx5).1 hx5l hx5u))) ?_
          refine DR_y 10 (i := 11) (.int .i64 x7) (by kernel_rfl) (by kernel_rfl) (by kernel_rfl) (fun hx Hx => (YE.of (Y_load1 (t := 2) (p := adr a4 (s2.2.toNat * 1)) (v := .int .i64 x7) (by kernel_rfl) (fun w => by kernel_rfl) (cd2_cell (Hx.rdPin 0 rfl 0 rfl) hx5)))) ?_
          refine DR_b 8 [.slice ab b.length cb, .int .i64 i1] 12 (by kernel_rfl) (by kernel_rfl) (by kernel_rfl) (fun w => by kernel_rfl) ?_
          refine DR_y 7 (i := 14) (.pointer (some (adr ab (i1.toNat * 1)))) (by kernel_rfl) (by kernel_rfl) (by kernel_rfl) (fun hx Hx => (YE.of (Y_idx (t := 37) (e := 39) (sz := 1) (a := ab) (n := b.length) (cap := cb) (kk := .i64) (i := i1) (by kernel_rfl) Try.underlying37 (by kernel_rfl) ((rb.at H10.ext).cell hx6).1 hx6l hx6u))) ?_
          refine DR_y 6 (i := 15) (.slice a5 x8.length c5) (by kernel_rfl) (by kernel_rfl) (by kernel_rfl) (fun hx Hx => (YE.of (Y_load1 (t := 39) (p := adr ab (i1.toNat * 1)) (v := .slice a5 x8.length c5) (by kernel_rfl) (fun w => by kernel_rfl) (cell_at Hx.ext hc1)))) ?_
          refine DR_b 5 [.int .i64 s2.2] 16 (by kernel_rfl) (by kernel_rfl) (by kernel_rfl) (fun w => by kernel_rfl) ?_
          refine DR_y 4 (i := 17) (.pointer (some (adr a5 (s2.2.toNat * 1)))) (by kernel_rfl) (by kernel_rfl) (by kernel_rfl) (fun hx Hx => (YE.of (Y_idx (t := 39) (e := 2) (sz := 1) (a := a5) (n := x8.length) (cap := c5) (kk := .i64) (i := s2.2) (by kernel_rfl) Try.underlying39 (by kernel_rfl) ((r1.at H10.ext).cell hx7).1 hx7l hx7u))) ?_
          refine DR_y 3 (i := 18) (.int .i64 x9) (by kernel_rfl) (by kernel_rfl) (by kernel_rfl) (fun hx Hx => (YE.of (Y_load1 (t := 2) (p := adr a5 (s2.2.toNat * 1)) (v := .int .i64 x9) (by kernel_rfl) (fun w => by kernel_rfl) (cd2_cell (r1.at Hx.ext) hx7)))) ?_
          refine DR_b 2 [.int .i64 (mx x7 x9)] 19 (by kernel_rfl) (by kernel_rfl) (by kernel_rfl) (fun w => by kernel_rfl) ?_
          refine DR_y 1 (i := 20) (.pointer (some (adr a3 (s2.2.toNat * 1)))) (by kernel_rfl) (by kernel_rfl) (by kernel_rfl) (fun hx Hx => (YE.of (Y_idx (t := 39) (e := 2) (sz := 1) (a := a3) (n := x5.length) (cap := c3) (kk := .i64) (i := s2.2) (by kernel_rfl) Try.underlying39 (by kernel_rfl) ((H10.rdPin 0 rfl 1 rfl).cell hx8).1 hx8l hx8u))) ?_
          refine DR_tail (i := 21) (by kernel_rfl) (by kernel_rfl) (by kernel_rfl) (fun h6 H11 => ?_)
          have H12 : Hold h h6 [rowsP cd2 39 a1 x1.length c1 s2.1 [(i1.toNat, a4, x6.length, c4, x6), (i1.toNat, a3, x5.length, c3, x5), (i1.toNat, a2, x4.length, c2, x4)]] := H11
          obtain ⟨l1, hu1, hB2⟩ := M.bind_some hB2
          have hu1 := M.upd_some hu1
          refine Run_E (by kernel_rfl) ?_
          refine E_put2 (C := cd2) (t := 2) (sz := 1) (j := s2.2) (x := (mx x7 x9)) (v := .int .i64 (mx x7 x9)) (m2 := s2.1.set i1.toNat l1) H12 cd2_flat 1 rfl (by kernel_rfl) rfl (cd2_own _) (by kernel_rfl) hu1 rfl (fun h7 H13 => ?_)
          refine Run_nil (by kernel_rfl) ?_
          refine Run_keep [1, 5, 6, 7] (L' := [(1, .slice ab b.length cb), (5, .slice a1 x1.length c1), (6, .int .i64 i1), (7, .int .i64 s2.2)]) (by kernel_rfl) ?_
          refine Run_blk ?_
          refine Run_reg 3 (by kernel_rfl) (L' := [(1, .slice ab b.length cb), (5, .slice a1 x1.length c1), (6, .int .i64 i1), (7, .int .i64 (w64 (s2.2 + 1)))]) ?_ ?_
          · refine QRun_b [.int .i64 s2.2, .int .i64 (w64 (s2.2 + 1)), .int .i64 (w64 (s2.2 + 1))] 0 _ (by kernel_rfl) (fun w => by kernel_rfl) ?_
            exact QRun_done [1, 5, 6, 7] (by kernel_rfl) (by kernel_rfl)
          have H14 := H13.ofRows
          have hB2 := M.ret_some hB2
          have gx3 := hgoy2 _ hB2.symm
          exact Run_again [1, 5, 6, 7] (by kernel_rfl) my2 (Nat.lt_succ_self _) ⟨((s2.1.set i1.toNat l1), (w64 (s2.2 + 1))), gx3, rfl, H14⟩
        · have hB2 := (M.ite_some hB2).2 hb2
          refine Run_exit (k' := _) rfl ?_
          have H15 := H8.ofRows
          have hB2 := M.ret_some hB2
          have gx3 := houty2 _ hB2.symm
          subst gx3
          exact Run_fall [1, 5, 6] (by kernel_rfl) ⟨rfl, H15⟩
    · have gx2 := M.for_end gx2 hb1
      subst gx2
      refine Run_exit (k' := _) rfl ?_
      exact Run_fall [5] (by kernel_rfl) ⟨rfl, H3⟩

set_option maxRecDepth 100000 in
set_option maxHeartbeats 4000000 in
theorem w_spec_l01Same (h : Heap) (a_ : List Int) {Sa_ : Bs} (aa_ : Option Addr) (ca_ : Nat) (ra_ : Rd cd2 h Sa_ aa_ ca_ a_) (b : List Int) {Sb : Bs} (ab : Option Addr) (cb : Nat) (rb : Rd cd2 h Sb ab cb b) (n : Nat) (r : Bool) (hF : spec_l01Same a_ b n = some r) :
    Fn Try.prog 177 #[.slice aa_ a_.length ca_, .slice ab b.length cb] h fun v h' => v = .bool r ∧ h' = h := by
  unfold spec_l01Same at hF
  refine Fn_enter (args := [.slice aa_ a_.length ca_, .slice ab b.length cb]) Try.func177 rfl (by kernel_rfl) (by kernel_rfl) (fun w0 _ => ?_)
  refine Run_seq ?_
  refine Run_reg 1 (by kernel_rfl) (L' := [(0, .slice aa_ a_.length ca_), (1, .slice ab b.length cb)]) ?_ ?_
  · refine QRun_b [.bool false] 0 _ (by kernel_rfl) (fun w => by kernel_rfl) ?_
    exact QRun_done [0, 1] (by kernel_rfl) (by kernel_rfl)
  refine Run_seq ?_
  refine Run_seq ?_
  refine Run_reg 5 (by kernel_rfl) (L' := [(0, .slice aa_ a_.length ca_), (1, .slice ab b.length cb), (10, .bool ((a_.length : Int) != (b.length : Int)))]) ?_ ?_
  · refine QRun_b [.slice aa_ a_.length ca_, .int .i64 (a_.length : Int), .slice ab b.length cb, .int .i64 (b.length : Int), .bool ((a_.length : Int) != (b.length : Int))] 0 _ (by kernel_rfl) (fun w => by kernel_rfl) ?_
    exact QRun_done [0, 1, 10] (by kernel_rfl) (by kernel_rfl)
  refine Run_cond (b := (a_.length : Int) != (b.length : Int)) (by kernel_rfl) (fun hb1 => ?_) (fun hb1 => ?_)
  · have hF := (M.ite_some hF).1 hb1
    refine Run_seq ?_
    refine Run_reg 1 (by kernel_rfl) (L' := [(4, .bool false)]) ?_ ?_
    · refine QRun_b [.bool false] 0 _ (by kernel_rfl) (fun w => by kernel_rfl) ?_
      exact QRun_done [4] (by kernel_rfl) (by kernel_rfl)
    have hF := M.ret_some hF
    subst hF
    exact Run_ret1 rfl (ResV_tmp (v := .bool false) (by kernel_rfl)) ⟨rfl, rfl⟩
  · have hF := (M.ite_some hF).2 hb1
    refine Run_skip ?_
    refine Run_seq ?_
    refine Run_seq ?_
    refine Run_reg 1 (by kernel_rfl) (L' := [(0, .slice aa_ a_.length ca_), (1, .slice ab b.length cb), (5, .int .i64 0)]) ?_ ?_
    · refine QRun_b [.int .i64 0] 0 _ (by kernel_rfl) (fun w => by kernel_rfl) ?_
      exact QRun_done [0, 1, 5] (by kernel_rfl) (by kernel_rfl)
    obtain ⟨x1, gx1, hF⟩ := M.bind_some hF
    obtain ⟨hloy1, hhiy1, gx1⟩ := M.for_start gx1
    refine Run_join (fun L' h' => ∃ (s2 : Unit), x1 = .inl s2 ∧ L' = [] ∧ h = h') ?_ ?_
    · rintro _ _ ⟨s2, es2, rfl, rfl⟩
      have hF := M.cont_inl' hF es2
      refine Run_seq ?_
      refine Run_reg 1 (by kernel_rfl) (L' := [(4, .bool true)]) ?_ ?_
      · refine QRun_b [.bool true] 0 _ (by kernel_rfl) (fun w => by kernel_rfl) ?_
        exact QRun_done [4] (by kernel_rfl) (by kernel_rfl)
      have hF := M.ret_some hF
      subst hF
      exact Run_ret1 rfl (ResV_tmp (v := .bool true) (by kernel_rfl)) ⟨rfl, rfl⟩
    · refine Run_block ?_
      refine Run_keep [0, 1, 5] (L' := [(0, .slice aa_ a_.length ca_), (1, .slice ab b.length cb), (5, .int .i64 0)]) (by kernel_rfl) ?_
      refine Run_loop (fun m L' h' => ∃ (i1 : Int) (s1 : Unit), 0 ≤ i1 ∧ M.forN (a_.length : Int) _ _ n m i1 s1 = some x1 ∧ L' = [(0, .slice aa_ a_.length ca_), (1, .slice ab b.length cb), (5, .int .i64 i1)] ∧ h = h') ((a_.length : Int) - 0 : Int).toNat ⟨0, (), Int.le_refl _, gx1, rfl, rfl⟩ ?_
      rintro my1 _ _ ⟨i1, s1, hloy1', gx1, rfl, rfl⟩
      refine Run_seq ?_
      refine Run_seq ?_
      refine Run_reg 4 (by kernel_rfl) (L' := [(0, .slice aa_ a_.length ca_), (1, .slice ab b.length cb), (5, .int .i64 i1), (14, .bool (decide (i1 < (a_.length : Int))))]) ?_ ?_
      · refine QRun_b [.int .i64 i1, .slice aa_ a_.length ca_, .int .i64 (a_.length : Int), .bool (decide (i1 < (a_.length : Int)))] 0 _ (by kernel_rfl) (fun w => by kernel_rfl) ?_
        exact QRun_done [0, 1, 5, 14] (by kernel_rfl) (by kernel_rfl)
      refine Run_cond (b := decide (i1 < (a_.length : Int))) (by kernel_rfl) (fun hb2 => ?_) (fun hb2 => ?_)
      · obtain ⟨my1, y1, rfl, hB1, hgoy1, houty1⟩ := M.for_go gx1 hb2
        have hlty1 := of_decide_eq_true hb2
        refine Run_skip ?_
        refine Run_seq ?_
        refine Run_block ?_
        refine Run_seq ?_
        obtain ⟨x2, hx1, hB1⟩ := M.bind_some hB1
        obtain ⟨hx1l, hx1u, hx1⟩ := M.idx_some hx1
        obtain ⟨x3, hx2, hB1⟩ := M.bind_some hB1
        obtain ⟨hx2l, hx2u, hx2⟩ := M.idx_some hx2
        refine Run_draw 9 mixed (by kernel_rfl) (by kernel_rfl) (L' := [(0, .slice aa_ a_.length ca_), (1, .slice ab b.length cb), (5, .int .i64 i1), (25, .bool (x2 != x3))]) ?_ ?_
        · refine QRun_b [.slice aa_ a_.length ca_, .int .i64 i1] 0 _ (by kernel_rfl) (fun w => by kernel_rfl) ?_
          refine QRun_y (.pointer (some (adr aa_ (i1.toNat * 1)))) (by kernel_rfl) (Y_idx (t := 39) (e := 2) (sz := 1) (a := aa_) (n := a_.length) (cap := ca_) (kk := .i64) (i := i1) (by kernel_rfl) Try.underlying39 (by kernel_rfl) (ra_.cell hx1).1 hx1l hx1u) ?_
          refine QRun_y (.int .i64 x2) (by kernel_rfl) (Y_load1 (t := 2) (p := adr aa_ (i1.toNat * 1)) (v := .int .i64 x2) (by kernel_rfl) (fun w => by kernel_rfl) (cd2_cell ra_ hx1)) ?_
          refine QRun_b [.slice ab b.length cb, .int .i64 i1] 4 _ (by kernel_rfl) (fun w => by kernel_rfl) ?_
          refine QRun_y (.pointer (some (adr ab (i1.toNat * 1)))) (by kernel_rfl) (Y_idx (t := 39) (e := 2) (sz := 1) (a := ab) (n := b.length) (cap := cb) (kk := .i64) (i := i1) (by kernel_rfl) Try.underlying39 (by kernel_rfl) (rb.cell hx2).1 hx2l hx2u) ?_
          refine QRun_y (.int .i64 x3) (by kernel_rfl) (Y_load1 (t := 2) (p := adr ab (i1.toNat * 1)) (v := .int .i64 x3) (by kernel_rfl) (fun w => by kernel_rfl) (cd2_cell rb hx2)) ?_
          refine QRun_b [.bool (x2 != x3)] 8 _ (by kernel_rfl) (fun w => by kernel_rfl) ?_
          exact QRun_done [0, 1, 5, 25] (by kernel_rfl) (by kernel_rfl)
        refine Run_cond (b := x2 != x3) (by kernel_rfl) (fun hb3 => ?_) (fun hb3 => ?_)
        · have hB1 := (M.ite_some hB1).1 hb3
          refine Run_seq ?_
          refine Run_reg 1 (by kernel_rfl) (L' := [(4, .bool false)]) ?_ ?_
          · refine QRun_b [.bool false] 0 _ (by kernel_rfl) (fun w => by kernel_rfl) ?_
            exact QRun_done [4] (by kernel_rfl) (by kernel_rfl)
          have hB1 := M.ret_some hB1
          have gx1 := houty1 _ hB1.symm
          have hF := M.cont_inr' hF gx1
          have hF := M.ret_some hF
          subst hF
          exact Run_ret1 rfl (ResV_tmp (v := .bool false) (by kernel_rfl)) ⟨rfl, rfl⟩
        · have hB1 := (M.ite_some hB1).2 hb3
          refine Run_skip ?_
          refine Run_blk ?_
          refine Run_reg 3 (by kernel_rfl) (L' := [(0, .slice aa_ a_.length ca_), (1, .slice ab b.length cb), (5, .int .i64 (i1 + 1))]) ?_ ?_
          · refine QRun_b [.int .i64 i1] 0 _ (by kernel_rfl) (fun w => by kernel_rfl) ?_
            refine QRun_y (.int .i64 (i1 + 1)) (by kernel_rfl) (Y_eq (v := .int .i64 (w64 (i1 + 1))) (Y_pure (fun w => by kernel_rfl)) (by rw [w64_eq _ (by omega)])) ?_
            refine QRun_b [.int .i64 (i1 + 1)] 2 _ (by kernel_rfl) (fun w => by kernel_rfl) ?_
            exact QRun_done [0, 1, 5] (by kernel_rfl) (by kernel_rfl)
          have hB1 := M.ret_some hB1
          have gx1 := hgoy1 _ hB1.symm
          exact Run_again [0, 1, 5] (by kernel_rfl) my1 (Nat.lt_succ_self _) ⟨i1 + 1, (), by omega, gx1, rfl, rfl⟩
      · have gx1 := M.for_end gx1 hb2
        subst gx1
        refine Run_exit (k' := _) rfl ?_
        exact Run_fall [] (by kernel_rfl) ⟨(), rfl, rfl, rfl⟩

set_option maxRecDepth 100000 in
set_option maxHeartbeats 4000000 in
theorem w_spec_l02Same (h : Heap) (a_ : List (List Int)) {Sa_ : Bs} (aa_ : Option Addr) (ca_ : Nat) (ra_ : Rd cd39 h Sa_ aa_ ca_ a_) (b : List (List Int)) {Sb : Bs} (ab : Option Addr) (cb : Nat) (rb : Rd cd39 h Sb ab cb b) (n : Nat) (r : Bool) (hF : spec_l02Same a_ b n = some r) :
    Fn Try.prog 152 #[.slice aa_ a_.length ca_, .slice ab b.length cb] h fun v h' => v = .bool r ∧ h' = h := by
  unfold spec_l02Same at hF
  refine Fn_enter (args := [.slice aa_ a_.length ca_, .slice ab b.length cb]) Try.func152 rfl (by kernel_rfl) (by kernel_rfl) (fun w0 _ => ?_)
  refine Run_seq ?_
  refine Run_reg 1 (by kernel_rfl) (L' := [(0, .slice aa_ a_.length ca_), (1, .slice ab b.length cb)]) ?_ ?_
  · refine QRun_b [.bool false] 0 _ (by kernel_rfl) (fun w => by kernel_rfl) ?_
    exact QRun_done [0, 1] (by kernel_rfl) (by kernel_rfl)
  refine Run_seq ?_
  refine Run_seq ?_
  refine Run_reg 5 (by kernel_rfl) (L' := [(0, .slice aa_ a_.length ca_), (1, .slice ab b.length cb), (10, .bool ((a_.length : Int) != (b.length : Int)))]) ?_ ?_
  · refine QRun_b [.slice aa_ a_.length ca_, .int .i64 (a_.length : Int), .slice ab b.length cb, .int .i64 (b.length : Int), .bool ((a_.length : Int) != (b.length : Int))] 0 _ (by kernel_rfl) (fun w => by kernel_rfl) ?_
    exact QRun_done [0, 1, 10] (by kernel_rfl) (by kernel_rfl)
  refine Run_cond (b := (a_.length : Int) != (b.length : Int)) (by kernel_rfl) (fun hb1 => ?_) (fun hb1 => ?_)
  · have hF := (M.ite_some hF).1 hb1
    refine Run_seq ?_
    refine Run_reg 1 (by kernel_rfl) (L' := [(4, .bool false)]) ?_ ?_
    · refine QRun_b [.bool false] 0 _ (by kernel_rfl) (fun w => by kernel_rfl) ?_
      exact QRun_done [4] (by kernel_rfl) (by kernel_rfl)
    have hF := M.ret_some hF
    subst hF
    exact Run_ret1 rfl (ResV_tmp (v := .bool false) (by kernel_rfl)) ⟨rfl, rfl⟩
  · have hF := (M.ite_some hF).2 hb1
    refine Run_skip ?_
    refine Run_seq ?_
    refine Run_seq ?_
    refine Run_reg 1 (by kernel_rfl) (L' := [(0, .slice aa_ a_.length ca_), (1, .slice ab b.length cb), (5, .int .i64 0)]) ?_ ?_
    · refine QRun_b [.int .i64 0] 0 _ (by kernel_rfl) (fun w => by kernel_rfl) ?_
      exact QRun_done [0, 1, 5] (by kernel_rfl) (by kernel_rfl)
    obtain ⟨x1, gx1, hF⟩ := M.bind_some hF
    obtain ⟨hloy1, hhiy1, gx1⟩ := M.for_start gx1
    refine Run_join (fun L' h' => ∃ (s2 : Unit), x1 = .inl s2 ∧ L' = [] ∧ h = h') ?_ ?_
    · rintro _ _ ⟨s2, es2, rfl, rfl⟩
      have hF := M.cont_inl' hF es2
      refine Run_seq ?_
      refine Run_reg 1 (by kernel_rfl) (L' := [(4, .bool true)]) ?_ ?_
      · refine QRun_b [.bool true] 0 _ (by kernel_rfl) (fun w => by kernel_rfl) ?_
        exact QRun_done [4] (by kernel_rfl) (by kernel_rfl)
      have hF := M.ret_some hF
      subst hF
      exact Run_ret1 rfl (ResV_tmp (v := .bool true) (by kernel_rfl)) ⟨rfl, rfl⟩
    · refine Run_block ?_
      refine Run_keep [0, 1, 5] (L' := [(0, .slice aa_ a_.length ca_), (1, .slice ab b.length cb), (5, .int .i64 0)]) (by kernel_rfl) ?_
      refine Run_loop (fun m L' h' => ∃ (i1 : Int) (s1 : Unit), 0 ≤ i1 ∧ M.forN (a_.length : Int) _ _ n m i1 s1 = some x1 ∧ L' = [(0, .slice aa_ a_.length ca_), (1, .slice ab b.length cb), (5, .int .i64 i1)] ∧ h = h') ((a_.length : Int) - 0 : Int).toNat ⟨0, (), Int.le_refl _, gx1, rfl, rfl⟩ ?_
      rintro my1 _ _ ⟨i1, s1, hloy1', gx1, rfl, rfl⟩
      refine Run_seq ?_
      refine Run_seq ?_
      refine Run_reg 4 (by kernel_rfl) (L' := [(0, .slice aa_ a_.length ca_), (1, .slice ab b.length cb), (5, .int .i64 i1), (14, .bool (decide (i1 < (a_.length : Int))))]) ?_ ?_
      · refine QRun_b [.int .i64 i1, .slice aa_ a_.length ca_, .int .i64 (a_.length : Int), .bool (decide (i1 < (a_.length : Int)))] 0 _ (by kernel_rfl) (fun w => by kernel_rfl) ?_
        exact QRun_done [0, 1, 5, 14] (by kernel_rfl) (by kernel_rfl)
      refine Run_cond (b := decide (i1 < (a_.length : Int))) (by kernel_rfl) (fun hb2 => ?_) (fun hb2 => ?_)
      · obtain ⟨my1, y1, rfl, hB1, hgoy1, houty1⟩ := M.for_go gx1 hb2
        have hlty1 := of_decide_eq_true hb2
        refine Run_skip ?_
        refine Run_seq ?_
        refine Run_block ?_
        refine Run_seq ?_
        obtain ⟨x2, hx1, hB1⟩ := M.bind_some hB1
        obtain ⟨hx1l, hx1u, hx1⟩ := M.idx_some hx1
        obtain ⟨a1, c1, hc1, r1⟩ := ra_.row hx1
        obtain ⟨x3, hx2, hB1⟩ := M.bind_some hB1
        obtain ⟨hx2l, hx2u, hx2⟩ := M.idx_some hx2
        obtain ⟨a2, c2, hc2, r2⟩ := rb.row hx2
        obtain ⟨x4, hx3, hB1⟩ := M.bind_some hB1
        refine Run_draw 10 mixed (by kernel_rfl) (by kernel_rfl) (L' := [(0, .slice aa_ a_.length ca_), (1, .slice ab b.length cb), (5, .int .i64 i1), (26, .bool (!x4))]) ?_ ?_
        · refine QRun_b [.slice aa_ a_.length ca_, .int .i64 i1] 0 _ (by kernel_rfl) (fun w => by kernel_rfl) ?_
          refine QRun_y (.pointer (some (adr aa_ (i1.toNat * 1)))) (by kernel_rfl) (Y_idx (t := 37) (e := 39) (sz := 1) (a := aa_) (n := a_.length) (cap := ca_) (kk := .i64) (i := i1) (by kernel_rfl) Try.underlying37 (by kernel_rfl) (ra_.cell hx1).1 hx1l hx1u) ?_
          refine QRun_y (.slice a1 x2.length c1) (by kernel_rfl) (Y_load1 (t := 39) (p := adr aa_ (i1.toNat * 1)) (v := .slice a1 x2.length c1) (by kernel_rfl) (fun w => by kernel_rfl) hc1) ?_
          refine QRun_b [.slice ab b.length cb, .int .i64 i1] 4 _ (by kernel_rfl) (fun w => by kernel_rfl) ?_
          refine QRun_y (.pointer (some (adr ab (i1.toNat * 1)))) (by kernel_rfl) (Y_idx (t := 37) (e := 39) (sz := 1) (a := ab) (n := b.length) (cap := cb) (kk := .i64) (i := i1) (by kernel_rfl) Try.underlying37 (by kernel_rfl) (rb.cell hx2).1 hx2l hx2u) ?_
          refine QRun_y (.slice a2 x3.length c2) (by kernel_rfl) (Y_load1 (t := 39) (p := adr ab (i1.toNat * 1)) (v := .slice a2 x3.length c2) (by kernel_rfl) (fun w => by kernel_rfl) hc2) ?_
          refine QRun_y (.bool x4) (by kernel_rfl) (Y_callq (f := 177) (args := #[.slice a1 x2.length c1, .slice a2 x3.length c2]) (v := .bool x4) (by kernel_rfl) (w_spec_l01Same h x2 a1 c1 r1 x3 a2 c2 r2 _ _ hx3)) ?_
          refine QRun_b [.bool (!x4)] 9 _ (by kernel_rfl) (fun w => by kernel_rfl) ?_
          exact QRun_done [0, 1, 5, 26] (by kernel_rfl) (by kernel_rfl)
        refine Run_cond (b := !x4) (by kernel_rfl) (fun hb3 => ?_) (fun hb3 => ?_)
        · have hB1 := (M.ite_some hB1).1 hb3
          refine Run_seq ?_
          refine Run_reg 1 (by kernel_rfl) (L' := [(4, .bool false)]) ?_ ?_
          · refine QRun_b [.bool false] 0 _ (by kernel_rfl) (fun w => by kernel_rfl) ?_
            exact QRun_done [4] (by kernel_rfl) (by kernel_rfl)
          have hB1 := M.ret_some hB1
          have gx1 := houty1 _ hB1.symm
          have hF := M.cont_inr' hF gx1
          have hF := M.ret_some hF
          subst hF
          exact Run_ret1 rfl (ResV_tmp (v := .bool false) (by kernel_rfl)) ⟨rfl, rfl⟩
        · have hB1 := (M.ite_some hB1).2 hb3
          refine Run_skip ?_
          refine Run_blk ?_
          refine Run_reg 3 (by kernel_rfl) (L' := [(0, .slice aa_ a_.length ca_), (1, .slice ab b.length cb), (5, .int .i64 (i1 + 1))]) ?_ ?_
          · refine QRun_b [.int .i64 i1] 0 _ (by kernel_rfl) (fun w => by kernel_rfl) ?_
            refine QRun_y (.int .i64 (i1 + 1)) (by kernel_rfl) (Y_eq (v := .int .i64 (w64 (i1 + 1))) (Y_pure (fun w => by kernel_rfl)) (by rw [w64_eq _ (by omega)])) ?_
            refine QRun_b [.int .i64 (i1 + 1)] 2 _ (by kernel_rfl) (fun w => by kernel_rfl) ?_
            exact QRun_done [0, 1, 5] (by kernel_rfl) (by kernel_rfl)
          have hB1 := M.ret_some hB1
          have gx1 := hgoy1 _ hB1.symm
          exact Run_again [0, 1, 5] (by kernel_rfl) my1 (Nat.lt_succ_self _) ⟨i1 + 1, (), by omega, gx1, rfl, rfl⟩
      · have gx1 := M.for_end gx1 hb2
        subst gx1
        refine Run_exit (k' := _) rfl ?_
        exact Run_fall [] (by kernel_rfl) ⟨(), rfl, rfl, rfl⟩

set_option maxRecDepth 100000 in
set_option maxHeartbeats 4000000 in
theorem w_spec_l03Star (h : Heap) (a_ : List (List Int)) (aa_ : Option Addr) (ca_ : Nat) (ra_ : Rd cd39 h (Lt h) aa_ ca_ a_) (n : Nat) (r : (List (List Int)) × Bool) (hF : spec_l03Star a_ n = some r) :
    Fn Try.prog 85 #[.slice aa_ a_.length ca_] h fun v h' => ∃ (a0 : Option Addr) (c0 : Nat), v = .tuple #[.slice a0 r.1.length c0, .bool r.2] ∧ Hold h h' [own cd39 a0 r.1.length c0 r.1] := by
  unfold spec_l03Star at hF
  refine Fn_enter (args := [.slice aa_ a_.length ca_]) Try.func85 rfl (by kernel_rfl) (by kernel_rfl) (fun w0 _ => ?_)
  have H0 := Hold.init h
  refine Run_seq ?_
  refine Run_reg 2 (by kernel_rfl) (L' := [(0, .slice aa_ a_.length ca_)]) ?_ ?_
  · refine QRun_b [.slice none 0 0, .bool false] 0 _ (by kernel_rfl) (fun w => by kernel_rfl) ?_
    exact QRun_done [0] (by kernel_rfl) (by kernel_rfl)
  refine Run_seq ?_
  refine Run_reg 3 (by kernel_rfl) (L' := [(0, .slice aa_ a_.length ca_), (4, .int .i64 (a_.length : Int))]) ?_ ?_
  · refine QRun_b [.slice aa_ a_.length ca_, .int .i64 (a_.length : Int), .int .i64 (a_.length : Int)] 0 _ (by kernel_rfl) (fun w => by kernel_rfl) ?_
    exact QRun_done [0, 4] (by kernel_rfl) (by kernel_rfl)
  refine Run_seq ?_
  refine Run_ops ?_
  refine Run_b [.int .i64 (a_.length : Int)] 0 _ (by kernel_rfl) (fun w => by kernel_rfl) ?_
  obtain ⟨x1, hx1, hF⟩ := M.bind_some hF
  refine Run_E (by kernel_rfl) ?_
  refine E_call (f := 149) (args := #[.int .i64 (a_.length : Int)]) (w_spec_l02Unit h (a_.length : Int) _ _ hx1) (by kernel_rfl) (fun v1 h1 hp1 => ?_)
  obtain ⟨a1, c1, rfl, H1⟩ := hp1
  have H2 : Hold h h1 [own cd39 a1 x1.length c1 x1] := H0.call H1 rfl
  refine Run_b [.slice a1 x1.length c1] 2 _ (by kernel_rfl) (fun w => by kernel_rfl) ?_
  refine Run_nil (by kernel_rfl) ?_
  refine Run_keep [0, 4, 5] (L' := [(0, .slice aa_ a_.length ca_), (4, .int .i64 (a_.length : Int)), (5, .slice a1 x1.length c1)]) (by kernel_rfl) ?_
  refine Run_seq ?_
  refine Run_seq ?_
  refine Run_reg 1 (by kernel_rfl) (L' := [(0, .slice aa_ a_.length ca_), (4, .int .i64 (a_.length : Int)), (5, .slice a1 x1.length c1), (6, .int .i64 0)]) ?_ ?_
  · refine QRun_b [.int .i64 0] 0 _ (by kernel_rfl) (fun w => by kernel_rfl) ?_
    exact QRun_done [0, 4, 5, 6] (by kernel_rfl) (by kernel_rfl)
  obtain ⟨x2, gx2, hF⟩ := M.bind_some hF
  obtain ⟨hloy1, hhiy1, gx2⟩ := M.for_start gx2
  refine Run_join (fun L' h' => ∃ (a3 : Option Addr) (c3 : Nat), L' = [(0, .slice aa_ a_.length ca_), (4, .int .i64 (a_.length : Int)), (5, .slice a3 x2.length c3)] ∧ Hold h h' [own cd39 a3 x2.length c3 x2]) ?_ ?_
  · rintro _ h3 ⟨a3, c3, rfl, H4⟩
    refine Run_seq ?_
    refine Run_ops ?_
    refine Run_b [.int .i64 (a_.length : Int)] 0 _ (by kernel_rfl) (fun w => by kernel_rfl) ?_
    obtain ⟨x6, hx5, hF⟩ := M.bind_some hF
    refine Run_E (by kernel_rfl) ?_
    refine E_call (f := 149) (args := #[.int .i64 (a_.length : Int)]) (w_spec_l02Unit h3 (a_.length : Int) _ _ hx5) (by kernel_rfl) (fun v5 h7 hp5 => ?_)
    obtain ⟨a7, c7, rfl, H12⟩ := hp5
    have H13 : Hold h h7 [own cd39 a7 x6.length c7 x6, own cd39 a3 x2.length c3 x2] := H4.call H12 rfl
    refine Run_b [.slice aa_ a_.length ca_, .slice a3 x2.length c3] 2 _ (by kernel_rfl) (fun w => by kernel_rfl) ?_
    obtain ⟨x7, hx6, hF⟩ := M.bind_some hF
    refine Run_E (by kernel_rfl) ?_
    refine E_call (f := 151) (args := #[.slice aa_ a_.length ca_, .slice a3 x2.length c3]) (w_spec_l02Multiply h7 a_ aa_ ca_ (ra_.at H13.ext) x2 a3 c3 (H13.rd 1 rfl) _ _ hx6) (by kernel_rfl) (fun v6 h8 hp6 => ?_)
    obtain ⟨a8, c8, rfl, H14⟩ := hp6
    have H15 : Hold h h8 [own cd39 a8 x7.length c8 x7, own cd39 a7 x6.length c7 x6, own cd39 a3 x2.length c3 x2] := H13.call H14 rfl
    obtain ⟨x8, hx7, hF⟩ := M.bind_some hF
    refine Run_E (by kernel_rfl) ?_
    refine E_call (f := 150) (args := #[.slice a7 x6.length c7, .slice a8 x7.length c8]) (w_spec_l02Add h8 x6 a7 c7 (H15.rd 1 rfl) x7 a8 c8 (H15.rd 0 rfl) _ _ hx7) (by kernel_rfl) (fun v7 h9 hp7 => ?_)
    obtain ⟨a9, c9, rfl, H16⟩ := hp7
    have H17 : Hold h h9 [own cd39 a9 x8.length c9 x8, own cd39 a8 x7.length c8 x7, own cd39 a7 x6.length c7 x6, own cd39 a3 x2.length c3 x2] := H15.call H16 rfl
    refine Run_b [.slice a9 x8.length c9] 6 _ (by kernel_rfl) (fun w => by kernel_rfl) ?_
    refine Run_nil (by kernel_rfl) ?_
    refine Run_keep [5, 7] (L' := [(5, .slice a3 x2.length c3), (7, .slice a9 x8.length c9)]) (by kernel_rfl) ?_
    refine Run_seq ?_
    obtain ⟨x9, hx8, hF⟩ := M.bind_some hF
    refine Run_reg 6 (by kernel_rfl) (L' := [(2, .slice a3 x2.length c3), (3, .bool x9)]) ?_ ?_
    · refine QRun_b [.slice a3 x2.length c3, .slice a9 x8.length c9, .slice a3 x2.length c3] 0 _ (by kernel_rfl) (fun w => by kernel_rfl) ?_
      refine QRun_y (.bool x9) (by kernel_rfl) (Y_callq (f := 152) (args := #[.slice a9 x8.length c9, .slice a3 x2.length c3]) (v := .bool x9) (by kernel_rfl) (w_spec_l02Same h9 x8 a9 c9 (H17.rd 0 rfl) x2 a3 c3 (H17.rd 3 rfl) _ _ hx8)) ?_
      refine QRun_b [.slice a3 x2.length c3, .bool x9] 4 _ (by kernel_rfl) (fun w => by kernel_rfl) ?_
      exact QRun_done [2, 3] (by kernel_rfl) (by kernel_rfl)
    have hF := M.ret_some hF
    subst hF
    have H18 : Hold h h9 [own cd39 a3 x2.length c3 x2, own cd39 a9 x8.length c9 x8, own cd39 a8 x7.length c8 x7, own cd39 a7 x6.length c7 x6] := H17.pick [3, 0, 1, 2] (by kernel_rfl)
    have H19 : Hold h h9 [own cd39 a3 x2.length c3 x2] := H18.pick [0] (by kernel_rfl)
    exact Run_ret2 rfl (ResV_tmp (v := .slice a3 x2.length c3) (by kernel_rfl)) (ResV_tmp (v := .bool x9) (by kernel_rfl)) ⟨a3, c3, rfl, H19⟩
  · refine Run_block ?_
    refine Run_keep [0, 4, 5, 6] (L' := [(0, .slice aa_ a_.length ca_), (4, .int .i64 (a_.length : Int)), (5, .slice a1 x1.length c1), (6, .int .i64 0)]) (by kernel_rfl) ?_
    refine Run_loop (fun m L' h' => ∃ (i1 : Int) (s1 : (List (List Int))) (a2 : Option Addr) (c2 : Nat), 0 ≤ i1 ∧ M.forN (a_.length : Int) _ _ n m i1 s1 = some x2 ∧ L' = [(0, .slice aa_ a_.length ca_), (4, .int .i64 (a_.length : Int)), (5, .slice a2 s1.length c2), (6, .int .i64 i1)] ∧ Hold h h' [own cd39 a2 s1.length c2 s1]) ((a_.length : Int) - 0 : Int).toNat ⟨0, x1, a1, c1, Int.le_refl _, gx2, rfl, H2⟩ ?_
    rintro my1 _ h2 ⟨i1, s1, a2, c2, hloy1', gx2, rfl, H3⟩
    refine Run_seq ?_
    refine Run_seq ?_
    refine Run_reg 3 (by kernel_rfl) (L' := [(0, .slice aa_ a_.length ca_), (4, .int .i64 (a_.length : Int)), (5, .slice a2 s1.length c2), (6, .int .i64 i1), (14, .bool (decide (i1 < (a_.length : Int))))]) ?_ ?_
    · refine QRun_b [.int .i64 i1, .int .i64 (a_.length : Int), .bool (decide (i1 < (a_.length : Int)))] 0 _ (by kernel_rfl) (fun w => by kernel_rfl) ?_
      exact QRun_done [0, 4, 5, 6, 14] (by kernel_rfl) (by kernel_rfl)
    refine Run_cond (b := decide (i1 < (a_.length : Int))) (by kernel_rfl) (fun hb1 => ?_) (fun hb1 => ?_)
    · obtain ⟨my1, y1, rfl, hB1, hgoy1, houty1⟩ := M.for_go gx2 hb1
      have hlty1 := of_decide_eq_true hb1
      refine Run_skip ?_
      refine Run_seq ?_
      refine Run_block ?_
      refine Run_ops ?_
      refine Run_b [.int .i64 (a_.length : Int)] 0 _ (by kernel_rfl) (fun w => by kernel_rfl) ?_
      obtain ⟨x3, hx2, hB1⟩ := M.bind_some hB1
      refine Run_E (by kernel_rfl) ?_
      refine E_call (f := 149) (args := #[.int .i64 (a_.length : Int)]) (w_spec_l02Unit h2 (a_.length : Int) _ _ hx2) (by kernel_rfl) (fun v2 h4 hp2 => ?_)
      obtain ⟨a4, c4, rfl, H5⟩ := hp2
      have H6 : Hold h h4 [own cd39 a4 x3.length c4 x3, own cd39 a2 s1.length c2 s1] := H3.call H5 rfl
      refine Run_b [.slice aa_ a_.length ca_, .slice a2 s1.length c2] 2 _ (by kernel_rfl) (fun w => by kernel_rfl) ?_
      obtain ⟨x4, hx3, hB1⟩ := M.bind_some hB1
      refine Run_E (by kernel_rfl) ?_
      refine E_call (f := 151) (args := #[.slice aa_ a_.length ca_, .slice a2 s1.length c2]) (w_spec_l02Multiply h4 a_ aa_ ca_ (ra_.at H6.ext) s1 a2 c2 (H6.rd 1 rfl) _ _ hx3) (by kernel_rfl) (fun v3 h5 hp3 => ?_)
      obtain ⟨a5, c5, rfl, H7⟩ := hp3
      have H8 : Hold h h5 [own cd39 a5 x4.length c5 x4, own cd39 a4 x3.length c4 x3, own cd39 a2 s1.length c2 s1] := H6.call H7 rfl
      obtain ⟨x5, hx4, hB1⟩ := M.bind_some hB1
      refine Run_E (by kernel_rfl) ?_
      refine E_call (f := 150) (args := #[.slice a4 x3.length c4, .slice a5 x4.length c5]) (w_spec_l02Add h5 x3 a4 c4 (H8.rd 1 rfl) x4 a5 c5 (H8.rd 0 rfl) _ _ hx4) (by kernel_rfl) (fun v4 h6 hp4 => ?_)
      obtain ⟨a6, c6, rfl, H9⟩ := hp4
      have H10 : Hold h h6 [own cd39 a6 x5.length c6 x5, own cd39 a5 x4.length c5 x4, own cd39 a4 x3.length c4 x3, own cd39 a2 s1.length c2 s1] := H8.call H9 rfl
      refine Run_b [.slice a6 x5.length c6] 6 _ (by kernel_rfl) (fun w => by kernel_rfl) ?_
      refine Run_nil (by kernel_rfl) ?_
      refine Run_keep [0, 4, 5, 6] (L' := [(0, .slice aa_ a_.length ca_), (4, .int .i64 (a_.length : Int)), (5, .slice a6 x5.length c6), (6, .int .i64 i1)]) (by kernel_rfl) ?_
      refine Run_blk ?_
      refine Run_reg 3 (by kernel_rfl) (L' := [(0, .slice aa_ a_.length ca_), (4, .int .i64 (a_.length : Int)), (5, .slice a6 x5.length c6), (6, .int .i64 (i1 + 1))]) ?_ ?_
      · refine QRun_b [.int .i64 i1] 0 _ (by kernel_rfl) (fun w => by kernel_rfl) ?_
        refine QRun_y (.int .i64 (i1 + 1)) (by kernel_rfl) (Y_eq (v := .int .i64 (w64 (i1 + 1))) (Y_pure (fun w => by kernel_rfl)) (by rw [w64_eq _ (by omega)])) ?_
        refine QRun_b [.int .i64 (i1 + 1)] 2 _ (by kernel_rfl) (fun w => by kernel_rfl) ?_
        exact QRun_done [0, 4, 5, 6] (by kernel_rfl) (by kernel_rfl)
      have H11 : Hold h h6 [own cd39 a6 x5.length c6 x5] := H10.pick [0] (by kernel_rfl)
      have hB1 := M.ret_some hB1
      have gx2 := hgoy1 _ hB1.symm
      exact Run_again [0, 4, 5, 6] (by kernel_rfl) my1 (Nat.lt_succ_self _) ⟨i1 + 1, x5, a6, c6, by omega, gx2, rfl, H11⟩
    · have gx2 := M.for_end gx2 hb1
      subst gx2
      refine Run_exit (k' := _) rfl ?_
      exact Run_fall [0, 4, 5] (by kernel_rfl) ⟨a2, c2, rfl, H3⟩

set_option maxRecDepth 100000 in
set_option maxHeartbeats 4000000 in
theorem w_spec_l02Apply (h : Heap) (a_ : List (List Int)) (aa_ : Option Addr) (ca_ : Nat) (ra_ : Rd cd39 h (Lt h) aa_ ca_ a_) (x_ : List Int) (ax_ : Option Addr) (cx_ : Nat) (rx_ : Rd cd2 h (Lt h) ax_ cx_ x_) (n : Nat) (r : (List Int)) (hF : spec_l02Apply a_ x_ n = some r) :
    Fn Try.prog 86 #[.slice aa_ a_.length ca_, .slice ax_ x_.length cx_] h fun v h' => ∃ (a0 : Option Addr) (c0 : Nat), v = .slice a0 r.length c0 ∧ Hold h h' [own cd2 a0 r.length c0 r] := by
  unfold spec_l02Apply at hF
  refine Fn_enter (args := [.slice aa_ a_.length ca_, .slice ax_ x_.length cx_]) Try.func86 rfl (by kernel_rfl) (by kernel_rfl) (fun w0 _ => ?_)
  have H0 := Hold.init h
  refine Run_seq ?_
  refine Run_reg 1 (by kernel_rfl) (L' := [(0, .slice aa_ a_.length ca_), (1, .slice ax_ x_.length cx_)]) ?_ ?_
  · refine QRun_b [.slice none 0 0] 0 _ (by kernel_rfl) (fun w => by kernel_rfl) ?_
    exact QRun_done [0, 1] (by kernel_rfl) (by kernel_rfl)
  refine Run_seq ?_
  refine Run_ops ?_
  refine Run_E (by kernel_rfl) ?_
  refine E_lit (C := cd2) (n := 0) (l := ([] : List Int)) (cs := []) H0 (fun w => by kernel_rfl) (Enc.nil _ _) rfl (by decide) (fun a1 h1 H1 => ?_)
  refine Run_b [.slice a1 0 0] 1 _ (by kernel_rfl) (fun w => by kernel_rfl) ?_
  refine Run_nil (by kernel_rfl) ?_
  refine Run_keep [0, 1, 5] (L' := [(0, .slice aa_ a_.length ca_), (1, .slice ax_ x_.length cx_), (5, .slice a1 0 0)]) (by kernel_rfl) ?_
  refine Run_seq ?_
  refine Run_seq ?_
  refine Run_reg 1 (by kernel_rfl) (L' := [(0, .slice aa_ a_.length ca_), (1, .slice ax_ x_.length cx_), (5, .slice a1 0 0), (6, .int .i64 0)]) ?_ ?_
  · refine QRun_b [.int .i64 0] 0 _ (by kernel_rfl) (fun w => by kernel_rfl) ?_
    exact QRun_done [0, 1, 5, 6] (by kernel_rfl) (by kernel_rfl)
  obtain ⟨x1, gx1, hF⟩ := M.bind_some hF
  obtain ⟨hloy1, hhiy1, gx1⟩ := M.for_start gx1
  refine Run_join (fun L' h' => ∃ (a3 : Option Addr) (c2 : Nat), L' = [(5, .slice a3 x1.length c2)] ∧ Hold h h' [own cd2 a3 x1.length c2 x1]) ?_ ?_
  · rintro _ h3 ⟨a3, c2, rfl, H3⟩
    refine Run_seq ?_
    refine Run_reg 2 (by kernel_rfl) (L' := [(4, .slice a3 x1.length c2)]) ?_ ?_
    · refine QRun_b [.slice a3 x1.length c2, .slice a3 x1.length c2] 0 _ (by kernel_rfl) (fun w => by kernel_rfl) ?_
      exact QRun_done [4] (by kernel_rfl) (by kernel_rfl)
    have hF := M.ret_some hF
    subst hF
    exact Run_ret1 rfl (ResV_tmp (v := .slice a3 x1.length c2) (by kernel_rfl)) ⟨a3, c2, rfl, H3⟩
  · refine Run_block ?_
    have hn1 := (H1.len 0 rfl)
    have H11 : Hold h h1 [own cd2 a1 (([] : List Int).length) 0 ([] : List Int)] := by rw [hn1]; exact H1
    refine Run_keep [0, 1, 5, 6] (L' := [(0, .slice aa_ a_.length ca_), (1, .slice ax_ x_.length cx_), (5, .slice a1 (([] : List Int).length) 0), (6, .int .i64 0)]) (by first | (rw [hn1]; kernel_rfl) | (simp only [hn1]; kernel_rfl) | kernel_rfl) ?_
    refine Run_loop (fun m L' h' => ∃ (i1 : Int) (s1 : (List Int)) (a2 : Option Addr) (c1 : Nat), 0 ≤ i1 ∧ M.forN (a_.length : Int) _ _ n m i1 s1 = some x1 ∧ L' = [(0, .slice aa_ a_.length ca_), (1, .slice ax_ x_.length cx_), (5, .slice a2 s1.length c1), (6, .int .i64 i1)] ∧ Hold h h' [own cd2 a2 s1.length c1 s1]) ((a_.length : Int) - 0 : Int).toNat ⟨0, ([] : List Int), a1, 0, Int.le_refl _, gx1, rfl, H11⟩ ?_
    rintro my1 _ h2 ⟨i1, s1, a2, c1, hloy1', gx1, rfl, H2⟩
    refine Run_seq ?_
    refine Run_seq ?_
    refine Run_reg 4 (by kernel_rfl) (L' := [(0, .slice aa_ a_.length ca_), (1, .slice ax_ x_.length cx_), (5, .slice a2 s1.length c1), (6, .int .i64 i1), (13, .bool (decide (i1 < (a_.length : Int))))]) ?_ ?_
    · refine QRun_b [.int .i64 i1, .slice aa_ a_.length ca_, .int .i64 (a_.length : Int), .bool (decide (i1 < (a_.length : Int)))] 0 _ (by kernel_rfl) (fun w => by kernel_rfl) ?_
      exact QRun_done [0, 1, 5, 6, 13] (by kernel_rfl) (by kernel_rfl)
    refine Run_cond (b := decide (i1 < (a_.length : Int))) (by kernel_rfl) (fun hb1 => ?_) (fun hb1 => ?_)
    · obtain ⟨my1, y1, rfl, hB1, hgoy1, houty1⟩ := M.for_go gx1 hb1
      have hlty1 := of_decide_eq_true hb1
      refine Run_skip ?_
      refine Run_seq ?_
      refine Run_block ?_
      refine Run_seq ?_
      refine Run_reg 1 (by kernel_rfl) (L' := [(0, .slice aa_ a_.length ca_), (1, .slice ax_ x_.length cx_), (5, .slice a2 s1.length c1), (6, .int .i64 i1), (7, .int .i64 (-1000000000000000))]) ?_ ?_
      · refine QRun_b [.int .i64 (-1000000000000000)] 0 _ (by kernel_rfl) (fun w => by kernel_rfl) ?_
        exact QRun_done [0, 1, 5, 6, 7] (by kernel_rfl) (by kernel_rfl)
      refine Run_seq ?_
      refine Run_seq ?_
      refine Run_reg 1 (by kernel_rfl) (L' := [(0, .slice aa_ a_.length ca_), (1, .slice ax_ x_.length cx_), (5, .slice a2 s1.length c1), (6, .int .i64 i1), (7, .int .i64 (-1000000000000000)), (8, .int .i64 0)]) ?_ ?_
      · refine QRun_b [.int .i64 0] 0 _ (by kernel_rfl) (fun w => by kernel_rfl) ?_
        exact QRun_done [0, 1, 5, 6, 7, 8] (by kernel_rfl) (by kernel_rfl)
      obtain ⟨x2, gx2, hB1⟩ := M.bind_some hB1
      obtain ⟨hloy2, hhiy2, gx2⟩ := M.for_start gx2
      refine Run_join (fun L' h' => L' = [(0, .slice aa_ a_.length ca_), (1, .slice ax_ x_.length cx_), (5, .slice a2 s1.length c1), (6, .int .i64 i1), (7, .int .i64 x2)] ∧ Hold h h' [own cd2 a2 s1.length c1 s1]) ?_ ?_
      · rintro _ h5 ⟨rfl, H5⟩
        refine Run_ops ?_
        refine Run_b [.slice a2 s1.length c1, .int .i64 x2] 0 _ (by kernel_rfl) (fun w => by kernel_rfl) ?_
        refine Run_E (by kernel_rfl) ?_
        refine E_lit (C := cd2) (n := 1) (l := ([x2] : List Int)) (cs := [.int .i64 x2]) H5 (fun w => by kernel_rfl) (Enc.consE (cd2_own x2 _) (Enc.nil _ _) rfl) rfl (by decide) (fun a5 h6 H6 => ?_)
        obtain ⟨l1, hl1, hB1⟩ := M.bind_some hB1
        have hl1 := M.app_some hl1
        have H7 : Hold h h6 [own cd2 a2 s1.length c1 s1, own cd2 a5 1 1 ([x2] : List Int)] := H6.pick [1, 0] (by kernel_rfl)
        have H8 : Hold h h6 [own cd2 a5 1 1 ([x2] : List Int), own cd2 a2 s1.length c1 s1] := H7.pick [1, 0] (by kernel_rfl)
        have H9 : Hold h h6 [own cd2 a2 s1.length c1 s1, own cd2 a5 1 1 ([x2] : List Int)] := H8.pick [1, 0] (by kernel_rfl)
        refine Run_E (by kernel_rfl) ?_
        refine E_app (C := cd2) (t := 39) (ty := 39) (n := s1.length) (m := 1) H9 cd2_ti rfl Try.underlying39 (by decide) (by kernel_rfl) hl1 (fun a6 c4 h7 H10 => ?_)
        refine Run_b [.slice a6 l1.length c4] 4 _ (by kernel_rfl) (fun w => by kernel_rfl) ?_
        refine Run_nil (by kernel_rfl) ?_
        refine Run_keep [0, 1, 5, 6] (L' := [(0, .slice aa_ a_.length ca_), (1, .slice ax_ x_.length cx_), (5, .slice a6 l1.length c4), (6, .int .i64 i1)]) (by kernel_rfl) ?_
        refine Run_blk ?_
        refine Run_reg 3 (by kernel_rfl) (L' := [(0, .slice aa_ a_.length ca_), (1, .slice ax_ x_.length cx_), (5, .slice a6 l1.length c4), (6, .int .i64 (i1 + 1))]) ?_ ?_
        · refine QRun_b [.int .i64 i1] 0 _ (by kernel_rfl) (fun w => by kernel_rfl) ?_
          refine QRun_y (.int .i64 (i1 + 1)) (by kernel_rfl) (Y_eq (v := .int .i64 (w64 (i1 + 1))) (Y_pure (fun w => by kernel_rfl)) (by rw [w64_eq _ (by omega)])) ?_
          refine QRun_b [.int .i64 (i1 + 1)] 2 _ (by kernel_rfl) (fun w => by kernel_rfl) ?_
          exact QRun_done [0, 1, 5, 6] (by kernel_rfl) (by kernel_rfl)
        have hB1 := M.ret_some hB1
        have gx1 := hgoy1 _ hB1.symm
        exact Run_again [0, 1, 5, 6] (by kernel_rfl) my1 (Nat.lt_succ_self _) ⟨i1 + 1, l1, a6, c4, by omega, gx1, rfl, H10⟩
      · refine Run_block ?_
        refine Run_keep [0, 1, 5, 6, 7, 8] (L' := [(0, .slice aa_ a_.length ca_), (1, .slice ax_ x_.length cx_), (5, .slice a2 s1.length c1), (6, .int .i64 i1), (7, .int .i64 (-1000000000000000)), (8, .int .i64 0)]) (by kernel_rfl) ?_
        refine Run_loop (fun m L' h' => ∃ (i2 : Int) (s2 : Int), 0 ≤ i2 ∧ M.forN (x_.length : Int) _ _ n m i2 s2 = some x2 ∧ L' = [(0, .slice aa_ a_.length ca_), (1, .slice ax_ x_.length cx_), (5, .slice a2 s1.length c1), (6, .int .i64 i1), (7, .int .i64 s2), (8, .int .i64 i2)] ∧ Hold h h' [own cd2 a2 s1.length c1 s1]) ((x_.length : Int) - 0 : Int).toNat ⟨0, (-1000000000000000), Int.le_refl _, gx2, rfl, H2⟩ ?_
        rintro my2 _ h4 ⟨i2, s2, hloy2', gx2, rfl, H4⟩
        refine Run_seq ?_
        refine Run_seq ?_
        refine Run_reg 4 (by kernel_rfl) (L' := [(0, .slice aa_ a_.length ca_), (1, .slice ax_ x_.length cx_), (5, .slice a2 s1.length c1), (6, .int .i64 i1), (7, .int .i64 s2), (8, .int .i64 i2), (19, .bool (decide (i2 < (x_.length : Int))))]) ?_ ?_
        · refine QRun_b [.int .i64 i2, .slice ax_ x_.length cx_, .int .i64 (x_.length : Int), .bool (decide (i2 < (x_.length : Int)))] 0 _ (by kernel_rfl) (fun w => by kernel_rfl) ?_
          exact QRun_done [0, 1, 5, 6, 7, 8, 19] (by kernel_rfl) (by kernel_rfl)
        refine Run_cond (b := decide (i2 < (x_.length : Int))) (by kernel_rfl) (fun hb2 => ?_) (fun hb2 => ?_)
        · obtain ⟨my2, y2, rfl, hB2, hgoy2, houty2⟩ := M.for_go gx2 hb2
          have hlty2 := of_decide_eq_true hb2
          refine Run_skip ?_
          refine Run_seq ?_
          refine Run_block ?_
          obtain ⟨x3, hx1, hB2⟩ := M.bind_some hB2
          obtain ⟨hx1l, hx1u, hx1⟩ := M.idx_some hx1
          obtain ⟨a4, c3, hc1, r1⟩ := ra_.row hx1
          obtain ⟨x4, hx2, hB2⟩ := M.bind_some hB2
          obtain ⟨hx2l, hx2u, hx2⟩ := M.idx_some hx2
          obtain ⟨x5, hx3, hB2⟩ := M.bind_some hB2
          obtain ⟨hx3l, hx3u, hx3⟩ := M.idx_some hx3
          obtain ⟨x6, hx4, hB2⟩ := M.bind_some hB2
          refine Run_draw 15 mixed (by kernel_rfl) (by kernel_rfl) (L' := [(0, .slice aa_ a_.length ca_), (1, .slice ax_ x_.length cx_), (5, .slice a2 s1.length c1), (6, .int .i64 i1), (7, .int .i64 (mx s2 x6)), (8, .int .i64 i2)]) ?_ ?_
          · refine QRun_b [.int .i64 s2, .slice aa_ a_.length ca_, .int .i64 i1] 0 _ (by kernel_rfl) (fun w => by kernel_rfl) ?_
            refine QRun_y (.pointer (some (adr aa_ (i1.toNat * 1)))) (by kernel_rfl) (Y_idx (t := 37) (e := 39) (sz := 1) (a := aa_) (n := a_.length) (cap := ca_) (kk := .i64) (i := i1) (by kernel_rfl) Try.underlying37 (by kernel_rfl) ((ra_.at H4.ext).cell hx1).1 hx1l hx1u) ?_
            refine QRun_y (.slice a4 x3.length c3) (by kernel_rfl) (Y_load1 (t := 39) (p := adr aa_ (i1.toNat * 1)) (v := .slice a4 x3.length c3) (by kernel_rfl) (fun w => by kernel_rfl) (cell_at H4.ext hc1)) ?_
            refine QRun_b [.int .i64 i2] 5 _ (by kernel_rfl) (fun w => by kernel_rfl) ?_
            refine QRun_y (.pointer (some (adr a4 (i2.toNat * 1)))) (by kernel_rfl) (Y_idx (t := 39) (e := 2) (sz := 1) (a := a4) (n := x3.length) (cap := c3) (kk := .i64) (i := i2) (by kernel_rfl) Try.underlying39 (by kernel_rfl) ((r1.at H4.ext).cell hx2).1 hx2l hx2u) ?_
            refine QRun_y (.int .i64 x4) (by kernel_rfl) (Y_load1 (t := 2) (p := adr a4 (i2.toNat * 1)) (v := .int .i64 x4) (by kernel_rfl) (fun w => by kernel_rfl) (cd2_cell (r1.at H4.ext) hx2)) ?_
            refine QRun_b [.slice ax_ x_.length cx_, .int .i64 i2] 8 _ (by kernel_rfl) (fun w => by kernel_rfl) ?_
            refine QRun_y (.pointer (some (adr ax_ (i2.toNat * 1)))) (by kernel_rfl) (Y_idx (t := 39) (e := 2) (sz := 1) (a := ax_) (n := x_.length) (cap := cx_) (kk := .i64) (i := i2) (by kernel_rfl) Try.underlying39 (by kernel_rfl) ((rx_.at H4.ext).cell hx3).1 hx3l hx3u) ?_
            refine QRun_y (.int .i64 x5) (by kernel_rfl) (Y_load1 (t := 2) (p := adr ax_ (i2.toNat * 1)) (v := .int .i64 x5) (by kernel_rfl) (fun w => by kernel_rfl) (cd2_cell (rx_.at H4.ext) hx3)) ?_
            refine QRun_y (.int .i64 x6) (by kernel_rfl) (Y_callq (f := 117) (args := #[.int .i64 x4, .int .i64 x5]) (v := .int .i64 x6) (by kernel_rfl) (w_spec_l01Times h4 x4 x5 _ _ hx4)) ?_
            refine QRun_b [.int .i64 (mx s2 x6), .int .i64 (mx s2 x6)] 13 _ (by kernel_rfl) (fun w => by kernel_rfl) ?_
            exact QRun_done [0, 1, 5, 6, 7, 8] (by kernel_rfl) (by kernel_rfl)
          refine Run_blk ?_
          refine Run_reg 3 (by kernel_rfl) (L' := [(0, .slice aa_ a_.length ca_), (1, .slice ax_ x_.length cx_), (5, .slice a2 s1.length c1), (6, .int .i64 i1), (7, .int .i64 (mx s2 x6)), (8, .int .i64 (i2 + 1))]) ?_ ?_
          · refine QRun_b [.int .i64 i2] 0 _ (by kernel_rfl) (fun w => by kernel_rfl) ?_
            refine QRun_y (.int .i64 (i2 + 1)) (by kernel_rfl) (Y_eq (v := .int .i64 (w64 (i2 + 1))) (Y_pure (fun w => by kernel_rfl)) (by rw [w64_eq _ (by omega)])) ?_
            refine QRun_b [.int .i64 (i2 + 1)] 2 _ (by kernel_rfl) (fun w => by kernel_rfl) ?_
            exact QRun_done [0, 1, 5, 6, 7, 8] (by kernel_rfl) (by kernel_rfl)
          have hB2 := M.ret_some hB2
          have gx2 := hgoy2 _ hB2.symm
          exact Run_again [0, 1, 5, 6, 7, 8] (by kernel_rfl) my2 (Nat.lt_succ_self _) ⟨i2 + 1, (mx s2 x6), by omega, gx2, rfl, H4⟩
        · have gx2 := M.for_end gx2 hb2
          subst gx2
          refine Run_exit (k' := _) rfl ?_
          exact Run_fall [0, 1, 5, 6, 7] (by kernel_rfl) ⟨rfl, H4⟩
    · have gx1 := M.for_end gx1 hb1
      subst gx1
      refine Run_exit (k' := _) rfl ?_
      exact Run_fall [5] (by kernel_rfl) ⟨a2, c1, rfl, H2⟩

set_option maxRecDepth 100000 in
set_option maxHeartbeats 4000000 in
theorem w_spec_DualOf (h : Heap) (a_ : List (List Int)) (aa_ : Option Addr) (ca_ : Nat) (ra_ : Rd cd39 h (Lt h) aa_ ca_ a_) (n : Nat) (r : (List Int) × (List Int) × Int) (hF : spec_DualOf a_ n = some r) :
    Fn Try.prog 19 #[.slice aa_ a_.length ca_] h fun v h' => ∃ (a0 : Option Addr) (c0 : Nat), ∃ (a1 : Option Addr) (c1 : Nat), v = .tuple #[.slice a0 r.1.length c0, .slice a1 r.2.1.length c1, .int .i64 r.2.2] ∧ Hold h h' [own cd2 a0 r.1.length c0 r.1, own cd2 a1 r.2.1.length c1 r.2.1] := by
  unfold spec_DualOf at hF
  refine Fn_enter (args := [.slice aa_ a_.length ca_]) Try.func19 rfl (by kernel_rfl) (by kernel_rfl) (fun w0 _ => ?_)
  have H0 := Hold.init h
  refine Run_seq ?_
  refine Run_reg 3 (by kernel_rfl) (L' := [(0, .slice aa_ a_.length ca_)]) ?_ ?_
  · refine QRun_b [.slice none 0 0, .slice none 0 0, .int .i64 0] 0 _ (by kernel_rfl) (fun w => by kernel_rfl) ?_
    exact QRun_done [0] (by kernel_rfl) (by kernel_rfl)
  refine Run_seq ?_
  refine Run_seq ?_
  obtain ⟨x1, hx1, hF⟩ := M.bind_some hF
  refine Run_reg 3 (by kernel_rfl) (L' := [(0, .slice aa_ a_.length ca_), (17, .bool (!x1))]) ?_ ?_
  · refine QRun_b [.slice aa_ a_.length ca_] 0 _ (by kernel_rfl) (fun w => by kernel_rfl) ?_
    refine QRun_y (.bool x1) (by kernel_rfl) (Y_callq (f := 82) (args := #[.slice aa_ a_.length ca_]) (v := .bool x1) (by kernel_rfl) (w_spec_l02Square h a_ aa_ ca_ ra_ _ _ hx1)) ?_
    refine QRun_b [.bool (!x1)] 2 _ (by kernel_rfl) (fun w => by kernel_rfl) ?_
    exact QRun_done [0, 17] (by kernel_rfl) (by kernel_rfl)
  refine Run_cond (b := !x1) (by kernel_rfl) (fun hb1 => ?_) (fun hb1 => ?_)
  · have hF := (M.ite_some hF).1 hb1
    refine Run_seq ?_
    refine Run_reg 3 (by kernel_rfl) (L' := [(2, .slice none 0 0), (3, .slice none 0 0), (4, .int .i64 1)]) ?_ ?_
    · refine QRun_b [.slice none 0 0, .slice none 0 0, .int .i64 1] 0 _ (by kernel_rfl) (fun w => by kernel_rfl) ?_
      exact QRun_done [2, 3, 4] (by kernel_rfl) (by kernel_rfl)
    have hF := M.ret_some hF
    subst hF
    have H1 := H0.empty cd2
    have H2 := H1.empty cd2
    have H3 : Hold h h [own cd2 none 0 0 [], own cd2 none 0 0 []] := H2.pick [1, 0] (by kernel_rfl)
    exact Run_ret3 rfl (ResV_tmp (v := .slice none 0 0) (by kernel_rfl)) (ResV_tmp (v := .slice none 0 0) (by kernel_rfl)) (ResV_tmp (v := .int .i64 1) (by kernel_rfl)) ⟨none, 0, none, 0, rfl, H3⟩
  · have hF := (M.ite_some hF).2 hb1
    refine Run_skip ?_
    refine Run_seq ?_
    refine Run_ops ?_
    refine Run_b [.slice aa_ a_.length ca_] 0 _ (by kernel_rfl) (fun w => by kernel_rfl) ?_
    obtain ⟨x2, hx2, hF⟩ := M.bind_some hF
    refine Run_E (by kernel_rfl) ?_
    refine E_call (f := 83) (args := #[.slice aa_ a_.length ca_]) (w_spec_l10Assignment h a_ aa_ ca_ ra_ _ _ hx2) (by kernel_rfl) (fun v1 h1 hp1 => ?_)
    obtain ⟨a1, c1, rfl, H4⟩ := hp1
    have H5 : Hold h h1 [own cd2 a1 x2.1.length c1 x2.1] := H0.call H4 rfl
    refine Run_b [.tuple #[.slice a1 x2.1.length c1, .bool x2.2], .slice a1 x2.1.length c1, .bool x2.2, .slice a1 x2.1.length c1, .bool x2.2] 2 _ (by kernel_rfl) (fun w => by kernel_rfl) ?_
    refine Run_nil (by kernel_rfl) ?_
    refine Run_keep [0, 5, 6] (L' := [(0, .slice aa_ a_.length ca_), (5, .slice a1 x2.1.length c1), (6, .bool x2.2)]) (by kernel_rfl) ?_
    refine Run_seq ?_
    refine Run_seq ?_
    refine Run_reg 2 (by kernel_rfl) (L' := [(0, .slice aa_ a_.length ca_), (5, .slice a1 x2.1.length c1), (24, .bool (!x2.2))]) ?_ ?_
    · refine QRun_b [.bool x2.2, .bool (!x2.2)] 0 _ (by kernel_rfl) (fun w => by kernel_rfl) ?_
      exact QRun_done [0, 5, 24] (by kernel_rfl) (by kernel_rfl)
    refine Run_cond (b := !x2.2) (by kernel_rfl) (fun hb2 => ?_) (fun hb2 => ?_)
    · have hF := (M.ite_some hF).1 hb2
      refine Run_seq ?_
      refine Run_reg 3 (by kernel_rfl) (L' := [(2, .slice none 0 0), (3, .slice none 0 0), (4, .int .i64 4)]) ?_ ?_
      · refine QRun_b [.slice none 0 0, .slice none 0 0, .int .i64 4] 0 _ (by kernel_rfl) (fun w => by kernel_rfl) ?_
        exact QRun_done [2, 3, 4] (by kernel_rfl) (by kernel_rfl)
      have hF := M.ret_some hF
      subst hF
      have H6 := H5.empty cd2
      have H7 := H6.empty cd2
      have H8 : Hold h h1 [own cd2 none 0 0 [], own cd2 none 0 0 []] := H7.pick [1, 0] (by kernel_rfl)
      exact Run_ret3 rfl (ResV_tmp (v := .slice none 0 0) (by kernel_rfl)) (ResV_tmp (v := .slice none 0 0) (by kernel_rfl)) (ResV_tmp (v := .int .i64 4) (by kernel_rfl)) ⟨none, 0, none, 0, rfl, H8⟩
    · have hF := (M.ite_some hF).2 hb2
      refine Run_skip ?_
      refine Run_seq ?_
      refine Run_ops ?_
      refine Run_b [.slice aa_ a_.length ca_, .int .i64 (a_.length : Int), .slice aa_ a_.length ca_, .int .i64 (a_.length : Int)] 0 _ (by kernel_rfl) (fun w => by kernel_rfl) ?_
      obtain ⟨x3, hx3, hF⟩ := M.bind_some hF
      refine Run_E (by kernel_rfl) ?_
      refine E_call (f := 84) (args := #[.int .i64 (a_.length : Int), .int .i64 (a_.length : Int)]) (w_spec_l02Bottom h1 (a_.length : Int) (a_.length : Int) _ _ hx3) (by kernel_rfl) (fun v2 h2 hp2 => ?_)
      obtain ⟨a2, c2, rfl, H9⟩ := hp2
      have H10 : Hold h h2 [own cd39 a2 x3.length c2 x3, own cd2 a1 x2.1.length c1 x2.1] := H5.call H9 rfl
      refine Run_b [.slice a2 x3.length c2] 5 _ (by kernel_rfl) (fun w => by kernel_rfl) ?_
      refine Run_nil (by kernel_rfl) ?_
      refine Run_keep [0, 5, 7] (L' := [(0, .slice aa_ a_.length ca_), (5, .slice a1 x2.1.length c1), (7, .slice a2 x3.length c2)]) (by kernel_rfl) ?_
      refine Run_seq ?_
      refine Run_seq ?_
      refine Run_reg 1 (by kernel_rfl) (L' := [(0, .slice aa_ a_.length ca_), (5, .slice a1 x2.1.length c1), (7, .slice a2 x3.length c2), (8, .int .i64 0)]) ?_ ?_
      · refine QRun_b [.int .i64 0] 0 _ (by kernel_rfl) (fun w => by kernel_rfl) ?_
        exact QRun_done [0, 5, 7, 8] (by kernel_rfl) (by kernel_rfl)
      obtain ⟨x4, gx4, hF⟩ := M.bind_some hF
      obtain ⟨hloy1, hhiy1, gx4⟩ := M.for_start gx4
      refine Run_join (fun L' h' => L' = [(0, .slice aa_ a_.length ca_), (5, .slice a1 x2.1.length c1), (7, .slice a2 x3.length c2)] ∧ Hold h h' [own cd2 a1 x2.1.length c1 x2.1, own cd39 a2 x3.length c2 x4]) ?_ ?_
      · rintro _ h4 ⟨rfl, H12⟩
        refine Run_seq ?_
        refine Run_ops ?_
        refine Run_b [.slice a2 x3.length c2] 0 _ (by kernel_rfl) (fun w => by kernel_rfl) ?_
        obtain ⟨x17, hx15, hF⟩ := M.bind_some hF
        refine Run_E (by kernel_rfl) ?_
        refine E_call (f := 85) (args := #[.slice a2 x3.length c2]) (Fn.arg (w_spec_l03Star h4 x4 a2 c2 (H12.rd 1 rfl) _ _ hx15) (by simp only [(H12.len 1 rfl)])) (by kernel_rfl) (fun v3 h10 hp3 => ?_)
        obtain ⟨a7, c7, rfl, H26⟩ := hp3
        have H27 : Hold h h10 [own cd39 a7 x17.1.length c7 x17.1, own cd2 a1 x2.1.length c1 x2.1, own cd39 a2 x3.length c2 x4] := H12.call H26 rfl
        refine Run_b [.tuple #[.slice a7 x17.1.length c7, .bool x17.2], .slice a7 x17.1.length c7, .bool x17.2, .slice a7 x17.1.length c7, .bool x17.2] 2 _ (by kernel_rfl) (fun w => by kernel_rfl) ?_
        refine Run_nil (by kernel_rfl) ?_
        refine Run_keep [0, 5, 10] (L' := [(0, .slice aa_ a_.length ca_), (5, .slice a1 x2.1.length c1), (10, .slice a7 x17.1.length c7)]) (by kernel_rfl) ?_
        refine Run_seq ?_
        refine Run_ops ?_
        refine Run_b [.slice a7 x17.1.length c7, .slice aa_ a_.length ca_, .int .i64 (a_.length : Int)] 0 _ (by kernel_rfl) (fun w => by kernel_rfl) ?_
        obtain ⟨l2, hl1, hF⟩ := M.bind_some hF
        have hl1 := M.make_some hl1
        refine Run_E (by kernel_rfl) ?_
        refine E_make cd2 0 (kl := .i64) (kc := .i64) H27 cd2_ti Try.underlying39 (by decide) cd2_zero (by kernel_rfl) hl1 (fun a8 h11 H28 => ?_)
        obtain ⟨x18, hx16, hF⟩ := M.bind_some hF
        refine Run_E (by kernel_rfl) ?_
        refine E_call (f := 86) (args := #[.slice a7 x17.1.length c7, .slice a8 l2.length l2.length]) (w_spec_l02Apply h11 x17.1 a7 c7 (H28.rd 1 rfl) l2 a8 l2.length (H28.rd 0 rfl) _ _ hx16) (by kernel_rfl) (fun v4 h12 hp4 => ?_)
        obtain ⟨a9, c8, rfl, H29⟩ := hp4
        have H30 : Hold h h12 [own cd2 a9 x18.length c8 x18, own cd2 a8 l2.length l2.length l2, own cd39 a7 x17.1.length c7 x17.1, own cd2 a1 x2.1.length c1 x2.1, own cd39 a2 x3.length c2 x4] := H28.call H29 rfl
        refine Run_b [.slice a9 x18.length c8] 5 _ (by kernel_rfl) (fun w => by kernel_rfl) ?_
        refine Run_nil (by kernel_rfl) ?_
        refine Run_keep [0, 5, 12] (L' := [(0, .slice aa_ a_.length ca_), (5, .slice a1 x2.1.length c1), (12, .slice a9 x18.length c8)]) (by kernel_rfl) ?_
        refine Run_seq ?_
        refine Run_ops ?_
        refine Run_b [.slice aa_ a_.length ca_, .int .i64 (a_.length : Int)] 0 _ (by kernel_rfl) (fun w => by kernel_rfl) ?_
        obtain ⟨l3, hl2, hF⟩ := M.bind_some hF
        have hl2 := M.make_some hl2
        refine Run_E (by kernel_rfl) ?_
        refine E_make cd2 0 (kl := .i64) (kc := .i64) H30 cd2_ti Try.underlying39 (by decide) cd2_zero (by kernel_rfl) hl2 (fun a10 h13 H31 => ?_)
        refine Run_b [.slice a10 l3.length l3.length] 3 _ (by kernel_rfl) (fun w => by kernel_rfl) ?_
        refine Run_nil (by kernel_rfl) ?_
        refine Run_keep [0, 5, 12, 13] (L' := [(0, .slice aa_ a_.length ca_), (5, .slice a1 x2.1.length c1), (12, .slice a9 x18.length c8), (13, .slice a10 l3.length l3.length)]) (by kernel_rfl) ?_
        refine Run_seq ?_
        refine Run_seq ?_
        refine Run_reg 1 (by kernel_rfl) (L' := [(0, .slice aa_ a_.length ca_), (5, .slice a1 x2.1.length c1), (12, .slice a9 x18.length c8), (13, .slice a10 l3.length l3.length), (14, .int .i64 0)]) ?_ ?_
        · refine QRun_b [.int .i64 0] 0 _ (by kernel_rfl) (fun w => by kernel_rfl) ?_
          exact QRun_done [0, 5, 12, 13, 14] (by kernel_rfl) (by kernel_rfl)
        obtain ⟨x19, gx19, hF⟩ := M.bind_some hF
        obtain ⟨hloy3, hhiy3, gx19⟩ := M.for_start gx19
        refine Run_join (fun L' h' => L' = [(12, .slice a9 x18.length c8), (13, .slice a10 l3.length l3.length)] ∧ Hold h h' [own cd2 a9 x18.length c8 x18, own cd2 a10 l3.length l3.length x19]) ?_ ?_
        · rintro _ h15 ⟨rfl, H33⟩
          refine Run_seq ?_
          refine Run_seq ?_
          obtain ⟨x26, hx23, hF⟩ := M.bind_some hF
          obtain ⟨x27, gx27, hF⟩ := M.bind_some hF
          refine Run_reg 8 (by kernel_rfl) (L' := [(12, .slice a9 x18.length c8), (13, .slice a10 l3.length l3.length), (127, .bool x27)]) ?_ ?_
          · refine QRun_b [.slice a9 x18.length c8] 0 _ (by kernel_rfl) (fun w => by kernel_rfl) ?_
            refine QRun_y (.bool x26) (by kernel_rfl) (Y_callq (f := 87) (args := #[.slice a9 x18.length c8, .bool true]) (v := .bool x26) (by kernel_rfl) (w_spec_l01All h15 x18 a9 c8 (H33.rd 0 rfl) true _ _ hx23)) ?_
            refine QRun_b [.bool (!x26)] 2 _ (by kernel_rfl) (fun w => by kernel_rfl) ?_
            refine QRun_seq 8 [(12, .slice a9 x18.length c8), (13, .slice a10 l3.length l3.length), (127, .bool x27)] ?_ ?_
            · rcases Bool.eq_false_or_eq_true (!x26) with hb7 | hb7
              · refine QRun_bool (!x26) true (by kernel_rfl) (fun w => by kernel_rfl) hb7 ?_
                have gx27 := M.ret_some ((M.ite_some gx27).1 hb7)
                refine QRun_n (by kernel_rfl) ?_
                refine QRun_n (by kernel_rfl) ?_
                refine QRun_n (by kernel_rfl) ?_
                refine QRun_bool true x27 (by kernel_rfl) (fun w => by kernel_rfl) gx27 ?_
                exact QRun_done [12, 13, 127] (by kernel_rfl) (by kernel_rfl)
              · refine QRun_bool (!x26) false (by kernel_rfl) (fun w => by kernel_rfl) hb7 ?_
                have gx27 := (M.ite_some gx27).2 hb7
                obtain ⟨x28, hx24, gx27⟩ := M.bind_some gx27
                have gx27 := M.ret_some gx27
                refine QRun_b [.slice a10 l3.length l3.length] 4 _ (by kernel_rfl) (fun w => by kernel_rfl) ?_
                refine QRun_y (.bool x28) (by kernel_rfl) (Y_callq (f := 87) (args := #[.slice a10 l3.length l3.length, .bool true]) (v := .bool x28) (by kernel_rfl) (Fn.arg (w_spec_l01All h15 x19 a10 l3.length (H33.rd 1 rfl) true _ _ hx24) (by simp only [(H33.len 1 rfl)]))) ?_
                refine QRun_b [.bool (!x28)] 6 _ (by kernel_rfl) (fun w => by kernel_rfl) ?_
                refine QRun_bool (!x28) x27 (by kernel_rfl) (fun w => by kernel_rfl) gx27 ?_
                exact QRun_done [12, 13, 127] (by kernel_rfl) (by kernel_rfl)
            exact QRun_done [12, 13, 127] (by kernel_rfl) (by kernel_rfl)
          refine Run_cond (b := x27) (by kernel_rfl) (fun hb8 => ?_) (fun hb8 => ?_)
          · have hF := (M.ite_some hF).1 hb8
            refine Run_seq ?_
            refine Run_reg 3 (by kernel_rfl) (L' := [(2, .slice none 0 0), (3, .slice none 0 0), (4, .int .i64 3)]) ?_ ?_
            · refine QRun_b [.slice none 0 0, .slice none 0 0, .int .i64 3] 0 _ (by kernel_rfl) (fun w => by kernel_rfl) ?_
              exact QRun_done [2, 3, 4] (by kernel_rfl) (by kernel_rfl)
            have hF := M.ret_some hF
            subst hF
            have H40 := H33.empty cd2
            have H41 := H40.empty cd2
            have H42 : Hold h h15 [own cd2 none 0 0 [], own cd2 none 0 0 []] := H41.pick [1, 0] (by kernel_rfl)
            exact Run_ret3 rfl (ResV_tmp (v := .slice none 0 0) (by kernel_rfl)) (ResV_tmp (v := .slice none 0 0) (by kernel_rfl)) (ResV_tmp (v := .int .i64 3) (by kernel_rfl)) ⟨none, 0, none, 0, rfl, H42⟩
          · have hF := (M.ite_some hF).2 hb8
            refine Run_skip ?_
            refine Run_seq ?_
            refine Run_reg 5 (by kernel_rfl) (L' := [(2, .slice a9 x18.length c8), (3, .slice a10 l3.length l3.length), (4, .int .i64 0)]) ?_ ?_
            · refine QRun_b [.slice a9 x18.length c8, .slice a10 l3.length l3.length, .slice a9 x18.length c8, .slice a10 l3.length l3.length, .int .i64 0] 0 _ (by kernel_rfl) (fun w => by kernel_rfl) ?_
              exact QRun_done [2, 3, 4] (by kernel_rfl) (by kernel_rfl)
            have hF := M.ret_some hF
            subst hF
            have H43 : Hold h h15 [own cd2 a10 l3.length l3.length x19, own cd2 a9 x18.length c8 x18] := H33.pick [1, 0] (by kernel_rfl)
            have H44 := H43.norm
            have H45 : Hold h h15 [own cd2 a9 x18.length c8 x18, own cd2 a10 x19.length l3.length x19] := H44.pick [1, 0] (by kernel_rfl)
            exact Run_ret3 rfl (ResV_tmp (v := .slice a9 x18.length c8) (by kernel_rfl)) (ResV_tmp (v := .slice a10 l3.length l3.length) (by kernel_rfl)) (ResV_tmp (v := .int .i64 0) (by kernel_rfl)) ⟨a9, c8, a10, l3.length, (by simp only [(H43.len 0 rfl)]), H45⟩
        · refine Run_block ?_
          have H46 : Hold h h13 [own cd2 a1 x2.1.length c1 x2.1, own cd2 a9 x18.length c8 x18, own cd2 a10 l3.length l3.length l3] := H31.pick [4, 1, 0] (by kernel_rfl)
          refine Run_keep [0, 5, 12, 13, 14] (L' := [(0, .slice aa_ a_.length ca_), (5, .slice a1 x2.1.length c1), (12, .slice a9 x18.length c8), (13, .slice a10 l3.length l3.length), (14, .int .i64 0)]) (by kernel_rfl) ?_
          refine Run_loop (fun m L' h' => ∃ (i3 : Int) (s4 : (List Int)), 0 ≤ i3 ∧ M.forN (a_.length : Int) _ _ n m i3 s4 = some x19 ∧ L' = [(0, .slice aa_ a_.length ca_), (5, .slice a1 x2.1.length c1), (12, .slice a9 x18.length c8), (13, .slice a10 l3.length l3.length), (14, .int .i64 i3)] ∧ Hold h h' [own cd2 a1 x2.1.length c1 x2.1, own cd2 a9 x18.length c8 x18, own cd2 a10 l3.length l3.length s4]) ((a_.length : Int) - 0 : Int).toNat ⟨0, l3, Int.le_refl _, gx19, rfl, H46⟩ ?_
          rintro my3 _ h14 ⟨i3, s4, hloy3', gx19, rfl, H32⟩
          refine Run_seq ?_
          refine Run_seq ?_
          refine Run_reg 4 (by kernel_rfl) (L' := [(0, .slice aa_ a_.length ca_), (5, .slice a1 x2.1.length c1), (12, .slice a9 x18.length c8), (13, .slice a10 l3.length l3.length), (14, .int .i64 i3), (96, .bool (decide (i3 < (a_.length : Int))))]) ?_ ?_
          · refine QRun_b [.int .i64 i3, .slice aa_ a_.length ca_, .int .i64 (a_.length : Int), .bool (decide (i3 < (a_.length : Int)))] 0 _ (by kernel_rfl) (fun w => by kernel_rfl) ?_
            exact QRun_done [0, 5, 12, 13, 14, 96] (by kernel_rfl) (by kernel_rfl)
          refine Run_cond (b := decide (i3 < (a_.length : Int))) (by kernel_rfl) (fun hb6 => ?_) (fun hb6 => ?_)
          · obtain ⟨my3, y3, rfl, hB3, hgoy3, houty3⟩ := M.for_go gx19 hb6
            have hlty3 := of_decide_eq_true hb6
            refine Run_skip ?_
            refine Run_seq ?_
            refine Run_block ?_
            obtain ⟨x20, hx17, hB3⟩ := M.bind_some hB3
            obtain ⟨hx17l, hx17u, hx17⟩ := M.idx_some hx17
            obtain ⟨x21, hx18, hB3⟩ := M.bind_some hB3
            obtain ⟨hx18l, hx18u, hx18⟩ := M.idx_some hx18
            obtain ⟨a11, c9, hc4, r4⟩ := ra_.row hx18
            obtain ⟨x22, hx19, hB3⟩ := M.bind_some hB3
            obtain ⟨hx19l, hx19u, hx19⟩ := M.idx_some hx19
            obtain ⟨x23, hx20, hB3⟩ := M.bind_some hB3
            obtain ⟨hx20l, hx20u, hx20⟩ := M.idx_some hx20
            obtain ⟨x24, hx21, hB3⟩ := M.bind_some hB3
            obtain ⟨hx21l, hx21u, hx21⟩ := M.idx_some hx21
            obtain ⟨x25, hx22, hB3⟩ := M.bind_some hB3
            obtain ⟨hx22l, hx22u, hx22⟩ := M.idx_some hx22
            refine Run_D (fun x => Hold h x [own cd2 a1 x2.1.length c1 x2.1, own cd2 a9 x18.length c8 x18, own cd2 a10 l3.length l3.length s4]) (fun x => Hold h x [own cd2 a1 x2.1.length c1 x2.1, own cd2 a9 x18.length c8 x18, own cd2 a10 l3.length l3.length s4]) mixed (by kernel_rfl) H32 Hold.stable (fun x Hy => (show Hold h x [own cd2 a1 x2.1.length c1 x2.1, own cd2 a9 x18.length c8 x18, own cd2 a10 l3.length l3.length s4] from Hy).pick [0, 1, 2] (by kernel_rfl)) ?_
            refine DR_b 19 [.slice a10 l3.length l3.length, .slice a1 x2.1.length c1, .int .i64 i3] 0 (by kernel_rfl) (by kernel_rfl) (by kernel_rfl) (fun w => by kernel_rfl) ?_
            refine DR_y 18 (i := 3) (.pointer (some (adr a1 (i3.toNat * 1)))) (by kernel_rfl) (by kernel_rfl) (by kernel_rfl) (fun hx Hx => (YE.of (Y_idx (t := 39) (e := 2) (sz := 1) (a := a1) (n := x2.1.length) (cap := c1) (kk := .i64) (i := i3) (by kernel_rfl) Try.underlying39 (by kernel_rfl) ((H32.rd 0 rfl).cell hx17).1 hx17l hx17u))) ?_
            refine DR_y 17 (i := 4) (.int .i64 x20) (by kernel_rfl) (by kernel_rfl) (by kernel_rfl) (fun hx Hx => (YE.of (Y_load1 (t := 2) (p := adr a1 (i3.toNat * 1)) (v := .int .i64 x20) (by kernel_rfl) (fun w => by kernel_rfl) (cd2_cell (Hx.rd 0 rfl) hx17)))) ?_
            refine DR_b 15 [.slice aa_ a_.length ca_, .int .i64 i3] 5 (by kernel_rfl) (by kernel_rfl) (by kernel_rfl) (fun w => by kernel_rfl) ?_
            refine DR_y 14 (i := 7) (.pointer (some (adr aa_ (i3.toNat * 1)))) (by kernel_rfl) (by kernel_rfl) (by kernel_rfl) (fun hx Hx => (YE.of (Y_idx (t := 37) (e := 39) (sz := 1) (a := aa_) (n := a_.length) (cap := ca_) (kk := .i64) (i := i3) (by kernel_rfl) Try.underlying37 (by kernel_rfl) ((ra_.at H32.ext).cell hx18).1 hx18l hx18u))) ?_
            refine DR_y 13 (i := 8) (.slice a11 x21.length c9) (by kernel_rfl) (by kernel_rfl) (by kernel_rfl) (fun hx Hx => (YE.of (Y_load1 (t := 39) (p := adr aa_ (i3.toNat * 1)) (v := .slice a11 x21.length c9) (by kernel_rfl) (fun w => by kernel_rfl) (cell_at Hx.ext hc4)))) ?_
            refine DR_b 11 [.slice a1 x2.1.length c1, .int .i64 i3] 9 (by kernel_rfl) (by kernel_rfl) (by kernel_rfl) (fun w => by kernel_rfl) ?_
            refine DR_y 10 (i := 11) (.pointer (some (adr a1 (i3.toNat * 1)))) (by kernel_rfl) (by kernel_rfl) (by kernel_rfl) (fun hx Hx => (YE.of (Y_idx (t := 39) (e := 2) (sz := 1) (a := a1) (n := x2.1.length) (cap := c1) (kk := .i64) (i := i3) (by kernel_rfl) Try.underlying39 (by kernel_rfl) ((H32.rd 0 rfl).cell hx19).1 hx19l hx19u))) ?_
            refine DR_y 9 (i := 12) (.int .i64 x22) (by kernel_rfl) (by kernel_rfl) (by kernel_rfl) (fun hx Hx => (YE.of (Y_load1 (t := 2) (p := adr a1 (i3.toNat * 1)) (v := .int .i64 x22) (by kernel_rfl) (fun w => by kernel_rfl) (cd2_cell (Hx.rd 0 rfl) hx19)))) ?_
            refine DR_y 8 (i := 13) (.pointer (some (adr a11 (x22.toNat * 1)))) (by kernel_rfl) (by kernel_rfl) (by kernel_rfl) (fun hx Hx => (YE.of (Y_idx (t := 39) (e := 2) (sz := 1) (a := a11) (n := x21.length) (cap := c9) (kk := .i64) (i := x22) (by kernel_rfl) Try.underlying39 (by kernel_rfl) ((r4.at H32.ext).cell hx20).1 hx20l hx20u))) ?_
            refine DR_y 7 (i := 14) (.int .i64 x23) (by kernel_rfl) (by kernel_rfl) (by kernel_rfl) (fun hx Hx => (YE.of (Y_load1 (t := 2) (p := adr a11 (x22.toNat * 1)) (v := .int .i64 x23) (by kernel_rfl) (fun w => by kernel_rfl) (cd2_cell (r4.at Hx.ext) hx20)))) ?_
            refine DR_b 5 [.slice a9 x18.length c8, .int .i64 i3] 15 (by kernel_rfl) (by kernel_rfl) (by kernel_rfl) (fun w => by kernel_rfl) ?_
            refine DR_y 4 (i := 17) (.pointer (some (adr a9 (i3.toNat * 1)))) (by kernel_rfl) (by kernel_rfl) (by kernel_rfl) (fun hx Hx => (YE.of (Y_idx (t := 39) (e := 2) (sz := 1) (a := a9) (n := x18.length) (cap := c8) (kk := .i64) (i := i3) (by kernel_rfl) Try.underlying39 (by kernel_rfl) ((H32.rd 1 rfl).cell hx21).1 hx21l hx21u))) ?_
            refine DR_y 3 (i := 18) (.int .i64 x24) (by kernel_rfl) (by kernel_rfl) (by kernel_rfl) (fun hx Hx => (YE.of (Y_load1 (t := 2) (p := adr a9 (i3.toNat * 1)) (v := .int .i64 x24) (by kernel_rfl) (fun w => by kernel_rfl) (cd2_cell (Hx.rd 1 rfl) hx21)))) ?_
            refine DR_b 2 [.int .i64 (w64 (x23 - x24))] 19 (by kernel_rfl) (by kernel_rfl) (by kernel_rfl) (fun w => by kernel_rfl) ?_
            refine DR_y 1 (i := 20) (.pointer (some (adr a10 (x20.toNat * 1)))) (by kernel_rfl) (by kernel_rfl) (by kernel_rfl) (fun hx Hx => (YE.of (Y_idx (t := 39) (e := 2) (sz := 1) (a := a10) (n := l3.length) (cap := l3.length) (kk := .i64) (i := x20) (by kernel_rfl) Try.underlying39 (by kernel_rfl) ((H32.rd 2 rfl).cell hx22).1 hx22l (by rw [← (H32.len 2 rfl)]; exact hx22u)))) ?_
            refine DR_tail (i := 21) (by kernel_rfl) (by kernel_rfl) (by kernel_rfl) (fun h16 H34 => ?_)
            have H35 : Hold h h16 [own cd2 a1 x2.1.length c1 x2.1, own cd2 a9 x18.length c8 x18, own cd2 a10 l3.length l3.length s4] := H34
            obtain ⟨l4, hu2, hB3⟩ := M.bind_some hB3
            have hu2 := M.upd_some hu2
            have H37 : Hold h h16 [own cd2 a10 l3.length l3.length s4, own cd2 a1 x2.1.length c1 x2.1, own cd2 a9 x18.length c8 x18] := H35.pick [2, 0, 1] (by kernel_rfl)
            refine Run_E (by kernel_rfl) ?_
            refine E_put (C := cd2) (t := 2) (sz := 1) (j := x20) (x := (w64 (x23 - x24))) (v := .int .i64 (w64 (x23 - x24))) H37 cd2_flat (by kernel_rfl) rfl (cd2_own _) (by kernel_rfl) hu2 (fun h17 H36 => ?_)
            refine Run_nil (by kernel_rfl) ?_
            refine Run_keep [0, 5, 12, 13, 14] (L' := [(0, .slice aa_ a_.length ca_), (5, .slice a1 x2.1.length c1), (12, .slice a9 x18.length c8), (13, .slice a10 l3.length l3.length), (14, .int .i64 i3)]) (by kernel_rfl) ?_
            refine Run_blk ?_
            refine Run_reg 3 (by kernel_rfl) (L' := [(0, .slice aa_ a_.length ca_), (5, .slice a1 x2.1.length c1), (12, .slice a9 x18.length c8), (13, .slice a10 l3.length l3.length), (14, .int .i64 (i3 + 1))]) ?_ ?_
            · refine QRun_b [.int .i64 i3] 0 _ (by kernel_rfl) (fun w => by kernel_rfl) ?_
              refine QRun_y (.int .i64 (i3 + 1)) (by kernel_rfl) (Y_eq (v := .int .i64 (w64 (i3 + 1))) (Y_pure (fun w => by kernel_rfl)) (by rw [w64_eq _ (by omega)])) ?_
              refine QRun_b [.int .i64 (i3 + 1)] 2 _ (by kernel_rfl) (fun w => by kernel_rfl) ?_
              exact QRun_done [0, 5, 12, 13, 14] (by kernel_rfl) (by kernel_rfl)
            have H38 : Hold h h17 [own cd2 a1 x2.1.length c1 x2.1, own cd2 a9 x18.length c8 x18, own cd2 a10 l3.length l3.length l4] := H36.pick [1, 2, 0] (by kernel_rfl)
            have hB3 := M.ret_some hB3
            have gx19 := hgoy3 _ hB3.symm
            exact Run_again [0, 5, 12, 13, 14] (by kernel_rfl) my3 (Nat.lt_succ_self _) ⟨i3 + 1, l4, by omega, gx19, rfl, H38⟩
          · have gx19 := M.for_end gx19 hb6
            subst gx19
            refine Run_exit (k' := _) rfl ?_
            have H39 : Hold h h14 [own cd2 a9 x18.length c8 x18, own cd2 a10 l3.length l3.length s4] := H32.pick [1, 2] (by kernel_rfl)
            exact Run_fall [12, 13] (by kernel_rfl) ⟨rfl, H39⟩
      · refine Run_block ?_
        have H47 : Hold h h2 [own cd2 a1 x2.1.length c1 x2.1, own cd39 a2 x3.length c2 x3] := H10.pick [1, 0] (by kernel_rfl)
        refine Run_keep [0, 5, 7, 8] (L' := [(0, .slice aa_ a_.length ca_), (5, .slice a1 x2.1.length c1), (7, .slice a2 x3.length c2), (8, .int .i64 0)]) (by kernel_rfl) ?_
        refine Run_loop (fun m L' h' => ∃ (i1 : Int) (s1 : (List (List Int))), 0 ≤ i1 ∧ M.forN (a_.length : Int) _ _ n m i1 s1 = some x4 ∧ L' = [(0, .slice aa_ a_.length ca_), (5, .slice a1 x2.1.length c1), (7, .slice a2 x3.length c2), (8, .int .i64 i1)] ∧ Hold h h' [own cd2 a1 x2.1.length c1 x2.1, own cd39 a2 x3.length c2 s1]) ((a_.length : Int) - 0 : Int).toNat ⟨0, x3, Int.le_refl _, gx4, rfl, H47⟩ ?_
        rintro my1 _ h3 ⟨i1, s1, hloy1', gx4, rfl, H11⟩
        refine Run_seq ?_
        refine Run_seq ?_
        refine Run_reg 4 (by kernel_rfl) (L' := [(0, .slice aa_ a_.length ca_), (5, .slice a1 x2.1.length c1), (7, .slice a2 x3.length c2), (8, .int .i64 i1), (33, .bool (decide (i1 < (a_.length : Int))))]) ?_ ?_
        · refine QRun_b [.int .i64 i1, .slice aa_ a_.length ca_, .int .i64 (a_.length : Int), .bool (decide (i1 < (a_.length : Int)))] 0 _ (by kernel_rfl) (fun w => by kernel_rfl) ?_
          exact QRun_done [0, 5, 7, 8, 33] (by kernel_rfl) (by kernel_rfl)
        refine Run_cond (b := decide (i1 < (a_.length : Int))) (by kernel_rfl) (fun hb3 => ?_) (fun hb3 => ?_)
        · obtain ⟨my1, y1, rfl, hB1, hgoy1, houty1⟩ := M.for_go gx4 hb3
          have hlty1 := of_decide_eq_true hb3
          refine Run_skip ?_
          refine Run_seq ?_
          refine Run_block ?_
          refine Run_seq ?_
          refine Run_reg 1 (by kernel_rfl) (L' := [(0, .slice aa_ a_.length ca_), (5, .slice a1 x2.1.length c1), (7, .slice a2 x3.length c2), (8, .int .i64 i1), (9, .int .i64 0)]) ?_ ?_
          · refine QRun_b [.int .i64 0] 0 _ (by kernel_rfl) (fun w => by kernel_rfl) ?_
            exact QRun_done [0, 5, 7, 8, 9] (by kernel_rfl) (by kernel_rfl)
          obtain ⟨x5, gx5, hB1⟩ := M.bind_some hB1
          obtain ⟨hloy2, hhiy2, gx5⟩ := M.for_start gx5
          refine Run_join (fun L' h' => L' = [(0, .slice aa_ a_.length ca_), (5, .slice a1 x2.1.length c1), (7, .slice a2 x3.length c2), (8, .int .i64 i1)] ∧ Hold h h' [own cd2 a1 x2.1.length c1 x2.1, own cd39 a2 x3.length c2 x5]) ?_ ?_
          · rintro _ h6 ⟨rfl, H14⟩
            refine Run_blk ?_
            refine Run_reg 3 (by kernel_rfl) (L' := [(0, .slice aa_ a_.length ca_), (5, .slice a1 x2.1.length c1), (7, .slice a2 x3.length c2), (8, .int .i64 (i1 + 1))]) ?_ ?_
            · refine QRun_b [.int .i64 i1] 0 _ (by kernel_rfl) (fun w => by kernel_rfl) ?_
              refine QRun_y (.int .i64 (i1 + 1)) (by kernel_rfl) (Y_eq (v := .int .i64 (w64 (i1 + 1))) (Y_pure (fun w => by kernel_rfl)) (by rw [w64_eq _ (by omega)])) ?_
              refine QRun_b [.int .i64 (i1 + 1)] 2 _ (by kernel_rfl) (fun w => by kernel_rfl) ?_
              exact QRun_done [0, 5, 7, 8] (by kernel_rfl) (by kernel_rfl)
            have hB1 := M.ret_some hB1
            have gx4 := hgoy1 _ hB1.symm
            exact Run_again [0, 5, 7, 8] (by kernel_rfl) my1 (Nat.lt_succ_self _) ⟨i1 + 1, x5, by omega, gx4, rfl, H14⟩
          · refine Run_block ?_
            refine Run_keep [0, 5, 7, 8, 9] (L' := [(0, .slice aa_ a_.length ca_), (5, .slice a1 x2.1.length c1), (7, .slice a2 x3.length c2), (8, .int .i64 i1), (9, .int .i64 0)]) (by kernel_rfl) ?_
            refine Run_loop (fun m L' h' => ∃ (i2 : Int) (s2 : (List (List Int))), 0 ≤ i2 ∧ M.forN (a_.length : Int) _ _ n m i2 s2 = some x5 ∧ L' = [(0, .slice aa_ a_.length ca_), (5, .slice a1 x2.1.length c1), (7, .slice a2 x3.length c2), (8, .int .i64 i1), (9, .int .i64 i2)] ∧ Hold h h' [own cd2 a1 x2.1.length c1 x2.1, own cd39 a2 x3.length c2 s2]) ((a_.length : Int) - 0 : Int).toNat ⟨0, s1, Int.le_refl _, gx5, rfl, H11⟩ ?_
            rintro my2 _ h5 ⟨i2, s2, hloy2', gx5, rfl, H13⟩
            refine Run_seq ?_
            refine Run_seq ?_
            refine Run_reg 4 (by kernel_rfl) (L' := [(0, .slice aa_ a_.length ca_), (5, .slice a1 x2.1.length c1), (7, .slice a2 x3.length c2), (8, .int .i64 i1), (9, .int .i64 i2), (39, .bool (decide (i2 < (a_.length : Int))))]) ?_ ?_
            · refine QRun_b [.int .i64 i2, .slice aa_ a_.length ca_, .int .i64 (a_.length : Int), .bool (decide (i2 < (a_.length : Int)))] 0 _ (by kernel_rfl) (fun w => by kernel_rfl) ?_
              exact QRun_done [0, 5, 7, 8, 9, 39] (by kernel_rfl) (by kernel_rfl)
            refine Run_cond (b := decide (i2 < (a_.length : Int))) (by kernel_rfl) (fun hb4 => ?_) (fun hb4 => ?_)
            · obtain ⟨my2, y2, rfl, hB2, hgoy2, houty2⟩ := M.for_go gx5 hb4
              have hlty2 := of_decide_eq_true hb4
              refine Run_skip ?_
              refine Run_seq ?_
              refine Run_block ?_
              refine Run_seq ?_
              obtain ⟨x6, hx4, hB2⟩ := M.bind_some hB2
              obtain ⟨hx4l, hx4u, hx4⟩ := M.idx_some hx4
              obtain ⟨a3, c3, hc1, r1⟩ := ra_.row hx4
              obtain ⟨x7, hx5, hB2⟩ := M.bind_some hB2
              obtain ⟨hx5l, hx5u, hx5⟩ := M.idx_some hx5
              obtain ⟨x8, hx6, hB2⟩ := M.bind_some hB2
              obtain ⟨hx6l, hx6u, hx6⟩ := M.idx_some hx6
              refine Run_draw 11 mixed (by kernel_rfl) (by kernel_rfl) (L' := [(0, .slice aa_ a_.length ca_), (5, .slice a1 x2.1.length c1), (7, .slice a2 x3.length c2), (8, .int .i64 i1), (9, .int .i64 i2), (52, .bool (x8 != (-1000000000000000)))]) ?_ ?_
              · refine QRun_b [.slice aa_ a_.length ca_, .int .i64 i1] 0 _ (by kernel_rfl) (fun w => by kernel_rfl) ?_
                refine QRun_y (.pointer (some (adr aa_ (i1.toNat * 1)))) (by kernel_rfl) (Y_idx (t := 37) (e := 39) (sz := 1) (a := aa_) (n := a_.length) (cap := ca_) (kk := .i64) (i := i1) (by kernel_rfl) Try.underlying37 (by kernel_rfl) ((ra_.at H13.ext).cell hx4).1 hx4l hx4u) ?_
                refine QRun_y (.slice a3 x6.length c3) (by kernel_rfl) (Y_load1 (t := 39) (p := adr aa_ (i1.toNat * 1)) (v := .slice a3 x6.length c3) (by kernel_rfl) (fun w => by kernel_rfl) (cell_at H13.ext hc1)) ?_
                refine QRun_b [.slice a1 x2.1.length c1, .int .i64 i2] 4 _ (by kernel_rfl) (fun w => by kernel_rfl) ?_
                refine QRun_y (.pointer (some (adr a1 (i2.toNat * 1)))) (by kernel_rfl) (Y_idx (t := 39) (e := 2) (sz := 1) (a := a1) (n := x2.1.length) (cap := c1) (kk := .i64) (i := i2) (by kernel_rfl) Try.underlying39 (by kernel_rfl) ((H13.rd 0 rfl).cell hx5).1 hx5l hx5u) ?_
                refine QRun_y (.int .i64 x7) (by kernel_rfl) (Y_load1 (t := 2) (p := adr a1 (i2.toNat * 1)) (v := .int .i64 x7) (by kernel_rfl) (fun w => by kernel_rfl) (cd2_cell (H13.rd 0 rfl) hx5)) ?_
                refine QRun_y (.pointer (some (adr a3 (x7.toNat * 1)))) (by kernel_rfl) (Y_idx (t := 39) (e := 2) (sz := 1) (a := a3) (n := x6.length) (cap := c3) (kk := .i64) (i := x7) (by kernel_rfl) Try.underlying39 (by kernel_rfl) ((r1.at H13.ext).cell hx6).1 hx6l hx6u) ?_
                refine QRun_y (.int .i64 x8) (by kernel_rfl) (Y_load1 (t := 2) (p := adr a3 (x7.toNat * 1)) (v := .int .i64 x8) (by kernel_rfl) (fun w => by kernel_rfl) (cd2_cell (r1.at H13.ext) hx6)) ?_
                refine QRun_b [.bool (x8 != (-1000000000000000))] 10 _ (by kernel_rfl) (fun w => by kernel_rfl) ?_
                exact QRun_done [0, 5, 7, 8, 9, 52] (by kernel_rfl) (by kernel_rfl)
              obtain ⟨s3, gs3, hB2⟩ := M.bind_some hB2
              refine Run_join (fun L' h' => L' = [(0, .slice aa_ a_.length ca_), (5, .slice a1 x2.1.length c1), (7, .slice a2 x3.length c2), (8, .int .i64 i1), (9, .int .i64 i2)] ∧ Hold h h' [own cd2 a1 x2.1.length c1 x2.1, own cd39 a2 x3.length c2 s3]) ?_ ?_
              · rintro _ h9 ⟨rfl, H23⟩
                refine Run_blk ?_
                refine Run_reg 3 (by kernel_rfl) (L' := [(0, .slice aa_ a_.length ca_), (5, .slice a1 x2.1.length c1), (7, .slice a2 x3.length c2), (8, .int .i64 i1), (9, .int .i64 (i2 + 1))]) ?_ ?_
                · refine QRun_b [.int .i64 i2] 0 _ (by kernel_rfl) (fun w => by kernel_rfl) ?_
                  refine QRun_y (.int .i64 (i2 + 1)) (by kernel_rfl) (Y_eq (v := .int .i64 (w64 (i2 + 1))) (Y_pure (fun w => by kernel_rfl)) (by rw [w64_eq _ (by omega)])) ?_
                  refine QRun_b [.int .i64 (i2 + 1)] 2 _ (by kernel_rfl) (fun w => by kernel_rfl) ?_
                  exact QRun_done [0, 5, 7, 8, 9] (by kernel_rfl) (by kernel_rfl)
                have hB2 := M.ret_some hB2
                have gx5 := hgoy2 _ hB2.symm
                exact Run_again [0, 5, 7, 8, 9] (by kernel_rfl) my2 (Nat.lt_succ_self _) ⟨i2 + 1, s3, by omega, gx5, rfl, H23⟩
              · refine Run_cond (b := x8 != (-1000000000000000)) (by kernel_rfl) (fun hb5 => ?_) (fun hb5 => ?_)
                · have gs3 := (M.ite_some gs3).1 hb5
                  obtain ⟨x9, hx7, gs3⟩ := M.bind_some gs3
                  obtain ⟨hx7l, hx7u, hx7⟩ := M.idx_some hx7
                  have H15 : Hold h h5 [own cd39 a2 x3.length c2 s2, own cd2 a1 x2.1.length c1 x2.1] := H13.pick [1, 0] (by kernel_rfl)
                  have H16 := H15.toRows
                  obtain ⟨a4, c4, H17⟩ := H16.pinRow hx7
                  have H18 : Hold h h5 [own cd2 a1 x2.1.length c1 x2.1, rowsP cd2 39 a2 x3.length c2 s2 [(i1.toNat, a4, x9.length, c4, x9)]] := H17.pick [1, 0] (by kernel_rfl)
                  obtain ⟨x10, hx8, gs3⟩ := M.bind_some gs3
                  obtain ⟨hx8l, hx8u, hx8⟩ := M.idx_some hx8
                  obtain ⟨a5, c5, hc2, r2⟩ := ra_.row hx8
                  obtain ⟨x11, hx9, gs3⟩ := M.bind_some gs3
                  obtain ⟨hx9l, hx9u, hx9⟩ := M.idx_some hx9
                  obtain ⟨x12, hx10, gs3⟩ := M.bind_some gs3
                  obtain ⟨hx10l, hx10u, hx10⟩ := M.idx_some hx10
                  obtain ⟨x13, hx11, gs3⟩ := M.bind_some gs3
                  obtain ⟨hx11l, hx11u, hx11⟩ := M.idx_some hx11
                  obtain ⟨a6, c6, hc3, r3⟩ := ra_.row hx11
                  obtain ⟨x14, hx12, gs3⟩ := M.bind_some gs3
                  obtain ⟨hx12l, hx12u, hx12⟩ := M.idx_some hx12
                  obtain ⟨x15, hx13, gs3⟩ := M.bind_some gs3
                  obtain ⟨hx13l, hx13u, hx13⟩ := M.idx_some hx13
                  obtain ⟨x16, hx14, gs3⟩ := M.bind_some gs3
                  obtain ⟨hx14l, hx14u, hx14⟩ := M.idx_some hx14
                  refine Run_D (fun x => Hold h x [own cd2 a1 x2.1.length c1 x2.1, rowsP cd2 39 a2 x3.length c2 s2 [(i1.toNat, a4, x9.length, c4, x9)]]) (fun x => Hold h x [own cd2 a1 x2.1.length c1 x2.1, rowsP cd2 39 a2 x3.length c2 s2 [(i1.toNat, a4, x9.length, c4, x9)]]) mixed (by kernel_rfl) H18 Hold.stable (fun x Hy => (show Hold h x [own cd2 a1 x2.1.length c1 x2.1, rowsP cd2 39 a2 x3.length c2 s2 [(i1.toNat, a4, x9.length, c4, x9)]] from Hy).pick [0, 1] (by kernel_rfl)) ?_
                  refine DR_b 26 [.slice a2 x3.length c2, .int .i64 i1] 0 (by kernel_rfl) (by kernel_rfl) (by kernel_rfl) (fun w => by kernel_rfl) ?_
                  refine DR_y 25 (i := 2) (.pointer (some (adr a2 (i1.toNat * 1)))) (by kernel_rfl) (by kernel_rfl) (by kernel_rfl) (fun hx Hx => (YE.of (Y_idx (t := 37) (e := 39) (sz := 1) (a := a2) (n := x3.length) (cap := c2) (kk := .i64) (i := i1) (by kernel_rfl) Try.underlying37 (by kernel_rfl) ((H13.rd 1 rfl).cell hx7).1 hx7l (by rw [← (H13.len 1 rfl)]; exact hx7u)))) ?_
                  refine DR_y 24 (i := 3) (.slice a4 x9.length c4) (by kernel_rfl) (by kernel_rfl) (by kernel_rfl) (fun hx Hx => (YE.of (Y_load1 (t := 39) (p := adr a2 (i1.toNat * 1)) (v := .slice a4 x9.length c4) (by kernel_rfl) (fun w => by kernel_rfl) (Hx.cellPin 1 rfl 0 rfl)))) ?_
                  refine DR_b 21 [.int .i64 i2, .slice aa_ a_.length ca_, .int .i64 i1] 4 (by kernel_rfl) (by kernel_rfl) (by kernel_rfl) (fun w => by kernel_rfl) ?_
                  refine DR_y 20 (i := 7) (.pointer (some (adr aa_ (i1.toNat * 1)))) (by kernel_rfl) (by kernel_rfl) (by kernel_rfl) (fun hx Hx => (YE.of (Y_idx (t := 37) (e := 39) (sz := 1) (a := aa_) (n := a_.length) (cap := ca_) (kk := .i64) (i := i1) (by kernel_rfl) Try.underlying37 (by kernel_rfl) ((ra_.at H18.ext).cell hx8).1 hx8l hx8u))) ?_
                  refine DR_y 19 (i := 8) (.slice a5 x10.length c5) (by kernel_rfl) (by kernel_rfl) (by kernel_rfl) (fun hx Hx => (YE.of (Y_load1 (t := 39) (p := adr aa_ (i1.toNat * 1)) (v := .slice a5 x10.length c5) (by kernel_rfl) (fun w => by kernel_rfl) (cell_at Hx.ext hc2)))) ?_
                  refine DR_b 17 [.slice a1 x2.1.length c1, .int .i64 i2] 9 (by kernel_rfl) (by kernel_rfl) (by kernel_rfl) (fun w => by kernel_rfl) ?_
                  refine DR_y 16 (i := 11) (.pointer (some (adr a1 (i2.toNat * 1)))) (by kernel_rfl) (by kernel_rfl) (by kernel_rfl) (fun hx Hx => (YE.of (Y_idx (t := 39) (e := 2) (sz := 1) (a := a1) (n := x2.1.length) (cap := c1) (kk := .i64) (i := i2) (by kernel_rfl) Try.underlying39 (by kernel_rfl) ((H18.rd 0 rfl).cell hx9).1 hx9l hx9u))) ?_
                  refine DR_y 15 (i := 12) (.int .i64 x11) (by kernel_rfl) (by kernel_rfl) (by kernel_rfl) (fun hx Hx => (YE.of (Y_load1 (t := 2) (p := adr a1 (i2.toNat * 1)) (v := .int .i64 x11) (by kernel_rfl) (fun w => by kernel_rfl) (cd2_cell (Hx.rd 0 rfl) hx9)))) ?_
                  refine DR_y 14 (i := 13) (.pointer (some (adr a5 (x11.toNat * 1)))) (by kernel_rfl) (by kernel_rfl) (by kernel_rfl) (fun hx Hx => (YE.of (Y_idx (t := 39) (e := 2) (sz := 1) (a := a5) (n := x10.length) (cap := c5) (kk := .i64) (i := x11) (by kernel_rfl) Try.underlying39 (by kernel_rfl) ((r2.at H18.ext).cell hx10).1 hx10l hx10u))) ?_
                  refine DR_y 13 (i := 14) (.int .i64 x12) (by kernel_rfl) (by kernel_rfl) (by kernel_rfl) (fun hx Hx => (YE.of (Y_load1 (t := 2) (p := adr a5 (x11.toNat * 1)) (v := .int .i64 x12) (by kernel_rfl) (fun w => by kernel_rfl) (cd2_cell (r2.at Hx.ext) hx10)))) ?_
                  refine DR_b 11 [.slice aa_ a_.length ca_, .int .i64 i2] 15 (by kernel_rfl) (by kernel_rfl) (by kernel_rfl) (fun w => by kernel_rfl) ?_
                  refine DR_y 10 (i := 17) (.pointer (some (adr aa_ (i2.toNat * 1)))) (by kernel_rfl) (by kernel_rfl) (by kernel_rfl) (fun hx Hx => (YE.of (Y_idx (t := 37) (e := 39) (sz := 1) (a := aa_) (n := a_.length) (cap := ca_) (kk := .i64) (i := i2) (by kernel_rfl) Try.underlying37 (by kernel_rfl) ((ra_.at H18.ext).cell hx11).1 hx11l hx11u))) ?_
                  refine DR_y 9 (i := 18) (.slice a6 x13.length c6) (by kernel_rfl) (by kernel_rfl) (by kernel_rfl) (fun hx Hx => (YE.of (Y_load1 (t := 39) (p := adr aa_ (i2.toNat * 1)) (v := .slice a6 x13.length c6) (by kernel_rfl) (fun w => by kernel_rfl) (cell_at Hx.ext hc3)))) ?_
                  refine DR_b 7 [.slice a1 x2.1.length c1, .int .i64 i2] 19 (by kernel_rfl) (by kernel_rfl) (by kernel_rfl) (fun w => by kernel_rfl) ?_
                  refine DR_y 6 (i := 21) (.pointer (some (adr a1 (i2.toNat * 1)))) (by kernel_rfl) (by kernel_rfl) (by kernel_rfl) (fun hx Hx => (YE.of (Y_idx (t := 39) (e := 2) (sz := 1) (a := a1) (n := x2.1.length) (cap := c1) (kk := .i64) (i := i2) (by kernel_rfl) Try.underlying39 (by kernel_rfl) ((H18.rd 0 rfl).cell hx12).1 hx12l hx12u))) ?_
                  refine DR_y 5 (i := 22) (.int .i64 x14) (by kernel_rfl) (by kernel_rfl) (by kernel_rfl) (fun hx Hx => (YE.of (Y_load1 (t := 2) (p := adr a1 (i2.toNat * 1)) (v := .int .i64 x14) (by kernel_rfl) (fun w => by kernel_rfl) (cd2_cell (Hx.rd 0 rfl) hx12)))) ?_
                  refine DR_y 4 (i := 23) (.pointer (some (adr a6 (x14.toNat * 1)))) (by kernel_rfl) (by kernel_rfl) (by kernel_rfl) (fun hx Hx => (YE.of (Y_idx (t := 39) (e := 2) (sz := 1) (a := a6) (n := x13.length) (cap := c6) (kk := .i64) (i := x14) (by kernel_rfl) Try.underlying39 (by kernel_rfl) ((r3.at H18.ext).cell hx13).1 hx13l hx13u))) ?_
                  refine DR_y 3 (i := 24) (.int .i64 x15) (by kernel_rfl) (by kernel_rfl) (by kernel_rfl) (fun hx Hx => (YE.of (Y_load1 (t := 2) (p := adr a6 (x14.toNat * 1)) (v := .int .i64 x15) (by kernel_rfl) (fun w => by kernel_rfl) (cd2_cell (r3.at Hx.ext) hx13)))) ?_
                  refine DR_b 2 [.int .i64 (w64 (x12 - x15))] 25 (by kernel_rfl) (by kernel_rfl) (by kernel_rfl) (fun w => by kernel_rfl) ?_
                  refine DR_y 1 (i := 26) (.pointer (some (adr a4 (i2.toNat * 1)))) (by kernel_rfl) (by kernel_rfl) (by kernel_rfl) (fun hx Hx => (YE.of (Y_idx (t := 39) (e := 2) (sz := 1) (a := a4) (n := x9.length) (cap := c4) (kk := .i64) (i := i2) (by kernel_rfl) Try.underlying39 (by kernel_rfl) ((H18.rdPin 1 rfl 0 rfl).cell hx14).1 hx14l hx14u))) ?_
                  refine DR_tail (i := 27) (by kernel_rfl) (by kernel_rfl) (by kernel_rfl) (fun h7 H19 => ?_)
                  have H20 : Hold h h7 [own cd2 a1 x2.1.length c1 x2.1, rowsP cd2 39 a2 x3.length c2 s2 [(i1.toNat, a4, x9.length, c4, x9)]] := H19
                  obtain ⟨l1, hu1, gs3⟩ := M.bind_some gs3
                  have hu1 := M.upd_some hu1
                  have H22 : Hold h h7 [rowsP cd2 39 a2 x3.length c2 s2 [(i1.toNat, a4, x9.length, c4, x9)], own cd2 a1 x2.1.length c1 x2.1] := H20.pick [1, 0] (by kernel_rfl)
                  refine Run_E (by kernel_rfl) ?_
                  refine E_put2 (C := cd2) (t := 2) (sz := 1) (j := i2) (x := (w64 (x12 - x15))) (v := .int .i64 (w64 (x12 - x15))) (m2 := s2.set i1.toNat l1) H22 cd2_flat 0 rfl (by kernel_rfl) rfl (cd2_own _) (by kernel_rfl) hu1 rfl (fun h8 H21 => ?_)
                  refine Run_nil (by kernel_rfl) ?_
                  refine Run_keep [0, 5, 7, 8, 9] (L' := [(0, .slice aa_ a_.length ca_), (5, .slice a1 x2.1.length c1), (7, .slice a2 x3.length c2), (8, .int .i64 i1), (9, .int .i64 i2)]) (by kernel_rfl) ?_
                  have H24 := H21.ofRows
                  have H25 : Hold h h8 [own cd2 a1 x2.1.length c1 x2.1, own cd39 a2 x3.length c2 (s2.set i1.toNat l1)] := H24.pick [1, 0] (by kernel_rfl)
                  have gs3 := M.ret_some gs3
                  subst gs3
                  exact Run_fall [0, 5, 7, 8, 9] (by kernel_rfl) ⟨rfl, H25⟩
                · have gs3 := (M.ite_some gs3).2 hb5
                  refine Run_skip ?_
                  have gs3 := M.ret_some gs3
                  subst gs3
                  exact Run_fall [0, 5, 7, 8, 9] (by kernel_rfl) ⟨rfl, H13⟩
            · have gx5 := M.for_end gx5 hb4
              subst gx5
              refine Run_exit (k' := _) rfl ?_
              exact Run_fall [0, 5, 7, 8] (by kernel_rfl) ⟨rfl, H13⟩
        · have gx4 := M.for_end gx4 hb3
          subst gx4
          refine Run_exit (k' := _) rfl ?_
          exact Run_fall [0, 5, 7] (by kernel_rfl) ⟨rfl, H11⟩

set_option maxRecDepth 100000 in
set_option maxHeartbeats 4000000 in
theorem w_spec_l02DrawVector (h hE : Heap) (it : Item) (s_ : TL01source) (bs_ : Nat) (as_code : Option Addr) (cs_code : Nat) (rs_code : Rd cd5 h (Lt h) as_code cs_code s_.code) (n_ : Int) (HM : Hold h hE [box bs_ 155 [.slice as_code s_.code.length cs_code, .int .i64 s_.at_, .int .i64 s_.seed], it]) (n : Nat) (r : (List Int) × TL01source) (hF : spec_l02DrawVector s_ n_ n = some r) :
    Fn Try.prog 127 #[.pointer (some ⟨bs_, 0, none⟩), .int .i64 n_] hE fun v h' => ∃ (a0 : Option Addr) (c0 : Nat), v = .slice a0 r.1.length c0 ∧ Hold h h' [own cd2 a0 r.1.length c0 r.1, box bs_ 155 [.slice as_code s_.code.length cs_code, .int .i64 r.2.at_, .int .i64 r.2.seed], it] := by
  unfold spec_l02DrawVector at hF
  refine Fn_enter (args := [.pointer (some ⟨bs_, 0, none⟩), .int .i64 n_]) Try.func127 rfl (by kernel_rfl) (by kernel_rfl) (fun w0 _ => ?_)
  refine Run_seq ?_
  refine Run_reg 1 (by kernel_rfl) (L' := [(0, .pointer (some ⟨bs_, 0, none⟩)), (1, .int .i64 n_)]) ?_ ?_
  · refine QRun_b [.slice none 0 0] 0 _ (by kernel_rfl) (fun w => by kernel_rfl) ?_
    exact QRun_done [0, 1] (by kernel_rfl) (by kernel_rfl)
  refine Run_seq ?_
  refine Run_ops ?_
  refine Run_E (by kernel_rfl) ?_
  refine E_lit (C := cd2) (n := 0) (l := ([] : List Int)) (cs := []) HM (fun w => by kernel_rfl) (Enc.nil _ _) rfl (by decide) (fun a1 h1 H1 => ?_)
  refine Run_b [.slice a1 0 0] 1 _ (by kernel_rfl) (fun w => by kernel_rfl) ?_
  refine Run_nil (by kernel_rfl) ?_
  refine Run_keep [0, 1, 5] (L' := [(0, .pointer (some ⟨bs_, 0, none⟩)), (1, .int .i64 n_), (5, .slice a1 0 0)]) (by kernel_rfl) ?_
  refine Run_seq ?_
  obtain ⟨x1, gx1, hF⟩ := M.bind_some hF
  refine Run_join (fun L' h' => ∃ (a3 : Option Addr) (c2 : Nat), L' = [(0, .pointer (some ⟨bs_, 0, none⟩)), (5, .slice a3 x1.2.2.2.length c2)] ∧ Hold h h' [box bs_ 155 [.slice as_code s_.code.length cs_code, .int .i64 x1.1, .int .i64 x1.2.1], own cd2 a3 x1.2.2.2.length c2 x1.2.2.2, it]) ?_ ?_
  · rintro _ h3 ⟨a3, c2, rfl, H3⟩
    refine Run_seq ?_
    refine Run_seq ?_
    refine Run_ops ?_
    refine Run_b [.pointer (some ⟨bs_, 0, none⟩)] 0 _ (by kernel_rfl) (fun w => by kernel_rfl) ?_
    obtain ⟨x5, hx4, hF⟩ := M.bind_some hF
    have H25 : Hold h h3 [box bs_ 155 [.slice as_code s_.code.length cs_code, .int .i64 x1.1, .int .i64 x1.2.1], bun [own cd2 a3 x1.2.2.2.length c2 x1.2.2.2, it]] := Hold.bundle (S := [box bs_ 155 [.slice as_code s_.code.length cs_code, .int .i64 x1.1, .int .i64 x1.2.1]]) (R := [own cd2 a3 x1.2.2.2.length c2 x1.2.2.2, it]) H3
    refine Run_E (by kernel_rfl) ?_
    refine E_call (f := 106) (args := #[.pointer (some ⟨bs_, 0, none⟩), .int .i64 60]) (w_spec_l01Next h h3 _ (⟨s_.code, x1.1, x1.2.1⟩ : TL01source) bs_ as_code cs_code rs_code 60 H25 _ _ hx4) (by kernel_rfl) (fun v3 h10 hp3 => ?_)
    obtain ⟨rfl, H26⟩ := hp3
    have H27 : Hold h h10 [box bs_ 155 [.slice as_code s_.code.length cs_code, .int .i64 x5.2.at_, .int .i64 x5.2.seed], own cd2 a3 x1.2.2.2.length c2 x1.2.2.2, it] := Hold.unbundle (S := [box bs_ 155 [.slice as_code s_.code.length cs_code, .int .i64 x5.2.at_, .int .i64 x5.2.seed]]) (R := [own cd2 a3 x1.2.2.2.length c2 x1.2.2.2, it]) H26 (Hold.tailBase (S := [box bs_ 155 [.slice as_code s_.code.length cs_code, .int .i64 x1.1, .int .i64 x1.2.1]]) (R := [own cd2 a3 x1.2.2.2.length c2 x1.2.2.2, it]) H3)
    refine Run_nil (by kernel_rfl) ?_
    refine Run_keep [0, 5, 26] (L' := [(0, .pointer (some ⟨bs_, 0, none⟩)), (5, .slice a3 x1.2.2.2.length c2), (26, .int .i64 x5.1)]) (by kernel_rfl) ?_
    refine Run_block ?_
    refine Run_seq ?_
    refine Run_reg 2 (by kernel_rfl) (L' := [(0, .pointer (some ⟨bs_, 0, none⟩)), (5, .slice a3 x1.2.2.2.length c2), (26, .int .i64 x5.1), (27, .bool (x5.1 == 0))]) ?_ ?_
    · refine QRun_b [.bool (x5.1 == 0), .bool (x5.1 == 0)] 0 _ (by kernel_rfl) (fun w => by kernel_rfl) ?_
      exact QRun_done [0, 5, 26, 27] (by kernel_rfl) (by kernel_rfl)
    refine Run_cond (b := x5.1 == 0) (by kernel_rfl) (fun hb3 => ?_) (fun hb3 => ?_)
    · have hF := (M.ite_some hF).1 hb3
      refine Run_seq ?_
      refine Run_ops ?_
      refine Run_b [.slice a3 x1.2.2.2.length c2, .pointer (some ⟨bs_, 0, none⟩)] 0 _ (by kernel_rfl) (fun w => by kernel_rfl) ?_
      obtain ⟨x6, hx5, hF⟩ := M.bind_some hF
      have H28 : Hold h h10 [box bs_ 155 [.slice as_code s_.code.length cs_code, .int .i64 x5.2.at_, .int .i64 x5.2.seed], bun [own cd2 a3 x1.2.2.2.length c2 x1.2.2.2, it]] := Hold.bundle (S := [box bs_ 155 [.slice as_code s_.code.length cs_code, .int .i64 x5.2.at_, .int .i64 x5.2.seed]]) (R := [own cd2 a3 x1.2.2.2.length c2 x1.2.2.2, it]) H27
      refine Run_E (by kernel_rfl) ?_
      refine E_call (f := 164) (args := #[.pointer (some ⟨bs_, 0, none⟩)]) (w_spec_l01DrawValue h h10 _ (⟨s_.code, x5.2.at_, x5.2.seed⟩ : TL01source) bs_ as_code cs_code rs_code H28 _ _ hx5) (by kernel_rfl) (fun v4 h11 hp4 => ?_)
      obtain ⟨rfl, H29⟩ := hp4
      have H30 : Hold h h11 [box bs_ 155 [.slice as_code s_.code.length cs_code, .int .i64 x6.2.at_, .int .i64 x6.2.seed], own cd2 a3 x1.2.2.2.length c2 x1.2.2.2, it] := Hold.unbundle (S := [box bs_ 155 [.slice as_code s_.code.length cs_code, .int .i64 x6.2.at_, .int .i64 x6.2.seed]]) (R := [own cd2 a3 x1.2.2.2.length c2 x1.2.2.2, it]) H29 (Hold.tailBase (S := [box bs_ 155 [.slice as_code s_.code.length cs_code, .int .i64 x5.2.at_, .int .i64 x5.2.seed]]) (R := [own cd2 a3 x1.2.2.2.length c2 x1.2.2.2, it]) H27)
      refine Run_E (by kernel_rfl) ?_
      refine E_lit (C := cd2) (n := 1) (l := ([x6.1] : List Int)) (cs := [.int .i64 x6.1]) H30 (fun w => by kernel_rfl) (Enc.consE (cd2_own x6.1 _) (Enc.nil _ _) rfl) rfl (by decide) (fun a6 h12 H31 => ?_)
      obtain ⟨l3, hl2, hF⟩ := M.bind_some hF
      have hl2 := M.app_some hl2
      have H32 : Hold h h12 [own cd2 a3 x1.2.2.2.length c2 x1.2.2.2, own cd2 a6 1 1 ([x6.1] : List Int), box bs_ 155 [.slice as_code s_.code.length cs_code, .int .i64 x6.2.at_, .int .i64 x6.2.seed], it] := H31.pick [2, 0, 1, 3] (by kernel_rfl)
      have H33 : Hold h h12 [own cd2 a6 1 1 ([x6.1] : List Int), own cd2 a3 x1.2.2.2.length c2 x1.2.2.2, box bs_ 155 [.slice as_code s_.code.length cs_code, .int .i64 x6.2.at_, .int .i64 x6.2.seed], it] := H32.pick [1, 0, 2, 3] (by kernel_rfl)
      have H34 : Hold h h12 [own cd2 a3 x1.2.2.2.length c2 x1.2.2.2, own cd2 a6 1 1 ([x6.1] : List Int), box bs_ 155 [.slice as_code s_.code.length cs_code, .int .i64 x6.2.at_, .int .i64 x6.2.seed], it] := H33.pick [1, 0, 2, 3] (by kernel_rfl)
      refine Run_E (by kernel_rfl) ?_
      refine E_app (C := cd2) (t := 39) (ty := 39) (n := x1.2.2.2.length) (m := 1) H34 cd2_ti rfl Try.underlying39 (by decide) (by kernel_rfl) hl2 (fun a7 c4 h13 H35 => ?_)
      refine Run_b [.slice a7 l3.length c4] 5 _ (by kernel_rfl) (fun w => by kernel_rfl) ?_
      refine Run_nil (by kernel_rfl) ?_
      refine Run_keep [4] (L' := [(4, .slice a7 l3.length c4)]) (by kernel_rfl) ?_
      have hF := M.ret_some hF
      subst hF
      exact Run_ret1 rfl (ResV_tmp (v := .slice a7 l3.length c4) (by kernel_rfl)) ⟨a7, c4, rfl, H35⟩
    · have hF := (M.ite_some hF).2 hb3
      refine Run_seq ?_
      refine Run_reg 2 (by kernel_rfl) (L' := [(5, .slice a3 x1.2.2.2.length c2), (34, .bool (x5.1 == 1))]) ?_ ?_
      · refine QRun_b [.bool (x5.1 == 1), .bool (x5.1 == 1)] 0 _ (by kernel_rfl) (fun w => by kernel_rfl) ?_
        exact QRun_done [5, 34] (by kernel_rfl) (by kernel_rfl)
      refine Run_cond (b := x5.1 == 1) (by kernel_rfl) (fun hb4 => ?_) (fun hb4 => ?_)
      · have hF := (M.ite_some hF).1 hb4
        refine Run_seq ?_
        refine Run_reg 1 (by kernel_rfl) (L' := [(4, .slice none 0 0)]) ?_ ?_
        · refine QRun_b [.slice none 0 0] 0 _ (by kernel_rfl) (fun w => by kernel_rfl) ?_
          exact QRun_done [4] (by kernel_rfl) (by kernel_rfl)
        have hF := M.ret_some hF
        subst hF
        have H36 := H27.empty cd2
        have H37 : Hold h h10 [own cd2 none 0 0 [], box bs_ 155 [.slice as_code s_.code.length cs_code, .int .i64 x5.2.at_, .int .i64 x5.2.seed], it] := H36.pick [0, 1, 3] (by kernel_rfl)
        exact Run_ret1 rfl (ResV_tmp (v := .slice none 0 0) (by kernel_rfl)) ⟨none, 0, rfl, H37⟩
      · have hF := (M.ite_some hF).2 hb4
        refine Run_skip ?_
        refine Run_blk ?_
        refine Run_seq ?_
        refine Run_reg 2 (by kernel_rfl) (L' := [(4, .slice a3 x1.2.2.2.length c2)]) ?_ ?_
        · refine QRun_b [.slice a3 x1.2.2.2.length c2, .slice a3 x1.2.2.2.length c2] 0 _ (by kernel_rfl) (fun w => by kernel_rfl) ?_
          exact QRun_done [4] (by kernel_rfl) (by kernel_rfl)
        have hF := M.ret_some hF
        subst hF
        have H38 : Hold h h10 [own cd2 a3 x1.2.2.2.length c2 x1.2.2.2, box bs_ 155 [.slice as_code s_.code.length cs_code, .int .i64 x5.2.at_, .int .i64 x5.2.seed], it] := H27.pick [1, 0, 2] (by kernel_rfl)
        exact Run_ret1 rfl (ResV_tmp (v := .slice a3 x1.2.2.2.length c2) (by kernel_rfl)) ⟨a3, c2, rfl, H38⟩
  · refine Run_block ?_
    have hn2 := (H1.len 0 rfl)
    have H39 : Hold h h1 [own cd2 a1 (([] : List Int).length) 0 ([] : List Int), box bs_ 155 [.slice as_code s_.code.length cs_code, .int .i64 s_.at_, .int .i64 s_.seed], it] := by rw [hn2]; exact H1
    have H40 : Hold h h1 [box bs_ 155 [.slice as_code s_.code.length cs_code, .int .i64 s_.at_, .int .i64 s_.seed], own cd2 a1 (([] : List Int).length) 0 ([] : List Int), it] := H39.pick [1, 0, 2] (by kernel_rfl)
    refine Run_keep [0, 1, 5] (L' := [(0, .pointer (some ⟨bs_, 0, none⟩)), (1, .int .i64 n_), (5, .slice a1 (([] : List Int).length) 0)]) (by first | (rw [hn2]; kernel_rfl) | (simp only [hn2]; kernel_rfl) | kernel_rfl) ?_
    refine Run_loop (fun m L' h' => ∃ (s1 : Int × Int × Int × (List Int)) (a2 : Option Addr) (c1 : Nat), M.loopN _ n m s1 = some x1 ∧ L' = [(0, .pointer (some ⟨bs_, 0, none⟩)), (1, .int .i64 s1.2.2.1), (5, .slice a2 s1.2.2.2.length c1)] ∧ Hold h h' [box bs_ 155 [.slice as_code s_.code.length cs_code, .int .i64 s1.1, .int .i64 s1.2.1], own cd2 a2 s1.2.2.2.length c1 s1.2.2.2, it]) n ⟨(s_.at_, s_.seed, n_, ([] : List Int)), a1, 0, gx1, rfl, H40⟩ ?_
    rintro my1 _ h2 ⟨s1, a2, c1, gx1, rfl, H2⟩
    obtain ⟨my1, y1, rfl, hB1, hgoy1, houty1⟩ := M.loop_some gx1
    refine Run_seq ?_
    refine Run_seq ?_
    refine Run_reg 2 (by kernel_rfl) (L' := [(0, .pointer (some ⟨bs_, 0, none⟩)), (1, .int .i64 s1.2.2.1), (5, .slice a2 s1.2.2.2.length c1), (8, .bool (decide (0 < s1.2.2.1)))]) ?_ ?_
    · refine QRun_b [.int .i64 s1.2.2.1, .bool (decide (0 < s1.2.2.1))] 0 _ (by kernel_rfl) (fun w => by kernel_rfl) ?_
      exact QRun_done [0, 1, 5, 8] (by kernel_rfl) (by kernel_rfl)
    refine Run_cond (b := decide (0 < s1.2.2.1)) (by kernel_rfl) (fun hb1 => ?_) (fun hb1 => ?_)
    · have hB1 := (M.ite_some hB1).1 hb1
      refine Run_skip ?_
      refine Run_seq ?_
      refine Run_block ?_
      refine Run_seq ?_
      refine Run_ops ?_
      refine Run_b [.slice a2 s1.2.2.2.length c1, .pointer (some ⟨bs_, 0, none⟩)] 0 _ (by kernel_rfl) (fun w => by kernel_rfl) ?_
      obtain ⟨x2, hx1, hB1⟩ := M.bind_some hB1
      have H4 : Hold h h2 [box bs_ 155 [.slice as_code s_.code.length cs_code, .int .i64 s1.1, .int .i64 s1.2.1], bun [own cd2 a2 s1.2.2.2.length c1 s1.2.2.2, it]] := Hold.bundle (S := [box bs_ 155 [.slice as_code s_.code.length cs_code, .int .i64 s1.1, .int .i64 s1.2.1]]) (R := [own cd2 a2 s1.2.2.2.length c1 s1.2.2.2, it]) H2
      refine Run_E (by kernel_rfl) ?_
      refine E_call (f := 106) (args := #[.pointer (some ⟨bs_, 0, none⟩), .int .i64 31]) (w_spec_l01Next h h2 _ (⟨s_.code, s1.1, s1.2.1⟩ : TL01source) bs_ as_code cs_code rs_code 31 H4 _ _ hx1) (by kernel_rfl) (fun v1 h4 hp1 => ?_)
      obtain ⟨rfl, H5⟩ := hp1
      have H6 : Hold h h4 [box bs_ 155 [.slice as_code s_.code.length cs_code, .int .i64 x2.2.at_, .int .i64 x2.2.seed], own cd2 a2 s1.2.2.2.length c1 s1.2.2.2, it] := Hold.unbundle (S := [box bs_ 155 [.slice as_code s_.code.length cs_code, .int .i64 x2.2.at_, .int .i64 x2.2.seed]]) (R := [own cd2 a2 s1.2.2.2.length c1 s1.2.2.2, it]) H5 (Hold.tailBase (S := [box bs_ 155 [.slice as_code s_.code.length cs_code, .int .i64 s1.1, .int .i64 s1.2.1]]) (R := [own cd2 a2 s1.2.2.2.length c1 s1.2.2.2, it]) H2)
      refine Run_b [.int .i64 (w64 (x2.1 - 15))] 3 _ (by kernel_rfl) (fun w => by kernel_rfl) ?_
      refine Run_E (by kernel_rfl) ?_
      refine E_lit (C := cd2) (n := 1) (l := ([(w64 (x2.1 - 15))] : List Int)) (cs := [.int .i64 (w64 (x2.1 - 15))]) H6 (fun w => by kernel_rfl) (Enc.consE (cd2_own (w64 (x2.1 - 15)) _) (Enc.nil _ _) rfl) rfl (by decide) (fun a4 h5 H7 => ?_)
      obtain ⟨l1, hl1, hB1⟩ := M.bind_some hB1
      have hl1 := M.app_some hl1
      have H8 : Hold h h5 [own cd2 a2 s1.2.2.2.length c1 s1.2.2.2, own cd2 a4 1 1 ([(w64 (x2.1 - 15))] : List Int), box bs_ 155 [.slice as_code s_.code.length cs_code, .int .i64 x2.2.at_, .int .i64 x2.2.seed], it] := H7.pick [2, 0, 1, 3] (by kernel_rfl)
      have H9 : Hold h h5 [own cd2 a4 1 1 ([(w64 (x2.1 - 15))] : List Int), own cd2 a2 s1.2.2.2.length c1 s1.2.2.2, box bs_ 155 [.slice as_code s_.code.length cs_code, .int .i64 x2.2.at_, .int .i64 x2.2.seed], it] := H8.pick [1, 0, 2, 3] (by kernel_rfl)
      have H10 : Hold h h5 [own cd2 a2 s1.2.2.2.length c1 s1.2.2.2, own cd2 a4 1 1 ([(w64 (x2.1 - 15))] : List Int), box bs_ 155 [.slice as_code s_.code.length cs_code, .int .i64 x2.2.at_, .int .i64 x2.2.seed], it] := H9.pick [1, 0, 2, 3] (by kernel_rfl)
      refine Run_E (by kernel_rfl) ?_
      refine E_app (C := cd2) (t := 39) (ty := 39) (n := s1.2.2.2.length) (m := 1) H10 cd2_ti rfl Try.underlying39 (by decide) (by kernel_rfl) hl1 (fun a5 c3 h6 H11 => ?_)
      refine Run_b [.slice a5 l1.length c3] 6 _ (by kernel_rfl) (fun w => by kernel_rfl) ?_
      refine Run_nil (by kernel_rfl) ?_
      refine Run_keep [0, 1, 5] (L' := [(0, .pointer (some ⟨bs_, 0, none⟩)), (1, .int .i64 s1.2.2.1), (5, .slice a5 l1.length c3)]) (by kernel_rfl) ?_
      refine Run_seq ?_
      refine Run_ops ?_
      refine Run_b [.pointer (some ⟨bs_, 0, none⟩)] 0 _ (by kernel_rfl) (fun w => by kernel_rfl) ?_
      obtain ⟨x3, hx2, hB1⟩ := M.bind_some hB1
      have H12 : Hold h h6 [box bs_ 155 [.slice as_code s_.code.length cs_code, .int .i64 x2.2.at_, .int .i64 x2.2.seed], own cd2 a5 l1.length c3 l1, it] := H11.pick [1, 0, 2] (by kernel_rfl)
      have H13 : Hold h h6 [box bs_ 155 [.slice as_code s_.code.length cs_code, .int .i64 x2.2.at_, .int .i64 x2.2.seed], bun [own cd2 a5 l1.length c3 l1, it]] := Hold.bundle (S := [box bs_ 155 [.slice as_code s_.code.length cs_code, .int .i64 x2.2.at_, .int .i64 x2.2.seed]]) (R := [own cd2 a5 l1.length c3 l1, it]) H12
      refine Run_E (by kernel_rfl) ?_
      refine E_call (f := 106) (args := #[.pointer (some ⟨bs_, 0, none⟩), .int .i64 8]) (w_spec_l01Next h h6 _ (⟨s_.code, x2.2.at_, x2.2.seed⟩ : TL01source) bs_ as_code cs_code rs_code 8 H13 _ _ hx2) (by kernel_rfl) (fun v2 h7 hp2 => ?_)
      obtain ⟨rfl, H14⟩ := hp2
      have H15 : Hold h h7 [box bs_ 155 [.slice as_code s_.code.length cs_code, .int .i64 x3.2.at_, .int .i64 x3.2.seed], own cd2 a5 l1.length c3 l1, it] := Hold.unbundle (S := [box bs_ 155 [.slice as_code s_.code.length cs_code, .int .i64 x3.2.at_, .int .i64 x3.2.seed]]) (R := [own cd2 a5 l1.length c3 l1, it]) H14 (Hold.tailBase (S := [box bs_ 155 [.slice as_code s_.code.length cs_code, .int .i64 x2.2.at_, .int .i64 x2.2.seed]]) (R := [own cd2 a5 l1.length c3 l1, it]) H12)
      refine Run_b [.bool (x3.1 == 0)] 2 _ (by kernel_rfl) (fun w => by kernel_rfl) ?_
      refine Run_nil (by kernel_rfl) ?_
      refine Run_keep [0, 1, 5, 19] (L' := [(0, .pointer (some ⟨bs_, 0, none⟩)), (1, .int .i64 s1.2.2.1), (5, .slice a5 l1.length c3), (19, .bool (x3.1 == 0))]) (by kernel_rfl) ?_
      obtain ⟨s2, gs2, hB1⟩ := M.bind_some hB1
      refine Run_join (fun L' h' => L' = [(0, .pointer (some ⟨bs_, 0, none⟩)), (1, .int .i64 s1.2.2.1), (5, .slice a5 l1.length c3)] ∧ Hold h h' [box bs_ 155 [.slice as_code s_.code.length cs_code, .int .i64 x3.2.at_, .int .i64 x3.2.seed], own cd2 a5 l1.length c3 s2, it]) ?_ ?_
      · rintro _ h9 ⟨rfl, H18⟩
        refine Run_blk ?_
        refine Run_reg 3 (by kernel_rfl) (L' := [(0, .pointer (some ⟨bs_, 0, none⟩)), (1, .int .i64 (w64 (s1.2.2.1 - 1))), (5, .slice a5 l1.length c3)]) ?_ ?_
        · refine QRun_b [.int .i64 s1.2.2.1, .int .i64 (w64 (s1.2.2.1 - 1)), .int .i64 (w64 (s1.2.2.1 - 1))] 0 _ (by kernel_rfl) (fun w => by kernel_rfl) ?_
          exact QRun_done [0, 1, 5] (by kernel_rfl) (by kernel_rfl)
        have H20 : Hold h h9 [own cd2 a5 l1.length c3 s2, box bs_ 155 [.slice as_code s_.code.length cs_code, .int .i64 x3.2.at_, .int .i64 x3.2.seed], it] := H18.pick [1, 0, 2] (by kernel_rfl)
        have hn1 := (H20.len 0 rfl)
        have H21 : Hold h h9 [own cd2 a5 s2.length c3 s2, box bs_ 155 [.slice as_code s_.code.length cs_code, .int .i64 x3.2.at_, .int .i64 x3.2.seed], it] := by rw [hn1]; exact H20
        have H22 : Hold h h9 [box bs_ 155 [.slice as_code s_.code.length cs_code, .int .i64 x3.2.at_, .int .i64 x3.2.seed], own cd2 a5 s2.length c3 s2, it] := H21.pick [1, 0, 2] (by kernel_rfl)
        have hB1 := M.ret_some hB1
        have gx1 := hgoy1 _ hB1.symm
        exact Run_again [0, 1, 5] (by first | (rw [hn1]; kernel_rfl) | (simp only [hn1]; kernel_rfl) | kernel_rfl) my1 (Nat.lt_succ_self _) ⟨(x3.2.at_, x3.2.seed, (w64 (s1.2.2.1 - 1)), s2), a5, c3, gx1, rfl, H22⟩
      · refine Run_cond (b := x3.1 == 0) (by kernel_rfl) (fun hb2 => ?_) (fun hb2 => ?_)
        · have gs2 := (M.ite_some gs2).1 hb2
          refine Run_ops ?_
          obtain ⟨x4, hx3, gs2⟩ := M.bind_some gs2
          obtain ⟨hx3l, hx3u, hx3⟩ := M.idx_some hx3
          refine Run_b [.slice a5 l1.length c3, .slice a5 l1.length c3, .int .i64 (l1.length : Int), .int .i64 (w64 ((l1.length : Int) - 1))] 0 _ (by kernel_rfl) (fun w => by kernel_rfl) ?_
          refine Run_y (.pointer (some (adr a5 ((w64 ((l1.length : Int) - 1)).toNat * 1)))) (by kernel_rfl) (Y_idx (t := 39) (e := 2) (sz := 1) (a := a5) (n := l1.length) (cap := c3) (kk := .i64) (i := w64 ((l1.length : Int) - 1)) (by kernel_rfl) Try.underlying39 (by kernel_rfl) ((H15.rd 1 rfl).cell hx3).1 hx3l hx3u) ?_
          obtain ⟨l2, hu1, gs2⟩ := M.bind_some gs2
          have hu1 := M.upd_some hu1
          have H17 : Hold h h7 [own cd2 a5 l1.length c3 l1, box bs_ 155 [.slice as_code s_.code.length cs_code, .int .i64 x3.2.at_, .int .i64 x3.2.seed], it] := H15.pick [1, 0, 2] (by kernel_rfl)
          refine Run_E (by kernel_rfl) ?_
          refine E_put (C := cd2) (t := 2) (sz := 1) (j := w64 ((l1.length : Int) - 1)) (x := (-1000000000000000)) (v := .int .i64 (-1000000000000000)) H17 cd2_flat (by kernel_rfl) rfl (cd2_own _) (by kernel_rfl) hu1 (fun h8 H16 => ?_)
          refine Run_nil (by kernel_rfl) ?_
          refine Run_keep [0, 1, 5] (L' := [(0, .pointer (some ⟨bs_, 0, none⟩)), (1, .int .i64 s1.2.2.1), (5, .slice a5 l1.length c3)]) (by kernel_rfl) ?_
          have H19 : Hold h h8 [box bs_ 155 [.slice as_code s_.code.length cs_code, .int .i64 x3.2.at_, .int .i64 x3.2.seed], own cd2 a5 l1.length c3 l2, it] := H16.pick [1, 0, 2] (by kernel_rfl)
          have gs2 := M.ret_some gs2
          subst gs2
          exact Run_fall [0, 1, 5] (by kernel_rfl) ⟨rfl, H19⟩
        · have gs2 := (M.ite_some gs2).2 hb2
          refine Run_skip ?_
          have gs2 := M.ret_some gs2
          subst gs2
          exact Run_fall [0, 1, 5] (by kernel_rfl) ⟨rfl, H15⟩
    · have hB1 := (M.ite_some hB1).2 hb1
      refine Run_exit (k' := _) rfl ?_
      have H23 : Hold h h2 [own cd2 a2 s1.2.2.2.length c1 s1.2.2.2, box bs_ 155 [.slice as_code s_.code.length cs_code, .int .i64 s1.1, .int .i64 s1.2.1], it] := H2.pick [1, 0, 2] (by kernel_rfl)
      have H24 : Hold h h2 [box bs_ 155 [.slice as_code s_.code.length cs_code, .int .i64 s1.1, .int .i64 s1.2.1], own cd2 a2 s1.2.2.2.length c1 s1.2.2.2, it] := H23.pick [1, 0, 2] (by kernel_rfl)
      have hB1 := M.ret_some hB1
      have gx1 := houty1 _ hB1.symm
      subst gx1
      exact Run_fall [0, 5] (by kernel_rfl) ⟨a2, c1, rfl, H24⟩

set_option maxRecDepth 100000 in
set_option maxHeartbeats 4000000 in
theorem w_spec_DrawIsDual (h : Heap) (code : List Int) (acode : Option Addr) (ccode : Nat) (rcode : Rd cd5 h (Lt h) acode ccode code) (n : Nat) (r : (List (List Int)) × (List Int) × (List Int)) (hF : spec_DrawIsDual code n = some r) :
    Fn Try.prog 48 #[.slice acode code.length ccode] h fun v h' => ∃ (a0 : Option Addr) (c0 : Nat), ∃ (a1 : Option Addr) (c1 : Nat), ∃ (a2 : Option Addr) (c2 : Nat), v = .tuple #[.slice a0 r.1.length c0, .slice a1 r.2.1.length c1, .slice a2 r.2.2.length c2] ∧ Hold h h' [own cd39 a0 r.1.length c0 r.1, own cd2 a1 r.2.1.length c1 r.2.1, own cd2 a2 r.2.2.length c2 r.2.2] := by
  unfold spec_DrawIsDual at hF
  refine Fn_enter (args := [.slice acode code.length ccode]) Try.func48 rfl (by kernel_rfl) (by kernel_rfl) (fun w0 _ => ?_)
  have H0 := Hold.init h
  refine Run_seq ?_
  refine Run_reg 3 (by kernel_rfl) (L' := [(0, .slice acode code.length ccode)]) ?_ ?_
  · refine QRun_b [.slice none 0 0, .slice none 0 0, .slice none 0 0] 0 _ (by kernel_rfl) (fun w => by kernel_rfl) ?_
    exact QRun_done [0] (by kernel_rfl) (by kernel_rfl)
  refine Run_seq ?_
  refine Run_ops ?_
  refine Run_b [.slice acode code.length ccode] 0 _ (by kernel_rfl) (fun w => by kernel_rfl) ?_
  obtain ⟨x1, hx1, hF⟩ := M.bind_some hF
  refine Run_E (by kernel_rfl) ?_
  refine E_call (f := 98) (args := #[.slice acode code.length ccode]) (w_spec_l01From h code acode ccode rcode _ _ hx1) (by kernel_rfl) (fun v1 h1 hp1 => ?_)
  obtain ⟨b1, a1, c1, rfl, hd1, H1⟩ := hp1
  have H2 : Hold h h1 [box b1 155 [.slice a1 x1.code.length c1, .int .i64 x1.at_, .int .i64 x1.seed]] := H0.call H1 rfl
  have r1 := rcode.alias hd1
  refine Run_b [.pointer (some ⟨b1, 0, none⟩)] 2 _ (by kernel_rfl) (fun w => by kernel_rfl) ?_
  refine Run_nil (by kernel_rfl) ?_
  refine Run_keep [5] (L' := [(5, .pointer (some ⟨b1, 0, none⟩))]) (by kernel_rfl) ?_
  refine Run_seq ?_
  refine Run_ops ?_
  refine Run_b [.pointer (some ⟨b1, 0, none⟩)] 0 _ (by kernel_rfl) (fun w => by kernel_rfl) ?_
  obtain ⟨x2, hx2, hF⟩ := M.bind_some hF
  have H3 : Hold h h1 [box b1 155 [.slice a1 x1.code.length c1, .int .i64 x1.at_, .int .i64 x1.seed], bun []] := Hold.bundle (S := [box b1 155 [.slice a1 x1.code.length c1, .int .i64 x1.at_, .int .i64 x1.seed]]) (R := []) H2
  refine Run_E (by kernel_rfl) ?_
  refine E_call (f := 126) (args := #[.pointer (some ⟨b1, 0, none⟩)]) (w_spec_l02DrawSquare h h1 _ x1 b1 a1 c1 r1 H3 _ _ hx2) (by kernel_rfl) (fun v2 h2 hp2 => ?_)
  obtain ⟨a2, c2, rfl, H4⟩ := hp2
  have H5 : Hold h h2 [own cd39 a2 x2.1.length c2 x2.1, box b1 155 [.slice a1 x1.code.length c1, .int .i64 x2.2.at_, .int .i64 x2.2.seed]] := Hold.unbundle (S := [own cd39 a2 x2.1.length c2 x2.1, box b1 155 [.slice a1 x1.code.length c1, .int .i64 x2.2.at_, .int .i64 x2.2.seed]]) (R := []) H4 (Hold.tailBase (S := [box b1 155 [.slice a1 x1.code.length c1, .int .i64 x1.at_, .int .i64 x1.seed]]) (R := []) H2)
  refine Run_b [.slice a2 x2.1.length c2] 2 _ (by kernel_rfl) (fun w => by kernel_rfl) ?_
  refine Run_nil (by kernel_rfl) ?_
  refine Run_keep [5, 6] (L' := [(5, .pointer (some ⟨b1, 0, none⟩)), (6, .slice a2 x2.1.length c2)]) (by kernel_rfl) ?_
  refine Run_seq ?_
  refine Run_ops ?_
  refine Run_b [.slice a2 x2.1.length c2] 0 _ (by kernel_rfl) (fun w => by kernel_rfl) ?_
  obtain ⟨x3, hx3, hF⟩ := M.bind_some hF
  refine Run_E (by kernel_rfl) ?_
  refine E_call (f := 19) (args := #[.slice a2 x2.1.length c2]) (w_spec_DualOf h2 x2.1 a2 c2 (H5.rd 0 rfl) _ _ hx3) (by kernel_rfl) (fun v3 h3 hp3 => ?_)
  obtain ⟨a3, c3, a4, c4, rfl, H6⟩ := hp3
  have H7 : Hold h h3 [own cd2 a3 x3.1.length c3 x3.1, own cd2 a4 x3.2.1.length c4 x3.2.1, own cd39 a2 x2.1.length c2 x2.1, box b1 155 [.slice a1 x1.code.length c1, .int .i64 x2.2.at_, .int .i64 x2.2.seed]] := H5.call H6 rfl
  refine Run_b [.tuple #[.slice a3 x3.1.length c3, .slice a4 x3.2.1.length c4, .int .i64 x3.2.2], .slice a3 x3.1.length c3, .slice a4 x3.2.1.length c4, .int .i64 x3.2.2, .slice a3 x3.1.length c3, .slice a4 x3.2.1.length c4, .int .i64 x3.2.2] 2 _ (by kernel_rfl) (fun w => by kernel_rfl) ?_
  refine Run_nil (by kernel_rfl) ?_
  refine Run_keep [5, 6, 7, 8, 9] (L' := [(5, .pointer (some ⟨b1, 0, none⟩)), (6, .slice a2 x2.1.length c2), (7, .slice a3 x3.1.length c3), (8, .slice a4 x3.2.1.length c4), (9, .int .i64 x3.2.2)]) (by kernel_rfl) ?_
  refine Run_seq ?_
  refine Run_seq ?_
  refine Run_reg 2 (by kernel_rfl) (L' := [(5, .pointer (some ⟨b1, 0, none⟩)), (6, .slice a2 x2.1.length c2), (7, .slice a3 x3.1.length c3), (8, .slice a4 x3.2.1.length c4), (22, .bool (x3.2.2 != 0))]) ?_ ?_
  · refine QRun_b [.int .i64 x3.2.2, .bool (x3.2.2 != 0)] 0 _ (by kernel_rfl) (fun w => by kernel_rfl) ?_
    exact QRun_done [5, 6, 7, 8, 22] (by kernel_rfl) (by kernel_rfl)
  refine Run_cond (b := x3.2.2 != 0) (by kernel_rfl) (fun hb1 => ?_) (fun hb1 => ?_)
  · have hF := (M.ite_some hF).1 hb1
    refine Run_seq ?_
    refine Run_ops ?_
    refine Run_b [.slice a2 x2.1.length c2, .pointer (some ⟨b1, 0, none⟩), .slice a2 x2.1.length c2, .int .i64 (x2.1.length : Int)] 0 _ (by kernel_rfl) (fun w => by kernel_rfl) ?_
    obtain ⟨x4, hx4, hF⟩ := M.bind_some hF
    have H8 : Hold h h3 [box b1 155 [.slice a1 x1.code.length c1, .int .i64 x2.2.at_, .int .i64 x2.2.seed], own cd2 a3 x3.1.length c3 x3.1, own cd2 a4 x3.2.1.length c4 x3.2.1, own cd39 a2 x2.1.length c2 x2.1] := H7.pick [3, 0, 1, 2] (by kernel_rfl)
    have H9 : Hold h h3 [box b1 155 [.slice a1 x1.code.length c1, .int .i64 x2.2.at_, .int .i64 x2.2.seed], bun [own cd2 a3 x3.1.length c3 x3.1, own cd2 a4 x3.2.1.length c4 x3.2.1, own cd39 a2 x2.1.length c2 x2.1]] := Hold.bundle (S := [box b1 155 [.slice a1 x1.code.length c1, .int .i64 x2.2.at_, .int .i64 x2.2.seed]]) (R := [own cd2 a3 x3.1.length c3 x3.1, own cd2 a4 x3.2.1.length c4 x3.2.1, own cd39 a2 x2.1.length c2 x2.1]) H8
    refine Run_E (by kernel_rfl) ?_
    refine E_call (f := 127) (args := #[.pointer (some ⟨b1, 0, none⟩), .int .i64 (x2.1.length : Int)]) (w_spec_l02DrawVector h h3 _ (⟨x1.code, x2.2.at_, x2.2.seed⟩ : TL01source) b1 a1 c1 r1 (x2.1.length : Int) H9 _ _ hx4) (by kernel_rfl) (fun v4 h4 hp4 => ?_)
    obtain ⟨a5, c5, rfl, H10⟩ := hp4
    have H11 : Hold h h4 [own cd2 a5 x4.1.length c5 x4.1, box b1 155 [.slice a1 x1.code.length c1, .int .i64 x4.2.at_, .int .i64 x4.2.seed], own cd2 a3 x3.1.length c3 x3.1, own cd2 a4 x3.2.1.length c4 x3.2.1, own cd39 a2 x2.1.length c2 x2.1] := Hold.unbundle (S := [own cd2 a5 x4.1.length c5 x4.1, box b1 155 [.slice a1 x1.code.length c1, .int .i64 x4.2.at_, .int .i64 x4.2.seed]]) (R := [own cd2 a3 x3.1.length c3 x3.1, own cd2 a4 x3.2.1.length c4 x3.2.1, own cd39 a2 x2.1.length c2 x2.1]) H10 (Hold.tailBase (S := [box b1 155 [.slice a1 x1.code.length c1, .int .i64 x2.2.at_, .int .i64 x2.2.seed]]) (R := [own cd2 a3 x3.1.length c3 x3.1, own cd2 a4 x3.2.1.length c4 x3.2.1, own cd39 a2 x2.1.length c2 x2.1]) H8)
    refine Run_b [.pointer (some ⟨b1, 0, none⟩), .slice a2 x2.1.length c2, .int .i64 (x2.1.length : Int)] 5 _ (by kernel_rfl) (fun w => by kernel_rfl) ?_
    obtain ⟨x5, hx5, hF⟩ := M.bind_some hF
    have H12 : Hold h h4 [box b1 155 [.slice a1 x1.code.length c1, .int .i64 x4.2.at_, .int .i64 x4.2.seed], own cd2 a5 x4.1.length c5 x4.1, own cd2 a3 x3.1.length c3 x3.1, own cd2 a4 x3.2.1.length c4 x3.2.1, own cd39 a2 x2.1.length c2 x2.1] := H11.pick [1, 0, 2, 3, 4] (by kernel_rfl)
    have H13 : Hold h h4 [box b1 155 [.slice a1 x1.code.length c1, .int .i64 x4.2.at_, .int .i64 x4.2.seed], bun [own cd2 a5 x4.1.length c5 x4.1, own cd2 a3 x3.1.length c3 x3.1, own cd2 a4 x3.2.1.length c4 x3.2.1, own cd39 a2 x2.1.length c2 x2.1]] := Hold.bundle (S := [box b1 155 [.slice a1 x1.code.length c1, .int .i64 x4.2.at_, .int .i64 x4.2.seed]]) (R := [own cd2 a5 x4.1.length c5 x4.1, own cd2 a3 x3.1.length c3 x3.1, own cd2 a4 x3.2.1.length c4 x3.2.1, own cd39 a2 x2.1.length c2 x2.1]) H12
    refine Run_E (by kernel_rfl) ?_
    refine E_call (f := 127) (args := #[.pointer (some ⟨b1, 0, none⟩), .int .i64 (x2.1.length : Int)]) (w_spec_l02DrawVector h h4 _ (⟨x1.code, x4.2.at_, x4.2.seed⟩ : TL01source) b1 a1 c1 r1 (x2.1.length : Int) H13 _ _ hx5) (by kernel_rfl) (fun v5 h5 hp5 => ?_)
    obtain ⟨a6, c6, rfl, H14⟩ := hp5
    have H15 : Hold h h5 [own cd2 a6 x5.1.length c6 x5.1, box b1 155 [.slice a1 x1.code.length c1, .int .i64 x5.2.at_, .int .i64 x5.2.seed], own cd2 a5 x4.1.length c5 x4.1, own cd2 a3 x3.1.length c3 x3.1, own cd2 a4 x3.2.1.length c4 x3.2.1, own cd39 a2 x2.1.length c2 x2.1] := Hold.unbundle (S := [own cd2 a6 x5.1.length c6 x5.1, box b1 155 [.slice a1 x1.code.length c1, .int .i64 x5.2.at_, .int .i64 x5.2.seed]]) (R := [own cd2 a5 x4.1.length c5 x4.1, own cd2 a3 x3.1.length c3 x3.1, own cd2 a4 x3.2.1.length c4 x3.2.1, own cd39 a2 x2.1.length c2 x2.1]) H14 (Hold.tailBase (S := [box b1 155 [.slice a1 x1.code.length c1, .int .i64 x4.2.at_, .int .i64 x4.2.seed]]) (R := [own cd2 a5 x4.1.length c5 x4.1, own cd2 a3 x3.1.length c3 x3.1, own cd2 a4 x3.2.1.length c4 x3.2.1, own cd39 a2 x2.1.length c2 x2.1]) H12)
    refine Run_b [.slice a2 x2.1.length c2, .slice a5 x4.1.length c5, .slice a6 x5.1.length c6] 9 _ (by kernel_rfl) (fun w => by kernel_rfl) ?_
    refine Run_nil (by kernel_rfl) ?_
    refine Run_keep [2, 3, 4] (L' := [(2, .slice a2 x2.1.length c2), (3, .slice a5 x4.1.length c5), (4, .slice a6 x5.1.length c6)]) (by kernel_rfl) ?_
    have hF := M.ret_some hF
    subst hF
    have H16 : Hold h h5 [own cd39 a2 x2.1.length c2 x2.1, own cd2 a6 x5.1.length c6 x5.1, box b1 155 [.slice a1 x1.code.length c1, .int .i64 x5.2.at_, .int .i64 x5.2.seed], own cd2 a5 x4.1.length c5 x4.1, own cd2 a3 x3.1.length c3 x3.1, own cd2 a4 x3.2.1.length c4 x3.2.1] := H15.pick [5, 0, 1, 2, 3, 4] (by kernel_rfl)
    have H17 : Hold h h5 [own cd2 a5 x4.1.length c5 x4.1, own cd39 a2 x2.1.length c2 x2.1, own cd2 a6 x5.1.length c6 x5.1, box b1 155 [.slice a1 x1.code.length c1, .int .i64 x5.2.at_, .int .i64 x5.2.seed], own cd2 a3 x3.1.length c3 x3.1, own cd2 a4 x3.2.1.length c4 x3.2.1] := H16.pick [3, 0, 1, 2, 4, 5] (by kernel_rfl)
    have H18 : Hold h h5 [own cd2 a6 x5.1.length c6 x5.1, own cd2 a5 x4.1.length c5 x4.1, own cd39 a2 x2.1.length c2 x2.1, box b1 155 [.slice a1 x1.code.length c1, .int .i64 x5.2.at_, .int .i64 x5.2.seed], own cd2 a3 x3.1.length c3 x3.1, own cd2 a4 x3.2.1.length c4 x3.2.1] := H17.pick [2, 0, 1, 3, 4, 5] (by kernel_rfl)
    have H19 : Hold h h5 [own cd39 a2 x2.1.length c2 x2.1, own cd2 a5 x4.1.length c5 x4.1, own cd2 a6 x5.1.length c6 x5.1] := H18.pick [2, 1, 0] (by kernel_rfl)
    exact Run_ret3 rfl (ResV_tmp (v := .slice a2 x2.1.length c2) (by kernel_rfl)) (ResV_tmp (v := .slice a5 x4.1.length c5) (by kernel_rfl)) (ResV_tmp (v := .slice a6 x5.1.length c6) (by kernel_rfl)) ⟨a2, c2, a5, c5, a6, c6, rfl, H19⟩
  · have hF := (M.ite_some hF).2 hb1
    refine Run_skip ?_
    refine Run_seq ?_
    refine Run_seq ?_
    refine Run_ops ?_
    refine Run_b [.pointer (some ⟨b1, 0, none⟩)] 0 _ (by kernel_rfl) (fun w => by kernel_rfl) ?_
    obtain ⟨x6, hx6, hF⟩ := M.bind_some hF
    have H20 : Hold h h3 [box b1 155 [.slice a1 x1.code.length c1, .int .i64 x2.2.at_, .int .i64 x2.2.seed], own cd2 a3 x3.1.length c3 x3.1, own cd2 a4 x3.2.1.length c4 x3.2.1, own cd39 a2 x2.1.length c2 x2.1] := H7.pick [3, 0, 1, 2] (by kernel_rfl)
    have H21 : Hold h h3 [box b1 155 [.slice a1 x1.code.length c1, .int .i64 x2.2.at_, .int .i64 x2.2.seed], bun [own cd2 a3 x3.1.length c3 x3.1, own cd2 a4 x3.2.1.length c4 x3.2.1, own cd39 a2 x2.1.length c2 x2.1]] := Hold.bundle (S := [box b1 155 [.slice a1 x1.code.length c1, .int .i64 x2.2.at_, .int .i64 x2.2.seed]]) (R := [own cd2 a3 x3.1.length c3 x3.1, own cd2 a4 x3.2.1.length c4 x3.2.1, own cd39 a2 x2.1.length c2 x2.1]) H20
    refine Run_E (by kernel_rfl) ?_
    refine E_call (f := 106) (args := #[.pointer (some ⟨b1, 0, none⟩), .int .i64 2]) (w_spec_l01Next h h3 _ (⟨x1.code, x2.2.at_, x2.2.seed⟩ : TL01source) b1 a1 c1 r1 2 H21 _ _ hx6) (by kernel_rfl) (fun v6 h6 hp6 => ?_)
    obtain ⟨rfl, H22⟩ := hp6
    have H23 : Hold h h6 [box b1 155 [.slice a1 x1.code.length c1, .int .i64 x6.2.at_, .int .i64 x6.2.seed], own cd2 a3 x3.1.length c3 x3.1, own cd2 a4 x3.2.1.length c4 x3.2.1, own cd39 a2 x2.1.length c2 x2.1] := Hold.unbundle (S := [box b1 155 [.slice a1 x1.code.length c1, .int .i64 x6.2.at_, .int .i64 x6.2.seed]]) (R := [own cd2 a3 x3.1.length c3 x3.1, own cd2 a4 x3.2.1.length c4 x3.2.1, own cd39 a2 x2.1.length c2 x2.1]) H22 (Hold.tailBase (S := [box b1 155 [.slice a1 x1.code.length c1, .int .i64 x2.2.at_, .int .i64 x2.2.seed]]) (R := [own cd2 a3 x3.1.length c3 x3.1, own cd2 a4 x3.2.1.length c4 x3.2.1, own cd39 a2 x2.1.length c2 x2.1]) H20)
    refine Run_b [.bool (x6.1 == 0)] 2 _ (by kernel_rfl) (fun w => by kernel_rfl) ?_
    refine Run_nil (by kernel_rfl) ?_
    refine Run_keep [5, 6, 7, 8, 34] (L' := [(5, .pointer (some ⟨b1, 0, none⟩)), (6, .slice a2 x2.1.length c2), (7, .slice a3 x3.1.length c3), (8, .slice a4 x3.2.1.length c4), (34, .bool (x6.1 == 0))]) (by kernel_rfl) ?_
    obtain ⟨s1, gs1, hF⟩ := M.bind_some hF
    refine Run_join (fun L' h' => L' = [(6, .slice a2 x2.1.length c2), (7, .slice a3 x3.1.length c3), (8, .slice a4 x3.2.1.length c4)] ∧ Hold h h' [own cd39 a2 x2.1.length c2 x2.1, own cd2 a3 x3.1.length c3 s1, own cd2 a4 x3.2.1.length c4 x3.2.1]) ?_ ?_
    · rintro _ h12 ⟨rfl, H36⟩
      refine Run_seq ?_
      refine Run_reg 6 (by kernel_rfl) (L' := [(2, .slice a2 x2.1.length c2), (3, .slice a3 x3.1.length c3), (4, .slice a4 x3.2.1.length c4)]) ?_ ?_
      · refine QRun_b [.slice a2 x2.1.length c2, .slice a3 x3.1.length c3, .slice a4 x3.2.1.length c4, .slice a2 x2.1.length c2, .slice a3 x3.1.length c3, .slice a4 x3.2.1.length c4] 0 _ (by kernel_rfl) (fun w => by kernel_rfl) ?_
        exact QRun_done [2, 3, 4] (by kernel_rfl) (by kernel_rfl)
      have hF := M.ret_some hF
      subst hF
      have H39 : Hold h h12 [own cd2 a3 x3.1.length c3 s1, own cd39 a2 x2.1.length c2 x2.1, own cd2 a4 x3.2.1.length c4 x3.2.1] := H36.pick [1, 0, 2] (by kernel_rfl)
      have H40 := H39.norm
      have H41 : Hold h h12 [own cd2 a4 x3.2.1.length c4 x3.2.1, own cd2 a3 s1.length c3 s1, own cd39 a2 x2.1.length c2 x2.1] := H40.pick [2, 0, 1] (by kernel_rfl)
      have H42 : Hold h h12 [own cd39 a2 x2.1.length c2 x2.1, own cd2 a3 s1.length c3 s1, own cd2 a4 x3.2.1.length c4 x3.2.1] := H41.pick [2, 1, 0] (by kernel_rfl)
      exact Run_ret3 rfl (ResV_tmp (v := .slice a2 x2.1.length c2) (by kernel_rfl)) (ResV_tmp (v := .slice a3 x3.1.length c3) (by kernel_rfl)) (ResV_tmp (v := .slice a4 x3.2.1.length c4) (by kernel_rfl)) ⟨a2, c2, a3, c3, a4, c4, (by simp only [(H39.len 0 rfl)]), H42⟩
    · refine Run_cond (b := x6.1 == 0) (by kernel_rfl) (fun hb2 => ?_) (fun hb2 => ?_)
      · have gs1 := (M.ite_some gs1).1 hb2
        refine Run_seq ?_
        refine Run_ops ?_
        refine Run_b [.pointer (some ⟨b1, 0, none⟩), .slice a3 x3.1.length c3, .int .i64 (x3.1.length : Int)] 0 _ (by kernel_rfl) (fun w => by kernel_rfl) ?_
        obtain ⟨x7, hx7, gs1⟩ := M.bind_some gs1
        have H24 : Hold h h6 [box b1 155 [.slice a1 x1.code.length c1, .int .i64 x6.2.at_, .int .i64 x6.2.seed], bun [own cd2 a3 x3.1.length c3 x3.1, own cd2 a4 x3.2.1.length c4 x3.2.1, own cd39 a2 x2.1.length c2 x2.1]] := Hold.bundle (S := [box b1 155 [.slice a1 x1.code.length c1, .int .i64 x6.2.at_, .int .i64 x6.2.seed]]) (R := [own cd2 a3 x3.1.length c3 x3.1, own cd2 a4 x3.2.1.length c4 x3.2.1, own cd39 a2 x2.1.length c2 x2.1]) H23
        refine Run_E (by kernel_rfl) ?_
        refine E_call (f := 106) (args := #[.pointer (some ⟨b1, 0, none⟩), .int .i64 (x3.1.length : Int)]) (w_spec_l01Next h h6 _ (⟨x1.code, x6.2.at_, x6.2.seed⟩ : TL01source) b1 a1 c1 r1 (x3.1.length : Int) H24 _ _ hx7) (by kernel_rfl) (fun v7 h7 hp7 => ?_)
        obtain ⟨rfl, H25⟩ := hp7
        have H26 : Hold h h7 [box b1 155 [.slice a1 x1.code.length c1, .int .i64 x7.2.at_, .int .i64 x7.2.seed], own cd2 a3 x3.1.length c3 x3.1, own cd2 a4 x3.2.1.length c4 x3.2.1, own cd39 a2 x2.1.length c2 x2.1] := Hold.unbundle (S := [box b1 155 [.slice a1 x1.code.length c1, .int .i64 x7.2.at_, .int .i64 x7.2.seed]]) (R := [own cd2 a3 x3.1.length c3 x3.1, own cd2 a4 x3.2.1.length c4 x3.2.1, own cd39 a2 x2.1.length c2 x2.1]) H25 (Hold.tailBase (S := [box b1 155 [.slice a1 x1.code.length c1, .int .i64 x6.2.at_, .int .i64 x6.2.seed]]) (R := [own cd2 a3 x3.1.length c3 x3.1, own cd2 a4 x3.2.1.length c4 x3.2.1, own cd39 a2 x2.1.length c2 x2.1]) H23)
        refine Run_b [.int .i64 x7.1] 4 _ (by kernel_rfl) (fun w => by kernel_rfl) ?_
        refine Run_nil (by kernel_rfl) ?_
        refine Run_keep [5, 6, 7, 8, 10] (L' := [(5, .pointer (some ⟨b1, 0, none⟩)), (6, .slice a2 x2.1.length c2), (7, .slice a3 x3.1.length c3), (8, .slice a4 x3.2.1.length c4), (10, .int .i64 x7.1)]) (by kernel_rfl) ?_
        obtain ⟨x8, hx8, gs1⟩ := M.bind_some gs1
        obtain ⟨hx8l, hx8u, hx8⟩ := M.idx_some hx8
        refine Run_D (fun x => Hold h x [own cd2 a3 x3.1.length c3 x3.1, own cd2 a4 x3.2.1.length c4 x3.2.1, own cd39 a2 x2.1.length c2 x2.1]) (fun x => Hold h x [box b1 155 [.slice a1 x1.code.length c1, .int .i64 x7.2.at_, .int .i64 x7.2.seed], own cd2 a3 x3.1.length c3 x3.1, own cd2 a4 x3.2.1.length c4 x3.2.1, own cd39 a2 x2.1.length c2 x2.1]) mixed (by kernel_rfl) H26 Hold.stable (fun x Hy => (show Hold h x [box b1 155 [.slice a1 x1.code.length c1, .int .i64 x7.2.at_, .int .i64 x7.2.seed], own cd2 a3 x3.1.length c3 x3.1, own cd2 a4 x3.2.1.length c4 x3.2.1, own cd39 a2 x2.1.length c2 x2.1] from Hy).pick [1, 2, 3] (by kernel_rfl)) ?_
        refine DR_b 8 [.slice a3 x3.1.length c3, .int .i64 x7.1, .slice a3 x3.1.length c3, .int .i64 x7.1] 0 (by kernel_rfl) (by kernel_rfl) (by kernel_rfl) (fun w => by kernel_rfl) ?_
        refine DR_y 7 (i := 4) (.pointer (some (adr a3 (x7.1.toNat * 1)))) (by kernel_rfl) (by kernel_rfl) (by kernel_rfl) (fun hx Hx => (YE.of (Y_idx (t := 39) (e := 2) (sz := 1) (a := a3) (n := x3.1.length) (cap := c3) (kk := .i64) (i := x7.1) (by kernel_rfl) Try.underlying39 (by kernel_rfl) ((H26.rd 1 rfl).cell hx8).1 hx8l hx8u))) ?_
        refine DR_y 6 (i := 5) (.int .i64 x8) (by kernel_rfl) (by kernel_rfl) (by kernel_rfl) (fun hx Hx => (YE.of (Y_load1 (t := 2) (p := adr a3 (x7.1.toNat * 1)) (v := .int .i64 x8) (by kernel_rfl) (fun w => by kernel_rfl) (cd2_cell (Hx.rd 0 rfl) hx8)))) ?_
        refine DR_b 5 [.pointer (some ⟨b1, 0, none⟩)] 6 (by kernel_rfl) (by kernel_rfl) (by kernel_rfl) (fun w => by kernel_rfl) ?_
        refine DR_e 4 7 (by kernel_rfl) (by kernel_rfl) (by kernel_rfl) (fun h8 H27 => ?_)
        have H28 : Hold h h8 [box b1 155 [.slice a1 x1.code.length c1, .int .i64 x7.2.at_, .int .i64 x7.2.seed], own cd2 a3 x3.1.length c3 x3.1, own cd2 a4 x3.2.1.length c4 x3.2.1, own cd39 a2 x2.1.length c2 x2.1] := H27
        obtain ⟨x9, hx9, gs1⟩ := M.bind_some gs1
        have H29 : Hold h h8 [box b1 155 [.slice a1 x1.code.length c1, .int .i64 x7.2.at_, .int .i64 x7.2.seed], bun [own cd2 a3 x3.1.length c3 x3.1, own cd2 a4 x3.2.1.length c4 x3.2.1, own cd39 a2 x2.1.length c2 x2.1]] := Hold.bundle (S := [box b1 155 [.slice a1 x1.code.length c1, .int .i64 x7.2.at_, .int .i64 x7.2.seed]]) (R := [own cd2 a3 x3.1.length c3 x3.1, own cd2 a4 x3.2.1.length c4 x3.2.1, own cd39 a2 x2.1.length c2 x2.1]) H28
        refine E_call (f := 106) (args := #[.pointer (some ⟨b1, 0, none⟩), .int .i64 5]) (w_spec_l01Next h h8 _ (⟨x1.code, x7.2.at_, x7.2.seed⟩ : TL01source) b1 a1 c1 r1 5 H29 _ _ hx9) (by kernel_rfl) (fun v8 h9 hp8 => ?_)
        obtain ⟨rfl, H30⟩ := hp8
        have H31 : Hold h h9 [box b1 155 [.slice a1 x1.code.length c1, .int .i64 x9.2.at_, .int .i64 x9.2.seed], own cd2 a3 x3.1.length c3 x3.1, own cd2 a4 x3.2.1.length c4 x3.2.1, own cd39 a2 x2.1.length c2 x2.1] := Hold.unbundle (S := [box b1 155 [.slice a1 x1.code.length c1, .int .i64 x9.2.at_, .int .i64 x9.2.seed]]) (R := [own cd2 a3 x3.1.length c3 x3.1, own cd2 a4 x3.2.1.length c4 x3.2.1, own cd39 a2 x2.1.length c2 x2.1]) H30 (Hold.tailBase (S := [box b1 155 [.slice a1 x1.code.length c1, .int .i64 x7.2.at_, .int .i64 x7.2.seed]]) (R := [own cd2 a3 x3.1.length c3 x3.1, own cd2 a4 x3.2.1.length c4 x3.2.1, own cd39 a2 x2.1.length c2 x2.1]) H28)
        refine ⟨fun x => Hold h x [own cd2 a3 x3.1.length c3 x3.1, own cd2 a4 x3.2.1.length c4 x3.2.1, own cd39 a2 x2.1.length c2 x2.1], fun x => Hold h x [box b1 155 [.slice a1 x1.code.length c1, .int .i64 x9.2.at_, .int .i64 x9.2.seed], own cd2 a3 x3.1.length c3 x3.1, own cd2 a4 x3.2.1.length c4 x3.2.1, own cd39 a2 x2.1.length c2 x2.1], H31, Hold.stable, fun x Hy => (show Hold h x [box b1 155 [.slice a1 x1.code.length c1, .int .i64 x9.2.at_, .int .i64 x9.2.seed], own cd2 a3 x3.1.length c3 x3.1, own cd2 a4 x3.2.1.length c4 x3.2.1, own cd39 a2 x2.1.length c2 x2.1] from Hy).pick [1, 2, 3] (by kernel_rfl), fun x Hy => (show Hold h x [own cd2 a3 x3.1.length c3 x3.1, own cd2 a4 x3.2.1.length c4 x3.2.1, own cd39 a2 x2.1.length c2 x2.1] from Hy).pick [0, 1, 2] (by kernel_rfl), ?_⟩
        obtain ⟨x10, hx10, gs1⟩ := M.bind_some gs1
        obtain ⟨hx10l, hx10u, hx10⟩ := M.idx_some hx10
        refine DR_b 2 [.int .i64 (w64 (x8 + x9.1)), .int .i64 (w64 ((w64 (x8 + x9.1)) - 2))] 8 (by kernel_rfl) (by kernel_rfl) (by kernel_rfl) (fun w => by kernel_rfl) ?_
        refine DR_y 1 (i := 10) (.pointer (some (adr a3 (x7.1.toNat * 1)))) (by kernel_rfl) (by kernel_rfl) (by kernel_rfl) (fun hx Hx => (YE.of (Y_idx (t := 39) (e := 2) (sz := 1) (a := a3) (n := x3.1.length) (cap := c3) (kk := .i64) (i := x7.1) (by kernel_rfl) Try.underlying39 (by kernel_rfl) ((H31.rd 1 rfl).cell hx10).1 hx10l hx10u))) ?_
        refine DR_tail (i := 11) (by kernel_rfl) (by kernel_rfl) (by kernel_rfl) (fun h10 H32 => ?_)
        have H33 : Hold h h10 [box b1 155 [.slice a1 x1.code.length c1, .int .i64 x9.2.at_, .int .i64 x9.2.seed], own cd2 a3 x3.1.length c3 x3.1, own cd2 a4 x3.2.1.length c4 x3.2.1, own cd39 a2 x2.1.length c2 x2.1] := H32
        obtain ⟨l1, hu1, gs1⟩ := M.bind_some gs1
        have hu1 := M.upd_some hu1
        have H35 : Hold h h10 [own cd2 a3 x3.1.length c3 x3.1, box b1 155 [.slice a1 x1.code.length c1, .int .i64 x9.2.at_, .int .i64 x9.2.seed], own cd2 a4 x3.2.1.length c4 x3.2.1, own cd39 a2 x2.1.length c2 x2.1] := H33.pick [1, 0, 2, 3] (by kernel_rfl)
        refine Run_E (by kernel_rfl) ?_
        refine E_put (C := cd2) (t := 2) (sz := 1) (j := x7.1) (x := (w64 ((w64 (x8 + x9.1)) - 2))) (v := .int .i64 (w64 ((w64 (x8 + x9.1)) - 2))) H35 cd2_flat (by kernel_rfl) rfl (cd2_own _) (by kernel_rfl) hu1 (fun h11 H34 => ?_)
        refine Run_nil (by kernel_rfl) ?_
        refine Run_keep [6, 7, 8] (L' := [(6, .slice a2 x2.1.length c2), (7, .slice a3 x3.1.length c3), (8, .slice a4 x3.2.1.length c4)]) (by kernel_rfl) ?_
        have H37 : Hold h h11 [own cd39 a2 x2.1.length c2 x2.1, own cd2 a3 x3.1.length c3 l1, own cd2 a4 x3.2.1.length c4 x3.2.1] := H34.pick [3, 0, 2] (by kernel_rfl)
        have gs1 := M.ret_some gs1
        subst gs1
        exact Run_fall [6, 7, 8] (by kernel_rfl) ⟨rfl, H37⟩
      · have gs1 := (M.ite_some gs1).2 hb2
        refine Run_skip ?_
        have H38 : Hold h h6 [own cd39 a2 x2.1.length c2 x2.1, own cd2 a3 x3.1.length c3 x3.1, own cd2 a4 x3.2.1.length c4 x3.2.1] := H23.pick [3, 1, 2] (by kernel_rfl)
        have gs1 := M.ret_some gs1
        subst gs1
        exact Run_fall [6, 7, 8] (by kernel_rfl) ⟨rfl, H38⟩

set_option maxRecDepth 100000 in
set_option maxHeartbeats 4000000 in
theorem w_impl_allWithin (h : Heap) (list : List Int) {Slist : Bs} (alist : Option Addr) (clist : Nat) (rlist : Rd cd2 h Slist alist clist list) (low : Int) (high : Int) (n : Nat) (r : Bool) (hF : impl_allWithin list low high n = some r) :
    Fn Try.prog 128 #[.slice alist list.length clist, .int .i64 low, .int .i64 high] h fun v h' => v = .bool r ∧ h' = h := by
  unfold impl_allWithin at hF
  refine Fn_enter (args := [.slice alist list.length clist, .int .i64 low, .int .i64 high]) Try.func128 rfl (by kernel_rfl) (by kernel_rfl) (fun w0 _ => ?_)
  refine Run_seq ?_
  refine Run_reg 1 (by kernel_rfl) (L' := [(0, .slice alist list.length clist), (1, .int .i64 low), (2, .int .i64 high)]) ?_ ?_
  · refine QRun_b [.bool false] 0 _ (by kernel_rfl) (fun w => by kernel_rfl) ?_
    exact QRun_done [0, 1, 2] (by kernel_rfl) (by kernel_rfl)
  refine Run_seq ?_
  refine Run_seq ?_
  refine Run_reg 3 (by kernel_rfl) (L' := [(1, .int .i64 low), (2, .int .i64 high), (9, .slice alist list.length clist), (10, .int .i64 (list.length : Int)), (11, .int .i64 0)]) ?_ ?_
  · refine QRun_b [.slice alist list.length clist, .int .i64 (list.length : Int), .int .i64 0] 0 _ (by kernel_rfl) (fun w => by kernel_rfl) ?_
    exact QRun_done [1, 2, 9, 10, 11] (by kernel_rfl) (by kernel_rfl)
  obtain ⟨x1, gx1, hF⟩ := M.bind_some hF
  obtain ⟨hloy1, hhiy1, gx1⟩ := M.for_start gx1
  refine Run_join (fun L' h' => ∃ (s2 : Unit), x1 = .inl s2 ∧ L' = [] ∧ h = h') ?_ ?_
  · rintro _ _ ⟨s2, es2, rfl, rfl⟩
    have hF := M.cont_inl' hF es2
    refine Run_seq ?_
    refine Run_reg 1 (by kernel_rfl) (L' := [(6, .bool true)]) ?_ ?_
    · refine QRun_b [.bool true] 0 _ (by kernel_rfl) (fun w => by kernel_rfl) ?_
      exact QRun_done [6] (by kernel_rfl) (by kernel_rfl)
    have hF := M.ret_some hF
    subst hF
    exact Run_ret1 rfl (ResV_tmp (v := .bool true) (by kernel_rfl)) ⟨rfl, rfl⟩
  · refine Run_block ?_
    refine Run_keep [1, 2, 9, 10, 11] (L' := [(1, .int .i64 low), (2, .int .i64 high), (9, .slice alist list.length clist), (10, .int .i64 (list.length : Int)), (11, .int .i64 0)]) (by kernel_rfl) ?_
    refine Run_loop (fun m L' h' => ∃ (i1 : Int) (s1 : Unit), 0 ≤ i1 ∧ M.forN (list.length : Int) _ _ n m i1 s1 = some x1 ∧ L' = [(1, .int .i64 low), (2, .int .i64 high), (9, .slice alist list.length clist), (10, .int .i64 (list.length : Int)), (11, .int .i64 i1)] ∧ h = h') ((list.length : Int) - 0 : Int).toNat ⟨0, (), Int.le_refl _, gx1, rfl, rfl⟩ ?_
    rintro my1 _ _ ⟨i1, s1, hloy1', gx1, rfl, rfl⟩
    refine Run_seq ?_
    refine Run_reg 1 (by kernel_rfl) (L' := [(1, .int .i64 low), (2, .int .i64 high), (9, .slice alist list.length clist), (10, .int .i64 (list.length : Int)), (11, .int .i64 i1), (12, .bool (decide (i1 < (list.length : Int))))]) ?_ ?_
    · refine QRun_b [.bool (decide (i1 < (list.length : Int)))] 0 _ (by kernel_rfl) (fun w => by kernel_rfl) ?_
      exact QRun_done [1, 2, 9, 10, 11, 12] (by kernel_rfl) (by kernel_rfl)
    refine Run_seq ?_
    refine Run_cond (b := decide (i1 < (list.length : Int))) (by kernel_rfl) (fun hb1 => ?_) (fun hb1 => ?_)
    · obtain ⟨my1, y1, rfl, hB1, hgoy1, houty1⟩ := M.for_go gx1 hb1
      have hlty1 := of_decide_eq_true hb1
      refine Run_skip ?_
      refine Run_seq ?_
      refine Run_block ?_
      refine Run_seq ?_
      obtain ⟨x2, hx1, hB1⟩ := M.bind_some hB1
      obtain ⟨hx1l, hx1u, hx1⟩ := M.idx_some hx1
      refine Run_reg 3 (by kernel_rfl) (L' := [(1, .int .i64 low), (2, .int .i64 high), (8, .int .i64 x2), (9, .slice alist list.length clist), (10, .int .i64 (list.length : Int)), (11, .int .i64 i1)]) ?_ ?_
      · refine QRun_y (.pointer (some (adr alist (i1.toNat * 1)))) (by kernel_rfl) (Y_idx (t := 39) (e := 2) (sz := 1) (a := alist) (n := list.length) (cap := clist) (kk := .i64) (i := i1) (by kernel_rfl) Try.underlying39 (by kernel_rfl) (rlist.cell hx1).1 hx1l hx1u) ?_
        refine QRun_y (.int .i64 x2) (by kernel_rfl) (Y_load1 (t := 2) (p := adr alist (i1.toNat * 1)) (v := .int .i64 x2) (by kernel_rfl) (fun w => by kernel_rfl) (cd2_cell rlist hx1)) ?_
        refine QRun_b [.int .i64 x2] 2 _ (by kernel_rfl) (fun w => by kernel_rfl) ?_
        exact QRun_done [1, 2, 8, 9, 10, 11] (by kernel_rfl) (by kernel_rfl)
      refine Run_seq ?_
      obtain ⟨x3, hx2, hB1⟩ := M.bind_some hB1
      refine Run_reg 5 (by kernel_rfl) (L' := [(1, .int .i64 low), (2, .int .i64 high), (9, .slice alist list.length clist), (10, .int .i64 (list.length : Int)), (11, .int .i64 i1), (19, .bool (!x3))]) ?_ ?_
      · refine QRun_b [.int .i64 x2, .int .i64 low, .int .i64 high] 0 _ (by kernel_rfl) (fun w => by kernel_rfl) ?_
        refine QRun_y (.bool x3) (by kernel_rfl) (Y_callq (f := 108) (args := #[.int .i64 x2, .int .i64 low, .int .i64 high]) (v := .bool x3) (by kernel_rfl) (w_impl_within h x2 low high _ _ hx2)) ?_
        refine QRun_b [.bool (!x3)] 4 _ (by kernel_rfl) (fun w => by kernel_rfl) ?_
        exact QRun_done [1, 2, 9, 10, 11, 19] (by kernel_rfl) (by kernel_rfl)
      refine Run_cond (b := !x3) (by kernel_rfl) (fun hb2 => ?_) (fun hb2 => ?_)
      · have hB1 := (M.ite_some hB1).1 hb2
        refine Run_seq ?_
        refine Run_reg 1 (by kernel_rfl) (L' := [(6, .bool false)]) ?_ ?_
        · refine QRun_b [.bool false] 0 _ (by kernel_rfl) (fun w => by kernel_rfl) ?_
          exact QRun_done [6] (by kernel_rfl) (by kernel_rfl)
        have hB1 := M.ret_some hB1
        have gx1 := houty1 _ hB1.symm
        have hF := M.cont_inr' hF gx1
        have hF := M.ret_some hF
        subst hF
        exact Run_ret1 rfl (ResV_tmp (v := .bool false) (by kernel_rfl)) ⟨rfl, rfl⟩
      · have hB1 := (M.ite_some hB1).2 hb2
        refine Run_skip ?_
        refine Run_blk ?_
        refine Run_reg 2 (by kernel_rfl) (L' := [(1, .int .i64 low), (2, .int .i64 high), (9, .slice alist list.length clist), (10, .int .i64 (list.length : Int)), (11, .int .i64 (i1 + 1))]) ?_ ?_
        · refine QRun_y (.int .i64 (i1 + 1)) (by kernel_rfl) (Y_eq (v := .int .i64 (w64 (i1 + 1))) (Y_pure (fun w => by kernel_rfl)) (by rw [w64_eq _ (by omega)])) ?_
          refine QRun_b [.int .i64 (i1 + 1)] 1 _ (by kernel_rfl) (fun w => by kernel_rfl) ?_
          exact QRun_done [1, 2, 9, 10, 11] (by kernel_rfl) (by kernel_rfl)
        have hB1 := M.ret_some hB1
        have gx1 := hgoy1 _ hB1.symm
        exact Run_again [1, 2, 9, 10, 11] (by kernel_rfl) my1 (Nat.lt_succ_self _) ⟨i1 + 1, (), by omega, gx1, rfl, rfl⟩
    · have gx1 := M.for_end gx1 hb1
      subst gx1
      refine Run_exit (k' := _) rfl ?_
      exact Run_fall [] (by kernel_rfl) ⟨(), rfl, rfl, rfl⟩

set_option maxRecDepth 100000 in
set_option maxHeartbeats 4000000 in
theorem w_impl_IsDual (h : Heap) (a_ : List (List Int)) (aa_ : Option Addr) (ca_ : Nat) (ra_ : Rd cd39 h (Lt h) aa_ ca_ a_) (u : List Int) (au : Option Addr) (cu : Nat) (ru : Rd cd2 h (Lt h) au cu u) (v_ : List Int) (av_ : Option Addr) (cv_ : Nat) (rv_ : Rd cd2 h (Lt h) av_ cv_ v_) (n : Nat) (r : Bool) (hF : impl_IsDual a_ u v_ n = some r) :
    Fn Try.prog 49 #[.slice aa_ a_.length ca_, .slice au u.length cu, .slice av_ v_.length cv_] h fun v h' => v = .bool r ∧ Hold h h' [] := by
  unfold impl_IsDual at hF
  refine Fn_enter (args := [.slice aa_ a_.length ca_, .slice au u.length cu, .slice av_ v_.length cv_]) Try.func49 rfl (by kernel_rfl) (by kernel_rfl) (fun w0 _ => ?_)
  have H0 := Hold.init h
  refine Run_seq ?_
  refine Run_reg 1 (by kernel_rfl) (L' := [(0, .slice aa_ a_.length ca_), (1, .slice au u.length cu), (2, .slice av_ v_.length cv_)]) ?_ ?_
  · refine QRun_b [.bool false] 0 _ (by kernel_rfl) (fun w => by kernel_rfl) ?_
    exact QRun_done [0, 1, 2] (by kernel_rfl) (by kernel_rfl)
  refine Run_seq ?_
  refine Run_seq ?_
  obtain ⟨x1, hx1, hF⟩ := M.bind_some hF
  obtain ⟨x4, gx4, hF⟩ := M.bind_some hF
  obtain ⟨x6, gx6, hF⟩ := M.bind_some hF
  refine Run_regC (j := 27) (C := fun x => Hold h x []) (by kernel_rfl) H0 (L' := [(0, .slice aa_ a_.length ca_), (1, .slice au u.length cu), (2, .slice av_ v_.length cv_), (37, .bool x6)]) ?_ (fun h1 H1 => ?_)
  · refine QRun_b [.slice aa_ a_.length ca_] 0 _ (by kernel_rfl) (fun w => by kernel_rfl) ?_
    refine QRun_y (.bool x1) (by kernel_rfl) (Y_call (f := 89) (args := #[.slice aa_ a_.length ca_]) (v := .bool x1) (by kernel_rfl) fun hx Hx => (w_impl_isSquare hx a_ aa_ ca_ (ra_.at Hx.ext) _ _ hx1).mono fun _ _ ⟨e, H'⟩ => ⟨e, Hx.call H' rfl⟩) ?_
    refine QRun_b [.bool (!x1)] 2 _ (by kernel_rfl) (fun w => by kernel_rfl) ?_
    refine QRun_seq 10 [(0, .slice aa_ a_.length ca_), (1, .slice au u.length cu), (2, .slice av_ v_.length cv_), (20, .bool ((!x1) || ((u.length : Int) != (a_.length : Int))))] ?_ ?_
    · rcases Bool.eq_false_or_eq_true (!x1) with hb1 | hb1
      · refine QRun_bool (!x1) true (by kernel_rfl) (fun w => by kernel_rfl) hb1 ?_
        refine QRun_n (by kernel_rfl) ?_
        refine QRun_n (by kernel_rfl) ?_
        refine QRun_n (by kernel_rfl) ?_
        refine QRun_n (by kernel_rfl) ?_
        refine QRun_n (by kernel_rfl) ?_
        refine QRun_bool true ((!x1) || ((u.length : Int) != (a_.length : Int))) (by kernel_rfl) (fun w => by kernel_rfl) (by rw [hb1]; rfl) ?_
        exact QRun_done [0, 1, 2, 20] (by kernel_rfl) (by kernel_rfl)
      · refine QRun_bool (!x1) false (by kernel_rfl) (fun w => by kernel_rfl) hb1 ?_
        refine QRun_b [.slice au u.length cu, .int .i64 (u.length : Int), .slice aa_ a_.length ca_, .int .i64 (a_.length : Int), .bool ((u.length : Int) != (a_.length : Int))] 4 _ (by kernel_rfl) (fun w => by kernel_rfl) ?_
        refine QRun_bool ((u.length : Int) != (a_.length : Int)) ((!x1) || ((u.length : Int) != (a_.length : Int))) (by kernel_rfl) (fun w => by kernel_rfl) (by rw [hb1]; rfl) ?_
        exact QRun_done [0, 1, 2, 20] (by kernel_rfl) (by kernel_rfl)
    refine QRun_seq 17 [(0, .slice aa_ a_.length ca_), (1, .slice au u.length cu), (2, .slice av_ v_.length cv_), (27, .bool (((!x1) || ((u.length : Int) != (a_.length : Int))) || ((v_.length : Int) != (a_.length : Int))))] ?_ ?_
    · rcases Bool.eq_false_or_eq_true ((!x1) || ((u.length : Int) != (a_.length : Int))) with hb2 | hb2
      · refine QRun_bool ((!x1) || ((u.length : Int) != (a_.length : Int))) true (by kernel_rfl) (fun w => by kernel_rfl) hb2 ?_
        refine QRun_n (by kernel_rfl) ?_
        refine QRun_n (by kernel_rfl) ?_
        refine QRun_n (by kernel_rfl) ?_
        refine QRun_n (by kernel_rfl) ?_
        refine QRun_n (by kernel_rfl) ?_
        refine QRun_bool true (((!x1) || ((u.length : Int) != (a_.length : Int))) || ((v_.length : Int) != (a_.length : Int))) (by kernel_rfl) (fun w => by kernel_rfl) (by rw [hb2]; rfl) ?_
        exact QRun_done [0, 1, 2, 27] (by kernel_rfl) (by kernel_rfl)
      · refine QRun_bool ((!x1) || ((u.length : Int) != (a_.length : Int))) false (by kernel_rfl) (fun w => by kernel_rfl) hb2 ?_
        refine QRun_b [.slice av_ v_.length cv_, .int .i64 (v_.length : Int), .slice aa_ a_.length ca_, .int .i64 (a_.length : Int), .bool ((v_.length : Int) != (a_.length : Int))] 11 _ (by kernel_rfl) (fun w => by kernel_rfl) ?_
        refine QRun_bool ((v_.length : Int) != (a_.length : Int)) (((!x1) || ((u.length : Int) != (a_.length : Int))) || ((v_.length : Int) != (a_.length : Int))) (by kernel_rfl) (fun w => by kernel_rfl) (by rw [hb2]; rfl) ?_
        exact QRun_done [0, 1, 2, 27] (by kernel_rfl) (by kernel_rfl)
    refine QRun_seq 22 [(0, .slice aa_ a_.length ca_), (1, .slice au u.length cu), (2, .slice av_ v_.length cv_), (32, .bool x4)] ?_ ?_
    · rcases Bool.eq_false_or_eq_true (((!x1) || ((u.length : Int) != (a_.length : Int))) || ((v_.length : Int) != (a_.length : Int))) with hb3 | hb3
      · refine QRun_bool (((!x1) || ((u.length : Int) != (a_.length : Int))) || ((v_.length : Int) != (a_.length : Int))) true (by kernel_rfl) (fun w => by kernel_rfl) hb3 ?_
        have gx4 := M.ret_some ((M.ite_some gx4).1 hb3)
        refine QRun_n (by kernel_rfl) ?_
        refine QRun_n (by kernel_rfl) ?_
        refine QRun_n (by kernel_rfl) ?_
        refine QRun_bool true x4 (by kernel_rfl) (fun w => by kernel_rfl) gx4 ?_
        exact QRun_done [0, 1, 2, 32] (by kernel_rfl) (by kernel_rfl)
      · refine QRun_bool (((!x1) || ((u.length : Int) != (a_.length : Int))) || ((v_.length : Int) != (a_.length : Int))) false (by kernel_rfl) (fun w => by kernel_rfl) hb3 ?_
        have gx4 := (M.ite_some gx4).2 hb3
        obtain ⟨x5, hx2, gx4⟩ := M.bind_some gx4
        have gx4 := M.ret_some gx4
        refine QRun_b [.slice au u.length cu] 18 _ (by kernel_rfl) (fun w => by kernel_rfl) ?_
        refine QRun_y (.bool x5) (by kernel_rfl) (Y_cls fun hx Hx => (Y_callq (f := 128) (args := #[.slice au u.length cu, .int .i64 (-1000000), .int .i64 1000000]) (v := .bool x5) (by kernel_rfl) (w_impl_allWithin hx u au cu (ru.at Hx.ext) (-1000000) 1000000 _ _ hx2))) ?_
        refine QRun_b [.bool (!x5)] 20 _ (by kernel_rfl) (fun w => by kernel_rfl) ?_
        refine QRun_bool (!x5) x4 (by kernel_rfl) (fun w => by kernel_rfl) gx4 ?_
        exact QRun_done [0, 1, 2, 32] (by kernel_rfl) (by kernel_rfl)
    refine QRun_seq 27 [(0, .slice aa_ a_.length ca_), (1, .slice au u.length cu), (2, .slice av_ v_.length cv_), (37, .bool x6)] ?_ ?_
    · rcases Bool.eq_false_or_eq_true x4 with hb4 | hb4
      · refine QRun_bool x4 true (by kernel_rfl) (fun w => by kernel_rfl) hb4 ?_
        have gx6 := M.ret_some ((M.ite_some gx6).1 hb4)
        refine QRun_n (by kernel_rfl) ?_
        refine QRun_n (by kernel_rfl) ?_
        refine QRun_n (by kernel_rfl) ?_
        refine QRun_bool true x6 (by kernel_rfl) (fun w => by kernel_rfl) gx6 ?_
        exact QRun_done [0, 1, 2, 37] (by kernel_rfl) (by kernel_rfl)
      · refine QRun_bool x4 false (by kernel_rfl) (fun w => by kernel_rfl) hb4 ?_
        have gx6 := (M.ite_some gx6).2 hb4
        obtain ⟨x7, hx3, gx6⟩ := M.bind_some gx6
        have gx6 := M.ret_some gx6
        refine QRun_b [.slice av_ v_.length cv_] 23 _ (by kernel_rfl) (fun w => by kernel_rfl) ?_
        refine QRun_y (.bool x7) (by kernel_rfl) (Y_cls fun hx Hx => (Y_callq (f := 128) (args := #[.slice av_ v_.length cv_, .int .i64 (-1000000), .int .i64 1000000]) (v := .bool x7) (by kernel_rfl) (w_impl_allWithin hx v_ av_ cv_ (rv_.at Hx.ext) (-1000000) 1000000 _ _ hx3))) ?_
        refine QRun_b [.bool (!x7)] 25 _ (by kernel_rfl) (fun w => by kernel_rfl) ?_
        refine QRun_bool (!x7) x6 (by kernel_rfl) (fun w => by kernel_rfl) gx6 ?_
        exact QRun_done [0, 1, 2, 37] (by kernel_rfl) (by kernel_rfl)
    exact QRun_done [0, 1, 2, 37] (by kernel_rfl) (by kernel_rfl)
  have H2 : Hold h h1 [] := H1
  refine Run_cond (b := x6) (by kernel_rfl) (fun hb5 => ?_) (fun hb5 => ?_)
  · have hF := (M.ite_some hF).1 hb5
    refine Run_seq ?_
    refine Run_reg 1 (by kernel_rfl) (L' := [(6, .bool false)]) ?_ ?_
    · refine QRun_b [.bool false] 0 _ (by kernel_rfl) (fun w => by kernel_rfl) ?_
      exact QRun_done [6] (by kernel_rfl) (by kernel_rfl)
    have hF := M.ret_some hF
    subst hF
    exact Run_ret1 rfl (ResV_tmp (v := .bool false) (by kernel_rfl)) ⟨rfl, H2⟩
  · have hF := (M.ite_some hF).2 hb5
    refine Run_skip ?_
    refine Run_seq ?_
    refine Run_seq ?_
    refine Run_reg 3 (by kernel_rfl) (L' := [(1, .slice au u.length cu), (2, .slice av_ v_.length cv_), (38, .slice aa_ a_.length ca_), (39, .int .i64 (a_.length : Int)), (40, .int .i64 0)]) ?_ ?_
    · refine QRun_b [.slice aa_ a_.length ca_, .int .i64 (a_.length : Int), .int .i64 0] 0 _ (by kernel_rfl) (fun w => by kernel_rfl) ?_
      exact QRun_done [1, 2, 38, 39, 40] (by kernel_rfl) (by kernel_rfl)
    obtain ⟨x8, gx8, hF⟩ := M.bind_some hF
    obtain ⟨hloy1, hhiy1, gx8⟩ := M.for_start gx8
    refine Run_join (fun L' h' => ∃ (s2 : Unit), x8 = .inl s2 ∧ L' = [] ∧ Hold h h' []) ?_ ?_
    · rintro _ h3 ⟨s2, es2, rfl, H4⟩
      have hF := M.cont_inl' hF es2
      refine Run_seq ?_
      refine Run_reg 1 (by kernel_rfl) (L' := [(6, .bool true)]) ?_ ?_
      · refine QRun_b [.bool true] 0 _ (by kernel_rfl) (fun w => by kernel_rfl) ?_
        exact QRun_done [6] (by kernel_rfl) (by kernel_rfl)
      have hF := M.ret_some hF
      subst hF
      exact Run_ret1 rfl (ResV_tmp (v := .bool true) (by kernel_rfl)) ⟨rfl, H4⟩
    · refine Run_block ?_
      refine Run_keep [1, 2, 38, 39, 40] (L' := [(1, .slice au u.length cu), (2, .slice av_ v_.length cv_), (38, .slice aa_ a_.length ca_), (39, .int .i64 (a_.length : Int)), (40, .int .i64 0)]) (by kernel_rfl) ?_
      refine Run_loop (fun m L' h' => ∃ (i1 : Int) (s1 : Unit), 0 ≤ i1 ∧ M.forN (a_.length : Int) _ _ n m i1 s1 = some x8 ∧ L' = [(1, .slice au u.length cu), (2, .slice av_ v_.length cv_), (38, .slice aa_ a_.length ca_), (39, .int .i64 (a_.length : Int)), (40, .int .i64 i1)] ∧ Hold h h' []) ((a_.length : Int) - 0 : Int).toNat ⟨0, (), Int.le_refl _, gx8, rfl, H2⟩ ?_
      rintro my1 _ h2 ⟨i1, s1, hloy1', gx8, rfl, H3⟩
      refine Run_seq ?_
      refine Run_reg 1 (by kernel_rfl) (L' := [(1, .slice au u.length cu), (2, .slice av_ v_.length cv_), (38, .slice aa_ a_.length ca_), (39, .int .i64 (a_.length : Int)), (40, .int .i64 i1), (41, .bool (decide (i1 < (a_.length : Int))))]) ?_ ?_
      · refine QRun_b [.bool (decide (i1 < (a_.length : Int)))] 0 _ (by kernel_rfl) (fun w => by kernel_rfl) ?_
        exact QRun_done [1, 2, 38, 39, 40, 41] (by kernel_rfl) (by kernel_rfl)
      refine Run_seq ?_
      refine Run_cond (b := decide (i1 < (a_.length : Int))) (by kernel_rfl) (fun hb6 => ?_) (fun hb6 => ?_)
      · obtain ⟨my1, y1, rfl, hB1, hgoy1, houty1⟩ := M.for_go gx8 hb6
        have hlty1 := of_decide_eq_true hb6
        refine Run_skip ?_
        refine Run_seq ?_
        refine Run_block ?_
        refine Run_seq ?_
        obtain ⟨x9, hx4, hB1⟩ := M.bind_some hB1
        obtain ⟨hx4l, hx4u, hx4⟩ := M.idx_some hx4
        obtain ⟨a1, c1, hc1, r1⟩ := ra_.row hx4
        refine Run_reg 5 (by kernel_rfl) (L' := [(1, .slice au u.length cu), (2, .slice av_ v_.length cv_), (7, .int .i64 i1), (8, .slice a1 x9.length c1), (38, .slice aa_ a_.length ca_), (39, .int .i64 (a_.length : Int)), (40, .int .i64 i1)]) ?_ ?_
        · refine QRun_b [.int .i64 i1] 0 _ (by kernel_rfl) (fun w => by kernel_rfl) ?_
          refine QRun_y (.pointer (some (adr aa_ (i1.toNat * 1)))) (by kernel_rfl) (Y_idx (t := 37) (e := 39) (sz := 1) (a := aa_) (n := a_.length) (cap := ca_) (kk := .i64) (i := i1) (by kernel_rfl) Try.underlying37 (by kernel_rfl) ((ra_.at H3.ext).cell hx4).1 hx4l hx4u) ?_
          refine QRun_y (.slice a1 x9.length c1) (by kernel_rfl) (Y_load1 (t := 39) (p := adr aa_ (i1.toNat * 1)) (v := .slice a1 x9.length c1) (by kernel_rfl) (fun w => by kernel_rfl) (cell_at H3.ext hc1)) ?_
          refine QRun_b [.int .i64 i1, .slice a1 x9.length c1] 3 _ (by kernel_rfl) (fun w => by kernel_rfl) ?_
          exact QRun_done [1, 2, 7, 8, 38, 39, 40] (by kernel_rfl) (by kernel_rfl)
        refine Run_seq ?_
        refine Run_reg 3 (by kernel_rfl) (L' := [(1, .slice au u.length cu), (2, .slice av_ v_.length cv_), (7, .int .i64 i1), (38, .slice aa_ a_.length ca_), (39, .int .i64 (a_.length : Int)), (40, .int .i64 i1), (45, .slice a1 x9.length c1), (46, .int .i64 (x9.length : Int)), (47, .int .i64 0)]) ?_ ?_
        · refine QRun_b [.slice a1 x9.length c1, .int .i64 (x9.length : Int), .int .i64 0] 0 _ (by kernel_rfl) (fun w => by kernel_rfl) ?_
          exact QRun_done [1, 2, 7, 38, 39, 40, 45, 46, 47] (by kernel_rfl) (by kernel_rfl)
        obtain ⟨x10, gx10, hB1⟩ := M.bind_some hB1
        obtain ⟨hloy2, hhiy2, gx10⟩ := M.for_start gx10
        refine Run_join (fun L' h' => ∃ (s4 : Unit), x10 = .inl s4 ∧ L' = [(1, .slice au u.length cu), (2, .slice av_ v_.length cv_), (38, .slice aa_ a_.length ca_), (39, .int .i64 (a_.length : Int)), (40, .int .i64 i1)] ∧ Hold h h' []) ?_ ?_
        · rintro _ h5 ⟨s4, es4, rfl, H6⟩
          have hB1 := M.cont_inl' hB1 es4
          refine Run_blk ?_
          refine Run_reg 2 (by kernel_rfl) (L' := [(1, .slice au u.length cu), (2, .slice av_ v_.length cv_), (38, .slice aa_ a_.length ca_), (39, .int .i64 (a_.length : Int)), (40, .int .i64 (i1 + 1))]) ?_ ?_
          · refine QRun_y (.int .i64 (i1 + 1)) (by kernel_rfl) (Y_eq (v := .int .i64 (w64 (i1 + 1))) (Y_pure (fun w => by kernel_rfl)) (by rw [w64_eq _ (by omega)])) ?_
            refine QRun_b [.int .i64 (i1 + 1)] 1 _ (by kernel_rfl) (fun w => by kernel_rfl) ?_
            exact QRun_done [1, 2, 38, 39, 40] (by kernel_rfl) (by kernel_rfl)
          have hB1 := M.ret_some hB1
          have gx8 := hgoy1 _ hB1.symm
          exact Run_again [1, 2, 38, 39, 40] (by kernel_rfl) my1 (Nat.lt_succ_self _) ⟨i1 + 1, (), by omega, gx8, rfl, H6⟩
        · refine Run_block ?_
          refine Run_keep [1, 2, 7, 38, 39, 40, 45, 46, 47] (L' := [(1, .slice au u.length cu), (2, .slice av_ v_.length cv_), (7, .int .i64 i1), (38, .slice aa_ a_.length ca_), (39, .int .i64 (a_.length : Int)), (40, .int .i64 i1), (45, .slice a1 x9.length c1), (46, .int .i64 (x9.length : Int)), (47, .int .i64 0)]) (by kernel_rfl) ?_
          refine Run_loop (fun m L' h' => ∃ (i2 : Int) (s3 : Unit), 0 ≤ i2 ∧ M.forN (x9.length : Int) _ _ n m i2 s3 = some x10 ∧ L' = [(1, .slice au u.length cu), (2, .slice av_ v_.length cv_), (7, .int .i64 i1), (38, .slice aa_ a_.length ca_), (39, .int .i64 (a_.length : Int)), (40, .int .i64 i1), (45, .slice a1 x9.length c1), (46, .int .i64 (x9.length : Int)), (47, .int .i64 i2)] ∧ Hold h h' []) ((x9.length : Int) - 0 : Int).toNat ⟨0, (), Int.le_refl _, gx10, rfl, H3⟩ ?_
          rintro my2 _ h4 ⟨i2, s3, hloy2', gx10, rfl, H5⟩
          refine Run_seq ?_
          refine Run_reg 1 (by kernel_rfl) (L' := [(1, .slice au u.length cu), (2, .slice av_ v_.length cv_), (7, .int .i64 i1), (38, .slice aa_ a_.length ca_), (39, .int .i64 (a_.length : Int)), (40, .int .i64 i1), (45, .slice a1 x9.length c1), (46, .int .i64 (x9.length : Int)), (47, .int .i64 i2), (48, .bool (decide (i2 < (x9.length : Int))))]) ?_ ?_
          · refine QRun_b [.bool (decide (i2 < (x9.length : Int)))] 0 _ (by kernel_rfl) (fun w => by kernel_rfl) ?_
            exact QRun_done [1, 2, 7, 38, 39, 40, 45, 46, 47, 48] (by kernel_rfl) (by kernel_rfl)
          refine Run_seq ?_
          refine Run_cond (b := decide (i2 < (x9.length : Int))) (by kernel_rfl) (fun hb7 => ?_) (fun hb7 => ?_)
          · obtain ⟨my2, y2, rfl, hB2, hgoy2, houty2⟩ := M.for_go gx10 hb7
            have hlty2 := of_decide_eq_true hb7
            refine Run_skip ?_
            refine Run_seq ?_
            refine Run_block ?_
            refine Run_seq ?_
            obtain ⟨x11, hx5, hB2⟩ := M.bind_some hB2
            obtain ⟨hx5l, hx5u, hx5⟩ := M.idx_some hx5
            refine Run_reg 5 (by kernel_rfl) (L' := [(1, .slice au u.length cu), (2, .slice av_ v_.length cv_), (7, .int .i64 i1), (9, .int .i64 i2), (10, .int .i64 x11), (38, .slice aa_ a_.length ca_), (39, .int .i64 (a_.length : Int)), (40, .int .i64 i1), (45, .slice a1 x9.length c1), (46, .int .i64 (x9.length : Int)), (47, .int .i64 i2)]) ?_ ?_
            · refine QRun_b [.int .i64 i2] 0 _ (by kernel_rfl) (fun w => by kernel_rfl) ?_
              refine QRun_y (.pointer (some (adr a1 (i2.toNat * 1)))) (by kernel_rfl) (Y_idx (t := 39) (e := 2) (sz := 1) (a := a1) (n := x9.length) (cap := c1) (kk := .i64) (i := i2) (by kernel_rfl) Try.underlying39 (by kernel_rfl) ((r1.at H5.ext).cell hx5).1 hx5l hx5u) ?_
              refine QRun_y (.int .i64 x11) (by kernel_rfl) (Y_load1 (t := 2) (p := adr a1 (i2.toNat * 1)) (v := .int .i64 x11) (by kernel_rfl) (fun w => by kernel_rfl) (cd2_cell (r1.at H5.ext) hx5)) ?_
              refine QRun_b [.int .i64 i2, .int .i64 x11] 3 _ (by kernel_rfl) (fun w => by kernel_rfl) ?_
              exact QRun_done [1, 2, 7, 9, 10, 38, 39, 40, 45, 46, 47] (by kernel_rfl) (by kernel_rfl)
            refine Run_seq ?_
            obtain ⟨x12, gx12, hB2⟩ := M.bind_some hB2
            refine Run_draw 15 mixed (by kernel_rfl) (by kernel_rfl) (L' := [(1, .slice au u.length cu), (2, .slice av_ v_.length cv_), (7, .int .i64 i1), (38, .slice aa_ a_.length ca_), (39, .int .i64 (a_.length : Int)), (40, .int .i64 i1), (45, .slice a1 x9.length c1), (46, .int .i64 (x9.length : Int)), (47, .int .i64 i2), (66, .bool x12)]) ?_ ?_
            · refine QRun_b [.int .i64 x11, .bool (x11 != (-1000000000000000))] 0 _ (by kernel_rfl) (fun w => by kernel_rfl) ?_
              refine QRun_seq 15 [(1, .slice au u.length cu), (2, .slice av_ v_.length cv_), (7, .int .i64 i1), (38, .slice aa_ a_.length ca_), (39, .int .i64 (a_.length : Int)), (40, .int .i64 i1), (45, .slice a1 x9.length c1), (46, .int .i64 (x9.length : Int)), (47, .int .i64 i2), (66, .bool x12)] ?_ ?_
              · rcases Bool.eq_false_or_eq_true (x11 != (-1000000000000000)) with hb8 | hb8
                · refine QRun_bool (x11 != (-1000000000000000)) true (by kernel_rfl) (fun w => by kernel_rfl) hb8 ?_
                  have gx12 := (M.ite_some gx12).1 hb8
                  obtain ⟨x13, hx6, gx12⟩ := M.bind_some gx12
                  obtain ⟨hx6l, hx6u, hx6⟩ := M.idx_some hx6
                  obtain ⟨x14, hx7, gx12⟩ := M.bind_some gx12
                  obtain ⟨hx7l, hx7u, hx7⟩ := M.idx_some hx7
                  have gx12 := M.ret_some gx12
                  refine QRun_b [.slice au u.length cu, .int .i64 i1] 3 _ (by kernel_rfl) (fun w => by kernel_rfl) ?_
                  refine QRun_y (.pointer (some (adr au (i1.toNat * 1)))) (by kernel_rfl) (Y_idx (t := 39) (e := 2) (sz := 1) (a := au) (n := u.length) (cap := cu) (kk := .i64) (i := i1) (by kernel_rfl) Try.underlying39 (by kernel_rfl) ((ru.at H5.ext).cell hx6).1 hx6l hx6u) ?_
                  refine QRun_y (.int .i64 x13) (by kernel_rfl) (Y_load1 (t := 2) (p := adr au (i1.toNat * 1)) (v := .int .i64 x13) (by kernel_rfl) (fun w => by kernel_rfl) (cd2_cell (ru.at H5.ext) hx6)) ?_
                  refine QRun_b [.slice av_ v_.length cv_, .int .i64 i2] 7 _ (by kernel_rfl) (fun w => by kernel_rfl) ?_
                  refine QRun_y (.pointer (some (adr av_ (i2.toNat * 1)))) (by kernel_rfl) (Y_idx (t := 39) (e := 2) (sz := 1) (a := av_) (n := v_.length) (cap := cv_) (kk := .i64) (i := i2) (by kernel_rfl) Try.underlying39 (by kernel_rfl) ((rv_.at H5.ext).cell hx7).1 hx7l hx7u) ?_
                  refine QRun_y (.int .i64 x14) (by kernel_rfl) (Y_load1 (t := 2) (p := adr av_ (i2.toNat * 1)) (v := .int .i64 x14) (by kernel_rfl) (fun w => by kernel_rfl) (cd2_cell (rv_.at H5.ext) hx7)) ?_
                  refine QRun_b [.int .i64 (w64 (x13 + x14)), .int .i64 x11, .bool (decide ((w64 (x13 + x14)) < x11))] 11 _ (by kernel_rfl) (fun w => by kernel_rfl) ?_
                  refine QRun_bool (decide ((w64 (x13 + x14)) < x11)) x12 (by kernel_rfl) (fun w => by kernel_rfl) gx12 ?_
                  exact QRun_done [1, 2, 7, 38, 39, 40, 45, 46, 47, 66] (by kernel_rfl) (by kernel_rfl)
                · refine QRun_bool (x11 != (-1000000000000000)) false (by kernel_rfl) (fun w => by kernel_rfl) hb8 ?_
                  have gx12 := M.ret_some ((M.ite_some gx12).2 hb8)
                  refine QRun_n (by kernel_rfl) ?_
                  refine QRun_n (by kernel_rfl) ?_
                  refine QRun_n (by kernel_rfl) ?_
                  refine QRun_n (by kernel_rfl) ?_
                  refine QRun_n (by kernel_rfl) ?_
                  refine QRun_n (by kernel_rfl) ?_
                  refine QRun_n (by kernel_rfl) ?_
                  refine QRun_n (by kernel_rfl) ?_
                  refine QRun_n (by kernel_rfl) ?_
                  refine QRun_n (by kernel_rfl) ?_
                  refine QRun_n (by kernel_rfl) ?_
                  refine QRun_bool false x12 (by kernel_rfl) (fun w => by kernel_rfl) gx12 ?_
                  exact QRun_done [1, 2, 7, 38, 39, 40, 45, 46, 47, 66] (by kernel_rfl) (by kernel_rfl)
              exact QRun_done [1, 2, 7, 38, 39, 40, 45, 46, 47, 66] (by kernel_rfl) (by kernel_rfl)
            refine Run_cond (b := x12) (by kernel_rfl) (fun hb9 => ?_) (fun hb9 => ?_)
            · have hB2 := (M.ite_some hB2).1 hb9
              refine Run_seq ?_
              refine Run_reg 1 (by kernel_rfl) (L' := [(6, .bool false)]) ?_ ?_
              · refine QRun_b [.bool false] 0 _ (by kernel_rfl) (fun w => by kernel_rfl) ?_
                exact QRun_done [6] (by kernel_rfl) (by kernel_rfl)
              have hB2 := M.ret_some hB2
              have gx10 := houty2 _ hB2.symm
              have hB1 := M.cont_inr' hB1 gx10
              have hB1 := M.ret_some hB1
              have gx8 := houty1 _ hB1.symm
              have hF := M.cont_inr' hF gx8
              have hF := M.ret_some hF
              subst hF
              exact Run_ret1 rfl (ResV_tmp (v := .bool false) (by kernel_rfl)) ⟨rfl, H5⟩
            · have hB2 := (M.ite_some hB2).2 hb9
              refine Run_skip ?_
              refine Run_blk ?_
              refine Run_reg 2 (by kernel_rfl) (L' := [(1, .slice au u.length cu), (2, .slice av_ v_.length cv_), (7, .int .i64 i1), (38, .slice aa_ a_.length ca_), (39, .int .i64 (a_.length : Int)), (40, .int .i64 i1), (45, .slice a1 x9.length c1), (46, .int .i64 (x9.length : Int)), (47, .int .i64 (i2 + 1))]) ?_ ?_
              · refine QRun_y (.int .i64 (i2 + 1)) (by kernel_rfl) (Y_eq (v := .int .i64 (w64 (i2 + 1))) (Y_pure (fun w => by kernel_rfl)) (by rw [w64_eq _ (by omega)])) ?_
                refine QRun_b [.int .i64 (i2 + 1)] 1 _ (by kernel_rfl) (fun w => by kernel_rfl) ?_
                exact QRun_done [1, 2, 7, 38, 39, 40, 45, 46, 47] (by kernel_rfl) (by kernel_rfl)
              have hB2 := M.ret_some hB2
              have gx10 := hgoy2 _ hB2.symm
              exact Run_again [1, 2, 7, 38, 39, 40, 45, 46, 47] (by kernel_rfl) my2 (Nat.lt_succ_self _) ⟨i2 + 1, (), by omega, gx10, rfl, H5⟩
          · have gx10 := M.for_end gx10 hb7
            subst gx10
            refine Run_exit (k' := _) rfl ?_
            exact Run_fall [1, 2, 38, 39, 40] (by kernel_rfl) ⟨(), rfl, rfl, H5⟩
      · have gx8 := M.for_end gx8 hb6
        subst gx8
        refine Run_exit (k' := _) rfl ?_
        exact Run_fall [] (by kernel_rfl) ⟨(), rfl, rfl, H3⟩

set_option maxRecDepth 100000 in
set_option maxHeartbeats 4000000 in
theorem w_laws_likeInts (h : Heap) (a_ : List Int) {Sa_ : Bs} (aa_ : Option Addr) (ca_ : Nat) (ra_ : Rd cd2 h Sa_ aa_ ca_ a_) (b : List Int) {Sb : Bs} (ab : Option Addr) (cb : Nat) (rb : Rd cd2 h Sb ab cb b) (n : Nat) (r : Bool) (hF : laws_likeInts a_ b n = some r) :
    Fn Try.prog 39 #[.slice aa_ a_.length ca_, .slice ab b.length cb] h fun v h' => v = .bool r ∧ h' = h := by
  unfold laws_likeInts at hF
  refine Fn_enter (args := [.slice aa_ a_.length ca_, .slice ab b.length cb]) Try.func39 rfl (by kernel_rfl) (by kernel_rfl) (fun w0 _ => ?_)
  refine Run_seq ?_
  refine Run_reg 1 (by kernel_rfl) (L' := [(0, .slice aa_ a_.length ca_), (1, .slice ab b.length cb)]) ?_ ?_
  · refine QRun_b [.bool false] 0 _ (by kernel_rfl) (fun w => by kernel_rfl) ?_
    exact QRun_done [0, 1] (by kernel_rfl) (by kernel_rfl)
  refine Run_seq ?_
  refine Run_seq ?_
  refine Run_reg 5 (by kernel_rfl) (L' := [(0, .slice aa_ a_.length ca_), (1, .slice ab b.length cb), (10, .bool ((a_.length : Int) != (b.length : Int)))]) ?_ ?_
  · refine QRun_b [.slice aa_ a_.length ca_, .int .i64 (a_.length : Int), .slice ab b.length cb, .int .i64 (b.length : Int), .bool ((a_.length : Int) != (b.length : Int))] 0 _ (by kernel_rfl) (fun w => by kernel_rfl) ?_
    exact QRun_done [0, 1, 10] (by kernel_rfl) (by kernel_rfl)
  refine Run_cond (b := (a_.length : Int) != (b.length : Int)) (by kernel_rfl) (fun hb1 => ?_) (fun hb1 => ?_)
  · have hF := (M.ite_some hF).1 hb1
    refine Run_seq ?_
    refine Run_reg 1 (by kernel_rfl) (L' := [(4, .bool false)]) ?_ ?_
    · refine QRun_b [.bool false] 0 _ (by kernel_rfl) (fun w => by kernel_rfl) ?_
      exact QRun_done [4] (by kernel_rfl) (by kernel_rfl)
    have hF := M.ret_some hF
    subst hF
    exact Run_ret1 rfl (ResV_tmp (v := .bool false) (by kernel_rfl)) ⟨rfl, rfl⟩
  · have hF := (M.ite_some hF).2 hb1
    refine Run_skip ?_
    refine Run_seq ?_
    refine Run_seq ?_
    refine Run_reg 1 (by kernel_rfl) (L' := [(0, .slice aa_ a_.length ca_), (1, .slice ab b.length cb), (5, .int .i64 0)]) ?_ ?_
    · refine QRun_b [.int .i64 0] 0 _ (by kernel_rfl) (fun w => by kernel_rfl) ?_
      exact QRun_done [0, 1, 5] (by kernel_rfl) (by kernel_rfl)
    obtain ⟨x1, gx1, hF⟩ := M.bind_some hF
    obtain ⟨hloy1, hhiy1, gx1⟩ := M.for_start gx1
    refine Run_join (fun L' h' => ∃ (s2 : Unit), x1 = .inl s2 ∧ L' = [] ∧ h = h') ?_ ?_
    · rintro _ _ ⟨s2, es2, rfl, rfl⟩
      have hF := M.cont_inl' hF es2
      refine Run_seq ?_
      refine Run_reg 1 (by kernel_rfl) (L' := [(4, .bool true)]) ?_ ?_
      · refine QRun_b [.bool true] 0 _ (by kernel_rfl) (fun w => by kernel_rfl) ?_
        exact QRun_done [4] (by kernel_rfl) (by kernel_rfl)
      have hF := M.ret_some hF
      subst hF
      exact Run_ret1 rfl (ResV_tmp (v := .bool true) (by kernel_rfl)) ⟨rfl, rfl⟩
    · refine Run_block ?_
      refine Run_keep [0, 1, 5] (L' := [(0, .slice aa_ a_.length ca_), (1, .slice ab b.length cb), (5, .int .i64 0)]) (by kernel_rfl) ?_
      refine Run_loop (fun m L' h' => ∃ (i1 : Int) (s1 : Unit), 0 ≤ i1 ∧ M.forN (a_.length : Int) _ _ n m i1 s1 = some x1 ∧ L' = [(0, .slice aa_ a_.length ca_), (1, .slice ab b.length cb), (5, .int .i64 i1)] ∧ h = h') ((a_.length : Int) - 0 : Int).toNat ⟨0, (), Int.le_refl _, gx1, rfl, rfl⟩ ?_
      rintro my1 _ _ ⟨i1, s1, hloy1', gx1, rfl, rfl⟩
      refine Run_seq ?_
      refine Run_seq ?_
      refine Run_reg 4 (by kernel_rfl) (L' := [(0, .slice aa_ a_.length ca_), (1, .slice ab b.length cb), (5, .int .i64 i1), (14, .bool (decide (i1 < (a_.length : Int))))]) ?_ ?_
      · refine QRun_b [.int .i64 i1, .slice aa_ a_.length ca_, .int .i64 (a_.length : Int), .bool (decide (i1 < (a_.length : Int)))] 0 _ (by kernel_rfl) (fun w => by kernel_rfl) ?_
        exact QRun_done [0, 1, 5, 14] (by kernel_rfl) (by kernel_rfl)
      refine Run_cond (b := decide (i1 < (a_.length : Int))) (by kernel_rfl) (fun hb2 => ?_) (fun hb2 => ?_)
      · obtain ⟨my1, y1, rfl, hB1, hgoy1, houty1⟩ := M.for_go gx1 hb2
        have hlty1 := of_decide_eq_true hb2
        refine Run_skip ?_
        refine Run_seq ?_
        refine Run_block ?_
        refine Run_seq ?_
        obtain ⟨x2, hx1, hB1⟩ := M.bind_some hB1
        obtain ⟨hx1l, hx1u, hx1⟩ := M.idx_some hx1
        obtain ⟨x3, hx2, hB1⟩ := M.bind_some hB1
        obtain ⟨hx2l, hx2u, hx2⟩ := M.idx_some hx2
        refine Run_draw 9 mixed (by kernel_rfl) (by kernel_rfl) (L' := [(0, .slice aa_ a_.length ca_), (1, .slice ab b.length cb), (5, .int .i64 i1), (25, .bool (x2 != x3))]) ?_ ?_
        · refine QRun_b [.slice aa_ a_.length ca_, .int .i64 i1] 0 _ (by kernel_rfl) (fun w => by kernel_rfl) ?_
          refine QRun_y (.pointer (some (adr aa_ (i1.toNat * 1)))) (by kernel_rfl) (Y_idx (t := 39) (e := 2) (sz := 1) (a := aa_) (n := a_.length) (cap := ca_) (kk := .i64) (i := i1) (by kernel_rfl) Try.underlying39 (by kernel_rfl) (ra_.cell hx1).1 hx1l hx1u) ?_
          refine QRun_y (.int .i64 x2) (by kernel_rfl) (Y_load1 (t := 2) (p := adr aa_ (i1.toNat * 1)) (v := .int .i64 x2) (by kernel_rfl) (fun w => by kernel_rfl) (cd2_cell ra_ hx1)) ?_
          refine QRun_b [.slice ab b.length cb, .int .i64 i1] 4 _ (by kernel_rfl) (fun w => by kernel_rfl) ?_
          refine QRun_y (.pointer (some (adr ab (i1.toNat * 1)))) (by kernel_rfl) (Y_idx (t := 39) (e := 2) (sz := 1) (a := ab) (n := b.length) (cap := cb) (kk := .i64) (i := i1) (by kernel_rfl) Try.underlying39 (by kernel_rfl) (rb.cell hx2).1 hx2l hx2u) ?_
          refine QRun_y (.int .i64 x3) (by kernel_rfl) (Y_load1 (t := 2) (p := adr ab (i1.toNat * 1)) (v := .int .i64 x3) (by kernel_rfl) (fun w => by kernel_rfl) (cd2_cell rb hx2)) ?_
          refine QRun_b [.bool (x2 != x3)] 8 _ (by kernel_rfl) (fun w => by kernel_rfl) ?_
          exact QRun_done [0, 1, 5, 25] (by kernel_rfl) (by kernel_rfl)
        refine Run_cond (b := x2 != x3) (by kernel_rfl) (fun hb3 => ?_) (fun hb3 => ?_)
        · have hB1 := (M.ite_some hB1).1 hb3
          refine Run_seq ?_
          refine Run_reg 1 (by kernel_rfl) (L' := [(4, .bool false)]) ?_ ?_
          · refine QRun_b [.bool false] 0 _ (by kernel_rfl) (fun w => by kernel_rfl) ?_
            exact QRun_done [4] (by kernel_rfl) (by kernel_rfl)
          have hB1 := M.ret_some hB1
          have gx1 := houty1 _ hB1.symm
          have hF := M.cont_inr' hF gx1
          have hF := M.ret_some hF
          subst hF
          exact Run_ret1 rfl (ResV_tmp (v := .bool false) (by kernel_rfl)) ⟨rfl, rfl⟩
        · have hB1 := (M.ite_some hB1).2 hb3
          refine Run_skip ?_
          refine Run_blk ?_
          refine Run_reg 3 (by kernel_rfl) (L' := [(0, .slice aa_ a_.length ca_), (1, .slice ab b.length cb), (5, .int .i64 (i1 + 1))]) ?_ ?_
          · refine QRun_b [.int .i64 i1] 0 _ (by kernel_rfl) (fun w => by kernel_rfl) ?_
            refine QRun_y (.int .i64 (i1 + 1)) (by kernel_rfl) (Y_eq (v := .int .i64 (w64 (i1 + 1))) (Y_pure (fun w => by kernel_rfl)) (by rw [w64_eq _ (by omega)])) ?_
            refine QRun_b [.int .i64 (i1 + 1)] 2 _ (by kernel_rfl) (fun w => by kernel_rfl) ?_
            exact QRun_done [0, 1, 5] (by kernel_rfl) (by kernel_rfl)
          have hB1 := M.ret_some hB1
          have gx1 := hgoy1 _ hB1.symm
          exact Run_again [0, 1, 5] (by kernel_rfl) my1 (Nat.lt_succ_self _) ⟨i1 + 1, (), by omega, gx1, rfl, rfl⟩
      · have gx1 := M.for_end gx1 hb2
        subst gx1
        refine Run_exit (k' := _) rfl ?_
        exact Run_fall [] (by kernel_rfl) ⟨(), rfl, rfl, rfl⟩

set_option maxRecDepth 100000 in
set_option maxHeartbeats 4000000 in
theorem w_spec_IsDual (h : Heap) (a_ : List (List Int)) {Sa_ : Bs} (aa_ : Option Addr) (ca_ : Nat) (ra_ : Rd cd39 h Sa_ aa_ ca_ a_) (u : List Int) {Su : Bs} (au : Option Addr) (cu : Nat) (ru : Rd cd2 h Su au cu u) (v_ : List Int) {Sv_ : Bs} (av_ : Option Addr) (cv_ : Nat) (rv_ : Rd cd2 h Sv_ av_ cv_ v_) (n : Nat) (r : Bool) (hF : spec_IsDual a_ u v_ n = some r) :
    Fn Try.prog 50 #[.slice aa_ a_.length ca_, .slice au u.length cu, .slice av_ v_.length cv_] h fun v h' => v = .bool r ∧ h' = h := by
  unfold spec_IsDual at hF
  refine Fn_enter (args := [.slice aa_ a_.length ca_, .slice au u.length cu, .slice av_ v_.length cv_]) Try.func50 rfl (by kernel_rfl) (by kernel_rfl) (fun w0 _ => ?_)
  refine Run_seq ?_
  refine Run_reg 1 (by kernel_rfl) (L' := [(0, .slice aa_ a_.length ca_), (1, .slice au u.length cu), (2, .slice av_ v_.length cv_)]) ?_ ?_
  · refine QRun_b [.bool false] 0 _ (by kernel_rfl) (fun w => by kernel_rfl) ?_
    exact QRun_done [0, 1, 2] (by kernel_rfl) (by kernel_rfl)
  refine Run_seq ?_
  refine Run_seq ?_
  obtain ⟨x1, hx1, hF⟩ := M.bind_some hF
  obtain ⟨x4, gx4, hF⟩ := M.bind_some hF
  obtain ⟨x6, gx6, hF⟩ := M.bind_some hF
  refine Run_reg 27 (by kernel_rfl) (L' := [(0, .slice aa_ a_.length ca_), (1, .slice au u.length cu), (2, .slice av_ v_.length cv_), (35, .bool x6)]) ?_ ?_
  · refine QRun_b [.slice aa_ a_.length ca_] 0 _ (by kernel_rfl) (fun w => by kernel_rfl) ?_
    refine QRun_y (.bool x1) (by kernel_rfl) (Y_callq (f := 82) (args := #[.slice aa_ a_.length ca_]) (v := .bool x1) (by kernel_rfl) (w_spec_l02Square h a_ aa_ ca_ ra_ _ _ hx1)) ?_
    refine QRun_b [.bool (!x1)] 2 _ (by kernel_rfl) (fun w => by kernel_rfl) ?_
    refine QRun_seq 10 [(0, .slice aa_ a_.length ca_), (1, .slice au u.length cu), (2, .slice av_ v_.length cv_), (18, .bool ((!x1) || ((u.length : Int) != (a_.length : Int))))] ?_ ?_
    · rcases Bool.eq_false_or_eq_true (!x1) with hb1 | hb1
      · refine QRun_bool (!x1) true (by kernel_rfl) (fun w => by kernel_rfl) hb1 ?_
        refine QRun_n (by kernel_rfl) ?_
        refine QRun_n (by kernel_rfl) ?_
        refine QRun_n (by kernel_rfl) ?_
        refine QRun_n (by kernel_rfl) ?_
        refine QRun_n (by kernel_rfl) ?_
        refine QRun_bool true ((!x1) || ((u.length : Int) != (a_.length : Int))) (by kernel_rfl) (fun w => by kernel_rfl) (by rw [hb1]; rfl) ?_
        exact QRun_done [0, 1, 2, 18] (by kernel_rfl) (by kernel_rfl)
      · refine QRun_bool (!x1) false (by kernel_rfl) (fun w => by kernel_rfl) hb1 ?_
        refine QRun_b [.slice au u.length cu, .int .i64 (u.length : Int), .slice aa_ a_.length ca_, .int .i64 (a_.length : Int), .bool ((u.length : Int) != (a_.length : Int))] 4 _ (by kernel_rfl) (fun w => by kernel_rfl) ?_
        refine QRun_bool ((u.length : Int) != (a_.length : Int)) ((!x1) || ((u.length : Int) != (a_.length : Int))) (by kernel_rfl) (fun w => by kernel_rfl) (by rw [hb1]; rfl) ?_
        exact QRun_done [0, 1, 2, 18] (by kernel_rfl) (by kernel_rfl)
    refine QRun_seq 17 [(0, .slice aa_ a_.length ca_), (1, .slice au u.length cu), (2, .slice av_ v_.length cv_), (25, .bool (((!x1) || ((u.length : Int) != (a_.length : Int))) || ((v_.length : Int) != (a_.length : Int))))] ?_ ?_
    · rcases Bool.eq_false_or_eq_true ((!x1) || ((u.length : Int) != (a_.length : Int))) with hb2 | hb2
      · refine QRun_bool ((!x1) || ((u.length : Int) != (a_.length : Int))) true (by kernel_rfl) (fun w => by kernel_rfl) hb2 ?_
        refine QRun_n (by kernel_rfl) ?_
        refine QRun_n (by kernel_rfl) ?_
        refine QRun_n (by kernel_rfl) ?_
        refine QRun_n (by kernel_rfl) ?_
        refine QRun_n (by kernel_rfl) ?_
        refine QRun_bool true (((!x1) || ((u.length : Int) != (a_.length : Int))) || ((v_.length : Int) != (a_.length : Int))) (by kernel_rfl) (fun w => by kernel_rfl) (by rw [hb2]; rfl) ?_
        exact QRun_done [0, 1, 2, 25] (by kernel_rfl) (by kernel_rfl)
      · refine QRun_bool ((!x1) || ((u.length : Int) != (a_.length : Int))) false (by kernel_rfl) (fun w => by kernel_rfl) hb2 ?_
        refine QRun_b [.slice av_ v_.length cv_, .int .i64 (v_.length : Int), .slice aa_ a_.length ca_, .int .i64 (a_.length : Int), .bool ((v_.length : Int) != (a_.length : Int))] 11 _ (by kernel_rfl) (fun w => by kernel_rfl) ?_
        refine QRun_bool ((v_.length : Int) != (a_.length : Int)) (((!x1) || ((u.length : Int) != (a_.length : Int))) || ((v_.length : Int) != (a_.length : Int))) (by kernel_rfl) (fun w => by kernel_rfl) (by rw [hb2]; rfl) ?_
        exact QRun_done [0, 1, 2, 25] (by kernel_rfl) (by kernel_rfl)
    refine QRun_seq 22 [(0, .slice aa_ a_.length ca_), (1, .slice au u.length cu), (2, .slice av_ v_.length cv_), (30, .bool x4)] ?_ ?_
    · rcases Bool.eq_false_or_eq_true (((!x1) || ((u.length : Int) != (a_.length : Int))) || ((v_.length : Int) != (a_.length : Int))) with hb3 | hb3
      · refine QRun_bool (((!x1) || ((u.length : Int) != (a_.length : Int))) || ((v_.length : Int) != (a_.length : Int))) true (by kernel_rfl) (fun w => by kernel_rfl) hb3 ?_
        have gx4 := M.ret_some ((M.ite_some gx4).1 hb3)
        refine QRun_n (by kernel_rfl) ?_
        refine QRun_n (by kernel_rfl) ?_
        refine QRun_n (by kernel_rfl) ?_
        refine QRun_bool true x4 (by kernel_rfl) (fun w => by kernel_rfl) gx4 ?_
        exact QRun_done [0, 1, 2, 30] (by kernel_rfl) (by kernel_rfl)
      · refine QRun_bool (((!x1) || ((u.length : Int) != (a_.length : Int))) || ((v_.length : Int) != (a_.length : Int))) false (by kernel_rfl) (fun w => by kernel_rfl) hb3 ?_
        have gx4 := (M.ite_some gx4).2 hb3
        obtain ⟨x5, hx2, gx4⟩ := M.bind_some gx4
        have gx4 := M.ret_some gx4
        refine QRun_b [.slice au u.length cu] 18 _ (by kernel_rfl) (fun w => by kernel_rfl) ?_
        refine QRun_y (.bool x5) (by kernel_rfl) (Y_callq (f := 87) (args := #[.slice au u.length cu, .bool true]) (v := .bool x5) (by kernel_rfl) (w_spec_l01All h u au cu ru true _ _ hx2)) ?_
        refine QRun_b [.bool (!x5)] 20 _ (by kernel_rfl) (fun w => by kernel_rfl) ?_
        refine QRun_bool (!x5) x4 (by kernel_rfl) (fun w => by kernel_rfl) gx4 ?_
        exact QRun_done [0, 1, 2, 30] (by kernel_rfl) (by kernel_rfl)
    refine QRun_seq 27 [(0, .slice aa_ a_.length ca_), (1, .slice au u.length cu), (2, .slice av_ v_.length cv_), (35, .bool x6)] ?_ ?_
    · rcases Bool.eq_false_or_eq_true x4 with hb4 | hb4
      · refine QRun_bool x4 true (by kernel_rfl) (fun w => by kernel_rfl) hb4 ?_
        have gx6 := M.ret_some ((M.ite_some gx6).1 hb4)
        refine QRun_n (by kernel_rfl) ?_
        refine QRun_n (by kernel_rfl) ?_
        refine QRun_n (by kernel_rfl) ?_
        refine QRun_bool true x6 (by kernel_rfl) (fun w => by kernel_rfl) gx6 ?_
        exact QRun_done [0, 1, 2, 35] (by kernel_rfl) (by kernel_rfl)
      · refine QRun_bool x4 false (by kernel_rfl) (fun w => by kernel_rfl) hb4 ?_
        have gx6 := (M.ite_some gx6).2 hb4
        obtain ⟨x7, hx3, gx6⟩ := M.bind_some gx6
        have gx6 := M.ret_some gx6
        refine QRun_b [.slice av_ v_.length cv_] 23 _ (by kernel_rfl) (fun w => by kernel_rfl) ?_
        refine QRun_y (.bool x7) (by kernel_rfl) (Y_callq (f := 87) (args := #[.slice av_ v_.length cv_, .bool true]) (v := .bool x7) (by kernel_rfl) (w_spec_l01All h v_ av_ cv_ rv_ true _ _ hx3)) ?_
        refine QRun_b [.bool (!x7)] 25 _ (by kernel_rfl) (fun w => by kernel_rfl) ?_
        refine QRun_bool (!x7) x6 (by kernel_rfl) (fun w => by kernel_rfl) gx6 ?_
        exact QRun_done [0, 1, 2, 35] (by kernel_rfl) (by kernel_rfl)
    exact QRun_done [0, 1, 2, 35] (by kernel_rfl) (by kernel_rfl)
  refine Run_cond (b := x6) (by kernel_rfl) (fun hb5 => ?_) (fun hb5 => ?_)
  · have hF := (M.ite_some hF).1 hb5
    refine Run_seq ?_
    refine Run_reg 1 (by kernel_rfl) (L' := [(6, .bool false)]) ?_ ?_
    · refine QRun_b [.bool false] 0 _ (by kernel_rfl) (fun w => by kernel_rfl) ?_
      exact QRun_done [6] (by kernel_rfl) (by kernel_rfl)
    have hF := M.ret_some hF
    subst hF
    exact Run_ret1 rfl (ResV_tmp (v := .bool false) (by kernel_rfl)) ⟨rfl, rfl⟩
  · have hF := (M.ite_some hF).2 hb5
    refine Run_skip ?_
    refine Run_seq ?_
    refine Run_seq ?_
    refine Run_reg 1 (by kernel_rfl) (L' := [(0, .slice aa_ a_.length ca_), (1, .slice au u.length cu), (2, .slice av_ v_.length cv_), (7, .int .i64 0)]) ?_ ?_
    · refine QRun_b [.int .i64 0] 0 _ (by kernel_rfl) (fun w => by kernel_rfl) ?_
      exact QRun_done [0, 1, 2, 7] (by kernel_rfl) (by kernel_rfl)
    obtain ⟨x8, gx8, hF⟩ := M.bind_some hF
    obtain ⟨hloy1, hhiy1, gx8⟩ := M.for_start gx8
    refine Run_join (fun L' h' => ∃ (s2 : Unit), x8 = .inl s2 ∧ L' = [] ∧ h = h') ?_ ?_
    · rintro _ _ ⟨s2, es2, rfl, rfl⟩
      have hF := M.cont_inl' hF es2
      refine Run_seq ?_
      refine Run_reg 1 (by kernel_rfl) (L' := [(6, .bool true)]) ?_ ?_
      · refine QRun_b [.bool true] 0 _ (by kernel_rfl) (fun w => by kernel_rfl) ?_
        exact QRun_done [6] (by kernel_rfl) (by kernel_rfl)
      have hF := M.ret_some hF
      subst hF
      exact Run_ret1 rfl (ResV_tmp (v := .bool true) (by kernel_rfl)) ⟨rfl, rfl⟩
    · refine Run_block ?_
      refine Run_keep [0, 1, 2, 7] (L' := [(0, .slice aa_ a_.length ca_), (1, .slice au u.length cu), (2, .slice av_ v_.length cv_), (7, .int .i64 0)]) (by kernel_rfl) ?_
      refine Run_loop (fun m L' h' => ∃ (i1 : Int) (s1 : Unit), 0 ≤ i1 ∧ M.forN (a_.length : Int) _ _ n m i1 s1 = some x8 ∧ L' = [(0, .slice aa_ a_.length ca_), (1, .slice au u.length cu), (2, .slice av_ v_.length cv_), (7, .int .i64 i1)] ∧ h = h') ((a_.length : Int) - 0 : Int).toNat ⟨0, (), Int.le_refl _, gx8, rfl, rfl⟩ ?_
      rintro my1 _ _ ⟨i1, s1, hloy1', gx8, rfl, rfl⟩
      refine Run_seq ?_
      refine Run_seq ?_
      refine Run_reg 4 (by kernel_rfl) (L' := [(0, .slice aa_ a_.length ca_), (1, .slice au u.length cu), (2, .slice av_ v_.length cv_), (7, .int .i64 i1), (39, .bool (decide (i1 < (a_.length : Int))))]) ?_ ?_
      · refine QRun_b [.int .i64 i1, .slice aa_ a_.length ca_, .int .i64 (a_.length : Int), .bool (decide (i1 < (a_.length : Int)))] 0 _ (by kernel_rfl) (fun w => by kernel_rfl) ?_
        exact QRun_done [0, 1, 2, 7, 39] (by kernel_rfl) (by kernel_rfl)
      refine Run_cond (b := decide (i1 < (a_.length : Int))) (by kernel_rfl) (fun hb6 => ?_) (fun hb6 => ?_)
      · obtain ⟨my1, y1, rfl, hB1, hgoy1, houty1⟩ := M.for_go gx8 hb6
        have hlty1 := of_decide_eq_true hb6
        refine Run_skip ?_
        refine Run_seq ?_
        refine Run_block ?_
        refine Run_seq ?_
        refine Run_reg 1 (by kernel_rfl) (L' := [(0, .slice aa_ a_.length ca_), (1, .slice au u.length cu), (2, .slice av_ v_.length cv_), (7, .int .i64 i1), (8, .int .i64 0)]) ?_ ?_
        · refine QRun_b [.int .i64 0] 0 _ (by kernel_rfl) (fun w => by kernel_rfl) ?_
          exact QRun_done [0, 1, 2, 7, 8] (by kernel_rfl) (by kernel_rfl)
        obtain ⟨x9, gx9, hB1⟩ := M.bind_some hB1
        obtain ⟨hloy2, hhiy2, gx9⟩ := M.for_start gx9
        refine Run_join (fun L' h' => ∃ (s4 : Unit), x9 = .inl s4 ∧ L' = [(0, .slice aa_ a_.length ca_), (1, .slice au u.length cu), (2, .slice av_ v_.length cv_), (7, .int .i64 i1)] ∧ h = h') ?_ ?_
        · rintro _ _ ⟨s4, es4, rfl, rfl⟩
          have hB1 := M.cont_inl' hB1 es4
          refine Run_blk ?_
          refine Run_reg 3 (by kernel_rfl) (L' := [(0, .slice aa_ a_.length ca_), (1, .slice au u.length cu), (2, .slice av_ v_.length cv_), (7, .int .i64 (i1 + 1))]) ?_ ?_
          · refine QRun_b [.int .i64 i1] 0 _ (by kernel_rfl) (fun w => by kernel_rfl) ?_
            refine QRun_y (.int .i64 (i1 + 1)) (by kernel_rfl) (Y_eq (v := .int .i64 (w64 (i1 + 1))) (Y_pure (fun w => by kernel_rfl)) (by rw [w64_eq _ (by omega)])) ?_
            refine QRun_b [.int .i64 (i1 + 1)] 2 _ (by kernel_rfl) (fun w => by kernel_rfl) ?_
            exact QRun_done [0, 1, 2, 7] (by kernel_rfl) (by kernel_rfl)
          have hB1 := M.ret_some hB1
          have gx8 := hgoy1 _ hB1.symm
          exact Run_again [0, 1, 2, 7] (by kernel_rfl) my1 (Nat.lt_succ_self _) ⟨i1 + 1, (), by omega, gx8, rfl, rfl⟩
        · refine Run_block ?_
          refine Run_keep [0, 1, 2, 7, 8] (L' := [(0, .slice aa_ a_.length ca_), (1, .slice au u.length cu), (2, .slice av_ v_.length cv_), (7, .int .i64 i1), (8, .int .i64 0)]) (by kernel_rfl) ?_
          refine Run_loop (fun m L' h' => ∃ (i2 : Int) (s3 : Unit), 0 ≤ i2 ∧ M.forN (a_.length : Int) _ _ n m i2 s3 = some x9 ∧ L' = [(0, .slice aa_ a_.length ca_), (1, .slice au u.length cu), (2, .slice av_ v_.length cv_), (7, .int .i64 i1), (8, .int .i64 i2)] ∧ h = h') ((a_.length : Int) - 0 : Int).toNat ⟨0, (), Int.le_refl _, gx9, rfl, rfl⟩ ?_
          rintro my2 _ _ ⟨i2, s3, hloy2', gx9, rfl, rfl⟩
          refine Run_seq ?_
          refine Run_seq ?_
          refine Run_reg 4 (by kernel_rfl) (L' := [(0, .slice aa_ a_.length ca_), (1, .slice au u.length cu), (2, .slice av_ v_.length cv_), (7, .int .i64 i1), (8, .int .i64 i2), (45, .bool (decide (i2 < (a_.length : Int))))]) ?_ ?_
          · refine QRun_b [.int .i64 i2, .slice aa_ a_.length ca_, .int .i64 (a_.length : Int), .bool (decide (i2 < (a_.length : Int)))] 0 _ (by kernel_rfl) (fun w => by kernel_rfl) ?_
            exact QRun_done [0, 1, 2, 7, 8, 45] (by kernel_rfl) (by kernel_rfl)
          refine Run_cond (b := decide (i2 < (a_.length : Int))) (by kernel_rfl) (fun hb7 => ?_) (fun hb7 => ?_)
          · obtain ⟨my2, y2, rfl, hB2, hgoy2, houty2⟩ := M.for_go gx9 hb7
            have hlty2 := of_decide_eq_true hb7
            refine Run_skip ?_
            refine Run_seq ?_
            refine Run_block ?_
            refine Run_seq ?_
            obtain ⟨x10, hx4, hB2⟩ := M.bind_some hB2
            obtain ⟨hx4l, hx4u, hx4⟩ := M.idx_some hx4
            obtain ⟨a1, c1, hc1, r1⟩ := ra_.row hx4
            obtain ⟨x11, hx5, hB2⟩ := M.bind_some hB2
            obtain ⟨hx5l, hx5u, hx5⟩ := M.idx_some hx5
            obtain ⟨x12, gx12, hB2⟩ := M.bind_some hB2
            refine Run_draw 27 mixed (by kernel_rfl) (by kernel_rfl) (L' := [(0, .slice aa_ a_.length ca_), (1, .slice au u.length cu), (2, .slice av_ v_.length cv_), (7, .int .i64 i1), (8, .int .i64 i2), (74, .bool x12)]) ?_ ?_
            · refine QRun_b [.slice aa_ a_.length ca_, .int .i64 i1] 0 _ (by kernel_rfl) (fun w => by kernel_rfl) ?_
              refine QRun_y (.pointer (some (adr aa_ (i1.toNat * 1)))) (by kernel_rfl) (Y_idx (t := 37) (e := 39) (sz := 1) (a := aa_) (n := a_.length) (cap := ca_) (kk := .i64) (i := i1) (by kernel_rfl) Try.underlying37 (by kernel_rfl) (ra_.cell hx4).1 hx4l hx4u) ?_
              refine QRun_y (.slice a1 x10.length c1) (by kernel_rfl) (Y_load1 (t := 39) (p := adr aa_ (i1.toNat * 1)) (v := .slice a1 x10.length c1) (by kernel_rfl) (fun w => by kernel_rfl) hc1) ?_
              refine QRun_b [.int .i64 i2] 4 _ (by kernel_rfl) (fun w => by kernel_rfl) ?_
              refine QRun_y (.pointer (some (adr a1 (i2.toNat * 1)))) (by kernel_rfl) (Y_idx (t := 39) (e := 2) (sz := 1) (a := a1) (n := x10.length) (cap := c1) (kk := .i64) (i := i2) (by kernel_rfl) Try.underlying39 (by kernel_rfl) (r1.cell hx5).1 hx5l hx5u) ?_
              refine QRun_y (.int .i64 x11) (by kernel_rfl) (Y_load1 (t := 2) (p := adr a1 (i2.toNat * 1)) (v := .int .i64 x11) (by kernel_rfl) (fun w => by kernel_rfl) (cd2_cell r1 hx5)) ?_
              refine QRun_b [.bool (x11 != (-1000000000000000))] 7 _ (by kernel_rfl) (fun w => by kernel_rfl) ?_
              refine QRun_seq 27 [(0, .slice aa_ a_.length ca_), (1, .slice au u.length cu), (2, .slice av_ v_.length cv_), (7, .int .i64 i1), (8, .int .i64 i2), (74, .bool x12)] ?_ ?_
              · rcases Bool.eq_false_or_eq_true (x11 != (-1000000000000000)) with hb8 | hb8
                · refine QRun_bool (x11 != (-1000000000000000)) true (by kernel_rfl) (fun w => by kernel_rfl) hb8 ?_
                  have gx12 := (M.ite_some gx12).1 hb8
                  obtain ⟨x13, hx6, gx12⟩ := M.bind_some gx12
                  obtain ⟨hx6l, hx6u, hx6⟩ := M.idx_some hx6
                  obtain ⟨x14, hx7, gx12⟩ := M.bind_some gx12
                  obtain ⟨hx7l, hx7u, hx7⟩ := M.idx_some hx7
                  obtain ⟨x15, hx8, gx12⟩ := M.bind_some gx12
                  obtain ⟨hx8l, hx8u, hx8⟩ := M.idx_some hx8
                  obtain ⟨a2, c2, hc2, r2⟩ := ra_.row hx8
                  obtain ⟨x16, hx9, gx12⟩ := M.bind_some gx12
                  obtain ⟨hx9l, hx9u, hx9⟩ := M.idx_some hx9
                  have gx12 := M.ret_some gx12
                  refine QRun_b [.slice au u.length cu, .int .i64 i1] 9 _ (by kernel_rfl) (fun w => by kernel_rfl) ?_
                  refine QRun_y (.pointer (some (adr au (i1.toNat * 1)))) (by kernel_rfl) (Y_idx (t := 39) (e := 2) (sz := 1) (a := au) (n := u.length) (cap := cu) (kk := .i64) (i := i1) (by kernel_rfl) Try.underlying39 (by kernel_rfl) (ru.cell hx6).1 hx6l hx6u) ?_
                  refine QRun_y (.int .i64 x13) (by kernel_rfl) (Y_load1 (t := 2) (p := adr au (i1.toNat * 1)) (v := .int .i64 x13) (by kernel_rfl) (fun w => by kernel_rfl) (cd2_cell ru hx6)) ?_
                  refine QRun_b [.slice av_ v_.length cv_, .int .i64 i2] 13 _ (by kernel_rfl) (fun w => by kernel_rfl) ?_
                  refine QRun_y (.pointer (some (adr av_ (i2.toNat * 1)))) (by kernel_rfl) (Y_idx (t := 39) (e := 2) (sz := 1) (a := av_) (n := v_.length) (cap := cv_) (kk := .i64) (i := i2) (by kernel_rfl) Try.underlying39 (by kernel_rfl) (rv_.cell hx7).1 hx7l hx7u) ?_
                  refine QRun_y (.int .i64 x14) (by kernel_rfl) (Y_load1 (t := 2) (p := adr av_ (i2.toNat * 1)) (v := .int .i64 x14) (by kernel_rfl) (fun w => by kernel_rfl) (cd2_cell rv_ hx7)) ?_
                  refine QRun_b [.int .i64 (w64 (x13 + x14)), .slice aa_ a_.length ca_, .int .i64 i1] 17 _ (by kernel_rfl) (fun w => by kernel_rfl) ?_
                  refine QRun_y (.pointer (some (adr aa_ (i1.toNat * 1)))) (by kernel_rfl) (Y_idx (t := 37) (e := 39) (sz := 1) (a := aa_) (n := a_.length) (cap := ca_) (kk := .i64) (i := i1) (by kernel_rfl) Try.underlying37 (by kernel_rfl) (ra_.cell hx8).1 hx8l hx8u) ?_
                  refine QRun_y (.slice a2 x15.length c2) (by kernel_rfl) (Y_load1 (t := 39) (p := adr aa_ (i1.toNat * 1)) (v := .slice a2 x15.length c2) (by kernel_rfl) (fun w => by kernel_rfl) hc2) ?_
                  refine QRun_b [.int .i64 i2] 22 _ (by kernel_rfl) (fun w => by kernel_rfl) ?_
                  refine QRun_y (.pointer (some (adr a2 (i2.toNat * 1)))) (by kernel_rfl) (Y_idx (t := 39) (e := 2) (sz := 1) (a := a2) (n := x15.length) (cap := c2) (kk := .i64) (i := i2) (by kernel_rfl) Try.underlying39 (by kernel_rfl) (r2.cell hx9).1 hx9l hx9u) ?_
                  refine QRun_y (.int .i64 x16) (by kernel_rfl) (Y_load1 (t := 2) (p := adr a2 (i2.toNat * 1)) (v := .int .i64 x16) (by kernel_rfl) (fun w => by kernel_rfl) (cd2_cell r2 hx9)) ?_
                  refine QRun_b [.bool (decide ((w64 (x13 + x14)) < x16))] 25 _ (by kernel_rfl) (fun w => by kernel_rfl) ?_
                  refine QRun_bool (decide ((w64 (x13 + x14)) < x16)) x12 (by kernel_rfl) (fun w => by kernel_rfl) gx12 ?_
                  exact QRun_done [0, 1, 2, 7, 8, 74] (by kernel_rfl) (by kernel_rfl)
                · refine QRun_bool (x11 != (-1000000000000000)) false (by kernel_rfl) (fun w => by kernel_rfl) hb8 ?_
                  have gx12 := M.ret_some ((M.ite_some gx12).2 hb8)
                  refine QRun_n (by kernel_rfl) ?_
                  refine QRun_n (by kernel_rfl) ?_
                  refine QRun_n (by kernel_rfl) ?_
                  refine QRun_n (by kernel_rfl) ?_
                  refine QRun_n (by kernel_rfl) ?_
                  refine QRun_n (by kernel_rfl) ?_
                  refine QRun_n (by kernel_rfl) ?_
                  refine QRun_n (by kernel_rfl) ?_
                  refine QRun_n (by kernel_rfl) ?_
                  refine QRun_n (by kernel_rfl) ?_
                  refine QRun_n (by kernel_rfl) ?_
                  refine QRun_n (by kernel_rfl) ?_
                  refine QRun_n (by kernel_rfl) ?_
                  refine QRun_n (by kernel_rfl) ?_
                  refine QRun_n (by kernel_rfl) ?_
                  refine QRun_n (by kernel_rfl) ?_
                  refine QRun_n (by kernel_rfl) ?_
                  refine QRun_bool false x12 (by kernel_rfl) (fun w => by kernel_rfl) gx12 ?_
                  exact QRun_done [0, 1, 2, 7, 8, 74] (by kernel_rfl) (by kernel_rfl)
              exact QRun_done [0, 1, 2, 7, 8, 74] (by kernel_rfl) (by kernel_rfl)
            refine Run_cond (b := x12) (by kernel_rfl) (fun hb9 => ?_) (fun hb9 => ?_)
            · have hB2 := (M.ite_some hB2).1 hb9
              refine Run_seq ?_
              refine Run_reg 1 (by kernel_rfl) (L' := [(6, .bool false)]) ?_ ?_
              · refine QRun_b [.bool false] 0 _ (by kernel_rfl) (fun w => by kernel_rfl) ?_
                exact QRun_done [6] (by kernel_rfl) (by kernel_rfl)
              have hB2 := M.ret_some hB2
              have gx9 := houty2 _ hB2.symm
              have hB1 := M.cont_inr' hB1 gx9
              have hB1 := M.ret_some hB1
              have gx8 := houty1 _ hB1.symm
              have hF := M.cont_inr' hF gx8
              have hF := M.ret_some hF
              subst hF
              exact Run_ret1 rfl (ResV_tmp (v := .bool false) (by kernel_rfl)) ⟨rfl, rfl⟩
            · have hB2 := (M.ite_some hB2).2 hb9
              refine Run_skip ?_
              refine Run_blk ?_
              refine Run_reg 3 (by kernel_rfl) (L' := [(0, .slice aa_ a_.length ca_), (1, .slice au u.length cu), (2, .slice av_ v_.length cv_), (7, .int .i64 i1), (8, .int .i64 (i2 + 1))]) ?_ ?_
              · refine QRun_b [.int .i64 i2] 0 _ (by kernel_rfl) (fun w => by kernel_rfl) ?_
                refine QRun_y (.int .i64 (i2 + 1)) (by kernel_rfl) (Y_eq (v := .int .i64 (w64 (i2 + 1))) (Y_pure (fun w => by kernel_rfl)) (by rw [w64_eq _ (by omega)])) ?_
                refine QRun_b [.int .i64 (i2 + 1)] 2 _ (by kernel_rfl) (fun w => by kernel_rfl) ?_
                exact QRun_done [0, 1, 2, 7, 8] (by kernel_rfl) (by kernel_rfl)
              have hB2 := M.ret_some hB2
              have gx9 := hgoy2 _ hB2.symm
              exact Run_again [0, 1, 2, 7, 8] (by kernel_rfl) my2 (Nat.lt_succ_self _) ⟨i2 + 1, (), by omega, gx9, rfl, rfl⟩
          · have gx9 := M.for_end gx9 hb7
            subst gx9
            refine Run_exit (k' := _) rfl ?_
            exact Run_fall [0, 1, 2, 7] (by kernel_rfl) ⟨(), rfl, rfl, rfl⟩
      · have gx8 := M.for_end gx8 hb6
        subst gx8
        refine Run_exit (k' := _) rfl ?_
        exact Run_fall [] (by kernel_rfl) ⟨(), rfl, rfl, rfl⟩

set_option maxRecDepth 100000 in
set_option maxHeartbeats 4000000 in
theorem w_impl_checkedValue (h : Heap) (n_ : Int) (n : Nat) (r : Int × Int) (hF : impl_checkedValue n_ n = some r) :
    Fn Try.prog 129 #[.int .i64 n_] h fun v h' => v = .tuple #[.int .i64 r.1, .int .i64 r.2] ∧ h' = h := by
  unfold impl_checkedValue at hF
  refine Fn_enter (args := [.int .i64 n_]) Try.func129 rfl (by kernel_rfl) (by kernel_rfl) (fun w0 _ => ?_)
  refine Run_seq ?_
  refine Run_reg 2 (by kernel_rfl) (L' := [(0, .int .i64 n_)]) ?_ ?_
  · refine QRun_b [.int .i64 0, .int .i64 0] 0 _ (by kernel_rfl) (fun w => by kernel_rfl) ?_
    exact QRun_done [0] (by kernel_rfl) (by kernel_rfl)
  refine Run_seq ?_
  refine Run_seq ?_
  obtain ⟨x1, hx1, hF⟩ := M.bind_some hF
  refine Run_reg 3 (by kernel_rfl) (L' := [(0, .int .i64 n_), (6, .bool (!x1))]) ?_ ?_
  · refine QRun_b [.int .i64 n_] 0 _ (by kernel_rfl) (fun w => by kernel_rfl) ?_
    refine QRun_y (.bool x1) (by kernel_rfl) (Y_callq (f := 159) (args := #[.int .i64 n_]) (v := .bool x1) (by kernel_rfl) (w_impl_IsValue h n_ _ _ hx1)) ?_
    refine QRun_b [.bool (!x1)] 2 _ (by kernel_rfl) (fun w => by kernel_rfl) ?_
    exact QRun_done [0, 6] (by kernel_rfl) (by kernel_rfl)
  refine Run_cond (b := !x1) (by kernel_rfl) (fun hb1 => ?_) (fun hb1 => ?_)
  · have hF := (M.ite_some hF).1 hb1
    refine Run_seq ?_
    refine Run_reg 2 (by kernel_rfl) (L' := [(2, .int .i64 0), (3, .int .i64 3)]) ?_ ?_
    · refine QRun_b [.int .i64 0, .int .i64 3] 0 _ (by kernel_rfl) (fun w => by kernel_rfl) ?_
      exact QRun_done [2, 3] (by kernel_rfl) (by kernel_rfl)
    have hF := M.ret_some hF
    subst hF
    exact Run_ret2 rfl (ResV_tmp (v := .int .i64 0) (by kernel_rfl)) (ResV_tmp (v := .int .i64 3) (by kernel_rfl)) ⟨rfl, rfl⟩
  · have hF := (M.ite_some hF).2 hb1
    refine Run_skip ?_
    refine Run_seq ?_
    refine Run_reg 3 (by kernel_rfl) (L' := [(2, .int .i64 n_), (3, .int .i64 0)]) ?_ ?_
    · refine QRun_b [.int .i64 n_, .int .i64 n_, .int .i64 0] 0 _ (by kernel_rfl) (fun w => by kernel_rfl) ?_
      exact QRun_done [2, 3] (by kernel_rfl) (by kernel_rfl)
    have hF := M.ret_some hF
    subst hF
    exact Run_ret2 rfl (ResV_tmp (v := .int .i64 n_) (by kernel_rfl)) (ResV_tmp (v := .int .i64 0) (by kernel_rfl)) ⟨rfl, rfl⟩

set_option maxRecDepth 100000 in
set_option maxHeartbeats 4000000 in
theorem w_impl_PermanentOf (h : Heap) (a_ : List (List Int)) (aa_ : Option Addr) (ca_ : Nat) (ra_ : Rd cd39 h (Lt h) aa_ ca_ a_) (n : Nat) (r : Int × Int) (hF : impl_PermanentOf a_ n = some r) :
    Fn Try.prog 51 #[.slice aa_ a_.length ca_] h fun v h' => v = .tuple #[.int .i64 r.1, .int .i64 r.2] ∧ Hold h h' [] := by
  unfold impl_PermanentOf at hF
  refine Fn_enter (args := [.slice aa_ a_.length ca_]) Try.func51 rfl (by kernel_rfl) (by kernel_rfl) (fun w0 _ => ?_)
  have H0 := Hold.init h
  refine Run_seq ?_
  refine Run_reg 2 (by kernel_rfl) (L' := [(0, .slice aa_ a_.length ca_)]) ?_ ?_
  · refine QRun_b [.int .i64 0, .int .i64 0] 0 _ (by kernel_rfl) (fun w => by kernel_rfl) ?_
    exact QRun_done [0] (by kernel_rfl) (by kernel_rfl)
  refine Run_seq ?_
  refine Run_seq ?_
  obtain ⟨x1, hx1, hF⟩ := M.bind_some hF
  refine Run_regC (j := 3) (C := fun x => Hold h x []) (by kernel_rfl) H0 (L' := [(0, .slice aa_ a_.length ca_), (6, .bool (!x1))]) ?_ (fun h1 H1 => ?_)
  · refine QRun_b [.slice aa_ a_.length ca_] 0 _ (by kernel_rfl) (fun w => by kernel_rfl) ?_
    refine QRun_y (.bool x1) (by kernel_rfl) (Y_call (f := 89) (args := #[.slice aa_ a_.length ca_]) (v := .bool x1) (by kernel_rfl) fun hx Hx => (w_impl_isSquare hx a_ aa_ ca_ (ra_.at Hx.ext) _ _ hx1).mono fun _ _ ⟨e, H'⟩ => ⟨e, Hx.call H' rfl⟩) ?_
    refine QRun_b [.bool (!x1)] 2 _ (by kernel_rfl) (fun w => by kernel_rfl) ?_
    exact QRun_done [0, 6] (by kernel_rfl) (by kernel_rfl)
  have H2 : Hold h h1 [] := H1
  refine Run_cond (b := !x1) (by kernel_rfl) (fun hb1 => ?_) (fun hb1 => ?_)
  · have hF := (M.ite_some hF).1 hb1
    refine Run_seq ?_
    refine Run_reg 2 (by kernel_rfl) (L' := [(2, .int .i64 0), (3, .int .i64 1)]) ?_ ?_
    · refine QRun_b [.int .i64 0, .int .i64 1] 0 _ (by kernel_rfl) (fun w => by kernel_rfl) ?_
      exact QRun_done [2, 3] (by kernel_rfl) (by kernel_rfl)
    have hF := M.ret_some hF
    subst hF
    exact Run_ret2 rfl (ResV_tmp (v := .int .i64 0) (by kernel_rfl)) (ResV_tmp (v := .int .i64 1) (by kernel_rfl)) ⟨rfl, H2⟩
  · have hF := (M.ite_some hF).2 hb1
    refine Run_skip ?_
    refine Run_seq ?_
    refine Run_ops ?_
    refine Run_b [.slice aa_ a_.length ca_] 0 _ (by kernel_rfl) (fun w => by kernel_rfl) ?_
    obtain ⟨x2, hx2, hF⟩ := M.bind_some hF
    refine Run_E (by kernel_rfl) ?_
    refine E_call (f := 130) (args := #[.slice aa_ a_.length ca_]) (w_impl_permanents h1 a_ aa_ ca_ (ra_.at H2.ext) _ _ hx2) (by kernel_rfl) (fun v1 h2 hp1 => ?_)
    obtain ⟨a1, c1, rfl, H3⟩ := hp1
    have H4 : Hold h h2 [own cd127 a1 x2.length c1 x2] := H2.call H3 rfl
    obtain ⟨x3, hx3, hF⟩ := M.bind_some hF
    obtain ⟨hx3l, hx3u, hx3⟩ := M.idx_some hx3
    obtain ⟨x4, hx4, hF⟩ := M.bind_some hF
    refine Run_y (.pointer (some (adr a1 (0 * 2)))) (by kernel_rfl) (Y_idx (t := 128) (e := 127) (sz := 2) (a := a1) (n := x2.length) (cap := c1) (kk := .i64) (i := 0) (by kernel_rfl) Try.underlying128 (by kernel_rfl) ((H4.rd 0 rfl).cell hx3).1 hx3l hx3u) ?_
    refine Run_b [.pointer (some ((adr a1 (0 * 2)).add 0))] 3 _ (by kernel_rfl) (fun w => by kernel_rfl) ?_
    refine Run_y (.int .i64 x3.weight) (by kernel_rfl) (Y_load1 (t := 2) (p := (adr a1 (0 * 2)).add 0) (v := .int .i64 x3.weight) (by kernel_rfl) (fun w => by kernel_rfl) (cd127_f0 (H4.rd 0 rfl) hx3)) ?_
    refine Run_y (.tuple #[.int .i64 x4.1, .int .i64 x4.2]) (by kernel_rfl) (Y_callq (f := 129) (args := #[.int .i64 x3.weight]) (v := .tuple #[.int .i64 x4.1, .int .i64 x4.2]) (by kernel_rfl) (w_impl_checkedValue h2 x3.weight _ _ hx4)) ?_
    refine Run_b [.int .i64 x4.1, .int .i64 x4.2, .int .i64 x4.1, .int .i64 x4.2] 6 _ (by kernel_rfl) (fun w => by kernel_rfl) ?_
    refine Run_nil (by kernel_rfl) ?_
    refine Run_keep [2, 3] (L' := [(2, .int .i64 x4.1), (3, .int .i64 x4.2)]) (by kernel_rfl) ?_
    have hF := M.ret_some hF
    subst hF
    have H5 : Hold h h2 [] := H4.pick [] (by kernel_rfl)
    exact Run_ret2 rfl (ResV_tmp (v := .int .i64 x4.1) (by kernel_rfl)) (ResV_tmp (v := .int .i64 x4.2) (by kernel_rfl)) ⟨rfl, H5⟩

set_option maxRecDepth 100000 in
set_option maxHeartbeats 4000000 in
theorem w_laws_sum (h : Heap) (list : List Int) {Slist : Bs} (alist : Option Addr) (clist : Nat) (rlist : Rd cd2 h Slist alist clist list) (n : Nat) (r : Int) (hF : laws_sum list n = some r) :
    Fn Try.prog 52 #[.slice alist list.length clist] h fun v h' => v = .int .i64 r ∧ h' = h := by
  unfold laws_sum at hF
  refine Fn_enter (args := [.slice alist list.length clist]) Try.func52 rfl (by kernel_rfl) (by kernel_rfl) (fun w0 _ => ?_)
  refine Run_seq ?_
  refine Run_reg 1 (by kernel_rfl) (L' := [(0, .slice alist list.length clist)]) ?_ ?_
  · refine QRun_b [.int .i64 0] 0 _ (by kernel_rfl) (fun w => by kernel_rfl) ?_
    exact QRun_done [0] (by kernel_rfl) (by kernel_rfl)
  refine Run_seq ?_
  refine Run_reg 1 (by kernel_rfl) (L' := [(0, .slice alist list.length clist), (3, .int .i64 0)]) ?_ ?_
  · refine QRun_b [.int .i64 0] 0 _ (by kernel_rfl) (fun w => by kernel_rfl) ?_
    exact QRun_done [0, 3] (by kernel_rfl) (by kernel_rfl)
  refine Run_seq ?_
  refine Run_seq ?_
  refine Run_reg 1 (by kernel_rfl) (L' := [(0, .slice alist list.length clist), (3, .int .i64 0), (4, .int .i64 0)]) ?_ ?_
  · refine QRun_b [.int .i64 0] 0 _ (by kernel_rfl) (fun w => by kernel_rfl) ?_
    exact QRun_done [0, 3, 4] (by kernel_rfl) (by kernel_rfl)
  obtain ⟨x1, gx1, hF⟩ := M.bind_some hF
  obtain ⟨hloy1, hhiy1, gx1⟩ := M.for_start gx1
  refine Run_join (fun L' h' => L' = [(3, .int .i64 x1)] ∧ h = h') ?_ ?_
  · rintro _ _ ⟨rfl, rfl⟩
    refine Run_seq ?_
    refine Run_reg 2 (by kernel_rfl) (L' := [(2, .int .i64 x1)]) ?_ ?_
    · refine QRun_b [.int .i64 x1, .int .i64 x1] 0 _ (by kernel_rfl) (fun w => by kernel_rfl) ?_
      exact QRun_done [2] (by kernel_rfl) (by kernel_rfl)
    have hF := M.ret_some hF
    subst hF
    exact Run_ret1 rfl (ResV_tmp (v := .int .i64 x1) (by kernel_rfl)) ⟨rfl, rfl⟩
  · refine Run_block ?_
    refine Run_keep [0, 3, 4] (L' := [(0, .slice alist list.length clist), (3, .int .i64 0), (4, .int .i64 0)]) (by kernel_rfl) ?_
    refine Run_loop (fun m L' h' => ∃ (i1 : Int) (s1 : Int), 0 ≤ i1 ∧ M.forN (list.length : Int) _ _ n m i1 s1 = some x1 ∧ L' = [(0, .slice alist list.length clist), (3, .int .i64 s1), (4, .int .i64 i1)] ∧ h = h') ((list.length : Int) - 0 : Int).toNat ⟨0, 0, Int.le_refl _, gx1, rfl, rfl⟩ ?_
    rintro my1 _ _ ⟨i1, s1, hloy1', gx1, rfl, rfl⟩
    refine Run_seq ?_
    refine Run_seq ?_
    refine Run_reg 4 (by kernel_rfl) (L' := [(0, .slice alist list.length clist), (3, .int .i64 s1), (4, .int .i64 i1), (8, .bool (decide (i1 < (list.length : Int))))]) ?_ ?_
    · refine QRun_b [.int .i64 i1, .slice alist list.length clist, .int .i64 (list.length : Int), .bool (decide (i1 < (list.length : Int)))] 0 _ (by kernel_rfl) (fun w => by kernel_rfl) ?_
      exact QRun_done [0, 3, 4, 8] (by kernel_rfl) (by kernel_rfl)
    refine Run_cond (b := decide (i1 < (list.length : Int))) (by kernel_rfl) (fun hb1 => ?_) (fun hb1 => ?_)
    · obtain ⟨my1, y1, rfl, hB1, hgoy1, houty1⟩ := M.for_go gx1 hb1
      have hlty1 := of_decide_eq_true hb1
      refine Run_skip ?_
      refine Run_seq ?_
      refine Run_block ?_
      obtain ⟨x2, hx1, hB1⟩ := M.bind_some hB1
      obtain ⟨hx1l, hx1u, hx1⟩ := M.idx_some hx1
      refine Run_reg 7 (by kernel_rfl) (L' := [(0, .slice alist list.length clist), (3, .int .i64 (w64 (s1 + x2))), (4, .int .i64 i1)]) ?_ ?_
      · refine QRun_b [.int .i64 s1, .slice alist list.length clist, .int .i64 i1] 0 _ (by kernel_rfl) (fun w => by kernel_rfl) ?_
        refine QRun_y (.pointer (some (adr alist (i1.toNat * 1)))) (by kernel_rfl) (Y_idx (t := 39) (e := 2) (sz := 1) (a := alist) (n := list.length) (cap := clist) (kk := .i64) (i := i1) (by kernel_rfl) Try.underlying39 (by kernel_rfl) (rlist.cell hx1).1 hx1l hx1u) ?_
        refine QRun_y (.int .i64 x2) (by kernel_rfl) (Y_load1 (t := 2) (p := adr alist (i1.toNat * 1)) (v := .int .i64 x2) (by kernel_rfl) (fun w => by kernel_rfl) (cd2_cell rlist hx1)) ?_
        refine QRun_b [.int .i64 (w64 (s1 + x2)), .int .i64 (w64 (s1 + x2))] 5 _ (by kernel_rfl) (fun w => by kernel_rfl) ?_
        exact QRun_done [0, 3, 4] (by kernel_rfl) (by kernel_rfl)
      refine Run_blk ?_
      refine Run_reg 3 (by kernel_rfl) (L' := [(0, .slice alist list.length clist), (3, .int .i64 (w64 (s1 + x2))), (4, .int .i64 (i1 + 1))]) ?_ ?_
      · refine QRun_b [.int .i64 i1] 0 _ (by kernel_rfl) (fun w => by kernel_rfl) ?_
        refine QRun_y (.int .i64 (i1 + 1)) (by kernel_rfl) (Y_eq (v := .int .i64 (w64 (i1 + 1))) (Y_pure (fun w => by kernel_rfl)) (by rw [w64_eq _ (by omega)])) ?_
        refine QRun_b [.int .i64 (i1 + 1)] 2 _ (by kernel_rfl) (fun w => by kernel_rfl) ?_
        exact QRun_done [0, 3, 4] (by kernel_rfl) (by kernel_rfl)
      have hB1 := M.ret_some hB1
      have gx1 := hgoy1 _ hB1.symm
      exact Run_again [0, 3, 4] (by kernel_rfl) my1 (Nat.lt_succ_self _) ⟨i1 + 1, (w64 (s1 + x2)), by omega, gx1, rfl, rfl⟩
    · have gx1 := M.for_end gx1 hb1
      subst gx1
      refine Run_exit (k' := _) rfl ?_
      exact Run_fall [3] (by kernel_rfl) ⟨rfl, rfl⟩

end Go.Proofs.Ytipdgiljgbjjkaa
