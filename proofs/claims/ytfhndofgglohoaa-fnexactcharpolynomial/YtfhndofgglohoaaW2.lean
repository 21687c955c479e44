/-
  Walks: each Go function, called with what reads as plain data, returns what its plain program computes.
  Conditions: None beyond the given statement.
-/
import Derived.Test.YtfhndofgglohoaaW1
namespace Go.Proofs.Ytfhndofgglohoaa
open Go
attribute [local irreducible] setL setB opA fineI idleI fineB evB okB markB markBs readyB readyBs chainB lk rho pickL dropSlot tailOK
set_option maxRecDepth 100000 in
set_option maxHeartbeats 4000000 in
theorem w_laws_markInt64S (h hE : Heap) (it : Item) (a_ : List Int) (aa_ : Option Addr) (ca_ : Nat) (k_ : Int) (HM : Hold h hE [own cd2 aa_ a_.length ca_ a_, it]) (n : Nat) (r : Int × (List Int)) (hF : laws_markInt64S a_ k_ n = some r) :
    Fn Try.prog 26 #[.slice aa_ a_.length ca_, .int .i64 k_] hE fun v h' => v = .int .i64 r.1 ∧ Hold h h' [own cd2 aa_ a_.length ca_ r.2, it] := by
  unfold laws_markInt64S at hF
  refine Fn_enter (args := [.slice aa_ a_.length ca_, .int .i64 k_]) Try.func26 rfl (by kernel_rfl) (by kernel_rfl) (fun w0 _ => ?_)
  refine Run_seq ?_
  refine Run_reg 1 (by kernel_rfl) (L' := [(0, .slice aa_ a_.length ca_), (1, .int .i64 k_)]) ?_ ?_
  · refine QRun_b [.int .i64 0] 0 _ (by kernel_rfl) (fun w => by kernel_rfl) ?_
    exact QRun_done [0, 1] (by kernel_rfl) (by kernel_rfl)
  refine Run_seq ?_
  refine Run_seq ?_
  refine Run_reg 1 (by kernel_rfl) (L' := [(0, .slice aa_ a_.length ca_), (1, .int .i64 k_), (5, .int .i64 0)]) ?_ ?_
  · refine QRun_b [.int .i64 0] 0 _ (by kernel_rfl) (fun w => by kernel_rfl) ?_
    exact QRun_done [0, 1, 5] (by kernel_rfl) (by kernel_rfl)
  obtain ⟨x1, gx1, hF⟩ := M.bind_some hF
  obtain ⟨hloy1, hhiy1, gx1⟩ := M.for_start gx1
  refine Run_join (fun L' h' => L' = [(1, .int .i64 x1.2)] ∧ Hold h h' [own cd2 aa_ a_.length ca_ x1.1, it]) ?_ ?_
  · rintro _ h2 ⟨rfl, H2⟩
    refine Run_seq ?_
    refine Run_reg 2 (by kernel_rfl) (L' := [(4, .int .i64 x1.2)]) ?_ ?_
    · refine QRun_b [.int .i64 x1.2, .int .i64 x1.2] 0 _ (by kernel_rfl) (fun w => by kernel_rfl) ?_
      exact QRun_done [4] (by kernel_rfl) (by kernel_rfl)
    have hF := M.ret_some hF
    subst hF
    exact Run_ret1 rfl (ResV_tmp (v := .int .i64 x1.2) (by kernel_rfl)) ⟨rfl, H2⟩
  · refine Run_block ?_
    refine Run_keep [0, 1, 5] (L' := [(0, .slice aa_ a_.length ca_), (1, .int .i64 k_), (5, .int .i64 0)]) (by kernel_rfl) ?_
    refine Run_loop (fun m L' h' => ∃ (i1 : Int) (s1 : (List Int) × Int), 0 ≤ i1 ∧ M.forN (a_.length : Int) _ _ n m i1 s1 = some x1 ∧ L' = [(0, .slice aa_ a_.length ca_), (1, .int .i64 s1.2), (5, .int .i64 i1)] ∧ Hold h h' [own cd2 aa_ a_.length ca_ s1.1, it]) ((a_.length : Int) - 0).toNat ⟨0, (a_, k_), Int.le_refl _, gx1, rfl, HM⟩ ?_
    rintro my1 _ h1 ⟨i1, s1, hloy1', gx1, rfl, H1⟩
    refine Run_seq ?_
    refine Run_seq ?_
    refine Run_reg 4 (by kernel_rfl) (L' := [(0, .slice aa_ a_.length ca_), (1, .int .i64 s1.2), (5, .int .i64 i1), (9, .bool (decide (i1 < (a_.length : Int))))]) ?_ ?_
    · refine QRun_b [.int .i64 i1, .slice aa_ a_.length ca_, .int .i64 (a_.length : Int), .bool (decide (i1 < (a_.length : Int)))] 0 _ (by kernel_rfl) (fun w => by kernel_rfl) ?_
      exact QRun_done [0, 1, 5, 9] (by kernel_rfl) (by kernel_rfl)
    refine Run_cond (b := decide (i1 < (a_.length : Int))) (by kernel_rfl) (fun hb1 => ?_) (fun hb1 => ?_)
    · obtain ⟨my1, y1, rfl, hB1, hgoy1, houty1⟩ := M.for_go gx1 hb1
      have hlty1 := of_decide_eq_true hb1
      refine Run_skip ?_
      refine Run_seq ?_
      refine Run_block ?_
      refine Run_seq ?_
      refine Run_ops ?_
      obtain ⟨x2, hx1, hB1⟩ := M.bind_some hB1
      obtain ⟨hx1l, hx1u, hx1⟩ := M.idx_some hx1
      refine Run_b [.slice aa_ a_.length ca_, .int .i64 i1, .int .i64 s1.2] 0 _ (by kernel_rfl) (fun w => by kernel_rfl) ?_
      refine Run_y (.pointer (some (adr aa_ (i1.toNat * 1)))) (by kernel_rfl) (Y_idx (t := 31) (e := 2) (sz := 1) (a := aa_) (n := a_.length) (cap := ca_) (kk := .i64) (i := i1) (by kernel_rfl) Try.underlying31 (by kernel_rfl) ((H1.rd 0 rfl).cell hx1).1 hx1l (by rw [← (H1.len 0 rfl)]; exact hx1u)) ?_
      obtain ⟨l1, hu1, hB1⟩ := M.bind_some hB1
      have hu1 := M.upd_some hu1
      refine Run_E (by kernel_rfl) ?_
      refine E_put (C := cd2) (t := 2) (sz := 1) (j := i1) (x := s1.2) (v := .int .i64 s1.2) H1 cd2_flat (by kernel_rfl) rfl (cd2_own _) (by kernel_rfl) hu1 (fun h3 H3 => ?_)
      refine Run_nil (by kernel_rfl) ?_
      refine Run_keep [0, 1, 5] (L' := [(0, .slice aa_ a_.length ca_), (1, .int .i64 s1.2), (5, .int .i64 i1)]) (by kernel_rfl) ?_
      refine Run_reg 3 (by kernel_rfl) (L' := [(0, .slice aa_ a_.length ca_), (1, .int .i64 (w64 (s1.2 + 1))), (5, .int .i64 i1)]) ?_ ?_
      · refine QRun_b [.int .i64 s1.2, .int .i64 (w64 (s1.2 + 1)), .int .i64 (w64 (s1.2 + 1))] 0 _ (by kernel_rfl) (fun w => by kernel_rfl) ?_
        exact QRun_done [0, 1, 5] (by kernel_rfl) (by kernel_rfl)
      refine Run_blk ?_
      refine Run_reg 3 (by kernel_rfl) (L' := [(0, .slice aa_ a_.length ca_), (1, .int .i64 (w64 (s1.2 + 1))), (5, .int .i64 (i1 + 1))]) ?_ ?_
      · refine QRun_b [.int .i64 i1] 0 _ (by kernel_rfl) (fun w => by kernel_rfl) ?_
        refine QRun_y (.int .i64 (i1 + 1)) (by kernel_rfl) (Y_eq (v := .int .i64 (w64 (i1 + 1))) (Y_pure (fun w => by kernel_rfl)) (by rw [w64_eq _ (by omega)])) ?_
        refine QRun_b [.int .i64 (i1 + 1)] 2 _ (by kernel_rfl) (fun w => by kernel_rfl) ?_
        exact QRun_done [0, 1, 5] (by kernel_rfl) (by kernel_rfl)
      have hB1 := M.ret_some hB1
      have gx1 := hgoy1 _ hB1.symm
      exact Run_again [0, 1, 5] (by kernel_rfl) my1 (Nat.lt_succ_self _) ⟨i1 + 1, (l1, (w64 (s1.2 + 1))), by omega, gx1, rfl, H3⟩
    · have gx1 := M.for_end gx1 hb1
      subst gx1
      refine Run_exit (k' := _) rfl ?_
      exact Run_fall [1] (by kernel_rfl) ⟨rfl, H1⟩

set_option maxRecDepth 100000 in
set_option maxHeartbeats 4000000 in
theorem w_laws_markInt64SS (h hE : Heap) (it : Item) (a_ : List (List Int)) (aa_ : Option Addr) (ca_ : Nat) (k_ : Int) (HM : Hold h hE [own cd31 aa_ a_.length ca_ a_, it]) (n : Nat) (r : Int × (List (List Int))) (hF : laws_markInt64SS a_ k_ n = some r) :
    Fn Try.prog 25 #[.slice aa_ a_.length ca_, .int .i64 k_] hE fun v h' => v = .int .i64 r.1 ∧ Hold h h' [own cd31 aa_ a_.length ca_ r.2, it] := by
  unfold laws_markInt64SS at hF
  refine Fn_enter (args := [.slice aa_ a_.length ca_, .int .i64 k_]) Try.func25 rfl (by kernel_rfl) (by kernel_rfl) (fun w0 _ => ?_)
  refine Run_seq ?_
  refine Run_reg 1 (by kernel_rfl) (L' := [(0, .slice aa_ a_.length ca_), (1, .int .i64 k_)]) ?_ ?_
  · refine QRun_b [.int .i64 0] 0 _ (by kernel_rfl) (fun w => by kernel_rfl) ?_
    exact QRun_done [0, 1] (by kernel_rfl) (by kernel_rfl)
  refine Run_seq ?_
  refine Run_seq ?_
  refine Run_reg 1 (by kernel_rfl) (L' := [(0, .slice aa_ a_.length ca_), (1, .int .i64 k_), (5, .int .i64 0)]) ?_ ?_
  · refine QRun_b [.int .i64 0] 0 _ (by kernel_rfl) (fun w => by kernel_rfl) ?_
    exact QRun_done [0, 1, 5] (by kernel_rfl) (by kernel_rfl)
  obtain ⟨x1, gx1, hF⟩ := M.bind_some hF
  obtain ⟨hloy1, hhiy1, gx1⟩ := M.for_start gx1
  refine Run_join (fun L' h' => L' = [(1, .int .i64 x1.2)] ∧ Hold h h' [own cd31 aa_ a_.length ca_ x1.1, it]) ?_ ?_
  · rintro _ h2 ⟨rfl, H2⟩
    refine Run_seq ?_
    refine Run_reg 2 (by kernel_rfl) (L' := [(4, .int .i64 x1.2)]) ?_ ?_
    · refine QRun_b [.int .i64 x1.2, .int .i64 x1.2] 0 _ (by kernel_rfl) (fun w => by kernel_rfl) ?_
      exact QRun_done [4] (by kernel_rfl) (by kernel_rfl)
    have hF := M.ret_some hF
    subst hF
    exact Run_ret1 rfl (ResV_tmp (v := .int .i64 x1.2) (by kernel_rfl)) ⟨rfl, H2⟩
  · refine Run_block ?_
    refine Run_keep [0, 1, 5] (L' := [(0, .slice aa_ a_.length ca_), (1, .int .i64 k_), (5, .int .i64 0)]) (by kernel_rfl) ?_
    refine Run_loop (fun m L' h' => ∃ (i1 : Int) (s1 : (List (List Int)) × Int), 0 ≤ i1 ∧ M.forN (a_.length : Int) _ _ n m i1 s1 = some x1 ∧ L' = [(0, .slice aa_ a_.length ca_), (1, .int .i64 s1.2), (5, .int .i64 i1)] ∧ Hold h h' [own cd31 aa_ a_.length ca_ s1.1, it]) ((a_.length : Int) - 0).toNat ⟨0, (a_, k_), Int.le_refl _, gx1, rfl, HM⟩ ?_
    rintro my1 _ h1 ⟨i1, s1, hloy1', gx1, rfl, H1⟩
    refine Run_seq ?_
    refine Run_seq ?_
    refine Run_reg 4 (by kernel_rfl) (L' := [(0, .slice aa_ a_.length ca_), (1, .int .i64 s1.2), (5, .int .i64 i1), (9, .bool (decide (i1 < (a_.length : Int))))]) ?_ ?_
    · refine QRun_b [.int .i64 i1, .slice aa_ a_.length ca_, .int .i64 (a_.length : Int), .bool (decide (i1 < (a_.length : Int)))] 0 _ (by kernel_rfl) (fun w => by kernel_rfl) ?_
      exact QRun_done [0, 1, 5, 9] (by kernel_rfl) (by kernel_rfl)
    refine Run_cond (b := decide (i1 < (a_.length : Int))) (by kernel_rfl) (fun hb1 => ?_) (fun hb1 => ?_)
    · obtain ⟨my1, y1, rfl, hB1, hgoy1, houty1⟩ := M.for_go gx1 hb1
      have hlty1 := of_decide_eq_true hb1
      refine Run_skip ?_
      refine Run_seq ?_
      refine Run_block ?_
      refine Run_ops ?_
      obtain ⟨x2, hx1, hB1⟩ := M.bind_some hB1
      obtain ⟨hx1l, hx1u, hx1⟩ := M.idx_some hx1
      have H3 := H1.toRows
      obtain ⟨a1, c1, H4⟩ := H3.pinRow hx1
      refine Run_b [.slice aa_ a_.length ca_, .int .i64 i1] 0 _ (by kernel_rfl) (fun w => by kernel_rfl) ?_
      refine Run_y (.pointer (some (adr aa_ (i1.toNat * 1)))) (by kernel_rfl) (Y_idx (t := 22) (e := 31) (sz := 1) (a := aa_) (n := a_.length) (cap := ca_) (kk := .i64) (i := i1) (by kernel_rfl) Try.underlying22 (by kernel_rfl) ((H1.rd 0 rfl).cell hx1).1 hx1l (by rw [← (H1.len 0 rfl)]; exact hx1u)) ?_
      refine Run_y (.slice a1 x2.length c1) (by kernel_rfl) (Y_load1 (t := 31) (p := adr aa_ (i1.toNat * 1)) (v := .slice a1 x2.length c1) (by kernel_rfl) (fun w => by kernel_rfl) (H4.cellPin 0 rfl 0 rfl)) ?_
      refine Run_b [.int .i64 s1.2] 4 _ (by kernel_rfl) (fun w => by kernel_rfl) ?_
      obtain ⟨x3, hx2, hB1⟩ := M.bind_some hB1
      have hc1 := H4.cellPin 0 rfl 0 rfl
      have hr1 := H4.getPin 0 rfl 0 rfl
      have H6 := H4.ofRows
      obtain ⟨a2, c2, hc2, H5⟩ := H6.takeRow hr1
      have ha1 := hc2.symm.trans hc1
      simp only [Option.some.injEq, Value.slice.injEq, true_and] at ha1
      obtain ⟨rfl, rfl⟩ := ha1
      have H7 : Hold h h1 [own cd2 a2 x2.length c2 x2, bun [rest cd2 31 aa_ a_.length ca_ s1.1 i1.toNat a2 x2.length c2, it]] := Hold.bundle (S := [own cd2 a2 x2.length c2 x2]) (R := [rest cd2 31 aa_ a_.length ca_ s1.1 i1.toNat a2 x2.length c2, it]) H5
      refine Run_E (by kernel_rfl) ?_
      refine E_call (f := 26) (args := #[.slice a2 x2.length c2, .int .i64 s1.2]) (w_laws_markInt64S h h1 _ x2 a2 c2 s1.2 H7 _ _ hx2) (by kernel_rfl) (fun v1 h3 hp1 => ?_)
      obtain ⟨rfl, H8⟩ := hp1
      have H9 : Hold h h3 [own cd2 a2 x2.length c2 x3.2, rest cd2 31 aa_ a_.length ca_ s1.1 i1.toNat a2 x2.length c2, it] := Hold.unbundle (S := [own cd2 a2 x2.length c2 x3.2]) (R := [rest cd2 31 aa_ a_.length ca_ s1.1 i1.toNat a2 x2.length c2, it]) H8 (Hold.tailBase (S := [own cd2 a2 x2.length c2 x2]) (R := [rest cd2 31 aa_ a_.length ca_ s1.1 i1.toNat a2 x2.length c2, it]) H5)
      have H10 : Hold h h3 [own cd31 aa_ a_.length ca_ (s1.1.set i1.toNat x3.2), it] := Hold.putRow H9
      refine Run_b [.int .i64 x3.1] 6 _ (by kernel_rfl) (fun w => by kernel_rfl) ?_
      refine Run_nil (by kernel_rfl) ?_
      refine Run_keep [0, 1, 5] (L' := [(0, .slice aa_ a_.length ca_), (1, .int .i64 x3.1), (5, .int .i64 i1)]) (by kernel_rfl) ?_
      refine Run_blk ?_
      refine Run_reg 3 (by kernel_rfl) (L' := [(0, .slice aa_ a_.length ca_), (1, .int .i64 x3.1), (5, .int .i64 (i1 + 1))]) ?_ ?_
      · refine QRun_b [.int .i64 i1] 0 _ (by kernel_rfl) (fun w => by kernel_rfl) ?_
        refine QRun_y (.int .i64 (i1 + 1)) (by kernel_rfl) (Y_eq (v := .int .i64 (w64 (i1 + 1))) (Y_pure (fun w => by kernel_rfl)) (by rw [w64_eq _ (by omega)])) ?_
        refine QRun_b [.int .i64 (i1 + 1)] 2 _ (by kernel_rfl) (fun w => by kernel_rfl) ?_
        exact QRun_done [0, 1, 5] (by kernel_rfl) (by kernel_rfl)
      have hB1 := M.ret_some hB1
      have gx1 := hgoy1 _ hB1.symm
      exact Run_again [0, 1, 5] (by kernel_rfl) my1 (Nat.lt_succ_self _) ⟨i1 + 1, ((s1.1.set i1.toNat x3.2), x3.1), by omega, gx1, rfl, H10⟩
    · have gx1 := M.for_end gx1 hb1
      subst gx1
      refine Run_exit (k' := _) rfl ?_
      exact Run_fall [1] (by kernel_rfl) ⟨rfl, H1⟩

set_option maxRecDepth 100000 in
set_option maxHeartbeats 4000000 in
theorem w_laws_FnExactCharPolynomial (h : Heap) (aA : List (List Int)) (aaA : Option Addr) (caA : Nat) (raA : Rd cd31 h (Lt h) aaA caA aA) (n : Nat) (r : Bool) (hF : laws_FnExactCharPolynomial aA n = some r) :
    Fn Try.prog 8 #[.slice aaA aA.length caA] h fun v h' => v = .bool r ∧ Hold h h' [] := by
  unfold laws_FnExactCharPolynomial at hF
  refine Fn_enter (args := [.slice aaA aA.length caA]) Try.func8 rfl (by kernel_rfl) (by kernel_rfl) (fun w0 _ => ?_)
  have H0 := Hold.init h
  refine Run_seq ?_
  refine Run_reg 1 (by kernel_rfl) (L' := [(0, .slice aaA aA.length caA)]) ?_ ?_
  · refine QRun_b [.bool false] 0 _ (by kernel_rfl) (fun w => by kernel_rfl) ?_
    exact QRun_done [0] (by kernel_rfl) (by kernel_rfl)
  refine Run_seq ?_
  refine Run_reg 1 (by kernel_rfl) (L' := [(0, .slice aaA aA.length caA), (3, .int .i64 1048576)]) ?_ ?_
  · refine QRun_b [.int .i64 1048576] 0 _ (by kernel_rfl) (fun w => by kernel_rfl) ?_
    exact QRun_done [0, 3] (by kernel_rfl) (by kernel_rfl)
  refine Run_seq ?_
  obtain ⟨x1, hx1, hF⟩ := M.bind_some hF
  refine Run_reg 4 (by kernel_rfl) (L' := [(0, .slice aaA aA.length caA), (3, .int .i64 x1)]) ?_ ?_
  · refine QRun_b [.slice aaA aA.length caA, .int .i64 1048576] 0 _ (by kernel_rfl) (fun w => by kernel_rfl) ?_
    refine QRun_y (.int .i64 x1) (by kernel_rfl) (Y_callq (f := 13) (args := #[.slice aaA aA.length caA, .int .i64 1048576]) (v := .int .i64 x1) (by kernel_rfl) (w_laws_szInt64SS h aA aaA caA raA 1048576 _ _ hx1)) ?_
    refine QRun_b [.int .i64 x1] 3 _ (by kernel_rfl) (fun w => by kernel_rfl) ?_
    exact QRun_done [0, 3] (by kernel_rfl) (by kernel_rfl)
  refine Run_seq ?_
  refine Run_seq ?_
  refine Run_reg 2 (by kernel_rfl) (L' := [(0, .slice aaA aA.length caA), (18, .bool (decide (x1 < 0)))]) ?_ ?_
  · refine QRun_b [.int .i64 x1, .bool (decide (x1 < 0))] 0 _ (by kernel_rfl) (fun w => by kernel_rfl) ?_
    exact QRun_done [0, 18] (by kernel_rfl) (by kernel_rfl)
  refine Run_cond (b := decide (x1 < 0)) (by kernel_rfl) (fun hb1 => ?_) (fun hb1 => ?_)
  · have hF := (M.ite_some hF).1 hb1
    refine Run_seq ?_
    refine Run_reg 1 (by kernel_rfl) (L' := [(2, .bool true)]) ?_ ?_
    · refine QRun_b [.bool true] 0 _ (by kernel_rfl) (fun w => by kernel_rfl) ?_
      exact QRun_done [2] (by kernel_rfl) (by kernel_rfl)
    have hF := M.ret_some hF
    subst hF
    exact Run_ret1 rfl (ResV_tmp (v := .bool true) (by kernel_rfl)) ⟨rfl, H0⟩
  · have hF := (M.ite_some hF).2 hb1
    refine Run_skip ?_
    refine Run_seq ?_
    refine Run_ops ?_
    refine Run_b [.slice aaA aA.length caA] 0 _ (by kernel_rfl) (fun w => by kernel_rfl) ?_
    obtain ⟨x2, hx2, hF⟩ := M.bind_some hF
    refine Run_E (by kernel_rfl) ?_
    refine E_call (f := 15) (args := #[.slice aaA aA.length caA]) (w_laws_toInt64SS h aA aaA caA raA _ _ hx2) (by kernel_rfl) (fun v1 h1 hp1 => ?_)
    obtain ⟨a1, c1, rfl, H1⟩ := hp1
    have H2 : Hold h h1 [own cd31 a1 x2.length c1 x2] := H0.call H1 rfl
    obtain ⟨x3, hx3, hF⟩ := M.bind_some hF
    refine Run_E (by kernel_rfl) ?_
    refine E_call (f := 31) (args := #[.slice a1 x2.length c1]) (w_spec_CharPolynomial h1 x2 a1 c1 (H2.rd 0 rfl) _ _ hx3) (by kernel_rfl) (fun v2 h2 hp2 => ?_)
    obtain ⟨a2, c2, rfl, H3⟩ := hp2
    have H4 : Hold h h2 [own cd2 a2 x3.1.length c2 x3.1, own cd31 a1 x2.length c1 x2] := H2.call H3 rfl
    refine Run_b [.tuple #[.slice a2 x3.1.length c2, .int .i64 x3.2], .slice a2 x3.1.length c2, .int .i64 x3.2, .slice a2 x3.1.length c2, .int .i64 x3.2] 3 _ (by kernel_rfl) (fun w => by kernel_rfl) ?_
    refine Run_nil (by kernel_rfl) ?_
    refine Run_keep [0, 4, 5] (L' := [(0, .slice aaA aA.length caA), (4, .slice a2 x3.1.length c2), (5, .int .i64 x3.2)]) (by kernel_rfl) ?_
    refine Run_seq ?_
    refine Run_ops ?_
    refine Run_b [.slice aaA aA.length caA] 0 _ (by kernel_rfl) (fun w => by kernel_rfl) ?_
    obtain ⟨x4, hx4, hF⟩ := M.bind_some hF
    refine Run_E (by kernel_rfl) ?_
    refine E_call (f := 15) (args := #[.slice aaA aA.length caA]) (w_laws_toInt64SS h2 aA aaA caA (raA.at H4.ext) _ _ hx4) (by kernel_rfl) (fun v3 h3 hp3 => ?_)
    obtain ⟨a3, c3, rfl, H5⟩ := hp3
    have H6 : Hold h h3 [own cd31 a3 x4.length c3 x4, own cd2 a2 x3.1.length c2 x3.1, own cd31 a1 x2.length c1 x2] := H4.call H5 rfl
    refine Run_b [.slice a3 x4.length c3] 2 _ (by kernel_rfl) (fun w => by kernel_rfl) ?_
    refine Run_nil (by kernel_rfl) ?_
    refine Run_keep [0, 4, 5, 6] (L' := [(0, .slice aaA aA.length caA), (4, .slice a2 x3.1.length c2), (5, .int .i64 x3.2), (6, .slice a3 x4.length c3)]) (by kernel_rfl) ?_
    refine Run_seq ?_
    refine Run_ops ?_
    refine Run_b [.slice a3 x4.length c3] 0 _ (by kernel_rfl) (fun w => by kernel_rfl) ?_
    obtain ⟨x5, hx5, hF⟩ := M.bind_some hF
    refine Run_E (by kernel_rfl) ?_
    refine E_call (f := 32) (args := #[.slice a3 x4.length c3]) (w_impl_CharPolynomial h3 x4 a3 c3 (H6.rd 0 rfl) _ _ hx5) (by kernel_rfl) (fun v4 h4 hp4 => ?_)
    obtain ⟨a4, c4, rfl, H7⟩ := hp4
    have H8 : Hold h h4 [own cd2 a4 x5.1.length c4 x5.1, own cd31 a3 x4.length c3 x4, own cd2 a2 x3.1.length c2 x3.1, own cd31 a1 x2.length c1 x2] := H6.call H7 rfl
    refine Run_b [.tuple #[.slice a4 x5.1.length c4, .int .i64 x5.2], .slice a4 x5.1.length c4, .int .i64 x5.2, .slice a4 x5.1.length c4, .int .i64 x5.2] 2 _ (by kernel_rfl) (fun w => by kernel_rfl) ?_
    refine Run_nil (by kernel_rfl) ?_
    refine Run_keep [0, 4, 5, 6, 7, 8] (L' := [(0, .slice aaA aA.length caA), (4, .slice a2 x3.1.length c2), (5, .int .i64 x3.2), (6, .slice a3 x4.length c3), (7, .slice a4 x5.1.length c4), (8, .int .i64 x5.2)]) (by kernel_rfl) ?_
    refine Run_seq ?_
    refine Run_seq ?_
    obtain ⟨x6, hx6, hF⟩ := M.bind_some hF
    refine Run_reg 9 (by kernel_rfl) (L' := [(0, .slice aaA aA.length caA), (4, .slice a2 x3.1.length c2), (5, .int .i64 x3.2), (6, .slice a3 x4.length c3), (7, .slice a4 x5.1.length c4), (8, .int .i64 x5.2), (40, .bool ((!x6) || (x5.2 != x3.2)))]) ?_ ?_
    · refine QRun_b [.slice a4 x5.1.length c4, .slice a2 x3.1.length c2] 0 _ (by kernel_rfl) (fun w => by kernel_rfl) ?_
      refine QRun_y (.bool x6) (by kernel_rfl) (Y_callq (f := 24) (args := #[.slice a4 x5.1.length c4, .slice a2 x3.1.length c2]) (v := .bool x6) (by kernel_rfl) (w_laws_eqInt64S h4 x5.1 a4 c4 (H8.rd 0 rfl) x3.1 a2 c2 (H8.rd 2 rfl) _ _ hx6)) ?_
      refine QRun_b [.bool (!x6)] 3 _ (by kernel_rfl) (fun w => by kernel_rfl) ?_
      refine QRun_seq 9 [(0, .slice aaA aA.length caA), (4, .slice a2 x3.1.length c2), (5, .int .i64 x3.2), (6, .slice a3 x4.length c3), (7, .slice a4 x5.1.length c4), (8, .int .i64 x5.2), (40, .bool ((!x6) || (x5.2 != x3.2)))] ?_ ?_
      · rcases Bool.eq_false_or_eq_true (!x6) with hb2 | hb2
        · refine QRun_bool (!x6) true (by kernel_rfl) (fun w => by kernel_rfl) hb2 ?_
          refine QRun_n (by kernel_rfl) ?_
          refine QRun_n (by kernel_rfl) ?_
          refine QRun_n (by kernel_rfl) ?_
          refine QRun_bool true ((!x6) || (x5.2 != x3.2)) (by kernel_rfl) (fun w => by kernel_rfl) (by rw [hb2]; rfl) ?_
          exact QRun_done [0, 4, 5, 6, 7, 8, 40] (by kernel_rfl) (by kernel_rfl)
        · refine QRun_bool (!x6) false (by kernel_rfl) (fun w => by kernel_rfl) hb2 ?_
          refine QRun_b [.int .i64 x5.2, .int .i64 x3.2, .bool (x5.2 != x3.2)] 5 _ (by kernel_rfl) (fun w => by kernel_rfl) ?_
          refine QRun_bool (x5.2 != x3.2) ((!x6) || (x5.2 != x3.2)) (by kernel_rfl) (fun w => by kernel_rfl) (by rw [hb2]; rfl) ?_
          exact QRun_done [0, 4, 5, 6, 7, 8, 40] (by kernel_rfl) (by kernel_rfl)
      exact QRun_done [0, 4, 5, 6, 7, 8, 40] (by kernel_rfl) (by kernel_rfl)
    refine Run_cond (b := (!x6) || (x5.2 != x3.2)) (by kernel_rfl) (fun hb3 => ?_) (fun hb3 => ?_)
    · have hF := (M.ite_some hF).1 hb3
      refine Run_seq ?_
      refine Run_reg 1 (by kernel_rfl) (L' := [(2, .bool false)]) ?_ ?_
      · refine QRun_b [.bool false] 0 _ (by kernel_rfl) (fun w => by kernel_rfl) ?_
        exact QRun_done [2] (by kernel_rfl) (by kernel_rfl)
      have hF := M.ret_some hF
      subst hF
      have H9 : Hold h h4 [] := H8.pick [] (by kernel_rfl)
      exact Run_ret1 rfl (ResV_tmp (v := .bool false) (by kernel_rfl)) ⟨rfl, H9⟩
    · have hF := (M.ite_some hF).2 hb3
      refine Run_skip ?_
      refine Run_seq ?_
      refine Run_seq ?_
      refine Run_ops ?_
      refine Run_b [.slice a3 x4.length c3, .slice aaA aA.length caA] 0 _ (by kernel_rfl) (fun w => by kernel_rfl) ?_
      obtain ⟨x8, hx7, hF⟩ := M.bind_some hF
      refine Run_E (by kernel_rfl) ?_
      refine E_call (f := 15) (args := #[.slice aaA aA.length caA]) (w_laws_toInt64SS h4 aA aaA caA (raA.at H8.ext) _ _ hx7) (by kernel_rfl) (fun v5 h5 hp5 => ?_)
      obtain ⟨a5, c5, rfl, H10⟩ := hp5
      have H11 : Hold h h5 [own cd31 a5 x8.length c5 x8, own cd2 a4 x5.1.length c4 x5.1, own cd31 a3 x4.length c3 x4, own cd2 a2 x3.1.length c2 x3.1, own cd31 a1 x2.length c1 x2] := H8.call H10 rfl
      obtain ⟨x9, hx8, hF⟩ := M.bind_some hF
      refine Run_y (.bool x9) (by kernel_rfl) (Y_callq (f := 17) (args := #[.slice a3 x4.length c3, .slice a5 x8.length c5]) (v := .bool x9) (by kernel_rfl) (w_laws_eqInt64SS h5 x4 a3 c3 (H11.rd 2 rfl) x8 a5 c5 (H11.rd 0 rfl) _ _ hx8)) ?_
      refine Run_b [.bool (!x9)] 4 _ (by kernel_rfl) (fun w => by kernel_rfl) ?_
      refine Run_nil (by kernel_rfl) ?_
      refine Run_keep [0, 4, 5, 6, 7, 8, 45] (L' := [(0, .slice aaA aA.length caA), (4, .slice a2 x3.1.length c2), (5, .int .i64 x3.2), (6, .slice a3 x4.length c3), (7, .slice a4 x5.1.length c4), (8, .int .i64 x5.2), (45, .bool (!x9))]) (by kernel_rfl) ?_
      refine Run_cond (b := !x9) (by kernel_rfl) (fun hb4 => ?_) (fun hb4 => ?_)
      · have hF := (M.ite_some hF).1 hb4
        refine Run_seq ?_
        refine Run_reg 1 (by kernel_rfl) (L' := [(2, .bool false)]) ?_ ?_
        · refine QRun_b [.bool false] 0 _ (by kernel_rfl) (fun w => by kernel_rfl) ?_
          exact QRun_done [2] (by kernel_rfl) (by kernel_rfl)
        have hF := M.ret_some hF
        subst hF
        have H12 : Hold h h5 [] := H11.pick [] (by kernel_rfl)
        exact Run_ret1 rfl (ResV_tmp (v := .bool false) (by kernel_rfl)) ⟨rfl, H12⟩
      · have hF := (M.ite_some hF).2 hb4
        refine Run_skip ?_
        refine Run_seq ?_
        refine Run_reg 1 (by kernel_rfl) (L' := [(0, .slice aaA aA.length caA), (4, .slice a2 x3.1.length c2), (5, .int .i64 x3.2), (6, .slice a3 x4.length c3), (7, .slice a4 x5.1.length c4), (8, .int .i64 x5.2), (9, .int .i64 1)]) ?_ ?_
        · refine QRun_b [.int .i64 1] 0 _ (by kernel_rfl) (fun w => by kernel_rfl) ?_
          exact QRun_done [0, 4, 5, 6, 7, 8, 9] (by kernel_rfl) (by kernel_rfl)
        refine Run_seq ?_
        refine Run_ops ?_
        refine Run_b [.slice a3 x4.length c3, .int .i64 1] 0 _ (by kernel_rfl) (fun w => by kernel_rfl) ?_
        obtain ⟨x10, hx9, hF⟩ := M.bind_some hF
        have H13 : Hold h h5 [own cd31 a3 x4.length c3 x4, own cd31 a5 x8.length c5 x8, own cd2 a4 x5.1.length c4 x5.1, own cd2 a2 x3.1.length c2 x3.1, own cd31 a1 x2.length c1 x2] := H11.pick [2, 0, 1, 3, 4] (by kernel_rfl)
        have H14 : Hold h h5 [own cd31 a3 x4.length c3 x4, bun [own cd31 a5 x8.length c5 x8, own cd2 a4 x5.1.length c4 x5.1, own cd2 a2 x3.1.length c2 x3.1, own cd31 a1 x2.length c1 x2]] := Hold.bundle (S := [own cd31 a3 x4.length c3 x4]) (R := [own cd31 a5 x8.length c5 x8, own cd2 a4 x5.1.length c4 x5.1, own cd2 a2 x3.1.length c2 x3.1, own cd31 a1 x2.length c1 x2]) H13
        refine Run_E (by kernel_rfl) ?_
        refine E_call (f := 25) (args := #[.slice a3 x4.length c3, .int .i64 1]) (w_laws_markInt64SS h h5 _ x4 a3 c3 1 H14 _ _ hx9) (by kernel_rfl) (fun v6 h6 hp6 => ?_)
        obtain ⟨rfl, H15⟩ := hp6
        have H16 : Hold h h6 [own cd31 a3 x4.length c3 x10.2, own cd31 a5 x8.length c5 x8, own cd2 a4 x5.1.length c4 x5.1, own cd2 a2 x3.1.length c2 x3.1, own cd31 a1 x2.length c1 x2] := Hold.unbundle (S := [own cd31 a3 x4.length c3 x10.2]) (R := [own cd31 a5 x8.length c5 x8, own cd2 a4 x5.1.length c4 x5.1, own cd2 a2 x3.1.length c2 x3.1, own cd31 a1 x2.length c1 x2]) H15 (Hold.tailBase (S := [own cd31 a3 x4.length c3 x4]) (R := [own cd31 a5 x8.length c5 x8, own cd2 a4 x5.1.length c4 x5.1, own cd2 a2 x3.1.length c2 x3.1, own cd31 a1 x2.length c1 x2]) H13)
        refine Run_b [.int .i64 x10.1] 3 _ (by kernel_rfl) (fun w => by kernel_rfl) ?_
        refine Run_nil (by kernel_rfl) ?_
        refine Run_keep [0, 4, 5, 7, 8, 9] (L' := [(0, .slice aaA aA.length caA), (4, .slice a2 x3.1.length c2), (5, .int .i64 x3.2), (7, .slice a4 x5.1.length c4), (8, .int .i64 x5.2), (9, .int .i64 x10.1)]) (by kernel_rfl) ?_
        refine Run_seq ?_
        refine Run_seq ?_
        obtain ⟨x11, gx11, hF⟩ := M.bind_some hF
        refine Run_reg 13 (by kernel_rfl) (L' := [(0, .slice aaA aA.length caA), (4, .slice a2 x3.1.length c2), (5, .int .i64 x3.2), (7, .slice a4 x5.1.length c4), (61, .bool (x11 || (x5.2 != x3.2)))]) ?_ ?_
        · refine QRun_b [.int .i64 x10.1, .bool (decide (x10.1 < 0))] 0 _ (by kernel_rfl) (fun w => by kernel_rfl) ?_
          refine QRun_seq 8 [(0, .slice aaA aA.length caA), (4, .slice a2 x3.1.length c2), (5, .int .i64 x3.2), (7, .slice a4 x5.1.length c4), (8, .int .i64 x5.2), (56, .bool x11)] ?_ ?_
          · rcases Bool.eq_false_or_eq_true (decide (x10.1 < 0)) with hb5 | hb5
            · refine QRun_bool (decide (x10.1 < 0)) true (by kernel_rfl) (fun w => by kernel_rfl) hb5 ?_
              have gx11 := M.ret_some ((M.ite_some gx11).1 hb5)
              refine QRun_n (by kernel_rfl) ?_
              refine QRun_n (by kernel_rfl) ?_
              refine QRun_n (by kernel_rfl) ?_
              refine QRun_n (by kernel_rfl) ?_
              refine QRun_bool true x11 (by kernel_rfl) (fun w => by kernel_rfl) gx11 ?_
              exact QRun_done [0, 4, 5, 7, 8, 56] (by kernel_rfl) (by kernel_rfl)
            · refine QRun_bool (decide (x10.1 < 0)) false (by kernel_rfl) (fun w => by kernel_rfl) hb5 ?_
              have gx11 := (M.ite_some gx11).2 hb5
              obtain ⟨x12, hx10, gx11⟩ := M.bind_some gx11
              have gx11 := M.ret_some gx11
              refine QRun_b [.slice a4 x5.1.length c4, .slice a2 x3.1.length c2] 3 _ (by kernel_rfl) (fun w => by kernel_rfl) ?_
              refine QRun_y (.bool x12) (by kernel_rfl) (Y_callq (f := 24) (args := #[.slice a4 x5.1.length c4, .slice a2 x3.1.length c2]) (v := .bool x12) (by kernel_rfl) (w_laws_eqInt64S h6 x5.1 a4 c4 (H16.rd 2 rfl) x3.1 a2 c2 (H16.rd 3 rfl) _ _ hx10)) ?_
              refine QRun_b [.bool (!x12)] 6 _ (by kernel_rfl) (fun w => by kernel_rfl) ?_
              refine QRun_bool (!x12) x11 (by kernel_rfl) (fun w => by kernel_rfl) gx11 ?_
              exact QRun_done [0, 4, 5, 7, 8, 56] (by kernel_rfl) (by kernel_rfl)
          refine QRun_seq 13 [(0, .slice aaA aA.length caA), (4, .slice a2 x3.1.length c2), (5, .int .i64 x3.2), (7, .slice a4 x5.1.length c4), (61, .bool (x11 || (x5.2 != x3.2)))] ?_ ?_
          · rcases Bool.eq_false_or_eq_true x11 with hb6 | hb6
            · refine QRun_bool x11 true (by kernel_rfl) (fun w => by kernel_rfl) hb6 ?_
              refine QRun_n (by kernel_rfl) ?_
              refine QRun_n (by kernel_rfl) ?_
              refine QRun_n (by kernel_rfl) ?_
              refine QRun_bool true (x11 || (x5.2 != x3.2)) (by kernel_rfl) (fun w => by kernel_rfl) (by rw [hb6]; rfl) ?_
              exact QRun_done [0, 4, 5, 7, 61] (by kernel_rfl) (by kernel_rfl)
            · refine QRun_bool x11 false (by kernel_rfl) (fun w => by kernel_rfl) hb6 ?_
              refine QRun_b [.int .i64 x5.2, .int .i64 x3.2, .bool (x5.2 != x3.2)] 9 _ (by kernel_rfl) (fun w => by kernel_rfl) ?_
              refine QRun_bool (x5.2 != x3.2) (x11 || (x5.2 != x3.2)) (by kernel_rfl) (fun w => by kernel_rfl) (by rw [hb6]; rfl) ?_
              exact QRun_done [0, 4, 5, 7, 61] (by kernel_rfl) (by kernel_rfl)
          exact QRun_done [0, 4, 5, 7, 61] (by kernel_rfl) (by kernel_rfl)
        refine Run_cond (b := x11 || (x5.2 != x3.2)) (by kernel_rfl) (fun hb7 => ?_) (fun hb7 => ?_)
        · have hF := (M.ite_some hF).1 hb7
          refine Run_seq ?_
          refine Run_reg 1 (by kernel_rfl) (L' := [(2, .bool false)]) ?_ ?_
          · refine QRun_b [.bool false] 0 _ (by kernel_rfl) (fun w => by kernel_rfl) ?_
            exact QRun_done [2] (by kernel_rfl) (by kernel_rfl)
          have hF := M.ret_some hF
          subst hF
          have H17 : Hold h h6 [] := H16.pick [] (by kernel_rfl)
          exact Run_ret1 rfl (ResV_tmp (v := .bool false) (by kernel_rfl)) ⟨rfl, H17⟩
        · have hF := (M.ite_some hF).2 hb7
          refine Run_skip ?_
          refine Run_seq ?_
          refine Run_reg 1 (by kernel_rfl) (L' := [(0, .slice aaA aA.length caA), (4, .slice a2 x3.1.length c2), (5, .int .i64 x3.2), (7, .slice a4 x5.1.length c4), (10, .int .i64 1)]) ?_ ?_
          · refine QRun_b [.int .i64 1] 0 _ (by kernel_rfl) (fun w => by kernel_rfl) ?_
            exact QRun_done [0, 4, 5, 7, 10] (by kernel_rfl) (by kernel_rfl)
          refine Run_seq ?_
          refine Run_ops ?_
          refine Run_b [.slice a4 x5.1.length c4, .int .i64 1] 0 _ (by kernel_rfl) (fun w => by kernel_rfl) ?_
          obtain ⟨x14, hx11, hF⟩ := M.bind_some hF
          have H18 : Hold h h6 [own cd2 a4 x5.1.length c4 x5.1, own cd31 a3 x4.length c3 x10.2, own cd31 a5 x8.length c5 x8, own cd2 a2 x3.1.length c2 x3.1, own cd31 a1 x2.length c1 x2] := H16.pick [2, 0, 1, 3, 4] (by kernel_rfl)
          have H19 : Hold h h6 [own cd2 a4 x5.1.length c4 x5.1, bun [own cd31 a3 x4.length c3 x10.2, own cd31 a5 x8.length c5 x8, own cd2 a2 x3.1.length c2 x3.1, own cd31 a1 x2.length c1 x2]] := Hold.bundle (S := [own cd2 a4 x5.1.length c4 x5.1]) (R := [own cd31 a3 x4.length c3 x10.2, own cd31 a5 x8.length c5 x8, own cd2 a2 x3.1.length c2 x3.1, own cd31 a1 x2.length c1 x2]) H18
          refine Run_E (by kernel_rfl) ?_
          refine E_call (f := 26) (args := #[.slice a4 x5.1.length c4, .int .i64 1]) (w_laws_markInt64S h h6 _ x5.1 a4 c4 1 H19 _ _ hx11) (by kernel_rfl) (fun v7 h7 hp7 => ?_)
          obtain ⟨rfl, H20⟩ := hp7
          have H21 : Hold h h7 [own cd2 a4 x5.1.length c4 x14.2, own cd31 a3 x4.length c3 x10.2, own cd31 a5 x8.length c5 x8, own cd2 a2 x3.1.length c2 x3.1, own cd31 a1 x2.length c1 x2] := Hold.unbundle (S := [own cd2 a4 x5.1.length c4 x14.2]) (R := [own cd31 a3 x4.length c3 x10.2, own cd31 a5 x8.length c5 x8, own cd2 a2 x3.1.length c2 x3.1, own cd31 a1 x2.length c1 x2]) H20 (Hold.tailBase (S := [own cd2 a4 x5.1.length c4 x5.1]) (R := [own cd31 a3 x4.length c3 x10.2, own cd31 a5 x8.length c5 x8, own cd2 a2 x3.1.length c2 x3.1, own cd31 a1 x2.length c1 x2]) H18)
          refine Run_b [.int .i64 x14.1] 3 _ (by kernel_rfl) (fun w => by kernel_rfl) ?_
          refine Run_nil (by kernel_rfl) ?_
          refine Run_keep [0, 4, 5, 7, 10] (L' := [(0, .slice aaA aA.length caA), (4, .slice a2 x3.1.length c2), (5, .int .i64 x3.2), (7, .slice a4 x5.1.length c4), (10, .int .i64 x14.1)]) (by kernel_rfl) ?_
          refine Run_seq ?_
          refine Run_reg 1 (by kernel_rfl) (L' := [(0, .slice aaA aA.length caA), (4, .slice a2 x3.1.length c2), (5, .int .i64 x3.2), (7, .slice a4 x5.1.length c4), (10, .int .i64 x14.1), (11, .int .i64 1)]) ?_ ?_
          · refine QRun_b [.int .i64 1] 0 _ (by kernel_rfl) (fun w => by kernel_rfl) ?_
            exact QRun_done [0, 4, 5, 7, 10, 11] (by kernel_rfl) (by kernel_rfl)
          refine Run_seq ?_
          obtain ⟨x15, hx12, hF⟩ := M.bind_some hF
          refine Run_reg 4 (by kernel_rfl) (L' := [(0, .slice aaA aA.length caA), (4, .slice a2 x3.1.length c2), (5, .int .i64 x3.2), (7, .slice a4 x5.1.length c4), (10, .int .i64 x14.1), (11, .int .i64 x15)]) ?_ ?_
          · refine QRun_b [.slice a4 x5.1.length c4, .int .i64 1] 0 _ (by kernel_rfl) (fun w => by kernel_rfl) ?_
            refine QRun_y (.int .i64 x15) (by kernel_rfl) (Y_callq (f := 27) (args := #[.slice a4 x5.1.length c4, .int .i64 1]) (v := .int .i64 x15) (by kernel_rfl) (Fn.arg (w_laws_heldInt64S h7 x14.2 a4 c4 (H21.rd 0 rfl) 1 _ _ hx12) (by simp only [(H21.len 0 rfl)]))) ?_
            refine QRun_b [.int .i64 x15] 3 _ (by kernel_rfl) (fun w => by kernel_rfl) ?_
            exact QRun_done [0, 4, 5, 7, 10, 11] (by kernel_rfl) (by kernel_rfl)
          refine Run_seq ?_
          refine Run_seq ?_
          refine Run_reg 2 (by kernel_rfl) (L' := [(0, .slice aaA aA.length caA), (4, .slice a2 x3.1.length c2), (5, .int .i64 x3.2), (7, .slice a4 x5.1.length c4), (10, .int .i64 x14.1), (11, .int .i64 x15), (69, .bool (decide (x15 < 0)))]) ?_ ?_
          · refine QRun_b [.int .i64 x15, .bool (decide (x15 < 0))] 0 _ (by kernel_rfl) (fun w => by kernel_rfl) ?_
            exact QRun_done [0, 4, 5, 7, 10, 11, 69] (by kernel_rfl) (by kernel_rfl)
          refine Run_cond (b := decide (x15 < 0)) (by kernel_rfl) (fun hb8 => ?_) (fun hb8 => ?_)
          · have hF := (M.ite_some hF).1 hb8
            refine Run_seq ?_
            refine Run_reg 1 (by kernel_rfl) (L' := [(2, .bool false)]) ?_ ?_
            · refine QRun_b [.bool false] 0 _ (by kernel_rfl) (fun w => by kernel_rfl) ?_
              exact QRun_done [2] (by kernel_rfl) (by kernel_rfl)
            have hF := M.ret_some hF
            subst hF
            have H22 : Hold h h7 [] := H21.pick [] (by kernel_rfl)
            exact Run_ret1 rfl (ResV_tmp (v := .bool false) (by kernel_rfl)) ⟨rfl, H22⟩
          · have hF := (M.ite_some hF).2 hb8
            refine Run_skip ?_
            refine Run_seq ?_
            refine Run_seq ?_
            refine Run_reg 3 (by kernel_rfl) (L' := [(0, .slice aaA aA.length caA), (4, .slice a2 x3.1.length c2), (5, .int .i64 x3.2), (7, .slice a4 x5.1.length c4), (10, .int .i64 x14.1), (72, .bool (x15 != x14.1))]) ?_ ?_
            · refine QRun_b [.int .i64 x15, .int .i64 x14.1, .bool (x15 != x14.1)] 0 _ (by kernel_rfl) (fun w => by kernel_rfl) ?_
              exact QRun_done [0, 4, 5, 7, 10, 72] (by kernel_rfl) (by kernel_rfl)
            refine Run_cond (b := x15 != x14.1) (by kernel_rfl) (fun hb9 => ?_) (fun hb9 => ?_)
            · have hF := (M.ite_some hF).1 hb9
              refine Run_seq ?_
              refine Run_reg 1 (by kernel_rfl) (L' := [(2, .bool false)]) ?_ ?_
              · refine QRun_b [.bool false] 0 _ (by kernel_rfl) (fun w => by kernel_rfl) ?_
                exact QRun_done [2] (by kernel_rfl) (by kernel_rfl)
              have hF := M.ret_some hF
              subst hF
              have H23 : Hold h h7 [] := H21.pick [] (by kernel_rfl)
              exact Run_ret1 rfl (ResV_tmp (v := .bool false) (by kernel_rfl)) ⟨rfl, H23⟩
            · have hF := (M.ite_some hF).2 hb9
              refine Run_skip ?_
              refine Run_seq ?_
              refine Run_ops ?_
              refine Run_b [.slice aaA aA.length caA] 0 _ (by kernel_rfl) (fun w => by kernel_rfl) ?_
              obtain ⟨x16, hx13, hF⟩ := M.bind_some hF
              refine Run_E (by kernel_rfl) ?_
              refine E_call (f := 15) (args := #[.slice aaA aA.length caA]) (w_laws_toInt64SS h7 aA aaA caA (raA.at H21.ext) _ _ hx13) (by kernel_rfl) (fun v8 h8 hp8 => ?_)
              obtain ⟨a6, c6, rfl, H24⟩ := hp8
              have H25 : Hold h h8 [own cd31 a6 x16.length c6 x16, own cd2 a4 x5.1.length c4 x14.2, own cd31 a3 x4.length c3 x10.2, own cd31 a5 x8.length c5 x8, own cd2 a2 x3.1.length c2 x3.1, own cd31 a1 x2.length c1 x2] := H21.call H24 rfl
              obtain ⟨x17, hx14, hF⟩ := M.bind_some hF
              refine Run_E (by kernel_rfl) ?_
              refine E_call (f := 32) (args := #[.slice a6 x16.length c6]) (w_impl_CharPolynomial h8 x16 a6 c6 (H25.rd 0 rfl) _ _ hx14) (by kernel_rfl) (fun v9 h9 hp9 => ?_)
              obtain ⟨a7, c7, rfl, H26⟩ := hp9
              have H27 : Hold h h9 [own cd2 a7 x17.1.length c7 x17.1, own cd31 a6 x16.length c6 x16, own cd2 a4 x5.1.length c4 x14.2, own cd31 a3 x4.length c3 x10.2, own cd31 a5 x8.length c5 x8, own cd2 a2 x3.1.length c2 x3.1, own cd31 a1 x2.length c1 x2] := H25.call H26 rfl
              refine Run_b [.tuple #[.slice a7 x17.1.length c7, .int .i64 x17.2], .slice a7 x17.1.length c7, .int .i64 x17.2, .slice a7 x17.1.length c7, .int .i64 x17.2] 3 _ (by kernel_rfl) (fun w => by kernel_rfl) ?_
              refine Run_nil (by kernel_rfl) ?_
              refine Run_keep [4, 5, 7, 10, 12, 13] (L' := [(4, .slice a2 x3.1.length c2), (5, .int .i64 x3.2), (7, .slice a4 x5.1.length c4), (10, .int .i64 x14.1), (12, .slice a7 x17.1.length c7), (13, .int .i64 x17.2)]) (by kernel_rfl) ?_
              refine Run_seq ?_
              refine Run_seq ?_
              obtain ⟨x18, hx15, hF⟩ := M.bind_some hF
              refine Run_reg 9 (by kernel_rfl) (L' := [(7, .slice a4 x5.1.length c4), (10, .int .i64 x14.1), (87, .bool ((!x18) || (x17.2 != x3.2)))]) ?_ ?_
              · refine QRun_b [.slice a7 x17.1.length c7, .slice a2 x3.1.length c2] 0 _ (by kernel_rfl) (fun w => by kernel_rfl) ?_
                refine QRun_y (.bool x18) (by kernel_rfl) (Y_callq (f := 24) (args := #[.slice a7 x17.1.length c7, .slice a2 x3.1.length c2]) (v := .bool x18) (by kernel_rfl) (w_laws_eqInt64S h9 x17.1 a7 c7 (H27.rd 0 rfl) x3.1 a2 c2 (H27.rd 5 rfl) _ _ hx15)) ?_
                refine QRun_b [.bool (!x18)] 3 _ (by kernel_rfl) (fun w => by kernel_rfl) ?_
                refine QRun_seq 9 [(7, .slice a4 x5.1.length c4), (10, .int .i64 x14.1), (87, .bool ((!x18) || (x17.2 != x3.2)))] ?_ ?_
                · rcases Bool.eq_false_or_eq_true (!x18) with hb10 | hb10
                  · refine QRun_bool (!x18) true (by kernel_rfl) (fun w => by kernel_rfl) hb10 ?_
                    refine QRun_n (by kernel_rfl) ?_
                    refine QRun_n (by kernel_rfl) ?_
                    refine QRun_n (by kernel_rfl) ?_
                    refine QRun_bool true ((!x18) || (x17.2 != x3.2)) (by kernel_rfl) (fun w => by kernel_rfl) (by rw [hb10]; rfl) ?_
                    exact QRun_done [7, 10, 87] (by kernel_rfl) (by kernel_rfl)
                  · refine QRun_bool (!x18) false (by kernel_rfl) (fun w => by kernel_rfl) hb10 ?_
                    refine QRun_b [.int .i64 x17.2, .int .i64 x3.2, .bool (x17.2 != x3.2)] 5 _ (by kernel_rfl) (fun w => by kernel_rfl) ?_
                    refine QRun_bool (x17.2 != x3.2) ((!x18) || (x17.2 != x3.2)) (by kernel_rfl) (fun w => by kernel_rfl) (by rw [hb10]; rfl) ?_
                    exact QRun_done [7, 10, 87] (by kernel_rfl) (by kernel_rfl)
                exact QRun_done [7, 10, 87] (by kernel_rfl) (by kernel_rfl)
              refine Run_cond (b := (!x18) || (x17.2 != x3.2)) (by kernel_rfl) (fun hb11 => ?_) (fun hb11 => ?_)
              · have hF := (M.ite_some hF).1 hb11
                refine Run_seq ?_
                refine Run_reg 1 (by kernel_rfl) (L' := [(2, .bool false)]) ?_ ?_
                · refine QRun_b [.bool false] 0 _ (by kernel_rfl) (fun w => by kernel_rfl) ?_
                  exact QRun_done [2] (by kernel_rfl) (by kernel_rfl)
                have hF := M.ret_some hF
                subst hF
                have H28 : Hold h h9 [] := H27.pick [] (by kernel_rfl)
                exact Run_ret1 rfl (ResV_tmp (v := .bool false) (by kernel_rfl)) ⟨rfl, H28⟩
              · have hF := (M.ite_some hF).2 hb11
                refine Run_skip ?_
                refine Run_seq ?_
                refine Run_reg 1 (by kernel_rfl) (L' := [(7, .slice a4 x5.1.length c4), (10, .int .i64 x14.1), (11, .int .i64 1)]) ?_ ?_
                · refine QRun_b [.int .i64 1] 0 _ (by kernel_rfl) (fun w => by kernel_rfl) ?_
                  exact QRun_done [7, 10, 11] (by kernel_rfl) (by kernel_rfl)
                refine Run_seq ?_
                obtain ⟨x20, hx16, hF⟩ := M.bind_some hF
                refine Run_reg 4 (by kernel_rfl) (L' := [(10, .int .i64 x14.1), (11, .int .i64 x20)]) ?_ ?_
                · refine QRun_b [.slice a4 x5.1.length c4, .int .i64 1] 0 _ (by kernel_rfl) (fun w => by kernel_rfl) ?_
                  refine QRun_y (.int .i64 x20) (by kernel_rfl) (Y_callq (f := 27) (args := #[.slice a4 x5.1.length c4, .int .i64 1]) (v := .int .i64 x20) (by kernel_rfl) (Fn.arg (w_laws_heldInt64S h9 x14.2 a4 c4 (H27.rd 2 rfl) 1 _ _ hx16) (by simp only [(H27.len 2 rfl)]))) ?_
                  refine QRun_b [.int .i64 x20] 3 _ (by kernel_rfl) (fun w => by kernel_rfl) ?_
                  exact QRun_done [10, 11] (by kernel_rfl) (by kernel_rfl)
                refine Run_seq ?_
                refine Run_seq ?_
                refine Run_reg 2 (by kernel_rfl) (L' := [(10, .int .i64 x14.1), (11, .int .i64 x20), (92, .bool (decide (x20 < 0)))]) ?_ ?_
                · refine QRun_b [.int .i64 x20, .bool (decide (x20 < 0))] 0 _ (by kernel_rfl) (fun w => by kernel_rfl) ?_
                  exact QRun_done [10, 11, 92] (by kernel_rfl) (by kernel_rfl)
                refine Run_cond (b := decide (x20 < 0)) (by kernel_rfl) (fun hb12 => ?_) (fun hb12 => ?_)
                · have hF := (M.ite_some hF).1 hb12
                  refine Run_seq ?_
                  refine Run_reg 1 (by kernel_rfl) (L' := [(2, .bool false)]) ?_ ?_
                  · refine QRun_b [.bool false] 0 _ (by kernel_rfl) (fun w => by kernel_rfl) ?_
                    exact QRun_done [2] (by kernel_rfl) (by kernel_rfl)
                  have hF := M.ret_some hF
                  subst hF
                  have H29 : Hold h h9 [] := H27.pick [] (by kernel_rfl)
                  exact Run_ret1 rfl (ResV_tmp (v := .bool false) (by kernel_rfl)) ⟨rfl, H29⟩
                · have hF := (M.ite_some hF).2 hb12
                  refine Run_skip ?_
                  refine Run_seq ?_
                  refine Run_seq ?_
                  refine Run_reg 3 (by kernel_rfl) (L' := [(95, .bool (x20 != x14.1))]) ?_ ?_
                  · refine QRun_b [.int .i64 x20, .int .i64 x14.1, .bool (x20 != x14.1)] 0 _ (by kernel_rfl) (fun w => by kernel_rfl) ?_
                    exact QRun_done [95] (by kernel_rfl) (by kernel_rfl)
                  refine Run_cond (b := x20 != x14.1) (by kernel_rfl) (fun hb13 => ?_) (fun hb13 => ?_)
                  · have hF := (M.ite_some hF).1 hb13
                    refine Run_seq ?_
                    refine Run_reg 1 (by kernel_rfl) (L' := [(2, .bool false)]) ?_ ?_
                    · refine QRun_b [.bool false] 0 _ (by kernel_rfl) (fun w => by kernel_rfl) ?_
                      exact QRun_done [2] (by kernel_rfl) (by kernel_rfl)
                    have hF := M.ret_some hF
                    subst hF
                    have H30 : Hold h h9 [] := H27.pick [] (by kernel_rfl)
                    exact Run_ret1 rfl (ResV_tmp (v := .bool false) (by kernel_rfl)) ⟨rfl, H30⟩
                  · have hF := (M.ite_some hF).2 hb13
                    refine Run_skip ?_
                    refine Run_seq ?_
                    refine Run_reg 1 (by kernel_rfl) (L' := [(2, .bool true)]) ?_ ?_
                    · refine QRun_b [.bool true] 0 _ (by kernel_rfl) (fun w => by kernel_rfl) ?_
                      exact QRun_done [2] (by kernel_rfl) (by kernel_rfl)
                    have hF := M.ret_some hF
                    subst hF
                    have H31 : Hold h h9 [] := H27.pick [] (by kernel_rfl)
                    exact Run_ret1 rfl (ResV_tmp (v := .bool true) (by kernel_rfl)) ⟨rfl, H31⟩

end Go.Proofs.Ytfhndofgglohoaa
