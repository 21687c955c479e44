/-
  Walks: each Go function, called with what reads as plain data, returns what its plain program computes.
  Conditions: None beyond the given statement.
-/
import Derived.Test.YtdgehhbgjmgjjaaRows
import Derived.Test.YtdgehhbgjmgjjaaP
import Derived.Test.YtdgehhbgjmgjjaaMut
namespace Go.Proofs.Ytdgehhbgjmgjjaa
open Go
attribute [local irreducible] setL setB opA fineI idleI fineB evB okB markB markBs readyB readyBs chainB lk rho pickL dropSlot tailOK
theorem mixed : Try.prog.follows .mixedOrders = true := by kernel_rfl
def cd2 : Cd (Int) := flatCd 2 1 (by decide) (fun x => [.int .i64 x]) (fun _ => rfl) (fun _ => rfl)
theorem cd2_own (x : Int) : ∀ h, cd2.own h x [.int .i64 x] [] := fun _ => ⟨rfl, rfl⟩
theorem cd2_flat : Flat cd2 := fun _ _ _ _ o => o.2
theorem cd2_copies : Copies cd2 := fun _ _ _ _ o => ⟨o, rfl⟩
theorem cd2_zero : ∀ h, cd2.own h 0 [.int .i64 0] [] := fun _ => ⟨rfl, rfl⟩
theorem cd2_ti : TI Try.prog 2 (.int .i64 0) 1 8 := by unfold TI; kernel_rfl
theorem cd2_cell {h : Heap} {B : Bs} {a : Option Addr} {c : Nat} {l : List (Int)} {j : Nat} {x : Int} (r : Rd cd2 h B a c l) (hx : l[j]? = some x) : cellH h (adr a (j * 1)) = some (.int .i64 x) := r.cell1 hx (fun vs o => by rw [show vs = _ from o]; rfl)
abbrev cd22 : Cd (List Int) := rowCd cd2 22
theorem cd22_zero : ∀ h, cd22.own h [] [.slice none 0 0] [] := fun h => ⟨none, 0, rfl, Own.nil _ h⟩
theorem cd22_ti : TI Try.prog 22 (.slice none 0 0) 1 24 := by unfold TI; kernel_rfl
set_option maxRecDepth 100000 in
set_option maxHeartbeats 4000000 in
theorem w_laws_toInt64S (h : Heap) (a_ : List Int) (aa_ : Option Addr) (ca_ : Nat) (ra_ : Rd cd2 h (Lt h) aa_ ca_ a_) (n : Nat) (r : (List Int)) (hF : laws_toInt64S a_ n = some r) :
    Fn Try.prog 15 #[.slice aa_ a_.length ca_] h fun v h' => ∃ (a0 : Option Addr) (c0 : Nat), v = .slice a0 r.length c0 ∧ Hold h h' [own cd2 a0 r.length c0 r] := by
  unfold laws_toInt64S at hF
  refine Fn_enter (args := [.slice aa_ a_.length ca_]) Try.func15 rfl (by kernel_rfl) (by kernel_rfl) (fun w0 _ => ?_)
  have H0 := Hold.init h
  refine Run_seq ?_
  refine Run_reg 1 (by kernel_rfl) (L' := [(0, .slice aa_ a_.length ca_)]) ?_ ?_
  · refine QRun_b [.slice none 0 0] 0 _ (by kernel_rfl) (fun w => by kernel_rfl) ?_
    exact QRun_done [0] (by kernel_rfl) (by kernel_rfl)
  refine Run_seq ?_
  refine Run_ops ?_
  refine Run_b [.slice aa_ a_.length ca_, .int .i64 (a_.length : Int)] 0 _ (by kernel_rfl) (fun w => by kernel_rfl) ?_
  obtain ⟨l1, hl1, hF⟩ := M.bind_some hF
  have hl1 := M.make_some hl1
  refine Run_E (by kernel_rfl) ?_
  refine E_make cd2 0 (kl := .i64) (kc := .i64) H0 cd2_ti Try.underlying22 (by decide) cd2_zero (by kernel_rfl) hl1 (fun a1 h1 H1 => ?_)
  refine Run_b [.slice a1 l1.length l1.length] 3 _ (by kernel_rfl) (fun w => by kernel_rfl) ?_
  refine Run_nil (by kernel_rfl) ?_
  refine Run_keep [0, 3] (L' := [(0, .slice aa_ a_.length ca_), (3, .slice a1 l1.length l1.length)]) (by kernel_rfl) ?_
  refine Run_seq ?_
  refine Run_seq ?_
  refine Run_reg 1 (by kernel_rfl) (L' := [(0, .slice aa_ a_.length ca_), (3, .slice a1 l1.length l1.length), (4, .int .i64 0)]) ?_ ?_
  · refine QRun_b [.int .i64 0] 0 _ (by kernel_rfl) (fun w => by kernel_rfl) ?_
    exact QRun_done [0, 3, 4] (by kernel_rfl) (by kernel_rfl)
  obtain ⟨x1, gx1, hF⟩ := M.bind_some hF
  obtain ⟨hloy1, hhiy1, gx1⟩ := M.for_start gx1
  refine Run_join (fun L' h' => L' = [(3, .slice a1 l1.length l1.length)] ∧ Hold h h' [own cd2 a1 l1.length l1.length x1]) ?_ ?_
  · rintro _ h3 ⟨rfl, H3⟩
    refine Run_seq ?_
    refine Run_reg 2 (by kernel_rfl) (L' := [(2, .slice a1 l1.length l1.length)]) ?_ ?_
    · refine QRun_b [.slice a1 l1.length l1.length, .slice a1 l1.length l1.length] 0 _ (by kernel_rfl) (fun w => by kernel_rfl) ?_
      exact QRun_done [2] (by kernel_rfl) (by kernel_rfl)
    have hF := M.ret_some hF
    subst hF
    have H5 := H3.norm
    exact Run_ret1 rfl (ResV_tmp (v := .slice a1 l1.length l1.length) (by kernel_rfl)) ⟨a1, l1.length, (by simp only [(H3.len 0 rfl)]), H5⟩
  · refine Run_block ?_
    refine Run_keep [0, 3, 4] (L' := [(0, .slice aa_ a_.length ca_), (3, .slice a1 l1.length l1.length), (4, .int .i64 0)]) (by kernel_rfl) ?_
    refine Run_loop (fun m L' h' => ∃ (i1 : Int) (s1 : (List Int)), 0 ≤ i1 ∧ M.forN (a_.length : Int) _ _ n m i1 s1 = some x1 ∧ L' = [(0, .slice aa_ a_.length ca_), (3, .slice a1 l1.length l1.length), (4, .int .i64 i1)] ∧ Hold h h' [own cd2 a1 l1.length l1.length s1]) ((a_.length : Int) - 0).toNat ⟨0, l1, Int.le_refl _, gx1, rfl, H1⟩ ?_
    rintro my1 _ h2 ⟨i1, s1, hloy1', gx1, rfl, H2⟩
    refine Run_seq ?_
    refine Run_seq ?_
    refine Run_reg 4 (by kernel_rfl) (L' := [(0, .slice aa_ a_.length ca_), (3, .slice a1 l1.length l1.length), (4, .int .i64 i1), (11, .bool (decide (i1 < (a_.length : Int))))]) ?_ ?_
    · refine QRun_b [.int .i64 i1, .slice aa_ a_.length ca_, .int .i64 (a_.length : Int), .bool (decide (i1 < (a_.length : Int)))] 0 _ (by kernel_rfl) (fun w => by kernel_rfl) ?_
      exact QRun_done [0, 3, 4, 11] (by kernel_rfl) (by kernel_rfl)
    refine Run_cond (b := decide (i1 < (a_.length : Int))) (by kernel_rfl) (fun hb1 => ?_) (fun hb1 => ?_)
    · obtain ⟨my1, y1, rfl, hB1, hgoy1, houty1⟩ := M.for_go gx1 hb1
      have hlty1 := of_decide_eq_true hb1
      refine Run_skip ?_
      refine Run_seq ?_
      refine Run_block ?_
      refine Run_ops ?_
      obtain ⟨x2, hx1, hB1⟩ := M.bind_some hB1
      obtain ⟨hx1l, hx1u, hx1⟩ := M.idx_some hx1
      obtain ⟨x3, hx2, hB1⟩ := M.bind_some hB1
      obtain ⟨hx2l, hx2u, hx2⟩ := M.idx_some hx2
      refine Run_b [.slice a1 l1.length l1.length, .int .i64 i1, .slice aa_ a_.length ca_, .int .i64 i1] 0 _ (by kernel_rfl) (fun w => by kernel_rfl) ?_
      refine Run_y (.pointer (some (adr aa_ (i1.toNat * 1)))) (by kernel_rfl) (Y_idx (t := 22) (e := 2) (sz := 1) (a := aa_) (n := a_.length) (cap := ca_) (kk := .i64) (i := i1) (by kernel_rfl) Try.underlying22 (by kernel_rfl) ((ra_.at H2.ext).cell hx1).1 hx1l hx1u) ?_
      refine Run_y (.int .i64 x2) (by kernel_rfl) (Y_load1 (t := 2) (p := adr aa_ (i1.toNat * 1)) (v := .int .i64 x2) (by kernel_rfl) (fun w => by kernel_rfl) (cd2_cell (ra_.at H2.ext) hx1)) ?_
      refine Run_y (.pointer (some (adr a1 (i1.toNat * 1)))) (by kernel_rfl) (Y_idx (t := 22) (e := 2) (sz := 1) (a := a1) (n := l1.length) (cap := l1.length) (kk := .i64) (i := i1) (by kernel_rfl) Try.underlying22 (by kernel_rfl) ((H2.rd 0 rfl).cell hx2).1 hx2l (by rw [← (H2.len 0 rfl)]; exact hx2u)) ?_
      obtain ⟨l2, hu1, hB1⟩ := M.bind_some hB1
      have hu1 := M.upd_some hu1
      refine Run_E (by kernel_rfl) ?_
      refine E_put (C := cd2) (t := 2) (sz := 1) (j := i1) (x := x2) (v := .int .i64 x2) H2 cd2_flat (by kernel_rfl) rfl (cd2_own _) (by kernel_rfl) hu1 (fun h4 H4 => ?_)
      refine Run_nil (by kernel_rfl) ?_
      refine Run_keep [0, 3, 4] (L' := [(0, .slice aa_ a_.length ca_), (3, .slice a1 l1.length l1.length), (4, .int .i64 i1)]) (by kernel_rfl) ?_
      refine Run_blk ?_
      refine Run_reg 3 (by kernel_rfl) (L' := [(0, .slice aa_ a_.length ca_), (3, .slice a1 l1.length l1.length), (4, .int .i64 (i1 + 1))]) ?_ ?_
      · refine QRun_b [.int .i64 i1] 0 _ (by kernel_rfl) (fun w => by kernel_rfl) ?_
        refine QRun_y (.int .i64 (i1 + 1)) (by kernel_rfl) (Y_eq (v := .int .i64 (w64 (i1 + 1))) (Y_pure (fun w => by kernel_rfl)) (by rw [w64_eq _ (by omega)])) ?_
        refine QRun_b [.int .i64 (i1 + 1)] 2 _ (by kernel_rfl) (fun w => by kernel_rfl) ?_
        exact QRun_done [0, 3, 4] (by kernel_rfl) (by kernel_rfl)
      have hB1 := M.ret_some hB1
      have gx1 := hgoy1 _ hB1.symm
      exact Run_again [0, 3, 4] (by kernel_rfl) my1 (Nat.lt_succ_self _) ⟨i1 + 1, l2, by omega, gx1, rfl, H4⟩
    · have gx1 := M.for_end gx1 hb1
      subst gx1
      refine Run_exit (k' := _) rfl ?_
      exact Run_fall [3] (by kernel_rfl) ⟨rfl, H2⟩

set_option maxRecDepth 100000 in
set_option maxHeartbeats 4000000 in
theorem w_spec_l01In (h : Heap) (n_ : Int) (low : Int) (high : Int) (n : Nat) (r : Bool) (hF : spec_l01In n_ low high n = some r) :
    Fn Try.prog 53 #[.int .i64 n_, .int .i64 low, .int .i64 high] h fun v h' => v = .bool r ∧ h' = h := by
  unfold spec_l01In at hF
  refine Fn_enter (args := [.int .i64 n_, .int .i64 low, .int .i64 high]) Try.func53 rfl (by kernel_rfl) (by kernel_rfl) (fun w0 _ => ?_)
  refine Run_seq ?_
  refine Run_reg 1 (by kernel_rfl) (L' := [(0, .int .i64 n_), (1, .int .i64 low), (2, .int .i64 high)]) ?_ ?_
  · refine QRun_b [.bool false] 0 _ (by kernel_rfl) (fun w => by kernel_rfl) ?_
    exact QRun_done [0, 1, 2] (by kernel_rfl) (by kernel_rfl)
  refine Run_seq ?_
  refine Run_reg 9 (by kernel_rfl) (L' := [(6, .bool ((decide (low ≤ n_)) && (decide (n_ ≤ high))))]) ?_ ?_
  · refine QRun_b [.int .i64 n_, .int .i64 low, .bool (decide (low ≤ n_))] 0 _ (by kernel_rfl) (fun w => by kernel_rfl) ?_
    refine QRun_seq 8 [(14, .bool ((decide (low ≤ n_)) && (decide (n_ ≤ high))))] ?_ ?_
    · rcases Bool.eq_false_or_eq_true (decide (low ≤ n_)) with hb1 | hb1
      · refine QRun_bool (decide (low ≤ n_)) true (by kernel_rfl) (fun w => by kernel_rfl) hb1 ?_
        refine QRun_b [.int .i64 n_, .int .i64 high, .bool (decide (n_ ≤ high))] 4 _ (by kernel_rfl) (fun w => by kernel_rfl) ?_
        refine QRun_bool (decide (n_ ≤ high)) ((decide (low ≤ n_)) && (decide (n_ ≤ high))) (by kernel_rfl) (fun w => by kernel_rfl) (by rw [hb1]; rfl) ?_
        exact QRun_done [14] (by kernel_rfl) (by kernel_rfl)
      · refine QRun_bool (decide (low ≤ n_)) false (by kernel_rfl) (fun w => by kernel_rfl) hb1 ?_
        refine QRun_n (by kernel_rfl) ?_
        refine QRun_n (by kernel_rfl) ?_
        refine QRun_n (by kernel_rfl) ?_
        refine QRun_bool false ((decide (low ≤ n_)) && (decide (n_ ≤ high))) (by kernel_rfl) (fun w => by kernel_rfl) (by rw [hb1]; rfl) ?_
        exact QRun_done [14] (by kernel_rfl) (by kernel_rfl)
    refine QRun_b [.bool ((decide (low ≤ n_)) && (decide (n_ ≤ high)))] 8 _ (by kernel_rfl) (fun w => by kernel_rfl) ?_
    exact QRun_done [6] (by kernel_rfl) (by kernel_rfl)
  have hF := M.ret_some hF
  subst hF
  exact Run_ret1 rfl (ResV_tmp (v := .bool ((decide (low ≤ n_)) && (decide (n_ ≤ high)))) (by kernel_rfl)) ⟨rfl, rfl⟩

set_option maxRecDepth 100000 in
set_option maxHeartbeats 4000000 in
theorem w_spec_l01Finite (h : Heap) (a_ : Int) (n : Nat) (r : Bool) (hF : spec_l01Finite a_ n = some r) :
    Fn Try.prog 61 #[.int .i64 a_] h fun v h' => v = .bool r ∧ h' = h := by
  unfold spec_l01Finite at hF
  refine Fn_enter (args := [.int .i64 a_]) Try.func61 rfl (by kernel_rfl) (by kernel_rfl) (fun w0 _ => ?_)
  refine Run_seq ?_
  refine Run_reg 1 (by kernel_rfl) (L' := [(0, .int .i64 a_)]) ?_ ?_
  · refine QRun_b [.bool false] 0 _ (by kernel_rfl) (fun w => by kernel_rfl) ?_
    exact QRun_done [0] (by kernel_rfl) (by kernel_rfl)
  refine Run_seq ?_
  obtain ⟨x1, hx1, hF⟩ := M.bind_some hF
  refine Run_reg 3 (by kernel_rfl) (L' := [(2, .bool x1)]) ?_ ?_
  · refine QRun_b [.int .i64 a_] 0 _ (by kernel_rfl) (fun w => by kernel_rfl) ?_
    refine QRun_y (.bool x1) (by kernel_rfl) (Y_callq (f := 53) (args := #[.int .i64 a_, .int .i64 (-1000000), .int .i64 1000000]) (v := .bool x1) (by kernel_rfl) (w_spec_l01In h a_ (-1000000) 1000000 _ _ hx1)) ?_
    refine QRun_b [.bool x1] 2 _ (by kernel_rfl) (fun w => by kernel_rfl) ?_
    exact QRun_done [2] (by kernel_rfl) (by kernel_rfl)
  have hF := M.ret_some hF
  subst hF
  exact Run_ret1 rfl (ResV_tmp (v := .bool x1) (by kernel_rfl)) ⟨rfl, rfl⟩

set_option maxRecDepth 100000 in
set_option maxHeartbeats 4000000 in
theorem w_spec_IsValue (h : Heap) (a_ : Int) (n : Nat) (r : Bool) (hF : spec_IsValue a_ n = some r) :
    Fn Try.prog 67 #[.int .i64 a_] h fun v h' => v = .bool r ∧ h' = h := by
  unfold spec_IsValue at hF
  refine Fn_enter (args := [.int .i64 a_]) Try.func67 rfl (by kernel_rfl) (by kernel_rfl) (fun w0 _ => ?_)
  refine Run_seq ?_
  refine Run_reg 1 (by kernel_rfl) (L' := [(0, .int .i64 a_)]) ?_ ?_
  · refine QRun_b [.bool false] 0 _ (by kernel_rfl) (fun w => by kernel_rfl) ?_
    exact QRun_done [0] (by kernel_rfl) (by kernel_rfl)
  refine Run_seq ?_
  obtain ⟨x1, gx1, hF⟩ := M.bind_some hF
  refine Run_reg 7 (by kernel_rfl) (L' := [(2, .bool x1)]) ?_ ?_
  · refine QRun_b [.int .i64 a_, .bool (a_ == (-1000000000000000))] 0 _ (by kernel_rfl) (fun w => by kernel_rfl) ?_
    refine QRun_seq 6 [(8, .bool x1)] ?_ ?_
    · rcases Bool.eq_false_or_eq_true (a_ == (-1000000000000000)) with hb1 | hb1
      · refine QRun_bool (a_ == (-1000000000000000)) true (by kernel_rfl) (fun w => by kernel_rfl) hb1 ?_
        have gx1 := M.ret_some ((M.ite_some gx1).1 hb1)
        refine QRun_n (by kernel_rfl) ?_
        refine QRun_n (by kernel_rfl) ?_
        refine QRun_bool true x1 (by kernel_rfl) (fun w => by kernel_rfl) gx1 ?_
        exact QRun_done [8] (by kernel_rfl) (by kernel_rfl)
      · refine QRun_bool (a_ == (-1000000000000000)) false (by kernel_rfl) (fun w => by kernel_rfl) hb1 ?_
        have gx1 := (M.ite_some gx1).2 hb1
        obtain ⟨x2, hx1, gx1⟩ := M.bind_some gx1
        have gx1 := M.ret_some gx1
        refine QRun_b [.int .i64 a_] 3 _ (by kernel_rfl) (fun w => by kernel_rfl) ?_
        refine QRun_y (.bool x2) (by kernel_rfl) (Y_callq (f := 61) (args := #[.int .i64 a_]) (v := .bool x2) (by kernel_rfl) (w_spec_l01Finite h a_ _ _ hx1)) ?_
        refine QRun_bool x2 x1 (by kernel_rfl) (fun w => by kernel_rfl) gx1 ?_
        exact QRun_done [8] (by kernel_rfl) (by kernel_rfl)
    refine QRun_b [.bool x1] 6 _ (by kernel_rfl) (fun w => by kernel_rfl) ?_
    exact QRun_done [2] (by kernel_rfl) (by kernel_rfl)
  have hF := M.ret_some hF
  subst hF
  exact Run_ret1 rfl (ResV_tmp (v := .bool x1) (by kernel_rfl)) ⟨rfl, rfl⟩

set_option maxRecDepth 100000 in
set_option maxHeartbeats 4000000 in
theorem w_spec_l01All (h : Heap) (list : List Int) {Slist : Bs} (alist : Option Addr) (clist : Nat) (rlist : Rd cd2 h Slist alist clist list) (finite : Bool) (n : Nat) (r : Bool) (hF : spec_l01All list finite n = some r) :
    Fn Try.prog 47 #[.slice alist list.length clist, .bool finite] h fun v h' => v = .bool r ∧ h' = h := by
  unfold spec_l01All at hF
  refine Fn_enter (args := [.slice alist list.length clist, .bool finite]) Try.func47 rfl (by kernel_rfl) (by kernel_rfl) (fun w0 _ => ?_)
  refine Run_seq ?_
  refine Run_reg 1 (by kernel_rfl) (L' := [(0, .slice alist list.length clist), (1, .bool finite)]) ?_ ?_
  · refine QRun_b [.bool false] 0 _ (by kernel_rfl) (fun w => by kernel_rfl) ?_
    exact QRun_done [0, 1] (by kernel_rfl) (by kernel_rfl)
  refine Run_seq ?_
  refine Run_seq ?_
  refine Run_reg 1 (by kernel_rfl) (L' := [(0, .slice alist list.length clist), (1, .bool finite), (5, .int .i64 0)]) ?_ ?_
  · refine QRun_b [.int .i64 0] 0 _ (by kernel_rfl) (fun w => by kernel_rfl) ?_
    exact QRun_done [0, 1, 5] (by kernel_rfl) (by kernel_rfl)
  obtain ⟨x1, gx1, hF⟩ := M.bind_some hF
  obtain ⟨hloy1, hhiy1, gx1⟩ := M.for_start gx1
  refine Run_join (fun L' h' => ∃ (s2 : Unit), x1 = .inl s2 ∧ L' = [] ∧ h = h') ?_ ?_
  · rintro _ _ ⟨s2, es2, rfl, rfl⟩
    have hF := M.cont_inl' hF es2
    refine Run_seq ?_
    refine Run_reg 1 (by kernel_rfl) (L' := [(4, .bool true)]) ?_ ?_
    · refine QRun_b [.bool true] 0 _ (by kernel_rfl) (fun w => by kernel_rfl) ?_
      exact QRun_done [4] (by kernel_rfl) (by kernel_rfl)
    have hF := M.ret_some hF
    subst hF
    exact Run_ret1 rfl (ResV_tmp (v := .bool true) (by kernel_rfl)) ⟨rfl, rfl⟩
  · refine Run_block ?_
    refine Run_keep [0, 1, 5] (L' := [(0, .slice alist list.length clist), (1, .bool finite), (5, .int .i64 0)]) (by kernel_rfl) ?_
    refine Run_loop (fun m L' h' => ∃ (i1 : Int) (s1 : Unit), 0 ≤ i1 ∧ M.forN (list.length : Int) _ _ n m i1 s1 = some x1 ∧ L' = [(0, .slice alist list.length clist), (1, .bool finite), (5, .int .i64 i1)] ∧ h = h') ((list.length : Int) - 0).toNat ⟨0, (), Int.le_refl _, gx1, rfl, rfl⟩ ?_
    rintro my1 _ _ ⟨i1, s1, hloy1', gx1, rfl, rfl⟩
    refine Run_seq ?_
    refine Run_seq ?_
    refine Run_reg 4 (by kernel_rfl) (L' := [(0, .slice alist list.length clist), (1, .bool finite), (5, .int .i64 i1), (9, .bool (decide (i1 < (list.length : Int))))]) ?_ ?_
    · refine QRun_b [.int .i64 i1, .slice alist list.length clist, .int .i64 (list.length : Int), .bool (decide (i1 < (list.length : Int)))] 0 _ (by kernel_rfl) (fun w => by kernel_rfl) ?_
      exact QRun_done [0, 1, 5, 9] (by kernel_rfl) (by kernel_rfl)
    refine Run_cond (b := decide (i1 < (list.length : Int))) (by kernel_rfl) (fun hb1 => ?_) (fun hb1 => ?_)
    · obtain ⟨my1, y1, rfl, hB1, hgoy1, houty1⟩ := M.for_go gx1 hb1
      have hlty1 := of_decide_eq_true hb1
      refine Run_skip ?_
      refine Run_seq ?_
      refine Run_block ?_
      refine Run_seq ?_
      obtain ⟨x2, hx1, hB1⟩ := M.bind_some hB1
      obtain ⟨hx1l, hx1u, hx1⟩ := M.idx_some hx1
      obtain ⟨x3, hx2, hB1⟩ := M.bind_some hB1
      obtain ⟨x4, gx4, hB1⟩ := M.bind_some hB1
      refine Run_reg 16 (by kernel_rfl) (L' := [(0, .slice alist list.length clist), (1, .bool finite), (5, .int .i64 i1), (27, .bool x4)]) ?_ ?_
      · refine QRun_b [.slice alist list.length clist, .int .i64 i1] 0 _ (by kernel_rfl) (fun w => by kernel_rfl) ?_
        refine QRun_y (.pointer (some (adr alist (i1.toNat * 1)))) (by kernel_rfl) (Y_idx (t := 22) (e := 2) (sz := 1) (a := alist) (n := list.length) (cap := clist) (kk := .i64) (i := i1) (by kernel_rfl) Try.underlying22 (by kernel_rfl) (rlist.cell hx1).1 hx1l hx1u) ?_
        refine QRun_y (.int .i64 x2) (by kernel_rfl) (Y_load1 (t := 2) (p := adr alist (i1.toNat * 1)) (v := .int .i64 x2) (by kernel_rfl) (fun w => by kernel_rfl) (cd2_cell rlist hx1)) ?_
        refine QRun_y (.bool x3) (by kernel_rfl) (Y_callq (f := 67) (args := #[.int .i64 x2]) (v := .bool x3) (by kernel_rfl) (w_spec_IsValue h x2 _ _ hx2)) ?_
        refine QRun_b [.bool (!x3)] 5 _ (by kernel_rfl) (fun w => by kernel_rfl) ?_
        refine QRun_seq 16 [(0, .slice alist list.length clist), (1, .bool finite), (5, .int .i64 i1), (27, .bool x4)] ?_ ?_
        · rcases Bool.eq_false_or_eq_true (!x3) with hb2 | hb2
          · refine QRun_bool (!x3) true (by kernel_rfl) (fun w => by kernel_rfl) hb2 ?_
            have gx4 := M.ret_some ((M.ite_some gx4).1 hb2)
            refine QRun_n (by kernel_rfl) ?_
            refine QRun_n (by kernel_rfl) ?_
            refine QRun_n (by kernel_rfl) ?_
            refine QRun_n (by kernel_rfl) ?_
            refine QRun_n (by kernel_rfl) ?_
            refine QRun_n (by kernel_rfl) ?_
            refine QRun_n (by kernel_rfl) ?_
            refine QRun_n (by kernel_rfl) ?_
            refine QRun_bool true x4 (by kernel_rfl) (fun w => by kernel_rfl) gx4 ?_
            exact QRun_done [0, 1, 5, 27] (by kernel_rfl) (by kernel_rfl)
          · refine QRun_bool (!x3) false (by kernel_rfl) (fun w => by kernel_rfl) hb2 ?_
            have gx4 := (M.ite_some gx4).2 hb2
            obtain ⟨x5, gx5, gx4⟩ := M.bind_some gx4
            have gx4 := M.ret_some gx4
            refine QRun_b [.bool finite] 7 _ (by kernel_rfl) (fun w => by kernel_rfl) ?_
            refine QRun_seq 15 [(0, .slice alist list.length clist), (1, .bool finite), (5, .int .i64 i1), (18, .bool false), (26, .bool x5)] ?_ ?_
            · rcases Bool.eq_false_or_eq_true finite with hb3 | hb3
              · refine QRun_bool finite true (by kernel_rfl) (fun w => by kernel_rfl) hb3 ?_
                have gx5 := (M.ite_some gx5).1 hb3
                obtain ⟨x6, hx3, gx5⟩ := M.bind_some gx5
                obtain ⟨hx3l, hx3u, hx3⟩ := M.idx_some hx3
                have gx5 := M.ret_some gx5
                refine QRun_b [.slice alist list.length clist, .int .i64 i1] 9 _ (by kernel_rfl) (fun w => by kernel_rfl) ?_
                refine QRun_y (.pointer (some (adr alist (i1.toNat * 1)))) (by kernel_rfl) (Y_idx (t := 22) (e := 2) (sz := 1) (a := alist) (n := list.length) (cap := clist) (kk := .i64) (i := i1) (by kernel_rfl) Try.underlying22 (by kernel_rfl) (rlist.cell hx3).1 hx3l hx3u) ?_
                refine QRun_y (.int .i64 x6) (by kernel_rfl) (Y_load1 (t := 2) (p := adr alist (i1.toNat * 1)) (v := .int .i64 x6) (by kernel_rfl) (fun w => by kernel_rfl) (cd2_cell rlist hx3)) ?_
                refine QRun_b [.bool (x6 == (-1000000000000000))] 13 _ (by kernel_rfl) (fun w => by kernel_rfl) ?_
                refine QRun_bool (x6 == (-1000000000000000)) x5 (by kernel_rfl) (fun w => by kernel_rfl) gx5 ?_
                exact QRun_done [0, 1, 5, 18, 26] (by kernel_rfl) (by kernel_rfl)
              · refine QRun_bool finite false (by kernel_rfl) (fun w => by kernel_rfl) hb3 ?_
                have gx5 := M.ret_some ((M.ite_some gx5).2 hb3)
                refine QRun_n (by kernel_rfl) ?_
                refine QRun_n (by kernel_rfl) ?_
                refine QRun_n (by kernel_rfl) ?_
                refine QRun_n (by kernel_rfl) ?_
                refine QRun_n (by kernel_rfl) ?_
                refine QRun_bool false x5 (by kernel_rfl) (fun w => by kernel_rfl) gx5 ?_
                exact QRun_done [0, 1, 5, 18, 26] (by kernel_rfl) (by kernel_rfl)
            refine QRun_bool x5 x4 (by kernel_rfl) (fun w => by kernel_rfl) gx4 ?_
            exact QRun_done [0, 1, 5, 27] (by kernel_rfl) (by kernel_rfl)
        exact QRun_done [0, 1, 5, 27] (by kernel_rfl) (by kernel_rfl)
      refine Run_cond (b := x4) (by kernel_rfl) (fun hb4 => ?_) (fun hb4 => ?_)
      · have hB1 := (M.ite_some hB1).1 hb4
        refine Run_seq ?_
        refine Run_reg 1 (by kernel_rfl) (L' := [(4, .bool false)]) ?_ ?_
        · refine QRun_b [.bool false] 0 _ (by kernel_rfl) (fun w => by kernel_rfl) ?_
          exact QRun_done [4] (by kernel_rfl) (by kernel_rfl)
        have hB1 := M.ret_some hB1
        have gx1 := houty1 _ hB1.symm
        have hF := M.cont_inr' hF gx1
        have hF := M.ret_some hF
        subst hF
        exact Run_ret1 rfl (ResV_tmp (v := .bool false) (by kernel_rfl)) ⟨rfl, rfl⟩
      · have hB1 := (M.ite_some hB1).2 hb4
        refine Run_skip ?_
        refine Run_blk ?_
        refine Run_reg 3 (by kernel_rfl) (L' := [(0, .slice alist list.length clist), (1, .bool finite), (5, .int .i64 (i1 + 1))]) ?_ ?_
        · refine QRun_b [.int .i64 i1] 0 _ (by kernel_rfl) (fun w => by kernel_rfl) ?_
          refine QRun_y (.int .i64 (i1 + 1)) (by kernel_rfl) (Y_eq (v := .int .i64 (w64 (i1 + 1))) (Y_pure (fun w => by kernel_rfl)) (by rw [w64_eq _ (by omega)])) ?_
          refine QRun_b [.int .i64 (i1 + 1)] 2 _ (by kernel_rfl) (fun w => by kernel_rfl) ?_
          exact QRun_done [0, 1, 5] (by kernel_rfl) (by kernel_rfl)
        have hB1 := M.ret_some hB1
        have gx1 := hgoy1 _ hB1.symm
        exact Run_again [0, 1, 5] (by kernel_rfl) my1 (Nat.lt_succ_self _) ⟨i1 + 1, (), by omega, gx1, rfl, rfl⟩
    · have gx1 := M.for_end gx1 hb1
      subst gx1
      refine Run_exit (k' := _) rfl ?_
      exact Run_fall [] (by kernel_rfl) ⟨(), rfl, rfl, rfl⟩

set_option maxRecDepth 100000 in
set_option maxHeartbeats 4000000 in
theorem w_spec_IsPolynomial (h : Heap) (c_ : List Int) {Sc_ : Bs} (ac_ : Option Addr) (cc_ : Nat) (rc_ : Rd cd2 h Sc_ ac_ cc_ c_) (n : Nat) (r : Bool) (hF : spec_IsPolynomial c_ n = some r) :
    Fn Try.prog 14 #[.slice ac_ c_.length cc_] h fun v h' => v = .bool r ∧ h' = h := by
  unfold spec_IsPolynomial at hF
  refine Fn_enter (args := [.slice ac_ c_.length cc_]) Try.func14 rfl (by kernel_rfl) (by kernel_rfl) (fun w0 _ => ?_)
  refine Run_seq ?_
  refine Run_reg 1 (by kernel_rfl) (L' := [(0, .slice ac_ c_.length cc_)]) ?_ ?_
  · refine QRun_b [.bool false] 0 _ (by kernel_rfl) (fun w => by kernel_rfl) ?_
    exact QRun_done [0] (by kernel_rfl) (by kernel_rfl)
  refine Run_seq ?_
  refine Run_seq ?_
  obtain ⟨x1, gx1, hF⟩ := M.bind_some hF
  refine Run_reg 8 (by kernel_rfl) (L' := [(0, .slice ac_ c_.length cc_), (11, .bool x1)]) ?_ ?_
  · refine QRun_b [.slice ac_ c_.length cc_, .int .i64 (c_.length : Int), .bool (decide (12 < (c_.length : Int)))] 0 _ (by kernel_rfl) (fun w => by kernel_rfl) ?_
    refine QRun_seq 8 [(0, .slice ac_ c_.length cc_), (11, .bool x1)] ?_ ?_
    · rcases Bool.eq_false_or_eq_true (decide (12 < (c_.length : Int))) with hb1 | hb1
      · refine QRun_bool (decide (12 < (c_.length : Int))) true (by kernel_rfl) (fun w => by kernel_rfl) hb1 ?_
        have gx1 := M.ret_some ((M.ite_some gx1).1 hb1)
        refine QRun_n (by kernel_rfl) ?_
        refine QRun_n (by kernel_rfl) ?_
        refine QRun_n (by kernel_rfl) ?_
        refine QRun_bool true x1 (by kernel_rfl) (fun w => by kernel_rfl) gx1 ?_
        exact QRun_done [0, 11] (by kernel_rfl) (by kernel_rfl)
      · refine QRun_bool (decide (12 < (c_.length : Int))) false (by kernel_rfl) (fun w => by kernel_rfl) hb1 ?_
        have gx1 := (M.ite_some gx1).2 hb1
        obtain ⟨x2, hx1, gx1⟩ := M.bind_some gx1
        have gx1 := M.ret_some gx1
        refine QRun_b [.slice ac_ c_.length cc_] 4 _ (by kernel_rfl) (fun w => by kernel_rfl) ?_
        refine QRun_y (.bool x2) (by kernel_rfl) (Y_callq (f := 47) (args := #[.slice ac_ c_.length cc_, .bool false]) (v := .bool x2) (by kernel_rfl) (w_spec_l01All h c_ ac_ cc_ rc_ false _ _ hx1)) ?_
        refine QRun_b [.bool (!x2)] 6 _ (by kernel_rfl) (fun w => by kernel_rfl) ?_
        refine QRun_bool (!x2) x1 (by kernel_rfl) (fun w => by kernel_rfl) gx1 ?_
        exact QRun_done [0, 11] (by kernel_rfl) (by kernel_rfl)
    exact QRun_done [0, 11] (by kernel_rfl) (by kernel_rfl)
  refine Run_cond (b := x1) (by kernel_rfl) (fun hb2 => ?_) (fun hb2 => ?_)
  · have hF := (M.ite_some hF).1 hb2
    refine Run_seq ?_
    refine Run_reg 1 (by kernel_rfl) (L' := [(2, .bool false)]) ?_ ?_
    · refine QRun_b [.bool false] 0 _ (by kernel_rfl) (fun w => by kernel_rfl) ?_
      exact QRun_done [2] (by kernel_rfl) (by kernel_rfl)
    have hF := M.ret_some hF
    subst hF
    exact Run_ret1 rfl (ResV_tmp (v := .bool false) (by kernel_rfl)) ⟨rfl, rfl⟩
  · have hF := (M.ite_some hF).2 hb2
    refine Run_skip ?_
    refine Run_seq ?_
    refine Run_seq ?_
    refine Run_reg 1 (by kernel_rfl) (L' := [(0, .slice ac_ c_.length cc_), (3, .int .i64 0)]) ?_ ?_
    · refine QRun_b [.int .i64 0] 0 _ (by kernel_rfl) (fun w => by kernel_rfl) ?_
      exact QRun_done [0, 3] (by kernel_rfl) (by kernel_rfl)
    obtain ⟨x3, gx3, hF⟩ := M.bind_some hF
    obtain ⟨hloy1, hhiy1, gx3⟩ := M.for_start gx3
    refine Run_join (fun L' h' => ∃ (s2 : Unit), x3 = .inl s2 ∧ L' = [] ∧ h = h') ?_ ?_
    · rintro _ _ ⟨s2, es2, rfl, rfl⟩
      have hF := M.cont_inl' hF es2
      refine Run_seq ?_
      refine Run_reg 1 (by kernel_rfl) (L' := [(2, .bool false)]) ?_ ?_
      · refine QRun_b [.bool false] 0 _ (by kernel_rfl) (fun w => by kernel_rfl) ?_
        exact QRun_done [2] (by kernel_rfl) (by kernel_rfl)
      have hF := M.ret_some hF
      subst hF
      exact Run_ret1 rfl (ResV_tmp (v := .bool false) (by kernel_rfl)) ⟨rfl, rfl⟩
    · refine Run_block ?_
      refine Run_keep [0, 3] (L' := [(0, .slice ac_ c_.length cc_), (3, .int .i64 0)]) (by kernel_rfl) ?_
      refine Run_loop (fun m L' h' => ∃ (i1 : Int) (s1 : Unit), 0 ≤ i1 ∧ M.forN (c_.length : Int) _ _ n m i1 s1 = some x3 ∧ L' = [(0, .slice ac_ c_.length cc_), (3, .int .i64 i1)] ∧ h = h') ((c_.length : Int) - 0).toNat ⟨0, (), Int.le_refl _, gx3, rfl, rfl⟩ ?_
      rintro my1 _ _ ⟨i1, s1, hloy1', gx3, rfl, rfl⟩
      refine Run_seq ?_
      refine Run_seq ?_
      refine Run_reg 4 (by kernel_rfl) (L' := [(0, .slice ac_ c_.length cc_), (3, .int .i64 i1), (15, .bool (decide (i1 < (c_.length : Int))))]) ?_ ?_
      · refine QRun_b [.int .i64 i1, .slice ac_ c_.length cc_, .int .i64 (c_.length : Int), .bool (decide (i1 < (c_.length : Int)))] 0 _ (by kernel_rfl) (fun w => by kernel_rfl) ?_
        exact QRun_done [0, 3, 15] (by kernel_rfl) (by kernel_rfl)
      refine Run_cond (b := decide (i1 < (c_.length : Int))) (by kernel_rfl) (fun hb3 => ?_) (fun hb3 => ?_)
      · obtain ⟨my1, y1, rfl, hB1, hgoy1, houty1⟩ := M.for_go gx3 hb3
        have hlty1 := of_decide_eq_true hb3
        refine Run_skip ?_
        refine Run_seq ?_
        refine Run_block ?_
        refine Run_seq ?_
        obtain ⟨x4, hx2, hB1⟩ := M.bind_some hB1
        obtain ⟨hx2l, hx2u, hx2⟩ := M.idx_some hx2
        refine Run_reg 5 (by kernel_rfl) (L' := [(0, .slice ac_ c_.length cc_), (3, .int .i64 i1), (22, .bool (x4 != (-1000000000000000)))]) ?_ ?_
        · refine QRun_b [.slice ac_ c_.length cc_, .int .i64 i1] 0 _ (by kernel_rfl) (fun w => by kernel_rfl) ?_
          refine QRun_y (.pointer (some (adr ac_ (i1.toNat * 1)))) (by kernel_rfl) (Y_idx (t := 22) (e := 2) (sz := 1) (a := ac_) (n := c_.length) (cap := cc_) (kk := .i64) (i := i1) (by kernel_rfl) Try.underlying22 (by kernel_rfl) (rc_.cell hx2).1 hx2l hx2u) ?_
          refine QRun_y (.int .i64 x4) (by kernel_rfl) (Y_load1 (t := 2) (p := adr ac_ (i1.toNat * 1)) (v := .int .i64 x4) (by kernel_rfl) (fun w => by kernel_rfl) (cd2_cell rc_ hx2)) ?_
          refine QRun_b [.bool (x4 != (-1000000000000000))] 4 _ (by kernel_rfl) (fun w => by kernel_rfl) ?_
          exact QRun_done [0, 3, 22] (by kernel_rfl) (by kernel_rfl)
        refine Run_cond (b := x4 != (-1000000000000000)) (by kernel_rfl) (fun hb4 => ?_) (fun hb4 => ?_)
        · have hB1 := (M.ite_some hB1).1 hb4
          refine Run_seq ?_
          refine Run_reg 1 (by kernel_rfl) (L' := [(2, .bool true)]) ?_ ?_
          · refine QRun_b [.bool true] 0 _ (by kernel_rfl) (fun w => by kernel_rfl) ?_
            exact QRun_done [2] (by kernel_rfl) (by kernel_rfl)
          have hB1 := M.ret_some hB1
          have gx3 := houty1 _ hB1.symm
          have hF := M.cont_inr' hF gx3
          have hF := M.ret_some hF
          subst hF
          exact Run_ret1 rfl (ResV_tmp (v := .bool true) (by kernel_rfl)) ⟨rfl, rfl⟩
        · have hB1 := (M.ite_some hB1).2 hb4
          refine Run_skip ?_
          refine Run_blk ?_
          refine Run_reg 3 (by kernel_rfl) (L' := [(0, .slice ac_ c_.length cc_), (3, .int .i64 (i1 + 1))]) ?_ ?_
          · refine QRun_b [.int .i64 i1] 0 _ (by kernel_rfl) (fun w => by kernel_rfl) ?_
            refine QRun_y (.int .i64 (i1 + 1)) (by kernel_rfl) (Y_eq (v := .int .i64 (w64 (i1 + 1))) (Y_pure (fun w => by kernel_rfl)) (by rw [w64_eq _ (by omega)])) ?_
            refine QRun_b [.int .i64 (i1 + 1)] 2 _ (by kernel_rfl) (fun w => by kernel_rfl) ?_
            exact QRun_done [0, 3] (by kernel_rfl) (by kernel_rfl)
          have hB1 := M.ret_some hB1
          have gx3 := hgoy1 _ hB1.symm
          exact Run_again [0, 3] (by kernel_rfl) my1 (Nat.lt_succ_self _) ⟨i1 + 1, (), by omega, gx3, rfl, rfl⟩
      · have gx3 := M.for_end gx3 hb3
        subst gx3
        refine Run_exit (k' := _) rfl ?_
        exact Run_fall [] (by kernel_rfl) ⟨(), rfl, rfl, rfl⟩

set_option maxRecDepth 100000 in
set_option maxHeartbeats 4000000 in
theorem w_spec_l09Terms (h : Heap) (c_ : List Int) (ac_ : Option Addr) (cc_ : Nat) (rc_ : Rd cd2 h (Lt h) ac_ cc_ c_) (n : Nat) (r : (List Int)) (hF : spec_l09Terms c_ n = some r) :
    Fn Try.prog 73 #[.slice ac_ c_.length cc_] h fun v h' => ∃ (a0 : Option Addr) (c0 : Nat), v = .slice a0 r.length c0 ∧ Hold h h' [own cd2 a0 r.length c0 r] := by
  unfold spec_l09Terms at hF
  refine Fn_enter (args := [.slice ac_ c_.length cc_]) Try.func73 rfl (by kernel_rfl) (by kernel_rfl) (fun w0 _ => ?_)
  have H0 := Hold.init h
  refine Run_seq ?_
  refine Run_reg 1 (by kernel_rfl) (L' := [(0, .slice ac_ c_.length cc_)]) ?_ ?_
  · refine QRun_b [.slice none 0 0] 0 _ (by kernel_rfl) (fun w => by kernel_rfl) ?_
    exact QRun_done [0] (by kernel_rfl) (by kernel_rfl)
  refine Run_seq ?_
  refine Run_ops ?_
  refine Run_E (by kernel_rfl) ?_
  refine E_lit (C := cd2) (n := 0) (l := ([] : List Int)) (cs := []) H0 (fun w => by kernel_rfl) (Enc.nil _ _) rfl (by decide) (fun a1 h1 H1 => ?_)
  refine Run_b [.slice a1 0 0] 1 _ (by kernel_rfl) (fun w => by kernel_rfl) ?_
  refine Run_nil (by kernel_rfl) ?_
  refine Run_keep [0, 3] (L' := [(0, .slice ac_ c_.length cc_), (3, .slice a1 0 0)]) (by kernel_rfl) ?_
  refine Run_seq ?_
  refine Run_seq ?_
  refine Run_reg 1 (by kernel_rfl) (L' := [(0, .slice ac_ c_.length cc_), (3, .slice a1 0 0), (4, .int .i64 0)]) ?_ ?_
  · refine QRun_b [.int .i64 0] 0 _ (by kernel_rfl) (fun w => by kernel_rfl) ?_
    exact QRun_done [0, 3, 4] (by kernel_rfl) (by kernel_rfl)
  obtain ⟨x1, gx1, hF⟩ := M.bind_some hF
  obtain ⟨hloy1, hhiy1, gx1⟩ := M.for_start gx1
  refine Run_join (fun L' h' => ∃ (a3 : Option Addr) (c2 : Nat), L' = [(3, .slice a3 x1.length c2)] ∧ Hold h h' [own cd2 a3 x1.length c2 x1]) ?_ ?_
  · rintro _ h3 ⟨a3, c2, rfl, H3⟩
    refine Run_seq ?_
    refine Run_reg 2 (by kernel_rfl) (L' := [(2, .slice a3 x1.length c2)]) ?_ ?_
    · refine QRun_b [.slice a3 x1.length c2, .slice a3 x1.length c2] 0 _ (by kernel_rfl) (fun w => by kernel_rfl) ?_
      exact QRun_done [2] (by kernel_rfl) (by kernel_rfl)
    have hF := M.ret_some hF
    subst hF
    exact Run_ret1 rfl (ResV_tmp (v := .slice a3 x1.length c2) (by kernel_rfl)) ⟨a3, c2, rfl, H3⟩
  · refine Run_block ?_
    have hn1 := (H1.len 0 rfl)
    have H14 : Hold h h1 [own cd2 a1 (([] : List Int).length) 0 ([] : List Int)] := by rw [hn1]; exact H1
    refine Run_keep [0, 3, 4] (L' := [(0, .slice ac_ c_.length cc_), (3, .slice a1 (([] : List Int).length) 0), (4, .int .i64 0)]) (by rw [hn1]; kernel_rfl) ?_
    refine Run_loop (fun m L' h' => ∃ (i1 : Int) (s1 : (List Int)) (a2 : Option Addr) (c1 : Nat), 0 ≤ i1 ∧ M.forN (c_.length : Int) _ _ n m i1 s1 = some x1 ∧ L' = [(0, .slice ac_ c_.length cc_), (3, .slice a2 s1.length c1), (4, .int .i64 i1)] ∧ Hold h h' [own cd2 a2 s1.length c1 s1]) ((c_.length : Int) - 0).toNat ⟨0, ([] : List Int), a1, 0, Int.le_refl _, gx1, rfl, H14⟩ ?_
    rintro my1 _ h2 ⟨i1, s1, a2, c1, hloy1', gx1, rfl, H2⟩
    refine Run_seq ?_
    refine Run_seq ?_
    refine Run_reg 4 (by kernel_rfl) (L' := [(0, .slice ac_ c_.length cc_), (3, .slice a2 s1.length c1), (4, .int .i64 i1), (11, .bool (decide (i1 < (c_.length : Int))))]) ?_ ?_
    · refine QRun_b [.int .i64 i1, .slice ac_ c_.length cc_, .int .i64 (c_.length : Int), .bool (decide (i1 < (c_.length : Int)))] 0 _ (by kernel_rfl) (fun w => by kernel_rfl) ?_
      exact QRun_done [0, 3, 4, 11] (by kernel_rfl) (by kernel_rfl)
    refine Run_cond (b := decide (i1 < (c_.length : Int))) (by kernel_rfl) (fun hb1 => ?_) (fun hb1 => ?_)
    · obtain ⟨my1, y1, rfl, hB1, hgoy1, houty1⟩ := M.for_go gx1 hb1
      have hlty1 := of_decide_eq_true hb1
      refine Run_skip ?_
      refine Run_seq ?_
      obtain ⟨s2, gs2, hB1⟩ := M.bind_some hB1
      refine Run_join (fun L' h' => ∃ (a8 : Option Addr), ∃ (c6 : Nat), L' = [(0, .slice ac_ c_.length cc_), (3, .slice a8 s2.length c6), (4, .int .i64 i1)] ∧ Hold h h' [own cd2 a8 s2.length c6 s2]) ?_ ?_
      · rintro _ h8 ⟨a8, c6, rfl, H13⟩
        refine Run_reg 3 (by kernel_rfl) (L' := [(0, .slice ac_ c_.length cc_), (3, .slice a8 s2.length c6), (4, .int .i64 (i1 + 1))]) ?_ ?_
        · refine QRun_b [.int .i64 i1] 0 _ (by kernel_rfl) (fun w => by kernel_rfl) ?_
          refine QRun_y (.int .i64 (i1 + 1)) (by kernel_rfl) (Y_eq (v := .int .i64 (w64 (i1 + 1))) (Y_pure (fun w => by kernel_rfl)) (by rw [w64_eq _ (by omega)])) ?_
          refine QRun_b [.int .i64 (i1 + 1)] 2 _ (by kernel_rfl) (fun w => by kernel_rfl) ?_
          exact QRun_done [0, 3, 4] (by kernel_rfl) (by kernel_rfl)
        have hB1 := M.ret_some hB1
        have gx1 := hgoy1 _ hB1.symm
        exact Run_again [0, 3, 4] (by kernel_rfl) my1 (Nat.lt_succ_self _) ⟨i1 + 1, s2, a8, c6, by omega, gx1, rfl, H13⟩
      · refine Run_block ?_
        refine Run_seq ?_
        refine Run_seq ?_
        obtain ⟨x2, hx1, gs2⟩ := M.bind_some gs2
        obtain ⟨hx1l, hx1u, hx1⟩ := M.idx_some hx1
        refine Run_reg 5 (by kernel_rfl) (L' := [(0, .slice ac_ c_.length cc_), (3, .slice a2 s1.length c1), (4, .int .i64 i1), (18, .bool (x2 == (-1000000000000000)))]) ?_ ?_
        · refine QRun_b [.slice ac_ c_.length cc_, .int .i64 i1] 0 _ (by kernel_rfl) (fun w => by kernel_rfl) ?_
          refine QRun_y (.pointer (some (adr ac_ (i1.toNat * 1)))) (by kernel_rfl) (Y_idx (t := 22) (e := 2) (sz := 1) (a := ac_) (n := c_.length) (cap := cc_) (kk := .i64) (i := i1) (by kernel_rfl) Try.underlying22 (by kernel_rfl) ((rc_.at H2.ext).cell hx1).1 hx1l hx1u) ?_
          refine QRun_y (.int .i64 x2) (by kernel_rfl) (Y_load1 (t := 2) (p := adr ac_ (i1.toNat * 1)) (v := .int .i64 x2) (by kernel_rfl) (fun w => by kernel_rfl) (cd2_cell (rc_.at H2.ext) hx1)) ?_
          refine QRun_b [.bool (x2 == (-1000000000000000))] 4 _ (by kernel_rfl) (fun w => by kernel_rfl) ?_
          exact QRun_done [0, 3, 4, 18] (by kernel_rfl) (by kernel_rfl)
        refine Run_cond (b := x2 == (-1000000000000000)) (by kernel_rfl) (fun hb2 => ?_) (fun hb2 => ?_)
        · have gs2 := (M.ite_some gs2).1 hb2
          refine Run_exit (k' := _) rfl ?_
          have gs2 := M.ret_some gs2
          subst gs2
          exact Run_fall [0, 3, 4] (by kernel_rfl) ⟨a2, c1, rfl, H2⟩
        · have gs2 := (M.ite_some gs2).2 hb2
          refine Run_skip ?_
          refine Run_seq ?_
          obtain ⟨x3, gx3, gs2⟩ := M.bind_some gs2
          refine Run_join (fun L' h' => ∃ (a5 : Option Addr) (c4 : Nat), L' = [(0, .slice ac_ c_.length cc_), (3, .slice a5 x3.length c4), (4, .int .i64 i1)] ∧ Hold h h' [own cd2 a5 x3.length c4 x3]) ?_ ?_
          · rintro _ h5 ⟨a5, c4, rfl, H5⟩
            refine Run_ops ?_
            refine Run_b [.slice a5 x3.length c4, .int .i64 i1] 0 _ (by kernel_rfl) (fun w => by kernel_rfl) ?_
            refine Run_E (by kernel_rfl) ?_
            refine E_lit (C := cd2) (n := 1) (l := ([i1] : List Int)) (cs := [.int .i64 i1]) H5 (fun w => by kernel_rfl) (Enc.consE (cd2_own i1 _) (Enc.nil _ _) rfl) rfl (by decide) (fun a6 h6 H8 => ?_)
            obtain ⟨l1, hl1, gs2⟩ := M.bind_some gs2
            have hl1 := M.app_some hl1
            have H9 : Hold h h6 [own cd2 a5 x3.length c4 x3, own cd2 a6 1 1 ([i1] : List Int)] := H8.pick [1, 0] (by kernel_rfl)
            have H10 : Hold h h6 [own cd2 a6 1 1 ([i1] : List Int), own cd2 a5 x3.length c4 x3] := H9.pick [1, 0] (by kernel_rfl)
            have H11 : Hold h h6 [own cd2 a5 x3.length c4 x3, own cd2 a6 1 1 ([i1] : List Int)] := H10.pick [1, 0] (by kernel_rfl)
            refine Run_E (by kernel_rfl) ?_
            refine E_app (C := cd2) (t := 22) (ty := 22) (n := x3.length) (m := 1) H11 cd2_ti rfl Try.underlying22 (by decide) (by kernel_rfl) hl1 (fun a7 c5 h7 H12 => ?_)
            refine Run_b [.slice a7 l1.length c5] 4 _ (by kernel_rfl) (fun w => by kernel_rfl) ?_
            refine Run_nil (by kernel_rfl) ?_
            refine Run_keep [0, 3, 4] (L' := [(0, .slice ac_ c_.length cc_), (3, .slice a7 l1.length c5), (4, .int .i64 i1)]) (by kernel_rfl) ?_
            refine Run_blk ?_
            have gs2 := M.ret_some gs2
            subst gs2
            exact Run_fall [0, 3, 4] (by kernel_rfl) ⟨a7, c5, rfl, H12⟩
          · refine Run_block ?_
            refine Run_keep [0, 3, 4] (L' := [(0, .slice ac_ c_.length cc_), (3, .slice a2 s1.length c1), (4, .int .i64 i1)]) (by kernel_rfl) ?_
            refine Run_loop (fun m L' h' => ∃ (s3 : (List Int)) (a4 : Option Addr) (c3 : Nat), M.loopN _ n m s3 = some x3 ∧ L' = [(0, .slice ac_ c_.length cc_), (3, .slice a4 s3.length c3), (4, .int .i64 i1)] ∧ Hold h h' [own cd2 a4 s3.length c3 s3]) n ⟨s1, a2, c1, gx3, rfl, H2⟩ ?_
            rintro my2 _ h4 ⟨s3, a4, c3, gx3, rfl, H4⟩
            obtain ⟨my2, y2, rfl, hB2, hgoy2, houty2⟩ := M.loop_some gx3
            refine Run_seq ?_
            refine Run_seq ?_
            refine Run_reg 3 (by kernel_rfl) (L' := [(0, .slice ac_ c_.length cc_), (3, .slice a4 s3.length c3), (4, .int .i64 i1), (21, .bool (decide (1 < (s3.length : Int))))]) ?_ ?_
            · refine QRun_b [.slice a4 s3.length c3, .int .i64 (s3.length : Int), .bool (decide (1 < (s3.length : Int)))] 0 _ (by kernel_rfl) (fun w => by kernel_rfl) ?_
              exact QRun_done [0, 3, 4, 21] (by kernel_rfl) (by kernel_rfl)
            refine Run_cond (b := decide (1 < (s3.length : Int))) (by kernel_rfl) (fun hb3 => ?_) (fun hb3 => ?_)
            · have hB2 := (M.ite_some hB2).1 hb3
              refine Run_skip ?_
              refine Run_block ?_
              refine Run_seq ?_
              obtain ⟨x4, hx2, hB2⟩ := M.bind_some hB2
              obtain ⟨hx2l, hx2u, hx2⟩ := M.idx_some hx2
              obtain ⟨x5, hx3, hB2⟩ := M.bind_some hB2
              obtain ⟨hx3l, hx3u, hx3⟩ := M.idx_some hx3
              refine Run_draw 14 mixed (by kernel_rfl) (by kernel_rfl) (L' := [(0, .slice ac_ c_.length cc_), (3, .slice a4 s3.length c3), (4, .int .i64 i1), (5, .int .i64 x4), (6, .int .i64 x5)]) ?_ ?_
              · refine QRun_b [.slice a4 s3.length c3, .slice a4 s3.length c3, .int .i64 (s3.length : Int), .int .i64 (w64 ((s3.length : Int) - 2))] 0 _ (by kernel_rfl) (fun w => by kernel_rfl) ?_
                refine QRun_y (.pointer (some (adr a4 ((w64 ((s3.length : Int) - 2)).toNat * 1)))) (by kernel_rfl) (Y_idx (t := 22) (e := 2) (sz := 1) (a := a4) (n := s3.length) (cap := c3) (kk := .i64) (i := w64 ((s3.length : Int) - 2)) (by kernel_rfl) Try.underlying22 (by kernel_rfl) ((H4.rd 0 rfl).cell hx2).1 hx2l hx2u) ?_
                refine QRun_y (.int .i64 x4) (by kernel_rfl) (Y_load1 (t := 2) (p := adr a4 ((w64 ((s3.length : Int) - 2)).toNat * 1)) (v := .int .i64 x4) (by kernel_rfl) (fun w => by kernel_rfl) (cd2_cell (H4.rd 0 rfl) hx2)) ?_
                refine QRun_b [.slice a4 s3.length c3, .slice a4 s3.length c3, .int .i64 (s3.length : Int), .int .i64 (w64 ((s3.length : Int) - 1))] 6 _ (by kernel_rfl) (fun w => by kernel_rfl) ?_
                refine QRun_y (.pointer (some (adr a4 ((w64 ((s3.length : Int) - 1)).toNat * 1)))) (by kernel_rfl) (Y_idx (t := 22) (e := 2) (sz := 1) (a := a4) (n := s3.length) (cap := c3) (kk := .i64) (i := w64 ((s3.length : Int) - 1)) (by kernel_rfl) Try.underlying22 (by kernel_rfl) ((H4.rd 0 rfl).cell hx3).1 hx3l hx3u) ?_
                refine QRun_y (.int .i64 x5) (by kernel_rfl) (Y_load1 (t := 2) (p := adr a4 ((w64 ((s3.length : Int) - 1)).toNat * 1)) (v := .int .i64 x5) (by kernel_rfl) (fun w => by kernel_rfl) (cd2_cell (H4.rd 0 rfl) hx3)) ?_
                refine QRun_b [.int .i64 x4, .int .i64 x5] 12 _ (by kernel_rfl) (fun w => by kernel_rfl) ?_
                exact QRun_done [0, 3, 4, 5, 6] (by kernel_rfl) (by kernel_rfl)
              refine Run_seq ?_
              refine Run_seq ?_
              obtain ⟨x6, hx4, hB2⟩ := M.bind_some hB2
              obtain ⟨hx4l, hx4u, hx4⟩ := M.idx_some hx4
              obtain ⟨x7, hx5, hB2⟩ := M.bind_some hB2
              obtain ⟨hx5l, hx5u, hx5⟩ := M.idx_some hx5
              obtain ⟨x8, hx6, hB2⟩ := M.bind_some hB2
              obtain ⟨hx6l, hx6u, hx6⟩ := M.idx_some hx6
              obtain ⟨x9, hx7, hB2⟩ := M.bind_some hB2
              obtain ⟨hx7l, hx7u, hx7⟩ := M.idx_some hx7
              refine Run_draw 27 mixed (by kernel_rfl) (by kernel_rfl) (L' := [(0, .slice ac_ c_.length cc_), (3, .slice a4 s3.length c3), (4, .int .i64 i1), (60, .bool (decide ((w64 ((w64 (x8 - x9)) * (w64 (x5 - x4)))) < (w64 ((w64 (x6 - x7)) * (w64 (i1 - x5)))))))]) ?_ ?_
              · refine QRun_b [.slice ac_ c_.length cc_, .int .i64 x5] 0 _ (by kernel_rfl) (fun w => by kernel_rfl) ?_
                refine QRun_y (.pointer (some (adr ac_ (x5.toNat * 1)))) (by kernel_rfl) (Y_idx (t := 22) (e := 2) (sz := 1) (a := ac_) (n := c_.length) (cap := cc_) (kk := .i64) (i := x5) (by kernel_rfl) Try.underlying22 (by kernel_rfl) ((rc_.at H4.ext).cell hx4).1 hx4l hx4u) ?_
                refine QRun_y (.int .i64 x6) (by kernel_rfl) (Y_load1 (t := 2) (p := adr ac_ (x5.toNat * 1)) (v := .int .i64 x6) (by kernel_rfl) (fun w => by kernel_rfl) (cd2_cell (rc_.at H4.ext) hx4)) ?_
                refine QRun_b [.slice ac_ c_.length cc_, .int .i64 x4] 4 _ (by kernel_rfl) (fun w => by kernel_rfl) ?_
                refine QRun_y (.pointer (some (adr ac_ (x4.toNat * 1)))) (by kernel_rfl) (Y_idx (t := 22) (e := 2) (sz := 1) (a := ac_) (n := c_.length) (cap := cc_) (kk := .i64) (i := x4) (by kernel_rfl) Try.underlying22 (by kernel_rfl) ((rc_.at H4.ext).cell hx5).1 hx5l hx5u) ?_
                refine QRun_y (.int .i64 x7) (by kernel_rfl) (Y_load1 (t := 2) (p := adr ac_ (x4.toNat * 1)) (v := .int .i64 x7) (by kernel_rfl) (fun w => by kernel_rfl) (cd2_cell (rc_.at H4.ext) hx5)) ?_
                refine QRun_b [.int .i64 (w64 (x6 - x7)), .int .i64 i1, .int .i64 x5, .int .i64 (w64 (i1 - x5)), .int .i64 (w64 ((w64 (x6 - x7)) * (w64 (i1 - x5)))), .slice ac_ c_.length cc_, .int .i64 i1] 8 _ (by kernel_rfl) (fun w => by kernel_rfl) ?_
                refine QRun_y (.pointer (some (adr ac_ (i1.toNat * 1)))) (by kernel_rfl) (Y_idx (t := 22) (e := 2) (sz := 1) (a := ac_) (n := c_.length) (cap := cc_) (kk := .i64) (i := i1) (by kernel_rfl) Try.underlying22 (by kernel_rfl) ((rc_.at H4.ext).cell hx6).1 hx6l hx6u) ?_
                refine QRun_y (.int .i64 x8) (by kernel_rfl) (Y_load1 (t := 2) (p := adr ac_ (i1.toNat * 1)) (v := .int .i64 x8) (by kernel_rfl) (fun w => by kernel_rfl) (cd2_cell (rc_.at H4.ext) hx6)) ?_
                refine QRun_b [.slice ac_ c_.length cc_, .int .i64 x5] 17 _ (by kernel_rfl) (fun w => by kernel_rfl) ?_
                refine QRun_y (.pointer (some (adr ac_ (x5.toNat * 1)))) (by kernel_rfl) (Y_idx (t := 22) (e := 2) (sz := 1) (a := ac_) (n := c_.length) (cap := cc_) (kk := .i64) (i := x5) (by kernel_rfl) Try.underlying22 (by kernel_rfl) ((rc_.at H4.ext).cell hx7).1 hx7l hx7u) ?_
                refine QRun_y (.int .i64 x9) (by kernel_rfl) (Y_load1 (t := 2) (p := adr ac_ (x5.toNat * 1)) (v := .int .i64 x9) (by kernel_rfl) (fun w => by kernel_rfl) (cd2_cell (rc_.at H4.ext) hx7)) ?_
                refine QRun_b [.int .i64 (w64 (x8 - x9)), .int .i64 x5, .int .i64 x4, .int .i64 (w64 (x5 - x4)), .int .i64 (w64 ((w64 (x8 - x9)) * (w64 (x5 - x4)))), .bool (decide ((w64 ((w64 (x8 - x9)) * (w64 (x5 - x4)))) < (w64 ((w64 (x6 - x7)) * (w64 (i1 - x5))))))] 21 _ (by kernel_rfl) (fun w => by kernel_rfl) ?_
                exact QRun_done [0, 3, 4, 60] (by kernel_rfl) (by kernel_rfl)
              refine Run_cond (b := decide ((w64 ((w64 (x8 - x9)) * (w64 (x5 - x4)))) < (w64 ((w64 (x6 - x7)) * (w64 (i1 - x5)))))) (by kernel_rfl) (fun hb4 => ?_) (fun hb4 => ?_)
              · have hB2 := (M.ite_some hB2).1 hb4
                refine Run_exit (k' := _) rfl ?_
                have hB2 := M.ret_some hB2
                have gx3 := houty2 _ hB2.symm
                subst gx3
                exact Run_fall [0, 3, 4] (by kernel_rfl) ⟨a4, c3, rfl, H4⟩
              · have hB2 := (M.ite_some hB2).2 hb4
                refine Run_skip ?_
                obtain ⟨x10, hx8, hB2⟩ := M.bind_some hB2
                obtain ⟨hx8a, hx8b, hx8c, hx8d⟩ := M.sub_some hx8
                obtain ⟨H6, e1⟩ := H4.cut (w64 ((s3.length : Int) - 1)).toNat
                have hx8q : x10 = s3.take (w64 ((s3.length : Int) - 1)).toNat := by rw [hx8d]; rfl
                have H7 : Hold h h4 [own cd2 a4 x10.length c3 x10] := by rw [hx8q]; exact H6
                refine Run_reg 6 (by kernel_rfl) (L' := [(0, .slice ac_ c_.length cc_), (3, .slice a4 x10.length c3), (4, .int .i64 i1)]) ?_ ?_
                · refine QRun_b [.slice a4 s3.length c3, .slice a4 s3.length c3, .int .i64 (s3.length : Int), .int .i64 (w64 ((s3.length : Int) - 1))] 0 _ (by kernel_rfl) (fun w => by kernel_rfl) ?_
                  refine QRun_y (.slice a4 x10.length c3) (by kernel_rfl) (Y_eq (Y_slice (t := 22) (e := 2) (sz := 1) (a := a4) (n := s3.length) (cap := c3) (lo := none) (hi := (some (.i64, w64 ((s3.length : Int) - 1)))) (x := 0) (y := w64 ((s3.length : Int) - 1)) (by kernel_rfl) Try.underlying22 (by kernel_rfl) (H4.rd 0 rfl).fits rfl rfl hx8a hx8b hx8c) (by rw [show sliceA a4 c3 (0 : Int).toNat 1 = a4 from e1]; simp only [hx8q, List.length_take]; congr 1; omega)) ?_
                  refine QRun_b [.slice a4 x10.length c3] 5 _ (by kernel_rfl) (fun w => by kernel_rfl) ?_
                  exact QRun_done [0, 3, 4] (by kernel_rfl) (by kernel_rfl)
                refine Run_blk ?_
                have hB2 := M.ret_some hB2
                have gx3 := hgoy2 _ hB2.symm
                exact Run_again [0, 3, 4] (by kernel_rfl) my2 (Nat.lt_succ_self _) ⟨x10, a4, c3, gx3, rfl, H7⟩
            · have hB2 := (M.ite_some hB2).2 hb3
              refine Run_exit (k' := _) rfl ?_
              have hB2 := M.ret_some hB2
              have gx3 := houty2 _ hB2.symm
              subst gx3
              exact Run_fall [0, 3, 4] (by kernel_rfl) ⟨a4, c3, rfl, H4⟩
    · have gx1 := M.for_end gx1 hb1
      subst gx1
      refine Run_exit (k' := _) rfl ?_
      exact Run_fall [3] (by kernel_rfl) ⟨a2, c1, rfl, H2⟩

set_option maxRecDepth 100000 in
set_option maxHeartbeats 4000000 in
theorem w_spec_l02Bottom (h : Heap) (m_ : Int) (n_ : Int) (n : Nat) (r : (List (List Int))) (hF : spec_l02Bottom m_ n_ n = some r) :
    Fn Try.prog 79 #[.int .i64 m_, .int .i64 n_] h fun v h' => ∃ (a0 : Option Addr) (c0 : Nat), v = .slice a0 r.length c0 ∧ Hold h h' [own cd22 a0 r.length c0 r] := by
  unfold spec_l02Bottom at hF
  refine Fn_enter (args := [.int .i64 m_, .int .i64 n_]) Try.func79 rfl (by kernel_rfl) (by kernel_rfl) (fun w0 _ => ?_)
  have H0 := Hold.init h
  refine Run_seq ?_
  refine Run_reg 1 (by kernel_rfl) (L' := [(0, .int .i64 m_), (1, .int .i64 n_)]) ?_ ?_
  · refine QRun_b [.slice none 0 0] 0 _ (by kernel_rfl) (fun w => by kernel_rfl) ?_
    exact QRun_done [0, 1] (by kernel_rfl) (by kernel_rfl)
  refine Run_seq ?_
  refine Run_ops ?_
  refine Run_E (by kernel_rfl) ?_
  refine E_lit (C := cd22) (n := 0) (l := []) (cs := []) H0 (fun w => by kernel_rfl) (Enc.nil _ _) rfl (by decide) (fun a1 h1 H1 => ?_)
  refine Run_b [.slice a1 0 0] 1 _ (by kernel_rfl) (fun w => by kernel_rfl) ?_
  refine Run_nil (by kernel_rfl) ?_
  refine Run_keep [0, 1, 5] (L' := [(0, .int .i64 m_), (1, .int .i64 n_), (5, .slice a1 0 0)]) (by kernel_rfl) ?_
  refine Run_seq ?_
  refine Run_seq ?_
  refine Run_reg 1 (by kernel_rfl) (L' := [(0, .int .i64 m_), (1, .int .i64 n_), (5, .slice a1 0 0), (6, .int .i64 0)]) ?_ ?_
  · refine QRun_b [.int .i64 0] 0 _ (by kernel_rfl) (fun w => by kernel_rfl) ?_
    exact QRun_done [0, 1, 5, 6] (by kernel_rfl) (by kernel_rfl)
  obtain ⟨x1, gx1, hF⟩ := M.bind_some hF
  obtain ⟨hloy1, hhiy1, gx1⟩ := M.for_start gx1
  refine Run_join (fun L' h' => ∃ (a3 : Option Addr) (c2 : Nat), L' = [(5, .slice a3 x1.length c2)] ∧ Hold h h' [own cd22 a3 x1.length c2 x1]) ?_ ?_
  · rintro _ h3 ⟨a3, c2, rfl, H3⟩
    refine Run_seq ?_
    refine Run_reg 2 (by kernel_rfl) (L' := [(4, .slice a3 x1.length c2)]) ?_ ?_
    · refine QRun_b [.slice a3 x1.length c2, .slice a3 x1.length c2] 0 _ (by kernel_rfl) (fun w => by kernel_rfl) ?_
      exact QRun_done [4] (by kernel_rfl) (by kernel_rfl)
    have hF := M.ret_some hF
    subst hF
    exact Run_ret1 rfl (ResV_tmp (v := .slice a3 x1.length c2) (by kernel_rfl)) ⟨a3, c2, rfl, H3⟩
  · refine Run_block ?_
    have hn2 := (H1.len 0 rfl)
    have H23 : Hold h h1 [own cd22 a1 (([] : List (List Int)).length) 0 ([] : List (List Int))] := by rw [hn2]; exact H1
    refine Run_keep [0, 1, 5, 6] (L' := [(0, .int .i64 m_), (1, .int .i64 n_), (5, .slice a1 (([] : List (List Int)).length) 0), (6, .int .i64 0)]) (by rw [hn2]; kernel_rfl) ?_
    refine Run_loop (fun m L' h' => ∃ (i1 : Int) (s1 : (List (List Int))) (a2 : Option Addr) (c1 : Nat), 0 ≤ i1 ∧ M.forN m_ _ _ n m i1 s1 = some x1 ∧ L' = [(0, .int .i64 m_), (1, .int .i64 n_), (5, .slice a2 s1.length c1), (6, .int .i64 i1)] ∧ Hold h h' [own cd22 a2 s1.length c1 s1]) (m_ - 0).toNat ⟨0, ([] : List (List Int)), a1, 0, Int.le_refl _, gx1, rfl, H23⟩ ?_
    rintro my1 _ h2 ⟨i1, s1, a2, c1, hloy1', gx1, rfl, H2⟩
    refine Run_seq ?_
    refine Run_seq ?_
    refine Run_reg 3 (by kernel_rfl) (L' := [(0, .int .i64 m_), (1, .int .i64 n_), (5, .slice a2 s1.length c1), (6, .int .i64 i1), (12, .bool (decide (i1 < m_)))]) ?_ ?_
    · refine QRun_b [.int .i64 i1, .int .i64 m_, .bool (decide (i1 < m_))] 0 _ (by kernel_rfl) (fun w => by kernel_rfl) ?_
      exact QRun_done [0, 1, 5, 6, 12] (by kernel_rfl) (by kernel_rfl)
    refine Run_cond (b := decide (i1 < m_)) (by kernel_rfl) (fun hb1 => ?_) (fun hb1 => ?_)
    · obtain ⟨my1, y1, rfl, hB1, hgoy1, houty1⟩ := M.for_go gx1 hb1
      have hlty1 := of_decide_eq_true hb1
      refine Run_skip ?_
      refine Run_seq ?_
      refine Run_block ?_
      refine Run_seq ?_
      refine Run_ops ?_
      refine Run_E (by kernel_rfl) ?_
      refine E_lit (C := cd2) (n := 0) (l := ([] : List Int)) (cs := []) H2 (fun w => by kernel_rfl) (Enc.nil _ _) rfl (by decide) (fun a4 h4 H4 => ?_)
      refine Run_b [.slice a4 0 0] 1 _ (by kernel_rfl) (fun w => by kernel_rfl) ?_
      refine Run_nil (by kernel_rfl) ?_
      refine Run_keep [0, 1, 5, 6, 7] (L' := [(0, .int .i64 m_), (1, .int .i64 n_), (5, .slice a2 s1.length c1), (6, .int .i64 i1), (7, .slice a4 0 0)]) (by kernel_rfl) ?_
      refine Run_seq ?_
      refine Run_seq ?_
      refine Run_reg 1 (by kernel_rfl) (L' := [(0, .int .i64 m_), (1, .int .i64 n_), (5, .slice a2 s1.length c1), (6, .int .i64 i1), (7, .slice a4 0 0), (8, .int .i64 0)]) ?_ ?_
      · refine QRun_b [.int .i64 0] 0 _ (by kernel_rfl) (fun w => by kernel_rfl) ?_
        exact QRun_done [0, 1, 5, 6, 7, 8] (by kernel_rfl) (by kernel_rfl)
      obtain ⟨x2, gx2, hB1⟩ := M.bind_some hB1
      obtain ⟨hloy2, hhiy2, gx2⟩ := M.for_start gx2
      refine Run_join (fun L' h' => ∃ (a6 : Option Addr) (c4 : Nat), L' = [(0, .int .i64 m_), (1, .int .i64 n_), (5, .slice a2 s1.length c1), (6, .int .i64 i1), (7, .slice a6 x2.length c4)] ∧ Hold h h' [own cd22 a2 s1.length c1 s1, own cd2 a6 x2.length c4 x2]) ?_ ?_
      · rintro _ h6 ⟨a6, c4, rfl, H6⟩
        refine Run_ops ?_
        refine Run_b [.slice a2 s1.length c1, .slice a6 x2.length c4] 0 _ (by kernel_rfl) (fun w => by kernel_rfl) ?_
        have H16 : Hold h h6 [own cd2 a6 x2.length c4 x2, own cd22 a2 s1.length c1 s1] := H6.pick [1, 0] (by kernel_rfl)
        refine Run_E (by kernel_rfl) ?_
        refine E_lit1 (ey := 22) (n := x2.length) H16 (fun w => by kernel_rfl) rfl (fun a9 h9 H15 => ?_)
        obtain ⟨l2, hl2, hB1⟩ := M.bind_some hB1
        have hl2 := M.app_some hl2
        have H17 : Hold h h9 [own cd22 a2 s1.length c1 s1, own cd22 a9 1 1 [x2]] := H15.pick [1, 0] (by kernel_rfl)
        have H18 : Hold h h9 [own cd22 a9 1 1 [x2], own cd22 a2 s1.length c1 s1] := H17.pick [1, 0] (by kernel_rfl)
        have H19 : Hold h h9 [own cd22 a2 s1.length c1 s1, own cd22 a9 1 1 [x2]] := H18.pick [1, 0] (by kernel_rfl)
        refine Run_E (by kernel_rfl) ?_
        refine E_app (C := cd22) (t := 45) (ty := 45) (n := s1.length) (m := 1) H19 cd22_ti rfl Try.underlying45 (by decide) (by kernel_rfl) hl2 (fun a10 c6 h10 H20 => ?_)
        refine Run_b [.slice a10 l2.length c6] 4 _ (by kernel_rfl) (fun w => by kernel_rfl) ?_
        refine Run_nil (by kernel_rfl) ?_
        refine Run_keep [0, 1, 5, 6] (L' := [(0, .int .i64 m_), (1, .int .i64 n_), (5, .slice a10 l2.length c6), (6, .int .i64 i1)]) (by kernel_rfl) ?_
        refine Run_blk ?_
        refine Run_reg 3 (by kernel_rfl) (L' := [(0, .int .i64 m_), (1, .int .i64 n_), (5, .slice a10 l2.length c6), (6, .int .i64 (i1 + 1))]) ?_ ?_
        · refine QRun_b [.int .i64 i1] 0 _ (by kernel_rfl) (fun w => by kernel_rfl) ?_
          refine QRun_y (.int .i64 (i1 + 1)) (by kernel_rfl) (Y_eq (v := .int .i64 (w64 (i1 + 1))) (Y_pure (fun w => by kernel_rfl)) (by rw [w64_eq _ (by omega)])) ?_
          refine QRun_b [.int .i64 (i1 + 1)] 2 _ (by kernel_rfl) (fun w => by kernel_rfl) ?_
          exact QRun_done [0, 1, 5, 6] (by kernel_rfl) (by kernel_rfl)
        have hB1 := M.ret_some hB1
        have gx1 := hgoy1 _ hB1.symm
        exact Run_again [0, 1, 5, 6] (by kernel_rfl) my1 (Nat.lt_succ_self _) ⟨i1 + 1, l2, a10, c6, by omega, gx1, rfl, H20⟩
      · refine Run_block ?_
        have hn1 := (H4.len 0 rfl)
        have H21 : Hold h h4 [own cd2 a4 (([] : List Int).length) 0 ([] : List Int), own cd22 a2 s1.length c1 s1] := by rw [hn1]; exact H4
        have H22 : Hold h h4 [own cd22 a2 s1.length c1 s1, own cd2 a4 (([] : List Int).length) 0 ([] : List Int)] := H21.pick [1, 0] (by kernel_rfl)
        refine Run_keep [0, 1, 5, 6, 7, 8] (L' := [(0, .int .i64 m_), (1, .int .i64 n_), (5, .slice a2 s1.length c1), (6, .int .i64 i1), (7, .slice a4 (([] : List Int).length) 0), (8, .int .i64 0)]) (by rw [hn1]; kernel_rfl) ?_
        refine Run_loop (fun m L' h' => ∃ (i2 : Int) (s2 : (List Int)) (a5 : Option Addr) (c3 : Nat), 0 ≤ i2 ∧ M.forN n_ _ _ n m i2 s2 = some x2 ∧ L' = [(0, .int .i64 m_), (1, .int .i64 n_), (5, .slice a2 s1.length c1), (6, .int .i64 i1), (7, .slice a5 s2.length c3), (8, .int .i64 i2)] ∧ Hold h h' [own cd22 a2 s1.length c1 s1, own cd2 a5 s2.length c3 s2]) (n_ - 0).toNat ⟨0, ([] : List Int), a4, 0, Int.le_refl _, gx2, rfl, H22⟩ ?_
        rintro my2 _ h5 ⟨i2, s2, a5, c3, hloy2', gx2, rfl, H5⟩
        refine Run_seq ?_
        refine Run_seq ?_
        refine Run_reg 3 (by kernel_rfl) (L' := [(0, .int .i64 m_), (1, .int .i64 n_), (5, .slice a2 s1.length c1), (6, .int .i64 i1), (7, .slice a5 s2.length c3), (8, .int .i64 i2), (18, .bool (decide (i2 < n_)))]) ?_ ?_
        · refine QRun_b [.int .i64 i2, .int .i64 n_, .bool (decide (i2 < n_))] 0 _ (by kernel_rfl) (fun w => by kernel_rfl) ?_
          exact QRun_done [0, 1, 5, 6, 7, 8, 18] (by kernel_rfl) (by kernel_rfl)
        refine Run_cond (b := decide (i2 < n_)) (by kernel_rfl) (fun hb2 => ?_) (fun hb2 => ?_)
        · obtain ⟨my2, y2, rfl, hB2, hgoy2, houty2⟩ := M.for_go gx2 hb2
          have hlty2 := of_decide_eq_true hb2
          refine Run_skip ?_
          refine Run_seq ?_
          refine Run_block ?_
          refine Run_ops ?_
          refine Run_b [.slice a5 s2.length c3] 0 _ (by kernel_rfl) (fun w => by kernel_rfl) ?_
          refine Run_E (by kernel_rfl) ?_
          refine E_lit (C := cd2) (n := 1) (l := ([(-1000000000000000)] : List Int)) (cs := [.int .i64 (-1000000000000000)]) H5 (fun w => by kernel_rfl) (Enc.consE (cd2_own (-1000000000000000) _) (Enc.nil _ _) rfl) rfl (by decide) (fun a7 h7 H7 => ?_)
          obtain ⟨l1, hl1, hB2⟩ := M.bind_some hB2
          have hl1 := M.app_some hl1
          have H8 : Hold h h7 [own cd2 a5 s2.length c3 s2, own cd2 a7 1 1 ([(-1000000000000000)] : List Int), own cd22 a2 s1.length c1 s1] := H7.pick [2, 0, 1] (by kernel_rfl)
          have H9 : Hold h h7 [own cd2 a7 1 1 ([(-1000000000000000)] : List Int), own cd2 a5 s2.length c3 s2, own cd22 a2 s1.length c1 s1] := H8.pick [1, 0, 2] (by kernel_rfl)
          have H10 : Hold h h7 [own cd2 a5 s2.length c3 s2, own cd2 a7 1 1 ([(-1000000000000000)] : List Int), own cd22 a2 s1.length c1 s1] := H9.pick [1, 0, 2] (by kernel_rfl)
          refine Run_E (by kernel_rfl) ?_
          refine E_app (C := cd2) (t := 22) (ty := 22) (n := s2.length) (m := 1) H10 cd2_ti rfl Try.underlying22 (by decide) (by kernel_rfl) hl1 (fun a8 c5 h8 H11 => ?_)
          refine Run_b [.slice a8 l1.length c5] 3 _ (by kernel_rfl) (fun w => by kernel_rfl) ?_
          refine Run_nil (by kernel_rfl) ?_
          refine Run_keep [0, 1, 5, 6, 7, 8] (L' := [(0, .int .i64 m_), (1, .int .i64 n_), (5, .slice a2 s1.length c1), (6, .int .i64 i1), (7, .slice a8 l1.length c5), (8, .int .i64 i2)]) (by kernel_rfl) ?_
          refine Run_blk ?_
          refine Run_reg 3 (by kernel_rfl) (L' := [(0, .int .i64 m_), (1, .int .i64 n_), (5, .slice a2 s1.length c1), (6, .int .i64 i1), (7, .slice a8 l1.length c5), (8, .int .i64 (i2 + 1))]) ?_ ?_
          · refine QRun_b [.int .i64 i2] 0 _ (by kernel_rfl) (fun w => by kernel_rfl) ?_
            refine QRun_y (.int .i64 (i2 + 1)) (by kernel_rfl) (Y_eq (v := .int .i64 (w64 (i2 + 1))) (Y_pure (fun w => by kernel_rfl)) (by rw [w64_eq _ (by omega)])) ?_
            refine QRun_b [.int .i64 (i2 + 1)] 2 _ (by kernel_rfl) (fun w => by kernel_rfl) ?_
            exact QRun_done [0, 1, 5, 6, 7, 8] (by kernel_rfl) (by kernel_rfl)
          have H12 : Hold h h8 [own cd22 a2 s1.length c1 s1, own cd2 a8 l1.length c5 l1] := H11.pick [1, 0] (by kernel_rfl)
          have hB2 := M.ret_some hB2
          have gx2 := hgoy2 _ hB2.symm
          exact Run_again [0, 1, 5, 6, 7, 8] (by kernel_rfl) my2 (Nat.lt_succ_self _) ⟨i2 + 1, l1, a8, c5, by omega, gx2, rfl, H12⟩
        · have gx2 := M.for_end gx2 hb2
          subst gx2
          refine Run_exit (k' := _) rfl ?_
          have H13 : Hold h h5 [own cd2 a5 s2.length c3 s2, own cd22 a2 s1.length c1 s1] := H5.pick [1, 0] (by kernel_rfl)
          have H14 : Hold h h5 [own cd22 a2 s1.length c1 s1, own cd2 a5 s2.length c3 s2] := H13.pick [1, 0] (by kernel_rfl)
          exact Run_fall [0, 1, 5, 6, 7] (by kernel_rfl) ⟨a5, c3, rfl, H14⟩
    · have gx1 := M.for_end gx1 hb1
      subst gx1
      refine Run_exit (k' := _) rfl ?_
      exact Run_fall [5] (by kernel_rfl) ⟨a2, c1, rfl, H2⟩

set_option maxRecDepth 100000 in
set_option maxHeartbeats 4000000 in
theorem w_spec_l01Floor (h : Heap) (a_ : Int) (b : Int) (n : Nat) (r : Int) (hF : spec_l01Floor a_ b n = some r) :
    Fn Try.prog 84 #[.int .i64 a_, .int .i64 b] h fun v h' => v = .int .i64 r ∧ h' = h := by
  unfold spec_l01Floor at hF
  refine Fn_enter (args := [.int .i64 a_, .int .i64 b]) Try.func84 rfl (by kernel_rfl) (by kernel_rfl) (fun w0 _ => ?_)
  refine Run_seq ?_
  refine Run_reg 1 (by kernel_rfl) (L' := [(0, .int .i64 a_), (1, .int .i64 b)]) ?_ ?_
  · refine QRun_b [.int .i64 0] 0 _ (by kernel_rfl) (fun w => by kernel_rfl) ?_
    exact QRun_done [0, 1] (by kernel_rfl) (by kernel_rfl)
  refine Run_seq ?_
  obtain ⟨u1, hz1, hF⟩ := M.bind_some hF
  have hz1 := M.guard_some hz1
  refine Run_reg 4 (by kernel_rfl) (L' := [(0, .int .i64 a_), (1, .int .i64 b), (5, .int .i64 (w64 (a_.tdiv b)))]) ?_ ?_
  · refine QRun_b [.int .i64 a_, .int .i64 b] 0 _ (by kernel_rfl) (fun w => by kernel_rfl) ?_
    refine QRun_y (.int .i64 (w64 (a_.tdiv b))) (by kernel_rfl) (Y_quo (op := .quo) (k := .i64) (x := a_) (y := b) (by kernel_rfl) hz1) ?_
    refine QRun_b [.int .i64 (w64 (a_.tdiv b))] 3 _ (by kernel_rfl) (fun w => by kernel_rfl) ?_
    exact QRun_done [0, 1, 5] (by kernel_rfl) (by kernel_rfl)
  refine Run_seq ?_
  refine Run_seq ?_
  obtain ⟨u2, hz2, hF⟩ := M.bind_some hF
  have hz2 := M.guard_some hz2
  refine Run_reg 4 (by kernel_rfl) (L' := [(5, .int .i64 (w64 (a_.tdiv b))), (12, .bool (decide ((a_.tmod b) < 0)))]) ?_ ?_
  · refine QRun_b [.int .i64 a_, .int .i64 b] 0 _ (by kernel_rfl) (fun w => by kernel_rfl) ?_
    refine QRun_y (.int .i64 (a_.tmod b)) (by kernel_rfl) (Y_rem (op := .rem) (k := .i64) (x := a_) (y := b) (by kernel_rfl) hz2) ?_
    refine QRun_b [.bool (decide ((a_.tmod b) < 0))] 3 _ (by kernel_rfl) (fun w => by kernel_rfl) ?_
    exact QRun_done [5, 12] (by kernel_rfl) (by kernel_rfl)
  obtain ⟨s1, gs1, hF⟩ := M.bind_some hF
  refine Run_join (fun L' h' => L' = [(5, .int .i64 s1)] ∧ h = h') ?_ ?_
  · rintro _ _ ⟨rfl, rfl⟩
    refine Run_seq ?_
    refine Run_reg 2 (by kernel_rfl) (L' := [(4, .int .i64 s1)]) ?_ ?_
    · refine QRun_b [.int .i64 s1, .int .i64 s1] 0 _ (by kernel_rfl) (fun w => by kernel_rfl) ?_
      exact QRun_done [4] (by kernel_rfl) (by kernel_rfl)
    have hF := M.ret_some hF
    subst hF
    exact Run_ret1 rfl (ResV_tmp (v := .int .i64 s1) (by kernel_rfl)) ⟨rfl, rfl⟩
  · refine Run_cond (b := decide ((a_.tmod b) < 0)) (by kernel_rfl) (fun hb1 => ?_) (fun hb1 => ?_)
    · have gs1 := (M.ite_some gs1).1 hb1
      refine Run_reg 3 (by kernel_rfl) (L' := [(5, .int .i64 (w64 ((w64 (a_.tdiv b)) - 1)))]) ?_ ?_
      · refine QRun_b [.int .i64 (w64 (a_.tdiv b)), .int .i64 (w64 ((w64 (a_.tdiv b)) - 1)), .int .i64 (w64 ((w64 (a_.tdiv b)) - 1))] 0 _ (by kernel_rfl) (fun w => by kernel_rfl) ?_
        exact QRun_done [5] (by kernel_rfl) (by kernel_rfl)
      have gs1 := M.ret_some gs1
      subst gs1
      exact Run_fall [5] (by kernel_rfl) ⟨rfl, rfl⟩
    · have gs1 := (M.ite_some gs1).2 hb1
      refine Run_skip ?_
      have gs1 := M.ret_some gs1
      subst gs1
      exact Run_fall [5] (by kernel_rfl) ⟨rfl, rfl⟩

set_option maxRecDepth 100000 in
set_option maxHeartbeats 4000000 in
theorem w_spec_FullPolynomial (h : Heap) (c_ : List Int) (ac_ : Option Addr) (cc_ : Nat) (rc_ : Rd cd2 h (Lt h) ac_ cc_ c_) (n : Nat) (r : (List Int) × Int) (hF : spec_FullPolynomial c_ n = some r) :
    Fn Try.prog 42 #[.slice ac_ c_.length cc_] h fun v h' => ∃ (a0 : Option Addr) (c0 : Nat), v = .tuple #[.slice a0 r.1.length c0, .int .i64 r.2] ∧ Hold h h' [own cd2 a0 r.1.length c0 r.1] := by
  unfold spec_FullPolynomial at hF
  refine Fn_enter (args := [.slice ac_ c_.length cc_]) Try.func42 rfl (by kernel_rfl) (by kernel_rfl) (fun w0 _ => ?_)
  have H0 := Hold.init h
  refine Run_seq ?_
  refine Run_reg 2 (by kernel_rfl) (L' := [(0, .slice ac_ c_.length cc_)]) ?_ ?_
  · refine QRun_b [.slice none 0 0, .int .i64 0] 0 _ (by kernel_rfl) (fun w => by kernel_rfl) ?_
    exact QRun_done [0] (by kernel_rfl) (by kernel_rfl)
  refine Run_seq ?_
  refine Run_seq ?_
  obtain ⟨x1, hx1, hF⟩ := M.bind_some hF
  refine Run_reg 3 (by kernel_rfl) (L' := [(0, .slice ac_ c_.length cc_), (12, .bool (!x1))]) ?_ ?_
  · refine QRun_b [.slice ac_ c_.length cc_] 0 _ (by kernel_rfl) (fun w => by kernel_rfl) ?_
    refine QRun_y (.bool x1) (by kernel_rfl) (Y_callq (f := 14) (args := #[.slice ac_ c_.length cc_]) (v := .bool x1) (by kernel_rfl) (w_spec_IsPolynomial h c_ ac_ cc_ rc_ _ _ hx1)) ?_
    refine QRun_b [.bool (!x1)] 2 _ (by kernel_rfl) (fun w => by kernel_rfl) ?_
    exact QRun_done [0, 12] (by kernel_rfl) (by kernel_rfl)
  refine Run_cond (b := !x1) (by kernel_rfl) (fun hb1 => ?_) (fun hb1 => ?_)
  · have hF := (M.ite_some hF).1 hb1
    refine Run_seq ?_
    refine Run_reg 2 (by kernel_rfl) (L' := [(2, .slice none 0 0), (3, .int .i64 1)]) ?_ ?_
    · refine QRun_b [.slice none 0 0, .int .i64 1] 0 _ (by kernel_rfl) (fun w => by kernel_rfl) ?_
      exact QRun_done [2, 3] (by kernel_rfl) (by kernel_rfl)
    have hF := M.ret_some hF
    subst hF
    have H1 := H0.empty cd2
    exact Run_ret2 rfl (ResV_tmp (v := .slice none 0 0) (by kernel_rfl)) (ResV_tmp (v := .int .i64 1) (by kernel_rfl)) ⟨none, 0, rfl, H1⟩
  · have hF := (M.ite_some hF).2 hb1
    refine Run_skip ?_
    refine Run_seq ?_
    refine Run_ops ?_
    refine Run_b [.slice ac_ c_.length cc_] 0 _ (by kernel_rfl) (fun w => by kernel_rfl) ?_
    obtain ⟨x2, hx2, hF⟩ := M.bind_some hF
    refine Run_E (by kernel_rfl) ?_
    refine E_call (f := 73) (args := #[.slice ac_ c_.length cc_]) (w_spec_l09Terms h c_ ac_ cc_ rc_ _ _ hx2) (by kernel_rfl) (fun v1 h1 hp1 => ?_)
    obtain ⟨a1, c1, rfl, H2⟩ := hp1
    have H3 : Hold h h1 [own cd2 a1 x2.length c1 x2] := H0.call H2 rfl
    refine Run_b [.slice a1 x2.length c1] 2 _ (by kernel_rfl) (fun w => by kernel_rfl) ?_
    refine Run_nil (by kernel_rfl) ?_
    refine Run_keep [0, 4] (L' := [(0, .slice ac_ c_.length cc_), (4, .slice a1 x2.length c1)]) (by kernel_rfl) ?_
    refine Run_seq ?_
    refine Run_ops ?_
    refine Run_b [.slice ac_ c_.length cc_, .int .i64 (c_.length : Int)] 0 _ (by kernel_rfl) (fun w => by kernel_rfl) ?_
    obtain ⟨x3, hx3, hF⟩ := M.bind_some hF
    refine Run_E (by kernel_rfl) ?_
    refine E_call (f := 79) (args := #[.int .i64 1, .int .i64 (c_.length : Int)]) (w_spec_l02Bottom h1 1 (c_.length : Int) _ _ hx3) (by kernel_rfl) (fun v2 h2 hp2 => ?_)
    obtain ⟨a2, c2, rfl, H4⟩ := hp2
    have H5 : Hold h h2 [own cd22 a2 x3.length c2 x3, own cd2 a1 x2.length c1 x2] := H3.call H4 rfl
    obtain ⟨x4, hx4, hF⟩ := M.bind_some hF
    obtain ⟨hx4l, hx4u, hx4⟩ := M.idx_some hx4
    obtain ⟨a3, c3, hc1, H6⟩ := H5.takeRow hx4
    refine Run_y (.pointer (some (adr a2 (0 * 1)))) (by kernel_rfl) (Y_idx (t := 45) (e := 22) (sz := 1) (a := a2) (n := x3.length) (cap := c2) (kk := .i64) (i := 0) (by kernel_rfl) Try.underlying45 (by kernel_rfl) ((H5.rd 0 rfl).cell hx4).1 hx4l hx4u) ?_
    refine Run_y (.slice a3 x4.length c3) (by kernel_rfl) (Y_load1 (t := 22) (p := adr a2 (0 * 1)) (v := .slice a3 x4.length c3) (by kernel_rfl) (fun w => by kernel_rfl) hc1) ?_
    refine Run_b [.slice a3 x4.length c3] 5 _ (by kernel_rfl) (fun w => by kernel_rfl) ?_
    refine Run_nil (by kernel_rfl) ?_
    refine Run_keep [0, 4, 5] (L' := [(0, .slice ac_ c_.length cc_), (4, .slice a1 x2.length c1), (5, .slice a3 x4.length c3)]) (by kernel_rfl) ?_
    refine Run_seq ?_
    obtain ⟨x5, hx5, hF⟩ := M.bind_some hF
    obtain ⟨hx5l, hx5u, hx5⟩ := M.idx_some hx5
    obtain ⟨x6, hx6, hF⟩ := M.bind_some hF
    obtain ⟨hx6l, hx6u, hx6⟩ := M.idx_some hx6
    obtain ⟨x7, hx7, hF⟩ := M.bind_some hF
    obtain ⟨hx7l, hx7u, hx7⟩ := M.idx_some hx7
    obtain ⟨x8, hx8, hF⟩ := M.bind_some hF
    obtain ⟨hx8l, hx8u, hx8⟩ := M.idx_some hx8
    refine Run_D (fun x => Hold h x [own cd2 a3 x4.length c3 x4, rest cd2 22 a2 x3.length c2 x3 0 a3 x4.length c3, own cd2 a1 x2.length c1 x2]) (fun x => Hold h x [own cd2 a3 x4.length c3 x4, rest cd2 22 a2 x3.length c2 x3 0 a3 x4.length c3, own cd2 a1 x2.length c1 x2]) mixed (by kernel_rfl) H6 Hold.stable (fun x Hy => (show Hold h x [own cd2 a3 x4.length c3 x4, rest cd2 22 a2 x3.length c2 x3 0 a3 x4.length c3, own cd2 a1 x2.length c1 x2] from Hy).pick [0, 1, 2] (by kernel_rfl)) ?_
    refine DR_b 10 [.slice a3 x4.length c3, .slice a1 x2.length c1] 0 (by kernel_rfl) (by kernel_rfl) (by kernel_rfl) (fun w => by kernel_rfl) ?_
    refine DR_y 9 (i := 2) (.pointer (some (adr a1 (0 * 1)))) (by kernel_rfl) (by kernel_rfl) (by kernel_rfl) (fun hx Hx => (YE.of (Y_idx (t := 22) (e := 2) (sz := 1) (a := a1) (n := x2.length) (cap := c1) (kk := .i64) (i := 0) (by kernel_rfl) Try.underlying22 (by kernel_rfl) ((H6.rd 2 rfl).cell hx5).1 hx5l hx5u))) ?_
    refine DR_y 8 (i := 3) (.int .i64 x5) (by kernel_rfl) (by kernel_rfl) (by kernel_rfl) (fun hx Hx => (YE.of (Y_load1 (t := 2) (p := adr a1 (0 * 1)) (v := .int .i64 x5) (by kernel_rfl) (fun w => by kernel_rfl) (cd2_cell (Hx.rd 2 rfl) hx5)))) ?_
    refine DR_b 6 [.slice ac_ c_.length cc_, .slice a1 x2.length c1] 4 (by kernel_rfl) (by kernel_rfl) (by kernel_rfl) (fun w => by kernel_rfl) ?_
    refine DR_y 5 (i := 6) (.pointer (some (adr a1 (0 * 1)))) (by kernel_rfl) (by kernel_rfl) (by kernel_rfl) (fun hx Hx => (YE.of (Y_idx (t := 22) (e := 2) (sz := 1) (a := a1) (n := x2.length) (cap := c1) (kk := .i64) (i := 0) (by kernel_rfl) Try.underlying22 (by kernel_rfl) ((H6.rd 2 rfl).cell hx6).1 hx6l hx6u))) ?_
    refine DR_y 4 (i := 7) (.int .i64 x6) (by kernel_rfl) (by kernel_rfl) (by kernel_rfl) (fun hx Hx => (YE.of (Y_load1 (t := 2) (p := adr a1 (0 * 1)) (v := .int .i64 x6) (by kernel_rfl) (fun w => by kernel_rfl) (cd2_cell (Hx.rd 2 rfl) hx6)))) ?_
    refine DR_y 3 (i := 8) (.pointer (some (adr ac_ (x6.toNat * 1)))) (by kernel_rfl) (by kernel_rfl) (by kernel_rfl) (fun hx Hx => (YE.of (Y_idx (t := 22) (e := 2) (sz := 1) (a := ac_) (n := c_.length) (cap := cc_) (kk := .i64) (i := x6) (by kernel_rfl) Try.underlying22 (by kernel_rfl) ((rc_.at H6.ext).cell hx7).1 hx7l hx7u))) ?_
    refine DR_y 2 (i := 9) (.int .i64 x7) (by kernel_rfl) (by kernel_rfl) (by kernel_rfl) (fun hx Hx => (YE.of (Y_load1 (t := 2) (p := adr ac_ (x6.toNat * 1)) (v := .int .i64 x7) (by kernel_rfl) (fun w => by kernel_rfl) (cd2_cell (rc_.at Hx.ext) hx7)))) ?_
    refine DR_y 1 (i := 10) (.pointer (some (adr a3 (x5.toNat * 1)))) (by kernel_rfl) (by kernel_rfl) (by kernel_rfl) (fun hx Hx => (YE.of (Y_idx (t := 22) (e := 2) (sz := 1) (a := a3) (n := x4.length) (cap := c3) (kk := .i64) (i := x5) (by kernel_rfl) Try.underlying22 (by kernel_rfl) ((H6.rd 0 rfl).cell hx8).1 hx8l hx8u))) ?_
    refine DR_tail (i := 11) (by kernel_rfl) (by kernel_rfl) (by kernel_rfl) (fun h3 H7 => ?_)
    have H8 : Hold h h3 [own cd2 a3 x4.length c3 x4, rest cd2 22 a2 x3.length c2 x3 0 a3 x4.length c3, own cd2 a1 x2.length c1 x2] := H7
    obtain ⟨l1, hu1, hF⟩ := M.bind_some hF
    have hu1 := M.upd_some hu1
    refine Run_E (by kernel_rfl) ?_
    refine E_put (C := cd2) (t := 2) (sz := 1) (j := x5) (x := x7) (v := .int .i64 x7) H8 cd2_flat (by kernel_rfl) rfl (cd2_own _) (by kernel_rfl) hu1 (fun h4 H9 => ?_)
    refine Run_nil (by kernel_rfl) ?_
    refine Run_keep [0, 4, 5] (L' := [(0, .slice ac_ c_.length cc_), (4, .slice a1 x2.length c1), (5, .slice a3 x4.length c3)]) (by kernel_rfl) ?_
    refine Run_seq ?_
    refine Run_seq ?_
    refine Run_reg 1 (by kernel_rfl) (L' := [(0, .slice ac_ c_.length cc_), (4, .slice a1 x2.length c1), (5, .slice a3 x4.length c3), (6, .int .i64 1)]) ?_ ?_
    · refine QRun_b [.int .i64 1] 0 _ (by kernel_rfl) (fun w => by kernel_rfl) ?_
      exact QRun_done [0, 4, 5, 6] (by kernel_rfl) (by kernel_rfl)
    obtain ⟨x9, gx9, hF⟩ := M.bind_some hF
    obtain ⟨hloy1, hhiy1, gx9⟩ := M.for_start gx9
    refine Run_join (fun L' h' => L' = [(5, .slice a3 x4.length c3)] ∧ Hold h h' [own cd2 a3 x4.length c3 x9]) ?_ ?_
    · rintro _ h6 ⟨rfl, H11⟩
      refine Run_seq ?_
      refine Run_reg 3 (by kernel_rfl) (L' := [(2, .slice a3 x4.length c3), (3, .int .i64 0)]) ?_ ?_
      · refine QRun_b [.slice a3 x4.length c3, .slice a3 x4.length c3, .int .i64 0] 0 _ (by kernel_rfl) (fun w => by kernel_rfl) ?_
        exact QRun_done [2, 3] (by kernel_rfl) (by kernel_rfl)
      have hF := M.ret_some hF
      subst hF
      have H20 := H11.norm
      exact Run_ret2 rfl (ResV_tmp (v := .slice a3 x4.length c3) (by kernel_rfl)) (ResV_tmp (v := .int .i64 0) (by kernel_rfl)) ⟨a3, c3, (by simp only [(H11.len 0 rfl)]), H20⟩
    · refine Run_block ?_
      have H21 : Hold h h4 [own cd2 a1 x2.length c1 x2, own cd2 a3 x4.length c3 l1] := H9.pick [2, 0] (by kernel_rfl)
      refine Run_keep [0, 4, 5, 6] (L' := [(0, .slice ac_ c_.length cc_), (4, .slice a1 x2.length c1), (5, .slice a3 x4.length c3), (6, .int .i64 1)]) (by kernel_rfl) ?_
      refine Run_loop (fun m L' h' => ∃ (i1 : Int) (s1 : (List Int)), 1 ≤ i1 ∧ M.forN (x2.length : Int) _ _ n m i1 s1 = some x9 ∧ L' = [(0, .slice ac_ c_.length cc_), (4, .slice a1 x2.length c1), (5, .slice a3 x4.length c3), (6, .int .i64 i1)] ∧ Hold h h' [own cd2 a1 x2.length c1 x2, own cd2 a3 x4.length c3 s1]) ((x2.length : Int) - 1).toNat ⟨1, l1, Int.le_refl _, gx9, rfl, H21⟩ ?_
      rintro my1 _ h5 ⟨i1, s1, hloy1', gx9, rfl, H10⟩
      refine Run_seq ?_
      refine Run_seq ?_
      refine Run_reg 4 (by kernel_rfl) (L' := [(0, .slice ac_ c_.length cc_), (4, .slice a1 x2.length c1), (5, .slice a3 x4.length c3), (6, .int .i64 i1), (34, .bool (decide (i1 < (x2.length : Int))))]) ?_ ?_
      · refine QRun_b [.int .i64 i1, .slice a1 x2.length c1, .int .i64 (x2.length : Int), .bool (decide (i1 < (x2.length : Int)))] 0 _ (by kernel_rfl) (fun w => by kernel_rfl) ?_
        exact QRun_done [0, 4, 5, 6, 34] (by kernel_rfl) (by kernel_rfl)
      refine Run_cond (b := decide (i1 < (x2.length : Int))) (by kernel_rfl) (fun hb2 => ?_) (fun hb2 => ?_)
      · obtain ⟨my1, y1, rfl, hB1, hgoy1, houty1⟩ := M.for_go gx9 hb2
        have hlty1 := of_decide_eq_true hb2
        refine Run_skip ?_
        refine Run_seq ?_
        refine Run_block ?_
        refine Run_seq ?_
        obtain ⟨x10, hx9, hB1⟩ := M.bind_some hB1
        obtain ⟨hx9l, hx9u, hx9⟩ := M.idx_some hx9
        obtain ⟨x11, hx10, hB1⟩ := M.bind_some hB1
        obtain ⟨hx10l, hx10u, hx10⟩ := M.idx_some hx10
        refine Run_draw 11 mixed (by kernel_rfl) (by kernel_rfl) (L' := [(0, .slice ac_ c_.length cc_), (4, .slice a1 x2.length c1), (5, .slice a3 x4.length c3), (6, .int .i64 i1), (7, .int .i64 x10), (8, .int .i64 x11)]) ?_ ?_
        · refine QRun_b [.slice a1 x2.length c1, .int .i64 i1, .int .i64 (w64 (i1 - 1))] 0 _ (by kernel_rfl) (fun w => by kernel_rfl) ?_
          refine QRun_y (.pointer (some (adr a1 ((w64 (i1 - 1)).toNat * 1)))) (by kernel_rfl) (Y_idx (t := 22) (e := 2) (sz := 1) (a := a1) (n := x2.length) (cap := c1) (kk := .i64) (i := w64 (i1 - 1)) (by kernel_rfl) Try.underlying22 (by kernel_rfl) ((H10.rd 0 rfl).cell hx9).1 hx9l hx9u) ?_
          refine QRun_y (.int .i64 x10) (by kernel_rfl) (Y_load1 (t := 2) (p := adr a1 ((w64 (i1 - 1)).toNat * 1)) (v := .int .i64 x10) (by kernel_rfl) (fun w => by kernel_rfl) (cd2_cell (H10.rd 0 rfl) hx9)) ?_
          refine QRun_b [.slice a1 x2.length c1, .int .i64 i1] 5 _ (by kernel_rfl) (fun w => by kernel_rfl) ?_
          refine QRun_y (.pointer (some (adr a1 (i1.toNat * 1)))) (by kernel_rfl) (Y_idx (t := 22) (e := 2) (sz := 1) (a := a1) (n := x2.length) (cap := c1) (kk := .i64) (i := i1) (by kernel_rfl) Try.underlying22 (by kernel_rfl) ((H10.rd 0 rfl).cell hx10).1 hx10l hx10u) ?_
          refine QRun_y (.int .i64 x11) (by kernel_rfl) (Y_load1 (t := 2) (p := adr a1 (i1.toNat * 1)) (v := .int .i64 x11) (by kernel_rfl) (fun w => by kernel_rfl) (cd2_cell (H10.rd 0 rfl) hx10)) ?_
          refine QRun_b [.int .i64 x10, .int .i64 x11] 9 _ (by kernel_rfl) (fun w => by kernel_rfl) ?_
          exact QRun_done [0, 4, 5, 6, 7, 8] (by kernel_rfl) (by kernel_rfl)
        refine Run_seq ?_
        refine Run_reg 3 (by kernel_rfl) (L' := [(0, .slice ac_ c_.length cc_), (4, .slice a1 x2.length c1), (5, .slice a3 x4.length c3), (6, .int .i64 i1), (7, .int .i64 x10), (8, .int .i64 x11), (9, .int .i64 (w64 (x10 + 1)))]) ?_ ?_
        · refine QRun_b [.int .i64 x10, .int .i64 (w64 (x10 + 1)), .int .i64 (w64 (x10 + 1))] 0 _ (by kernel_rfl) (fun w => by kernel_rfl) ?_
          exact QRun_done [0, 4, 5, 6, 7, 8, 9] (by kernel_rfl) (by kernel_rfl)
        obtain ⟨x12, gx12, hB1⟩ := M.bind_some hB1
        refine Run_join (fun L' h' => L' = [(0, .slice ac_ c_.length cc_), (4, .slice a1 x2.length c1), (5, .slice a3 x4.length c3), (6, .int .i64 i1)] ∧ Hold h h' [own cd2 a1 x2.length c1 x2, own cd2 a3 x4.length c3 x12.1]) ?_ ?_
        · rintro _ h8 ⟨rfl, H13⟩
          refine Run_blk ?_
          refine Run_reg 3 (by kernel_rfl) (L' := [(0, .slice ac_ c_.length cc_), (4, .slice a1 x2.length c1), (5, .slice a3 x4.length c3), (6, .int .i64 (i1 + 1))]) ?_ ?_
          · refine QRun_b [.int .i64 i1] 0 _ (by kernel_rfl) (fun w => by kernel_rfl) ?_
            refine QRun_y (.int .i64 (i1 + 1)) (by kernel_rfl) (Y_eq (v := .int .i64 (w64 (i1 + 1))) (Y_pure (fun w => by kernel_rfl)) (by rw [w64_eq _ (by omega)])) ?_
            refine QRun_b [.int .i64 (i1 + 1)] 2 _ (by kernel_rfl) (fun w => by kernel_rfl) ?_
            exact QRun_done [0, 4, 5, 6] (by kernel_rfl) (by kernel_rfl)
          have hB1 := M.ret_some hB1
          have gx9 := hgoy1 _ hB1.symm
          exact Run_again [0, 4, 5, 6] (by kernel_rfl) my1 (Nat.lt_succ_self _) ⟨i1 + 1, x12.1, by omega, gx9, rfl, H13⟩
        · refine Run_block ?_
          refine Run_keep [0, 4, 5, 6, 7, 8, 9] (L' := [(0, .slice ac_ c_.length cc_), (4, .slice a1 x2.length c1), (5, .slice a3 x4.length c3), (6, .int .i64 i1), (7, .int .i64 x10), (8, .int .i64 x11), (9, .int .i64 (w64 (x10 + 1)))]) (by kernel_rfl) ?_
          refine Run_loop (fun m L' h' => ∃ (s2 : (List Int) × Int), M.loopN _ n m s2 = some x12 ∧ L' = [(0, .slice ac_ c_.length cc_), (4, .slice a1 x2.length c1), (5, .slice a3 x4.length c3), (6, .int .i64 i1), (7, .int .i64 x10), (8, .int .i64 x11), (9, .int .i64 s2.2)] ∧ Hold h h' [own cd2 a1 x2.length c1 x2, own cd2 a3 x4.length c3 s2.1]) n ⟨(s1, (w64 (x10 + 1))), gx12, rfl, H10⟩ ?_
          rintro my2 _ h7 ⟨s2, gx12, rfl, H12⟩
          obtain ⟨my2, y2, rfl, hB2, hgoy2, houty2⟩ := M.loop_some gx12
          refine Run_seq ?_
          refine Run_seq ?_
          refine Run_reg 3 (by kernel_rfl) (L' := [(0, .slice ac_ c_.length cc_), (4, .slice a1 x2.length c1), (5, .slice a3 x4.length c3), (6, .int .i64 i1), (7, .int .i64 x10), (8, .int .i64 x11), (9, .int .i64 s2.2), (50, .bool (decide (s2.2 ≤ x11)))]) ?_ ?_
          · refine QRun_b [.int .i64 s2.2, .int .i64 x11, .bool (decide (s2.2 ≤ x11))] 0 _ (by kernel_rfl) (fun w => by kernel_rfl) ?_
            exact QRun_done [0, 4, 5, 6, 7, 8, 9, 50] (by kernel_rfl) (by kernel_rfl)
          refine Run_cond (b := decide (s2.2 ≤ x11)) (by kernel_rfl) (fun hb3 => ?_) (fun hb3 => ?_)
          · have hB2 := (M.ite_some hB2).1 hb3
            refine Run_skip ?_
            refine Run_seq ?_
            refine Run_block ?_
            obtain ⟨x13, hx11, hB2⟩ := M.bind_some hB2
            obtain ⟨hx11l, hx11u, hx11⟩ := M.idx_some hx11
            obtain ⟨x14, hx12, hB2⟩ := M.bind_some hB2
            obtain ⟨hx12l, hx12u, hx12⟩ := M.idx_some hx12
            obtain ⟨x15, hx13, hB2⟩ := M.bind_some hB2
            obtain ⟨x16, hx14, hB2⟩ := M.bind_some hB2
            obtain ⟨hx14l, hx14u, hx14⟩ := M.idx_some hx14
            refine Run_D (fun x => Hold h x [own cd2 a1 x2.length c1 x2, own cd2 a3 x4.length c3 s2.1]) (fun x => Hold h x [own cd2 a1 x2.length c1 x2, own cd2 a3 x4.length c3 s2.1]) mixed (by kernel_rfl) H12 Hold.stable (fun x Hy => (show Hold h x [own cd2 a1 x2.length c1 x2, own cd2 a3 x4.length c3 s2.1] from Hy).pick [0, 1] (by kernel_rfl)) ?_
            refine DR_b 21 [.slice a3 x4.length c3, .int .i64 s2.2, .slice ac_ c_.length cc_, .int .i64 x10] 0 (by kernel_rfl) (by kernel_rfl) (by kernel_rfl) (fun w => by kernel_rfl) ?_
            refine DR_y 20 (i := 4) (.pointer (some (adr ac_ (x10.toNat * 1)))) (by kernel_rfl) (by kernel_rfl) (by kernel_rfl) (fun hx Hx => (YE.of (Y_idx (t := 22) (e := 2) (sz := 1) (a := ac_) (n := c_.length) (cap := cc_) (kk := .i64) (i := x10) (by kernel_rfl) Try.underlying22 (by kernel_rfl) ((rc_.at H12.ext).cell hx11).1 hx11l hx11u))) ?_
            refine DR_y 19 (i := 5) (.int .i64 x13) (by kernel_rfl) (by kernel_rfl) (by kernel_rfl) (fun hx Hx => (YE.of (Y_load1 (t := 2) (p := adr ac_ (x10.toNat * 1)) (v := .int .i64 x13) (by kernel_rfl) (fun w => by kernel_rfl) (cd2_cell (rc_.at Hx.ext) hx11)))) ?_
            refine DR_b 13 [.int .i64 x11, .int .i64 s2.2, .int .i64 (w64 (x11 - s2.2)), .int .i64 (w64 (x13 * (w64 (x11 - s2.2)))), .slice ac_ c_.length cc_, .int .i64 x11] 6 (by kernel_rfl) (by kernel_rfl) (by kernel_rfl) (fun w => by kernel_rfl) ?_
            refine DR_y 12 (i := 12) (.pointer (some (adr ac_ (x11.toNat * 1)))) (by kernel_rfl) (by kernel_rfl) (by kernel_rfl) (fun hx Hx => (YE.of (Y_idx (t := 22) (e := 2) (sz := 1) (a := ac_) (n := c_.length) (cap := cc_) (kk := .i64) (i := x11) (by kernel_rfl) Try.underlying22 (by kernel_rfl) ((rc_.at H12.ext).cell hx12).1 hx12l hx12u))) ?_
            refine DR_y 11 (i := 13) (.int .i64 x14) (by kernel_rfl) (by kernel_rfl) (by kernel_rfl) (fun hx Hx => (YE.of (Y_load1 (t := 2) (p := adr ac_ (x11.toNat * 1)) (v := .int .i64 x14) (by kernel_rfl) (fun w => by kernel_rfl) (cd2_cell (rc_.at Hx.ext) hx12)))) ?_
            refine DR_b 3 [.int .i64 s2.2, .int .i64 x10, .int .i64 (w64 (s2.2 - x10)), .int .i64 (w64 (x14 * (w64 (s2.2 - x10)))), .int .i64 (w64 ((w64 (x13 * (w64 (x11 - s2.2)))) + (w64 (x14 * (w64 (s2.2 - x10)))))), .int .i64 x11, .int .i64 x10, .int .i64 (w64 (x11 - x10))] 14 (by kernel_rfl) (by kernel_rfl) (by kernel_rfl) (fun w => by kernel_rfl) ?_
            refine DR_y 2 (i := 22) (.int .i64 x15) (by kernel_rfl) (by kernel_rfl) (by kernel_rfl) (fun hx Hx => (YE.of (Y_callq (f := 84) (args := #[.int .i64 (w64 ((w64 (x13 * (w64 (x11 - s2.2)))) + (w64 (x14 * (w64 (s2.2 - x10)))))), .int .i64 (w64 (x11 - x10))]) (v := .int .i64 x15) (by kernel_rfl) (w_spec_l01Floor hx (w64 ((w64 (x13 * (w64 (x11 - s2.2)))) + (w64 (x14 * (w64 (s2.2 - x10)))))) (w64 (x11 - x10)) _ _ hx13)))) ?_
            refine DR_y 1 (i := 23) (.pointer (some (adr a3 (s2.2.toNat * 1)))) (by kernel_rfl) (by kernel_rfl) (by kernel_rfl) (fun hx Hx => (YE.of (Y_idx (t := 22) (e := 2) (sz := 1) (a := a3) (n := x4.length) (cap := c3) (kk := .i64) (i := s2.2) (by kernel_rfl) Try.underlying22 (by kernel_rfl) ((H12.rd 1 rfl).cell hx14).1 hx14l (by rw [← (H12.len 1 rfl)]; exact hx14u)))) ?_
            refine DR_tail (i := 24) (by kernel_rfl) (by kernel_rfl) (by kernel_rfl) (fun h9 H14 => ?_)
            have H15 : Hold h h9 [own cd2 a1 x2.length c1 x2, own cd2 a3 x4.length c3 s2.1] := H14
            obtain ⟨l2, hu2, hB2⟩ := M.bind_some hB2
            have hu2 := M.upd_some hu2
            have H17 : Hold h h9 [own cd2 a3 x4.length c3 s2.1, own cd2 a1 x2.length c1 x2] := H15.pick [1, 0] (by kernel_rfl)
            refine Run_E (by kernel_rfl) ?_
            refine E_put (C := cd2) (t := 2) (sz := 1) (j := s2.2) (x := x15) (v := .int .i64 x15) H17 cd2_flat (by kernel_rfl) rfl (cd2_own _) (by kernel_rfl) hu2 (fun h10 H16 => ?_)
            refine Run_nil (by kernel_rfl) ?_
            refine Run_keep [0, 4, 5, 6, 7, 8, 9] (L' := [(0, .slice ac_ c_.length cc_), (4, .slice a1 x2.length c1), (5, .slice a3 x4.length c3), (6, .int .i64 i1), (7, .int .i64 x10), (8, .int .i64 x11), (9, .int .i64 s2.2)]) (by kernel_rfl) ?_
            refine Run_blk ?_
            refine Run_reg 3 (by kernel_rfl) (L' := [(0, .slice ac_ c_.length cc_), (4, .slice a1 x2.length c1), (5, .slice a3 x4.length c3), (6, .int .i64 i1), (7, .int .i64 x10), (8, .int .i64 x11), (9, .int .i64 (w64 (s2.2 + 1)))]) ?_ ?_
            · refine QRun_b [.int .i64 s2.2, .int .i64 (w64 (s2.2 + 1)), .int .i64 (w64 (s2.2 + 1))] 0 _ (by kernel_rfl) (fun w => by kernel_rfl) ?_
              exact QRun_done [0, 4, 5, 6, 7, 8, 9] (by kernel_rfl) (by kernel_rfl)
            have H18 : Hold h h10 [own cd2 a1 x2.length c1 x2, own cd2 a3 x4.length c3 l2] := H16.pick [1, 0] (by kernel_rfl)
            have hB2 := M.ret_some hB2
            have gx12 := hgoy2 _ hB2.symm
            exact Run_again [0, 4, 5, 6, 7, 8, 9] (by kernel_rfl) my2 (Nat.lt_succ_self _) ⟨(l2, (w64 (s2.2 + 1))), gx12, rfl, H18⟩
          · have hB2 := (M.ite_some hB2).2 hb3
            refine Run_exit (k' := _) rfl ?_
            have hB2 := M.ret_some hB2
            have gx12 := houty2 _ hB2.symm
            subst gx12
            exact Run_fall [0, 4, 5, 6] (by kernel_rfl) ⟨rfl, H12⟩
      · have gx9 := M.for_end gx9 hb2
        subst gx9
        refine Run_exit (k' := _) rfl ?_
        have H19 : Hold h h5 [own cd2 a3 x4.length c3 s1] := H10.pick [1] (by kernel_rfl)
        exact Run_fall [5] (by kernel_rfl) ⟨rfl, H19⟩

set_option maxRecDepth 100000 in
set_option maxHeartbeats 4000000 in
theorem w_impl_within (h : Heap) (n_ : Int) (low : Int) (high : Int) (n : Nat) (r : Bool) (hF : impl_within n_ low high n = some r) :
    Fn Try.prog 48 #[.int .i64 n_, .int .i64 low, .int .i64 high] h fun v h' => v = .bool r ∧ h' = h := by
  unfold impl_within at hF
  refine Fn_enter (args := [.int .i64 n_, .int .i64 low, .int .i64 high]) Try.func48 rfl (by kernel_rfl) (by kernel_rfl) (fun w0 _ => ?_)
  refine Run_seq ?_
  refine Run_reg 1 (by kernel_rfl) (L' := [(0, .int .i64 n_), (1, .int .i64 low), (2, .int .i64 high)]) ?_ ?_
  · refine QRun_b [.bool false] 0 _ (by kernel_rfl) (fun w => by kernel_rfl) ?_
    exact QRun_done [0, 1, 2] (by kernel_rfl) (by kernel_rfl)
  refine Run_seq ?_
  refine Run_reg 9 (by kernel_rfl) (L' := [(6, .bool ((decide (low ≤ n_)) && (decide (n_ ≤ high))))]) ?_ ?_
  · refine QRun_b [.int .i64 n_, .int .i64 low, .bool (decide (low ≤ n_))] 0 _ (by kernel_rfl) (fun w => by kernel_rfl) ?_
    refine QRun_seq 8 [(14, .bool ((decide (low ≤ n_)) && (decide (n_ ≤ high))))] ?_ ?_
    · rcases Bool.eq_false_or_eq_true (decide (low ≤ n_)) with hb1 | hb1
      · refine QRun_bool (decide (low ≤ n_)) true (by kernel_rfl) (fun w => by kernel_rfl) hb1 ?_
        refine QRun_b [.int .i64 n_, .int .i64 high, .bool (decide (n_ ≤ high))] 4 _ (by kernel_rfl) (fun w => by kernel_rfl) ?_
        refine QRun_bool (decide (n_ ≤ high)) ((decide (low ≤ n_)) && (decide (n_ ≤ high))) (by kernel_rfl) (fun w => by kernel_rfl) (by rw [hb1]; rfl) ?_
        exact QRun_done [14] (by kernel_rfl) (by kernel_rfl)
      · refine QRun_bool (decide (low ≤ n_)) false (by kernel_rfl) (fun w => by kernel_rfl) hb1 ?_
        refine QRun_n (by kernel_rfl) ?_
        refine QRun_n (by kernel_rfl) ?_
        refine QRun_n (by kernel_rfl) ?_
        refine QRun_bool false ((decide (low ≤ n_)) && (decide (n_ ≤ high))) (by kernel_rfl) (fun w => by kernel_rfl) (by rw [hb1]; rfl) ?_
        exact QRun_done [14] (by kernel_rfl) (by kernel_rfl)
    refine QRun_b [.bool ((decide (low ≤ n_)) && (decide (n_ ≤ high)))] 8 _ (by kernel_rfl) (fun w => by kernel_rfl) ?_
    exact QRun_done [6] (by kernel_rfl) (by kernel_rfl)
  have hF := M.ret_some hF
  subst hF
  exact Run_ret1 rfl (ResV_tmp (v := .bool ((decide (low ≤ n_)) && (decide (n_ ≤ high)))) (by kernel_rfl)) ⟨rfl, rfl⟩

set_option maxRecDepth 100000 in
set_option maxHeartbeats 4000000 in
theorem w_impl_isFinite (h : Heap) (n_ : Int) (n : Nat) (r : Bool) (hF : impl_isFinite n_ n = some r) :
    Fn Try.prog 64 #[.int .i64 n_] h fun v h' => v = .bool r ∧ h' = h := by
  unfold impl_isFinite at hF
  refine Fn_enter (args := [.int .i64 n_]) Try.func64 rfl (by kernel_rfl) (by kernel_rfl) (fun w0 _ => ?_)
  refine Run_seq ?_
  refine Run_reg 1 (by kernel_rfl) (L' := [(0, .int .i64 n_)]) ?_ ?_
  · refine QRun_b [.bool false] 0 _ (by kernel_rfl) (fun w => by kernel_rfl) ?_
    exact QRun_done [0] (by kernel_rfl) (by kernel_rfl)
  refine Run_seq ?_
  obtain ⟨x1, hx1, hF⟩ := M.bind_some hF
  refine Run_reg 3 (by kernel_rfl) (L' := [(2, .bool x1)]) ?_ ?_
  · refine QRun_b [.int .i64 n_] 0 _ (by kernel_rfl) (fun w => by kernel_rfl) ?_
    refine QRun_y (.bool x1) (by kernel_rfl) (Y_callq (f := 48) (args := #[.int .i64 n_, .int .i64 (-1000000), .int .i64 1000000]) (v := .bool x1) (by kernel_rfl) (w_impl_within h n_ (-1000000) 1000000 _ _ hx1)) ?_
    refine QRun_b [.bool x1] 2 _ (by kernel_rfl) (fun w => by kernel_rfl) ?_
    exact QRun_done [2] (by kernel_rfl) (by kernel_rfl)
  have hF := M.ret_some hF
  subst hF
  exact Run_ret1 rfl (ResV_tmp (v := .bool x1) (by kernel_rfl)) ⟨rfl, rfl⟩

set_option maxRecDepth 100000 in
set_option maxHeartbeats 4000000 in
theorem w_impl_IsValue (h : Heap) (a_ : Int) (n : Nat) (r : Bool) (hF : impl_IsValue a_ n = some r) :
    Fn Try.prog 70 #[.int .i64 a_] h fun v h' => v = .bool r ∧ h' = h := by
  unfold impl_IsValue at hF
  refine Fn_enter (args := [.int .i64 a_]) Try.func70 rfl (by kernel_rfl) (by kernel_rfl) (fun w0 _ => ?_)
  refine Run_seq ?_
  refine Run_reg 1 (by kernel_rfl) (L' := [(0, .int .i64 a_)]) ?_ ?_
  · refine QRun_b [.bool false] 0 _ (by kernel_rfl) (fun w => by kernel_rfl) ?_
    exact QRun_done [0] (by kernel_rfl) (by kernel_rfl)
  refine Run_seq ?_
  obtain ⟨x1, gx1, hF⟩ := M.bind_some hF
  refine Run_reg 7 (by kernel_rfl) (L' := [(2, .bool x1)]) ?_ ?_
  · refine QRun_b [.int .i64 a_, .bool (a_ == (-1000000000000000))] 0 _ (by kernel_rfl) (fun w => by kernel_rfl) ?_
    refine QRun_seq 6 [(8, .bool x1)] ?_ ?_
    · rcases Bool.eq_false_or_eq_true (a_ == (-1000000000000000)) with hb1 | hb1
      · refine QRun_bool (a_ == (-1000000000000000)) true (by kernel_rfl) (fun w => by kernel_rfl) hb1 ?_
        have gx1 := M.ret_some ((M.ite_some gx1).1 hb1)
        refine QRun_n (by kernel_rfl) ?_
        refine QRun_n (by kernel_rfl) ?_
        refine QRun_bool true x1 (by kernel_rfl) (fun w => by kernel_rfl) gx1 ?_
        exact QRun_done [8] (by kernel_rfl) (by kernel_rfl)
      · refine QRun_bool (a_ == (-1000000000000000)) false (by kernel_rfl) (fun w => by kernel_rfl) hb1 ?_
        have gx1 := (M.ite_some gx1).2 hb1
        obtain ⟨x2, hx1, gx1⟩ := M.bind_some gx1
        have gx1 := M.ret_some gx1
        refine QRun_b [.int .i64 a_] 3 _ (by kernel_rfl) (fun w => by kernel_rfl) ?_
        refine QRun_y (.bool x2) (by kernel_rfl) (Y_callq (f := 64) (args := #[.int .i64 a_]) (v := .bool x2) (by kernel_rfl) (w_impl_isFinite h a_ _ _ hx1)) ?_
        refine QRun_bool x2 x1 (by kernel_rfl) (fun w => by kernel_rfl) gx1 ?_
        exact QRun_done [8] (by kernel_rfl) (by kernel_rfl)
    refine QRun_b [.bool x1] 6 _ (by kernel_rfl) (fun w => by kernel_rfl) ?_
    exact QRun_done [2] (by kernel_rfl) (by kernel_rfl)
  have hF := M.ret_some hF
  subst hF
  exact Run_ret1 rfl (ResV_tmp (v := .bool x1) (by kernel_rfl)) ⟨rfl, rfl⟩

set_option maxRecDepth 100000 in
set_option maxHeartbeats 4000000 in
theorem w_impl_areValues_1 (h : Heap) (n_ : Int) (n : Nat) (r : Bool) (hF : impl_areValues_1 n_ n = some r) :
    Fn Try.prog 89 #[.int .i64 n_] h fun v h' => v = .bool r ∧ h' = h := by
  unfold impl_areValues_1 at hF
  refine Fn_enter (args := [.int .i64 n_]) Try.func89 rfl (by kernel_rfl) (by kernel_rfl) (fun w0 _ => ?_)
  refine Run_seq ?_
  refine Run_reg 1 (by kernel_rfl) (L' := [(0, .int .i64 n_)]) ?_ ?_
  · refine QRun_b [.bool false] 0 _ (by kernel_rfl) (fun w => by kernel_rfl) ?_
    exact QRun_done [0] (by kernel_rfl) (by kernel_rfl)
  refine Run_seq ?_
  obtain ⟨x1, hx1, hF⟩ := M.bind_some hF
  refine Run_reg 4 (by kernel_rfl) (L' := [(2, .bool (!x1))]) ?_ ?_
  · refine QRun_b [.int .i64 n_] 0 _ (by kernel_rfl) (fun w => by kernel_rfl) ?_
    refine QRun_y (.bool x1) (by kernel_rfl) (Y_callq (f := 70) (args := #[.int .i64 n_]) (v := .bool x1) (by kernel_rfl) (w_impl_IsValue h n_ _ _ hx1)) ?_
    refine QRun_b [.bool (!x1), .bool (!x1)] 2 _ (by kernel_rfl) (fun w => by kernel_rfl) ?_
    exact QRun_done [2] (by kernel_rfl) (by kernel_rfl)
  have hF := M.ret_some hF
  subst hF
  exact Run_ret1 rfl (ResV_tmp (v := .bool (!x1)) (by kernel_rfl)) ⟨rfl, rfl⟩

set_option maxRecDepth 100000 in
set_option maxHeartbeats 4000000 in
theorem w_slices_IndexFunc_int_F_impl_areValues_1 (h : Heap) (s_ : List Int) {Ss_ : Bs} (as_ : Option Addr) (cs_ : Nat) (rs_ : Rd cd2 h Ss_ as_ cs_ s_) (n : Nat) (r : Int) (hF : slices_IndexFunc_int_F_impl_areValues_1 s_ n = some r) :
    Fn Try.prog 96 #[.slice as_ s_.length cs_, .func (.func 89) #[] #[]] h fun v h' => v = .int .i64 r ∧ h' = h := by
  unfold slices_IndexFunc_int_F_impl_areValues_1 at hF
  refine Fn_enter (args := [.slice as_ s_.length cs_, .func (.func 89) #[] #[]]) Try.func96 rfl (by kernel_rfl) (by kernel_rfl) (fun w0 _ => ?_)
  refine Run_seq ?_
  refine Run_reg 1 (by kernel_rfl) (L' := [(0, .slice as_ s_.length cs_), (1, .func (.func 89) #[] #[])]) ?_ ?_
  · refine QRun_b [.int .i64 0] 0 _ (by kernel_rfl) (fun w => by kernel_rfl) ?_
    exact QRun_done [0, 1] (by kernel_rfl) (by kernel_rfl)
  refine Run_seq ?_
  refine Run_seq ?_
  refine Run_reg 3 (by kernel_rfl) (L' := [(0, .slice as_ s_.length cs_), (1, .func (.func 89) #[] #[]), (7, .int .i64 (s_.length : Int)), (8, .int .i64 0)]) ?_ ?_
  · refine QRun_b [.slice as_ s_.length cs_, .int .i64 (s_.length : Int), .int .i64 0] 0 _ (by kernel_rfl) (fun w => by kernel_rfl) ?_
    exact QRun_done [0, 1, 7, 8] (by kernel_rfl) (by kernel_rfl)
  obtain ⟨x1, gx1, hF⟩ := M.bind_some hF
  obtain ⟨hloy1, hhiy1, gx1⟩ := M.for_start gx1
  refine Run_join (fun L' h' => ∃ (s2 : Unit), x1 = .inl s2 ∧ L' = [] ∧ h = h') ?_ ?_
  · rintro _ _ ⟨s2, es2, rfl, rfl⟩
    have hF := M.cont_inl' hF es2
    refine Run_seq ?_
    refine Run_reg 1 (by kernel_rfl) (L' := [(4, .int .i64 (-1))]) ?_ ?_
    · refine QRun_b [.int .i64 (-1)] 0 _ (by kernel_rfl) (fun w => by kernel_rfl) ?_
      exact QRun_done [4] (by kernel_rfl) (by kernel_rfl)
    have hF := M.ret_some hF
    subst hF
    exact Run_ret1 rfl (ResV_tmp (v := .int .i64 (-1)) (by kernel_rfl)) ⟨rfl, rfl⟩
  · refine Run_block ?_
    refine Run_keep [0, 1, 7, 8] (L' := [(0, .slice as_ s_.length cs_), (1, .func (.func 89) #[] #[]), (7, .int .i64 (s_.length : Int)), (8, .int .i64 0)]) (by kernel_rfl) ?_
    refine Run_loop (fun m L' h' => ∃ (i1 : Int) (s1 : Unit), 0 ≤ i1 ∧ M.forN (s_.length : Int) _ _ n m i1 s1 = some x1 ∧ L' = [(0, .slice as_ s_.length cs_), (1, .func (.func 89) #[] #[]), (7, .int .i64 (s_.length : Int)), (8, .int .i64 i1)] ∧ h = h') ((s_.length : Int) - 0).toNat ⟨0, (), Int.le_refl _, gx1, rfl, rfl⟩ ?_
    rintro my1 _ _ ⟨i1, s1, hloy1', gx1, rfl, rfl⟩
    refine Run_seq ?_
    refine Run_reg 1 (by kernel_rfl) (L' := [(0, .slice as_ s_.length cs_), (1, .func (.func 89) #[] #[]), (7, .int .i64 (s_.length : Int)), (8, .int .i64 i1), (9, .bool (decide (i1 < (s_.length : Int))))]) ?_ ?_
    · refine QRun_b [.bool (decide (i1 < (s_.length : Int)))] 0 _ (by kernel_rfl) (fun w => by kernel_rfl) ?_
      exact QRun_done [0, 1, 7, 8, 9] (by kernel_rfl) (by kernel_rfl)
    refine Run_seq ?_
    refine Run_cond (b := decide (i1 < (s_.length : Int))) (by kernel_rfl) (fun hb1 => ?_) (fun hb1 => ?_)
    · obtain ⟨my1, y1, rfl, hB1, hgoy1, houty1⟩ := M.for_go gx1 hb1
      have hlty1 := of_decide_eq_true hb1
      refine Run_skip ?_
      refine Run_seq ?_
      refine Run_block ?_
      refine Run_seq ?_
      refine Run_reg 2 (by kernel_rfl) (L' := [(0, .slice as_ s_.length cs_), (1, .func (.func 89) #[] #[]), (5, .int .i64 i1), (7, .int .i64 (s_.length : Int)), (8, .int .i64 i1)]) ?_ ?_
      · refine QRun_b [.int .i64 i1, .int .i64 i1] 0 _ (by kernel_rfl) (fun w => by kernel_rfl) ?_
        exact QRun_done [0, 1, 5, 7, 8] (by kernel_rfl) (by kernel_rfl)
      refine Run_seq ?_
      obtain ⟨x2, hx1, hB1⟩ := M.bind_some hB1
      obtain ⟨hx1l, hx1u, hx1⟩ := M.idx_some hx1
      obtain ⟨x3, hx2, hB1⟩ := M.bind_some hB1
      refine Run_reg 6 (by kernel_rfl) (L' := [(0, .slice as_ s_.length cs_), (1, .func (.func 89) #[] #[]), (5, .int .i64 i1), (7, .int .i64 (s_.length : Int)), (8, .int .i64 i1), (16, .bool x3)]) ?_ ?_
      · refine QRun_b [.func (.func 89) #[] #[], .slice as_ s_.length cs_, .int .i64 i1] 0 _ (by kernel_rfl) (fun w => by kernel_rfl) ?_
        refine QRun_y (.pointer (some (adr as_ (i1.toNat * 1)))) (by kernel_rfl) (Y_idx (t := 22) (e := 2) (sz := 1) (a := as_) (n := s_.length) (cap := cs_) (kk := .i64) (i := i1) (by kernel_rfl) Try.underlying22 (by kernel_rfl) (rs_.cell hx1).1 hx1l hx1u) ?_
        refine QRun_y (.int .i64 x2) (by kernel_rfl) (Y_load1 (t := 2) (p := adr as_ (i1.toNat * 1)) (v := .int .i64 x2) (by kernel_rfl) (fun w => by kernel_rfl) (cd2_cell rs_ hx1)) ?_
        refine QRun_y (.bool x3) (by kernel_rfl) (Y_callq (f := 89) (args := #[.int .i64 x2]) (v := .bool x3) (by kernel_rfl) (w_impl_areValues_1 h x2 _ _ hx2)) ?_
        exact QRun_done [0, 1, 5, 7, 8, 16] (by kernel_rfl) (by kernel_rfl)
      refine Run_cond (b := x3) (by kernel_rfl) (fun hb2 => ?_) (fun hb2 => ?_)
      · have hB1 := (M.ite_some hB1).1 hb2
        refine Run_seq ?_
        refine Run_reg 2 (by kernel_rfl) (L' := [(4, .int .i64 i1)]) ?_ ?_
        · refine QRun_b [.int .i64 i1, .int .i64 i1] 0 _ (by kernel_rfl) (fun w => by kernel_rfl) ?_
          exact QRun_done [4] (by kernel_rfl) (by kernel_rfl)
        have hB1 := M.ret_some hB1
        have gx1 := houty1 _ hB1.symm
        have hF := M.cont_inr' hF gx1
        have hF := M.ret_some hF
        subst hF
        exact Run_ret1 rfl (ResV_tmp (v := .int .i64 i1) (by kernel_rfl)) ⟨rfl, rfl⟩
      · have hB1 := (M.ite_some hB1).2 hb2
        refine Run_skip ?_
        refine Run_blk ?_
        refine Run_reg 2 (by kernel_rfl) (L' := [(0, .slice as_ s_.length cs_), (1, .func (.func 89) #[] #[]), (7, .int .i64 (s_.length : Int)), (8, .int .i64 (i1 + 1))]) ?_ ?_
        · refine QRun_y (.int .i64 (i1 + 1)) (by kernel_rfl) (Y_eq (v := .int .i64 (w64 (i1 + 1))) (Y_pure (fun w => by kernel_rfl)) (by rw [w64_eq _ (by omega)])) ?_
          refine QRun_b [.int .i64 (i1 + 1)] 1 _ (by kernel_rfl) (fun w => by kernel_rfl) ?_
          exact QRun_done [0, 1, 7, 8] (by kernel_rfl) (by kernel_rfl)
        have hB1 := M.ret_some hB1
        have gx1 := hgoy1 _ hB1.symm
        exact Run_again [0, 1, 7, 8] (by kernel_rfl) my1 (Nat.lt_succ_self _) ⟨i1 + 1, (), by omega, gx1, rfl, rfl⟩
    · have gx1 := M.for_end gx1 hb1
      subst gx1
      refine Run_exit (k' := _) rfl ?_
      exact Run_fall [] (by kernel_rfl) ⟨(), rfl, rfl, rfl⟩

set_option maxRecDepth 100000 in
set_option maxHeartbeats 4000000 in
theorem w_slices_ContainsFunc_int_F_impl_areValues_1 (h : Heap) (s_ : List Int) {Ss_ : Bs} (as_ : Option Addr) (cs_ : Nat) (rs_ : Rd cd2 h Ss_ as_ cs_ s_) (n : Nat) (r : Bool) (hF : slices_ContainsFunc_int_F_impl_areValues_1 s_ n = some r) :
    Fn Try.prog 82 #[.slice as_ s_.length cs_, .func (.func 89) #[] #[]] h fun v h' => v = .bool r ∧ h' = h := by
  unfold slices_ContainsFunc_int_F_impl_areValues_1 at hF
  refine Fn_enter (args := [.slice as_ s_.length cs_, .func (.func 89) #[] #[]]) Try.func82 rfl (by kernel_rfl) (by kernel_rfl) (fun w0 _ => ?_)
  refine Run_seq ?_
  refine Run_reg 1 (by kernel_rfl) (L' := [(0, .slice as_ s_.length cs_), (1, .func (.func 89) #[] #[])]) ?_ ?_
  · refine QRun_b [.bool false] 0 _ (by kernel_rfl) (fun w => by kernel_rfl) ?_
    exact QRun_done [0, 1] (by kernel_rfl) (by kernel_rfl)
  refine Run_seq ?_
  obtain ⟨x1, hx1, hF⟩ := M.bind_some hF
  refine Run_reg 5 (by kernel_rfl) (L' := [(4, .bool (decide (0 ≤ x1)))]) ?_ ?_
  · refine QRun_b [.slice as_ s_.length cs_, .func (.func 89) #[] #[]] 0 _ (by kernel_rfl) (fun w => by kernel_rfl) ?_
    refine QRun_y (.int .i64 x1) (by kernel_rfl) (Y_callq (f := 96) (args := #[.slice as_ s_.length cs_, .func (.func 89) #[] #[]]) (v := .int .i64 x1) (by kernel_rfl) (w_slices_IndexFunc_int_F_impl_areValues_1 h s_ as_ cs_ rs_ _ _ hx1)) ?_
    refine QRun_b [.bool (decide (0 ≤ x1)), .bool (decide (0 ≤ x1))] 3 _ (by kernel_rfl) (fun w => by kernel_rfl) ?_
    exact QRun_done [4] (by kernel_rfl) (by kernel_rfl)
  have hF := M.ret_some hF
  subst hF
  exact Run_ret1 rfl (ResV_tmp (v := .bool (decide (0 ≤ x1))) (by kernel_rfl)) ⟨rfl, rfl⟩

set_option maxRecDepth 100000 in
set_option maxHeartbeats 4000000 in
theorem w_impl_areValues (h : Heap) (list : List Int) {Slist : Bs} (alist : Option Addr) (clist : Nat) (rlist : Rd cd2 h Slist alist clist list) (n : Nat) (r : Bool) (hF : impl_areValues list n = some r) :
    Fn Try.prog 49 #[.slice alist list.length clist] h fun v h' => v = .bool r ∧ h' = h := by
  unfold impl_areValues at hF
  refine Fn_enter (args := [.slice alist list.length clist]) Try.func49 rfl (by kernel_rfl) (by kernel_rfl) (fun w0 _ => ?_)
  refine Run_seq ?_
  refine Run_reg 1 (by kernel_rfl) (L' := [(0, .slice alist list.length clist)]) ?_ ?_
  · refine QRun_b [.bool false] 0 _ (by kernel_rfl) (fun w => by kernel_rfl) ?_
    exact QRun_done [0] (by kernel_rfl) (by kernel_rfl)
  refine Run_seq ?_
  obtain ⟨x1, hx1, hF⟩ := M.bind_some hF
  refine Run_reg 4 (by kernel_rfl) (L' := [(2, .bool (!x1))]) ?_ ?_
  · refine QRun_b [.slice alist list.length clist] 0 _ (by kernel_rfl) (fun w => by kernel_rfl) ?_
    refine QRun_y (.bool x1) (by kernel_rfl) (Y_callq (f := 82) (args := #[.slice alist list.length clist, .func (.func 89) #[] #[]]) (v := .bool x1) (by kernel_rfl) (w_slices_ContainsFunc_int_F_impl_areValues_1 h list alist clist rlist _ _ hx1)) ?_
    refine QRun_b [.bool (!x1), .bool (!x1)] 2 _ (by kernel_rfl) (fun w => by kernel_rfl) ?_
    exact QRun_done [2] (by kernel_rfl) (by kernel_rfl)
  have hF := M.ret_some hF
  subst hF
  exact Run_ret1 rfl (ResV_tmp (v := .bool (!x1)) (by kernel_rfl)) ⟨rfl, rfl⟩

set_option maxRecDepth 100000 in
set_option maxHeartbeats 4000000 in
theorem w_impl_sumOf (h : Heap) (list : List Int) {Slist : Bs} (alist : Option Addr) (clist : Nat) (rlist : Rd cd2 h Slist alist clist list) (n : Nat) (r : Int) (hF : impl_sumOf list n = some r) :
    Fn Try.prog 50 #[.slice alist list.length clist] h fun v h' => v = .int .i64 r ∧ h' = h := by
  unfold impl_sumOf at hF
  refine Fn_enter (args := [.slice alist list.length clist]) Try.func50 rfl (by kernel_rfl) (by kernel_rfl) (fun w0 _ => ?_)
  refine Run_seq ?_
  refine Run_reg 1 (by kernel_rfl) (L' := [(0, .slice alist list.length clist)]) ?_ ?_
  · refine QRun_b [.int .i64 0] 0 _ (by kernel_rfl) (fun w => by kernel_rfl) ?_
    exact QRun_done [0] (by kernel_rfl) (by kernel_rfl)
  refine Run_seq ?_
  refine Run_reg 1 (by kernel_rfl) (L' := [(0, .slice alist list.length clist), (3, .int .i64 (-1000000000000000))]) ?_ ?_
  · refine QRun_b [.int .i64 (-1000000000000000)] 0 _ (by kernel_rfl) (fun w => by kernel_rfl) ?_
    exact QRun_done [0, 3] (by kernel_rfl) (by kernel_rfl)
  refine Run_seq ?_
  refine Run_seq ?_
  refine Run_reg 3 (by kernel_rfl) (L' := [(3, .int .i64 (-1000000000000000)), (6, .slice alist list.length clist), (7, .int .i64 (list.length : Int)), (8, .int .i64 0)]) ?_ ?_
  · refine QRun_b [.slice alist list.length clist, .int .i64 (list.length : Int), .int .i64 0] 0 _ (by kernel_rfl) (fun w => by kernel_rfl) ?_
    exact QRun_done [3, 6, 7, 8] (by kernel_rfl) (by kernel_rfl)
  obtain ⟨x1, gx1, hF⟩ := M.bind_some hF
  obtain ⟨hloy1, hhiy1, gx1⟩ := M.for_start gx1
  refine Run_join (fun L' h' => L' = [(3, .int .i64 x1)] ∧ h = h') ?_ ?_
  · rintro _ _ ⟨rfl, rfl⟩
    refine Run_seq ?_
    refine Run_reg 2 (by kernel_rfl) (L' := [(2, .int .i64 x1)]) ?_ ?_
    · refine QRun_b [.int .i64 x1, .int .i64 x1] 0 _ (by kernel_rfl) (fun w => by kernel_rfl) ?_
      exact QRun_done [2] (by kernel_rfl) (by kernel_rfl)
    have hF := M.ret_some hF
    subst hF
    exact Run_ret1 rfl (ResV_tmp (v := .int .i64 x1) (by kernel_rfl)) ⟨rfl, rfl⟩
  · refine Run_block ?_
    refine Run_keep [3, 6, 7, 8] (L' := [(3, .int .i64 (-1000000000000000)), (6, .slice alist list.length clist), (7, .int .i64 (list.length : Int)), (8, .int .i64 0)]) (by kernel_rfl) ?_
    refine Run_loop (fun m L' h' => ∃ (i1 : Int) (s1 : Int), 0 ≤ i1 ∧ M.forN (list.length : Int) _ _ n m i1 s1 = some x1 ∧ L' = [(3, .int .i64 s1), (6, .slice alist list.length clist), (7, .int .i64 (list.length : Int)), (8, .int .i64 i1)] ∧ h = h') ((list.length : Int) - 0).toNat ⟨0, (-1000000000000000), Int.le_refl _, gx1, rfl, rfl⟩ ?_
    rintro my1 _ _ ⟨i1, s1, hloy1', gx1, rfl, rfl⟩
    refine Run_seq ?_
    refine Run_reg 1 (by kernel_rfl) (L' := [(3, .int .i64 s1), (6, .slice alist list.length clist), (7, .int .i64 (list.length : Int)), (8, .int .i64 i1), (9, .bool (decide (i1 < (list.length : Int))))]) ?_ ?_
    · refine QRun_b [.bool (decide (i1 < (list.length : Int)))] 0 _ (by kernel_rfl) (fun w => by kernel_rfl) ?_
      exact QRun_done [3, 6, 7, 8, 9] (by kernel_rfl) (by kernel_rfl)
    refine Run_seq ?_
    refine Run_cond (b := decide (i1 < (list.length : Int))) (by kernel_rfl) (fun hb1 => ?_) (fun hb1 => ?_)
    · obtain ⟨my1, y1, rfl, hB1, hgoy1, houty1⟩ := M.for_go gx1 hb1
      have hlty1 := of_decide_eq_true hb1
      refine Run_skip ?_
      refine Run_seq ?_
      refine Run_block ?_
      refine Run_seq ?_
      obtain ⟨x2, hx1, hB1⟩ := M.bind_some hB1
      obtain ⟨hx1l, hx1u, hx1⟩ := M.idx_some hx1
      refine Run_reg 3 (by kernel_rfl) (L' := [(3, .int .i64 s1), (5, .int .i64 x2), (6, .slice alist list.length clist), (7, .int .i64 (list.length : Int)), (8, .int .i64 i1)]) ?_ ?_
      · refine QRun_y (.pointer (some (adr alist (i1.toNat * 1)))) (by kernel_rfl) (Y_idx (t := 22) (e := 2) (sz := 1) (a := alist) (n := list.length) (cap := clist) (kk := .i64) (i := i1) (by kernel_rfl) Try.underlying22 (by kernel_rfl) (rlist.cell hx1).1 hx1l hx1u) ?_
        refine QRun_y (.int .i64 x2) (by kernel_rfl) (Y_load1 (t := 2) (p := adr alist (i1.toNat * 1)) (v := .int .i64 x2) (by kernel_rfl) (fun w => by kernel_rfl) (cd2_cell rlist hx1)) ?_
        refine QRun_b [.int .i64 x2] 2 _ (by kernel_rfl) (fun w => by kernel_rfl) ?_
        exact QRun_done [3, 5, 6, 7, 8] (by kernel_rfl) (by kernel_rfl)
      refine Run_reg 4 (by kernel_rfl) (L' := [(3, .int .i64 (mx s1 x2)), (6, .slice alist list.length clist), (7, .int .i64 (list.length : Int)), (8, .int .i64 i1)]) ?_ ?_
      · refine QRun_b [.int .i64 s1, .int .i64 x2, .int .i64 (mx s1 x2), .int .i64 (mx s1 x2)] 0 _ (by kernel_rfl) (fun w => by kernel_rfl) ?_
        exact QRun_done [3, 6, 7, 8] (by kernel_rfl) (by kernel_rfl)
      refine Run_blk ?_
      refine Run_reg 2 (by kernel_rfl) (L' := [(3, .int .i64 (mx s1 x2)), (6, .slice alist list.length clist), (7, .int .i64 (list.length : Int)), (8, .int .i64 (i1 + 1))]) ?_ ?_
      · refine QRun_y (.int .i64 (i1 + 1)) (by kernel_rfl) (Y_eq (v := .int .i64 (w64 (i1 + 1))) (Y_pure (fun w => by kernel_rfl)) (by rw [w64_eq _ (by omega)])) ?_
        refine QRun_b [.int .i64 (i1 + 1)] 1 _ (by kernel_rfl) (fun w => by kernel_rfl) ?_
        exact QRun_done [3, 6, 7, 8] (by kernel_rfl) (by kernel_rfl)
      have hB1 := M.ret_some hB1
      have gx1 := hgoy1 _ hB1.symm
      exact Run_again [3, 6, 7, 8] (by kernel_rfl) my1 (Nat.lt_succ_self _) ⟨i1 + 1, (mx s1 x2), by omega, gx1, rfl, rfl⟩
    · have gx1 := M.for_end gx1 hb1
      subst gx1
      refine Run_exit (k' := _) rfl ?_
      exact Run_fall [3] (by kernel_rfl) ⟨rfl, rfl⟩

set_option maxRecDepth 100000 in
set_option maxHeartbeats 4000000 in
theorem w_impl_IsPolynomial (h : Heap) (c_ : List Int) {Sc_ : Bs} (ac_ : Option Addr) (cc_ : Nat) (rc_ : Rd cd2 h Sc_ ac_ cc_ c_) (n : Nat) (r : Bool) (hF : impl_IsPolynomial c_ n = some r) :
    Fn Try.prog 16 #[.slice ac_ c_.length cc_] h fun v h' => v = .bool r ∧ h' = h := by
  unfold impl_IsPolynomial at hF
  refine Fn_enter (args := [.slice ac_ c_.length cc_]) Try.func16 rfl (by kernel_rfl) (by kernel_rfl) (fun w0 _ => ?_)
  refine Run_seq ?_
  refine Run_reg 1 (by kernel_rfl) (L' := [(0, .slice ac_ c_.length cc_)]) ?_ ?_
  · refine QRun_b [.bool false] 0 _ (by kernel_rfl) (fun w => by kernel_rfl) ?_
    exact QRun_done [0] (by kernel_rfl) (by kernel_rfl)
  refine Run_seq ?_
  obtain ⟨x1, hx1, hF⟩ := M.bind_some hF
  obtain ⟨x2, gx2, hF⟩ := M.bind_some hF
  obtain ⟨x4, gx4, hF⟩ := M.bind_some hF
  refine Run_reg 13 (by kernel_rfl) (L' := [(2, .bool x4)]) ?_ ?_
  · refine QRun_b [.slice ac_ c_.length cc_, .int .i64 (c_.length : Int)] 0 _ (by kernel_rfl) (fun w => by kernel_rfl) ?_
    refine QRun_y (.bool x1) (by kernel_rfl) (Y_callq (f := 48) (args := #[.int .i64 (c_.length : Int), .int .i64 1, .int .i64 12]) (v := .bool x1) (by kernel_rfl) (w_impl_within h (c_.length : Int) 1 12 _ _ hx1)) ?_
    refine QRun_seq 7 [(0, .slice ac_ c_.length cc_), (9, .bool x2)] ?_ ?_
    · rcases Bool.eq_false_or_eq_true x1 with hb1 | hb1
      · refine QRun_bool x1 true (by kernel_rfl) (fun w => by kernel_rfl) hb1 ?_
        have gx2 := (M.ite_some gx2).1 hb1
        obtain ⟨x3, hx2, gx2⟩ := M.bind_some gx2
        have gx2 := M.ret_some gx2
        refine QRun_b [.slice ac_ c_.length cc_] 4 _ (by kernel_rfl) (fun w => by kernel_rfl) ?_
        refine QRun_y (.bool x3) (by kernel_rfl) (Y_callq (f := 49) (args := #[.slice ac_ c_.length cc_]) (v := .bool x3) (by kernel_rfl) (w_impl_areValues h c_ ac_ cc_ rc_ _ _ hx2)) ?_
        refine QRun_bool x3 x2 (by kernel_rfl) (fun w => by kernel_rfl) gx2 ?_
        exact QRun_done [0, 9] (by kernel_rfl) (by kernel_rfl)
      · refine QRun_bool x1 false (by kernel_rfl) (fun w => by kernel_rfl) hb1 ?_
        have gx2 := M.ret_some ((M.ite_some gx2).2 hb1)
        refine QRun_n (by kernel_rfl) ?_
        refine QRun_n (by kernel_rfl) ?_
        refine QRun_bool false x2 (by kernel_rfl) (fun w => by kernel_rfl) gx2 ?_
        exact QRun_done [0, 9] (by kernel_rfl) (by kernel_rfl)
    refine QRun_seq 12 [(14, .bool x4)] ?_ ?_
    · rcases Bool.eq_false_or_eq_true x2 with hb2 | hb2
      · refine QRun_bool x2 true (by kernel_rfl) (fun w => by kernel_rfl) hb2 ?_
        have gx4 := (M.ite_some gx4).1 hb2
        obtain ⟨x5, hx3, gx4⟩ := M.bind_some gx4
        have gx4 := M.ret_some gx4
        refine QRun_b [.slice ac_ c_.length cc_] 8 _ (by kernel_rfl) (fun w => by kernel_rfl) ?_
        refine QRun_y (.int .i64 x5) (by kernel_rfl) (Y_callq (f := 50) (args := #[.slice ac_ c_.length cc_]) (v := .int .i64 x5) (by kernel_rfl) (w_impl_sumOf h c_ ac_ cc_ rc_ _ _ hx3)) ?_
        refine QRun_b [.bool (x5 != (-1000000000000000))] 10 _ (by kernel_rfl) (fun w => by kernel_rfl) ?_
        refine QRun_bool (x5 != (-1000000000000000)) x4 (by kernel_rfl) (fun w => by kernel_rfl) gx4 ?_
        exact QRun_done [14] (by kernel_rfl) (by kernel_rfl)
      · refine QRun_bool x2 false (by kernel_rfl) (fun w => by kernel_rfl) hb2 ?_
        have gx4 := M.ret_some ((M.ite_some gx4).2 hb2)
        refine QRun_n (by kernel_rfl) ?_
        refine QRun_n (by kernel_rfl) ?_
        refine QRun_n (by kernel_rfl) ?_
        refine QRun_bool false x4 (by kernel_rfl) (fun w => by kernel_rfl) gx4 ?_
        exact QRun_done [14] (by kernel_rfl) (by kernel_rfl)
    refine QRun_b [.bool x4] 12 _ (by kernel_rfl) (fun w => by kernel_rfl) ?_
    exact QRun_done [2] (by kernel_rfl) (by kernel_rfl)
  have hF := M.ret_some hF
  subst hF
  exact Run_ret1 rfl (ResV_tmp (v := .bool x4) (by kernel_rfl)) ⟨rfl, rfl⟩

set_option maxRecDepth 100000 in
set_option maxHeartbeats 4000000 in
theorem w_impl_essentialTerms (h : Heap) (c_ : List Int) (ac_ : Option Addr) (cc_ : Nat) (rc_ : Rd cd2 h (Lt h) ac_ cc_ c_) (n : Nat) (r : (List Int)) (hF : impl_essentialTerms c_ n = some r) :
    Fn Try.prog 74 #[.slice ac_ c_.length cc_] h fun v h' => ∃ (a0 : Option Addr) (c0 : Nat), v = .slice a0 r.length c0 ∧ Hold h h' [own cd2 a0 r.length c0 r] := by
  unfold impl_essentialTerms at hF
  refine Fn_enter (args := [.slice ac_ c_.length cc_]) Try.func74 rfl (by kernel_rfl) (by kernel_rfl) (fun w0 _ => ?_)
  have H0 := Hold.init h
  refine Run_seq ?_
  refine Run_reg 1 (by kernel_rfl) (L' := [(0, .slice ac_ c_.length cc_)]) ?_ ?_
  · refine QRun_b [.slice none 0 0] 0 _ (by kernel_rfl) (fun w => by kernel_rfl) ?_
    exact QRun_done [0] (by kernel_rfl) (by kernel_rfl)
  refine Run_seq ?_
  refine Run_reg 1 (by kernel_rfl) (L' := [(0, .slice ac_ c_.length cc_), (3, .slice none 0 0)]) ?_ ?_
  · refine QRun_b [.slice none 0 0] 0 _ (by kernel_rfl) (fun w => by kernel_rfl) ?_
    exact QRun_done [0, 3] (by kernel_rfl) (by kernel_rfl)
  refine Run_seq ?_
  refine Run_seq ?_
  refine Run_reg 3 (by kernel_rfl) (L' := [(0, .slice ac_ c_.length cc_), (3, .slice none 0 0), (9, .slice ac_ c_.length cc_), (10, .int .i64 (c_.length : Int)), (11, .int .i64 0)]) ?_ ?_
  · refine QRun_b [.slice ac_ c_.length cc_, .int .i64 (c_.length : Int), .int .i64 0] 0 _ (by kernel_rfl) (fun w => by kernel_rfl) ?_
    exact QRun_done [0, 3, 9, 10, 11] (by kernel_rfl) (by kernel_rfl)
  obtain ⟨x1, gx1, hF⟩ := M.bind_some hF
  obtain ⟨hloy1, hhiy1, gx1⟩ := M.for_start gx1
  refine Run_join (fun L' h' => ∃ (a2 : Option Addr) (c2 : Nat), L' = [(3, .slice a2 x1.length c2)] ∧ Hold h h' [own cd2 a2 x1.length c2 x1]) ?_ ?_
  · rintro _ h2 ⟨a2, c2, rfl, H2⟩
    refine Run_seq ?_
    refine Run_reg 2 (by kernel_rfl) (L' := [(2, .slice a2 x1.length c2)]) ?_ ?_
    · refine QRun_b [.slice a2 x1.length c2, .slice a2 x1.length c2] 0 _ (by kernel_rfl) (fun w => by kernel_rfl) ?_
      exact QRun_done [2] (by kernel_rfl) (by kernel_rfl)
    have hF := M.ret_some hF
    subst hF
    exact Run_ret1 rfl (ResV_tmp (v := .slice a2 x1.length c2) (by kernel_rfl)) ⟨a2, c2, rfl, H2⟩
  · refine Run_block ?_
    have H13 := H0.empty cd2
    refine Run_keep [0, 3, 9, 10, 11] (L' := [(0, .slice ac_ c_.length cc_), (3, .slice none 0 0), (9, .slice ac_ c_.length cc_), (10, .int .i64 (c_.length : Int)), (11, .int .i64 0)]) (by kernel_rfl) ?_
    refine Run_loop (fun m L' h' => ∃ (i1 : Int) (s1 : (List Int)) (a1 : Option Addr) (c1 : Nat), 0 ≤ i1 ∧ M.forN (c_.length : Int) _ _ n m i1 s1 = some x1 ∧ L' = [(0, .slice ac_ c_.length cc_), (3, .slice a1 s1.length c1), (9, .slice ac_ c_.length cc_), (10, .int .i64 (c_.length : Int)), (11, .int .i64 i1)] ∧ Hold h h' [own cd2 a1 s1.length c1 s1]) ((c_.length : Int) - 0).toNat ⟨0, [], none, 0, Int.le_refl _, gx1, rfl, H13⟩ ?_
    rintro my1 _ h1 ⟨i1, s1, a1, c1, hloy1', gx1, rfl, H1⟩
    refine Run_seq ?_
    refine Run_reg 1 (by kernel_rfl) (L' := [(0, .slice ac_ c_.length cc_), (3, .slice a1 s1.length c1), (9, .slice ac_ c_.length cc_), (10, .int .i64 (c_.length : Int)), (11, .int .i64 i1), (12, .bool (decide (i1 < (c_.length : Int))))]) ?_ ?_
    · refine QRun_b [.bool (decide (i1 < (c_.length : Int)))] 0 _ (by kernel_rfl) (fun w => by kernel_rfl) ?_
      exact QRun_done [0, 3, 9, 10, 11, 12] (by kernel_rfl) (by kernel_rfl)
    refine Run_seq ?_
    refine Run_cond (b := decide (i1 < (c_.length : Int))) (by kernel_rfl) (fun hb1 => ?_) (fun hb1 => ?_)
    · obtain ⟨my1, y1, rfl, hB1, hgoy1, houty1⟩ := M.for_go gx1 hb1
      have hlty1 := of_decide_eq_true hb1
      refine Run_skip ?_
      refine Run_seq ?_
      obtain ⟨s2, gs2, hB1⟩ := M.bind_some hB1
      refine Run_join (fun L' h' => ∃ (a7 : Option Addr), ∃ (c6 : Nat), L' = [(0, .slice ac_ c_.length cc_), (3, .slice a7 s2.length c6), (9, .slice ac_ c_.length cc_), (10, .int .i64 (c_.length : Int)), (11, .int .i64 i1)] ∧ Hold h h' [own cd2 a7 s2.length c6 s2]) ?_ ?_
      · rintro _ h7 ⟨a7, c6, rfl, H12⟩
        refine Run_reg 2 (by kernel_rfl) (L' := [(0, .slice ac_ c_.length cc_), (3, .slice a7 s2.length c6), (9, .slice ac_ c_.length cc_), (10, .int .i64 (c_.length : Int)), (11, .int .i64 (i1 + 1))]) ?_ ?_
        · refine QRun_y (.int .i64 (i1 + 1)) (by kernel_rfl) (Y_eq (v := .int .i64 (w64 (i1 + 1))) (Y_pure (fun w => by kernel_rfl)) (by rw [w64_eq _ (by omega)])) ?_
          refine QRun_b [.int .i64 (i1 + 1)] 1 _ (by kernel_rfl) (fun w => by kernel_rfl) ?_
          exact QRun_done [0, 3, 9, 10, 11] (by kernel_rfl) (by kernel_rfl)
        have hB1 := M.ret_some hB1
        have gx1 := hgoy1 _ hB1.symm
        exact Run_again [0, 3, 9, 10, 11] (by kernel_rfl) my1 (Nat.lt_succ_self _) ⟨i1 + 1, s2, a7, c6, by omega, gx1, rfl, H12⟩
      · refine Run_block ?_
        refine Run_seq ?_
        obtain ⟨x2, hx1, gs2⟩ := M.bind_some gs2
        obtain ⟨hx1l, hx1u, hx1⟩ := M.idx_some hx1
        refine Run_reg 5 (by kernel_rfl) (L' := [(0, .slice ac_ c_.length cc_), (3, .slice a1 s1.length c1), (4, .int .i64 i1), (5, .int .i64 x2), (9, .slice ac_ c_.length cc_), (10, .int .i64 (c_.length : Int)), (11, .int .i64 i1)]) ?_ ?_
        · refine QRun_b [.int .i64 i1] 0 _ (by kernel_rfl) (fun w => by kernel_rfl) ?_
          refine QRun_y (.pointer (some (adr ac_ (i1.toNat * 1)))) (by kernel_rfl) (Y_idx (t := 22) (e := 2) (sz := 1) (a := ac_) (n := c_.length) (cap := cc_) (kk := .i64) (i := i1) (by kernel_rfl) Try.underlying22 (by kernel_rfl) ((rc_.at H1.ext).cell hx1).1 hx1l hx1u) ?_
          refine QRun_y (.int .i64 x2) (by kernel_rfl) (Y_load1 (t := 2) (p := adr ac_ (i1.toNat * 1)) (v := .int .i64 x2) (by kernel_rfl) (fun w => by kernel_rfl) (cd2_cell (rc_.at H1.ext) hx1)) ?_
          refine QRun_b [.int .i64 i1, .int .i64 x2] 3 _ (by kernel_rfl) (fun w => by kernel_rfl) ?_
          exact QRun_done [0, 3, 4, 5, 9, 10, 11] (by kernel_rfl) (by kernel_rfl)
        refine Run_seq ?_
        refine Run_seq ?_
        refine Run_reg 2 (by kernel_rfl) (L' := [(0, .slice ac_ c_.length cc_), (3, .slice a1 s1.length c1), (4, .int .i64 i1), (5, .int .i64 x2), (9, .slice ac_ c_.length cc_), (10, .int .i64 (c_.length : Int)), (11, .int .i64 i1), (17, .bool (x2 == (-1000000000000000)))]) ?_ ?_
        · refine QRun_b [.int .i64 x2, .bool (x2 == (-1000000000000000))] 0 _ (by kernel_rfl) (fun w => by kernel_rfl) ?_
          exact QRun_done [0, 3, 4, 5, 9, 10, 11, 17] (by kernel_rfl) (by kernel_rfl)
        refine Run_cond (b := x2 == (-1000000000000000)) (by kernel_rfl) (fun hb2 => ?_) (fun hb2 => ?_)
        · have gs2 := (M.ite_some gs2).1 hb2
          refine Run_exit (k' := _) rfl ?_
          have gs2 := M.ret_some gs2
          subst gs2
          exact Run_fall [0, 3, 9, 10, 11] (by kernel_rfl) ⟨a1, c1, rfl, H1⟩
        · have gs2 := (M.ite_some gs2).2 hb2
          refine Run_skip ?_
          refine Run_seq ?_
          obtain ⟨x3, gx3, gs2⟩ := M.bind_some gs2
          refine Run_join (fun L' h' => ∃ (a4 : Option Addr) (c4 : Nat), L' = [(0, .slice ac_ c_.length cc_), (3, .slice a4 x3.length c4), (4, .int .i64 i1), (9, .slice ac_ c_.length cc_), (10, .int .i64 (c_.length : Int)), (11, .int .i64 i1)] ∧ Hold h h' [own cd2 a4 x3.length c4 x3]) ?_ ?_
          · rintro _ h4 ⟨a4, c4, rfl, H4⟩
            refine Run_ops ?_
            refine Run_b [.slice a4 x3.length c4, .int .i64 i1] 0 _ (by kernel_rfl) (fun w => by kernel_rfl) ?_
            refine Run_E (by kernel_rfl) ?_
            refine E_lit (C := cd2) (n := 1) (l := ([i1] : List Int)) (cs := [.int .i64 i1]) H4 (fun w => by kernel_rfl) (Enc.consE (cd2_own i1 _) (Enc.nil _ _) rfl) rfl (by decide) (fun a5 h5 H7 => ?_)
            obtain ⟨l1, hl1, gs2⟩ := M.bind_some gs2
            have hl1 := M.app_some hl1
            have H8 : Hold h h5 [own cd2 a4 x3.length c4 x3, own cd2 a5 1 1 ([i1] : List Int)] := H7.pick [1, 0] (by kernel_rfl)
            have H9 : Hold h h5 [own cd2 a5 1 1 ([i1] : List Int), own cd2 a4 x3.length c4 x3] := H8.pick [1, 0] (by kernel_rfl)
            have H10 : Hold h h5 [own cd2 a4 x3.length c4 x3, own cd2 a5 1 1 ([i1] : List Int)] := H9.pick [1, 0] (by kernel_rfl)
            refine Run_E (by kernel_rfl) ?_
            refine E_app (C := cd2) (t := 22) (ty := 22) (n := x3.length) (m := 1) H10 cd2_ti rfl Try.underlying22 (by decide) (by kernel_rfl) hl1 (fun a6 c5 h6 H11 => ?_)
            refine Run_b [.slice a6 l1.length c5] 4 _ (by kernel_rfl) (fun w => by kernel_rfl) ?_
            refine Run_nil (by kernel_rfl) ?_
            refine Run_keep [0, 3, 9, 10, 11] (L' := [(0, .slice ac_ c_.length cc_), (3, .slice a6 l1.length c5), (9, .slice ac_ c_.length cc_), (10, .int .i64 (c_.length : Int)), (11, .int .i64 i1)]) (by kernel_rfl) ?_
            refine Run_blk ?_
            have gs2 := M.ret_some gs2
            subst gs2
            exact Run_fall [0, 3, 9, 10, 11] (by kernel_rfl) ⟨a6, c5, rfl, H11⟩
          · refine Run_block ?_
            refine Run_keep [0, 3, 4, 5, 9, 10, 11] (L' := [(0, .slice ac_ c_.length cc_), (3, .slice a1 s1.length c1), (4, .int .i64 i1), (5, .int .i64 x2), (9, .slice ac_ c_.length cc_), (10, .int .i64 (c_.length : Int)), (11, .int .i64 i1)]) (by kernel_rfl) ?_
            refine Run_loop (fun m L' h' => ∃ (s3 : (List Int)) (a3 : Option Addr) (c3 : Nat), M.loopN _ n m s3 = some x3 ∧ L' = [(0, .slice ac_ c_.length cc_), (3, .slice a3 s3.length c3), (4, .int .i64 i1), (5, .int .i64 x2), (9, .slice ac_ c_.length cc_), (10, .int .i64 (c_.length : Int)), (11, .int .i64 i1)] ∧ Hold h h' [own cd2 a3 s3.length c3 s3]) n ⟨s1, a1, c1, gx3, rfl, H1⟩ ?_
            rintro my2 _ h3 ⟨s3, a3, c3, gx3, rfl, H3⟩
            obtain ⟨my2, y2, rfl, hB2, hgoy2, houty2⟩ := M.loop_some gx3
            refine Run_seq ?_
            refine Run_seq ?_
            refine Run_reg 3 (by kernel_rfl) (L' := [(0, .slice ac_ c_.length cc_), (3, .slice a3 s3.length c3), (4, .int .i64 i1), (5, .int .i64 x2), (9, .slice ac_ c_.length cc_), (10, .int .i64 (c_.length : Int)), (11, .int .i64 i1), (20, .bool (decide (1 < (s3.length : Int))))]) ?_ ?_
            · refine QRun_b [.slice a3 s3.length c3, .int .i64 (s3.length : Int), .bool (decide (1 < (s3.length : Int)))] 0 _ (by kernel_rfl) (fun w => by kernel_rfl) ?_
              exact QRun_done [0, 3, 4, 5, 9, 10, 11, 20] (by kernel_rfl) (by kernel_rfl)
            refine Run_cond (b := decide (1 < (s3.length : Int))) (by kernel_rfl) (fun hb3 => ?_) (fun hb3 => ?_)
            · have hB2 := (M.ite_some hB2).1 hb3
              refine Run_skip ?_
              refine Run_block ?_
              refine Run_seq ?_
              obtain ⟨x4, hx2, hB2⟩ := M.bind_some hB2
              obtain ⟨hx2l, hx2u, hx2⟩ := M.idx_some hx2
              obtain ⟨x5, hx3, hB2⟩ := M.bind_some hB2
              obtain ⟨hx3l, hx3u, hx3⟩ := M.idx_some hx3
              refine Run_draw 16 mixed (by kernel_rfl) (by kernel_rfl) (L' := [(0, .slice ac_ c_.length cc_), (3, .slice a3 s3.length c3), (4, .int .i64 i1), (5, .int .i64 x2), (6, .int .i64 x4), (7, .int .i64 x5), (8, .int .i64 i1), (9, .slice ac_ c_.length cc_), (10, .int .i64 (c_.length : Int)), (11, .int .i64 i1)]) ?_ ?_
              · refine QRun_b [.slice a3 s3.length c3, .slice a3 s3.length c3, .int .i64 (s3.length : Int), .int .i64 (w64 ((s3.length : Int) - 2))] 0 _ (by kernel_rfl) (fun w => by kernel_rfl) ?_
                refine QRun_y (.pointer (some (adr a3 ((w64 ((s3.length : Int) - 2)).toNat * 1)))) (by kernel_rfl) (Y_idx (t := 22) (e := 2) (sz := 1) (a := a3) (n := s3.length) (cap := c3) (kk := .i64) (i := w64 ((s3.length : Int) - 2)) (by kernel_rfl) Try.underlying22 (by kernel_rfl) ((H3.rd 0 rfl).cell hx2).1 hx2l hx2u) ?_
                refine QRun_y (.int .i64 x4) (by kernel_rfl) (Y_load1 (t := 2) (p := adr a3 ((w64 ((s3.length : Int) - 2)).toNat * 1)) (v := .int .i64 x4) (by kernel_rfl) (fun w => by kernel_rfl) (cd2_cell (H3.rd 0 rfl) hx2)) ?_
                refine QRun_b [.slice a3 s3.length c3, .slice a3 s3.length c3, .int .i64 (s3.length : Int), .int .i64 (w64 ((s3.length : Int) - 1))] 6 _ (by kernel_rfl) (fun w => by kernel_rfl) ?_
                refine QRun_y (.pointer (some (adr a3 ((w64 ((s3.length : Int) - 1)).toNat * 1)))) (by kernel_rfl) (Y_idx (t := 22) (e := 2) (sz := 1) (a := a3) (n := s3.length) (cap := c3) (kk := .i64) (i := w64 ((s3.length : Int) - 1)) (by kernel_rfl) Try.underlying22 (by kernel_rfl) ((H3.rd 0 rfl).cell hx3).1 hx3l hx3u) ?_
                refine QRun_y (.int .i64 x5) (by kernel_rfl) (Y_load1 (t := 2) (p := adr a3 ((w64 ((s3.length : Int) - 1)).toNat * 1)) (v := .int .i64 x5) (by kernel_rfl) (fun w => by kernel_rfl) (cd2_cell (H3.rd 0 rfl) hx3)) ?_
                refine QRun_b [.int .i64 i1, .int .i64 x4, .int .i64 x5, .int .i64 i1] 12 _ (by kernel_rfl) (fun w => by kernel_rfl) ?_
                exact QRun_done [0, 3, 4, 5, 6, 7, 8, 9, 10, 11] (by kernel_rfl) (by kernel_rfl)
              refine Run_seq ?_
              refine Run_seq ?_
              obtain ⟨x6, hx4, hB2⟩ := M.bind_some hB2
              obtain ⟨hx4l, hx4u, hx4⟩ := M.idx_some hx4
              obtain ⟨x7, hx5, hB2⟩ := M.bind_some hB2
              obtain ⟨hx5l, hx5u, hx5⟩ := M.idx_some hx5
              obtain ⟨x8, hx6, hB2⟩ := M.bind_some hB2
              obtain ⟨hx6l, hx6u, hx6⟩ := M.idx_some hx6
              refine Run_draw 24 mixed (by kernel_rfl) (by kernel_rfl) (L' := [(0, .slice ac_ c_.length cc_), (3, .slice a3 s3.length c3), (4, .int .i64 i1), (5, .int .i64 x2), (9, .slice ac_ c_.length cc_), (10, .int .i64 (c_.length : Int)), (11, .int .i64 i1), (57, .bool (decide ((w64 ((w64 (x2 - x8)) * (w64 (x5 - x4)))) < (w64 ((w64 (x6 - x7)) * (w64 (i1 - x4)))))))]) ?_ ?_
              · refine QRun_b [.slice ac_ c_.length cc_, .int .i64 x5] 0 _ (by kernel_rfl) (fun w => by kernel_rfl) ?_
                refine QRun_y (.pointer (some (adr ac_ (x5.toNat * 1)))) (by kernel_rfl) (Y_idx (t := 22) (e := 2) (sz := 1) (a := ac_) (n := c_.length) (cap := cc_) (kk := .i64) (i := x5) (by kernel_rfl) Try.underlying22 (by kernel_rfl) ((rc_.at H3.ext).cell hx4).1 hx4l hx4u) ?_
                refine QRun_y (.int .i64 x6) (by kernel_rfl) (Y_load1 (t := 2) (p := adr ac_ (x5.toNat * 1)) (v := .int .i64 x6) (by kernel_rfl) (fun w => by kernel_rfl) (cd2_cell (rc_.at H3.ext) hx4)) ?_
                refine QRun_b [.slice ac_ c_.length cc_, .int .i64 x4] 4 _ (by kernel_rfl) (fun w => by kernel_rfl) ?_
                refine QRun_y (.pointer (some (adr ac_ (x4.toNat * 1)))) (by kernel_rfl) (Y_idx (t := 22) (e := 2) (sz := 1) (a := ac_) (n := c_.length) (cap := cc_) (kk := .i64) (i := x4) (by kernel_rfl) Try.underlying22 (by kernel_rfl) ((rc_.at H3.ext).cell hx5).1 hx5l hx5u) ?_
                refine QRun_y (.int .i64 x7) (by kernel_rfl) (Y_load1 (t := 2) (p := adr ac_ (x4.toNat * 1)) (v := .int .i64 x7) (by kernel_rfl) (fun w => by kernel_rfl) (cd2_cell (rc_.at H3.ext) hx5)) ?_
                refine QRun_b [.int .i64 (w64 (x6 - x7)), .int .i64 i1, .int .i64 x4, .int .i64 (w64 (i1 - x4)), .int .i64 (w64 ((w64 (x6 - x7)) * (w64 (i1 - x4)))), .int .i64 x2, .slice ac_ c_.length cc_, .int .i64 x4] 8 _ (by kernel_rfl) (fun w => by kernel_rfl) ?_
                refine QRun_y (.pointer (some (adr ac_ (x4.toNat * 1)))) (by kernel_rfl) (Y_idx (t := 22) (e := 2) (sz := 1) (a := ac_) (n := c_.length) (cap := cc_) (kk := .i64) (i := x4) (by kernel_rfl) Try.underlying22 (by kernel_rfl) ((rc_.at H3.ext).cell hx6).1 hx6l hx6u) ?_
                refine QRun_y (.int .i64 x8) (by kernel_rfl) (Y_load1 (t := 2) (p := adr ac_ (x4.toNat * 1)) (v := .int .i64 x8) (by kernel_rfl) (fun w => by kernel_rfl) (cd2_cell (rc_.at H3.ext) hx6)) ?_
                refine QRun_b [.int .i64 (w64 (x2 - x8)), .int .i64 x5, .int .i64 x4, .int .i64 (w64 (x5 - x4)), .int .i64 (w64 ((w64 (x2 - x8)) * (w64 (x5 - x4)))), .bool (decide ((w64 ((w64 (x2 - x8)) * (w64 (x5 - x4)))) < (w64 ((w64 (x6 - x7)) * (w64 (i1 - x4))))))] 18 _ (by kernel_rfl) (fun w => by kernel_rfl) ?_
                exact QRun_done [0, 3, 4, 5, 9, 10, 11, 57] (by kernel_rfl) (by kernel_rfl)
              refine Run_cond (b := decide ((w64 ((w64 (x2 - x8)) * (w64 (x5 - x4)))) < (w64 ((w64 (x6 - x7)) * (w64 (i1 - x4)))))) (by kernel_rfl) (fun hb4 => ?_) (fun hb4 => ?_)
              · have hB2 := (M.ite_some hB2).1 hb4
                refine Run_exit (k' := _) rfl ?_
                have hB2 := M.ret_some hB2
                have gx3 := houty2 _ hB2.symm
                subst gx3
                exact Run_fall [0, 3, 4, 9, 10, 11] (by kernel_rfl) ⟨a3, c3, rfl, H3⟩
              · have hB2 := (M.ite_some hB2).2 hb4
                refine Run_skip ?_
                obtain ⟨x9, hx7, hB2⟩ := M.bind_some hB2
                obtain ⟨hx7a, hx7b, hx7c, hx7d⟩ := M.sub_some hx7
                obtain ⟨H5, e1⟩ := H3.cut (w64 ((s3.length : Int) - 1)).toNat
                have hx7q : x9 = s3.take (w64 ((s3.length : Int) - 1)).toNat := by rw [hx7d]; rfl
                have H6 : Hold h h3 [own cd2 a3 x9.length c3 x9] := by rw [hx7q]; exact H5
                refine Run_reg 6 (by kernel_rfl) (L' := [(0, .slice ac_ c_.length cc_), (3, .slice a3 x9.length c3), (4, .int .i64 i1), (5, .int .i64 x2), (9, .slice ac_ c_.length cc_), (10, .int .i64 (c_.length : Int)), (11, .int .i64 i1)]) ?_ ?_
                · refine QRun_b [.slice a3 s3.length c3, .slice a3 s3.length c3, .int .i64 (s3.length : Int), .int .i64 (w64 ((s3.length : Int) - 1))] 0 _ (by kernel_rfl) (fun w => by kernel_rfl) ?_
                  refine QRun_y (.slice a3 x9.length c3) (by kernel_rfl) (Y_eq (Y_slice (t := 22) (e := 2) (sz := 1) (a := a3) (n := s3.length) (cap := c3) (lo := none) (hi := (some (.i64, w64 ((s3.length : Int) - 1)))) (x := 0) (y := w64 ((s3.length : Int) - 1)) (by kernel_rfl) Try.underlying22 (by kernel_rfl) (H3.rd 0 rfl).fits rfl rfl hx7a hx7b hx7c) (by rw [show sliceA a3 c3 (0 : Int).toNat 1 = a3 from e1]; simp only [hx7q, List.length_take]; congr 1; omega)) ?_
                  refine QRun_b [.slice a3 x9.length c3] 5 _ (by kernel_rfl) (fun w => by kernel_rfl) ?_
                  exact QRun_done [0, 3, 4, 5, 9, 10, 11] (by kernel_rfl) (by kernel_rfl)
                refine Run_blk ?_
                have hB2 := M.ret_some hB2
                have gx3 := hgoy2 _ hB2.symm
                exact Run_again [0, 3, 4, 5, 9, 10, 11] (by kernel_rfl) my2 (Nat.lt_succ_self _) ⟨x9, a3, c3, gx3, rfl, H6⟩
            · have hB2 := (M.ite_some hB2).2 hb3
              refine Run_exit (k' := _) rfl ?_
              have hB2 := M.ret_some hB2
              have gx3 := houty2 _ hB2.symm
              subst gx3
              exact Run_fall [0, 3, 4, 9, 10, 11] (by kernel_rfl) ⟨a3, c3, rfl, H3⟩
    · have gx1 := M.for_end gx1 hb1
      subst gx1
      refine Run_exit (k' := _) rfl ?_
      exact Run_fall [3] (by kernel_rfl) ⟨a1, c1, rfl, H1⟩

set_option maxRecDepth 100000 in
set_option maxHeartbeats 4000000 in
theorem w_impl_floorDiv (h : Heap) (a_ : Int) (b : Int) (n : Nat) (r : Int) (hF : impl_floorDiv a_ b n = some r) :
    Fn Try.prog 85 #[.int .i64 a_, .int .i64 b] h fun v h' => v = .int .i64 r ∧ h' = h := by
  unfold impl_floorDiv at hF
  refine Fn_enter (args := [.int .i64 a_, .int .i64 b]) Try.func85 rfl (by kernel_rfl) (by kernel_rfl) (fun w0 _ => ?_)
  refine Run_seq ?_
  refine Run_reg 1 (by kernel_rfl) (L' := [(0, .int .i64 a_), (1, .int .i64 b)]) ?_ ?_
  · refine QRun_b [.int .i64 0] 0 _ (by kernel_rfl) (fun w => by kernel_rfl) ?_
    exact QRun_done [0, 1] (by kernel_rfl) (by kernel_rfl)
  refine Run_seq ?_
  obtain ⟨u1, hz1, hF⟩ := M.bind_some hF
  have hz1 := M.guard_some hz1
  refine Run_reg 4 (by kernel_rfl) (L' := [(0, .int .i64 a_), (1, .int .i64 b), (5, .int .i64 (w64 (a_.tdiv b)))]) ?_ ?_
  · refine QRun_b [.int .i64 a_, .int .i64 b] 0 _ (by kernel_rfl) (fun w => by kernel_rfl) ?_
    refine QRun_y (.int .i64 (w64 (a_.tdiv b))) (by kernel_rfl) (Y_quo (op := .quo) (k := .i64) (x := a_) (y := b) (by kernel_rfl) hz1) ?_
    refine QRun_b [.int .i64 (w64 (a_.tdiv b))] 3 _ (by kernel_rfl) (fun w => by kernel_rfl) ?_
    exact QRun_done [0, 1, 5] (by kernel_rfl) (by kernel_rfl)
  refine Run_seq ?_
  refine Run_seq ?_
  obtain ⟨u2, hz2, hF⟩ := M.bind_some hF
  have hz2 := M.guard_some hz2
  refine Run_reg 4 (by kernel_rfl) (L' := [(5, .int .i64 (w64 (a_.tdiv b))), (12, .bool (decide ((a_.tmod b) < 0)))]) ?_ ?_
  · refine QRun_b [.int .i64 a_, .int .i64 b] 0 _ (by kernel_rfl) (fun w => by kernel_rfl) ?_
    refine QRun_y (.int .i64 (a_.tmod b)) (by kernel_rfl) (Y_rem (op := .rem) (k := .i64) (x := a_) (y := b) (by kernel_rfl) hz2) ?_
    refine QRun_b [.bool (decide ((a_.tmod b) < 0))] 3 _ (by kernel_rfl) (fun w => by kernel_rfl) ?_
    exact QRun_done [5, 12] (by kernel_rfl) (by kernel_rfl)
  obtain ⟨s1, gs1, hF⟩ := M.bind_some hF
  refine Run_join (fun L' h' => L' = [(5, .int .i64 s1)] ∧ h = h') ?_ ?_
  · rintro _ _ ⟨rfl, rfl⟩
    refine Run_seq ?_
    refine Run_reg 2 (by kernel_rfl) (L' := [(4, .int .i64 s1)]) ?_ ?_
    · refine QRun_b [.int .i64 s1, .int .i64 s1] 0 _ (by kernel_rfl) (fun w => by kernel_rfl) ?_
      exact QRun_done [4] (by kernel_rfl) (by kernel_rfl)
    have hF := M.ret_some hF
    subst hF
    exact Run_ret1 rfl (ResV_tmp (v := .int .i64 s1) (by kernel_rfl)) ⟨rfl, rfl⟩
  · refine Run_cond (b := decide ((a_.tmod b) < 0)) (by kernel_rfl) (fun hb1 => ?_) (fun hb1 => ?_)
    · have gs1 := (M.ite_some gs1).1 hb1
      refine Run_reg 3 (by kernel_rfl) (L' := [(5, .int .i64 (w64 ((w64 (a_.tdiv b)) - 1)))]) ?_ ?_
      · refine QRun_b [.int .i64 (w64 (a_.tdiv b)), .int .i64 (w64 ((w64 (a_.tdiv b)) - 1)), .int .i64 (w64 ((w64 (a_.tdiv b)) - 1))] 0 _ (by kernel_rfl) (fun w => by kernel_rfl) ?_
        exact QRun_done [5] (by kernel_rfl) (by kernel_rfl)
      have gs1 := M.ret_some gs1
      subst gs1
      exact Run_fall [5] (by kernel_rfl) ⟨rfl, rfl⟩
    · have gs1 := (M.ite_some gs1).2 hb1
      refine Run_skip ?_
      have gs1 := M.ret_some gs1
      subst gs1
      exact Run_fall [5] (by kernel_rfl) ⟨rfl, rfl⟩

set_option maxRecDepth 100000 in
set_option maxHeartbeats 4000000 in
theorem w_impl_FullPolynomial (h : Heap) (c_ : List Int) (ac_ : Option Addr) (cc_ : Nat) (rc_ : Rd cd2 h (Lt h) ac_ cc_ c_) (n : Nat) (r : (List Int) × Int) (hF : impl_FullPolynomial c_ n = some r) :
    Fn Try.prog 43 #[.slice ac_ c_.length cc_] h fun v h' => ∃ (a0 : Option Addr) (c0 : Nat), v = .tuple #[.slice a0 r.1.length c0, .int .i64 r.2] ∧ Hold h h' [own cd2 a0 r.1.length c0 r.1] := by
  unfold impl_FullPolynomial at hF
  refine Fn_enter (args := [.slice ac_ c_.length cc_]) Try.func43 rfl (by kernel_rfl) (by kernel_rfl) (fun w0 _ => ?_)
  have H0 := Hold.init h
  refine Run_seq ?_
  refine Run_reg 2 (by kernel_rfl) (L' := [(0, .slice ac_ c_.length cc_)]) ?_ ?_
  · refine QRun_b [.slice none 0 0, .int .i64 0] 0 _ (by kernel_rfl) (fun w => by kernel_rfl) ?_
    exact QRun_done [0] (by kernel_rfl) (by kernel_rfl)
  refine Run_seq ?_
  refine Run_seq ?_
  obtain ⟨x1, hx1, hF⟩ := M.bind_some hF
  refine Run_reg 3 (by kernel_rfl) (L' := [(0, .slice ac_ c_.length cc_), (13, .bool (!x1))]) ?_ ?_
  · refine QRun_b [.slice ac_ c_.length cc_] 0 _ (by kernel_rfl) (fun w => by kernel_rfl) ?_
    refine QRun_y (.bool x1) (by kernel_rfl) (Y_callq (f := 16) (args := #[.slice ac_ c_.length cc_]) (v := .bool x1) (by kernel_rfl) (w_impl_IsPolynomial h c_ ac_ cc_ rc_ _ _ hx1)) ?_
    refine QRun_b [.bool (!x1)] 2 _ (by kernel_rfl) (fun w => by kernel_rfl) ?_
    exact QRun_done [0, 13] (by kernel_rfl) (by kernel_rfl)
  refine Run_cond (b := !x1) (by kernel_rfl) (fun hb1 => ?_) (fun hb1 => ?_)
  · have hF := (M.ite_some hF).1 hb1
    refine Run_seq ?_
    refine Run_reg 2 (by kernel_rfl) (L' := [(2, .slice none 0 0), (3, .int .i64 1)]) ?_ ?_
    · refine QRun_b [.slice none 0 0, .int .i64 1] 0 _ (by kernel_rfl) (fun w => by kernel_rfl) ?_
      exact QRun_done [2, 3] (by kernel_rfl) (by kernel_rfl)
    have hF := M.ret_some hF
    subst hF
    have H1 := H0.empty cd2
    exact Run_ret2 rfl (ResV_tmp (v := .slice none 0 0) (by kernel_rfl)) (ResV_tmp (v := .int .i64 1) (by kernel_rfl)) ⟨none, 0, rfl, H1⟩
  · have hF := (M.ite_some hF).2 hb1
    refine Run_skip ?_
    refine Run_seq ?_
    refine Run_ops ?_
    refine Run_b [.slice ac_ c_.length cc_] 0 _ (by kernel_rfl) (fun w => by kernel_rfl) ?_
    obtain ⟨x2, hx2, hF⟩ := M.bind_some hF
    refine Run_E (by kernel_rfl) ?_
    refine E_call (f := 74) (args := #[.slice ac_ c_.length cc_]) (w_impl_essentialTerms h c_ ac_ cc_ rc_ _ _ hx2) (by kernel_rfl) (fun v1 h1 hp1 => ?_)
    obtain ⟨a1, c1, rfl, H2⟩ := hp1
    have H3 : Hold h h1 [own cd2 a1 x2.length c1 x2] := H0.call H2 rfl
    refine Run_b [.slice a1 x2.length c1] 2 _ (by kernel_rfl) (fun w => by kernel_rfl) ?_
    refine Run_nil (by kernel_rfl) ?_
    refine Run_keep [0, 4] (L' := [(0, .slice ac_ c_.length cc_), (4, .slice a1 x2.length c1)]) (by kernel_rfl) ?_
    refine Run_seq ?_
    refine Run_ops ?_
    refine Run_b [.slice ac_ c_.length cc_, .int .i64 (c_.length : Int)] 0 _ (by kernel_rfl) (fun w => by kernel_rfl) ?_
    obtain ⟨l1, hl1, hF⟩ := M.bind_some hF
    have hl1 := M.make_some hl1
    refine Run_E (by kernel_rfl) ?_
    refine E_make cd2 0 (kl := .i64) (kc := .i64) H3 cd2_ti Try.underlying22 (by decide) cd2_zero (by kernel_rfl) hl1 (fun a2 h2 H4 => ?_)
    refine Run_b [.slice a2 l1.length l1.length] 3 _ (by kernel_rfl) (fun w => by kernel_rfl) ?_
    refine Run_nil (by kernel_rfl) ?_
    refine Run_keep [0, 4, 5] (L' := [(0, .slice ac_ c_.length cc_), (4, .slice a1 x2.length c1), (5, .slice a2 l1.length l1.length)]) (by kernel_rfl) ?_
    refine Run_seq ?_
    refine Run_seq ?_
    refine Run_reg 3 (by kernel_rfl) (L' := [(0, .slice ac_ c_.length cc_), (4, .slice a1 x2.length c1), (5, .slice a2 l1.length l1.length), (20, .int .i64 (l1.length : Int)), (21, .int .i64 0)]) ?_ ?_
    · refine QRun_b [.slice a2 l1.length l1.length, .int .i64 (l1.length : Int), .int .i64 0] 0 _ (by kernel_rfl) (fun w => by kernel_rfl) ?_
      exact QRun_done [0, 4, 5, 20, 21] (by kernel_rfl) (by kernel_rfl)
    obtain ⟨x3, gx3, hF⟩ := M.bind_some hF
    obtain ⟨hloy1, hhiy1, gx3⟩ := M.for_start gx3
    refine Run_join (fun L' h' => L' = [(0, .slice ac_ c_.length cc_), (4, .slice a1 x2.length c1), (5, .slice a2 l1.length l1.length)] ∧ Hold h h' [own cd2 a1 x2.length c1 x2, own cd2 a2 l1.length l1.length x3]) ?_ ?_
    · rintro _ h4 ⟨rfl, H6⟩
      refine Run_seq ?_
      obtain ⟨x5, hx4, hF⟩ := M.bind_some hF
      obtain ⟨hx4l, hx4u, hx4⟩ := M.idx_some hx4
      obtain ⟨x6, hx5, hF⟩ := M.bind_some hF
      obtain ⟨hx5l, hx5u, hx5⟩ := M.idx_some hx5
      obtain ⟨x7, hx6, hF⟩ := M.bind_some hF
      obtain ⟨hx6l, hx6u, hx6⟩ := M.idx_some hx6
      obtain ⟨x8, hx7, hF⟩ := M.bind_some hF
      obtain ⟨hx7l, hx7u, hx7⟩ := M.idx_some hx7
      refine Run_D (fun x => Hold h x [own cd2 a1 x2.length c1 x2, own cd2 a2 l1.length l1.length x3]) (fun x => Hold h x [own cd2 a1 x2.length c1 x2, own cd2 a2 l1.length l1.length x3]) mixed (by kernel_rfl) H6 Hold.stable (fun x Hy => (show Hold h x [own cd2 a1 x2.length c1 x2, own cd2 a2 l1.length l1.length x3] from Hy).pick [0, 1] (by kernel_rfl)) ?_
      refine DR_b 10 [.slice a2 l1.length l1.length, .slice a1 x2.length c1] 0 (by kernel_rfl) (by kernel_rfl) (by kernel_rfl) (fun w => by kernel_rfl) ?_
      refine DR_y 9 (i := 2) (.pointer (some (adr a1 (0 * 1)))) (by kernel_rfl) (by kernel_rfl) (by kernel_rfl) (fun hx Hx => (YE.of (Y_idx (t := 22) (e := 2) (sz := 1) (a := a1) (n := x2.length) (cap := c1) (kk := .i64) (i := 0) (by kernel_rfl) Try.underlying22 (by kernel_rfl) ((H6.rd 0 rfl).cell hx4).1 hx4l hx4u))) ?_
      refine DR_y 8 (i := 3) (.int .i64 x5) (by kernel_rfl) (by kernel_rfl) (by kernel_rfl) (fun hx Hx => (YE.of (Y_load1 (t := 2) (p := adr a1 (0 * 1)) (v := .int .i64 x5) (by kernel_rfl) (fun w => by kernel_rfl) (cd2_cell (Hx.rd 0 rfl) hx4)))) ?_
      refine DR_b 6 [.slice ac_ c_.length cc_, .slice a1 x2.length c1] 4 (by kernel_rfl) (by kernel_rfl) (by kernel_rfl) (fun w => by kernel_rfl) ?_
      refine DR_y 5 (i := 6) (.pointer (some (adr a1 (0 * 1)))) (by kernel_rfl) (by kernel_rfl) (by kernel_rfl) (fun hx Hx => (YE.of (Y_idx (t := 22) (e := 2) (sz := 1) (a := a1) (n := x2.length) (cap := c1) (kk := .i64) (i := 0) (by kernel_rfl) Try.underlying22 (by kernel_rfl) ((H6.rd 0 rfl).cell hx5).1 hx5l hx5u))) ?_
      refine DR_y 4 (i := 7) (.int .i64 x6) (by kernel_rfl) (by kernel_rfl) (by kernel_rfl) (fun hx Hx => (YE.of (Y_load1 (t := 2) (p := adr a1 (0 * 1)) (v := .int .i64 x6) (by kernel_rfl) (fun w => by kernel_rfl) (cd2_cell (Hx.rd 0 rfl) hx5)))) ?_
      refine DR_y 3 (i := 8) (.pointer (some (adr ac_ (x6.toNat * 1)))) (by kernel_rfl) (by kernel_rfl) (by kernel_rfl) (fun hx Hx => (YE.of (Y_idx (t := 22) (e := 2) (sz := 1) (a := ac_) (n := c_.length) (cap := cc_) (kk := .i64) (i := x6) (by kernel_rfl) Try.underlying22 (by kernel_rfl) ((rc_.at H6.ext).cell hx6).1 hx6l hx6u))) ?_
      refine DR_y 2 (i := 9) (.int .i64 x7) (by kernel_rfl) (by kernel_rfl) (by kernel_rfl) (fun hx Hx => (YE.of (Y_load1 (t := 2) (p := adr ac_ (x6.toNat * 1)) (v := .int .i64 x7) (by kernel_rfl) (fun w => by kernel_rfl) (cd2_cell (rc_.at Hx.ext) hx6)))) ?_
      refine DR_y 1 (i := 10) (.pointer (some (adr a2 (x5.toNat * 1)))) (by kernel_rfl) (by kernel_rfl) (by kernel_rfl) (fun hx Hx => (YE.of (Y_idx (t := 22) (e := 2) (sz := 1) (a := a2) (n := l1.length) (cap := l1.length) (kk := .i64) (i := x5) (by kernel_rfl) Try.underlying22 (by kernel_rfl) ((H6.rd 1 rfl).cell hx7).1 hx7l (by rw [← (H6.len 1 rfl)]; exact hx7u)))) ?_
      refine DR_tail (i := 11) (by kernel_rfl) (by kernel_rfl) (by kernel_rfl) (fun h6 H10 => ?_)
      have H11 : Hold h h6 [own cd2 a1 x2.length c1 x2, own cd2 a2 l1.length l1.length x3] := H10
      obtain ⟨l3, hu2, hF⟩ := M.bind_some hF
      have hu2 := M.upd_some hu2
      have H13 : Hold h h6 [own cd2 a2 l1.length l1.length x3, own cd2 a1 x2.length c1 x2] := H11.pick [1, 0] (by kernel_rfl)
      refine Run_E (by kernel_rfl) ?_
      refine E_put (C := cd2) (t := 2) (sz := 1) (j := x5) (x := x7) (v := .int .i64 x7) H13 cd2_flat (by kernel_rfl) rfl (cd2_own _) (by kernel_rfl) hu2 (fun h7 H12 => ?_)
      refine Run_nil (by kernel_rfl) ?_
      refine Run_keep [0, 4, 5] (L' := [(0, .slice ac_ c_.length cc_), (4, .slice a1 x2.length c1), (5, .slice a2 l1.length l1.length)]) (by kernel_rfl) ?_
      refine Run_seq ?_
      refine Run_seq ?_
      refine Run_reg 1 (by kernel_rfl) (L' := [(0, .slice ac_ c_.length cc_), (4, .slice a1 x2.length c1), (5, .slice a2 l1.length l1.length), (7, .int .i64 1)]) ?_ ?_
      · refine QRun_b [.int .i64 1] 0 _ (by kernel_rfl) (fun w => by kernel_rfl) ?_
        exact QRun_done [0, 4, 5, 7] (by kernel_rfl) (by kernel_rfl)
      obtain ⟨x9, gx9, hF⟩ := M.bind_some hF
      obtain ⟨hloy2, hhiy2, gx9⟩ := M.for_start gx9
      refine Run_join (fun L' h' => L' = [(5, .slice a2 l1.length l1.length)] ∧ Hold h h' [own cd2 a2 l1.length l1.length x9]) ?_ ?_
      · rintro _ h9 ⟨rfl, H15⟩
        refine Run_seq ?_
        refine Run_reg 3 (by kernel_rfl) (L' := [(2, .slice a2 l1.length l1.length), (3, .int .i64 0)]) ?_ ?_
        · refine QRun_b [.slice a2 l1.length l1.length, .slice a2 l1.length l1.length, .int .i64 0] 0 _ (by kernel_rfl) (fun w => by kernel_rfl) ?_
          exact QRun_done [2, 3] (by kernel_rfl) (by kernel_rfl)
        have hF := M.ret_some hF
        subst hF
        have H24 := H15.norm
        exact Run_ret2 rfl (ResV_tmp (v := .slice a2 l1.length l1.length) (by kernel_rfl)) (ResV_tmp (v := .int .i64 0) (by kernel_rfl)) ⟨a2, l1.length, (by simp only [(H15.len 0 rfl)]), H24⟩
      · refine Run_block ?_
        have H25 : Hold h h7 [own cd2 a1 x2.length c1 x2, own cd2 a2 l1.length l1.length l3] := H12.pick [1, 0] (by kernel_rfl)
        refine Run_keep [0, 4, 5, 7] (L' := [(0, .slice ac_ c_.length cc_), (4, .slice a1 x2.length c1), (5, .slice a2 l1.length l1.length), (7, .int .i64 1)]) (by kernel_rfl) ?_
        refine Run_loop (fun m L' h' => ∃ (i2 : Int) (s2 : (List Int)), 1 ≤ i2 ∧ M.forN (x2.length : Int) _ _ n m i2 s2 = some x9 ∧ L' = [(0, .slice ac_ c_.length cc_), (4, .slice a1 x2.length c1), (5, .slice a2 l1.length l1.length), (7, .int .i64 i2)] ∧ Hold h h' [own cd2 a1 x2.length c1 x2, own cd2 a2 l1.length l1.length s2]) ((x2.length : Int) - 1).toNat ⟨1, l3, Int.le_refl _, gx9, rfl, H25⟩ ?_
        rintro my2 _ h8 ⟨i2, s2, hloy2', gx9, rfl, H14⟩
        refine Run_seq ?_
        refine Run_seq ?_
        refine Run_reg 4 (by kernel_rfl) (L' := [(0, .slice ac_ c_.length cc_), (4, .slice a1 x2.length c1), (5, .slice a2 l1.length l1.length), (7, .int .i64 i2), (42, .bool (decide (i2 < (x2.length : Int))))]) ?_ ?_
        · refine QRun_b [.int .i64 i2, .slice a1 x2.length c1, .int .i64 (x2.length : Int), .bool (decide (i2 < (x2.length : Int)))] 0 _ (by kernel_rfl) (fun w => by kernel_rfl) ?_
          exact QRun_done [0, 4, 5, 7, 42] (by kernel_rfl) (by kernel_rfl)
        refine Run_cond (b := decide (i2 < (x2.length : Int))) (by kernel_rfl) (fun hb3 => ?_) (fun hb3 => ?_)
        · obtain ⟨my2, y2, rfl, hB2, hgoy2, houty2⟩ := M.for_go gx9 hb3
          have hlty2 := of_decide_eq_true hb3
          refine Run_skip ?_
          refine Run_seq ?_
          refine Run_block ?_
          refine Run_seq ?_
          obtain ⟨x10, hx8, hB2⟩ := M.bind_some hB2
          obtain ⟨hx8l, hx8u, hx8⟩ := M.idx_some hx8
          obtain ⟨x11, hx9, hB2⟩ := M.bind_some hB2
          obtain ⟨hx9l, hx9u, hx9⟩ := M.idx_some hx9
          refine Run_draw 11 mixed (by kernel_rfl) (by kernel_rfl) (L' := [(0, .slice ac_ c_.length cc_), (4, .slice a1 x2.length c1), (5, .slice a2 l1.length l1.length), (7, .int .i64 i2), (8, .int .i64 x10), (9, .int .i64 x11)]) ?_ ?_
          · refine QRun_b [.slice a1 x2.length c1, .int .i64 i2, .int .i64 (w64 (i2 - 1))] 0 _ (by kernel_rfl) (fun w => by kernel_rfl) ?_
            refine QRun_y (.pointer (some (adr a1 ((w64 (i2 - 1)).toNat * 1)))) (by kernel_rfl) (Y_idx (t := 22) (e := 2) (sz := 1) (a := a1) (n := x2.length) (cap := c1) (kk := .i64) (i := w64 (i2 - 1)) (by kernel_rfl) Try.underlying22 (by kernel_rfl) ((H14.rd 0 rfl).cell hx8).1 hx8l hx8u) ?_
            refine QRun_y (.int .i64 x10) (by kernel_rfl) (Y_load1 (t := 2) (p := adr a1 ((w64 (i2 - 1)).toNat * 1)) (v := .int .i64 x10) (by kernel_rfl) (fun w => by kernel_rfl) (cd2_cell (H14.rd 0 rfl) hx8)) ?_
            refine QRun_b [.slice a1 x2.length c1, .int .i64 i2] 5 _ (by kernel_rfl) (fun w => by kernel_rfl) ?_
            refine QRun_y (.pointer (some (adr a1 (i2.toNat * 1)))) (by kernel_rfl) (Y_idx (t := 22) (e := 2) (sz := 1) (a := a1) (n := x2.length) (cap := c1) (kk := .i64) (i := i2) (by kernel_rfl) Try.underlying22 (by kernel_rfl) ((H14.rd 0 rfl).cell hx9).1 hx9l hx9u) ?_
            refine QRun_y (.int .i64 x11) (by kernel_rfl) (Y_load1 (t := 2) (p := adr a1 (i2.toNat * 1)) (v := .int .i64 x11) (by kernel_rfl) (fun w => by kernel_rfl) (cd2_cell (H14.rd 0 rfl) hx9)) ?_
            refine QRun_b [.int .i64 x10, .int .i64 x11] 9 _ (by kernel_rfl) (fun w => by kernel_rfl) ?_
            exact QRun_done [0, 4, 5, 7, 8, 9] (by kernel_rfl) (by kernel_rfl)
          refine Run_seq ?_
          refine Run_reg 2 (by kernel_rfl) (L' := [(0, .slice ac_ c_.length cc_), (4, .slice a1 x2.length c1), (5, .slice a2 l1.length l1.length), (7, .int .i64 i2), (8, .int .i64 x10), (9, .int .i64 x11), (10, .int .i64 x10)]) ?_ ?_
          · refine QRun_b [.int .i64 x10, .int .i64 x10] 0 _ (by kernel_rfl) (fun w => by kernel_rfl) ?_
            exact QRun_done [0, 4, 5, 7, 8, 9, 10] (by kernel_rfl) (by kernel_rfl)
          obtain ⟨x12, gx12, hB2⟩ := M.bind_some hB2
          refine Run_join (fun L' h' => L' = [(0, .slice ac_ c_.length cc_), (4, .slice a1 x2.length c1), (5, .slice a2 l1.length l1.length), (7, .int .i64 i2)] ∧ Hold h h' [own cd2 a1 x2.length c1 x2, own cd2 a2 l1.length l1.length x12.1]) ?_ ?_
          · rintro _ h11 ⟨rfl, H17⟩
            refine Run_blk ?_
            refine Run_reg 3 (by kernel_rfl) (L' := [(0, .slice ac_ c_.length cc_), (4, .slice a1 x2.length c1), (5, .slice a2 l1.length l1.length), (7, .int .i64 (i2 + 1))]) ?_ ?_
            · refine QRun_b [.int .i64 i2] 0 _ (by kernel_rfl) (fun w => by kernel_rfl) ?_
              refine QRun_y (.int .i64 (i2 + 1)) (by kernel_rfl) (Y_eq (v := .int .i64 (w64 (i2 + 1))) (Y_pure (fun w => by kernel_rfl)) (by rw [w64_eq _ (by omega)])) ?_
              refine QRun_b [.int .i64 (i2 + 1)] 2 _ (by kernel_rfl) (fun w => by kernel_rfl) ?_
              exact QRun_done [0, 4, 5, 7] (by kernel_rfl) (by kernel_rfl)
            have hB2 := M.ret_some hB2
            have gx9 := hgoy2 _ hB2.symm
            exact Run_again [0, 4, 5, 7] (by kernel_rfl) my2 (Nat.lt_succ_self _) ⟨i2 + 1, x12.1, by omega, gx9, rfl, H17⟩
          · refine Run_block ?_
            refine Run_keep [0, 4, 5, 7, 8, 9, 10] (L' := [(0, .slice ac_ c_.length cc_), (4, .slice a1 x2.length c1), (5, .slice a2 l1.length l1.length), (7, .int .i64 i2), (8, .int .i64 x10), (9, .int .i64 x11), (10, .int .i64 x10)]) (by kernel_rfl) ?_
            refine Run_loop (fun m L' h' => ∃ (s3 : (List Int) × Int), M.loopN _ n m s3 = some x12 ∧ L' = [(0, .slice ac_ c_.length cc_), (4, .slice a1 x2.length c1), (5, .slice a2 l1.length l1.length), (7, .int .i64 i2), (8, .int .i64 x10), (9, .int .i64 x11), (10, .int .i64 s3.2)] ∧ Hold h h' [own cd2 a1 x2.length c1 x2, own cd2 a2 l1.length l1.length s3.1]) n ⟨(s2, x10), gx12, rfl, H14⟩ ?_
            rintro my3 _ h10 ⟨s3, gx12, rfl, H16⟩
            obtain ⟨my3, y3, rfl, hB3, hgoy3, houty3⟩ := M.loop_some gx12
            refine Run_seq ?_
            refine Run_seq ?_
            refine Run_reg 3 (by kernel_rfl) (L' := [(0, .slice ac_ c_.length cc_), (4, .slice a1 x2.length c1), (5, .slice a2 l1.length l1.length), (7, .int .i64 i2), (8, .int .i64 x10), (9, .int .i64 x11), (10, .int .i64 s3.2), (57, .bool (decide (s3.2 ≤ x11)))]) ?_ ?_
            · refine QRun_b [.int .i64 s3.2, .int .i64 x11, .bool (decide (s3.2 ≤ x11))] 0 _ (by kernel_rfl) (fun w => by kernel_rfl) ?_
              exact QRun_done [0, 4, 5, 7, 8, 9, 10, 57] (by kernel_rfl) (by kernel_rfl)
            refine Run_cond (b := decide (s3.2 ≤ x11)) (by kernel_rfl) (fun hb4 => ?_) (fun hb4 => ?_)
            · have hB3 := (M.ite_some hB3).1 hb4
              refine Run_skip ?_
              refine Run_seq ?_
              refine Run_block ?_
              obtain ⟨x13, hx10, hB3⟩ := M.bind_some hB3
              obtain ⟨hx10l, hx10u, hx10⟩ := M.idx_some hx10
              obtain ⟨x14, hx11, hB3⟩ := M.bind_some hB3
              obtain ⟨hx11l, hx11u, hx11⟩ := M.idx_some hx11
              obtain ⟨x15, hx12, hB3⟩ := M.bind_some hB3
              obtain ⟨x16, hx13, hB3⟩ := M.bind_some hB3
              obtain ⟨hx13l, hx13u, hx13⟩ := M.idx_some hx13
              refine Run_D (fun x => Hold h x [own cd2 a1 x2.length c1 x2, own cd2 a2 l1.length l1.length s3.1]) (fun x => Hold h x [own cd2 a1 x2.length c1 x2, own cd2 a2 l1.length l1.length s3.1]) mixed (by kernel_rfl) H16 Hold.stable (fun x Hy => (show Hold h x [own cd2 a1 x2.length c1 x2, own cd2 a2 l1.length l1.length s3.1] from Hy).pick [0, 1] (by kernel_rfl)) ?_
              refine DR_b 21 [.slice a2 l1.length l1.length, .int .i64 s3.2, .slice ac_ c_.length cc_, .int .i64 x10] 0 (by kernel_rfl) (by kernel_rfl) (by kernel_rfl) (fun w => by kernel_rfl) ?_
              refine DR_y 20 (i := 4) (.pointer (some (adr ac_ (x10.toNat * 1)))) (by kernel_rfl) (by kernel_rfl) (by kernel_rfl) (fun hx Hx => (YE.of (Y_idx (t := 22) (e := 2) (sz := 1) (a := ac_) (n := c_.length) (cap := cc_) (kk := .i64) (i := x10) (by kernel_rfl) Try.underlying22 (by kernel_rfl) ((rc_.at H16.ext).cell hx10).1 hx10l hx10u))) ?_
              refine DR_y 19 (i := 5) (.int .i64 x13) (by kernel_rfl) (by kernel_rfl) (by kernel_rfl) (fun hx Hx => (YE.of (Y_load1 (t := 2) (p := adr ac_ (x10.toNat * 1)) (v := .int .i64 x13) (by kernel_rfl) (fun w => by kernel_rfl) (cd2_cell (rc_.at Hx.ext) hx10)))) ?_
              refine DR_b 13 [.int .i64 x11, .int .i64 s3.2, .int .i64 (w64 (x11 - s3.2)), .int .i64 (w64 (x13 * (w64 (x11 - s3.2)))), .slice ac_ c_.length cc_, .int .i64 x11] 6 (by kernel_rfl) (by kernel_rfl) (by kernel_rfl) (fun w => by kernel_rfl) ?_
              refine DR_y 12 (i := 12) (.pointer (some (adr ac_ (x11.toNat * 1)))) (by kernel_rfl) (by kernel_rfl) (by kernel_rfl) (fun hx Hx => (YE.of (Y_idx (t := 22) (e := 2) (sz := 1) (a := ac_) (n := c_.length) (cap := cc_) (kk := .i64) (i := x11) (by kernel_rfl) Try.underlying22 (by kernel_rfl) ((rc_.at H16.ext).cell hx11).1 hx11l hx11u))) ?_
              refine DR_y 11 (i := 13) (.int .i64 x14) (by kernel_rfl) (by kernel_rfl) (by kernel_rfl) (fun hx Hx => (YE.of (Y_load1 (t := 2) (p := adr ac_ (x11.toNat * 1)) (v := .int .i64 x14) (by kernel_rfl) (fun w => by kernel_rfl) (cd2_cell (rc_.at Hx.ext) hx11)))) ?_
              refine DR_b 3 [.int .i64 s3.2, .int .i64 x10, .int .i64 (w64 (s3.2 - x10)), .int .i64 (w64 (x14 * (w64 (s3.2 - x10)))), .int .i64 (w64 ((w64 (x13 * (w64 (x11 - s3.2)))) + (w64 (x14 * (w64 (s3.2 - x10)))))), .int .i64 x11, .int .i64 x10, .int .i64 (w64 (x11 - x10))] 14 (by kernel_rfl) (by kernel_rfl) (by kernel_rfl) (fun w => by kernel_rfl) ?_
              refine DR_y 2 (i := 22) (.int .i64 x15) (by kernel_rfl) (by kernel_rfl) (by kernel_rfl) (fun hx Hx => (YE.of (Y_callq (f := 85) (args := #[.int .i64 (w64 ((w64 (x13 * (w64 (x11 - s3.2)))) + (w64 (x14 * (w64 (s3.2 - x10)))))), .int .i64 (w64 (x11 - x10))]) (v := .int .i64 x15) (by kernel_rfl) (w_impl_floorDiv hx (w64 ((w64 (x13 * (w64 (x11 - s3.2)))) + (w64 (x14 * (w64 (s3.2 - x10)))))) (w64 (x11 - x10)) _ _ hx12)))) ?_
              refine DR_y 1 (i := 23) (.pointer (some (adr a2 (s3.2.toNat * 1)))) (by kernel_rfl) (by kernel_rfl) (by kernel_rfl) (fun hx Hx => (YE.of (Y_idx (t := 22) (e := 2) (sz := 1) (a := a2) (n := l1.length) (cap := l1.length) (kk := .i64) (i := s3.2) (by kernel_rfl) Try.underlying22 (by kernel_rfl) ((H16.rd 1 rfl).cell hx13).1 hx13l (by rw [← (H16.len 1 rfl)]; exact hx13u)))) ?_
              refine DR_tail (i := 24) (by kernel_rfl) (by kernel_rfl) (by kernel_rfl) (fun h12 H18 => ?_)
              have H19 : Hold h h12 [own cd2 a1 x2.length c1 x2, own cd2 a2 l1.length l1.length s3.1] := H18
              obtain ⟨l4, hu3, hB3⟩ := M.bind_some hB3
              have hu3 := M.upd_some hu3
              have H21 : Hold h h12 [own cd2 a2 l1.length l1.length s3.1, own cd2 a1 x2.length c1 x2] := H19.pick [1, 0] (by kernel_rfl)
              refine Run_E (by kernel_rfl) ?_
              refine E_put (C := cd2) (t := 2) (sz := 1) (j := s3.2) (x := x15) (v := .int .i64 x15) H21 cd2_flat (by kernel_rfl) rfl (cd2_own _) (by kernel_rfl) hu3 (fun h13 H20 => ?_)
              refine Run_nil (by kernel_rfl) ?_
              refine Run_keep [0, 4, 5, 7, 8, 9, 10] (L' := [(0, .slice ac_ c_.length cc_), (4, .slice a1 x2.length c1), (5, .slice a2 l1.length l1.length), (7, .int .i64 i2), (8, .int .i64 x10), (9, .int .i64 x11), (10, .int .i64 s3.2)]) (by kernel_rfl) ?_
              refine Run_blk ?_
              refine Run_reg 3 (by kernel_rfl) (L' := [(0, .slice ac_ c_.length cc_), (4, .slice a1 x2.length c1), (5, .slice a2 l1.length l1.length), (7, .int .i64 i2), (8, .int .i64 x10), (9, .int .i64 x11), (10, .int .i64 (w64 (s3.2 + 1)))]) ?_ ?_
              · refine QRun_b [.int .i64 s3.2, .int .i64 (w64 (s3.2 + 1)), .int .i64 (w64 (s3.2 + 1))] 0 _ (by kernel_rfl) (fun w => by kernel_rfl) ?_
                exact QRun_done [0, 4, 5, 7, 8, 9, 10] (by kernel_rfl) (by kernel_rfl)
              have H22 : Hold h h13 [own cd2 a1 x2.length c1 x2, own cd2 a2 l1.length l1.length l4] := H20.pick [1, 0] (by kernel_rfl)
              have hB3 := M.ret_some hB3
              have gx12 := hgoy3 _ hB3.symm
              exact Run_again [0, 4, 5, 7, 8, 9, 10] (by kernel_rfl) my3 (Nat.lt_succ_self _) ⟨(l4, (w64 (s3.2 + 1))), gx12, rfl, H22⟩
            · have hB3 := (M.ite_some hB3).2 hb4
              refine Run_exit (k' := _) rfl ?_
              have hB3 := M.ret_some hB3
              have gx12 := houty3 _ hB3.symm
              subst gx12
              exact Run_fall [0, 4, 5, 7] (by kernel_rfl) ⟨rfl, H16⟩
        · have gx9 := M.for_end gx9 hb3
          subst gx9
          refine Run_exit (k' := _) rfl ?_
          have H23 : Hold h h8 [own cd2 a2 l1.length l1.length s2] := H14.pick [1] (by kernel_rfl)
          exact Run_fall [5] (by kernel_rfl) ⟨rfl, H23⟩
    · refine Run_block ?_
      have H26 : Hold h h2 [own cd2 a1 x2.length c1 x2, own cd2 a2 l1.length l1.length l1] := H4.pick [1, 0] (by kernel_rfl)
      refine Run_keep [0, 4, 5, 20, 21] (L' := [(0, .slice ac_ c_.length cc_), (4, .slice a1 x2.length c1), (5, .slice a2 l1.length l1.length), (20, .int .i64 (l1.length : Int)), (21, .int .i64 0)]) (by kernel_rfl) ?_
      refine Run_loop (fun m L' h' => ∃ (i1 : Int) (s1 : (List Int)), 0 ≤ i1 ∧ M.forN (l1.length : Int) _ _ n m i1 s1 = some x3 ∧ L' = [(0, .slice ac_ c_.length cc_), (4, .slice a1 x2.length c1), (5, .slice a2 l1.length l1.length), (20, .int .i64 (l1.length : Int)), (21, .int .i64 i1)] ∧ Hold h h' [own cd2 a1 x2.length c1 x2, own cd2 a2 l1.length l1.length s1]) ((l1.length : Int) - 0).toNat ⟨0, l1, Int.le_refl _, gx3, rfl, H26⟩ ?_
      rintro my1 _ h3 ⟨i1, s1, hloy1', gx3, rfl, H5⟩
      refine Run_seq ?_
      refine Run_reg 1 (by kernel_rfl) (L' := [(0, .slice ac_ c_.length cc_), (4, .slice a1 x2.length c1), (5, .slice a2 l1.length l1.length), (20, .int .i64 (l1.length : Int)), (21, .int .i64 i1), (22, .bool (decide (i1 < (l1.length : Int))))]) ?_ ?_
      · refine QRun_b [.bool (decide (i1 < (l1.length : Int)))] 0 _ (by kernel_rfl) (fun w => by kernel_rfl) ?_
        exact QRun_done [0, 4, 5, 20, 21, 22] (by kernel_rfl) (by kernel_rfl)
      refine Run_seq ?_
      refine Run_cond (b := decide (i1 < (l1.length : Int))) (by kernel_rfl) (fun hb2 => ?_) (fun hb2 => ?_)
      · obtain ⟨my1, y1, rfl, hB1, hgoy1, houty1⟩ := M.for_go gx3 hb2
        have hlty1 := of_decide_eq_true hb2
        refine Run_skip ?_
        refine Run_seq ?_
        refine Run_block ?_
        refine Run_seq ?_
        refine Run_reg 2 (by kernel_rfl) (L' := [(0, .slice ac_ c_.length cc_), (4, .slice a1 x2.length c1), (5, .slice a2 l1.length l1.length), (6, .int .i64 i1), (20, .int .i64 (l1.length : Int)), (21, .int .i64 i1)]) ?_ ?_
        · refine QRun_b [.int .i64 i1, .int .i64 i1] 0 _ (by kernel_rfl) (fun w => by kernel_rfl) ?_
          exact QRun_done [0, 4, 5, 6, 20, 21] (by kernel_rfl) (by kernel_rfl)
        refine Run_ops ?_
        obtain ⟨x4, hx3, hB1⟩ := M.bind_some hB1
        obtain ⟨hx3l, hx3u, hx3⟩ := M.idx_some hx3
        refine Run_b [.slice a2 l1.length l1.length, .int .i64 i1] 0 _ (by kernel_rfl) (fun w => by kernel_rfl) ?_
        refine Run_y (.pointer (some (adr a2 (i1.toNat * 1)))) (by kernel_rfl) (Y_idx (t := 22) (e := 2) (sz := 1) (a := a2) (n := l1.length) (cap := l1.length) (kk := .i64) (i := i1) (by kernel_rfl) Try.underlying22 (by kernel_rfl) ((H5.rd 1 rfl).cell hx3).1 hx3l (by rw [← (H5.len 1 rfl)]; exact hx3u)) ?_
        obtain ⟨l2, hu1, hB1⟩ := M.bind_some hB1
        have hu1 := M.upd_some hu1
        have H8 : Hold h h3 [own cd2 a2 l1.length l1.length s1, own cd2 a1 x2.length c1 x2] := H5.pick [1, 0] (by kernel_rfl)
        refine Run_E (by kernel_rfl) ?_
        refine E_put (C := cd2) (t := 2) (sz := 1) (j := i1) (x := (-1000000000000000)) (v := .int .i64 (-1000000000000000)) H8 cd2_flat (by kernel_rfl) rfl (cd2_own _) (by kernel_rfl) hu1 (fun h5 H7 => ?_)
        refine Run_nil (by kernel_rfl) ?_
        refine Run_keep [0, 4, 5, 20, 21] (L' := [(0, .slice ac_ c_.length cc_), (4, .slice a1 x2.length c1), (5, .slice a2 l1.length l1.length), (20, .int .i64 (l1.length : Int)), (21, .int .i64 i1)]) (by kernel_rfl) ?_
        refine Run_blk ?_
        refine Run_reg 2 (by kernel_rfl) (L' := [(0, .slice ac_ c_.length cc_), (4, .slice a1 x2.length c1), (5, .slice a2 l1.length l1.length), (20, .int .i64 (l1.length : Int)), (21, .int .i64 (i1 + 1))]) ?_ ?_
        · refine QRun_y (.int .i64 (i1 + 1)) (by kernel_rfl) (Y_eq (v := .int .i64 (w64 (i1 + 1))) (Y_pure (fun w => by kernel_rfl)) (by rw [w64_eq _ (by omega)])) ?_
          refine QRun_b [.int .i64 (i1 + 1)] 1 _ (by kernel_rfl) (fun w => by kernel_rfl) ?_
          exact QRun_done [0, 4, 5, 20, 21] (by kernel_rfl) (by kernel_rfl)
        have H9 : Hold h h5 [own cd2 a1 x2.length c1 x2, own cd2 a2 l1.length l1.length l2] := H7.pick [1, 0] (by kernel_rfl)
        have hB1 := M.ret_some hB1
        have gx3 := hgoy1 _ hB1.symm
        exact Run_again [0, 4, 5, 20, 21] (by kernel_rfl) my1 (Nat.lt_succ_self _) ⟨i1 + 1, l2, by omega, gx3, rfl, H9⟩
      · have gx3 := M.for_end gx3 hb2
        subst gx3
        refine Run_exit (k' := _) rfl ?_
        exact Run_fall [0, 4, 5] (by kernel_rfl) ⟨rfl, H5⟩

set_option maxRecDepth 100000 in
set_option maxHeartbeats 4000000 in
theorem w_laws_eqInt64S (h : Heap) (a_ : List Int) {Sa_ : Bs} (aa_ : Option Addr) (ca_ : Nat) (ra_ : Rd cd2 h Sa_ aa_ ca_ a_) (b : List Int) {Sb : Bs} (ab : Option Addr) (cb : Nat) (rb : Rd cd2 h Sb ab cb b) (n : Nat) (r : Bool) (hF : laws_eqInt64S a_ b n = some r) :
    Fn Try.prog 17 #[.slice aa_ a_.length ca_, .slice ab b.length cb] h fun v h' => v = .bool r ∧ h' = h := by
  unfold laws_eqInt64S at hF
  refine Fn_enter (args := [.slice aa_ a_.length ca_, .slice ab b.length cb]) Try.func17 rfl (by kernel_rfl) (by kernel_rfl) (fun w0 _ => ?_)
  refine Run_seq ?_
  refine Run_reg 1 (by kernel_rfl) (L' := [(0, .slice aa_ a_.length ca_), (1, .slice ab b.length cb)]) ?_ ?_
  · refine QRun_b [.bool false] 0 _ (by kernel_rfl) (fun w => by kernel_rfl) ?_
    exact QRun_done [0, 1] (by kernel_rfl) (by kernel_rfl)
  refine Run_seq ?_
  refine Run_seq ?_
  refine Run_reg 5 (by kernel_rfl) (L' := [(0, .slice aa_ a_.length ca_), (1, .slice ab b.length cb), (10, .bool ((a_.length : Int) != (b.length : Int)))]) ?_ ?_
  · refine QRun_b [.slice aa_ a_.length ca_, .int .i64 (a_.length : Int), .slice ab b.length cb, .int .i64 (b.length : Int), .bool ((a_.length : Int) != (b.length : Int))] 0 _ (by kernel_rfl) (fun w => by kernel_rfl) ?_
    exact QRun_done [0, 1, 10] (by kernel_rfl) (by kernel_rfl)
  refine Run_cond (b := (a_.length : Int) != (b.length : Int)) (by kernel_rfl) (fun hb1 => ?_) (fun hb1 => ?_)
  · have hF := (M.ite_some hF).1 hb1
    refine Run_seq ?_
    refine Run_reg 1 (by kernel_rfl) (L' := [(4, .bool false)]) ?_ ?_
    · refine QRun_b [.bool false] 0 _ (by kernel_rfl) (fun w => by kernel_rfl) ?_
      exact QRun_done [4] (by kernel_rfl) (by kernel_rfl)
    have hF := M.ret_some hF
    subst hF
    exact Run_ret1 rfl (ResV_tmp (v := .bool false) (by kernel_rfl)) ⟨rfl, rfl⟩
  · have hF := (M.ite_some hF).2 hb1
    refine Run_skip ?_
    refine Run_seq ?_
    refine Run_seq ?_
    refine Run_reg 1 (by kernel_rfl) (L' := [(0, .slice aa_ a_.length ca_), (1, .slice ab b.length cb), (5, .int .i64 0)]) ?_ ?_
    · refine QRun_b [.int .i64 0] 0 _ (by kernel_rfl) (fun w => by kernel_rfl) ?_
      exact QRun_done [0, 1, 5] (by kernel_rfl) (by kernel_rfl)
    obtain ⟨x1, gx1, hF⟩ := M.bind_some hF
    obtain ⟨hloy1, hhiy1, gx1⟩ := M.for_start gx1
    refine Run_join (fun L' h' => ∃ (s2 : Unit), x1 = .inl s2 ∧ L' = [] ∧ h = h') ?_ ?_
    · rintro _ _ ⟨s2, es2, rfl, rfl⟩
      have hF := M.cont_inl' hF es2
      refine Run_seq ?_
      refine Run_reg 1 (by kernel_rfl) (L' := [(4, .bool true)]) ?_ ?_
      · refine QRun_b [.bool true] 0 _ (by kernel_rfl) (fun w => by kernel_rfl) ?_
        exact QRun_done [4] (by kernel_rfl) (by kernel_rfl)
      have hF := M.ret_some hF
      subst hF
      exact Run_ret1 rfl (ResV_tmp (v := .bool true) (by kernel_rfl)) ⟨rfl, rfl⟩
    · refine Run_block ?_
      refine Run_keep [0, 1, 5] (L' := [(0, .slice aa_ a_.length ca_), (1, .slice ab b.length cb), (5, .int .i64 0)]) (by kernel_rfl) ?_
      refine Run_loop (fun m L' h' => ∃ (i1 : Int) (s1 : Unit), 0 ≤ i1 ∧ M.forN (a_.length : Int) _ _ n m i1 s1 = some x1 ∧ L' = [(0, .slice aa_ a_.length ca_), (1, .slice ab b.length cb), (5, .int .i64 i1)] ∧ h = h') ((a_.length : Int) - 0).toNat ⟨0, (), Int.le_refl _, gx1, rfl, rfl⟩ ?_
      rintro my1 _ _ ⟨i1, s1, hloy1', gx1, rfl, rfl⟩
      refine Run_seq ?_
      refine Run_seq ?_
      refine Run_reg 4 (by kernel_rfl) (L' := [(0, .slice aa_ a_.length ca_), (1, .slice ab b.length cb), (5, .int .i64 i1), (14, .bool (decide (i1 < (a_.length : Int))))]) ?_ ?_
      · refine QRun_b [.int .i64 i1, .slice aa_ a_.length ca_, .int .i64 (a_.length : Int), .bool (decide (i1 < (a_.length : Int)))] 0 _ (by kernel_rfl) (fun w => by kernel_rfl) ?_
        exact QRun_done [0, 1, 5, 14] (by kernel_rfl) (by kernel_rfl)
      refine Run_cond (b := decide (i1 < (a_.length : Int))) (by kernel_rfl) (fun hb2 => ?_) (fun hb2 => ?_)
      · obtain ⟨my1, y1, rfl, hB1, hgoy1, houty1⟩ := M.for_go gx1 hb2
        have hlty1 := of_decide_eq_true hb2
        refine Run_skip ?_
        refine Run_seq ?_
        refine Run_block ?_
        refine Run_seq ?_
        obtain ⟨x2, hx1, hB1⟩ := M.bind_some hB1
        obtain ⟨hx1l, hx1u, hx1⟩ := M.idx_some hx1
        obtain ⟨x3, hx2, hB1⟩ := M.bind_some hB1
        obtain ⟨hx2l, hx2u, hx2⟩ := M.idx_some hx2
        refine Run_draw 9 mixed (by kernel_rfl) (by kernel_rfl) (L' := [(0, .slice aa_ a_.length ca_), (1, .slice ab b.length cb), (5, .int .i64 i1), (25, .bool (x2 != x3))]) ?_ ?_
        · refine QRun_b [.slice aa_ a_.length ca_, .int .i64 i1] 0 _ (by kernel_rfl) (fun w => by kernel_rfl) ?_
          refine QRun_y (.pointer (some (adr aa_ (i1.toNat * 1)))) (by kernel_rfl) (Y_idx (t := 22) (e := 2) (sz := 1) (a := aa_) (n := a_.length) (cap := ca_) (kk := .i64) (i := i1) (by kernel_rfl) Try.underlying22 (by kernel_rfl) (ra_.cell hx1).1 hx1l hx1u) ?_
          refine QRun_y (.int .i64 x2) (by kernel_rfl) (Y_load1 (t := 2) (p := adr aa_ (i1.toNat * 1)) (v := .int .i64 x2) (by kernel_rfl) (fun w => by kernel_rfl) (cd2_cell ra_ hx1)) ?_
          refine QRun_b [.slice ab b.length cb, .int .i64 i1] 4 _ (by kernel_rfl) (fun w => by kernel_rfl) ?_
          refine QRun_y (.pointer (some (adr ab (i1.toNat * 1)))) (by kernel_rfl) (Y_idx (t := 22) (e := 2) (sz := 1) (a := ab) (n := b.length) (cap := cb) (kk := .i64) (i := i1) (by kernel_rfl) Try.underlying22 (by kernel_rfl) (rb.cell hx2).1 hx2l hx2u) ?_
          refine QRun_y (.int .i64 x3) (by kernel_rfl) (Y_load1 (t := 2) (p := adr ab (i1.toNat * 1)) (v := .int .i64 x3) (by kernel_rfl) (fun w => by kernel_rfl) (cd2_cell rb hx2)) ?_
          refine QRun_b [.bool (x2 != x3)] 8 _ (by kernel_rfl) (fun w => by kernel_rfl) ?_
          exact QRun_done [0, 1, 5, 25] (by kernel_rfl) (by kernel_rfl)
        refine Run_cond (b := x2 != x3) (by kernel_rfl) (fun hb3 => ?_) (fun hb3 => ?_)
        · have hB1 := (M.ite_some hB1).1 hb3
          refine Run_seq ?_
          refine Run_reg 1 (by kernel_rfl) (L' := [(4, .bool false)]) ?_ ?_
          · refine QRun_b [.bool false] 0 _ (by kernel_rfl) (fun w => by kernel_rfl) ?_
            exact QRun_done [4] (by kernel_rfl) (by kernel_rfl)
          have hB1 := M.ret_some hB1
          have gx1 := houty1 _ hB1.symm
          have hF := M.cont_inr' hF gx1
          have hF := M.ret_some hF
          subst hF
          exact Run_ret1 rfl (ResV_tmp (v := .bool false) (by kernel_rfl)) ⟨rfl, rfl⟩
        · have hB1 := (M.ite_some hB1).2 hb3
          refine Run_skip ?_
          refine Run_blk ?_
          refine Run_reg 3 (by kernel_rfl) (L' := [(0, .slice aa_ a_.length ca_), (1, .slice ab b.length cb), (5, .int .i64 (i1 + 1))]) ?_ ?_
          · refine QRun_b [.int .i64 i1] 0 _ (by kernel_rfl) (fun w => by kernel_rfl) ?_
            refine QRun_y (.int .i64 (i1 + 1)) (by kernel_rfl) (Y_eq (v := .int .i64 (w64 (i1 + 1))) (Y_pure (fun w => by kernel_rfl)) (by rw [w64_eq _ (by omega)])) ?_
            refine QRun_b [.int .i64 (i1 + 1)] 2 _ (by kernel_rfl) (fun w => by kernel_rfl) ?_
            exact QRun_done [0, 1, 5] (by kernel_rfl) (by kernel_rfl)
          have hB1 := M.ret_some hB1
          have gx1 := hgoy1 _ hB1.symm
          exact Run_again [0, 1, 5] (by kernel_rfl) my1 (Nat.lt_succ_self _) ⟨i1 + 1, (), by omega, gx1, rfl, rfl⟩
      · have gx1 := M.for_end gx1 hb2
        subst gx1
        refine Run_exit (k' := _) rfl ?_
        exact Run_fall [] (by kernel_rfl) ⟨(), rfl, rfl, rfl⟩

set_option maxRecDepth 100000 in
set_option maxHeartbeats 4000000 in
theorem w_laws_heldInt64S (h : Heap) (a_ : List Int) {Sa_ : Bs} (aa_ : Option Addr) (ca_ : Nat) (ra_ : Rd cd2 h Sa_ aa_ ca_ a_) (k_ : Int) (n : Nat) (r : Int) (hF : laws_heldInt64S a_ k_ n = some r) :
    Fn Try.prog 26 #[.slice aa_ a_.length ca_, .int .i64 k_] h fun v h' => v = .int .i64 r ∧ h' = h := by
  unfold laws_heldInt64S at hF
  refine Fn_enter (args := [.slice aa_ a_.length ca_, .int .i64 k_]) Try.func26 rfl (by kernel_rfl) (by kernel_rfl) (fun w0 _ => ?_)
  refine Run_seq ?_
  refine Run_reg 1 (by kernel_rfl) (L' := [(0, .slice aa_ a_.length ca_), (1, .int .i64 k_)]) ?_ ?_
  · refine QRun_b [.int .i64 0] 0 _ (by kernel_rfl) (fun w => by kernel_rfl) ?_
    exact QRun_done [0, 1] (by kernel_rfl) (by kernel_rfl)
  refine Run_seq ?_
  refine Run_seq ?_
  refine Run_reg 1 (by kernel_rfl) (L' := [(0, .slice aa_ a_.length ca_), (1, .int .i64 k_), (5, .int .i64 0)]) ?_ ?_
  · refine QRun_b [.int .i64 0] 0 _ (by kernel_rfl) (fun w => by kernel_rfl) ?_
    exact QRun_done [0, 1, 5] (by kernel_rfl) (by kernel_rfl)
  obtain ⟨x1, gx1, hF⟩ := M.bind_some hF
  obtain ⟨hloy1, hhiy1, gx1⟩ := M.for_start gx1
  refine Run_join (fun L' h' => ∃ (s2 : Int), x1 = .inl s2 ∧ L' = [(1, .int .i64 s2)] ∧ h = h') ?_ ?_
  · rintro _ _ ⟨s2, es2, rfl, rfl⟩
    have hF := M.cont_inl' hF es2
    refine Run_seq ?_
    refine Run_reg 2 (by kernel_rfl) (L' := [(4, .int .i64 s2)]) ?_ ?_
    · refine QRun_b [.int .i64 s2, .int .i64 s2] 0 _ (by kernel_rfl) (fun w => by kernel_rfl) ?_
      exact QRun_done [4] (by kernel_rfl) (by kernel_rfl)
    have hF := M.ret_some hF
    subst hF
    exact Run_ret1 rfl (ResV_tmp (v := .int .i64 s2) (by kernel_rfl)) ⟨rfl, rfl⟩
  · refine Run_block ?_
    refine Run_keep [0, 1, 5] (L' := [(0, .slice aa_ a_.length ca_), (1, .int .i64 k_), (5, .int .i64 0)]) (by kernel_rfl) ?_
    refine Run_loop (fun m L' h' => ∃ (i1 : Int) (s1 : Int), 0 ≤ i1 ∧ M.forN (a_.length : Int) _ _ n m i1 s1 = some x1 ∧ L' = [(0, .slice aa_ a_.length ca_), (1, .int .i64 s1), (5, .int .i64 i1)] ∧ h = h') ((a_.length : Int) - 0).toNat ⟨0, k_, Int.le_refl _, gx1, rfl, rfl⟩ ?_
    rintro my1 _ _ ⟨i1, s1, hloy1', gx1, rfl, rfl⟩
    refine Run_seq ?_
    refine Run_seq ?_
    refine Run_reg 4 (by kernel_rfl) (L' := [(0, .slice aa_ a_.length ca_), (1, .int .i64 s1), (5, .int .i64 i1), (9, .bool (decide (i1 < (a_.length : Int))))]) ?_ ?_
    · refine QRun_b [.int .i64 i1, .slice aa_ a_.length ca_, .int .i64 (a_.length : Int), .bool (decide (i1 < (a_.length : Int)))] 0 _ (by kernel_rfl) (fun w => by kernel_rfl) ?_
      exact QRun_done [0, 1, 5, 9] (by kernel_rfl) (by kernel_rfl)
    refine Run_cond (b := decide (i1 < (a_.length : Int))) (by kernel_rfl) (fun hb1 => ?_) (fun hb1 => ?_)
    · obtain ⟨my1, y1, rfl, hB1, hgoy1, houty1⟩ := M.for_go gx1 hb1
      have hlty1 := of_decide_eq_true hb1
      refine Run_skip ?_
      refine Run_seq ?_
      refine Run_block ?_
      refine Run_seq ?_
      refine Run_seq ?_
      obtain ⟨x2, hx1, hB1⟩ := M.bind_some hB1
      obtain ⟨hx1l, hx1u, hx1⟩ := M.idx_some hx1
      refine Run_reg 6 (by kernel_rfl) (L' := [(0, .slice aa_ a_.length ca_), (1, .int .i64 s1), (5, .int .i64 i1), (17, .bool (x2 != s1))]) ?_ ?_
      · refine QRun_b [.slice aa_ a_.length ca_, .int .i64 i1] 0 _ (by kernel_rfl) (fun w => by kernel_rfl) ?_
        refine QRun_y (.pointer (some (adr aa_ (i1.toNat * 1)))) (by kernel_rfl) (Y_idx (t := 22) (e := 2) (sz := 1) (a := aa_) (n := a_.length) (cap := ca_) (kk := .i64) (i := i1) (by kernel_rfl) Try.underlying22 (by kernel_rfl) (ra_.cell hx1).1 hx1l hx1u) ?_
        refine QRun_y (.int .i64 x2) (by kernel_rfl) (Y_load1 (t := 2) (p := adr aa_ (i1.toNat * 1)) (v := .int .i64 x2) (by kernel_rfl) (fun w => by kernel_rfl) (cd2_cell ra_ hx1)) ?_
        refine QRun_b [.int .i64 s1, .bool (x2 != s1)] 4 _ (by kernel_rfl) (fun w => by kernel_rfl) ?_
        exact QRun_done [0, 1, 5, 17] (by kernel_rfl) (by kernel_rfl)
      refine Run_cond (b := x2 != s1) (by kernel_rfl) (fun hb2 => ?_) (fun hb2 => ?_)
      · have hB1 := (M.ite_some hB1).1 hb2
        refine Run_seq ?_
        refine Run_reg 1 (by kernel_rfl) (L' := [(4, .int .i64 (-1))]) ?_ ?_
        · refine QRun_b [.int .i64 (-1)] 0 _ (by kernel_rfl) (fun w => by kernel_rfl) ?_
          exact QRun_done [4] (by kernel_rfl) (by kernel_rfl)
        have hB1 := M.ret_some hB1
        have gx1 := houty1 _ hB1.symm
        have hF := M.cont_inr' hF gx1
        have hF := M.ret_some hF
        subst hF
        exact Run_ret1 rfl (ResV_tmp (v := .int .i64 (-1)) (by kernel_rfl)) ⟨rfl, rfl⟩
      · have hB1 := (M.ite_some hB1).2 hb2
        refine Run_skip ?_
        refine Run_reg 3 (by kernel_rfl) (L' := [(0, .slice aa_ a_.length ca_), (1, .int .i64 (w64 (s1 + 1))), (5, .int .i64 i1)]) ?_ ?_
        · refine QRun_b [.int .i64 s1, .int .i64 (w64 (s1 + 1)), .int .i64 (w64 (s1 + 1))] 0 _ (by kernel_rfl) (fun w => by kernel_rfl) ?_
          exact QRun_done [0, 1, 5] (by kernel_rfl) (by kernel_rfl)
        refine Run_blk ?_
        refine Run_reg 3 (by kernel_rfl) (L' := [(0, .slice aa_ a_.length ca_), (1, .int .i64 (w64 (s1 + 1))), (5, .int .i64 (i1 + 1))]) ?_ ?_
        · refine QRun_b [.int .i64 i1] 0 _ (by kernel_rfl) (fun w => by kernel_rfl) ?_
          refine QRun_y (.int .i64 (i1 + 1)) (by kernel_rfl) (Y_eq (v := .int .i64 (w64 (i1 + 1))) (Y_pure (fun w => by kernel_rfl)) (by rw [w64_eq _ (by omega)])) ?_
          refine QRun_b [.int .i64 (i1 + 1)] 2 _ (by kernel_rfl) (fun w => by kernel_rfl) ?_
          exact QRun_done [0, 1, 5] (by kernel_rfl) (by kernel_rfl)
        have hB1 := M.ret_some hB1
        have gx1 := hgoy1 _ hB1.symm
        exact Run_again [0, 1, 5] (by kernel_rfl) my1 (Nat.lt_succ_self _) ⟨i1 + 1, (w64 (s1 + 1)), by omega, gx1, rfl, rfl⟩
    · have gx1 := M.for_end gx1 hb1
      subst gx1
      refine Run_exit (k' := _) rfl ?_
      exact Run_fall [1] (by kernel_rfl) ⟨s1, rfl, rfl, rfl⟩

set_option maxRecDepth 100000 in
set_option maxHeartbeats 4000000 in
theorem w_laws_markInt64S (h hE : Heap) (it : Item) (a_ : List Int) (aa_ : Option Addr) (ca_ : Nat) (k_ : Int) (HM : Hold h hE [own cd2 aa_ a_.length ca_ a_, it]) (n : Nat) (r : Int × (List Int)) (hF : laws_markInt64S a_ k_ n = some r) :
    Fn Try.prog 25 #[.slice aa_ a_.length ca_, .int .i64 k_] hE fun v h' => v = .int .i64 r.1 ∧ Hold h h' [own cd2 aa_ a_.length ca_ r.2, it] := by
  unfold laws_markInt64S at hF
  refine Fn_enter (args := [.slice aa_ a_.length ca_, .int .i64 k_]) Try.func25 rfl (by kernel_rfl) (by kernel_rfl) (fun w0 _ => ?_)
  refine Run_seq ?_
  refine Run_reg 1 (by kernel_rfl) (L' := [(0, .slice aa_ a_.length ca_), (1, .int .i64 k_)]) ?_ ?_
  · refine QRun_b [.int .i64 0] 0 _ (by kernel_rfl) (fun w => by kernel_rfl) ?_
    exact QRun_done [0, 1] (by kernel_rfl) (by kernel_rfl)
  refine Run_seq ?_
  refine Run_seq ?_
  refine Run_reg 1 (by kernel_rfl) (L' := [(0, .slice aa_ a_.length ca_), (1, .int .i64 k_), (5, .int .i64 0)]) ?_ ?_
  · refine QRun_b [.int .i64 0] 0 _ (by kernel_rfl) (fun w => by kernel_rfl) ?_
    exact QRun_done [0, 1, 5] (by kernel_rfl) (by kernel_rfl)
  obtain ⟨x1, gx1, hF⟩ := M.bind_some hF
  obtain ⟨hloy1, hhiy1, gx1⟩ := M.for_start gx1
  refine Run_join (fun L' h' => L' = [(1, .int .i64 x1.2)] ∧ Hold h h' [own cd2 aa_ a_.length ca_ x1.1, it]) ?_ ?_
  · rintro _ h2 ⟨rfl, H2⟩
    refine Run_seq ?_
    refine Run_reg 2 (by kernel_rfl) (L' := [(4, .int .i64 x1.2)]) ?_ ?_
    · refine QRun_b [.int .i64 x1.2, .int .i64 x1.2] 0 _ (by kernel_rfl) (fun w => by kernel_rfl) ?_
      exact QRun_done [4] (by kernel_rfl) (by kernel_rfl)
    have hF := M.ret_some hF
    subst hF
    exact Run_ret1 rfl (ResV_tmp (v := .int .i64 x1.2) (by kernel_rfl)) ⟨rfl, H2⟩
  · refine Run_block ?_
    refine Run_keep [0, 1, 5] (L' := [(0, .slice aa_ a_.length ca_), (1, .int .i64 k_), (5, .int .i64 0)]) (by kernel_rfl) ?_
    refine Run_loop (fun m L' h' => ∃ (i1 : Int) (s1 : (List Int) × Int), 0 ≤ i1 ∧ M.forN (a_.length : Int) _ _ n m i1 s1 = some x1 ∧ L' = [(0, .slice aa_ a_.length ca_), (1, .int .i64 s1.2), (5, .int .i64 i1)] ∧ Hold h h' [own cd2 aa_ a_.length ca_ s1.1, it]) ((a_.length : Int) - 0).toNat ⟨0, (a_, k_), Int.le_refl _, gx1, rfl, HM⟩ ?_
    rintro my1 _ h1 ⟨i1, s1, hloy1', gx1, rfl, H1⟩
    refine Run_seq ?_
    refine Run_seq ?_
    refine Run_reg 4 (by kernel_rfl) (L' := [(0, .slice aa_ a_.length ca_), (1, .int .i64 s1.2), (5, .int .i64 i1), (9, .bool (decide (i1 < (a_.length : Int))))]) ?_ ?_
    · refine QRun_b [.int .i64 i1, .slice aa_ a_.length ca_, .int .i64 (a_.length : Int), .bool (decide (i1 < (a_.length : Int)))] 0 _ (by kernel_rfl) (fun w => by kernel_rfl) ?_
      exact QRun_done [0, 1, 5, 9] (by kernel_rfl) (by kernel_rfl)
    refine Run_cond (b := decide (i1 < (a_.length : Int))) (by kernel_rfl) (fun hb1 => ?_) (fun hb1 => ?_)
    · obtain ⟨my1, y1, rfl, hB1, hgoy1, houty1⟩ := M.for_go gx1 hb1
      have hlty1 := of_decide_eq_true hb1
      refine Run_skip ?_
      refine Run_seq ?_
      refine Run_block ?_
      refine Run_seq ?_
      refine Run_ops ?_
      obtain ⟨x2, hx1, hB1⟩ := M.bind_some hB1
      obtain ⟨hx1l, hx1u, hx1⟩ := M.idx_some hx1
      refine Run_b [.slice aa_ a_.length ca_, .int .i64 i1, .int .i64 s1.2] 0 _ (by kernel_rfl) (fun w => by kernel_rfl) ?_
      refine Run_y (.pointer (some (adr aa_ (i1.toNat * 1)))) (by kernel_rfl) (Y_idx (t := 22) (e := 2) (sz := 1) (a := aa_) (n := a_.length) (cap := ca_) (kk := .i64) (i := i1) (by kernel_rfl) Try.underlying22 (by kernel_rfl) ((H1.rd 0 rfl).cell hx1).1 hx1l (by rw [← (H1.len 0 rfl)]; exact hx1u)) ?_
      obtain ⟨l1, hu1, hB1⟩ := M.bind_some hB1
      have hu1 := M.upd_some hu1
      refine Run_E (by kernel_rfl) ?_
      refine E_put (C := cd2) (t := 2) (sz := 1) (j := i1) (x := s1.2) (v := .int .i64 s1.2) H1 cd2_flat (by kernel_rfl) rfl (cd2_own _) (by kernel_rfl) hu1 (fun h3 H3 => ?_)
      refine Run_nil (by kernel_rfl) ?_
      refine Run_keep [0, 1, 5] (L' := [(0, .slice aa_ a_.length ca_), (1, .int .i64 s1.2), (5, .int .i64 i1)]) (by kernel_rfl) ?_
      refine Run_reg 3 (by kernel_rfl) (L' := [(0, .slice aa_ a_.length ca_), (1, .int .i64 (w64 (s1.2 + 1))), (5, .int .i64 i1)]) ?_ ?_
      · refine QRun_b [.int .i64 s1.2, .int .i64 (w64 (s1.2 + 1)), .int .i64 (w64 (s1.2 + 1))] 0 _ (by kernel_rfl) (fun w => by kernel_rfl) ?_
        exact QRun_done [0, 1, 5] (by kernel_rfl) (by kernel_rfl)
      refine Run_blk ?_
      refine Run_reg 3 (by kernel_rfl) (L' := [(0, .slice aa_ a_.length ca_), (1, .int .i64 (w64 (s1.2 + 1))), (5, .int .i64 (i1 + 1))]) ?_ ?_
      · refine QRun_b [.int .i64 i1] 0 _ (by kernel_rfl) (fun w => by kernel_rfl) ?_
        refine QRun_y (.int .i64 (i1 + 1)) (by kernel_rfl) (Y_eq (v := .int .i64 (w64 (i1 + 1))) (Y_pure (fun w => by kernel_rfl)) (by rw [w64_eq _ (by omega)])) ?_
        refine QRun_b [.int .i64 (i1 + 1)] 2 _ (by kernel_rfl) (fun w => by kernel_rfl) ?_
        exact QRun_done [0, 1, 5] (by kernel_rfl) (by kernel_rfl)
      have hB1 := M.ret_some hB1
      have gx1 := hgoy1 _ hB1.symm
      exact Run_again [0, 1, 5] (by kernel_rfl) my1 (Nat.lt_succ_self _) ⟨i1 + 1, (l1, (w64 (s1.2 + 1))), by omega, gx1, rfl, H3⟩
    · have gx1 := M.for_end gx1 hb1
      subst gx1
      refine Run_exit (k' := _) rfl ?_
      exact Run_fall [1] (by kernel_rfl) ⟨rfl, H1⟩

set_option maxRecDepth 100000 in
set_option maxHeartbeats 4000000 in
theorem w_laws_FnExactFullPolynomial (h : Heap) (aC : List Int) (aaC : Option Addr) (caC : Nat) (raC : Rd cd2 h (Lt h) aaC caC aC) (n : Nat) (r : Bool) (hF : laws_FnExactFullPolynomial aC n = some r) :
    Fn Try.prog 12 #[.slice aaC aC.length caC] h fun v h' => v = .bool r ∧ Hold h h' [] := by
  unfold laws_FnExactFullPolynomial at hF
  refine Fn_enter (args := [.slice aaC aC.length caC]) Try.func12 rfl (by kernel_rfl) (by kernel_rfl) (fun w0 _ => ?_)
  have H0 := Hold.init h
  refine Run_seq ?_
  refine Run_reg 1 (by kernel_rfl) (L' := [(0, .slice aaC aC.length caC)]) ?_ ?_
  · refine QRun_b [.bool false] 0 _ (by kernel_rfl) (fun w => by kernel_rfl) ?_
    exact QRun_done [0] (by kernel_rfl) (by kernel_rfl)
  refine Run_seq ?_
  refine Run_seq ?_
  refine Run_reg 3 (by kernel_rfl) (L' := [(0, .slice aaC aC.length caC), (15, .bool (decide (1048576 < (aC.length : Int))))]) ?_ ?_
  · refine QRun_b [.slice aaC aC.length caC, .int .i64 (aC.length : Int), .bool (decide (1048576 < (aC.length : Int)))] 0 _ (by kernel_rfl) (fun w => by kernel_rfl) ?_
    exact QRun_done [0, 15] (by kernel_rfl) (by kernel_rfl)
  refine Run_cond (b := decide (1048576 < (aC.length : Int))) (by kernel_rfl) (fun hb1 => ?_) (fun hb1 => ?_)
  · have hF := (M.ite_some hF).1 hb1
    refine Run_seq ?_
    refine Run_reg 1 (by kernel_rfl) (L' := [(2, .bool true)]) ?_ ?_
    · refine QRun_b [.bool true] 0 _ (by kernel_rfl) (fun w => by kernel_rfl) ?_
      exact QRun_done [2] (by kernel_rfl) (by kernel_rfl)
    have hF := M.ret_some hF
    subst hF
    exact Run_ret1 rfl (ResV_tmp (v := .bool true) (by kernel_rfl)) ⟨rfl, H0⟩
  · have hF := (M.ite_some hF).2 hb1
    refine Run_skip ?_
    refine Run_seq ?_
    refine Run_ops ?_
    refine Run_b [.slice aaC aC.length caC] 0 _ (by kernel_rfl) (fun w => by kernel_rfl) ?_
    obtain ⟨x1, hx1, hF⟩ := M.bind_some hF
    refine Run_E (by kernel_rfl) ?_
    refine E_call (f := 15) (args := #[.slice aaC aC.length caC]) (w_laws_toInt64S h aC aaC caC raC _ _ hx1) (by kernel_rfl) (fun v1 h1 hp1 => ?_)
    obtain ⟨a1, c1, rfl, H1⟩ := hp1
    have H2 : Hold h h1 [own cd2 a1 x1.length c1 x1] := H0.call H1 rfl
    obtain ⟨x2, hx2, hF⟩ := M.bind_some hF
    refine Run_E (by kernel_rfl) ?_
    refine E_call (f := 42) (args := #[.slice a1 x1.length c1]) (w_spec_FullPolynomial h1 x1 a1 c1 (H2.rd 0 rfl) _ _ hx2) (by kernel_rfl) (fun v2 h2 hp2 => ?_)
    obtain ⟨a2, c2, rfl, H3⟩ := hp2
    have H4 : Hold h h2 [own cd2 a2 x2.1.length c2 x2.1, own cd2 a1 x1.length c1 x1] := H2.call H3 rfl
    refine Run_b [.tuple #[.slice a2 x2.1.length c2, .int .i64 x2.2], .slice a2 x2.1.length c2, .int .i64 x2.2, .slice a2 x2.1.length c2, .int .i64 x2.2] 3 _ (by kernel_rfl) (fun w => by kernel_rfl) ?_
    refine Run_nil (by kernel_rfl) ?_
    refine Run_keep [0, 3, 4] (L' := [(0, .slice aaC aC.length caC), (3, .slice a2 x2.1.length c2), (4, .int .i64 x2.2)]) (by kernel_rfl) ?_
    refine Run_seq ?_
    refine Run_ops ?_
    refine Run_b [.slice aaC aC.length caC] 0 _ (by kernel_rfl) (fun w => by kernel_rfl) ?_
    obtain ⟨x3, hx3, hF⟩ := M.bind_some hF
    refine Run_E (by kernel_rfl) ?_
    refine E_call (f := 15) (args := #[.slice aaC aC.length caC]) (w_laws_toInt64S h2 aC aaC caC (raC.at H4.ext) _ _ hx3) (by kernel_rfl) (fun v3 h3 hp3 => ?_)
    obtain ⟨a3, c3, rfl, H5⟩ := hp3
    have H6 : Hold h h3 [own cd2 a3 x3.length c3 x3, own cd2 a2 x2.1.length c2 x2.1, own cd2 a1 x1.length c1 x1] := H4.call H5 rfl
    refine Run_b [.slice a3 x3.length c3] 2 _ (by kernel_rfl) (fun w => by kernel_rfl) ?_
    refine Run_nil (by kernel_rfl) ?_
    refine Run_keep [0, 3, 4, 5] (L' := [(0, .slice aaC aC.length caC), (3, .slice a2 x2.1.length c2), (4, .int .i64 x2.2), (5, .slice a3 x3.length c3)]) (by kernel_rfl) ?_
    refine Run_seq ?_
    refine Run_ops ?_
    refine Run_b [.slice a3 x3.length c3] 0 _ (by kernel_rfl) (fun w => by kernel_rfl) ?_
    obtain ⟨x4, hx4, hF⟩ := M.bind_some hF
    refine Run_E (by kernel_rfl) ?_
    refine E_call (f := 43) (args := #[.slice a3 x3.length c3]) (w_impl_FullPolynomial h3 x3 a3 c3 (H6.rd 0 rfl) _ _ hx4) (by kernel_rfl) (fun v4 h4 hp4 => ?_)
    obtain ⟨a4, c4, rfl, H7⟩ := hp4
    have H8 : Hold h h4 [own cd2 a4 x4.1.length c4 x4.1, own cd2 a3 x3.length c3 x3, own cd2 a2 x2.1.length c2 x2.1, own cd2 a1 x1.length c1 x1] := H6.call H7 rfl
    refine Run_b [.tuple #[.slice a4 x4.1.length c4, .int .i64 x4.2], .slice a4 x4.1.length c4, .int .i64 x4.2, .slice a4 x4.1.length c4, .int .i64 x4.2] 2 _ (by kernel_rfl) (fun w => by kernel_rfl) ?_
    refine Run_nil (by kernel_rfl) ?_
    refine Run_keep [0, 3, 4, 5, 6, 7] (L' := [(0, .slice aaC aC.length caC), (3, .slice a2 x2.1.length c2), (4, .int .i64 x2.2), (5, .slice a3 x3.length c3), (6, .slice a4 x4.1.length c4), (7, .int .i64 x4.2)]) (by kernel_rfl) ?_
    refine Run_seq ?_
    refine Run_seq ?_
    obtain ⟨x5, hx5, hF⟩ := M.bind_some hF
    refine Run_reg 9 (by kernel_rfl) (L' := [(0, .slice aaC aC.length caC), (3, .slice a2 x2.1.length c2), (4, .int .i64 x2.2), (5, .slice a3 x3.length c3), (6, .slice a4 x4.1.length c4), (7, .int .i64 x4.2), (37, .bool ((!x5) || (x4.2 != x2.2)))]) ?_ ?_
    · refine QRun_b [.slice a4 x4.1.length c4, .slice a2 x2.1.length c2] 0 _ (by kernel_rfl) (fun w => by kernel_rfl) ?_
      refine QRun_y (.bool x5) (by kernel_rfl) (Y_callq (f := 17) (args := #[.slice a4 x4.1.length c4, .slice a2 x2.1.length c2]) (v := .bool x5) (by kernel_rfl) (w_laws_eqInt64S h4 x4.1 a4 c4 (H8.rd 0 rfl) x2.1 a2 c2 (H8.rd 2 rfl) _ _ hx5)) ?_
      refine QRun_b [.bool (!x5)] 3 _ (by kernel_rfl) (fun w => by kernel_rfl) ?_
      refine QRun_seq 9 [(0, .slice aaC aC.length caC), (3, .slice a2 x2.1.length c2), (4, .int .i64 x2.2), (5, .slice a3 x3.length c3), (6, .slice a4 x4.1.length c4), (7, .int .i64 x4.2), (37, .bool ((!x5) || (x4.2 != x2.2)))] ?_ ?_
      · rcases Bool.eq_false_or_eq_true (!x5) with hb2 | hb2
        · refine QRun_bool (!x5) true (by kernel_rfl) (fun w => by kernel_rfl) hb2 ?_
          refine QRun_n (by kernel_rfl) ?_
          refine QRun_n (by kernel_rfl) ?_
          refine QRun_n (by kernel_rfl) ?_
          refine QRun_bool true ((!x5) || (x4.2 != x2.2)) (by kernel_rfl) (fun w => by kernel_rfl) (by rw [hb2]; rfl) ?_
          exact QRun_done [0, 3, 4, 5, 6, 7, 37] (by kernel_rfl) (by kernel_rfl)
        · refine QRun_bool (!x5) false (by kernel_rfl) (fun w => by kernel_rfl) hb2 ?_
          refine QRun_b [.int .i64 x4.2, .int .i64 x2.2, .bool (x4.2 != x2.2)] 5 _ (by kernel_rfl) (fun w => by kernel_rfl) ?_
          refine QRun_bool (x4.2 != x2.2) ((!x5) || (x4.2 != x2.2)) (by kernel_rfl) (fun w => by kernel_rfl) (by rw [hb2]; rfl) ?_
          exact QRun_done [0, 3, 4, 5, 6, 7, 37] (by kernel_rfl) (by kernel_rfl)
      exact QRun_done [0, 3, 4, 5, 6, 7, 37] (by kernel_rfl) (by kernel_rfl)
    refine Run_cond (b := (!x5) || (x4.2 != x2.2)) (by kernel_rfl) (fun hb3 => ?_) (fun hb3 => ?_)
    · have hF := (M.ite_some hF).1 hb3
      refine Run_seq ?_
      refine Run_reg 1 (by kernel_rfl) (L' := [(2, .bool false)]) ?_ ?_
      · refine QRun_b [.bool false] 0 _ (by kernel_rfl) (fun w => by kernel_rfl) ?_
        exact QRun_done [2] (by kernel_rfl) (by kernel_rfl)
      have hF := M.ret_some hF
      subst hF
      have H9 : Hold h h4 [] := H8.pick [] (by kernel_rfl)
      exact Run_ret1 rfl (ResV_tmp (v := .bool false) (by kernel_rfl)) ⟨rfl, H9⟩
    · have hF := (M.ite_some hF).2 hb3
      refine Run_skip ?_
      refine Run_seq ?_
      refine Run_seq ?_
      refine Run_ops ?_
      refine Run_b [.slice a3 x3.length c3, .slice aaC aC.length caC] 0 _ (by kernel_rfl) (fun w => by kernel_rfl) ?_
      obtain ⟨x7, hx6, hF⟩ := M.bind_some hF
      refine Run_E (by kernel_rfl) ?_
      refine E_call (f := 15) (args := #[.slice aaC aC.length caC]) (w_laws_toInt64S h4 aC aaC caC (raC.at H8.ext) _ _ hx6) (by kernel_rfl) (fun v5 h5 hp5 => ?_)
      obtain ⟨a5, c5, rfl, H10⟩ := hp5
      have H11 : Hold h h5 [own cd2 a5 x7.length c5 x7, own cd2 a4 x4.1.length c4 x4.1, own cd2 a3 x3.length c3 x3, own cd2 a2 x2.1.length c2 x2.1, own cd2 a1 x1.length c1 x1] := H8.call H10 rfl
      obtain ⟨x8, hx7, hF⟩ := M.bind_some hF
      refine Run_y (.bool x8) (by kernel_rfl) (Y_callq (f := 17) (args := #[.slice a3 x3.length c3, .slice a5 x7.length c5]) (v := .bool x8) (by kernel_rfl) (w_laws_eqInt64S h5 x3 a3 c3 (H11.rd 2 rfl) x7 a5 c5 (H11.rd 0 rfl) _ _ hx7)) ?_
      refine Run_b [.bool (!x8)] 4 _ (by kernel_rfl) (fun w => by kernel_rfl) ?_
      refine Run_nil (by kernel_rfl) ?_
      refine Run_keep [0, 3, 4, 5, 6, 7, 42] (L' := [(0, .slice aaC aC.length caC), (3, .slice a2 x2.1.length c2), (4, .int .i64 x2.2), (5, .slice a3 x3.length c3), (6, .slice a4 x4.1.length c4), (7, .int .i64 x4.2), (42, .bool (!x8))]) (by kernel_rfl) ?_
      refine Run_cond (b := !x8) (by kernel_rfl) (fun hb4 => ?_) (fun hb4 => ?_)
      · have hF := (M.ite_some hF).1 hb4
        refine Run_seq ?_
        refine Run_reg 1 (by kernel_rfl) (L' := [(2, .bool false)]) ?_ ?_
        · refine QRun_b [.bool false] 0 _ (by kernel_rfl) (fun w => by kernel_rfl) ?_
          exact QRun_done [2] (by kernel_rfl) (by kernel_rfl)
        have hF := M.ret_some hF
        subst hF
        have H12 : Hold h h5 [] := H11.pick [] (by kernel_rfl)
        exact Run_ret1 rfl (ResV_tmp (v := .bool false) (by kernel_rfl)) ⟨rfl, H12⟩
      · have hF := (M.ite_some hF).2 hb4
        refine Run_skip ?_
        refine Run_seq ?_
        refine Run_reg 1 (by kernel_rfl) (L' := [(0, .slice aaC aC.length caC), (3, .slice a2 x2.1.length c2), (4, .int .i64 x2.2), (5, .slice a3 x3.length c3), (6, .slice a4 x4.1.length c4), (7, .int .i64 x4.2), (8, .int .i64 1)]) ?_ ?_
        · refine QRun_b [.int .i64 1] 0 _ (by kernel_rfl) (fun w => by kernel_rfl) ?_
          exact QRun_done [0, 3, 4, 5, 6, 7, 8] (by kernel_rfl) (by kernel_rfl)
        refine Run_seq ?_
        refine Run_ops ?_
        refine Run_b [.slice a3 x3.length c3, .int .i64 1] 0 _ (by kernel_rfl) (fun w => by kernel_rfl) ?_
        obtain ⟨x9, hx8, hF⟩ := M.bind_some hF
        have H13 : Hold h h5 [own cd2 a3 x3.length c3 x3, own cd2 a5 x7.length c5 x7, own cd2 a4 x4.1.length c4 x4.1, own cd2 a2 x2.1.length c2 x2.1, own cd2 a1 x1.length c1 x1] := H11.pick [2, 0, 1, 3, 4] (by kernel_rfl)
        have H14 : Hold h h5 [own cd2 a3 x3.length c3 x3, bun [own cd2 a5 x7.length c5 x7, own cd2 a4 x4.1.length c4 x4.1, own cd2 a2 x2.1.length c2 x2.1, own cd2 a1 x1.length c1 x1]] := Hold.bundle (S := [own cd2 a3 x3.length c3 x3]) (R := [own cd2 a5 x7.length c5 x7, own cd2 a4 x4.1.length c4 x4.1, own cd2 a2 x2.1.length c2 x2.1, own cd2 a1 x1.length c1 x1]) H13
        refine Run_E (by kernel_rfl) ?_
        refine E_call (f := 25) (args := #[.slice a3 x3.length c3, .int .i64 1]) (w_laws_markInt64S h h5 _ x3 a3 c3 1 H14 _ _ hx8) (by kernel_rfl) (fun v6 h6 hp6 => ?_)
        obtain ⟨rfl, H15⟩ := hp6
        have H16 : Hold h h6 [own cd2 a3 x3.length c3 x9.2, own cd2 a5 x7.length c5 x7, own cd2 a4 x4.1.length c4 x4.1, own cd2 a2 x2.1.length c2 x2.1, own cd2 a1 x1.length c1 x1] := Hold.unbundle (S := [own cd2 a3 x3.length c3 x9.2]) (R := [own cd2 a5 x7.length c5 x7, own cd2 a4 x4.1.length c4 x4.1, own cd2 a2 x2.1.length c2 x2.1, own cd2 a1 x1.length c1 x1]) H15 (Hold.tailBase (S := [own cd2 a3 x3.length c3 x3]) (R := [own cd2 a5 x7.length c5 x7, own cd2 a4 x4.1.length c4 x4.1, own cd2 a2 x2.1.length c2 x2.1, own cd2 a1 x1.length c1 x1]) H13)
        refine Run_b [.int .i64 x9.1] 3 _ (by kernel_rfl) (fun w => by kernel_rfl) ?_
        refine Run_nil (by kernel_rfl) ?_
        refine Run_keep [0, 3, 4, 6, 7, 8] (L' := [(0, .slice aaC aC.length caC), (3, .slice a2 x2.1.length c2), (4, .int .i64 x2.2), (6, .slice a4 x4.1.length c4), (7, .int .i64 x4.2), (8, .int .i64 x9.1)]) (by kernel_rfl) ?_
        refine Run_seq ?_
        refine Run_seq ?_
        obtain ⟨x10, gx10, hF⟩ := M.bind_some hF
        refine Run_reg 13 (by kernel_rfl) (L' := [(0, .slice aaC aC.length caC), (3, .slice a2 x2.1.length c2), (4, .int .i64 x2.2), (6, .slice a4 x4.1.length c4), (58, .bool (x10 || (x4.2 != x2.2)))]) ?_ ?_
        · refine QRun_b [.int .i64 x9.1, .bool (decide (x9.1 < 0))] 0 _ (by kernel_rfl) (fun w => by kernel_rfl) ?_
          refine QRun_seq 8 [(0, .slice aaC aC.length caC), (3, .slice a2 x2.1.length c2), (4, .int .i64 x2.2), (6, .slice a4 x4.1.length c4), (7, .int .i64 x4.2), (53, .bool x10)] ?_ ?_
          · rcases Bool.eq_false_or_eq_true (decide (x9.1 < 0)) with hb5 | hb5
            · refine QRun_bool (decide (x9.1 < 0)) true (by kernel_rfl) (fun w => by kernel_rfl) hb5 ?_
              have gx10 := M.ret_some ((M.ite_some gx10).1 hb5)
              refine QRun_n (by kernel_rfl) ?_
              refine QRun_n (by kernel_rfl) ?_
              refine QRun_n (by kernel_rfl) ?_
              refine QRun_n (by kernel_rfl) ?_
              refine QRun_bool true x10 (by kernel_rfl) (fun w => by kernel_rfl) gx10 ?_
              exact QRun_done [0, 3, 4, 6, 7, 53] (by kernel_rfl) (by kernel_rfl)
            · refine QRun_bool (decide (x9.1 < 0)) false (by kernel_rfl) (fun w => by kernel_rfl) hb5 ?_
              have gx10 := (M.ite_some gx10).2 hb5
              obtain ⟨x11, hx9, gx10⟩ := M.bind_some gx10
              have gx10 := M.ret_some gx10
              refine QRun_b [.slice a4 x4.1.length c4, .slice a2 x2.1.length c2] 3 _ (by kernel_rfl) (fun w => by kernel_rfl) ?_
              refine QRun_y (.bool x11) (by kernel_rfl) (Y_callq (f := 17) (args := #[.slice a4 x4.1.length c4, .slice a2 x2.1.length c2]) (v := .bool x11) (by kernel_rfl) (w_laws_eqInt64S h6 x4.1 a4 c4 (H16.rd 2 rfl) x2.1 a2 c2 (H16.rd 3 rfl) _ _ hx9)) ?_
              refine QRun_b [.bool (!x11)] 6 _ (by kernel_rfl) (fun w => by kernel_rfl) ?_
              refine QRun_bool (!x11) x10 (by kernel_rfl) (fun w => by kernel_rfl) gx10 ?_
              exact QRun_done [0, 3, 4, 6, 7, 53] (by kernel_rfl) (by kernel_rfl)
          refine QRun_seq 13 [(0, .slice aaC aC.length caC), (3, .slice a2 x2.1.length c2), (4, .int .i64 x2.2), (6, .slice a4 x4.1.length c4), (58, .bool (x10 || (x4.2 != x2.2)))] ?_ ?_
          · rcases Bool.eq_false_or_eq_true x10 with hb6 | hb6
            · refine QRun_bool x10 true (by kernel_rfl) (fun w => by kernel_rfl) hb6 ?_
              refine QRun_n (by kernel_rfl) ?_
              refine QRun_n (by kernel_rfl) ?_
              refine QRun_n (by kernel_rfl) ?_
              refine QRun_bool true (x10 || (x4.2 != x2.2)) (by kernel_rfl) (fun w => by kernel_rfl) (by rw [hb6]; rfl) ?_
              exact QRun_done [0, 3, 4, 6, 58] (by kernel_rfl) (by kernel_rfl)
            · refine QRun_bool x10 false (by kernel_rfl) (fun w => by kernel_rfl) hb6 ?_
              refine QRun_b [.int .i64 x4.2, .int .i64 x2.2, .bool (x4.2 != x2.2)] 9 _ (by kernel_rfl) (fun w => by kernel_rfl) ?_
              refine QRun_bool (x4.2 != x2.2) (x10 || (x4.2 != x2.2)) (by kernel_rfl) (fun w => by kernel_rfl) (by rw [hb6]; rfl) ?_
              exact QRun_done [0, 3, 4, 6, 58] (by kernel_rfl) (by kernel_rfl)
          exact QRun_done [0, 3, 4, 6, 58] (by kernel_rfl) (by kernel_rfl)
        refine Run_cond (b := x10 || (x4.2 != x2.2)) (by kernel_rfl) (fun hb7 => ?_) (fun hb7 => ?_)
        · have hF := (M.ite_some hF).1 hb7
          refine Run_seq ?_
          refine Run_reg 1 (by kernel_rfl) (L' := [(2, .bool false)]) ?_ ?_
          · refine QRun_b [.bool false] 0 _ (by kernel_rfl) (fun w => by kernel_rfl) ?_
            exact QRun_done [2] (by kernel_rfl) (by kernel_rfl)
          have hF := M.ret_some hF
          subst hF
          have H17 : Hold h h6 [] := H16.pick [] (by kernel_rfl)
          exact Run_ret1 rfl (ResV_tmp (v := .bool false) (by kernel_rfl)) ⟨rfl, H17⟩
        · have hF := (M.ite_some hF).2 hb7
          refine Run_skip ?_
          refine Run_seq ?_
          refine Run_reg 1 (by kernel_rfl) (L' := [(0, .slice aaC aC.length caC), (3, .slice a2 x2.1.length c2), (4, .int .i64 x2.2), (6, .slice a4 x4.1.length c4), (9, .int .i64 1)]) ?_ ?_
          · refine QRun_b [.int .i64 1] 0 _ (by kernel_rfl) (fun w => by kernel_rfl) ?_
            exact QRun_done [0, 3, 4, 6, 9] (by kernel_rfl) (by kernel_rfl)
          refine Run_seq ?_
          refine Run_ops ?_
          refine Run_b [.slice a4 x4.1.length c4, .int .i64 1] 0 _ (by kernel_rfl) (fun w => by kernel_rfl) ?_
          obtain ⟨x13, hx10, hF⟩ := M.bind_some hF
          have H18 : Hold h h6 [own cd2 a4 x4.1.length c4 x4.1, own cd2 a3 x3.length c3 x9.2, own cd2 a5 x7.length c5 x7, own cd2 a2 x2.1.length c2 x2.1, own cd2 a1 x1.length c1 x1] := H16.pick [2, 0, 1, 3, 4] (by kernel_rfl)
          have H19 : Hold h h6 [own cd2 a4 x4.1.length c4 x4.1, bun [own cd2 a3 x3.length c3 x9.2, own cd2 a5 x7.length c5 x7, own cd2 a2 x2.1.length c2 x2.1, own cd2 a1 x1.length c1 x1]] := Hold.bundle (S := [own cd2 a4 x4.1.length c4 x4.1]) (R := [own cd2 a3 x3.length c3 x9.2, own cd2 a5 x7.length c5 x7, own cd2 a2 x2.1.length c2 x2.1, own cd2 a1 x1.length c1 x1]) H18
          refine Run_E (by kernel_rfl) ?_
          refine E_call (f := 25) (args := #[.slice a4 x4.1.length c4, .int .i64 1]) (w_laws_markInt64S h h6 _ x4.1 a4 c4 1 H19 _ _ hx10) (by kernel_rfl) (fun v7 h7 hp7 => ?_)
          obtain ⟨rfl, H20⟩ := hp7
          have H21 : Hold h h7 [own cd2 a4 x4.1.length c4 x13.2, own cd2 a3 x3.length c3 x9.2, own cd2 a5 x7.length c5 x7, own cd2 a2 x2.1.length c2 x2.1, own cd2 a1 x1.length c1 x1] := Hold.unbundle (S := [own cd2 a4 x4.1.length c4 x13.2]) (R := [own cd2 a3 x3.length c3 x9.2, own cd2 a5 x7.length c5 x7, own cd2 a2 x2.1.length c2 x2.1, own cd2 a1 x1.length c1 x1]) H20 (Hold.tailBase (S := [own cd2 a4 x4.1.length c4 x4.1]) (R := [own cd2 a3 x3.length c3 x9.2, own cd2 a5 x7.length c5 x7, own cd2 a2 x2.1.length c2 x2.1, own cd2 a1 x1.length c1 x1]) H18)
          refine Run_b [.int .i64 x13.1] 3 _ (by kernel_rfl) (fun w => by kernel_rfl) ?_
          refine Run_nil (by kernel_rfl) ?_
          refine Run_keep [0, 3, 4, 6, 9] (L' := [(0, .slice aaC aC.length caC), (3, .slice a2 x2.1.length c2), (4, .int .i64 x2.2), (6, .slice a4 x4.1.length c4), (9, .int .i64 x13.1)]) (by kernel_rfl) ?_
          refine Run_seq ?_
          refine Run_reg 1 (by kernel_rfl) (L' := [(0, .slice aaC aC.length caC), (3, .slice a2 x2.1.length c2), (4, .int .i64 x2.2), (6, .slice a4 x4.1.length c4), (9, .int .i64 x13.1), (10, .int .i64 1)]) ?_ ?_
          · refine QRun_b [.int .i64 1] 0 _ (by kernel_rfl) (fun w => by kernel_rfl) ?_
            exact QRun_done [0, 3, 4, 6, 9, 10] (by kernel_rfl) (by kernel_rfl)
          refine Run_seq ?_
          obtain ⟨x14, hx11, hF⟩ := M.bind_some hF
          refine Run_reg 4 (by kernel_rfl) (L' := [(0, .slice aaC aC.length caC), (3, .slice a2 x2.1.length c2), (4, .int .i64 x2.2), (6, .slice a4 x4.1.length c4), (9, .int .i64 x13.1), (10, .int .i64 x14)]) ?_ ?_
          · refine QRun_b [.slice a4 x4.1.length c4, .int .i64 1] 0 _ (by kernel_rfl) (fun w => by kernel_rfl) ?_
            refine QRun_y (.int .i64 x14) (by kernel_rfl) (Y_callq (f := 26) (args := #[.slice a4 x4.1.length c4, .int .i64 1]) (v := .int .i64 x14) (by kernel_rfl) (Fn.arg (w_laws_heldInt64S h7 x13.2 a4 c4 (H21.rd 0 rfl) 1 _ _ hx11) (by simp only [(H21.len 0 rfl)]))) ?_
            refine QRun_b [.int .i64 x14] 3 _ (by kernel_rfl) (fun w => by kernel_rfl) ?_
            exact QRun_done [0, 3, 4, 6, 9, 10] (by kernel_rfl) (by kernel_rfl)
          refine Run_seq ?_
          refine Run_seq ?_
          refine Run_reg 2 (by kernel_rfl) (L' := [(0, .slice aaC aC.length caC), (3, .slice a2 x2.1.length c2), (4, .int .i64 x2.2), (6, .slice a4 x4.1.length c4), (9, .int .i64 x13.1), (10, .int .i64 x14), (66, .bool (decide (x14 < 0)))]) ?_ ?_
          · refine QRun_b [.int .i64 x14, .bool (decide (x14 < 0))] 0 _ (by kernel_rfl) (fun w => by kernel_rfl) ?_
            exact QRun_done [0, 3, 4, 6, 9, 10, 66] (by kernel_rfl) (by kernel_rfl)
          refine Run_cond (b := decide (x14 < 0)) (by kernel_rfl) (fun hb8 => ?_) (fun hb8 => ?_)
          · have hF := (M.ite_some hF).1 hb8
            refine Run_seq ?_
            refine Run_reg 1 (by kernel_rfl) (L' := [(2, .bool false)]) ?_ ?_
            · refine QRun_b [.bool false] 0 _ (by kernel_rfl) (fun w => by kernel_rfl) ?_
              exact QRun_done [2] (by kernel_rfl) (by kernel_rfl)
            have hF := M.ret_some hF
            subst hF
            have H22 : Hold h h7 [] := H21.pick [] (by kernel_rfl)
            exact Run_ret1 rfl (ResV_tmp (v := .bool false) (by kernel_rfl)) ⟨rfl, H22⟩
          · have hF := (M.ite_some hF).2 hb8
            refine Run_skip ?_
            refine Run_seq ?_
            refine Run_seq ?_
            refine Run_reg 3 (by kernel_rfl) (L' := [(0, .slice aaC aC.length caC), (3, .slice a2 x2.1.length c2), (4, .int .i64 x2.2), (6, .slice a4 x4.1.length c4), (9, .int .i64 x13.1), (69, .bool (x14 != x13.1))]) ?_ ?_
            · refine QRun_b [.int .i64 x14, .int .i64 x13.1, .bool (x14 != x13.1)] 0 _ (by kernel_rfl) (fun w => by kernel_rfl) ?_
              exact QRun_done [0, 3, 4, 6, 9, 69] (by kernel_rfl) (by kernel_rfl)
            refine Run_cond (b := x14 != x13.1) (by kernel_rfl) (fun hb9 => ?_) (fun hb9 => ?_)
            · have hF := (M.ite_some hF).1 hb9
              refine Run_seq ?_
              refine Run_reg 1 (by kernel_rfl) (L' := [(2, .bool false)]) ?_ ?_
              · refine QRun_b [.bool false] 0 _ (by kernel_rfl) (fun w => by kernel_rfl) ?_
                exact QRun_done [2] (by kernel_rfl) (by kernel_rfl)
              have hF := M.ret_some hF
              subst hF
              have H23 : Hold h h7 [] := H21.pick [] (by kernel_rfl)
              exact Run_ret1 rfl (ResV_tmp (v := .bool false) (by kernel_rfl)) ⟨rfl, H23⟩
            · have hF := (M.ite_some hF).2 hb9
              refine Run_skip ?_
              refine Run_seq ?_
              refine Run_ops ?_
              refine Run_b [.slice aaC aC.length caC] 0 _ (by kernel_rfl) (fun w => by kernel_rfl) ?_
              obtain ⟨x15, hx12, hF⟩ := M.bind_some hF
              refine Run_E (by kernel_rfl) ?_
              refine E_call (f := 15) (args := #[.slice aaC aC.length caC]) (w_laws_toInt64S h7 aC aaC caC (raC.at H21.ext) _ _ hx12) (by kernel_rfl) (fun v8 h8 hp8 => ?_)
              obtain ⟨a6, c6, rfl, H24⟩ := hp8
              have H25 : Hold h h8 [own cd2 a6 x15.length c6 x15, own cd2 a4 x4.1.length c4 x13.2, own cd2 a3 x3.length c3 x9.2, own cd2 a5 x7.length c5 x7, own cd2 a2 x2.1.length c2 x2.1, own cd2 a1 x1.length c1 x1] := H21.call H24 rfl
              obtain ⟨x16, hx13, hF⟩ := M.bind_some hF
              refine Run_E (by kernel_rfl) ?_
              refine E_call (f := 43) (args := #[.slice a6 x15.length c6]) (w_impl_FullPolynomial h8 x15 a6 c6 (H25.rd 0 rfl) _ _ hx13) (by kernel_rfl) (fun v9 h9 hp9 => ?_)
              obtain ⟨a7, c7, rfl, H26⟩ := hp9
              have H27 : Hold h h9 [own cd2 a7 x16.1.length c7 x16.1, own cd2 a6 x15.length c6 x15, own cd2 a4 x4.1.length c4 x13.2, own cd2 a3 x3.length c3 x9.2, own cd2 a5 x7.length c5 x7, own cd2 a2 x2.1.length c2 x2.1, own cd2 a1 x1.length c1 x1] := H25.call H26 rfl
              refine Run_b [.tuple #[.slice a7 x16.1.length c7, .int .i64 x16.2], .slice a7 x16.1.length c7, .int .i64 x16.2, .slice a7 x16.1.length c7, .int .i64 x16.2] 3 _ (by kernel_rfl) (fun w => by kernel_rfl) ?_
              refine Run_nil (by kernel_rfl) ?_
              refine Run_keep [3, 4, 6, 9, 11, 12] (L' := [(3, .slice a2 x2.1.length c2), (4, .int .i64 x2.2), (6, .slice a4 x4.1.length c4), (9, .int .i64 x13.1), (11, .slice a7 x16.1.length c7), (12, .int .i64 x16.2)]) (by kernel_rfl) ?_
              refine Run_seq ?_
              refine Run_seq ?_
              obtain ⟨x17, hx14, hF⟩ := M.bind_some hF
              refine Run_reg 9 (by kernel_rfl) (L' := [(6, .slice a4 x4.1.length c4), (9, .int .i64 x13.1), (84, .bool ((!x17) || (x16.2 != x2.2)))]) ?_ ?_
              · refine QRun_b [.slice a7 x16.1.length c7, .slice a2 x2.1.length c2] 0 _ (by kernel_rfl) (fun w => by kernel_rfl) ?_
                refine QRun_y (.bool x17) (by kernel_rfl) (Y_callq (f := 17) (args := #[.slice a7 x16.1.length c7, .slice a2 x2.1.length c2]) (v := .bool x17) (by kernel_rfl) (w_laws_eqInt64S h9 x16.1 a7 c7 (H27.rd 0 rfl) x2.1 a2 c2 (H27.rd 5 rfl) _ _ hx14)) ?_
                refine QRun_b [.bool (!x17)] 3 _ (by kernel_rfl) (fun w => by kernel_rfl) ?_
                refine QRun_seq 9 [(6, .slice a4 x4.1.length c4), (9, .int .i64 x13.1), (84, .bool ((!x17) || (x16.2 != x2.2)))] ?_ ?_
                · rcases Bool.eq_false_or_eq_true (!x17) with hb10 | hb10
                  · refine QRun_bool (!x17) true (by kernel_rfl) (fun w => by kernel_rfl) hb10 ?_
                    refine QRun_n (by kernel_rfl) ?_
                    refine QRun_n (by kernel_rfl) ?_
                    refine QRun_n (by kernel_rfl) ?_
                    refine QRun_bool true ((!x17) || (x16.2 != x2.2)) (by kernel_rfl) (fun w => by kernel_rfl) (by rw [hb10]; rfl) ?_
                    exact QRun_done [6, 9, 84] (by kernel_rfl) (by kernel_rfl)
                  · refine QRun_bool (!x17) false (by kernel_rfl) (fun w => by kernel_rfl) hb10 ?_
                    refine QRun_b [.int .i64 x16.2, .int .i64 x2.2, .bool (x16.2 != x2.2)] 5 _ (by kernel_rfl) (fun w => by kernel_rfl) ?_
                    refine QRun_bool (x16.2 != x2.2) ((!x17) || (x16.2 != x2.2)) (by kernel_rfl) (fun w => by kernel_rfl) (by rw [hb10]; rfl) ?_
                    exact QRun_done [6, 9, 84] (by kernel_rfl) (by kernel_rfl)
                exact QRun_done [6, 9, 84] (by kernel_rfl) (by kernel_rfl)
              refine Run_cond (b := (!x17) || (x16.2 != x2.2)) (by kernel_rfl) (fun hb11 => ?_) (fun hb11 => ?_)
              · have hF := (M.ite_some hF).1 hb11
                refine Run_seq ?_
                refine Run_reg 1 (by kernel_rfl) (L' := [(2, .bool false)]) ?_ ?_
                · refine QRun_b [.bool false] 0 _ (by kernel_rfl) (fun w => by kernel_rfl) ?_
                  exact QRun_done [2] (by kernel_rfl) (by kernel_rfl)
                have hF := M.ret_some hF
                subst hF
                have H28 : Hold h h9 [] := H27.pick [] (by kernel_rfl)
                exact Run_ret1 rfl (ResV_tmp (v := .bool false) (by kernel_rfl)) ⟨rfl, H28⟩
              · have hF := (M.ite_some hF).2 hb11
                refine Run_skip ?_
                refine Run_seq ?_
                refine Run_reg 1 (by kernel_rfl) (L' := [(6, .slice a4 x4.1.length c4), (9, .int .i64 x13.1), (10, .int .i64 1)]) ?_ ?_
                · refine QRun_b [.int .i64 1] 0 _ (by kernel_rfl) (fun w => by kernel_rfl) ?_
                  exact QRun_done [6, 9, 10] (by kernel_rfl) (by kernel_rfl)
                refine Run_seq ?_
                obtain ⟨x19, hx15, hF⟩ := M.bind_some hF
                refine Run_reg 4 (by kernel_rfl) (L' := [(9, .int .i64 x13.1), (10, .int .i64 x19)]) ?_ ?_
                · refine QRun_b [.slice a4 x4.1.length c4, .int .i64 1] 0 _ (by kernel_rfl) (fun w => by kernel_rfl) ?_
                  refine QRun_y (.int .i64 x19) (by kernel_rfl) (Y_callq (f := 26) (args := #[.slice a4 x4.1.length c4, .int .i64 1]) (v := .int .i64 x19) (by kernel_rfl) (Fn.arg (w_laws_heldInt64S h9 x13.2 a4 c4 (H27.rd 2 rfl) 1 _ _ hx15) (by simp only [(H27.len 2 rfl)]))) ?_
                  refine QRun_b [.int .i64 x19] 3 _ (by kernel_rfl) (fun w => by kernel_rfl) ?_
                  exact QRun_done [9, 10] (by kernel_rfl) (by kernel_rfl)
                refine Run_seq ?_
                refine Run_seq ?_
                refine Run_reg 2 (by kernel_rfl) (L' := [(9, .int .i64 x13.1), (10, .int .i64 x19), (89, .bool (decide (x19 < 0)))]) ?_ ?_
                · refine QRun_b [.int .i64 x19, .bool (decide (x19 < 0))] 0 _ (by kernel_rfl) (fun w => by kernel_rfl) ?_
                  exact QRun_done [9, 10, 89] (by kernel_rfl) (by kernel_rfl)
                refine Run_cond (b := decide (x19 < 0)) (by kernel_rfl) (fun hb12 => ?_) (fun hb12 => ?_)
                · have hF := (M.ite_some hF).1 hb12
                  refine Run_seq ?_
                  refine Run_reg 1 (by kernel_rfl) (L' := [(2, .bool false)]) ?_ ?_
                  · refine QRun_b [.bool false] 0 _ (by kernel_rfl) (fun w => by kernel_rfl) ?_
                    exact QRun_done [2] (by kernel_rfl) (by kernel_rfl)
                  have hF := M.ret_some hF
                  subst hF
                  have H29 : Hold h h9 [] := H27.pick [] (by kernel_rfl)
                  exact Run_ret1 rfl (ResV_tmp (v := .bool false) (by kernel_rfl)) ⟨rfl, H29⟩
                · have hF := (M.ite_some hF).2 hb12
                  refine Run_skip ?_
                  refine Run_seq ?_
                  refine Run_seq ?_
                  refine Run_reg 3 (by kernel_rfl) (L' := [(92, .bool (x19 != x13.1))]) ?_ ?_
                  · refine QRun_b [.int .i64 x19, .int .i64 x13.1, .bool (x19 != x13.1)] 0 _ (by kernel_rfl) (fun w => by kernel_rfl) ?_
                    exact QRun_done [92] (by kernel_rfl) (by kernel_rfl)
                  refine Run_cond (b := x19 != x13.1) (by kernel_rfl) (fun hb13 => ?_) (fun hb13 => ?_)
                  · have hF := (M.ite_some hF).1 hb13
                    refine Run_seq ?_
                    refine Run_reg 1 (by kernel_rfl) (L' := [(2, .bool false)]) ?_ ?_
                    · refine QRun_b [.bool false] 0 _ (by kernel_rfl) (fun w => by kernel_rfl) ?_
                      exact QRun_done [2] (by kernel_rfl) (by kernel_rfl)
                    have hF := M.ret_some hF
                    subst hF
                    have H30 : Hold h h9 [] := H27.pick [] (by kernel_rfl)
                    exact Run_ret1 rfl (ResV_tmp (v := .bool false) (by kernel_rfl)) ⟨rfl, H30⟩
                  · have hF := (M.ite_some hF).2 hb13
                    refine Run_skip ?_
                    refine Run_seq ?_
                    refine Run_reg 1 (by kernel_rfl) (L' := [(2, .bool true)]) ?_ ?_
                    · refine QRun_b [.bool true] 0 _ (by kernel_rfl) (fun w => by kernel_rfl) ?_
                      exact QRun_done [2] (by kernel_rfl) (by kernel_rfl)
                    have hF := M.ret_some hF
                    subst hF
                    have H31 : Hold h h9 [] := H27.pick [] (by kernel_rfl)
                    exact Run_ret1 rfl (ResV_tmp (v := .bool true) (by kernel_rfl)) ⟨rfl, H31⟩

end Go.Proofs.Ytdgehhbgjmgjjaa
