/-
  Walks: each Go function, called with what reads as plain data, returns what its plain program computes.
  Conditions: None beyond the given statement.
-/
import Derived.Test.YtdgehhbgjmgjjaaRows
import Derived.Test.YtdgehhbgjmgjjaaP
import Derived.Test.YtdgehhbgjmgjjaaMut
namespace Go.Proofs.Ytdgehhbgjmgjjaa
open Go
attribute [local irreducible] setL setB opA fineI idleI fineB evB okB markB markBs readyB readyBs chainB lk rho pickL dropSlot tailOK
theorem mixed : Try.prog.follows .mixedOrders = true := by kernel_rfl
def cd2 : Cd (Int) := flatCd 2 1 (by decide) (fun x => [.int .i64 x]) (fun _ => rfl) (fun _ => rfl)
theorem cd2_own (x : Int) : ∀ h, cd2.own h x [.int .i64 x] [] := fun _ => ⟨rfl, rfl⟩
theorem cd2_flat : Flat cd2 := fun _ _ _ _ o => o.2
theorem cd2_copies : Copies cd2 := fun _ _ _ _ o => ⟨o, rfl⟩
theorem cd2_zero : ∀ h, cd2.own h 0 [.int .i64 0] [] := fun _ => ⟨rfl, rfl⟩
theorem cd2_ti : TI Try.prog 2 (.int .i64 0) 1 8 := by unfold TI; kernel_rfl
theorem cd2_cell {h : Heap} {B : Bs} {a : Option Addr} {c : Nat} {l : List (Int)} {j : Nat} {x : Int} (r : Rd cd2 h B a c l) (hx : l[j]? = some x) : cellH h (adr a (j * 1)) = some (.int .i64 x) := r.cell1 hx (fun vs o => by rw [show vs = _ from o]; rfl)
abbrev cd22 : Cd (List Int) := rowCd cd2 22
theorem cd22_zero : ∀ h, cd22.own h [] [.slice none 0 0] [] := fun h => ⟨none, 0, rfl, Own.nil _ h⟩
theorem cd22_ti : TI Try.prog 22 (.slice none 0 0) 1 24 := by unfold TI; kernel_rfl
set_option maxRecDepth 100000 in
set_option maxHeartbeats 4000000 in
theorem w_laws_toInt64S (h : Heap) (a_ : List Int) (aa_ : Option Addr) (ca_ : Nat) (ra_ : Rd cd2 h (Lt h) aa_ ca_ a_) (n : Nat) (r : (List Int)) (hF : laws_toInt64S a_ n = some r) :
    Fn Try.prog 15 #[.slice aa_ a_.length ca_] h fun v h' => ∃ (a0 : Option Addr) (c0 : Nat), v = .slice a0 r.length c0 ∧ Hold h h' [own cd2 a0 r.length c0 r] := by
  unfold laws_toInt64S at hF
  refine Fn_enter (args := [.slice aa_ a_.length ca_]) Try.func15 rfl (by kernel_rfl) (by kernel_rfl) (fun w0 _ => ?_)
  have H0 := Hold.init h
  refine Run_seq ?_
  refine Run_reg 1 (by kernel_rfl) (L' := [(0, .slice aa_ a_.length ca_)]) ?_ ?_
  · refine QRun_b [.slice none 0 0] 0 _ (by kernel_rfl) (fun w => by kernel_rfl) ?_
    exact QRun_done [0] (by kernel_rfl) (by kernel_rfl)
  refine Run_seq ?_
  refine Run_ops ?_
  refine Run_b [.slice aa_ a_.length ca_, .int .i64 (a_.length : Int)] 0 _ (by kernel_rfl) (fun w => by kernel_rfl) ?_
  obtain ⟨l1, hl1, hF⟩ := M.bind_some hF
  have hl1 := M.make_some hl1
  refine Run_E (by kernel_rfl) ?_
  refine E_make cd2 0 (kl := .i64) (kc := .i64) H0 cd2_ti Try.underlying22 (by decide) cd2_zero (by kernel_rfl) hl1 (fun a1 h1 H1 => ?_)
  refine Run_b [.slice a1 l1.length l1.length] 3 _ (by kernel_rfl) (fun w => by kernel_rfl) ?_
  refine Run_nil (by kernel_rfl) ?_
  refine Run_keep [0, 3] (L' := [(0, .slice aa_ a_.length ca_), (3, .slice a1 l1.length l1.length)]) (by kernel_rfl) ?_
  refine Run_seq ?_
  refine Run_seq ?_
  refine Run_reg 1 (by kernel_rfl) (L' := [(0, .slice aa_ a_.length ca_), (3, .slice a1 l1.length l1.length), (4, .int .i64 0)]) ?_ ?_
  · refine QRun_b [.int .i64 0] 0 _ (by kernel_rfl) (fun w => by kernel_rfl) ?_
    exact QRun_done [0, 3, 4] (by kernel_rfl) (by kernel_rfl)
  obtain ⟨x1, gx1, hF⟩ := M.bind_some hF
  obtain ⟨hloy1, hhiy1, gx1⟩ := M.for_start gx1
  refine Run_join (fun L' h' => L' = [(3, .slice a1 l1.length l1.length)] ∧ Hold h h' [own cd2 a1 l1.length l1.length x1]) ?_ ?_
  · rintro _ h3 ⟨rfl, H3⟩
    refine Run_seq ?_
    refine Run_reg 2 (by kernel_rfl) (L' := [(2, .slice a1 l1.length l1.length)]) ?_ ?_
    · refine QRun_b [.slice a1 l1.length l1.length, .slice a1 l1.length l1.length] 0 _ (by kernel_rfl) (fun w => by kernel_rfl) ?_
      exact QRun_done [2] (by kernel_rfl) (by kernel_rfl)
    have hF := M.ret_some hF
    subst hF
    have H5 := H3.norm
    exact Run_ret1 rfl (ResV_tmp (v := .slice a1 l1.length l1.length) (by kernel_rfl)) ⟨a1, l1.length, (by simp only [(H3.len 0 rfl)]), H5⟩
  · refine Run_block ?_
    refine Run_keep [0, 3, 4] (L' := [(0, .slice aa_ a_.length ca_), (3, .slice a1 l1.length l1.length), (4, .int .i64 0)]) (by kernel_rfl) ?_
    refine Run_loop (fun m L' h' => ∃ (i1 : Int) (s1 : (List Int)), 0 ≤ i1 ∧ M.forN (a_.length : Int) _ _ n m i1 s1 = some x1 ∧ L' = [(0, .slice aa_ a_.length ca_), (3, .slice a1 l1.length l1.length), (4, .int .i64 i1)] ∧ Hold h h' [own cd2 a1 l1.length l1.length s1]) ((a_.length : Int) - 0).toNat ⟨0, l1, Int.le_refl _, gx1, rfl, H1⟩ ?_
    rintro my1 _ h2 ⟨i1, s1, hloy1', gx1, rfl, H2⟩
    refine Run_seq ?_
    refine Run_seq ?_
    refine Run_reg 4 (by kernel_rfl) (L' := [(0, .slice aa_ a_.length ca_), (3, .slice a1 l1.length l1.length), (4, .int .i64 i1), (11, .bool (decide (i1 < (a_.length : Int))))]) ?_ ?_
    · refine QRun_b [.int .i64 i1, .slice aa_ a_.length ca_, .int .i64 (a_.length : Int), .bool (decide (i1 < (a_.length : Int)))] 0 _ (by kernel_rfl) (fun w => by kernel_rfl) ?_
      exact QRun_done [0, 3, 4, 11] (by kernel_rfl) (by kernel_rfl)
    refine Run_cond (b := decide (i1 < (a_.length : Int))) (by kernel_rfl) (fun hb1 => ?_) (fun hb1 => ?_)
    · obtain ⟨my1, y1, rfl, hB1, hgoy1, houty1⟩ := M.for_go gx1 hb1
      have hlty1 := of_decide_eq_true hb1
      refine Run_skip ?_
      refine Run_seq ?_
      refine Run_block ?_
      refine Run_ops ?_
      obtain ⟨x2, hx1, hB1⟩ := M.bind_some hB1
      obtain ⟨hx1l, hx1u, hx1⟩ := M.idx_some hx1
      obtain ⟨x3, hx2, hB1⟩ := M.bind_some hB1
      obtain ⟨hx2l, hx2u, hx2⟩ := M.idx_some hx2
      refine Run_b [.slice a1 l1.length l1.length, .int .i64 i1, .slice aa_ a_.length ca_, .int .i64 i1] 0 _ (by kernel_rfl) (fun w => by kernel_rfl) ?_
      refine Run_y (.pointer (some (adr aa_ (i1.toNat * 1)))) (by kernel_rfl) (Y_idx (t := 22) (e := 2) (sz := 1) (a := aa_) (n := a_.length) (cap := ca_) (kk := .i64) (i := i1) (by kernel_rfl) Try.underlying22 (by kernel_rfl) ((ra_.at H2.ext).cell hx1).1 hx1l hx1u) ?_
      refine Run_y (.int .i64 x2) (by kernel_rfl) (Y_load1 (t := 2) (p := adr aa_ (i1.toNat * 1)) (v := .int .i64 x2) (by kernel_rfl) (fun w => by kernel_rfl) (cd2_cell (ra_.at H2.ext) hx1)) ?_
      refine Run_y (.pointer (some (adr a1 (i1.toNat * 1)))) (by kernel_rfl) (Y_idx (t := 22) (e := 2) (sz := 1) (a := a1) (n := l1.length) (cap := l1.length) (kk := .i64) (i := i1) (by kernel_rfl) Try.underlying22 (by kernel_rfl) ((H2.rd 0 rfl).cell hx2).1 hx2l (by rw [← (H2.len 0 rfl)]; exact hx2u)) ?_
      obtain ⟨l2, hu1, hB1⟩ := M.bind_some hB1
      have hu1 := M.upd_some hu1
      refine Run_E (by kernel_rfl) ?_
      refine E_put (C := cd2) (t := 2) (sz := 1) (j := i1) (x := x2) (v := .int .i64 x2) H2 cd2_flat (by kernel_rfl) rfl (cd2_own _) (by kernel_rfl) hu1 (fun h4 H4 => ?_)
      refine Run_nil (by kernel_rfl) ?_
      refine Run_keep [0, 3, 4] (L' := [(0, .slice aa_ a_.length ca_), (3, .slice a1 l1.length l1.length), (4, .int .i64 i1)]) (by kernel_rfl) ?_
      refine Run_blk ?_
      refine Run_reg 3 (by kernel_rfl) (L' := [(0, .slice aa_ a_.length ca_), (3, .slice a1 l1.length l1.length), (4, .int .i64 (i1 + 1))]) ?_ ?_
      · refine QRun_b [.int .i64 i1] 0 _ (by kernel_rfl) (fun w => by kernel_rfl) ?_
        refine QRun_y (.int .i64 (i1 + 1)) (by kernel_rfl) (Y_eq (v := .int .i64 (w64 (i1 + 1))) (Y_pure (fun w => by kernel_rfl)) (by rw [w64_eq _ (by omega)])) ?_
        refine QRun_b [.int .i64 (i1 + 1)] 2 _ (by kernel_rfl) (fun w => by kernel_rfl) ?_
        exact QRun_done [0, 3, 4] (by kernel_rfl) (by kernel_rfl)
      have hB1 := M.ret_some hB1
      have gx1 := hgoy1 _ hB1.symm
      exact Run_again [0, 3, 4] (by kernel_rfl) my1 (Nat.lt_succ_self _) ⟨i1 + 1, l2, by omega, gx1, rfl, H4⟩
    · have gx1 := M.for_end gx1 hb1
      subst gx1
      refine Run_exit (k' := _) rfl ?_
      exact Run_fall [3] (by kernel_rfl) ⟨rfl, H2⟩

set_option maxRecDepth 100000 in
set_option maxHeartbeats 4000000 in
theorem w_spec_l01In (h : Heap) (n_ : Int) (low : Int) (high : Int) (n : Nat) (r : Bool) (hF : spec_l01In n_ low high n = some r) :
    Fn Try.prog 53 #[.int .i64 n_, .int .i64 low, .int .i64 high] h fun v h' => v = .bool r ∧ h' = h := by
  unfold spec_l01In at hF
  refine Fn_enter (args := [.int .i64 n_, .int .i64 low, .int .i64 high]) Try.func53 rfl (by kernel_rfl) (by kernel_rfl) (fun w0 _ => ?_)
  refine Run_seq ?_
  refine Run_reg 1 (by kernel_rfl) (L' := [(0, .int .i64 n_), (1, .int .i64 low), (2, .int .i64 high)]) ?_ ?_
  · refine QRun_b [.bool false] 0 _ (by kernel_rfl) (fun w => by kernel_rfl) ?_
    exact QRun_done [0, 1, 2] (by kernel_rfl) (by kernel_rfl)
  refine Run_seq ?_
  refine Run_reg 9 (by kernel_rfl) (L' := [(6, .bool ((decide (low ≤ n_)) && (decide (n_ ≤ high))))]) ?_ ?_
  · refine QRun_b [.int .i64 n_, .int .i64 low, .bool (decide (low ≤ n_))] 0 _ (by kernel_rfl) (fun w => by kernel_rfl) ?_
    refine QRun_seq 8 [(14, .bool ((decide (low ≤ n_)) && (decide (n_ ≤ high))))] ?_ ?_
    · rcases Bool.eq_false_or_eq_true (decide (low ≤ n_)) with hb1 | hb1
      · refine QRun_bool (decide (low ≤ n_)) true (by kernel_rfl) (fun w => by kernel_rfl) hb1 ?_
        refine QRun_b [.int .i64 n_, .int .i64 high, .bool (decide (n_ ≤ high))] 4 _ (by kernel_rfl) (fun w => by kernel_rfl) ?_
        refine QRun_bool (decide (n_ ≤ high)) ((decide (low ≤ n_)) && (decide (n_ ≤ high))) (by kernel_rfl) (fun w => by kernel_rfl) (by rw [hb1]; rfl) ?_
        exact QRun_done [14] (by kernel_rfl) (by kernel_rfl)
      · refine QRun_bool (decide (low ≤ n_)) false (by kernel_rfl) (fun w => by kernel_rfl) hb1 ?_
        refine QRun_n (by kernel_rfl) ?_
        refine QRun_n (by kernel_rfl) ?_
        refine QRun_n (by kernel_rfl) ?_
        refine QRun_bool false ((decide (low ≤ n_)) && (decide (n_ ≤ high))) (by kernel_rfl) (fun w => by kernel_rfl) (by rw [hb1]; rfl) ?_
        exact QRun_done [14] (by kernel_rfl) (by kernel_rfl)
    refine QRun_b [.bool ((decide (low ≤ n_)) && (decide (n_ ≤ high)))] 8 _ (by kernel_rfl) (fun w => by kernel_rfl) ?_
    exact QRun_done [6] (by kernel_rfl) (by kernel_rfl)
  have hF := M.ret_some hF
  subst hF
  exact Run_ret1 rfl (ResV_tmp (v := .bool ((decide (low ≤ n_)) && (decide (n_ ≤ high)))) (by kernel_rfl)) ⟨rfl, rfl⟩

set_option maxRecDepth 100000 in
set_option maxHeartbeats 4000000 in
theorem w_spec_l01Finite (h : Heap) (a_ : Int) (n : Nat) (r : Bool) (hF : spec_l01Finite a_ n = some r) :
    Fn Try.prog 61 #[.int .i64 a_] h fun v h' => v = .bool r ∧ h' = h := by
  unfold spec_l01Finite at hF
  refine Fn_enter (args := [.int .i64 a_]) Try.func61 rfl (by kernel_rfl) (by kernel_rfl) (fun w0 _ => ?_)
  refine Run_seq ?_
  refine Run_reg 1 (by kernel_rfl) (L' := [(0, .int .i64 a_)]) ?_ ?_
  · refine QRun_b [.bool false] 0 _ (by kernel_rfl) (fun w => by kernel_rfl) ?_
    exact QRun_done [0] (by kernel_rfl) (by kernel_rfl)
  refine Run_seq ?_
  obtain ⟨x1, hx1, hF⟩ := M.bind_some hF
  refine Run_reg 3 (by kernel_rfl) (L' := [(2, .bool x1)]) ?_ ?_
  · refine QRun_b [.int .i64 a_] 0 _ (by kernel_rfl) (fun w => by kernel_rfl) ?_
    refine QRun_y (.bool x1) (by kernel_rfl) (Y_callq (f := 53) (args := #[.int .i64 a_, .int .i64 (-1000000), .int .i64 1000000]) (v := .bool x1) (by kernel_rfl) (w_spec_l01In h a_ (-1000000) 1000000 _ _ hx1)) ?_
    refine QRun_b [.bool x1] 2 _ (by kernel_rfl) (fun w => by kernel_rfl) ?_
    exact QRun_done [2] (by kernel_rfl) (by kernel_rfl)
  have hF := M.ret_some hF
  subst hF
  exact Run_ret1 rfl (ResV_tmp (v := .bool x1) (by kernel_rfl)) ⟨rfl, rfl⟩

set_option maxRecDepth 100000 in
set_option maxHeartbeats 4000000 in
theorem w_spec_IsValue (h : Heap) (a_ : Int) (n : Nat) (r : Bool) (hF : spec_IsValue a_ n = some r) :
    Fn Try.prog 67 #[.int .i64 a_] h fun v h' => v = .bool r ∧ h' = h := by
  unfold spec_IsValue at hF
  refine Fn_enter (args := [.int .i64 a_]) Try.func67 rfl (by kernel_rfl) (by kernel_rfl) (fun w0 _ => ?_)
  refine Run_seq ?_
  refine Run_reg 1 (by kernel_rfl) (L' := [(0, .int .i64 a_)]) ?_ ?_
  · refine QRun_b [.bool false] 0 _ (by kernel_rfl) (fun w => by kernel_rfl) ?_
    exact QRun_done [0] (by kernel_rfl) (by kernel_rfl)
  refine Run_seq ?_
  obtain ⟨x1, gx1, hF⟩ := M.bind_some hF
  refine Run_reg 7 (by kernel_rfl) (L' := [(2, .bool x1)]) ?_ ?_
  · refine QRun_b [.int .i64 a_, .bool (a_ == (-1000000000000000))] 0 _ (by kernel_rfl) (fun w => by kernel_rfl) ?_
    refine QRun_seq 6 [(8, .bool x1)] ?_ ?_
    · rcases Bool.eq_false_or_eq_true (a_ == (-1000000000000000)) with hb1 | hb1
      · refine QRun_bool (a_ == (-1000000000000000)) true (by kernel_rfl) (fun w => by kernel_rfl) hb1 ?_
        have gx1 := M.ret_some ((M.ite_some gx1).1 hb1)
        refine QRun_n (by kernel_rfl) ?_
        refine QRun_n (by kernel_rfl) ?_
        refine QRun_bool true x1 (by kernel_rfl) (fun w => by kernel_rfl) gx1 ?_
        exact QRun_done [8] (by kernel_rfl) (by kernel_rfl)
      · refine QRun_bool (a_ == (-1000000000000000)) false (by kernel_rfl) (fun w => by kernel_rfl) hb1 ?_
        have gx1 := (M.ite_some gx1).2 hb1
        obtain ⟨x2, hx1, gx1⟩ := M.bind_some gx1
        have gx1 := M.ret_some gx1
        refine QRun_b [.int .i64 a_] 3 _ (by kernel_rfl) (fun w => by kernel_rfl) ?_
        refine QRun_y (.bool x2) (by kernel_rfl) (Y_callq (f := 61) (args := #[.int .i64 a_]) (v := .bool x2) (by kernel_rfl) (w_spec_l01Finite h a_ _ _ hx1)) ?_
        refine QRun_bool x2 x1 (by kernel_rfl) (fun w => by kernel_rfl) gx1 ?_
        exact QRun_done [8] (by kernel_rfl) (by kernel_rfl)
    refine QRun_b [.bool x1] 6 _ (by kernel_rfl) (fun w => by kernel_rfl) ?_
    exact QRun_done [2] (by kernel_rfl) (by kernel_rfl)
  have hF := M.ret_some hF
  subst hF
  exact Run_ret1 rfl (ResV_tmp (v := .bool x1) (by kernel_rfl)) ⟨rfl, rfl⟩

set_option maxRecDepth 100000 in
set_option maxHeartbeats 4000000 in
theorem w_spec_l01All (h : Heap) (list : List Int) {Slist : Bs} (alist : Option Addr) (clist : Nat) (rlist : Rd cd2 h Slist alist clist list) (finite : Bool) (n : Nat) (r : Bool) (hF : spec_l01All list finite n = some r) :
    Fn Try.prog 47 #[.slice alist list.length clist, .bool finite] h fun v h' => v = .bool r ∧ h' = h := by
  unfold spec_l01All at hF
  refine Fn_enter (args := [.slice alist list.length clist, .bool finite]) Try.func47 rfl (by kernel_rfl) (by kernel_rfl) (fun w0 _ => ?_)
  refine Run_seq ?_
  refine Run_reg 1 (by kernel_rfl) (L' := [(0, .slice alist list.length clist), (1, .bool finite)]) ?_ ?_
  · refine QRun_b [.bool false] 0 _ (by kernel_rfl) (fun w => by kernel_rfl) ?_
    exact QRun_done [0, 1] (by kernel_rfl) (by kernel_rfl)
  refine Run_seq ?_
  refine Run_seq ?_
  refine Run_reg 1 (by kernel_rfl) (L' := [(0, .slice alist list.length clist), (1, .bool finite), (5, .int .i64 0)]) ?_ ?_
  · refine QRun_b [.int .i64 0] 0 _ (by kernel_rfl) (fun w => by kernel_rfl) ?_
    exact QRun_done [0, 1, 5] (by kernel_rfl) (by kernel_rfl)
  obtain ⟨x1, gx1, hF⟩ := M.bind_some hF
  obtain ⟨hloy1, hhiy1, gx1⟩ := M.for_start gx1
  refine Run_join (fun L' h' => ∃ (s2 : Unit), x1 = .inl s2 ∧ L' = [] ∧ h = h') ?_ ?_
  · rintro _ _ ⟨s2, es2, rfl, rfl⟩
    have hF := M.cont_inl' hF es2
    refine Run_seq ?_
    refine Run_reg 1 (by kernel_rfl) (L' := [(4, .bool true)]) ?_ ?_
    · refine QRun_b [.bool true] 0 _ (by kernel_rfl) (fun w => by kernel_rfl) ?_
      exact QRun_done [4] (by kernel_rfl) (by kernel_rfl)
    have hF := M.ret_some hF
    subst hF
    exact Run_ret1 rfl (ResV_tmp (v := .bool true) (by kernel_rfl)) ⟨rfl, rfl⟩
  · refine Run_block ?_
    refine Run_keep [0, 1, 5] (L' := [(0, .slice alist list.length clist), (1, .bool finite), (5, .int .i64 0)]) (by kernel_rfl) ?_
    refine Run_loop (fun m L' h' => ∃ (i1 : Int) (s1 : Unit), 0 ≤ i1 ∧ M.forN (list.length : Int) _ _ n m i1 s1 = some x1 ∧ L' = [(0, .slice alist list.length clist), (1, .bool finite), (5, .int .i64 i1)] ∧ h = h') ((list.length : Int) - 0).toNat ⟨0, (), Int.le_refl _, gx1, rfl, rfl⟩ ?_
    rintro my1 _ _ ⟨i1, s1, hloy1', gx1, rfl, rfl⟩
    refine Run_seq ?_
    refine Run_seq ?_
    refine Run_reg 4 (by kernel_rfl) (L' := [(0, .slice alist list.length clist), (1, .bool finite), (5, .int .i64 i1), (9, .bool (decide (i1 < (list.length : Int))))]) ?_ ?_
    · refine QRun_b [.int .i64 i1, .slice alist list.length clist, .int .i64 (list.length : Int), .bool (decide (i1 < (list.length : Int)))] 0 _ (by kernel_rfl) (fun w => by kernel_rfl) ?_
      exact QRun_done [0, 1, 5, 9] (by kernel_rfl) (by kernel_rfl)
    refine Run_cond (b := decide (i1 < (list.length : Int))) (by kernel_rfl) (fun hb1 => ?_) (fun hb1 => ?_)
    · obtain ⟨my1, y1, rfl, hB1, hgoy1, houty1⟩ := M.for_go gx1 hb1
      have hlty1 := of_decide_eq_true hb1
      refine Run_skip ?_
      refine Run_seq ?_
      refine Run_block ?_
      refine Run_seq ?_
      obtain ⟨x2, hx1, hB1⟩ := M.bind_some hB1
      obtain ⟨hx1l, hx1u, hx1⟩ := M.idx_some hx1
      obtain ⟨x3, hx2, hB1⟩ := M.bind_some hB1
      obtain ⟨x4, gx4, hB1⟩ := M.bind_some hB1
      refine Run_reg 16 (by kernel_rfl) (L' := [(0, .slice alist list.length clist), (1, .bool finite), (5, .int .i64 i1), (27, .bool x4)]) ?_ ?_
      · refine QRun_b [.slice alist list.length clist, .int .i64 i1] 0 _ (by kernel_rfl) (fun w => by kernel_rfl) ?_
        refine QRun_y (.pointer (some (adr alist (i1.toNat * 1)))) (by kernel_rfl) (Y_idx (t := 22) (e := 2) (sz := 1) (a := alist) (n := list.length) (cap := clist) (kk := .i64) (i := i1) (by kernel_rfl) Try.underlying22 (by kernel_rfl) (rlist.cell hx1).1 hx1l hx1u) ?_
        refine QRun_y (.int .i64 x2) (by kernel_rfl) (Y_load1 (t := 2) (p := adr alist (i1.toNat * 1)) (v := .int .i64 x2) (by kernel_rfl) (fun w => by kernel_rfl) (cd2_cell rlist hx1)) ?_
        refine QRun_y (.bool x3) (by kernel_rfl) (Y_callq (f := 67) (args := #[.int .i64 x2]) (v := .bool x3) (by kernel_rfl) (w_spec_IsValue h x2 _ _ hx2)) ?_
        refine QRun_b [.bool (!x3)] 5 _ (by kernel_rfl) (fun w => by kernel_rfl) ?_
        refine QRun_seq 16 [(0, .slice alist list.length clist), (1, .bool finite), (5, .int .i64 i1), (27, .bool x4)] ?_ ?_
        · rcases Bool.eq_false_or_eq_true (!x3) with hb2 | hb2
          · refine QRun_bool (!x3) true (by kernel_rfl) (fun w => by kernel_rfl) hb2 ?_
            have gx4 := M.ret_some ((M.ite_some gx4).1 hb2)
            refine QRun_n (by kernel_rfl) ?_
            refine QRun_n (by kernel_rfl) ?_
            refine QRun_n (by kernel_rfl) ?_
            refine QRun_n (by kernel_rfl) ?_
            refine QRun_n (by kernel_rfl) ?_
            refine QRun_n (by kernel_rfl) ?_
            refine QRun_n (by kernel_rfl) ?_
            refine QRun_n (by kernel_rfl) ?_
            refine QRun_bool true x4 (by kernel_rfl) (fun w => by kernel_rfl) gx4 ?_
            exact QRun_done [0, 1, 5, 27] (by kernel_rfl) (by kernel_rfl)
          · refine QRun_bool (!x3) false (by kernel_rfl) (fun w => by kernel_rfl) hb2 ?_
            have gx4 := (M.ite_some gx4).2 hb2
            obtain ⟨x5, gx5, gx4⟩ := M.bind_some gx4
            have gx4 := M.ret_some gx4
            refine QRun_b [.bool finite] 7 _ (by kernel_rfl) (fun w => by kernel_rfl) ?_
            refine QRun_seq 15 [(0, .slice alist list.length clist), (1, .bool finite), (5, .int .i64 i1), (18, .bool false), (26, .bool x5)] ?_ ?_
            · rcases Bool.eq_false_or_eq_true finite with hb3 | hb3
              · refine QRun_bool finite true (by kernel_rfl) (fun w => by kernel_rfl) hb3 ?_
                have gx5 := (M.ite_some gx5).1 hb3
                obtain ⟨x6, hx3, gx5⟩ := M.bind_some gx5
                obtain ⟨hx3l, hx3u, hx3⟩ := M.idx_some hx3
                have gx5 := M.ret_some gx5
                refine QRun_b [.slice alist list.length clist, .int .i64 i1] 9 _ (by kernel_rfl) (fun w => by kernel_rfl) ?_
                refine QRun_y (.pointer (some (adr alist (i1.toNat * 1)))) (by kernel_rfl) (Y_idx (t := 22) (e := 2) (sz := 1) (a := alist) (n := list.length) (cap := clist) (kk := .i64) (i := i1) (by kernel_rfl) Try.underlying22 (by kernel_rfl) (rlist.cell hx3).1 hx3l hx3u) ?_
                refine QRun_y (.int .i64 x6) (by kernel_rfl) (Y_load1 (t := 2) (p := adr alist (i1.toNat * 1)) (v := .int .i64 x6) (by kernel_rfl) (fun w => by kernel_rfl) (cd2_cell rlist hx3)) ?_
                refine QRun_b [.bool (x6 == (-1000000000000000))] 13 _ (by kernel_rfl) (fun w => by kernel_rfl) ?_
                refine QRun_bool (x6 == (-1000000000000000)) x5 (by kernel_rfl) (fun w => by kernel_rfl) gx5 ?_
                exact QRun_done [0, 1, 5, 18, 26] (by kernel_rfl) (by kernel_rfl)
              · refine QRun_bool finite false (by kernel_rfl) (fun w => by kernel_rfl) hb3 ?_
                have gx5 := M.ret_some ((M.ite_some gx5).2 hb3)
                refine QRun_n (by kernel_rfl) ?_
                refine QRun_n (by kernel_rfl) ?_
                refine QRun_n (by kernel_rfl) ?_
                refine QRun_n (by kernel_rfl) ?_
                refine QRun_n (by kernel_rfl) ?_
                refine QRun_bool false x5 (by kernel_rfl) (fun w => by kernel_rfl) gx5 ?_
                exact QRun_done [0, 1, 5, 18, 26] (by kernel_rfl) (by kernel_rfl)
            refine QRun_bool x5 x4 (by kernel_rfl) (fun w => by kernel_rfl) gx4 ?_
            exact QRun_done [0, 1, 5, 27] (by kernel_rfl) (by kernel_rfl)
        exact QRun_done [0, 1, 5, 27] (by kernel_rfl) (by kernel_rfl)
      refine Run_cond (b := x4) (by kernel_rfl) (fun hb4 => ?_) (fun hb4 => ?_)
      · have hB1 := (M.ite_some hB1).1 hb4
        refine Run_seq ?_
        refine Run_reg 1 (by kernel_rfl) (L' := [(4, .bool false)]) ?_ ?_
        · refine QRun_b [.bool false] 0 _ (by kernel_rfl) (fun w => by kernel_rfl) ?_
          exact QRun_done [4] (by kernel_rfl) (by kernel_rfl)
        have hB1 := M.ret_some hB1
        have gx1 := houty1 _ hB1.symm
        have hF := M.cont_inr' hF gx1
        have hF := M.ret_some hF
        subst hF
        exact Run_ret1 rfl (ResV_tmp (v := .bool false) (by kernel_rfl)) ⟨rfl, rfl⟩
      · have hB1 := (M.ite_some hB1).2 hb4
        refine Run_skip ?_
        refine Run_blk ?_
        refine Run_reg 3 (by kernel_rfl) (L' := [(0, .slice alist list.length clist), (1, .bool finite), (5, .int .i64 (i1 + 1))]) ?_ ?_
        · refine QRun_b [.int .i64 i1] 0 _ (by kernel_rfl) (fun w => by kernel_rfl) ?_
          refine QRun_y (.int .i64 (i1 + 1)) (by kernel_rfl) (Y_eq (v := .int .i64 (w64 (i1 + 1))) (Y_pure (fun w => by kernel_rfl)) (by rw [w64_eq _ (by omega)])) ?_
          refine QRun_b [.int .i64 (i1 + 1)] 2 _ (by kernel_rfl) (fun w => by kernel_rfl) ?_
          exact QRun_done [0, 1, 5] (by kernel_rfl) (by kernel_rfl)
        have hB1 := M.ret_some hB1
        have gx1 := hgoy1 _ hB1.symm
        exact Run_again [0, 1, 5] (by kernel_rfl) my1 (Nat.lt_succ_self _) ⟨i1 + 1, (), by omega, gx1, rfl, rfl⟩
    · have gx1 := M.for_end gx1 hb1
      subst gx1
      refine Run_exit (k' := _) rfl ?_
      exact Run_fall [] (by kernel_rfl) ⟨(), rfl, rfl, rfl⟩

set_option maxRecDepth 100000 in
set_option maxHeartbeats 4000000 in
theorem w_spec_IsPolynomial (h : Heap) (c_ : List Int) {Sc_ : Bs} (ac_ : Option Addr) (cc_ : Nat) (rc_ : Rd cd2 h Sc_ ac_ cc_ c_) (n : Nat) (r : Bool) (hF : spec_IsPolynomial c_ n = some r) :
    Fn Try.prog 14 #[.slice ac_ c_.length cc_] h fun v h' => v = .bool r ∧ h' = h := by
  unfold spec_IsPolynomial at hF
  refine Fn_enter (args := [.slice ac_ c_.length cc_]) Try.func14 rfl (by kernel_rfl) (by kernel_rfl) (fun w0 _ => ?_)
  refine Run_seq ?_
  refine Run_reg 1 (by kernel_rfl) (L' := [(0, .slice ac_ c_.length cc_)]) ?_ ?_
  · refine QRun_b [.bool false] 0 _ (by kernel_rfl) (fun w => by kernel_rfl) ?_
    exact QRun_done [0] (by kernel_rfl) (by kernel_rfl)
  refine Run_seq ?_
  refine Run_seq ?_
  obtain ⟨x1, gx1, hF⟩ := M.bind_some hF
  refine Run_reg 8 (by kernel_rfl) (L' := [(0, .slice ac_ c_.length cc_), (11, .bool x1)]) ?_ ?_
  · refine QRun_b [.slice ac_ c_.length cc_, .int .i64 (c_.length : Int), .bool (decide (12 < (c_.length : Int)))] 0 _ (by kernel_rfl) (fun w => by kernel_rfl) ?_
    refine QRun_seq 8 [(0, .slice ac_ c_.length cc_), (11, .bool x1)] ?_ ?_
    · rcases Bool.eq_false_or_eq_true (decide (12 < (c_.length : Int))) with hb1 | hb1
      · refine QRun_bool (decide (12 < (c_.length : Int))) true (by kernel_rfl) (fun w => by kernel_rfl) hb1 ?_
        have gx1 := M.ret_some ((M.ite_some gx1).1 hb1)
        refine QRun_n (by kernel_rfl) ?_
        refine QRun_n (by kernel_rfl) ?_
        refine QRun_n (by kernel_rfl) ?_
        refine QRun_bool true x1 (by kernel_rfl) (fun w => by kernel_rfl) gx1 ?_
        exact QRun_done [0, 11] (by kernel_rfl) (by kernel_rfl)
      · refine QRun_bool (decide (12 < (c_.length : Int))) false (by kernel_rfl) (fun w => by kernel_rfl) hb1 ?_
        have gx1 := (M.ite_some gx1).2 hb1
        obtain ⟨x2, hx1, gx1⟩ := M.bind_some gx1
        have gx1 := M.ret_some gx1
        refine QRun_b [.slice ac_ c_.length cc_] 4 _ (by kernel_rfl) (fun w => by kernel_rfl) ?_
        refine QRun_y (.bool x2) (by kernel_rfl) (Y_callq (f := 47) (args := #[.slice ac_ c_.length cc_, .bool false]) (v := .bool x2) (by kernel_rfl) (w_spec_l01All h c_ ac_ cc_ rc_ false _ _ hx1)) ?_
        refine QRun_b [.bool (!x2)] 6 _ (by kernel_rfl) (fun w => by kernel_rfl) ?_
        refine QRun_bool (!x2) x1 (by kernel_rfl) (fun w => by kernel_rfl) gx1 ?_
        exact QRun_done [0, 11] (by kernel_rfl) (by kernel_rfl)
    exact QRun_done [0, 11] (by kernel_rfl) (by kernel_rfl)
  refine Run_cond (b := x1) (by kernel_rfl) (fun hb2 => ?_) (fun hb2 => ?_)
  · have hF := (M.ite_some hF).1 hb2
    refine Run_seq ?_
    refine Run_reg 1 (by kernel_rfl) (L' := [(2, .bool false)]) ?_ ?_
    · refine QRun_b [.bool false] 0 _ (by kernel_rfl) (fun w => by kernel_rfl) ?_
      exact QRun_done [2] (by kernel_rfl) (by kernel_rfl)
    have hF := M.ret_some hF
    subst hF
    exact Run_ret1 rfl (ResV_tmp (v := .bool false) (by kernel_rfl)) ⟨rfl, rfl⟩
  · have hF := (M.ite_some hF).2 hb2
    refine Run_skip ?_
    refine Run_seq ?_
    refine Run_seq ?_
    refine Run_reg 1 (by kernel_rfl) (L' := [(0, .slice ac_ c_.length cc_), (3, .int .i64 0)]) ?_ ?_
    · refine QRun_b [.int .i64 0] 0 _ (by kernel_rfl) (fun w => by kernel_rfl) ?_
      exact QRun_done [0, 3] (by kernel_rfl) (by kernel_rfl)
    obtain ⟨x3, gx3, hF⟩ := M.bind_some hF
    obtain ⟨hloy1, hhiy1, gx3⟩ := M.for_start gx3
    refine Run_join (fun L' h' => ∃ (s2 : Unit), x3 = .inl s2 ∧ L' = [] ∧ h = h') ?_ ?_
    · rintro _ _ ⟨s2, es2, rfl, rfl⟩
      have hF := M.cont_inl' hF es2
      refine Run_seq ?_
      refine Run_reg 1 (by kernel_rfl) (L' := [(2, .bool false)]) ?_ ?_
      · refine QRun_b [.bool false] 0 _ (by kernel_rfl) (fun w => by kernel_rfl) ?_
        exact QRun_done [2] (by kernel_rfl) (by kernel_rfl)
      have hF := M.ret_some hF
      subst hF
      exact Run_ret1 rfl (ResV_tmp (v := .bool false) (by kernel_rfl)) ⟨rfl, rfl⟩
    · refine Run_block ?_
      refine Run_keep [0, 3] (L' := [(0, .slice ac_ c_.length cc_), (3, .int .i64 0)]) (by kernel_rfl) ?_
      refine Run_loop (fun m L' h' => ∃ (i1 : Int) (s1 : Unit), 0 ≤ i1 ∧ M.forN (c_.length : Int) _ _ n m i1 s1 = some x3 ∧ L' = [(0, .slice ac_ c_.length cc_), (3, .int .i64 i1)] ∧ h = h') ((c_.length : Int) - 0).toNat ⟨0, (), Int.le_refl _, gx3, rfl, rfl⟩ ?_
      rintro my1 _ _ ⟨i1, s1, hloy1', gx3, rfl, rfl⟩
      refine Run_seq ?_
      refine Run_seq ?_
      refine Run_reg 4 (by kernel_rfl) (L' := [(0, .slice ac_ c_.length cc_), (3, .int .i64 i1), (15, .bool (decide (i1 < (c_.length : Int))))]) ?_ ?_
      · refine QRun_b [.int .i64 i1, .slice ac_ c_.length cc_, .int .i64 (c_.length : Int), .bool (decide (i1 < (c_.length : Int)))] 0 _ (by kernel_rfl) (fun w => by kernel_rfl) ?_
        exact QRun_done [0, 3, 15] (by kernel_rfl) (by kernel_rfl)
      refine Run_cond (b := decide (i1 < (c_.length : Int))) (by kernel_rfl) (fun hb3 => ?_) (fun hb3 => ?_)
      · obtain ⟨my1, y1, rfl, hB1, hgoy1, houty1⟩ := M.for_go gx3 hb3
        have hlty1 := of_decide_eq_true hb3
        refine Run_skip ?_
        refine Run_seq ?_
        refine Run_block ?_
        refine Run_seq ?_
        obtain ⟨x4, hx2, hB1⟩ := M.bind_some hB1
        obtain ⟨hx2l, hx2u, hx2⟩ := M.idx_some hx2
        refine Run_reg 5 (by kernel_rfl) (L' := [(0, .slice ac_ c_.length cc_), (3, .int .i64 i1), (22, .bool (x4 != (-1000000000000000)))]) ?_ ?_
        · refine QRun_b [.slice ac_ c_.length cc_, .int .i64 i1] 0 _ (by kernel_rfl) (fun w => by kernel_rfl) ?_
          refine QRun_y (.pointer (some (adr ac_ (i1.toNat * 1)))) (by kernel_rfl) (Y_idx (t := 22) (e := 2) (sz := 1) (a := ac_) (n := c_.length) (cap := cc_) (kk := .i64) (i := i1) (by kernel_rfl) Try.underlying22 (by kernel_rfl) (rc_.cell hx2).1 hx2l hx2u) ?_
          refine QRun_y (.int .i64 x4) (by kernel_rfl) (Y_load1 (t := 2) (p := adr ac_ (i1.toNat * 1)) (v := .int .i64 x4) (by kernel_rfl) (fun w => by kernel_rfl) (cd2_cell rc_ hx2)) ?_
          refine QRun_b [.bool (x4 != (-1000000000000000))] 4 _ (by kernel_rfl) (fun w => by kernel_rfl) ?_
          exact QRun_done [0, 3, 22] (by kernel_rfl) (by kernel_rfl)
        refine Run_cond (b := x4 != (-1000000000000000)) (by kernel_rfl) (fun hb4 => ?_) (fun hb4 => ?_)
        · have hB1 := (M.ite_some hB1).1 hb4
          refine Run_seq ?_
          refine Run_reg 1 (by kernel_rfl) (L' := [(2, .bool true)]) ?_ ?_
          · refine QRun_b [.bool true] 0 _ (by kernel_rfl) (fun w => by kernel_rfl) ?_
            exact QRun_done [2] (by kernel_rfl) (by kernel_rfl)
          have hB1 := M.ret_some hB1
          have gx3 := houty1 _ hB1.symm
          have hF := M.cont_inr' hF gx3
          have hF := M.ret_some hF
          subst hF
          exact Run_ret1 rfl (ResV_tmp (v := .bool true) (by kernel_rfl)) ⟨rfl, rfl⟩
        · have hB1 := (M.ite_some hB1).2 hb4
          refine Run_skip ?_
          refine Run_blk ?_
          refine Run_reg 3 (by kernel_rfl) (L' := [(0, .slice ac_ c_.length cc_), (3, .int .i64 (i1 + 1))]) ?_ ?_
          · refine QRun_b [.int .i64 i1] 0 _ (by kernel_rfl) (fun w => by kernel_rfl) ?_
            refine QRun_y (.int .i64 (i1 + 1)) (by kernel_rfl) (Y_eq (v := .int .i64 (w64 (i1 + 1))) (Y_pure (fun w => by kernel_rfl)) (by rw [w64_eq _ (by omega)])) ?_
            refine QRun_b [.int .i64 (i1 + 1)] 2 _ (by kernel_rfl) (fun w => by kernel_rfl) ?_
            exact QRun_done [0, 3] (by kernel_rfl) (by kernel_rfl)
          have hB1 := M.ret_some hB1
          have gx3 := hgoy1 _ hB1.symm
          exact Run_again [0, 3] (by kernel_rfl) my1 (Nat.lt_succ_self _) ⟨i1 + 1, (), by omega, gx3, rfl, rfl⟩
      · have gx3 := M.for_end gx3 hb3
        subst gx3
        refine Run_exit (k' := _) rfl ?_
        exact Run_fall [] (by kernel_rfl) ⟨(), rfl, rfl, rfl⟩

set_option maxRecDepth 100000 in
set_option maxHeartbeats 4000000 in
theorem w_spec_l02Bottom (h : Heap) (m_ : Int) (n_ : Int) (n : Nat) (r : (List (List Int))) (hF : spec_l02Bottom m_ n_ n = some r) :
    Fn Try.prog 79 #[.int .i64 m_, .int .i64 n_] h fun v h' => ∃ (a0 : Option Addr) (c0 : Nat), v = .slice a0 r.length c0 ∧ Hold h h' [own cd22 a0 r.length c0 r] := by
  unfold spec_l02Bottom at hF
  refine Fn_enter (args := [.int .i64 m_, .int .i64 n_]) Try.func79 rfl (by kernel_rfl) (by kernel_rfl) (fun w0 _ => ?_)
  have H0 := Hold.init h
  refine Run_seq ?_
  refine Run_reg 1 (by kernel_rfl) (L' := [(0, .int .i64 m_), (1, .int .i64 n_)]) ?_ ?_
  · refine QRun_b [.slice none 0 0] 0 _ (by kernel_rfl) (fun w => by kernel_rfl) ?_
    exact QRun_done [0, 1] (by kernel_rfl) (by kernel_rfl)
  refine Run_seq ?_
  refine Run_ops ?_
  refine Run_E (by kernel_rfl) ?_
  refine E_lit (C := cd22) (n := 0) (l := []) (cs := []) H0 (fun w => by kernel_rfl) (Enc.nil _ _) rfl (by decide) (fun a1 h1 H1 => ?_)
  refine Run_b [.slice a1 0 0] 1 _ (by kernel_rfl) (fun w => by kernel_rfl) ?_
  refine Run_nil (by kernel_rfl) ?_
  refine Run_keep [0, 1, 5] (L' := [(0, .int .i64 m_), (1, .int .i64 n_), (5, .slice a1 0 0)]) (by kernel_rfl) ?_
  refine Run_seq ?_
  refine Run_seq ?_
  refine Run_reg 1 (by kernel_rfl) (L' := [(0, .int .i64 m_), (1, .int .i64 n_), (5, .slice a1 0 0), (6, .int .i64 0)]) ?_ ?_
  · refine QRun_b [.int .i64 0] 0 _ (by kernel_rfl) (fun w => by kernel_rfl) ?_
    exact QRun_done [0, 1, 5, 6] (by kernel_rfl) (by kernel_rfl)
  obtain ⟨x1, gx1, hF⟩ := M.bind_some hF
  obtain ⟨hloy1, hhiy1, gx1⟩ := M.for_start gx1
  refine Run_join (fun L' h' => ∃ (a3 : Option Addr) (c2 : Nat), L' = [(5, .slice a3 x1.length c2)] ∧ Hold h h' [own cd22 a3 x1.length c2 x1]) ?_ ?_
  · rintro _ h3 ⟨a3, c2, rfl, H3⟩
    refine Run_seq ?_
    refine Run_reg 2 (by kernel_rfl) (L' := [(4, .slice a3 x1.length c2)]) ?_ ?_
    · refine QRun_b [.slice a3 x1.length c2, .slice a3 x1.length c2] 0 _ (by kernel_rfl) (fun w => by kernel_rfl) ?_
      exact QRun_done [4] (by kernel_rfl) (by kernel_rfl)
    have hF := M.ret_some hF
    subst hF
    exact Run_ret1 rfl (ResV_tmp (v := .slice a3 x1.length c2) (by kernel_rfl)) ⟨a3, c2, rfl, H3⟩
  · refine Run_block ?_
    have hn2 := (H1.len 0 rfl)
    have H23 : Hold h h1 [own cd22 a1 (([] : List (List Int)).length) 0 ([] : List (List Int))] := by rw [hn2]; exact H1
    refine Run_keep [0, 1, 5, 6] (L' := [(0, .int .i64 m_), (1, .int .i64 n_), (5, .slice a1 (([] : List (List Int)).length) 0), (6, .int .i64 0)]) (by rw [hn2]; kernel_rfl) ?_
    refine Run_loop (fun m L' h' => ∃ (i1 : Int) (s1 : (List (List Int))) (a2 : Option Addr) (c1 : Nat), 0 ≤ i1 ∧ M.forN m_ _ _ n m i1 s1 = some x1 ∧ L' = [(0, .int .i64 m_), (1, .int .i64 n_), (5, .slice a2 s1.length c1), (6, .int .i64 i1)] ∧ Hold h h' [own cd22 a2 s1.length c1 s1]) (m_ - 0).toNat ⟨0, ([] : List (List Int)), a1, 0, Int.le_refl _, gx1, rfl, H23⟩ ?_
    rintro my1 _ h2 ⟨i1, s1, a2, c1, hloy1', gx1, rfl, H2⟩
    refine Run_seq ?_
    refine Run_seq ?_
    refine Run_reg 3 (by kernel_rfl) (L' := [(0, .int .i64 m_), (1, .int .i64 n_), (5, .slice a2 s1.length c1), (6, .int .i64 i1), (12, .bool (decide (i1 < m_)))]) ?_ ?_
    · refine QRun_b [.int .i64 i1, .int .i64 m_, .bool (decide (i1 < m_))] 0 _ (by kernel_rfl) (fun w => by kernel_rfl) ?_
      exact QRun_done [0, 1, 5, 6, 12] (by kernel_rfl) (by kernel_rfl)
    refine Run_cond (b := decide (i1 < m_)) (by kernel_rfl) (fun hb1 => ?_) (fun hb1 => ?_)
    · obtain ⟨my1, y1, rfl, hB1, hgoy1, houty1⟩ := M.for_go gx1 hb1
      have hlty1 := of_decide_eq_true hb1
      refine Run_skip ?_
      refine Run_seq ?_
      refine Run_block ?_
      refine Run_seq ?_
      refine Run_ops ?_
      refine Run_E (by kernel_rfl) ?_
      refine E_lit (C := cd2) (n := 0) (l := ([] : List Int)) (cs := []) H2 (fun w => by kernel_rfl) (Enc.nil _ _) rfl (by decide) (fun a4 h4 H4 => ?_)
      refine Run_b [.slice a4 0 0] 1 _ (by kernel_rfl) (fun w => by kernel_rfl) ?_
      refine Run_nil (by kernel_rfl) ?_
      refine Run_keep [0, 1, 5, 6, 7] (L' := [(0, .int .i64 m_), (1, .int .i64 n_), (5, .slice a2 s1.length c1), (6, .int .i64 i1), (7, .slice a4 0 0)]) (by kernel_rfl) ?_
      refine Run_seq ?_
      refine Run_seq ?_
      refine Run_reg 1 (by kernel_rfl) (L' := [(0, .int .i64 m_), (1, .int .i64 n_), (5, .slice a2 s1.length c1), (6, .int .i64 i1), (7, .slice a4 0 0), (8, .int .i64 0)]) ?_ ?_
      · refine QRun_b [.int .i64 0] 0 _ (by kernel_rfl) (fun w => by kernel_rfl) ?_
        exact QRun_done [0, 1, 5, 6, 7, 8] (by kernel_rfl) (by kernel_rfl)
      obtain ⟨x2, gx2, hB1⟩ := M.bind_some hB1
      obtain ⟨hloy2, hhiy2, gx2⟩ := M.for_start gx2
      refine Run_join (fun L' h' => ∃ (a6 : Option Addr) (c4 : Nat), L' = [(0, .int .i64 m_), (1, .int .i64 n_), (5, .slice a2 s1.length c1), (6, .int .i64 i1), (7, .slice a6 x2.length c4)] ∧ Hold h h' [own cd22 a2 s1.length c1 s1, own cd2 a6 x2.length c4 x2]) ?_ ?_
      · rintro _ h6 ⟨a6, c4, rfl, H6⟩
        refine Run_ops ?_
        refine Run_b [.slice a2 s1.length c1, .slice a6 x2.length c4] 0 _ (by kernel_rfl) (fun w => by kernel_rfl) ?_
        have H16 : Hold h h6 [own cd2 a6 x2.length c4 x2, own cd22 a2 s1.length c1 s1] := H6.pick [1, 0] (by kernel_rfl)
        refine Run_E (by kernel_rfl) ?_
        refine E_lit1 (ey := 22) (n := x2.length) H16 (fun w => by kernel_rfl) rfl (fun a9 h9 H15 => ?_)
        obtain ⟨l2, hl2, hB1⟩ := M.bind_some hB1
        have hl2 := M.app_some hl2
        have H17 : Hold h h9 [own cd22 a2 s1.length c1 s1, own cd22 a9 1 1 [x2]] := H15.pick [1, 0] (by kernel_rfl)
        have H18 : Hold h h9 [own cd22 a9 1 1 [x2], own cd22 a2 s1.length c1 s1] := H17.pick [1, 0] (by kernel_rfl)
        have H19 : Hold h h9 [own cd22 a2 s1.length c1 s1, own cd22 a9 1 1 [x2]] := H18.pick [1, 0] (by kernel_rfl)
        refine Run_E (by kernel_rfl) ?_
        refine E_app (C := cd22) (t := 45) (ty := 45) (n := s1.length) (m := 1) H19 cd22_ti rfl Try.underlying45 (by decide) (by kernel_rfl) hl2 (fun a10 c6 h10 H20 => ?_)
        refine Run_b [.slice a10 l2.length c6] 4 _ (by kernel_rfl) (fun w => by kernel_rfl) ?_
        refine Run_nil (by kernel_rfl) ?_
        refine Run_keep [0, 1, 5, 6] (L' := [(0, .int .i64 m_), (1, .int .i64 n_), (5, .slice a10 l2.length c6), (6, .int .i64 i1)]) (by kernel_rfl) ?_
        refine Run_blk ?_
        refine Run_reg 3 (by kernel_rfl) (L' := [(0, .int .i64 m_), (1, .int .i64 n_), (5, .slice a10 l2.length c6), (6, .int .i64 (i1 + 1))]) ?_ ?_
        · refine QRun_b [.int .i64 i1] 0 _ (by kernel_rfl) (fun w => by kernel_rfl) ?_
          refine QRun_y (.int .i64 (i1 + 1)) (by kernel_rfl) (Y_eq (v := .int .i64 (w64 (i1 + 1))) (Y_pure (fun w => by kernel_rfl)) (by rw [w64_eq _ (by omega)])) ?_
          refine QRun_b [.int .i64 (i1 + 1)] 2 _ (by kernel_rfl) (fun w => by kernel_rfl) ?_
          exact QRun_done [0, 1, 5, 6] (by kernel_rfl) (by kernel_rfl)
        have hB1 := M.ret_some hB1
        have gx1 := hgoy1 _ hB1.symm
        exact Run_again [0, 1, 5, 6] (by kernel_rfl) my1 (Nat.lt_succ_self _) ⟨i1 + 1, l2, a10, c6, by omega, gx1, rfl, H20⟩
      · refine Run_block ?_
        have hn1 := (H4.len 0 rfl)
        have H21 : Hold h h4 [own cd2 a4 (([] : List Int).length) 0 ([] : List Int), own cd22 a2 s1.length c1 s1] := by rw [hn1]; exact H4
        have H22 : Hold h h4 [own cd22 a2 s1.length c1 s1, own cd2 a4 (([] : List Int).length) 0 ([] : List Int)] := H21.pick [1, 0] (by kernel_rfl)
        refine Run_keep [0, 1, 5, 6, 7, 8] (L' := [(0, .int .i64 m_), (1, .int .i64 n_), (5, .slice a2 s1.length c1), (6, .int .i64 i1), (7, .slice a4 (([] : List Int).length) 0), (8, .int .i64 0)]) (by rw [hn1]; kernel_rfl) ?_
        refine Run_loop (fun m L' h' => ∃ (i2 : Int) (s2 : (List Int)) (a5 : Option Addr) (c3 : Nat), 0 ≤ i2 ∧ M.forN n_ _ _ n m i2 s2 = some x2 ∧ L' = [(0, .int .i64 m_), (1, .int .i64 n_), (5, .slice a2 s1.length c1), (6, .int .i64 i1), (7, .slice a5 s2.length c3), (8, .int .i64 i2)] ∧ Hold h h' [own cd22 a2 s1.length c1 s1, own cd2 a5 s2.length c3 s2]) (n_ - 0).toNat ⟨0, ([] : List Int), a4, 0, Int.le_refl _, gx2, rfl, H22⟩ ?_
        rintro my2 _ h5 ⟨i2, s2, a5, c3, hloy2', gx2, rfl, H5⟩
        refine Run_seq ?_
        refine Run_seq ?_
        refine Run_reg 3 (by kernel_rfl) (L' := [(0, .int .i64 m_), (1, .int .i64 n_), (5, .slice a2 s1.length c1), (6, .int .i64 i1), (7, .slice a5 s2.length c3), (8, .int .i64 i2), (18, .bool (decide (i2 < n_)))]) ?_ ?_
        · refine QRun_b [.int .i64 i2, .int .i64 n_, .bool (decide (i2 < n_))] 0 _ (by kernel_rfl) (fun w => by kernel_rfl) ?_
          exact QRun_done [0, 1, 5, 6, 7, 8, 18] (by kernel_rfl) (by kernel_rfl)
        refine Run_cond (b := decide (i2 < n_)) (by kernel_rfl) (fun hb2 => ?_) (fun hb2 => ?_)
        · obtain ⟨my2, y2, rfl, hB2, hgoy2, houty2⟩ := M.for_go gx2 hb2
          have hlty2 := of_decide_eq_true hb2
          refine Run_skip ?_
          refine Run_seq ?_
          refine Run_block ?_
          refine Run_ops ?_
          refine Run_b [.slice a5 s2.length c3] 0 _ (by kernel_rfl) (fun w => by kernel_rfl) ?_
          refine Run_E (by kernel_rfl) ?_
          refine E_lit (C := cd2) (n := 1) (l := ([(-1000000000000000)] : List Int)) (cs := [.int .i64 (-1000000000000000)]) H5 (fun w => by kernel_rfl) (Enc.consE (cd2_own (-1000000000000000) _) (Enc.nil _ _) rfl) rfl (by decide) (fun a7 h7 H7 => ?_)
          obtain ⟨l1, hl1, hB2⟩ := M.bind_some hB2
          have hl1 := M.app_some hl1
          have H8 : Hold h h7 [own cd2 a5 s2.length c3 s2, own cd2 a7 1 1 ([(-1000000000000000)] : List Int), own cd22 a2 s1.length c1 s1] := H7.pick [2, 0, 1] (by kernel_rfl)
          have H9 : Hold h h7 [own cd2 a7 1 1 ([(-1000000000000000)] : List Int), own cd2 a5 s2.length c3 s2, own cd22 a2 s1.length c1 s1] := H8.pick [1, 0, 2] (by kernel_rfl)
          have H10 : Hold h h7 [own cd2 a5 s2.length c3 s2, own cd2 a7 1 1 ([(-1000000000000000)] : List Int), own cd22 a2 s1.length c1 s1] := H9.pick [1, 0, 2] (by kernel_rfl)
          refine Run_E (by kernel_rfl) ?_
          refine E_app (C := cd2) (t := 22) (ty := 22) (n := s2.length) (m := 1) H10 cd2_ti rfl Try.underlying22 (by decide) (by kernel_rfl) hl1 (fun a8 c5 h8 H11 => ?_)
          refine Run_b [.slice a8 l1.length c5] 3 _ (by kernel_rfl) (fun w => by kernel_rfl) ?_
          refine Run_nil (by kernel_rfl) ?_
          refine Run_keep [0, 1, 5, 6, 7, 8] (L' := [(0, .int .i64 m_), (1, .int .i64 n_), (5, .slice a2 s1.length c1), (6, .int .i64 i1), (7, .slice a8 l1.length c5), (8, .int .i64 i2)]) (by kernel_rfl) ?_
          refine Run_blk ?_
          refine Run_reg 3 (by kernel_rfl) (L' := [(0, .int .i64 m_), (1, .int .i64 n_), (5, .slice a2 s1.length c1), (6, .int .i64 i1), (7, .slice a8 l1.length c5), (8, .int .i64 (i2 + 1))]) ?_ ?_
          · refine QRun_b [.int .i64 i2] 0 _ (by kernel_rfl) (fun w => by kernel_rfl) ?_
            refine QRun_y (.int .i64 (i2 + 1)) (by kernel_rfl) (Y_eq (v := .int .i64 (w64 (i2 + 1))) (Y_pure (fun w => by kernel_rfl)) (by rw [w64_eq _ (by omega)])) ?_
            refine QRun_b [.int .i64 (i2 + 1)] 2 _ (by kernel_rfl) (fun w => by kernel_rfl) ?_
            exact QRun_done [0, 1, 5, 6, 7, 8] (by kernel_rfl) (by kernel_rfl)
          have H12 : Hold h h8 [own cd22 a2 s1.length c1 s1, own cd2 a8 l1.length c5 l1] := H11.pick [1, 0] (by kernel_rfl)
          have hB2 := M.ret_some hB2
          have gx2 := hgoy2 _ hB2.symm
          exact Run_again [0, 1, 5, 6, 7, 8] (by kernel_rfl) my2 (Nat.lt_succ_self _) ⟨i2 + 1, l1, a8, c5, by omega, gx2, rfl, H12⟩
        · have gx2 := M.for_end gx2 hb2
          subst gx2
          refine Run_exit (k' := _) rfl ?_
          have H13 : Hold h h5 [own cd2 a5 s2.length c3 s2, own cd22 a2 s1.length c1 s1] := H5.pick [1, 0] (by kernel_rfl)
          have H14 : Hold h h5 [own cd22 a2 s1.length c1 s1, own cd2 a5 s2.length c3 s2] := H13.pick [1, 0] (by kernel_rfl)
          exact Run_fall [0, 1, 5, 6, 7] (by kernel_rfl) ⟨a5, c3, rfl, H14⟩
    · have gx1 := M.for_end gx1 hb1
      subst gx1
      refine Run_exit (k' := _) rfl ?_
      exact Run_fall [5] (by kernel_rfl) ⟨a2, c1, rfl, H2⟩

set_option maxRecDepth 100000 in
set_option maxHeartbeats 4000000 in
theorem w_spec_l01Times (h : Heap) (a_ : Int) (b : Int) (n : Nat) (r : Int) (hF : spec_l01Times a_ b n = some r) :
    Fn Try.prog 68 #[.int .i64 a_, .int .i64 b] h fun v h' => v = .int .i64 r ∧ h' = h := by
  unfold spec_l01Times at hF
  refine Fn_enter (args := [.int .i64 a_, .int .i64 b]) Try.func68 rfl (by kernel_rfl) (by kernel_rfl) (fun w0 _ => ?_)
  refine Run_seq ?_
  refine Run_reg 1 (by kernel_rfl) (L' := [(0, .int .i64 a_), (1, .int .i64 b)]) ?_ ?_
  · refine QRun_b [.int .i64 0] 0 _ (by kernel_rfl) (fun w => by kernel_rfl) ?_
    exact QRun_done [0, 1] (by kernel_rfl) (by kernel_rfl)
  refine Run_seq ?_
  refine Run_seq ?_
  refine Run_reg 6 (by kernel_rfl) (L' := [(0, .int .i64 a_), (1, .int .i64 b), (10, .bool ((a_ == (-1000000000000000)) || (b == (-1000000000000000))))]) ?_ ?_
  · refine QRun_b [.int .i64 a_, .bool (a_ == (-1000000000000000))] 0 _ (by kernel_rfl) (fun w => by kernel_rfl) ?_
    refine QRun_seq 6 [(0, .int .i64 a_), (1, .int .i64 b), (10, .bool ((a_ == (-1000000000000000)) || (b == (-1000000000000000))))] ?_ ?_
    · rcases Bool.eq_false_or_eq_true (a_ == (-1000000000000000)) with hb1 | hb1
      · refine QRun_bool (a_ == (-1000000000000000)) true (by kernel_rfl) (fun w => by kernel_rfl) hb1 ?_
        refine QRun_n (by kernel_rfl) ?_
        refine QRun_n (by kernel_rfl) ?_
        refine QRun_bool true ((a_ == (-1000000000000000)) || (b == (-1000000000000000))) (by kernel_rfl) (fun w => by kernel_rfl) (by rw [hb1]; rfl) ?_
        exact QRun_done [0, 1, 10] (by kernel_rfl) (by kernel_rfl)
      · refine QRun_bool (a_ == (-1000000000000000)) false (by kernel_rfl) (fun w => by kernel_rfl) hb1 ?_
        refine QRun_b [.int .i64 b, .bool (b == (-1000000000000000))] 3 _ (by kernel_rfl) (fun w => by kernel_rfl) ?_
        refine QRun_bool (b == (-1000000000000000)) ((a_ == (-1000000000000000)) || (b == (-1000000000000000))) (by kernel_rfl) (fun w => by kernel_rfl) (by rw [hb1]; rfl) ?_
        exact QRun_done [0, 1, 10] (by kernel_rfl) (by kernel_rfl)
    exact QRun_done [0, 1, 10] (by kernel_rfl) (by kernel_rfl)
  refine Run_cond (b := (a_ == (-1000000000000000)) || (b == (-1000000000000000))) (by kernel_rfl) (fun hb2 => ?_) (fun hb2 => ?_)
  · have hF := (M.ite_some hF).1 hb2
    refine Run_seq ?_
    refine Run_reg 1 (by kernel_rfl) (L' := [(4, .int .i64 (-1000000000000000))]) ?_ ?_
    · refine QRun_b [.int .i64 (-1000000000000000)] 0 _ (by kernel_rfl) (fun w => by kernel_rfl) ?_
      exact QRun_done [4] (by kernel_rfl) (by kernel_rfl)
    have hF := M.ret_some hF
    subst hF
    exact Run_ret1 rfl (ResV_tmp (v := .int .i64 (-1000000000000000)) (by kernel_rfl)) ⟨rfl, rfl⟩
  · have hF := (M.ite_some hF).2 hb2
    refine Run_skip ?_
    refine Run_seq ?_
    refine Run_reg 4 (by kernel_rfl) (L' := [(4, .int .i64 (w64 (a_ + b)))]) ?_ ?_
    · refine QRun_b [.int .i64 a_, .int .i64 b, .int .i64 (w64 (a_ + b)), .int .i64 (w64 (a_ + b))] 0 _ (by kernel_rfl) (fun w => by kernel_rfl) ?_
      exact QRun_done [4] (by kernel_rfl) (by kernel_rfl)
    have hF := M.ret_some hF
    subst hF
    exact Run_ret1 rfl (ResV_tmp (v := .int .i64 (w64 (a_ + b))) (by kernel_rfl)) ⟨rfl, rfl⟩

set_option maxRecDepth 100000 in
set_option maxHeartbeats 4000000 in
theorem w_spec_MultiplyPolynomials (h : Heap) (c_ : List Int) (ac_ : Option Addr) (cc_ : Nat) (rc_ : Rd cd2 h (Lt h) ac_ cc_ c_) (d : List Int) (ad : Option Addr) (cd : Nat) (rd : Rd cd2 h (Lt h) ad cd d) (n : Nat) (r : (List Int) × Int) (hF : spec_MultiplyPolynomials c_ d n = some r) :
    Fn Try.prog 38 #[.slice ac_ c_.length cc_, .slice ad d.length cd] h fun v h' => ∃ (a0 : Option Addr) (c0 : Nat), v = .tuple #[.slice a0 r.1.length c0, .int .i64 r.2] ∧ Hold h h' [own cd2 a0 r.1.length c0 r.1] := by
  unfold spec_MultiplyPolynomials at hF
  refine Fn_enter (args := [.slice ac_ c_.length cc_, .slice ad d.length cd]) Try.func38 rfl (by kernel_rfl) (by kernel_rfl) (fun w0 _ => ?_)
  have H0 := Hold.init h
  refine Run_seq ?_
  refine Run_reg 2 (by kernel_rfl) (L' := [(0, .slice ac_ c_.length cc_), (1, .slice ad d.length cd)]) ?_ ?_
  · refine QRun_b [.slice none 0 0, .int .i64 0] 0 _ (by kernel_rfl) (fun w => by kernel_rfl) ?_
    exact QRun_done [0, 1] (by kernel_rfl) (by kernel_rfl)
  refine Run_seq ?_
  refine Run_seq ?_
  obtain ⟨x1, hx1, hF⟩ := M.bind_some hF
  obtain ⟨x2, gx2, hF⟩ := M.bind_some hF
  refine Run_reg 8 (by kernel_rfl) (L' := [(0, .slice ac_ c_.length cc_), (1, .slice ad d.length cd), (16, .bool x2)]) ?_ ?_
  · refine QRun_b [.slice ac_ c_.length cc_] 0 _ (by kernel_rfl) (fun w => by kernel_rfl) ?_
    refine QRun_y (.bool x1) (by kernel_rfl) (Y_callq (f := 14) (args := #[.slice ac_ c_.length cc_]) (v := .bool x1) (by kernel_rfl) (w_spec_IsPolynomial h c_ ac_ cc_ rc_ _ _ hx1)) ?_
    refine QRun_b [.bool (!x1)] 2 _ (by kernel_rfl) (fun w => by kernel_rfl) ?_
    refine QRun_seq 8 [(0, .slice ac_ c_.length cc_), (1, .slice ad d.length cd), (16, .bool x2)] ?_ ?_
    · rcases Bool.eq_false_or_eq_true (!x1) with hb1 | hb1
      · refine QRun_bool (!x1) true (by kernel_rfl) (fun w => by kernel_rfl) hb1 ?_
        have gx2 := M.ret_some ((M.ite_some gx2).1 hb1)
        refine QRun_n (by kernel_rfl) ?_
        refine QRun_n (by kernel_rfl) ?_
        refine QRun_n (by kernel_rfl) ?_
        refine QRun_bool true x2 (by kernel_rfl) (fun w => by kernel_rfl) gx2 ?_
        exact QRun_done [0, 1, 16] (by kernel_rfl) (by kernel_rfl)
      · refine QRun_bool (!x1) false (by kernel_rfl) (fun w => by kernel_rfl) hb1 ?_
        have gx2 := (M.ite_some gx2).2 hb1
        obtain ⟨x3, hx2, gx2⟩ := M.bind_some gx2
        have gx2 := M.ret_some gx2
        refine QRun_b [.slice ad d.length cd] 4 _ (by kernel_rfl) (fun w => by kernel_rfl) ?_
        refine QRun_y (.bool x3) (by kernel_rfl) (Y_callq (f := 14) (args := #[.slice ad d.length cd]) (v := .bool x3) (by kernel_rfl) (w_spec_IsPolynomial h d ad cd rd _ _ hx2)) ?_
        refine QRun_b [.bool (!x3)] 6 _ (by kernel_rfl) (fun w => by kernel_rfl) ?_
        refine QRun_bool (!x3) x2 (by kernel_rfl) (fun w => by kernel_rfl) gx2 ?_
        exact QRun_done [0, 1, 16] (by kernel_rfl) (by kernel_rfl)
    exact QRun_done [0, 1, 16] (by kernel_rfl) (by kernel_rfl)
  refine Run_cond (b := x2) (by kernel_rfl) (fun hb2 => ?_) (fun hb2 => ?_)
  · have hF := (M.ite_some hF).1 hb2
    refine Run_seq ?_
    refine Run_reg 2 (by kernel_rfl) (L' := [(4, .slice none 0 0), (5, .int .i64 1)]) ?_ ?_
    · refine QRun_b [.slice none 0 0, .int .i64 1] 0 _ (by kernel_rfl) (fun w => by kernel_rfl) ?_
      exact QRun_done [4, 5] (by kernel_rfl) (by kernel_rfl)
    have hF := M.ret_some hF
    subst hF
    have H1 := H0.empty cd2
    exact Run_ret2 rfl (ResV_tmp (v := .slice none 0 0) (by kernel_rfl)) (ResV_tmp (v := .int .i64 1) (by kernel_rfl)) ⟨none, 0, rfl, H1⟩
  · have hF := (M.ite_some hF).2 hb2
    refine Run_skip ?_
    refine Run_seq ?_
    refine Run_ops ?_
    refine Run_b [.slice ac_ c_.length cc_, .int .i64 (c_.length : Int), .slice ad d.length cd, .int .i64 (d.length : Int), .int .i64 (w64 ((c_.length : Int) + (d.length : Int))), .int .i64 (w64 ((w64 ((c_.length : Int) + (d.length : Int))) - 1))] 0 _ (by kernel_rfl) (fun w => by kernel_rfl) ?_
    obtain ⟨x4, hx3, hF⟩ := M.bind_some hF
    refine Run_E (by kernel_rfl) ?_
    refine E_call (f := 79) (args := #[.int .i64 1, .int .i64 (w64 ((w64 ((c_.length : Int) + (d.length : Int))) - 1))]) (w_spec_l02Bottom h 1 (w64 ((w64 ((c_.length : Int) + (d.length : Int))) - 1)) _ _ hx3) (by kernel_rfl) (fun v1 h1 hp1 => ?_)
    obtain ⟨a1, c1, rfl, H2⟩ := hp1
    have H3 : Hold h h1 [own cd22 a1 x4.length c1 x4] := H0.call H2 rfl
    obtain ⟨x5, hx4, hF⟩ := M.bind_some hF
    obtain ⟨hx4l, hx4u, hx4⟩ := M.idx_some hx4
    obtain ⟨a2, c2, hc1, H4⟩ := H3.takeRow hx4
    refine Run_y (.pointer (some (adr a1 (0 * 1)))) (by kernel_rfl) (Y_idx (t := 45) (e := 22) (sz := 1) (a := a1) (n := x4.length) (cap := c1) (kk := .i64) (i := 0) (by kernel_rfl) Try.underlying45 (by kernel_rfl) ((H3.rd 0 rfl).cell hx4).1 hx4l hx4u) ?_
    refine Run_y (.slice a2 x5.length c2) (by kernel_rfl) (Y_load1 (t := 22) (p := adr a1 (0 * 1)) (v := .slice a2 x5.length c2) (by kernel_rfl) (fun w => by kernel_rfl) hc1) ?_
    refine Run_b [.slice a2 x5.length c2] 9 _ (by kernel_rfl) (fun w => by kernel_rfl) ?_
    refine Run_nil (by kernel_rfl) ?_
    refine Run_keep [0, 1, 6] (L' := [(0, .slice ac_ c_.length cc_), (1, .slice ad d.length cd), (6, .slice a2 x5.length c2)]) (by kernel_rfl) ?_
    refine Run_seq ?_
    refine Run_seq ?_
    refine Run_reg 1 (by kernel_rfl) (L' := [(0, .slice ac_ c_.length cc_), (1, .slice ad d.length cd), (6, .slice a2 x5.length c2), (7, .int .i64 0)]) ?_ ?_
    · refine QRun_b [.int .i64 0] 0 _ (by kernel_rfl) (fun w => by kernel_rfl) ?_
      exact QRun_done [0, 1, 6, 7] (by kernel_rfl) (by kernel_rfl)
    obtain ⟨x6, gx6, hF⟩ := M.bind_some hF
    obtain ⟨hloy1, hhiy1, gx6⟩ := M.for_start gx6
    refine Run_join (fun L' h' => L' = [(6, .slice a2 x5.length c2)] ∧ Hold h h' [own cd2 a2 x5.length c2 x6]) ?_ ?_
    · rintro _ h3 ⟨rfl, H6⟩
      refine Run_seq ?_
      refine Run_seq ?_
      obtain ⟨x13, hx10, hF⟩ := M.bind_some hF
      refine Run_reg 3 (by kernel_rfl) (L' := [(6, .slice a2 x5.length c2), (61, .bool (!x13))]) ?_ ?_
      · refine QRun_b [.slice a2 x5.length c2] 0 _ (by kernel_rfl) (fun w => by kernel_rfl) ?_
        refine QRun_y (.bool x13) (by kernel_rfl) (Y_callq (f := 14) (args := #[.slice a2 x5.length c2]) (v := .bool x13) (by kernel_rfl) (Fn.arg (w_spec_IsPolynomial h3 x6 a2 c2 (H6.rd 0 rfl) _ _ hx10) (by simp only [(H6.len 0 rfl)]))) ?_
        refine QRun_b [.bool (!x13)] 2 _ (by kernel_rfl) (fun w => by kernel_rfl) ?_
        exact QRun_done [6, 61] (by kernel_rfl) (by kernel_rfl)
      refine Run_cond (b := !x13) (by kernel_rfl) (fun hb5 => ?_) (fun hb5 => ?_)
      · have hF := (M.ite_some hF).1 hb5
        refine Run_seq ?_
        refine Run_reg 2 (by kernel_rfl) (L' := [(4, .slice none 0 0), (5, .int .i64 3)]) ?_ ?_
        · refine QRun_b [.slice none 0 0, .int .i64 3] 0 _ (by kernel_rfl) (fun w => by kernel_rfl) ?_
          exact QRun_done [4, 5] (by kernel_rfl) (by kernel_rfl)
        have hF := M.ret_some hF
        subst hF
        have H12 := H6.empty cd2
        have H13 : Hold h h3 [own cd2 none 0 0 []] := H12.pick [0] (by kernel_rfl)
        exact Run_ret2 rfl (ResV_tmp (v := .slice none 0 0) (by kernel_rfl)) (ResV_tmp (v := .int .i64 3) (by kernel_rfl)) ⟨none, 0, rfl, H13⟩
      · have hF := (M.ite_some hF).2 hb5
        refine Run_skip ?_
        refine Run_seq ?_
        refine Run_reg 3 (by kernel_rfl) (L' := [(4, .slice a2 x5.length c2), (5, .int .i64 0)]) ?_ ?_
        · refine QRun_b [.slice a2 x5.length c2, .slice a2 x5.length c2, .int .i64 0] 0 _ (by kernel_rfl) (fun w => by kernel_rfl) ?_
          exact QRun_done [4, 5] (by kernel_rfl) (by kernel_rfl)
        have hF := M.ret_some hF
        subst hF
        have H14 := H6.norm
        exact Run_ret2 rfl (ResV_tmp (v := .slice a2 x5.length c2) (by kernel_rfl)) (ResV_tmp (v := .int .i64 0) (by kernel_rfl)) ⟨a2, c2, (by simp only [(H6.len 0 rfl)]), H14⟩
    · refine Run_block ?_
      have H15 : Hold h h1 [own cd2 a2 x5.length c2 x5] := H4.pick [0] (by kernel_rfl)
      refine Run_keep [0, 1, 6, 7] (L' := [(0, .slice ac_ c_.length cc_), (1, .slice ad d.length cd), (6, .slice a2 x5.length c2), (7, .int .i64 0)]) (by kernel_rfl) ?_
      refine Run_loop (fun m L' h' => ∃ (i1 : Int) (s1 : (List Int)), 0 ≤ i1 ∧ M.forN (c_.length : Int) _ _ n m i1 s1 = some x6 ∧ L' = [(0, .slice ac_ c_.length cc_), (1, .slice ad d.length cd), (6, .slice a2 x5.length c2), (7, .int .i64 i1)] ∧ Hold h h' [own cd2 a2 x5.length c2 s1]) ((c_.length : Int) - 0).toNat ⟨0, x5, Int.le_refl _, gx6, rfl, H15⟩ ?_
      rintro my1 _ h2 ⟨i1, s1, hloy1', gx6, rfl, H5⟩
      refine Run_seq ?_
      refine Run_seq ?_
      refine Run_reg 4 (by kernel_rfl) (L' := [(0, .slice ac_ c_.length cc_), (1, .slice ad d.length cd), (6, .slice a2 x5.length c2), (7, .int .i64 i1), (29, .bool (decide (i1 < (c_.length : Int))))]) ?_ ?_
      · refine QRun_b [.int .i64 i1, .slice ac_ c_.length cc_, .int .i64 (c_.length : Int), .bool (decide (i1 < (c_.length : Int)))] 0 _ (by kernel_rfl) (fun w => by kernel_rfl) ?_
        exact QRun_done [0, 1, 6, 7, 29] (by kernel_rfl) (by kernel_rfl)
      refine Run_cond (b := decide (i1 < (c_.length : Int))) (by kernel_rfl) (fun hb3 => ?_) (fun hb3 => ?_)
      · obtain ⟨my1, y1, rfl, hB1, hgoy1, houty1⟩ := M.for_go gx6 hb3
        have hlty1 := of_decide_eq_true hb3
        refine Run_skip ?_
        refine Run_seq ?_
        refine Run_block ?_
        refine Run_seq ?_
        refine Run_reg 1 (by kernel_rfl) (L' := [(0, .slice ac_ c_.length cc_), (1, .slice ad d.length cd), (6, .slice a2 x5.length c2), (7, .int .i64 i1), (8, .int .i64 0)]) ?_ ?_
        · refine QRun_b [.int .i64 0] 0 _ (by kernel_rfl) (fun w => by kernel_rfl) ?_
          exact QRun_done [0, 1, 6, 7, 8] (by kernel_rfl) (by kernel_rfl)
        obtain ⟨x7, gx7, hB1⟩ := M.bind_some hB1
        obtain ⟨hloy2, hhiy2, gx7⟩ := M.for_start gx7
        refine Run_join (fun L' h' => L' = [(0, .slice ac_ c_.length cc_), (1, .slice ad d.length cd), (6, .slice a2 x5.length c2), (7, .int .i64 i1)] ∧ Hold h h' [own cd2 a2 x5.length c2 x7]) ?_ ?_
        · rintro _ h5 ⟨rfl, H8⟩
          refine Run_blk ?_
          refine Run_reg 3 (by kernel_rfl) (L' := [(0, .slice ac_ c_.length cc_), (1, .slice ad d.length cd), (6, .slice a2 x5.length c2), (7, .int .i64 (i1 + 1))]) ?_ ?_
          · refine QRun_b [.int .i64 i1] 0 _ (by kernel_rfl) (fun w => by kernel_rfl) ?_
            refine QRun_y (.int .i64 (i1 + 1)) (by kernel_rfl) (Y_eq (v := .int .i64 (w64 (i1 + 1))) (Y_pure (fun w => by kernel_rfl)) (by rw [w64_eq _ (by omega)])) ?_
            refine QRun_b [.int .i64 (i1 + 1)] 2 _ (by kernel_rfl) (fun w => by kernel_rfl) ?_
            exact QRun_done [0, 1, 6, 7] (by kernel_rfl) (by kernel_rfl)
          have hB1 := M.ret_some hB1
          have gx6 := hgoy1 _ hB1.symm
          exact Run_again [0, 1, 6, 7] (by kernel_rfl) my1 (Nat.lt_succ_self _) ⟨i1 + 1, x7, by omega, gx6, rfl, H8⟩
        · refine Run_block ?_
          refine Run_keep [0, 1, 6, 7, 8] (L' := [(0, .slice ac_ c_.length cc_), (1, .slice ad d.length cd), (6, .slice a2 x5.length c2), (7, .int .i64 i1), (8, .int .i64 0)]) (by kernel_rfl) ?_
          refine Run_loop (fun m L' h' => ∃ (i2 : Int) (s2 : (List Int)), 0 ≤ i2 ∧ M.forN (d.length : Int) _ _ n m i2 s2 = some x7 ∧ L' = [(0, .slice ac_ c_.length cc_), (1, .slice ad d.length cd), (6, .slice a2 x5.length c2), (7, .int .i64 i1), (8, .int .i64 i2)] ∧ Hold h h' [own cd2 a2 x5.length c2 s2]) ((d.length : Int) - 0).toNat ⟨0, s1, Int.le_refl _, gx7, rfl, H5⟩ ?_
          rintro my2 _ h4 ⟨i2, s2, hloy2', gx7, rfl, H7⟩
          refine Run_seq ?_
          refine Run_seq ?_
          refine Run_reg 4 (by kernel_rfl) (L' := [(0, .slice ac_ c_.length cc_), (1, .slice ad d.length cd), (6, .slice a2 x5.length c2), (7, .int .i64 i1), (8, .int .i64 i2), (35, .bool (decide (i2 < (d.length : Int))))]) ?_ ?_
          · refine QRun_b [.int .i64 i2, .slice ad d.length cd, .int .i64 (d.length : Int), .bool (decide (i2 < (d.length : Int)))] 0 _ (by kernel_rfl) (fun w => by kernel_rfl) ?_
            exact QRun_done [0, 1, 6, 7, 8, 35] (by kernel_rfl) (by kernel_rfl)
          refine Run_cond (b := decide (i2 < (d.length : Int))) (by kernel_rfl) (fun hb4 => ?_) (fun hb4 => ?_)
          · obtain ⟨my2, y2, rfl, hB2, hgoy2, houty2⟩ := M.for_go gx7 hb4
            have hlty2 := of_decide_eq_true hb4
            refine Run_skip ?_
            refine Run_seq ?_
            refine Run_block ?_
            obtain ⟨x8, hx5, hB2⟩ := M.bind_some hB2
            obtain ⟨hx5l, hx5u, hx5⟩ := M.idx_some hx5
            obtain ⟨x9, hx6, hB2⟩ := M.bind_some hB2
            obtain ⟨hx6l, hx6u, hx6⟩ := M.idx_some hx6
            obtain ⟨x10, hx7, hB2⟩ := M.bind_some hB2
            obtain ⟨hx7l, hx7u, hx7⟩ := M.idx_some hx7
            obtain ⟨x11, hx8, hB2⟩ := M.bind_some hB2
            obtain ⟨x12, hx9, hB2⟩ := M.bind_some hB2
            obtain ⟨hx9l, hx9u, hx9⟩ := M.idx_some hx9
            refine Run_D (fun x => Hold h x [own cd2 a2 x5.length c2 s2]) (fun x => Hold h x [own cd2 a2 x5.length c2 s2]) mixed (by kernel_rfl) H7 Hold.stable (fun x Hy => (show Hold h x [own cd2 a2 x5.length c2 s2] from Hy).pick [0] (by kernel_rfl)) ?_
            refine DR_b 14 [.slice a2 x5.length c2, .int .i64 i1, .int .i64 i2, .int .i64 (w64 (i1 + i2)), .slice a2 x5.length c2, .int .i64 i1, .int .i64 i2, .int .i64 (w64 (i1 + i2))] 0 (by kernel_rfl) (by kernel_rfl) (by kernel_rfl) (fun w => by kernel_rfl) ?_
            refine DR_y 13 (i := 8) (.pointer (some (adr a2 ((w64 (i1 + i2)).toNat * 1)))) (by kernel_rfl) (by kernel_rfl) (by kernel_rfl) (fun hx Hx => (YE.of (Y_idx (t := 22) (e := 2) (sz := 1) (a := a2) (n := x5.length) (cap := c2) (kk := .i64) (i := w64 (i1 + i2)) (by kernel_rfl) Try.underlying22 (by kernel_rfl) ((H7.rd 0 rfl).cell hx5).1 hx5l (by rw [← (H7.len 0 rfl)]; exact hx5u)))) ?_
            refine DR_y 12 (i := 9) (.int .i64 x8) (by kernel_rfl) (by kernel_rfl) (by kernel_rfl) (fun hx Hx => (YE.of (Y_load1 (t := 2) (p := adr a2 ((w64 (i1 + i2)).toNat * 1)) (v := .int .i64 x8) (by kernel_rfl) (fun w => by kernel_rfl) (cd2_cell (Hx.rd 0 rfl) hx5)))) ?_
            refine DR_b 10 [.slice ac_ c_.length cc_, .int .i64 i1] 10 (by kernel_rfl) (by kernel_rfl) (by kernel_rfl) (fun w => by kernel_rfl) ?_
            refine DR_y 9 (i := 12) (.pointer (some (adr ac_ (i1.toNat * 1)))) (by kernel_rfl) (by kernel_rfl) (by kernel_rfl) (fun hx Hx => (YE.of (Y_idx (t := 22) (e := 2) (sz := 1) (a := ac_) (n := c_.length) (cap := cc_) (kk := .i64) (i := i1) (by kernel_rfl) Try.underlying22 (by kernel_rfl) ((rc_.at H7.ext).cell hx6).1 hx6l hx6u))) ?_
            refine DR_y 8 (i := 13) (.int .i64 x9) (by kernel_rfl) (by kernel_rfl) (by kernel_rfl) (fun hx Hx => (YE.of (Y_load1 (t := 2) (p := adr ac_ (i1.toNat * 1)) (v := .int .i64 x9) (by kernel_rfl) (fun w => by kernel_rfl) (cd2_cell (rc_.at Hx.ext) hx6)))) ?_
            refine DR_b 6 [.slice ad d.length cd, .int .i64 i2] 14 (by kernel_rfl) (by kernel_rfl) (by kernel_rfl) (fun w => by kernel_rfl) ?_
            refine DR_y 5 (i := 16) (.pointer (some (adr ad (i2.toNat * 1)))) (by kernel_rfl) (by kernel_rfl) (by kernel_rfl) (fun hx Hx => (YE.of (Y_idx (t := 22) (e := 2) (sz := 1) (a := ad) (n := d.length) (cap := cd) (kk := .i64) (i := i2) (by kernel_rfl) Try.underlying22 (by kernel_rfl) ((rd.at H7.ext).cell hx7).1 hx7l hx7u))) ?_
            refine DR_y 4 (i := 17) (.int .i64 x10) (by kernel_rfl) (by kernel_rfl) (by kernel_rfl) (fun hx Hx => (YE.of (Y_load1 (t := 2) (p := adr ad (i2.toNat * 1)) (v := .int .i64 x10) (by kernel_rfl) (fun w => by kernel_rfl) (cd2_cell (rd.at Hx.ext) hx7)))) ?_
            refine DR_y 3 (i := 18) (.int .i64 x11) (by kernel_rfl) (by kernel_rfl) (by kernel_rfl) (fun hx Hx => (YE.of (Y_callq (f := 68) (args := #[.int .i64 x9, .int .i64 x10]) (v := .int .i64 x11) (by kernel_rfl) (w_spec_l01Times hx x9 x10 _ _ hx8)))) ?_
            refine DR_b 2 [.int .i64 (mx x8 x11)] 19 (by kernel_rfl) (by kernel_rfl) (by kernel_rfl) (fun w => by kernel_rfl) ?_
            refine DR_y 1 (i := 20) (.pointer (some (adr a2 ((w64 (i1 + i2)).toNat * 1)))) (by kernel_rfl) (by kernel_rfl) (by kernel_rfl) (fun hx Hx => (YE.of (Y_idx (t := 22) (e := 2) (sz := 1) (a := a2) (n := x5.length) (cap := c2) (kk := .i64) (i := w64 (i1 + i2)) (by kernel_rfl) Try.underlying22 (by kernel_rfl) ((H7.rd 0 rfl).cell hx9).1 hx9l (by rw [← (H7.len 0 rfl)]; exact hx9u)))) ?_
            refine DR_tail (i := 21) (by kernel_rfl) (by kernel_rfl) (by kernel_rfl) (fun h6 H9 => ?_)
            have H10 : Hold h h6 [own cd2 a2 x5.length c2 s2] := H9
            obtain ⟨l1, hu1, hB2⟩ := M.bind_some hB2
            have hu1 := M.upd_some hu1
            refine Run_E (by kernel_rfl) ?_
            refine E_put (C := cd2) (t := 2) (sz := 1) (j := w64 (i1 + i2)) (x := (mx x8 x11)) (v := .int .i64 (mx x8 x11)) H10 cd2_flat (by kernel_rfl) rfl (cd2_own _) (by kernel_rfl) hu1 (fun h7 H11 => ?_)
            refine Run_nil (by kernel_rfl) ?_
            refine Run_keep [0, 1, 6, 7, 8] (L' := [(0, .slice ac_ c_.length cc_), (1, .slice ad d.length cd), (6, .slice a2 x5.length c2), (7, .int .i64 i1), (8, .int .i64 i2)]) (by kernel_rfl) ?_
            refine Run_blk ?_
            refine Run_reg 3 (by kernel_rfl) (L' := [(0, .slice ac_ c_.length cc_), (1, .slice ad d.length cd), (6, .slice a2 x5.length c2), (7, .int .i64 i1), (8, .int .i64 (i2 + 1))]) ?_ ?_
            · refine QRun_b [.int .i64 i2] 0 _ (by kernel_rfl) (fun w => by kernel_rfl) ?_
              refine QRun_y (.int .i64 (i2 + 1)) (by kernel_rfl) (Y_eq (v := .int .i64 (w64 (i2 + 1))) (Y_pure (fun w => by kernel_rfl)) (by rw [w64_eq _ (by omega)])) ?_
              refine QRun_b [.int .i64 (i2 + 1)] 2 _ (by kernel_rfl) (fun w => by kernel_rfl) ?_
              exact QRun_done [0, 1, 6, 7, 8] (by kernel_rfl) (by kernel_rfl)
            have hB2 := M.ret_some hB2
            have gx7 := hgoy2 _ hB2.symm
            exact Run_again [0, 1, 6, 7, 8] (by kernel_rfl) my2 (Nat.lt_succ_self _) ⟨i2 + 1, l1, by omega, gx7, rfl, H11⟩
          · have gx7 := M.for_end gx7 hb4
            subst gx7
            refine Run_exit (k' := _) rfl ?_
            exact Run_fall [0, 1, 6, 7] (by kernel_rfl) ⟨rfl, H7⟩
      · have gx6 := M.for_end gx6 hb3
        subst gx6
        refine Run_exit (k' := _) rfl ?_
        exact Run_fall [6] (by kernel_rfl) ⟨rfl, H5⟩

set_option maxRecDepth 100000 in
set_option maxHeartbeats 4000000 in
theorem w_impl_within (h : Heap) (n_ : Int) (low : Int) (high : Int) (n : Nat) (r : Bool) (hF : impl_within n_ low high n = some r) :
    Fn Try.prog 48 #[.int .i64 n_, .int .i64 low, .int .i64 high] h fun v h' => v = .bool r ∧ h' = h := by
  unfold impl_within at hF
  refine Fn_enter (args := [.int .i64 n_, .int .i64 low, .int .i64 high]) Try.func48 rfl (by kernel_rfl) (by kernel_rfl) (fun w0 _ => ?_)
  refine Run_seq ?_
  refine Run_reg 1 (by kernel_rfl) (L' := [(0, .int .i64 n_), (1, .int .i64 low), (2, .int .i64 high)]) ?_ ?_
  · refine QRun_b [.bool false] 0 _ (by kernel_rfl) (fun w => by kernel_rfl) ?_
    exact QRun_done [0, 1, 2] (by kernel_rfl) (by kernel_rfl)
  refine Run_seq ?_
  refine Run_reg 9 (by kernel_rfl) (L' := [(6, .bool ((decide (low ≤ n_)) && (decide (n_ ≤ high))))]) ?_ ?_
  · refine QRun_b [.int .i64 n_, .int .i64 low, .bool (decide (low ≤ n_))] 0 _ (by kernel_rfl) (fun w => by kernel_rfl) ?_
    refine QRun_seq 8 [(14, .bool ((decide (low ≤ n_)) && (decide (n_ ≤ high))))] ?_ ?_
    · rcases Bool.eq_false_or_eq_true (decide (low ≤ n_)) with hb1 | hb1
      · refine QRun_bool (decide (low ≤ n_)) true (by kernel_rfl) (fun w => by kernel_rfl) hb1 ?_
        refine QRun_b [.int .i64 n_, .int .i64 high, .bool (decide (n_ ≤ high))] 4 _ (by kernel_rfl) (fun w => by kernel_rfl) ?_
        refine QRun_bool (decide (n_ ≤ high)) ((decide (low ≤ n_)) && (decide (n_ ≤ high))) (by kernel_rfl) (fun w => by kernel_rfl) (by rw [hb1]; rfl) ?_
        exact QRun_done [14] (by kernel_rfl) (by kernel_rfl)
      · refine QRun_bool (decide (low ≤ n_)) false (by kernel_rfl) (fun w => by kernel_rfl) hb1 ?_
        refine QRun_n (by kernel_rfl) ?_
        refine QRun_n (by kernel_rfl) ?_
        refine QRun_n (by kernel_rfl) ?_
        refine QRun_bool false ((decide (low ≤ n_)) && (decide (n_ ≤ high))) (by kernel_rfl) (fun w => by kernel_rfl) (by rw [hb1]; rfl) ?_
        exact QRun_done [14] (by kernel_rfl) (by kernel_rfl)
    refine QRun_b [.bool ((decide (low ≤ n_)) && (decide (n_ ≤ high)))] 8 _ (by kernel_rfl) (fun w => by kernel_rfl) ?_
    exact QRun_done [6] (by kernel_rfl) (by kernel_rfl)
  have hF := M.ret_some hF
  subst hF
  exact Run_ret1 rfl (ResV_tmp (v := .bool ((decide (low ≤ n_)) && (decide (n_ ≤ high)))) (by kernel_rfl)) ⟨rfl, rfl⟩

set_option maxRecDepth 100000 in
set_option maxHeartbeats 4000000 in
theorem w_impl_isFinite (h : Heap) (n_ : Int) (n : Nat) (r : Bool) (hF : impl_isFinite n_ n = some r) :
    Fn Try.prog 64 #[.int .i64 n_] h fun v h' => v = .bool r ∧ h' = h := by
  unfold impl_isFinite at hF
  refine Fn_enter (args := [.int .i64 n_]) Try.func64 rfl (by kernel_rfl) (by kernel_rfl) (fun w0 _ => ?_)
  refine Run_seq ?_
  refine Run_reg 1 (by kernel_rfl) (L' := [(0, .int .i64 n_)]) ?_ ?_
  · refine QRun_b [.bool false] 0 _ (by kernel_rfl) (fun w => by kernel_rfl) ?_
    exact QRun_done [0] (by kernel_rfl) (by kernel_rfl)
  refine Run_seq ?_
  obtain ⟨x1, hx1, hF⟩ := M.bind_some hF
  refine Run_reg 3 (by kernel_rfl) (L' := [(2, .bool x1)]) ?_ ?_
  · refine QRun_b [.int .i64 n_] 0 _ (by kernel_rfl) (fun w => by kernel_rfl) ?_
    refine QRun_y (.bool x1) (by kernel_rfl) (Y_callq (f := 48) (args := #[.int .i64 n_, .int .i64 (-1000000), .int .i64 1000000]) (v := .bool x1) (by kernel_rfl) (w_impl_within h n_ (-1000000) 1000000 _ _ hx1)) ?_
    refine QRun_b [.bool x1] 2 _ (by kernel_rfl) (fun w => by kernel_rfl) ?_
    exact QRun_done [2] (by kernel_rfl) (by kernel_rfl)
  have hF := M.ret_some hF
  subst hF
  exact Run_ret1 rfl (ResV_tmp (v := .bool x1) (by kernel_rfl)) ⟨rfl, rfl⟩

set_option maxRecDepth 100000 in
set_option maxHeartbeats 4000000 in
theorem w_impl_IsValue (h : Heap) (a_ : Int) (n : Nat) (r : Bool) (hF : impl_IsValue a_ n = some r) :
    Fn Try.prog 70 #[.int .i64 a_] h fun v h' => v = .bool r ∧ h' = h := by
  unfold impl_IsValue at hF
  refine Fn_enter (args := [.int .i64 a_]) Try.func70 rfl (by kernel_rfl) (by kernel_rfl) (fun w0 _ => ?_)
  refine Run_seq ?_
  refine Run_reg 1 (by kernel_rfl) (L' := [(0, .int .i64 a_)]) ?_ ?_
  · refine QRun_b [.bool false] 0 _ (by kernel_rfl) (fun w => by kernel_rfl) ?_
    exact QRun_done [0] (by kernel_rfl) (by kernel_rfl)
  refine Run_seq ?_
  obtain ⟨x1, gx1, hF⟩ := M.bind_some hF
  refine Run_reg 7 (by kernel_rfl) (L' := [(2, .bool x1)]) ?_ ?_
  · refine QRun_b [.int .i64 a_, .bool (a_ == (-1000000000000000))] 0 _ (by kernel_rfl) (fun w => by kernel_rfl) ?_
    refine QRun_seq 6 [(8, .bool x1)] ?_ ?_
    · rcases Bool.eq_false_or_eq_true (a_ == (-1000000000000000)) with hb1 | hb1
      · refine QRun_bool (a_ == (-1000000000000000)) true (by kernel_rfl) (fun w => by kernel_rfl) hb1 ?_
        have gx1 := M.ret_some ((M.ite_some gx1).1 hb1)
        refine QRun_n (by kernel_rfl) ?_
        refine QRun_n (by kernel_rfl) ?_
        refine QRun_bool true x1 (by kernel_rfl) (fun w => by kernel_rfl) gx1 ?_
        exact QRun_done [8] (by kernel_rfl) (by kernel_rfl)
      · refine QRun_bool (a_ == (-1000000000000000)) false (by kernel_rfl) (fun w => by kernel_rfl) hb1 ?_
        have gx1 := (M.ite_some gx1).2 hb1
        obtain ⟨x2, hx1, gx1⟩ := M.bind_some gx1
        have gx1 := M.ret_some gx1
        refine QRun_b [.int .i64 a_] 3 _ (by kernel_rfl) (fun w => by kernel_rfl) ?_
        refine QRun_y (.bool x2) (by kernel_rfl) (Y_callq (f := 64) (args := #[.int .i64 a_]) (v := .bool x2) (by kernel_rfl) (w_impl_isFinite h a_ _ _ hx1)) ?_
        refine QRun_bool x2 x1 (by kernel_rfl) (fun w => by kernel_rfl) gx1 ?_
        exact QRun_done [8] (by kernel_rfl) (by kernel_rfl)
    refine QRun_b [.bool x1] 6 _ (by kernel_rfl) (fun w => by kernel_rfl) ?_
    exact QRun_done [2] (by kernel_rfl) (by kernel_rfl)
  have hF := M.ret_some hF
  subst hF
  exact Run_ret1 rfl (ResV_tmp (v := .bool x1) (by kernel_rfl)) ⟨rfl, rfl⟩

set_option maxRecDepth 100000 in
set_option maxHeartbeats 4000000 in
theorem w_impl_areValues_1 (h : Heap) (n_ : Int) (n : Nat) (r : Bool) (hF : impl_areValues_1 n_ n = some r) :
    Fn Try.prog 89 #[.int .i64 n_] h fun v h' => v = .bool r ∧ h' = h := by
  unfold impl_areValues_1 at hF
  refine Fn_enter (args := [.int .i64 n_]) Try.func89 rfl (by kernel_rfl) (by kernel_rfl) (fun w0 _ => ?_)
  refine Run_seq ?_
  refine Run_reg 1 (by kernel_rfl) (L' := [(0, .int .i64 n_)]) ?_ ?_
  · refine QRun_b [.bool false] 0 _ (by kernel_rfl) (fun w => by kernel_rfl) ?_
    exact QRun_done [0] (by kernel_rfl) (by kernel_rfl)
  refine Run_seq ?_
  obtain ⟨x1, hx1, hF⟩ := M.bind_some hF
  refine Run_reg 4 (by kernel_rfl) (L' := [(2, .bool (!x1))]) ?_ ?_
  · refine QRun_b [.int .i64 n_] 0 _ (by kernel_rfl) (fun w => by kernel_rfl) ?_
    refine QRun_y (.bool x1) (by kernel_rfl) (Y_callq (f := 70) (args := #[.int .i64 n_]) (v := .bool x1) (by kernel_rfl) (w_impl_IsValue h n_ _ _ hx1)) ?_
    refine QRun_b [.bool (!x1), .bool (!x1)] 2 _ (by kernel_rfl) (fun w => by kernel_rfl) ?_
    exact QRun_done [2] (by kernel_rfl) (by kernel_rfl)
  have hF := M.ret_some hF
  subst hF
  exact Run_ret1 rfl (ResV_tmp (v := .bool (!x1)) (by kernel_rfl)) ⟨rfl, rfl⟩

set_option maxRecDepth 100000 in
set_option maxHeartbeats 4000000 in
theorem w_slices_IndexFunc_int_F_impl_areValues_1 (h : Heap) (s_ : List Int) {Ss_ : Bs} (as_ : Option Addr) (cs_ : Nat) (rs_ : Rd cd2 h Ss_ as_ cs_ s_) (n : Nat) (r : Int) (hF : slices_IndexFunc_int_F_impl_areValues_1 s_ n = some r) :
    Fn Try.prog 96 #[.slice as_ s_.length cs_, .func (.func 89) #[] #[]] h fun v h' => v = .int .i64 r ∧ h' = h := by
  unfold slices_IndexFunc_int_F_impl_areValues_1 at hF
  refine Fn_enter (args := [.slice as_ s_.length cs_, .func (.func 89) #[] #[]]) Try.func96 rfl (by kernel_rfl) (by kernel_rfl) (fun w0 _ => ?_)
  refine Run_seq ?_
  refine Run_reg 1 (by kernel_rfl) (L' := [(0, .slice as_ s_.length cs_), (1, .func (.func 89) #[] #[])]) ?_ ?_
  · refine QRun_b [.int .i64 0] 0 _ (by kernel_rfl) (fun w => by kernel_rfl) ?_
    exact QRun_done [0, 1] (by kernel_rfl) (by kernel_rfl)
  refine Run_seq ?_
  refine Run_seq ?_
  refine Run_reg 3 (by kernel_rfl) (L' := [(0, .slice as_ s_.length cs_), (1, .func (.func 89) #[] #[]), (7, .int .i64 (s_.length : Int)), (8, .int .i64 0)]) ?_ ?_
  · refine QRun_b [.slice as_ s_.length cs_, .int .i64 (s_.length : Int), .int .i64 0] 0 _ (by kernel_rfl) (fun w => by kernel_rfl) ?_
    exact QRun_done [0, 1, 7, 8] (by kernel_rfl) (by kernel_rfl)
  obtain ⟨x1, gx1, hF⟩ := M.bind_some hF
  obtain ⟨hloy1, hhiy1, gx1⟩ := M.for_start gx1
  refine Run_join (fun L' h' => ∃ (s2 : Unit), x1 = .inl s2 ∧ L' = [] ∧ h = h') ?_ ?_
  · rintro _ _ ⟨s2, es2, rfl, rfl⟩
    have hF := M.cont_inl' hF es2
    refine Run_seq ?_
    refine Run_reg 1 (by kernel_rfl) (L' := [(4, .int .i64 (-1))]) ?_ ?_
    · refine QRun_b [.int .i64 (-1)] 0 _ (by kernel_rfl) (fun w => by kernel_rfl) ?_
      exact QRun_done [4] (by kernel_rfl) (by kernel_rfl)
    have hF := M.ret_some hF
    subst hF
    exact Run_ret1 rfl (ResV_tmp (v := .int .i64 (-1)) (by kernel_rfl)) ⟨rfl, rfl⟩
  · refine Run_block ?_
    refine Run_keep [0, 1, 7, 8] (L' := [(0, .slice as_ s_.length cs_), (1, .func (.func 89) #[] #[]), (7, .int .i64 (s_.length : Int)), (8, .int .i64 0)]) (by kernel_rfl) ?_
    refine Run_loop (fun m L' h' => ∃ (i1 : Int) (s1 : Unit), 0 ≤ i1 ∧ M.forN (s_.length : Int) _ _ n m i1 s1 = some x1 ∧ L' = [(0, .slice as_ s_.length cs_), (1, .func (.func 89) #[] #[]), (7, .int .i64 (s_.length : Int)), (8, .int .i64 i1)] ∧ h = h') ((s_.length : Int) - 0).toNat ⟨0, (), Int.le_refl _, gx1, rfl, rfl⟩ ?_
    rintro my1 _ _ ⟨i1, s1, hloy1', gx1, rfl, rfl⟩
    refine Run_seq ?_
    refine Run_reg 1 (by kernel_rfl) (L' := [(0, .slice as_ s_.length cs_), (1, .func (.func 89) #[] #[]), (7, .int .i64 (s_.length : Int)), (8, .int .i64 i1), (9, .bool (decide (i1 < (s_.length : Int))))]) ?_ ?_
    · refine QRun_b [.bool (decide (i1 < (s_.length : Int)))] 0 _ (by kernel_rfl) (fun w => by kernel_rfl) ?_
      exact QRun_done [0, 1, 7, 8, 9] (by kernel_rfl) (by kernel_rfl)
    refine Run_seq ?_
    refine Run_cond (b := decide (i1 < (s_.length : Int))) (by kernel_rfl) (fun hb1 => ?_) (fun hb1 => ?_)
    · obtain ⟨my1, y1, rfl, hB1, hgoy1, houty1⟩ := M.for_go gx1 hb1
      have hlty1 := of_decide_eq_true hb1
      refine Run_skip ?_
      refine Run_seq ?_
      refine Run_block ?_
      refine Run_seq ?_
      refine Run_reg 2 (by kernel_rfl) (L' := [(0, .slice as_ s_.length cs_), (1, .func (.func 89) #[] #[]), (5, .int .i64 i1), (7, .int .i64 (s_.length : Int)), (8, .int .i64 i1)]) ?_ ?_
      · refine QRun_b [.int .i64 i1, .int .i64 i1] 0 _ (by kernel_rfl) (fun w => by kernel_rfl) ?_
        exact QRun_done [0, 1, 5, 7, 8] (by kernel_rfl) (by kernel_rfl)
      refine Run_seq ?_
      obtain ⟨x2, hx1, hB1⟩ := M.bind_some hB1
      obtain ⟨hx1l, hx1u, hx1⟩ := M.idx_some hx1
      obtain ⟨x3, hx2, hB1⟩ := M.bind_some hB1
      refine Run_reg 6 (by kernel_rfl) (L' := [(0, .slice as_ s_.length cs_), (1, .func (.func 89) #[] #[]), (5, .int .i64 i1), (7, .int .i64 (s_.length : Int)), (8, .int .i64 i1), (16, .bool x3)]) ?_ ?_
      · refine QRun_b [.func (.func 89) #[] #[], .slice as_ s_.length cs_, .int .i64 i1] 0 _ (by kernel_rfl) (fun w => by kernel_rfl) ?_
        refine QRun_y (.pointer (some (adr as_ (i1.toNat * 1)))) (by kernel_rfl) (Y_idx (t := 22) (e := 2) (sz := 1) (a := as_) (n := s_.length) (cap := cs_) (kk := .i64) (i := i1) (by kernel_rfl) Try.underlying22 (by kernel_rfl) (rs_.cell hx1).1 hx1l hx1u) ?_
        refine QRun_y (.int .i64 x2) (by kernel_rfl) (Y_load1 (t := 2) (p := adr as_ (i1.toNat * 1)) (v := .int .i64 x2) (by kernel_rfl) (fun w => by kernel_rfl) (cd2_cell rs_ hx1)) ?_
        refine QRun_y (.bool x3) (by kernel_rfl) (Y_callq (f := 89) (args := #[.int .i64 x2]) (v := .bool x3) (by kernel_rfl) (w_impl_areValues_1 h x2 _ _ hx2)) ?_
        exact QRun_done [0, 1, 5, 7, 8, 16] (by kernel_rfl) (by kernel_rfl)
      refine Run_cond (b := x3) (by kernel_rfl) (fun hb2 => ?_) (fun hb2 => ?_)
      · have hB1 := (M.ite_some hB1).1 hb2
        refine Run_seq ?_
        refine Run_reg 2 (by kernel_rfl) (L' := [(4, .int .i64 i1)]) ?_ ?_
        · refine QRun_b [.int .i64 i1, .int .i64 i1] 0 _ (by kernel_rfl) (fun w => by kernel_rfl) ?_
          exact QRun_done [4] (by kernel_rfl) (by kernel_rfl)
        have hB1 := M.ret_some hB1
        have gx1 := houty1 _ hB1.symm
        have hF := M.cont_inr' hF gx1
        have hF := M.ret_some hF
        subst hF
        exact Run_ret1 rfl (ResV_tmp (v := .int .i64 i1) (by kernel_rfl)) ⟨rfl, rfl⟩
      · have hB1 := (M.ite_some hB1).2 hb2
        refine Run_skip ?_
        refine Run_blk ?_
        refine Run_reg 2 (by kernel_rfl) (L' := [(0, .slice as_ s_.length cs_), (1, .func (.func 89) #[] #[]), (7, .int .i64 (s_.length : Int)), (8, .int .i64 (i1 + 1))]) ?_ ?_
        · refine QRun_y (.int .i64 (i1 + 1)) (by kernel_rfl) (Y_eq (v := .int .i64 (w64 (i1 + 1))) (Y_pure (fun w => by kernel_rfl)) (by rw [w64_eq _ (by omega)])) ?_
          refine QRun_b [.int .i64 (i1 + 1)] 1 _ (by kernel_rfl) (fun w => by kernel_rfl) ?_
          exact QRun_done [0, 1, 7, 8] (by kernel_rfl) (by kernel_rfl)
        have hB1 := M.ret_some hB1
        have gx1 := hgoy1 _ hB1.symm
        exact Run_again [0, 1, 7, 8] (by kernel_rfl) my1 (Nat.lt_succ_self _) ⟨i1 + 1, (), by omega, gx1, rfl, rfl⟩
    · have gx1 := M.for_end gx1 hb1
      subst gx1
      refine Run_exit (k' := _) rfl ?_
      exact Run_fall [] (by kernel_rfl) ⟨(), rfl, rfl, rfl⟩

set_option maxRecDepth 100000 in
set_option maxHeartbeats 4000000 in
theorem w_slices_ContainsFunc_int_F_impl_areValues_1 (h : Heap) (s_ : List Int) {Ss_ : Bs} (as_ : Option Addr) (cs_ : Nat) (rs_ : Rd cd2 h Ss_ as_ cs_ s_) (n : Nat) (r : Bool) (hF : slices_ContainsFunc_int_F_impl_areValues_1 s_ n = some r) :
    Fn Try.prog 82 #[.slice as_ s_.length cs_, .func (.func 89) #[] #[]] h fun v h' => v = .bool r ∧ h' = h := by
  unfold slices_ContainsFunc_int_F_impl_areValues_1 at hF
  refine Fn_enter (args := [.slice as_ s_.length cs_, .func (.func 89) #[] #[]]) Try.func82 rfl (by kernel_rfl) (by kernel_rfl) (fun w0 _ => ?_)
  refine Run_seq ?_
  refine Run_reg 1 (by kernel_rfl) (L' := [(0, .slice as_ s_.length cs_), (1, .func (.func 89) #[] #[])]) ?_ ?_
  · refine QRun_b [.bool false] 0 _ (by kernel_rfl) (fun w => by kernel_rfl) ?_
    exact QRun_done [0, 1] (by kernel_rfl) (by kernel_rfl)
  refine Run_seq ?_
  obtain ⟨x1, hx1, hF⟩ := M.bind_some hF
  refine Run_reg 5 (by kernel_rfl) (L' := [(4, .bool (decide (0 ≤ x1)))]) ?_ ?_
  · refine QRun_b [.slice as_ s_.length cs_, .func (.func 89) #[] #[]] 0 _ (by kernel_rfl) (fun w => by kernel_rfl) ?_
    refine QRun_y (.int .i64 x1) (by kernel_rfl) (Y_callq (f := 96) (args := #[.slice as_ s_.length cs_, .func (.func 89) #[] #[]]) (v := .int .i64 x1) (by kernel_rfl) (w_slices_IndexFunc_int_F_impl_areValues_1 h s_ as_ cs_ rs_ _ _ hx1)) ?_
    refine QRun_b [.bool (decide (0 ≤ x1)), .bool (decide (0 ≤ x1))] 3 _ (by kernel_rfl) (fun w => by kernel_rfl) ?_
    exact QRun_done [4] (by kernel_rfl) (by kernel_rfl)
  have hF := M.ret_some hF
  subst hF
  exact Run_ret1 rfl (ResV_tmp (v := .bool (decide (0 ≤ x1))) (by kernel_rfl)) ⟨rfl, rfl⟩

set_option maxRecDepth 100000 in
set_option maxHeartbeats 4000000 in
theorem w_impl_areValues (h : Heap) (list : List Int) {Slist : Bs} (alist : Option Addr) (clist : Nat) (rlist : Rd cd2 h Slist alist clist list) (n : Nat) (r : Bool) (hF : impl_areValues list n = some r) :
    Fn Try.prog 49 #[.slice alist list.length clist] h fun v h' => v = .bool r ∧ h' = h := by
  unfold impl_areValues at hF
  refine Fn_enter (args := [.slice alist list.length clist]) Try.func49 rfl (by kernel_rfl) (by kernel_rfl) (fun w0 _ => ?_)
  refine Run_seq ?_
  refine Run_reg 1 (by kernel_rfl) (L' := [(0, .slice alist list.length clist)]) ?_ ?_
  · refine QRun_b [.bool false] 0 _ (by kernel_rfl) (fun w => by kernel_rfl) ?_
    exact QRun_done [0] (by kernel_rfl) (by kernel_rfl)
  refine Run_seq ?_
  obtain ⟨x1, hx1, hF⟩ := M.bind_some hF
  refine Run_reg 4 (by kernel_rfl) (L' := [(2, .bool (!x1))]) ?_ ?_
  · refine QRun_b [.slice alist list.length clist] 0 _ (by kernel_rfl) (fun w => by kernel_rfl) ?_
    refine QRun_y (.bool x1) (by kernel_rfl) (Y_callq (f := 82) (args := #[.slice alist list.length clist, .func (.func 89) #[] #[]]) (v := .bool x1) (by kernel_rfl) (w_slices_ContainsFunc_int_F_impl_areValues_1 h list alist clist rlist _ _ hx1)) ?_
    refine QRun_b [.bool (!x1), .bool (!x1)] 2 _ (by kernel_rfl) (fun w => by kernel_rfl) ?_
    exact QRun_done [2] (by kernel_rfl) (by kernel_rfl)
  have hF := M.ret_some hF
  subst hF
  exact Run_ret1 rfl (ResV_tmp (v := .bool (!x1)) (by kernel_rfl)) ⟨rfl, rfl⟩

set_option maxRecDepth 100000 in
set_option maxHeartbeats 4000000 in
theorem w_impl_sumOf (h : Heap) (list : List Int) {Slist : Bs} (alist : Option Addr) (clist : Nat) (rlist : Rd cd2 h Slist alist clist list) (n : Nat) (r : Int) (hF : impl_sumOf list n = some r) :
    Fn Try.prog 50 #[.slice alist list.length clist] h fun v h' => v = .int .i64 r ∧ h' = h := by
  unfold impl_sumOf at hF
  refine Fn_enter (args := [.slice alist list.length clist]) Try.func50 rfl (by kernel_rfl) (by kernel_rfl) (fun w0 _ => ?_)
  refine Run_seq ?_
  refine Run_reg 1 (by kernel_rfl) (L' := [(0, .slice alist list.length clist)]) ?_ ?_
  · refine QRun_b [.int .i64 0] 0 _ (by kernel_rfl) (fun w => by kernel_rfl) ?_
    exact QRun_done [0] (by kernel_rfl) (by kernel_rfl)
  refine Run_seq ?_
  refine Run_reg 1 (by kernel_rfl) (L' := [(0, .slice alist list.length clist), (3, .int .i64 (-1000000000000000))]) ?_ ?_
  · refine QRun_b [.int .i64 (-1000000000000000)] 0 _ (by kernel_rfl) (fun w => by kernel_rfl) ?_
    exact QRun_done [0, 3] (by kernel_rfl) (by kernel_rfl)
  refine Run_seq ?_
  refine Run_seq ?_
  refine Run_reg 3 (by kernel_rfl) (L' := [(3, .int .i64 (-1000000000000000)), (6, .slice alist list.length clist), (7, .int .i64 (list.length : Int)), (8, .int .i64 0)]) ?_ ?_
  · refine QRun_b [.slice alist list.length clist, .int .i64 (list.length : Int), .int .i64 0] 0 _ (by kernel_rfl) (fun w => by kernel_rfl) ?_
    exact QRun_done [3, 6, 7, 8] (by kernel_rfl) (by kernel_rfl)
  obtain ⟨x1, gx1, hF⟩ := M.bind_some hF
  obtain ⟨hloy1, hhiy1, gx1⟩ := M.for_start gx1
  refine Run_join (fun L' h' => L' = [(3, .int .i64 x1)] ∧ h = h') ?_ ?_
  · rintro _ _ ⟨rfl, rfl⟩
    refine Run_seq ?_
    refine Run_reg 2 (by kernel_rfl) (L' := [(2, .int .i64 x1)]) ?_ ?_
    · refine QRun_b [.int .i64 x1, .int .i64 x1] 0 _ (by kernel_rfl) (fun w => by kernel_rfl) ?_
      exact QRun_done [2] (by kernel_rfl) (by kernel_rfl)
    have hF := M.ret_some hF
    subst hF
    exact Run_ret1 rfl (ResV_tmp (v := .int .i64 x1) (by kernel_rfl)) ⟨rfl, rfl⟩
  · refine Run_block ?_
    refine Run_keep [3, 6, 7, 8] (L' := [(3, .int .i64 (-1000000000000000)), (6, .slice alist list.length clist), (7, .int .i64 (list.length : Int)), (8, .int .i64 0)]) (by kernel_rfl) ?_
    refine Run_loop (fun m L' h' => ∃ (i1 : Int) (s1 : Int), 0 ≤ i1 ∧ M.forN (list.length : Int) _ _ n m i1 s1 = some x1 ∧ L' = [(3, .int .i64 s1), (6, .slice alist list.length clist), (7, .int .i64 (list.length : Int)), (8, .int .i64 i1)] ∧ h = h') ((list.length : Int) - 0).toNat ⟨0, (-1000000000000000), Int.le_refl _, gx1, rfl, rfl⟩ ?_
    rintro my1 _ _ ⟨i1, s1, hloy1', gx1, rfl, rfl⟩
    refine Run_seq ?_
    refine Run_reg 1 (by kernel_rfl) (L' := [(3, .int .i64 s1), (6, .slice alist list.length clist), (7, .int .i64 (list.length : Int)), (8, .int .i64 i1), (9, .bool (decide (i1 < (list.length : Int))))]) ?_ ?_
    · refine QRun_b [.bool (decide (i1 < (list.length : Int)))] 0 _ (by kernel_rfl) (fun w => by kernel_rfl) ?_
      exact QRun_done [3, 6, 7, 8, 9] (by kernel_rfl) (by kernel_rfl)
    refine Run_seq ?_
    refine Run_cond (b := decide (i1 < (list.length : Int))) (by kernel_rfl) (fun hb1 => ?_) (fun hb1 => ?_)
    · obtain ⟨my1, y1, rfl, hB1, hgoy1, houty1⟩ := M.for_go gx1 hb1
      have hlty1 := of_decide_eq_true hb1
      refine Run_skip ?_
      refine Run_seq ?_
      refine Run_block ?_
      refine Run_seq ?_
      obtain ⟨x2, hx1, hB1⟩ := M.bind_some hB1
      obtain ⟨hx1l, hx1u, hx1⟩ := M.idx_some hx1
      refine Run_reg 3 (by kernel_rfl) (L' := [(3, .int .i64 s1), (5, .int .i64 x2), (6, .slice alist list.length clist), (7, .int .i64 (list.length : Int)), (8, .int .i64 i1)]) ?_ ?_
      · refine QRun_y (.pointer (some (adr alist (i1.toNat * 1)))) (by kernel_rfl) (Y_idx (t := 22) (e := 2) (sz := 1) (a := alist) (n := list.length) (cap := clist) (kk := .i64) (i := i1) (by kernel_rfl) Try.underlying22 (by kernel_rfl) (rlist.cell hx1).1 hx1l hx1u) ?_
        refine QRun_y (.int .i64 x2) (by kernel_rfl) (Y_load1 (t := 2) (p := adr alist (i1.toNat * 1)) (v := .int .i64 x2) (by kernel_rfl) (fun w => by kernel_rfl) (cd2_cell rlist hx1)) ?_
        refine QRun_b [.int .i64 x2] 2 _ (by kernel_rfl) (fun w => by kernel_rfl) ?_
        exact QRun_done [3, 5, 6, 7, 8] (by kernel_rfl) (by kernel_rfl)
      refine Run_reg 4 (by kernel_rfl) (L' := [(3, .int .i64 (mx s1 x2)), (6, .slice alist list.length clist), (7, .int .i64 (list.length : Int)), (8, .int .i64 i1)]) ?_ ?_
      · refine QRun_b [.int .i64 s1, .int .i64 x2, .int .i64 (mx s1 x2), .int .i64 (mx s1 x2)] 0 _ (by kernel_rfl) (fun w => by kernel_rfl) ?_
        exact QRun_done [3, 6, 7, 8] (by kernel_rfl) (by kernel_rfl)
      refine Run_blk ?_
      refine Run_reg 2 (by kernel_rfl) (L' := [(3, .int .i64 (mx s1 x2)), (6, .slice alist list.length clist), (7, .int .i64 (list.length : Int)), (8, .int .i64 (i1 + 1))]) ?_ ?_
      · refine QRun_y (.int .i64 (i1 + 1)) (by kernel_rfl) (Y_eq (v := .int .i64 (w64 (i1 + 1))) (Y_pure (fun w => by kernel_rfl)) (by rw [w64_eq _ (by omega)])) ?_
        refine QRun_b [.int .i64 (i1 + 1)] 1 _ (by kernel_rfl) (fun w => by kernel_rfl) ?_
        exact QRun_done [3, 6, 7, 8] (by kernel_rfl) (by kernel_rfl)
      have hB1 := M.ret_some hB1
      have gx1 := hgoy1 _ hB1.symm
      exact Run_again [3, 6, 7, 8] (by kernel_rfl) my1 (Nat.lt_succ_self _) ⟨i1 + 1, (mx s1 x2), by omega, gx1, rfl, rfl⟩
    · have gx1 := M.for_end gx1 hb1
      subst gx1
      refine Run_exit (k' := _) rfl ?_
      exact Run_fall [3] (by kernel_rfl) ⟨rfl, rfl⟩

set_option maxRecDepth 100000 in
set_option maxHeartbeats 4000000 in
theorem w_impl_IsPolynomial (h : Heap) (c_ : List Int) {Sc_ : Bs} (ac_ : Option Addr) (cc_ : Nat) (rc_ : Rd cd2 h Sc_ ac_ cc_ c_) (n : Nat) (r : Bool) (hF : impl_IsPolynomial c_ n = some r) :
    Fn Try.prog 16 #[.slice ac_ c_.length cc_] h fun v h' => v = .bool r ∧ h' = h := by
  unfold impl_IsPolynomial at hF
  refine Fn_enter (args := [.slice ac_ c_.length cc_]) Try.func16 rfl (by kernel_rfl) (by kernel_rfl) (fun w0 _ => ?_)
  refine Run_seq ?_
  refine Run_reg 1 (by kernel_rfl) (L' := [(0, .slice ac_ c_.length cc_)]) ?_ ?_
  · refine QRun_b [.bool false] 0 _ (by kernel_rfl) (fun w => by kernel_rfl) ?_
    exact QRun_done [0] (by kernel_rfl) (by kernel_rfl)
  refine Run_seq ?_
  obtain ⟨x1, hx1, hF⟩ := M.bind_some hF
  obtain ⟨x2, gx2, hF⟩ := M.bind_some hF
  obtain ⟨x4, gx4, hF⟩ := M.bind_some hF
  refine Run_reg 13 (by kernel_rfl) (L' := [(2, .bool x4)]) ?_ ?_
  · refine QRun_b [.slice ac_ c_.length cc_, .int .i64 (c_.length : Int)] 0 _ (by kernel_rfl) (fun w => by kernel_rfl) ?_
    refine QRun_y (.bool x1) (by kernel_rfl) (Y_callq (f := 48) (args := #[.int .i64 (c_.length : Int), .int .i64 1, .int .i64 12]) (v := .bool x1) (by kernel_rfl) (w_impl_within h (c_.length : Int) 1 12 _ _ hx1)) ?_
    refine QRun_seq 7 [(0, .slice ac_ c_.length cc_), (9, .bool x2)] ?_ ?_
    · rcases Bool.eq_false_or_eq_true x1 with hb1 | hb1
      · refine QRun_bool x1 true (by kernel_rfl) (fun w => by kernel_rfl) hb1 ?_
        have gx2 := (M.ite_some gx2).1 hb1
        obtain ⟨x3, hx2, gx2⟩ := M.bind_some gx2
        have gx2 := M.ret_some gx2
        refine QRun_b [.slice ac_ c_.length cc_] 4 _ (by kernel_rfl) (fun w => by kernel_rfl) ?_
        refine QRun_y (.bool x3) (by kernel_rfl) (Y_callq (f := 49) (args := #[.slice ac_ c_.length cc_]) (v := .bool x3) (by kernel_rfl) (w_impl_areValues h c_ ac_ cc_ rc_ _ _ hx2)) ?_
        refine QRun_bool x3 x2 (by kernel_rfl) (fun w => by kernel_rfl) gx2 ?_
        exact QRun_done [0, 9] (by kernel_rfl) (by kernel_rfl)
      · refine QRun_bool x1 false (by kernel_rfl) (fun w => by kernel_rfl) hb1 ?_
        have gx2 := M.ret_some ((M.ite_some gx2).2 hb1)
        refine QRun_n (by kernel_rfl) ?_
        refine QRun_n (by kernel_rfl) ?_
        refine QRun_bool false x2 (by kernel_rfl) (fun w => by kernel_rfl) gx2 ?_
        exact QRun_done [0, 9] (by kernel_rfl) (by kernel_rfl)
    refine QRun_seq 12 [(14, .bool x4)] ?_ ?_
    · rcases Bool.eq_false_or_eq_true x2 with hb2 | hb2
      · refine QRun_bool x2 true (by kernel_rfl) (fun w => by kernel_rfl) hb2 ?_
        have gx4 := (M.ite_some gx4).1 hb2
        obtain ⟨x5, hx3, gx4⟩ := M.bind_some gx4
        have gx4 := M.ret_some gx4
        refine QRun_b [.slice ac_ c_.length cc_] 8 _ (by kernel_rfl) (fun w => by kernel_rfl) ?_
        refine QRun_y (.int .i64 x5) (by kernel_rfl) (Y_callq (f := 50) (args := #[.slice ac_ c_.length cc_]) (v := .int .i64 x5) (by kernel_rfl) (w_impl_sumOf h c_ ac_ cc_ rc_ _ _ hx3)) ?_
        refine QRun_b [.bool (x5 != (-1000000000000000))] 10 _ (by kernel_rfl) (fun w => by kernel_rfl) ?_
        refine QRun_bool (x5 != (-1000000000000000)) x4 (by kernel_rfl) (fun w => by kernel_rfl) gx4 ?_
        exact QRun_done [14] (by kernel_rfl) (by kernel_rfl)
      · refine QRun_bool x2 false (by kernel_rfl) (fun w => by kernel_rfl) hb2 ?_
        have gx4 := M.ret_some ((M.ite_some gx4).2 hb2)
        refine QRun_n (by kernel_rfl) ?_
        refine QRun_n (by kernel_rfl) ?_
        refine QRun_n (by kernel_rfl) ?_
        refine QRun_bool false x4 (by kernel_rfl) (fun w => by kernel_rfl) gx4 ?_
        exact QRun_done [14] (by kernel_rfl) (by kernel_rfl)
    refine QRun_b [.bool x4] 12 _ (by kernel_rfl) (fun w => by kernel_rfl) ?_
    exact QRun_done [2] (by kernel_rfl) (by kernel_rfl)
  have hF := M.ret_some hF
  subst hF
  exact Run_ret1 rfl (ResV_tmp (v := .bool x4) (by kernel_rfl)) ⟨rfl, rfl⟩

set_option maxRecDepth 100000 in
set_option maxHeartbeats 4000000 in
theorem w_impl_times (h : Heap) (a_ : Int) (b : Int) (n : Nat) (r : Int) (hF : impl_times a_ b n = some r) :
    Fn Try.prog 71 #[.int .i64 a_, .int .i64 b] h fun v h' => v = .int .i64 r ∧ h' = h := by
  unfold impl_times at hF
  refine Fn_enter (args := [.int .i64 a_, .int .i64 b]) Try.func71 rfl (by kernel_rfl) (by kernel_rfl) (fun w0 _ => ?_)
  refine Run_seq ?_
  refine Run_reg 1 (by kernel_rfl) (L' := [(0, .int .i64 a_), (1, .int .i64 b)]) ?_ ?_
  · refine QRun_b [.int .i64 0] 0 _ (by kernel_rfl) (fun w => by kernel_rfl) ?_
    exact QRun_done [0, 1] (by kernel_rfl) (by kernel_rfl)
  refine Run_seq ?_
  refine Run_seq ?_
  refine Run_reg 6 (by kernel_rfl) (L' := [(0, .int .i64 a_), (1, .int .i64 b), (10, .bool ((a_ == (-1000000000000000)) || (b == (-1000000000000000))))]) ?_ ?_
  · refine QRun_b [.int .i64 a_, .bool (a_ == (-1000000000000000))] 0 _ (by kernel_rfl) (fun w => by kernel_rfl) ?_
    refine QRun_seq 6 [(0, .int .i64 a_), (1, .int .i64 b), (10, .bool ((a_ == (-1000000000000000)) || (b == (-1000000000000000))))] ?_ ?_
    · rcases Bool.eq_false_or_eq_true (a_ == (-1000000000000000)) with hb1 | hb1
      · refine QRun_bool (a_ == (-1000000000000000)) true (by kernel_rfl) (fun w => by kernel_rfl) hb1 ?_
        refine QRun_n (by kernel_rfl) ?_
        refine QRun_n (by kernel_rfl) ?_
        refine QRun_bool true ((a_ == (-1000000000000000)) || (b == (-1000000000000000))) (by kernel_rfl) (fun w => by kernel_rfl) (by rw [hb1]; rfl) ?_
        exact QRun_done [0, 1, 10] (by kernel_rfl) (by kernel_rfl)
      · refine QRun_bool (a_ == (-1000000000000000)) false (by kernel_rfl) (fun w => by kernel_rfl) hb1 ?_
        refine QRun_b [.int .i64 b, .bool (b == (-1000000000000000))] 3 _ (by kernel_rfl) (fun w => by kernel_rfl) ?_
        refine QRun_bool (b == (-1000000000000000)) ((a_ == (-1000000000000000)) || (b == (-1000000000000000))) (by kernel_rfl) (fun w => by kernel_rfl) (by rw [hb1]; rfl) ?_
        exact QRun_done [0, 1, 10] (by kernel_rfl) (by kernel_rfl)
    exact QRun_done [0, 1, 10] (by kernel_rfl) (by kernel_rfl)
  refine Run_cond (b := (a_ == (-1000000000000000)) || (b == (-1000000000000000))) (by kernel_rfl) (fun hb2 => ?_) (fun hb2 => ?_)
  · have hF := (M.ite_some hF).1 hb2
    refine Run_seq ?_
    refine Run_reg 1 (by kernel_rfl) (L' := [(4, .int .i64 (-1000000000000000))]) ?_ ?_
    · refine QRun_b [.int .i64 (-1000000000000000)] 0 _ (by kernel_rfl) (fun w => by kernel_rfl) ?_
      exact QRun_done [4] (by kernel_rfl) (by kernel_rfl)
    have hF := M.ret_some hF
    subst hF
    exact Run_ret1 rfl (ResV_tmp (v := .int .i64 (-1000000000000000)) (by kernel_rfl)) ⟨rfl, rfl⟩
  · have hF := (M.ite_some hF).2 hb2
    refine Run_skip ?_
    refine Run_seq ?_
    refine Run_reg 4 (by kernel_rfl) (L' := [(4, .int .i64 (w64 (a_ + b)))]) ?_ ?_
    · refine QRun_b [.int .i64 a_, .int .i64 b, .int .i64 (w64 (a_ + b)), .int .i64 (w64 (a_ + b))] 0 _ (by kernel_rfl) (fun w => by kernel_rfl) ?_
      exact QRun_done [4] (by kernel_rfl) (by kernel_rfl)
    have hF := M.ret_some hF
    subst hF
    exact Run_ret1 rfl (ResV_tmp (v := .int .i64 (w64 (a_ + b))) (by kernel_rfl)) ⟨rfl, rfl⟩

set_option maxRecDepth 100000 in
set_option maxHeartbeats 4000000 in
theorem w_impl_checkedVector (h : Heap) (x_ : List Int) (ax_ : Option Addr) (cx_ : Nat) (rx_ : Rd cd2 h (Lt h) ax_ cx_ x_) (n : Nat) (r : (List Int) × Int) (hF : impl_checkedVector x_ n = some r) :
    Fn Try.prog 65 #[.slice ax_ x_.length cx_] h fun v h' => ∃ (a0 : Option Addr) (c0 : Nat), v = .tuple #[.slice a0 r.1.length c0, .int .i64 r.2] ∧ Ali a0 ax_ c0 cx_ r.1 x_ ∧ Hold h h' [] := by
  unfold impl_checkedVector at hF
  refine Fn_enter (args := [.slice ax_ x_.length cx_]) Try.func65 rfl (by kernel_rfl) (by kernel_rfl) (fun w0 _ => ?_)
  have H0 := Hold.init h
  refine Run_seq ?_
  refine Run_reg 2 (by kernel_rfl) (L' := [(0, .slice ax_ x_.length cx_)]) ?_ ?_
  · refine QRun_b [.slice none 0 0, .int .i64 0] 0 _ (by kernel_rfl) (fun w => by kernel_rfl) ?_
    exact QRun_done [0] (by kernel_rfl) (by kernel_rfl)
  refine Run_seq ?_
  refine Run_seq ?_
  obtain ⟨x1, hx1, hF⟩ := M.bind_some hF
  refine Run_reg 3 (by kernel_rfl) (L' := [(0, .slice ax_ x_.length cx_), (6, .bool (!x1))]) ?_ ?_
  · refine QRun_b [.slice ax_ x_.length cx_] 0 _ (by kernel_rfl) (fun w => by kernel_rfl) ?_
    refine QRun_y (.bool x1) (by kernel_rfl) (Y_callq (f := 49) (args := #[.slice ax_ x_.length cx_]) (v := .bool x1) (by kernel_rfl) (w_impl_areValues h x_ ax_ cx_ rx_ _ _ hx1)) ?_
    refine QRun_b [.bool (!x1)] 2 _ (by kernel_rfl) (fun w => by kernel_rfl) ?_
    exact QRun_done [0, 6] (by kernel_rfl) (by kernel_rfl)
  refine Run_cond (b := !x1) (by kernel_rfl) (fun hb1 => ?_) (fun hb1 => ?_)
  · have hF := (M.ite_some hF).1 hb1
    refine Run_seq ?_
    refine Run_reg 2 (by kernel_rfl) (L' := [(2, .slice none 0 0), (3, .int .i64 3)]) ?_ ?_
    · refine QRun_b [.slice none 0 0, .int .i64 3] 0 _ (by kernel_rfl) (fun w => by kernel_rfl) ?_
      exact QRun_done [2, 3] (by kernel_rfl) (by kernel_rfl)
    have hF := M.ret_some hF
    subst hF
    exact Run_ret2 rfl (ResV_tmp (v := .slice none 0 0) (by kernel_rfl)) (ResV_tmp (v := .int .i64 3) (by kernel_rfl)) ⟨none, 0, rfl, .inr ⟨rfl, rfl, rfl⟩, H0⟩
  · have hF := (M.ite_some hF).2 hb1
    refine Run_skip ?_
    refine Run_seq ?_
    refine Run_reg 3 (by kernel_rfl) (L' := [(2, .slice ax_ x_.length cx_), (3, .int .i64 0)]) ?_ ?_
    · refine QRun_b [.slice ax_ x_.length cx_, .slice ax_ x_.length cx_, .int .i64 0] 0 _ (by kernel_rfl) (fun w => by kernel_rfl) ?_
      exact QRun_done [2, 3] (by kernel_rfl) (by kernel_rfl)
    have hF := M.ret_some hF
    subst hF
    exact Run_ret2 rfl (ResV_tmp (v := .slice ax_ x_.length cx_) (by kernel_rfl)) (ResV_tmp (v := .int .i64 0) (by kernel_rfl)) ⟨ax_, cx_, rfl, .inl ⟨rfl, rfl, rfl⟩, H0⟩

set_option maxRecDepth 100000 in
set_option maxHeartbeats 4000000 in
theorem w_impl_MultiplyPolynomials (h : Heap) (c_ : List Int) (ac_ : Option Addr) (cc_ : Nat) (rc_ : Rd cd2 h (Lt h) ac_ cc_ c_) (d : List Int) (ad : Option Addr) (cd : Nat) (rd : Rd cd2 h (Lt h) ad cd d) (n : Nat) (r : (List Int) × Int) (hF : impl_MultiplyPolynomials c_ d n = some r) :
    Fn Try.prog 39 #[.slice ac_ c_.length cc_, .slice ad d.length cd] h fun v h' => ∃ (a0 : Option Addr) (c0 : Nat), v = .tuple #[.slice a0 r.1.length c0, .int .i64 r.2] ∧ Hold h h' [own cd2 a0 r.1.length c0 r.1] := by
  unfold impl_MultiplyPolynomials at hF
  refine Fn_enter (args := [.slice ac_ c_.length cc_, .slice ad d.length cd]) Try.func39 rfl (by kernel_rfl) (by kernel_rfl) (fun w0 _ => ?_)
  have H0 := Hold.init h
  refine Run_seq ?_
  refine Run_reg 2 (by kernel_rfl) (L' := [(0, .slice ac_ c_.length cc_), (1, .slice ad d.length cd)]) ?_ ?_
  · refine QRun_b [.slice none 0 0, .int .i64 0] 0 _ (by kernel_rfl) (fun w => by kernel_rfl) ?_
    exact QRun_done [0, 1] (by kernel_rfl) (by kernel_rfl)
  refine Run_seq ?_
  refine Run_seq ?_
  obtain ⟨x1, hx1, hF⟩ := M.bind_some hF
  obtain ⟨x2, gx2, hF⟩ := M.bind_some hF
  refine Run_reg 8 (by kernel_rfl) (L' := [(0, .slice ac_ c_.length cc_), (1, .slice ad d.length cd), (19, .bool x2)]) ?_ ?_
  · refine QRun_b [.slice ac_ c_.length cc_] 0 _ (by kernel_rfl) (fun w => by kernel_rfl) ?_
    refine QRun_y (.bool x1) (by kernel_rfl) (Y_callq (f := 16) (args := #[.slice ac_ c_.length cc_]) (v := .bool x1) (by kernel_rfl) (w_impl_IsPolynomial h c_ ac_ cc_ rc_ _ _ hx1)) ?_
    refine QRun_b [.bool (!x1)] 2 _ (by kernel_rfl) (fun w => by kernel_rfl) ?_
    refine QRun_seq 8 [(0, .slice ac_ c_.length cc_), (1, .slice ad d.length cd), (19, .bool x2)] ?_ ?_
    · rcases Bool.eq_false_or_eq_true (!x1) with hb1 | hb1
      · refine QRun_bool (!x1) true (by kernel_rfl) (fun w => by kernel_rfl) hb1 ?_
        have gx2 := M.ret_some ((M.ite_some gx2).1 hb1)
        refine QRun_n (by kernel_rfl) ?_
        refine QRun_n (by kernel_rfl) ?_
        refine QRun_n (by kernel_rfl) ?_
        refine QRun_bool true x2 (by kernel_rfl) (fun w => by kernel_rfl) gx2 ?_
        exact QRun_done [0, 1, 19] (by kernel_rfl) (by kernel_rfl)
      · refine QRun_bool (!x1) false (by kernel_rfl) (fun w => by kernel_rfl) hb1 ?_
        have gx2 := (M.ite_some gx2).2 hb1
        obtain ⟨x3, hx2, gx2⟩ := M.bind_some gx2
        have gx2 := M.ret_some gx2
        refine QRun_b [.slice ad d.length cd] 4 _ (by kernel_rfl) (fun w => by kernel_rfl) ?_
        refine QRun_y (.bool x3) (by kernel_rfl) (Y_callq (f := 16) (args := #[.slice ad d.length cd]) (v := .bool x3) (by kernel_rfl) (w_impl_IsPolynomial h d ad cd rd _ _ hx2)) ?_
        refine QRun_b [.bool (!x3)] 6 _ (by kernel_rfl) (fun w => by kernel_rfl) ?_
        refine QRun_bool (!x3) x2 (by kernel_rfl) (fun w => by kernel_rfl) gx2 ?_
        exact QRun_done [0, 1, 19] (by kernel_rfl) (by kernel_rfl)
    exact QRun_done [0, 1, 19] (by kernel_rfl) (by kernel_rfl)
  refine Run_cond (b := x2) (by kernel_rfl) (fun hb2 => ?_) (fun hb2 => ?_)
  · have hF := (M.ite_some hF).1 hb2
    refine Run_seq ?_
    refine Run_reg 2 (by kernel_rfl) (L' := [(4, .slice none 0 0), (5, .int .i64 1)]) ?_ ?_
    · refine QRun_b [.slice none 0 0, .int .i64 1] 0 _ (by kernel_rfl) (fun w => by kernel_rfl) ?_
      exact QRun_done [4, 5] (by kernel_rfl) (by kernel_rfl)
    have hF := M.ret_some hF
    subst hF
    have H1 := H0.empty cd2
    exact Run_ret2 rfl (ResV_tmp (v := .slice none 0 0) (by kernel_rfl)) (ResV_tmp (v := .int .i64 1) (by kernel_rfl)) ⟨none, 0, rfl, H1⟩
  · have hF := (M.ite_some hF).2 hb2
    refine Run_skip ?_
    refine Run_seq ?_
    refine Run_ops ?_
    refine Run_b [.slice ac_ c_.length cc_, .int .i64 (c_.length : Int), .slice ad d.length cd, .int .i64 (d.length : Int), .int .i64 (w64 ((c_.length : Int) + (d.length : Int))), .int .i64 (w64 ((w64 ((c_.length : Int) + (d.length : Int))) - 1))] 0 _ (by kernel_rfl) (fun w => by kernel_rfl) ?_
    obtain ⟨l1, hl1, hF⟩ := M.bind_some hF
    have hl1 := M.make_some hl1
    refine Run_E (by kernel_rfl) ?_
    refine E_make cd2 0 (kl := .i64) (kc := .i64) H0 cd2_ti Try.underlying22 (by decide) cd2_zero (by kernel_rfl) hl1 (fun a1 h1 H2 => ?_)
    refine Run_b [.slice a1 l1.length l1.length] 7 _ (by kernel_rfl) (fun w => by kernel_rfl) ?_
    refine Run_nil (by kernel_rfl) ?_
    refine Run_keep [0, 1, 6] (L' := [(0, .slice ac_ c_.length cc_), (1, .slice ad d.length cd), (6, .slice a1 l1.length l1.length)]) (by kernel_rfl) ?_
    refine Run_seq ?_
    refine Run_seq ?_
    refine Run_reg 3 (by kernel_rfl) (L' := [(0, .slice ac_ c_.length cc_), (1, .slice ad d.length cd), (6, .slice a1 l1.length l1.length), (29, .bool (decide (12 < (l1.length : Int))))]) ?_ ?_
    · refine QRun_b [.slice a1 l1.length l1.length, .int .i64 (l1.length : Int), .bool (decide (12 < (l1.length : Int)))] 0 _ (by kernel_rfl) (fun w => by kernel_rfl) ?_
      exact QRun_done [0, 1, 6, 29] (by kernel_rfl) (by kernel_rfl)
    refine Run_cond (b := decide (12 < (l1.length : Int))) (by kernel_rfl) (fun hb3 => ?_) (fun hb3 => ?_)
    · have hF := (M.ite_some hF).1 hb3
      refine Run_seq ?_
      refine Run_reg 2 (by kernel_rfl) (L' := [(4, .slice none 0 0), (5, .int .i64 3)]) ?_ ?_
      · refine QRun_b [.slice none 0 0, .int .i64 3] 0 _ (by kernel_rfl) (fun w => by kernel_rfl) ?_
        exact QRun_done [4, 5] (by kernel_rfl) (by kernel_rfl)
      have hF := M.ret_some hF
      subst hF
      have H3 := H2.empty cd2
      have H4 : Hold h h1 [own cd2 none 0 0 []] := H3.pick [0] (by kernel_rfl)
      exact Run_ret2 rfl (ResV_tmp (v := .slice none 0 0) (by kernel_rfl)) (ResV_tmp (v := .int .i64 3) (by kernel_rfl)) ⟨none, 0, rfl, H4⟩
    · have hF := (M.ite_some hF).2 hb3
      refine Run_skip ?_
      refine Run_seq ?_
      refine Run_seq ?_
      refine Run_reg 3 (by kernel_rfl) (L' := [(0, .slice ac_ c_.length cc_), (1, .slice ad d.length cd), (6, .slice a1 l1.length l1.length), (31, .int .i64 (l1.length : Int)), (32, .int .i64 0)]) ?_ ?_
      · refine QRun_b [.slice a1 l1.length l1.length, .int .i64 (l1.length : Int), .int .i64 0] 0 _ (by kernel_rfl) (fun w => by kernel_rfl) ?_
        exact QRun_done [0, 1, 6, 31, 32] (by kernel_rfl) (by kernel_rfl)
      obtain ⟨x4, gx4, hF⟩ := M.bind_some hF
      obtain ⟨hloy1, hhiy1, gx4⟩ := M.for_start gx4
      refine Run_join (fun L' h' => L' = [(0, .slice ac_ c_.length cc_), (1, .slice ad d.length cd), (6, .slice a1 l1.length l1.length)] ∧ Hold h h' [own cd2 a1 l1.length l1.length x4]) ?_ ?_
      · rintro _ h3 ⟨rfl, H6⟩
        refine Run_seq ?_
        refine Run_seq ?_
        refine Run_reg 3 (by kernel_rfl) (L' := [(1, .slice ad d.length cd), (6, .slice a1 l1.length l1.length), (39, .slice ac_ c_.length cc_), (40, .int .i64 (c_.length : Int)), (41, .int .i64 0)]) ?_ ?_
        · refine QRun_b [.slice ac_ c_.length cc_, .int .i64 (c_.length : Int), .int .i64 0] 0 _ (by kernel_rfl) (fun w => by kernel_rfl) ?_
          exact QRun_done [1, 6, 39, 40, 41] (by kernel_rfl) (by kernel_rfl)
        obtain ⟨x6, gx6, hF⟩ := M.bind_some hF
        obtain ⟨hloy2, hhiy2, gx6⟩ := M.for_start gx6
        refine Run_join (fun L' h' => L' = [(6, .slice a1 l1.length l1.length)] ∧ Hold h h' [own cd2 a1 l1.length l1.length x6]) ?_ ?_
        · rintro _ h6 ⟨rfl, H9⟩
          refine Run_seq ?_
          refine Run_ops ?_
          refine Run_b [.slice a1 l1.length l1.length] 0 _ (by kernel_rfl) (fun w => by kernel_rfl) ?_
          obtain ⟨x13, hx9, hF⟩ := M.bind_some hF
          refine Run_E (by kernel_rfl) ?_
          refine E_call (f := 65) (args := #[.slice a1 l1.length l1.length]) (Fn.arg (w_impl_checkedVector h6 x6 a1 l1.length (H9.rd 0 rfl) _ _ hx9) (by simp only [(H9.len 0 rfl)])) (by kernel_rfl) (fun v1 h11 hp1 => ?_)
          obtain ⟨a2, c1, rfl, hd1, H15⟩ := hp1
          have H16 : Hold h h11 [own cd2 a1 l1.length l1.length x6] := H9.call H15 rfl
          have H17 := H16.alias hd1
          refine Run_b [.slice a2 x13.1.length c1, .int .i64 x13.2, .slice a2 x13.1.length c1, .int .i64 x13.2] 2 _ (by kernel_rfl) (fun w => by kernel_rfl) ?_
          refine Run_nil (by kernel_rfl) ?_
          refine Run_keep [4, 5] (L' := [(4, .slice a2 x13.1.length c1), (5, .int .i64 x13.2)]) (by kernel_rfl) ?_
          have hF := M.ret_some hF
          subst hF
          exact Run_ret2 rfl (ResV_tmp (v := .slice a2 x13.1.length c1) (by kernel_rfl)) (ResV_tmp (v := .int .i64 x13.2) (by kernel_rfl)) ⟨a2, c1, rfl, H17⟩
        · refine Run_block ?_
          refine Run_keep [1, 6, 39, 40, 41] (L' := [(1, .slice ad d.length cd), (6, .slice a1 l1.length l1.length), (39, .slice ac_ c_.length cc_), (40, .int .i64 (c_.length : Int)), (41, .int .i64 0)]) (by kernel_rfl) ?_
          refine Run_loop (fun m L' h' => ∃ (i2 : Int) (s2 : (List Int)), 0 ≤ i2 ∧ M.forN (c_.length : Int) _ _ n m i2 s2 = some x6 ∧ L' = [(1, .slice ad d.length cd), (6, .slice a1 l1.length l1.length), (39, .slice ac_ c_.length cc_), (40, .int .i64 (c_.length : Int)), (41, .int .i64 i2)] ∧ Hold h h' [own cd2 a1 l1.length l1.length s2]) ((c_.length : Int) - 0).toNat ⟨0, x4, Int.le_refl _, gx6, rfl, H6⟩ ?_
          rintro my2 _ h5 ⟨i2, s2, hloy2', gx6, rfl, H8⟩
          refine Run_seq ?_
          refine Run_reg 1 (by kernel_rfl) (L' := [(1, .slice ad d.length cd), (6, .slice a1 l1.length l1.length), (39, .slice ac_ c_.length cc_), (40, .int .i64 (c_.length : Int)), (41, .int .i64 i2), (42, .bool (decide (i2 < (c_.length : Int))))]) ?_ ?_
          · refine QRun_b [.bool (decide (i2 < (c_.length : Int)))] 0 _ (by kernel_rfl) (fun w => by kernel_rfl) ?_
            exact QRun_done [1, 6, 39, 40, 41, 42] (by kernel_rfl) (by kernel_rfl)
          refine Run_seq ?_
          refine Run_cond (b := decide (i2 < (c_.length : Int))) (by kernel_rfl) (fun hb5 => ?_) (fun hb5 => ?_)
          · obtain ⟨my2, y2, rfl, hB2, hgoy2, houty2⟩ := M.for_go gx6 hb5
            have hlty2 := of_decide_eq_true hb5
            refine Run_skip ?_
            refine Run_seq ?_
            refine Run_block ?_
            refine Run_seq ?_
            obtain ⟨x7, hx4, hB2⟩ := M.bind_some hB2
            obtain ⟨hx4l, hx4u, hx4⟩ := M.idx_some hx4
            refine Run_reg 5 (by kernel_rfl) (L' := [(1, .slice ad d.length cd), (6, .slice a1 l1.length l1.length), (8, .int .i64 i2), (9, .int .i64 x7), (39, .slice ac_ c_.length cc_), (40, .int .i64 (c_.length : Int)), (41, .int .i64 i2)]) ?_ ?_
            · refine QRun_b [.int .i64 i2] 0 _ (by kernel_rfl) (fun w => by kernel_rfl) ?_
              refine QRun_y (.pointer (some (adr ac_ (i2.toNat * 1)))) (by kernel_rfl) (Y_idx (t := 22) (e := 2) (sz := 1) (a := ac_) (n := c_.length) (cap := cc_) (kk := .i64) (i := i2) (by kernel_rfl) Try.underlying22 (by kernel_rfl) ((rc_.at H8.ext).cell hx4).1 hx4l hx4u) ?_
              refine QRun_y (.int .i64 x7) (by kernel_rfl) (Y_load1 (t := 2) (p := adr ac_ (i2.toNat * 1)) (v := .int .i64 x7) (by kernel_rfl) (fun w => by kernel_rfl) (cd2_cell (rc_.at H8.ext) hx4)) ?_
              refine QRun_b [.int .i64 i2, .int .i64 x7] 3 _ (by kernel_rfl) (fun w => by kernel_rfl) ?_
              exact QRun_done [1, 6, 8, 9, 39, 40, 41] (by kernel_rfl) (by kernel_rfl)
            refine Run_seq ?_
            refine Run_reg 3 (by kernel_rfl) (L' := [(1, .slice ad d.length cd), (6, .slice a1 l1.length l1.length), (8, .int .i64 i2), (9, .int .i64 x7), (39, .slice ac_ c_.length cc_), (40, .int .i64 (c_.length : Int)), (41, .int .i64 i2), (46, .slice ad d.length cd), (47, .int .i64 (d.length : Int)), (48, .int .i64 0)]) ?_ ?_
            · refine QRun_b [.slice ad d.length cd, .int .i64 (d.length : Int), .int .i64 0] 0 _ (by kernel_rfl) (fun w => by kernel_rfl) ?_
              exact QRun_done [1, 6, 8, 9, 39, 40, 41, 46, 47, 48] (by kernel_rfl) (by kernel_rfl)
            obtain ⟨x8, gx8, hB2⟩ := M.bind_some hB2
            obtain ⟨hloy3, hhiy3, gx8⟩ := M.for_start gx8
            refine Run_join (fun L' h' => L' = [(1, .slice ad d.length cd), (6, .slice a1 l1.length l1.length), (39, .slice ac_ c_.length cc_), (40, .int .i64 (c_.length : Int)), (41, .int .i64 i2)] ∧ Hold h h' [own cd2 a1 l1.length l1.length x8]) ?_ ?_
            · rintro _ h8 ⟨rfl, H11⟩
              refine Run_blk ?_
              refine Run_reg 2 (by kernel_rfl) (L' := [(1, .slice ad d.length cd), (6, .slice a1 l1.length l1.length), (39, .slice ac_ c_.length cc_), (40, .int .i64 (c_.length : Int)), (41, .int .i64 (i2 + 1))]) ?_ ?_
              · refine QRun_y (.int .i64 (i2 + 1)) (by kernel_rfl) (Y_eq (v := .int .i64 (w64 (i2 + 1))) (Y_pure (fun w => by kernel_rfl)) (by rw [w64_eq _ (by omega)])) ?_
                refine QRun_b [.int .i64 (i2 + 1)] 1 _ (by kernel_rfl) (fun w => by kernel_rfl) ?_
                exact QRun_done [1, 6, 39, 40, 41] (by kernel_rfl) (by kernel_rfl)
              have hB2 := M.ret_some hB2
              have gx6 := hgoy2 _ hB2.symm
              exact Run_again [1, 6, 39, 40, 41] (by kernel_rfl) my2 (Nat.lt_succ_self _) ⟨i2 + 1, x8, by omega, gx6, rfl, H11⟩
            · refine Run_block ?_
              refine Run_keep [1, 6, 8, 9, 39, 40, 41, 46, 47, 48] (L' := [(1, .slice ad d.length cd), (6, .slice a1 l1.length l1.length), (8, .int .i64 i2), (9, .int .i64 x7), (39, .slice ac_ c_.length cc_), (40, .int .i64 (c_.length : Int)), (41, .int .i64 i2), (46, .slice ad d.length cd), (47, .int .i64 (d.length : Int)), (48, .int .i64 0)]) (by kernel_rfl) ?_
              refine Run_loop (fun m L' h' => ∃ (i3 : Int) (s3 : (List Int)), 0 ≤ i3 ∧ M.forN (d.length : Int) _ _ n m i3 s3 = some x8 ∧ L' = [(1, .slice ad d.length cd), (6, .slice a1 l1.length l1.length), (8, .int .i64 i2), (9, .int .i64 x7), (39, .slice ac_ c_.length cc_), (40, .int .i64 (c_.length : Int)), (41, .int .i64 i2), (46, .slice ad d.length cd), (47, .int .i64 (d.length : Int)), (48, .int .i64 i3)] ∧ Hold h h' [own cd2 a1 l1.length l1.length s3]) ((d.length : Int) - 0).toNat ⟨0, s2, Int.le_refl _, gx8, rfl, H8⟩ ?_
              rintro my3 _ h7 ⟨i3, s3, hloy3', gx8, rfl, H10⟩
              refine Run_seq ?_
              refine Run_reg 1 (by kernel_rfl) (L' := [(1, .slice ad d.length cd), (6, .slice a1 l1.length l1.length), (8, .int .i64 i2), (9, .int .i64 x7), (39, .slice ac_ c_.length cc_), (40, .int .i64 (c_.length : Int)), (41, .int .i64 i2), (46, .slice ad d.length cd), (47, .int .i64 (d.length : Int)), (48, .int .i64 i3), (49, .bool (decide (i3 < (d.length : Int))))]) ?_ ?_
              · refine QRun_b [.bool (decide (i3 < (d.length : Int)))] 0 _ (by kernel_rfl) (fun w => by kernel_rfl) ?_
                exact QRun_done [1, 6, 8, 9, 39, 40, 41, 46, 47, 48, 49] (by kernel_rfl) (by kernel_rfl)
              refine Run_seq ?_
              refine Run_cond (b := decide (i3 < (d.length : Int))) (by kernel_rfl) (fun hb6 => ?_) (fun hb6 => ?_)
              · obtain ⟨my3, y3, rfl, hB3, hgoy3, houty3⟩ := M.for_go gx8 hb6
                have hlty3 := of_decide_eq_true hb6
                refine Run_skip ?_
                refine Run_seq ?_
                refine Run_block ?_
                refine Run_seq ?_
                obtain ⟨x9, hx5, hB3⟩ := M.bind_some hB3
                obtain ⟨hx5l, hx5u, hx5⟩ := M.idx_some hx5
                refine Run_reg 5 (by kernel_rfl) (L' := [(1, .slice ad d.length cd), (6, .slice a1 l1.length l1.length), (8, .int .i64 i2), (9, .int .i64 x7), (10, .int .i64 i3), (11, .int .i64 x9), (39, .slice ac_ c_.length cc_), (40, .int .i64 (c_.length : Int)), (41, .int .i64 i2), (46, .slice ad d.length cd), (47, .int .i64 (d.length : Int)), (48, .int .i64 i3)]) ?_ ?_
                · refine QRun_b [.int .i64 i3] 0 _ (by kernel_rfl) (fun w => by kernel_rfl) ?_
                  refine QRun_y (.pointer (some (adr ad (i3.toNat * 1)))) (by kernel_rfl) (Y_idx (t := 22) (e := 2) (sz := 1) (a := ad) (n := d.length) (cap := cd) (kk := .i64) (i := i3) (by kernel_rfl) Try.underlying22 (by kernel_rfl) ((rd.at H10.ext).cell hx5).1 hx5l hx5u) ?_
                  refine QRun_y (.int .i64 x9) (by kernel_rfl) (Y_load1 (t := 2) (p := adr ad (i3.toNat * 1)) (v := .int .i64 x9) (by kernel_rfl) (fun w => by kernel_rfl) (cd2_cell (rd.at H10.ext) hx5)) ?_
                  refine QRun_b [.int .i64 i3, .int .i64 x9] 3 _ (by kernel_rfl) (fun w => by kernel_rfl) ?_
                  exact QRun_done [1, 6, 8, 9, 10, 11, 39, 40, 41, 46, 47, 48] (by kernel_rfl) (by kernel_rfl)
                obtain ⟨x10, hx6, hB3⟩ := M.bind_some hB3
                obtain ⟨hx6l, hx6u, hx6⟩ := M.idx_some hx6
                obtain ⟨x11, hx7, hB3⟩ := M.bind_some hB3
                obtain ⟨x12, hx8, hB3⟩ := M.bind_some hB3
                obtain ⟨hx8l, hx8u, hx8⟩ := M.idx_some hx8
                refine Run_D (fun x => Hold h x [own cd2 a1 l1.length l1.length s3]) (fun x => Hold h x [own cd2 a1 l1.length l1.length s3]) mixed (by kernel_rfl) H10 Hold.stable (fun x Hy => (show Hold h x [own cd2 a1 l1.length l1.length s3] from Hy).pick [0] (by kernel_rfl)) ?_
                refine DR_b 8 [.slice a1 l1.length l1.length, .int .i64 i2, .int .i64 i3, .int .i64 (w64 (i2 + i3)), .slice a1 l1.length l1.length, .int .i64 i2, .int .i64 i3, .int .i64 (w64 (i2 + i3))] 0 (by kernel_rfl) (by kernel_rfl) (by kernel_rfl) (fun w => by kernel_rfl) ?_
                refine DR_y 7 (i := 8) (.pointer (some (adr a1 ((w64 (i2 + i3)).toNat * 1)))) (by kernel_rfl) (by kernel_rfl) (by kernel_rfl) (fun hx Hx => (YE.of (Y_idx (t := 22) (e := 2) (sz := 1) (a := a1) (n := l1.length) (cap := l1.length) (kk := .i64) (i := w64 (i2 + i3)) (by kernel_rfl) Try.underlying22 (by kernel_rfl) ((H10.rd 0 rfl).cell hx6).1 hx6l (by rw [← (H10.len 0 rfl)]; exact hx6u)))) ?_
                refine DR_y 6 (i := 9) (.int .i64 x10) (by kernel_rfl) (by kernel_rfl) (by kernel_rfl) (fun hx Hx => (YE.of (Y_load1 (t := 2) (p := adr a1 ((w64 (i2 + i3)).toNat * 1)) (v := .int .i64 x10) (by kernel_rfl) (fun w => by kernel_rfl) (cd2_cell (Hx.rd 0 rfl) hx6)))) ?_
                refine DR_b 4 [.int .i64 x7, .int .i64 x9] 10 (by kernel_rfl) (by kernel_rfl) (by kernel_rfl) (fun w => by kernel_rfl) ?_
                refine DR_y 3 (i := 12) (.int .i64 x11) (by kernel_rfl) (by kernel_rfl) (by kernel_rfl) (fun hx Hx => (YE.of (Y_callq (f := 71) (args := #[.int .i64 x7, .int .i64 x9]) (v := .int .i64 x11) (by kernel_rfl) (w_impl_times hx x7 x9 _ _ hx7)))) ?_
                refine DR_b 2 [.int .i64 (mx x10 x11)] 13 (by kernel_rfl) (by kernel_rfl) (by kernel_rfl) (fun w => by kernel_rfl) ?_
                refine DR_y 1 (i := 14) (.pointer (some (adr a1 ((w64 (i2 + i3)).toNat * 1)))) (by kernel_rfl) (by kernel_rfl) (by kernel_rfl) (fun hx Hx => (YE.of (Y_idx (t := 22) (e := 2) (sz := 1) (a := a1) (n := l1.length) (cap := l1.length) (kk := .i64) (i := w64 (i2 + i3)) (by kernel_rfl) Try.underlying22 (by kernel_rfl) ((H10.rd 0 rfl).cell hx8).1 hx8l (by rw [← (H10.len 0 rfl)]; exact hx8u)))) ?_
                refine DR_tail (i := 15) (by kernel_rfl) (by kernel_rfl) (by kernel_rfl) (fun h9 H12 => ?_)
                have H13 : Hold h h9 [own cd2 a1 l1.length l1.length s3] := H12
                obtain ⟨l3, hu2, hB3⟩ := M.bind_some hB3
                have hu2 := M.upd_some hu2
                refine Run_E (by kernel_rfl) ?_
                refine E_put (C := cd2) (t := 2) (sz := 1) (j := w64 (i2 + i3)) (x := (mx x10 x11)) (v := .int .i64 (mx x10 x11)) H13 cd2_flat (by kernel_rfl) rfl (cd2_own _) (by kernel_rfl) hu2 (fun h10 H14 => ?_)
                refine Run_nil (by kernel_rfl) ?_
                refine Run_keep [1, 6, 8, 9, 39, 40, 41, 46, 47, 48] (L' := [(1, .slice ad d.length cd), (6, .slice a1 l1.length l1.length), (8, .int .i64 i2), (9, .int .i64 x7), (39, .slice ac_ c_.length cc_), (40, .int .i64 (c_.length : Int)), (41, .int .i64 i2), (46, .slice ad d.length cd), (47, .int .i64 (d.length : Int)), (48, .int .i64 i3)]) (by kernel_rfl) ?_
                refine Run_blk ?_
                refine Run_reg 2 (by kernel_rfl) (L' := [(1, .slice ad d.length cd), (6, .slice a1 l1.length l1.length), (8, .int .i64 i2), (9, .int .i64 x7), (39, .slice ac_ c_.length cc_), (40, .int .i64 (c_.length : Int)), (41, .int .i64 i2), (46, .slice ad d.length cd), (47, .int .i64 (d.length : Int)), (48, .int .i64 (i3 + 1))]) ?_ ?_
                · refine QRun_y (.int .i64 (i3 + 1)) (by kernel_rfl) (Y_eq (v := .int .i64 (w64 (i3 + 1))) (Y_pure (fun w => by kernel_rfl)) (by rw [w64_eq _ (by omega)])) ?_
                  refine QRun_b [.int .i64 (i3 + 1)] 1 _ (by kernel_rfl) (fun w => by kernel_rfl) ?_
                  exact QRun_done [1, 6, 8, 9, 39, 40, 41, 46, 47, 48] (by kernel_rfl) (by kernel_rfl)
                have hB3 := M.ret_some hB3
                have gx8 := hgoy3 _ hB3.symm
                exact Run_again [1, 6, 8, 9, 39, 40, 41, 46, 47, 48] (by kernel_rfl) my3 (Nat.lt_succ_self _) ⟨i3 + 1, l3, by omega, gx8, rfl, H14⟩
              · have gx8 := M.for_end gx8 hb6
                subst gx8
                refine Run_exit (k' := _) rfl ?_
                exact Run_fall [1, 6, 39, 40, 41] (by kernel_rfl) ⟨rfl, H10⟩
          · have gx6 := M.for_end gx6 hb5
            subst gx6
            refine Run_exit (k' := _) rfl ?_
            exact Run_fall [6] (by kernel_rfl) ⟨rfl, H8⟩
      · refine Run_block ?_
        refine Run_keep [0, 1, 6, 31, 32] (L' := [(0, .slice ac_ c_.length cc_), (1, .slice ad d.length cd), (6, .slice a1 l1.length l1.length), (31, .int .i64 (l1.length : Int)), (32, .int .i64 0)]) (by kernel_rfl) ?_
        refine Run_loop (fun m L' h' => ∃ (i1 : Int) (s1 : (List Int)), 0 ≤ i1 ∧ M.forN (l1.length : Int) _ _ n m i1 s1 = some x4 ∧ L' = [(0, .slice ac_ c_.length cc_), (1, .slice ad d.length cd), (6, .slice a1 l1.length l1.length), (31, .int .i64 (l1.length : Int)), (32, .int .i64 i1)] ∧ Hold h h' [own cd2 a1 l1.length l1.length s1]) ((l1.length : Int) - 0).toNat ⟨0, l1, Int.le_refl _, gx4, rfl, H2⟩ ?_
        rintro my1 _ h2 ⟨i1, s1, hloy1', gx4, rfl, H5⟩
        refine Run_seq ?_
        refine Run_reg 1 (by kernel_rfl) (L' := [(0, .slice ac_ c_.length cc_), (1, .slice ad d.length cd), (6, .slice a1 l1.length l1.length), (31, .int .i64 (l1.length : Int)), (32, .int .i64 i1), (33, .bool (decide (i1 < (l1.length : Int))))]) ?_ ?_
        · refine QRun_b [.bool (decide (i1 < (l1.length : Int)))] 0 _ (by kernel_rfl) (fun w => by kernel_rfl) ?_
          exact QRun_done [0, 1, 6, 31, 32, 33] (by kernel_rfl) (by kernel_rfl)
        refine Run_seq ?_
        refine Run_cond (b := decide (i1 < (l1.length : Int))) (by kernel_rfl) (fun hb4 => ?_) (fun hb4 => ?_)
        · obtain ⟨my1, y1, rfl, hB1, hgoy1, houty1⟩ := M.for_go gx4 hb4
          have hlty1 := of_decide_eq_true hb4
          refine Run_skip ?_
          refine Run_seq ?_
          refine Run_block ?_
          refine Run_seq ?_
          refine Run_reg 2 (by kernel_rfl) (L' := [(0, .slice ac_ c_.length cc_), (1, .slice ad d.length cd), (6, .slice a1 l1.length l1.length), (7, .int .i64 i1), (31, .int .i64 (l1.length : Int)), (32, .int .i64 i1)]) ?_ ?_
          · refine QRun_b [.int .i64 i1, .int .i64 i1] 0 _ (by kernel_rfl) (fun w => by kernel_rfl) ?_
            exact QRun_done [0, 1, 6, 7, 31, 32] (by kernel_rfl) (by kernel_rfl)
          refine Run_ops ?_
          obtain ⟨x5, hx3, hB1⟩ := M.bind_some hB1
          obtain ⟨hx3l, hx3u, hx3⟩ := M.idx_some hx3
          refine Run_b [.slice a1 l1.length l1.length, .int .i64 i1] 0 _ (by kernel_rfl) (fun w => by kernel_rfl) ?_
          refine Run_y (.pointer (some (adr a1 (i1.toNat * 1)))) (by kernel_rfl) (Y_idx (t := 22) (e := 2) (sz := 1) (a := a1) (n := l1.length) (cap := l1.length) (kk := .i64) (i := i1) (by kernel_rfl) Try.underlying22 (by kernel_rfl) ((H5.rd 0 rfl).cell hx3).1 hx3l (by rw [← (H5.len 0 rfl)]; exact hx3u)) ?_
          obtain ⟨l2, hu1, hB1⟩ := M.bind_some hB1
          have hu1 := M.upd_some hu1
          refine Run_E (by kernel_rfl) ?_
          refine E_put (C := cd2) (t := 2) (sz := 1) (j := i1) (x := (-1000000000000000)) (v := .int .i64 (-1000000000000000)) H5 cd2_flat (by kernel_rfl) rfl (cd2_own _) (by kernel_rfl) hu1 (fun h4 H7 => ?_)
          refine Run_nil (by kernel_rfl) ?_
          refine Run_keep [0, 1, 6, 31, 32] (L' := [(0, .slice ac_ c_.length cc_), (1, .slice ad d.length cd), (6, .slice a1 l1.length l1.length), (31, .int .i64 (l1.length : Int)), (32, .int .i64 i1)]) (by kernel_rfl) ?_
          refine Run_blk ?_
          refine Run_reg 2 (by kernel_rfl) (L' := [(0, .slice ac_ c_.length cc_), (1, .slice ad d.length cd), (6, .slice a1 l1.length l1.length), (31, .int .i64 (l1.length : Int)), (32, .int .i64 (i1 + 1))]) ?_ ?_
          · refine QRun_y (.int .i64 (i1 + 1)) (by kernel_rfl) (Y_eq (v := .int .i64 (w64 (i1 + 1))) (Y_pure (fun w => by kernel_rfl)) (by rw [w64_eq _ (by omega)])) ?_
            refine QRun_b [.int .i64 (i1 + 1)] 1 _ (by kernel_rfl) (fun w => by kernel_rfl) ?_
            exact QRun_done [0, 1, 6, 31, 32] (by kernel_rfl) (by kernel_rfl)
          have hB1 := M.ret_some hB1
          have gx4 := hgoy1 _ hB1.symm
          exact Run_again [0, 1, 6, 31, 32] (by kernel_rfl) my1 (Nat.lt_succ_self _) ⟨i1 + 1, l2, by omega, gx4, rfl, H7⟩
        · have gx4 := M.for_end gx4 hb4
          subst gx4
          refine Run_exit (k' := _) rfl ?_
          exact Run_fall [0, 1, 6] (by kernel_rfl) ⟨rfl, H5⟩

set_option maxRecDepth 100000 in
set_option maxHeartbeats 4000000 in
theorem w_laws_eqInt64S (h : Heap) (a_ : List Int) {Sa_ : Bs} (aa_ : Option Addr) (ca_ : Nat) (ra_ : Rd cd2 h Sa_ aa_ ca_ a_) (b : List Int) {Sb : Bs} (ab : Option Addr) (cb : Nat) (rb : Rd cd2 h Sb ab cb b) (n : Nat) (r : Bool) (hF : laws_eqInt64S a_ b n = some r) :
    Fn Try.prog 17 #[.slice aa_ a_.length ca_, .slice ab b.length cb] h fun v h' => v = .bool r ∧ h' = h := by
  unfold laws_eqInt64S at hF
  refine Fn_enter (args := [.slice aa_ a_.length ca_, .slice ab b.length cb]) Try.func17 rfl (by kernel_rfl) (by kernel_rfl) (fun w0 _ => ?_)
  refine Run_seq ?_
  refine Run_reg 1 (by kernel_rfl) (L' := [(0, .slice aa_ a_.length ca_), (1, .slice ab b.length cb)]) ?_ ?_
  · refine QRun_b [.bool false] 0 _ (by kernel_rfl) (fun w => by kernel_rfl) ?_
    exact QRun_done [0, 1] (by kernel_rfl) (by kernel_rfl)
  refine Run_seq ?_
  refine Run_seq ?_
  refine Run_reg 5 (by kernel_rfl) (L' := [(0, .slice aa_ a_.length ca_), (1, .slice ab b.length cb), (10, .bool ((a_.length : Int) != (b.length : Int)))]) ?_ ?_
  · refine QRun_b [.slice aa_ a_.length ca_, .int .i64 (a_.length : Int), .slice ab b.length cb, .int .i64 (b.length : Int), .bool ((a_.length : Int) != (b.length : Int))] 0 _ (by kernel_rfl) (fun w => by kernel_rfl) ?_
    exact QRun_done [0, 1, 10] (by kernel_rfl) (by kernel_rfl)
  refine Run_cond (b := (a_.length : Int) != (b.length : Int)) (by kernel_rfl) (fun hb1 => ?_) (fun hb1 => ?_)
  · have hF := (M.ite_some hF).1 hb1
    refine Run_seq ?_
    refine Run_reg 1 (by kernel_rfl) (L' := [(4, .bool false)]) ?_ ?_
    · refine QRun_b [.bool false] 0 _ (by kernel_rfl) (fun w => by kernel_rfl) ?_
      exact QRun_done [4] (by kernel_rfl) (by kernel_rfl)
    have hF := M.ret_some hF
    subst hF
    exact Run_ret1 rfl (ResV_tmp (v := .bool false) (by kernel_rfl)) ⟨rfl, rfl⟩
  · have hF := (M.ite_some hF).2 hb1
    refine Run_skip ?_
    refine Run_seq ?_
    refine Run_seq ?_
    refine Run_reg 1 (by kernel_rfl) (L' := [(0, .slice aa_ a_.length ca_), (1, .slice ab b.length cb), (5, .int .i64 0)]) ?_ ?_
    · refine QRun_b [.int .i64 0] 0 _ (by kernel_rfl) (fun w => by kernel_rfl) ?_
      exact QRun_done [0, 1, 5] (by kernel_rfl) (by kernel_rfl)
    obtain ⟨x1, gx1, hF⟩ := M.bind_some hF
    obtain ⟨hloy1, hhiy1, gx1⟩ := M.for_start gx1
    refine Run_join (fun L' h' => ∃ (s2 : Unit), x1 = .inl s2 ∧ L' = [] ∧ h = h') ?_ ?_
    · rintro _ _ ⟨s2, es2, rfl, rfl⟩
      have hF := M.cont_inl' hF es2
      refine Run_seq ?_
      refine Run_reg 1 (by kernel_rfl) (L' := [(4, .bool true)]) ?_ ?_
      · refine QRun_b [.bool true] 0 _ (by kernel_rfl) (fun w => by kernel_rfl) ?_
        exact QRun_done [4] (by kernel_rfl) (by kernel_rfl)
      have hF := M.ret_some hF
      subst hF
      exact Run_ret1 rfl (ResV_tmp (v := .bool true) (by kernel_rfl)) ⟨rfl, rfl⟩
    · refine Run_block ?_
      refine Run_keep [0, 1, 5] (L' := [(0, .slice aa_ a_.length ca_), (1, .slice ab b.length cb), (5, .int .i64 0)]) (by kernel_rfl) ?_
      refine Run_loop (fun m L' h' => ∃ (i1 : Int) (s1 : Unit), 0 ≤ i1 ∧ M.forN (a_.length : Int) _ _ n m i1 s1 = some x1 ∧ L' = [(0, .slice aa_ a_.length ca_), (1, .slice ab b.length cb), (5, .int .i64 i1)] ∧ h = h') ((a_.length : Int) - 0).toNat ⟨0, (), Int.le_refl _, gx1, rfl, rfl⟩ ?_
      rintro my1 _ _ ⟨i1, s1, hloy1', gx1, rfl, rfl⟩
      refine Run_seq ?_
      refine Run_seq ?_
      refine Run_reg 4 (by kernel_rfl) (L' := [(0, .slice aa_ a_.length ca_), (1, .slice ab b.length cb), (5, .int .i64 i1), (14, .bool (decide (i1 < (a_.length : Int))))]) ?_ ?_
      · refine QRun_b [.int .i64 i1, .slice aa_ a_.length ca_, .int .i64 (a_.length : Int), .bool (decide (i1 < (a_.length : Int)))] 0 _ (by kernel_rfl) (fun w => by kernel_rfl) ?_
        exact QRun_done [0, 1, 5, 14] (by kernel_rfl) (by kernel_rfl)
      refine Run_cond (b := decide (i1 < (a_.length : Int))) (by kernel_rfl) (fun hb2 => ?_) (fun hb2 => ?_)
      · obtain ⟨my1, y1, rfl, hB1, hgoy1, houty1⟩ := M.for_go gx1 hb2
        have hlty1 := of_decide_eq_true hb2
        refine Run_skip ?_
        refine Run_seq ?_
        refine Run_block ?_
        refine Run_seq ?_
        obtain ⟨x2, hx1, hB1⟩ := M.bind_some hB1
        obtain ⟨hx1l, hx1u, hx1⟩ := M.idx_some hx1
        obtain ⟨x3, hx2, hB1⟩ := M.bind_some hB1
        obtain ⟨hx2l, hx2u, hx2⟩ := M.idx_some hx2
        refine Run_draw 9 mixed (by kernel_rfl) (by kernel_rfl) (L' := [(0, .slice aa_ a_.length ca_), (1, .slice ab b.length cb), (5, .int .i64 i1), (25, .bool (x2 != x3))]) ?_ ?_
        · refine QRun_b [.slice aa_ a_.length ca_, .int .i64 i1] 0 _ (by kernel_rfl) (fun w => by kernel_rfl) ?_
          refine QRun_y (.pointer (some (adr aa_ (i1.toNat * 1)))) (by kernel_rfl) (Y_idx (t := 22) (e := 2) (sz := 1) (a := aa_) (n := a_.length) (cap := ca_) (kk := .i64) (i := i1) (by kernel_rfl) Try.underlying22 (by kernel_rfl) (ra_.cell hx1).1 hx1l hx1u) ?_
          refine QRun_y (.int .i64 x2) (by kernel_rfl) (Y_load1 (t := 2) (p := adr aa_ (i1.toNat * 1)) (v := .int .i64 x2) (by kernel_rfl) (fun w => by kernel_rfl) (cd2_cell ra_ hx1)) ?_
          refine QRun_b [.slice ab b.length cb, .int .i64 i1] 4 _ (by kernel_rfl) (fun w => by kernel_rfl) ?_
          refine QRun_y (.pointer (some (adr ab (i1.toNat * 1)))) (by kernel_rfl) (Y_idx (t := 22) (e := 2) (sz := 1) (a := ab) (n := b.length) (cap := cb) (kk := .i64) (i := i1) (by kernel_rfl) Try.underlying22 (by kernel_rfl) (rb.cell hx2).1 hx2l hx2u) ?_
          refine QRun_y (.int .i64 x3) (by kernel_rfl) (Y_load1 (t := 2) (p := adr ab (i1.toNat * 1)) (v := .int .i64 x3) (by kernel_rfl) (fun w => by kernel_rfl) (cd2_cell rb hx2)) ?_
          refine QRun_b [.bool (x2 != x3)] 8 _ (by kernel_rfl) (fun w => by kernel_rfl) ?_
          exact QRun_done [0, 1, 5, 25] (by kernel_rfl) (by kernel_rfl)
        refine Run_cond (b := x2 != x3) (by kernel_rfl) (fun hb3 => ?_) (fun hb3 => ?_)
        · have hB1 := (M.ite_some hB1).1 hb3
          refine Run_seq ?_
          refine Run_reg 1 (by kernel_rfl) (L' := [(4, .bool false)]) ?_ ?_
          · refine QRun_b [.bool false] 0 _ (by kernel_rfl) (fun w => by kernel_rfl) ?_
            exact QRun_done [4] (by kernel_rfl) (by kernel_rfl)
          have hB1 := M.ret_some hB1
          have gx1 := houty1 _ hB1.symm
          have hF := M.cont_inr' hF gx1
          have hF := M.ret_some hF
          subst hF
          exact Run_ret1 rfl (ResV_tmp (v := .bool false) (by kernel_rfl)) ⟨rfl, rfl⟩
        · have hB1 := (M.ite_some hB1).2 hb3
          refine Run_skip ?_
          refine Run_blk ?_
          refine Run_reg 3 (by kernel_rfl) (L' := [(0, .slice aa_ a_.length ca_), (1, .slice ab b.length cb), (5, .int .i64 (i1 + 1))]) ?_ ?_
          · refine QRun_b [.int .i64 i1] 0 _ (by kernel_rfl) (fun w => by kernel_rfl) ?_
            refine QRun_y (.int .i64 (i1 + 1)) (by kernel_rfl) (Y_eq (v := .int .i64 (w64 (i1 + 1))) (Y_pure (fun w => by kernel_rfl)) (by rw [w64_eq _ (by omega)])) ?_
            refine QRun_b [.int .i64 (i1 + 1)] 2 _ (by kernel_rfl) (fun w => by kernel_rfl) ?_
            exact QRun_done [0, 1, 5] (by kernel_rfl) (by kernel_rfl)
          have hB1 := M.ret_some hB1
          have gx1 := hgoy1 _ hB1.symm
          exact Run_again [0, 1, 5] (by kernel_rfl) my1 (Nat.lt_succ_self _) ⟨i1 + 1, (), by omega, gx1, rfl, rfl⟩
      · have gx1 := M.for_end gx1 hb2
        subst gx1
        refine Run_exit (k' := _) rfl ?_
        exact Run_fall [] (by kernel_rfl) ⟨(), rfl, rfl, rfl⟩

set_option maxRecDepth 100000 in
set_option maxHeartbeats 4000000 in
theorem w_laws_heldInt64S (h : Heap) (a_ : List Int) {Sa_ : Bs} (aa_ : Option Addr) (ca_ : Nat) (ra_ : Rd cd2 h Sa_ aa_ ca_ a_) (k_ : Int) (n : Nat) (r : Int) (hF : laws_heldInt64S a_ k_ n = some r) :
    Fn Try.prog 26 #[.slice aa_ a_.length ca_, .int .i64 k_] h fun v h' => v = .int .i64 r ∧ h' = h := by
  unfold laws_heldInt64S at hF
  refine Fn_enter (args := [.slice aa_ a_.length ca_, .int .i64 k_]) Try.func26 rfl (by kernel_rfl) (by kernel_rfl) (fun w0 _ => ?_)
  refine Run_seq ?_
  refine Run_reg 1 (by kernel_rfl) (L' := [(0, .slice aa_ a_.length ca_), (1, .int .i64 k_)]) ?_ ?_
  · refine QRun_b [.int .i64 0] 0 _ (by kernel_rfl) (fun w => by kernel_rfl) ?_
    exact QRun_done [0, 1] (by kernel_rfl) (by kernel_rfl)
  refine Run_seq ?_
  refine Run_seq ?_
  refine Run_reg 1 (by kernel_rfl) (L' := [(0, .slice aa_ a_.length ca_), (1, .int .i64 k_), (5, .int .i64 0)]) ?_ ?_
  · refine QRun_b [.int .i64 0] 0 _ (by kernel_rfl) (fun w => by kernel_rfl) ?_
    exact QRun_done [0, 1, 5] (by kernel_rfl) (by kernel_rfl)
  obtain ⟨x1, gx1, hF⟩ := M.bind_some hF
  obtain ⟨hloy1, hhiy1, gx1⟩ := M.for_start gx1
  refine Run_join (fun L' h' => ∃ (s2 : Int), x1 = .inl s2 ∧ L' = [(1, .int .i64 s2)] ∧ h = h') ?_ ?_
  · rintro _ _ ⟨s2, es2, rfl, rfl⟩
    have hF := M.cont_inl' hF es2
    refine Run_seq ?_
    refine Run_reg 2 (by kernel_rfl) (L' := [(4, .int .i64 s2)]) ?_ ?_
    · refine QRun_b [.int .i64 s2, .int .i64 s2] 0 _ (by kernel_rfl) (fun w => by kernel_rfl) ?_
      exact QRun_done [4] (by kernel_rfl) (by kernel_rfl)
    have hF := M.ret_some hF
    subst hF
    exact Run_ret1 rfl (ResV_tmp (v := .int .i64 s2) (by kernel_rfl)) ⟨rfl, rfl⟩
  · refine Run_block ?_
    refine Run_keep [0, 1, 5] (L' := [(0, .slice aa_ a_.length ca_), (1, .int .i64 k_), (5, .int .i64 0)]) (by kernel_rfl) ?_
    refine Run_loop (fun m L' h' => ∃ (i1 : Int) (s1 : Int), 0 ≤ i1 ∧ M.forN (a_.length : Int) _ _ n m i1 s1 = some x1 ∧ L' = [(0, .slice aa_ a_.length ca_), (1, .int .i64 s1), (5, .int .i64 i1)] ∧ h = h') ((a_.length : Int) - 0).toNat ⟨0, k_, Int.le_refl _, gx1, rfl, rfl⟩ ?_
    rintro my1 _ _ ⟨i1, s1, hloy1', gx1, rfl, rfl⟩
    refine Run_seq ?_
    refine Run_seq ?_
    refine Run_reg 4 (by kernel_rfl) (L' := [(0, .slice aa_ a_.length ca_), (1, .int .i64 s1), (5, .int .i64 i1), (9, .bool (decide (i1 < (a_.length : Int))))]) ?_ ?_
    · refine QRun_b [.int .i64 i1, .slice aa_ a_.length ca_, .int .i64 (a_.length : Int), .bool (decide (i1 < (a_.length : Int)))] 0 _ (by kernel_rfl) (fun w => by kernel_rfl) ?_
      exact QRun_done [0, 1, 5, 9] (by kernel_rfl) (by kernel_rfl)
    refine Run_cond (b := decide (i1 < (a_.length : Int))) (by kernel_rfl) (fun hb1 => ?_) (fun hb1 => ?_)
    · obtain ⟨my1, y1, rfl, hB1, hgoy1, houty1⟩ := M.for_go gx1 hb1
      have hlty1 := of_decide_eq_true hb1
      refine Run_skip ?_
      refine Run_seq ?_
      refine Run_block ?_
      refine Run_seq ?_
      refine Run_seq ?_
      obtain ⟨x2, hx1, hB1⟩ := M.bind_some hB1
      obtain ⟨hx1l, hx1u, hx1⟩ := M.idx_some hx1
      refine Run_reg 6 (by kernel_rfl) (L' := [(0, .slice aa_ a_.length ca_), (1, .int .i64 s1), (5, .int .i64 i1), (17, .bool (x2 != s1))]) ?_ ?_
      · refine QRun_b [.slice aa_ a_.length ca_, .int .i64 i1] 0 _ (by kernel_rfl) (fun w => by kernel_rfl) ?_
        refine QRun_y (.pointer (some (adr aa_ (i1.toNat * 1)))) (by kernel_rfl) (Y_idx (t := 22) (e := 2) (sz := 1) (a := aa_) (n := a_.length) (cap := ca_) (kk := .i64) (i := i1) (by kernel_rfl) Try.underlying22 (by kernel_rfl) (ra_.cell hx1).1 hx1l hx1u) ?_
        refine QRun_y (.int .i64 x2) (by kernel_rfl) (Y_load1 (t := 2) (p := adr aa_ (i1.toNat * 1)) (v := .int .i64 x2) (by kernel_rfl) (fun w => by kernel_rfl) (cd2_cell ra_ hx1)) ?_
        refine QRun_b [.int .i64 s1, .bool (x2 != s1)] 4 _ (by kernel_rfl) (fun w => by kernel_rfl) ?_
        exact QRun_done [0, 1, 5, 17] (by kernel_rfl) (by kernel_rfl)
      refine Run_cond (b := x2 != s1) (by kernel_rfl) (fun hb2 => ?_) (fun hb2 => ?_)
      · have hB1 := (M.ite_some hB1).1 hb2
        refine Run_seq ?_
        refine Run_reg 1 (by kernel_rfl) (L' := [(4, .int .i64 (-1))]) ?_ ?_
        · refine QRun_b [.int .i64 (-1)] 0 _ (by kernel_rfl) (fun w => by kernel_rfl) ?_
          exact QRun_done [4] (by kernel_rfl) (by kernel_rfl)
        have hB1 := M.ret_some hB1
        have gx1 := houty1 _ hB1.symm
        have hF := M.cont_inr' hF gx1
        have hF := M.ret_some hF
        subst hF
        exact Run_ret1 rfl (ResV_tmp (v := .int .i64 (-1)) (by kernel_rfl)) ⟨rfl, rfl⟩
      · have hB1 := (M.ite_some hB1).2 hb2
        refine Run_skip ?_
        refine Run_reg 3 (by kernel_rfl) (L' := [(0, .slice aa_ a_.length ca_), (1, .int .i64 (w64 (s1 + 1))), (5, .int .i64 i1)]) ?_ ?_
        · refine QRun_b [.int .i64 s1, .int .i64 (w64 (s1 + 1)), .int .i64 (w64 (s1 + 1))] 0 _ (by kernel_rfl) (fun w => by kernel_rfl) ?_
          exact QRun_done [0, 1, 5] (by kernel_rfl) (by kernel_rfl)
        refine Run_blk ?_
        refine Run_reg 3 (by kernel_rfl) (L' := [(0, .slice aa_ a_.length ca_), (1, .int .i64 (w64 (s1 + 1))), (5, .int .i64 (i1 + 1))]) ?_ ?_
        · refine QRun_b [.int .i64 i1] 0 _ (by kernel_rfl) (fun w => by kernel_rfl) ?_
          refine QRun_y (.int .i64 (i1 + 1)) (by kernel_rfl) (Y_eq (v := .int .i64 (w64 (i1 + 1))) (Y_pure (fun w => by kernel_rfl)) (by rw [w64_eq _ (by omega)])) ?_
          refine QRun_b [.int .i64 (i1 + 1)] 2 _ (by kernel_rfl) (fun w => by kernel_rfl) ?_
          exact QRun_done [0, 1, 5] (by kernel_rfl) (by kernel_rfl)
        have hB1 := M.ret_some hB1
        have gx1 := hgoy1 _ hB1.symm
        exact Run_again [0, 1, 5] (by kernel_rfl) my1 (Nat.lt_succ_self _) ⟨i1 + 1, (w64 (s1 + 1)), by omega, gx1, rfl, rfl⟩
    · have gx1 := M.for_end gx1 hb1
      subst gx1
      refine Run_exit (k' := _) rfl ?_
      exact Run_fall [1] (by kernel_rfl) ⟨s1, rfl, rfl, rfl⟩

set_option maxRecDepth 100000 in
set_option maxHeartbeats 4000000 in
theorem w_laws_markInt64S (h hE : Heap) (it : Item) (a_ : List Int) (aa_ : Option Addr) (ca_ : Nat) (k_ : Int) (HM : Hold h hE [own cd2 aa_ a_.length ca_ a_, it]) (n : Nat) (r : Int × (List Int)) (hF : laws_markInt64S a_ k_ n = some r) :
    Fn Try.prog 25 #[.slice aa_ a_.length ca_, .int .i64 k_] hE fun v h' => v = .int .i64 r.1 ∧ Hold h h' [own cd2 aa_ a_.length ca_ r.2, it] := by
  unfold laws_markInt64S at hF
  refine Fn_enter (args := [.slice aa_ a_.length ca_, .int .i64 k_]) Try.func25 rfl (by kernel_rfl) (by kernel_rfl) (fun w0 _ => ?_)
  refine Run_seq ?_
  refine Run_reg 1 (by kernel_rfl) (L' := [(0, .slice aa_ a_.length ca_), (1, .int .i64 k_)]) ?_ ?_
  · refine QRun_b [.int .i64 0] 0 _ (by kernel_rfl) (fun w => by kernel_rfl) ?_
    exact QRun_done [0, 1] (by kernel_rfl) (by kernel_rfl)
  refine Run_seq ?_
  refine Run_seq ?_
  refine Run_reg 1 (by kernel_rfl) (L' := [(0, .slice aa_ a_.length ca_), (1, .int .i64 k_), (5, .int .i64 0)]) ?_ ?_
  · refine QRun_b [.int .i64 0] 0 _ (by kernel_rfl) (fun w => by kernel_rfl) ?_
    exact QRun_done [0, 1, 5] (by kernel_rfl) (by kernel_rfl)
  obtain ⟨x1, gx1, hF⟩ := M.bind_some hF
  obtain ⟨hloy1, hhiy1, gx1⟩ := M.for_start gx1
  refine Run_join (fun L' h' => L' = [(1, .int .i64 x1.2)] ∧ Hold h h' [own cd2 aa_ a_.length ca_ x1.1, it]) ?_ ?_
  · rintro _ h2 ⟨rfl, H2⟩
    refine Run_seq ?_
    refine Run_reg 2 (by kernel_rfl) (L' := [(4, .int .i64 x1.2)]) ?_ ?_
    · refine QRun_b [.int .i64 x1.2, .int .i64 x1.2] 0 _ (by kernel_rfl) (fun w => by kernel_rfl) ?_
      exact QRun_done [4] (by kernel_rfl) (by kernel_rfl)
    have hF := M.ret_some hF
    subst hF
    exact Run_ret1 rfl (ResV_tmp (v := .int .i64 x1.2) (by kernel_rfl)) ⟨rfl, H2⟩
  · refine Run_block ?_
    refine Run_keep [0, 1, 5] (L' := [(0, .slice aa_ a_.length ca_), (1, .int .i64 k_), (5, .int .i64 0)]) (by kernel_rfl) ?_
    refine Run_loop (fun m L' h' => ∃ (i1 : Int) (s1 : (List Int) × Int), 0 ≤ i1 ∧ M.forN (a_.length : Int) _ _ n m i1 s1 = some x1 ∧ L' = [(0, .slice aa_ a_.length ca_), (1, .int .i64 s1.2), (5, .int .i64 i1)] ∧ Hold h h' [own cd2 aa_ a_.length ca_ s1.1, it]) ((a_.length : Int) - 0).toNat ⟨0, (a_, k_), Int.le_refl _, gx1, rfl, HM⟩ ?_
    rintro my1 _ h1 ⟨i1, s1, hloy1', gx1, rfl, H1⟩
    refine Run_seq ?_
    refine Run_seq ?_
    refine Run_reg 4 (by kernel_rfl) (L' := [(0, .slice aa_ a_.length ca_), (1, .int .i64 s1.2), (5, .int .i64 i1), (9, .bool (decide (i1 < (a_.length : Int))))]) ?_ ?_
    · refine QRun_b [.int .i64 i1, .slice aa_ a_.length ca_, .int .i64 (a_.length : Int), .bool (decide (i1 < (a_.length : Int)))] 0 _ (by kernel_rfl) (fun w => by kernel_rfl) ?_
      exact QRun_done [0, 1, 5, 9] (by kernel_rfl) (by kernel_rfl)
    refine Run_cond (b := decide (i1 < (a_.length : Int))) (by kernel_rfl) (fun hb1 => ?_) (fun hb1 => ?_)
    · obtain ⟨my1, y1, rfl, hB1, hgoy1, houty1⟩ := M.for_go gx1 hb1
      have hlty1 := of_decide_eq_true hb1
      refine Run_skip ?_
      refine Run_seq ?_
      refine Run_block ?_
      refine Run_seq ?_
      refine Run_ops ?_
      obtain ⟨x2, hx1, hB1⟩ := M.bind_some hB1
      obtain ⟨hx1l, hx1u, hx1⟩ := M.idx_some hx1
      refine Run_b [.slice aa_ a_.length ca_, .int .i64 i1, .int .i64 s1.2] 0 _ (by kernel_rfl) (fun w => by kernel_rfl) ?_
      refine Run_y (.pointer (some (adr aa_ (i1.toNat * 1)))) (by kernel_rfl) (Y_idx (t := 22) (e := 2) (sz := 1) (a := aa_) (n := a_.length) (cap := ca_) (kk := .i64) (i := i1) (by kernel_rfl) Try.underlying22 (by kernel_rfl) ((H1.rd 0 rfl).cell hx1).1 hx1l (by rw [← (H1.len 0 rfl)]; exact hx1u)) ?_
      obtain ⟨l1, hu1, hB1⟩ := M.bind_some hB1
      have hu1 := M.upd_some hu1
      refine Run_E (by kernel_rfl) ?_
      refine E_put (C := cd2) (t := 2) (sz := 1) (j := i1) (x := s1.2) (v := .int .i64 s1.2) H1 cd2_flat (by kernel_rfl) rfl (cd2_own _) (by kernel_rfl) hu1 (fun h3 H3 => ?_)
      refine Run_nil (by kernel_rfl) ?_
      refine Run_keep [0, 1, 5] (L' := [(0, .slice aa_ a_.length ca_), (1, .int .i64 s1.2), (5, .int .i64 i1)]) (by kernel_rfl) ?_
      refine Run_reg 3 (by kernel_rfl) (L' := [(0, .slice aa_ a_.length ca_), (1, .int .i64 (w64 (s1.2 + 1))), (5, .int .i64 i1)]) ?_ ?_
      · refine QRun_b [.int .i64 s1.2, .int .i64 (w64 (s1.2 + 1)), .int .i64 (w64 (s1.2 + 1))] 0 _ (by kernel_rfl) (fun w => by kernel_rfl) ?_
        exact QRun_done [0, 1, 5] (by kernel_rfl) (by kernel_rfl)
      refine Run_blk ?_
      refine Run_reg 3 (by kernel_rfl) (L' := [(0, .slice aa_ a_.length ca_), (1, .int .i64 (w64 (s1.2 + 1))), (5, .int .i64 (i1 + 1))]) ?_ ?_
      · refine QRun_b [.int .i64 i1] 0 _ (by kernel_rfl) (fun w => by kernel_rfl) ?_
        refine QRun_y (.int .i64 (i1 + 1)) (by kernel_rfl) (Y_eq (v := .int .i64 (w64 (i1 + 1))) (Y_pure (fun w => by kernel_rfl)) (by rw [w64_eq _ (by omega)])) ?_
        refine QRun_b [.int .i64 (i1 + 1)] 2 _ (by kernel_rfl) (fun w => by kernel_rfl) ?_
        exact QRun_done [0, 1, 5] (by kernel_rfl) (by kernel_rfl)
      have hB1 := M.ret_some hB1
      have gx1 := hgoy1 _ hB1.symm
      exact Run_again [0, 1, 5] (by kernel_rfl) my1 (Nat.lt_succ_self _) ⟨i1 + 1, (l1, (w64 (s1.2 + 1))), by omega, gx1, rfl, H3⟩
    · have gx1 := M.for_end gx1 hb1
      subst gx1
      refine Run_exit (k' := _) rfl ?_
      exact Run_fall [1] (by kernel_rfl) ⟨rfl, H1⟩

set_option maxRecDepth 100000 in
set_option maxHeartbeats 4000000 in
theorem w_laws_FnExactMultiplyPolynomials (h : Heap) (aC : List Int) (aaC : Option Addr) (caC : Nat) (raC : Rd cd2 h (Lt h) aaC caC aC) (aD : List Int) (aaD : Option Addr) (caD : Nat) (raD : Rd cd2 h (Lt h) aaD caD aD) (n : Nat) (r : Bool) (hF : laws_FnExactMultiplyPolynomials aC aD n = some r) :
    Fn Try.prog 10 #[.slice aaC aC.length caC, .slice aaD aD.length caD] h fun v h' => v = .bool r ∧ Hold h h' [] := by
  unfold laws_FnExactMultiplyPolynomials at hF
  refine Fn_enter (args := [.slice aaC aC.length caC, .slice aaD aD.length caD]) Try.func10 rfl (by kernel_rfl) (by kernel_rfl) (fun w0 _ => ?_)
  have H0 := Hold.init h
  refine Run_seq ?_
  refine Run_reg 1 (by kernel_rfl) (L' := [(0, .slice aaC aC.length caC), (1, .slice aaD aD.length caD)]) ?_ ?_
  · refine QRun_b [.bool false] 0 _ (by kernel_rfl) (fun w => by kernel_rfl) ?_
    exact QRun_done [0, 1] (by kernel_rfl) (by kernel_rfl)
  refine Run_seq ?_
  refine Run_seq ?_
  refine Run_reg 3 (by kernel_rfl) (L' := [(0, .slice aaC aC.length caC), (1, .slice aaD aD.length caD), (18, .bool (decide (1048576 < (aC.length : Int))))]) ?_ ?_
  · refine QRun_b [.slice aaC aC.length caC, .int .i64 (aC.length : Int), .bool (decide (1048576 < (aC.length : Int)))] 0 _ (by kernel_rfl) (fun w => by kernel_rfl) ?_
    exact QRun_done [0, 1, 18] (by kernel_rfl) (by kernel_rfl)
  refine Run_cond (b := decide (1048576 < (aC.length : Int))) (by kernel_rfl) (fun hb1 => ?_) (fun hb1 => ?_)
  · have hF := (M.ite_some hF).1 hb1
    refine Run_seq ?_
    refine Run_reg 1 (by kernel_rfl) (L' := [(4, .bool true)]) ?_ ?_
    · refine QRun_b [.bool true] 0 _ (by kernel_rfl) (fun w => by kernel_rfl) ?_
      exact QRun_done [4] (by kernel_rfl) (by kernel_rfl)
    have hF := M.ret_some hF
    subst hF
    exact Run_ret1 rfl (ResV_tmp (v := .bool true) (by kernel_rfl)) ⟨rfl, H0⟩
  · have hF := (M.ite_some hF).2 hb1
    refine Run_skip ?_
    refine Run_seq ?_
    refine Run_seq ?_
    refine Run_reg 3 (by kernel_rfl) (L' := [(0, .slice aaC aC.length caC), (1, .slice aaD aD.length caD), (21, .bool (decide (1048576 < (aD.length : Int))))]) ?_ ?_
    · refine QRun_b [.slice aaD aD.length caD, .int .i64 (aD.length : Int), .bool (decide (1048576 < (aD.length : Int)))] 0 _ (by kernel_rfl) (fun w => by kernel_rfl) ?_
      exact QRun_done [0, 1, 21] (by kernel_rfl) (by kernel_rfl)
    refine Run_cond (b := decide (1048576 < (aD.length : Int))) (by kernel_rfl) (fun hb2 => ?_) (fun hb2 => ?_)
    · have hF := (M.ite_some hF).1 hb2
      refine Run_seq ?_
      refine Run_reg 1 (by kernel_rfl) (L' := [(4, .bool true)]) ?_ ?_
      · refine QRun_b [.bool true] 0 _ (by kernel_rfl) (fun w => by kernel_rfl) ?_
        exact QRun_done [4] (by kernel_rfl) (by kernel_rfl)
      have hF := M.ret_some hF
      subst hF
      exact Run_ret1 rfl (ResV_tmp (v := .bool true) (by kernel_rfl)) ⟨rfl, H0⟩
    · have hF := (M.ite_some hF).2 hb2
      refine Run_skip ?_
      refine Run_seq ?_
      refine Run_ops ?_
      refine Run_b [.slice aaC aC.length caC] 0 _ (by kernel_rfl) (fun w => by kernel_rfl) ?_
      obtain ⟨x1, hx1, hF⟩ := M.bind_some hF
      refine Run_E (by kernel_rfl) ?_
      refine E_call (f := 15) (args := #[.slice aaC aC.length caC]) (w_laws_toInt64S h aC aaC caC raC _ _ hx1) (by kernel_rfl) (fun v1 h1 hp1 => ?_)
      obtain ⟨a1, c1, rfl, H1⟩ := hp1
      have H2 : Hold h h1 [own cd2 a1 x1.length c1 x1] := H0.call H1 rfl
      refine Run_b [.slice aaD aD.length caD] 2 _ (by kernel_rfl) (fun w => by kernel_rfl) ?_
      obtain ⟨x2, hx2, hF⟩ := M.bind_some hF
      refine Run_E (by kernel_rfl) ?_
      refine E_call (f := 15) (args := #[.slice aaD aD.length caD]) (w_laws_toInt64S h1 aD aaD caD (raD.at H2.ext) _ _ hx2) (by kernel_rfl) (fun v2 h2 hp2 => ?_)
      obtain ⟨a2, c2, rfl, H3⟩ := hp2
      have H4 : Hold h h2 [own cd2 a2 x2.length c2 x2, own cd2 a1 x1.length c1 x1] := H2.call H3 rfl
      obtain ⟨x3, hx3, hF⟩ := M.bind_some hF
      refine Run_E (by kernel_rfl) ?_
      refine E_call (f := 38) (args := #[.slice a1 x1.length c1, .slice a2 x2.length c2]) (w_spec_MultiplyPolynomials h2 x1 a1 c1 (H4.rd 1 rfl) x2 a2 c2 (H4.rd 0 rfl) _ _ hx3) (by kernel_rfl) (fun v3 h3 hp3 => ?_)
      obtain ⟨a3, c3, rfl, H5⟩ := hp3
      have H6 : Hold h h3 [own cd2 a3 x3.1.length c3 x3.1, own cd2 a2 x2.length c2 x2, own cd2 a1 x1.length c1 x1] := H4.call H5 rfl
      refine Run_b [.tuple #[.slice a3 x3.1.length c3, .int .i64 x3.2], .slice a3 x3.1.length c3, .int .i64 x3.2, .slice a3 x3.1.length c3, .int .i64 x3.2] 5 _ (by kernel_rfl) (fun w => by kernel_rfl) ?_
      refine Run_nil (by kernel_rfl) ?_
      refine Run_keep [0, 1, 5, 6] (L' := [(0, .slice aaC aC.length caC), (1, .slice aaD aD.length caD), (5, .slice a3 x3.1.length c3), (6, .int .i64 x3.2)]) (by kernel_rfl) ?_
      refine Run_seq ?_
      refine Run_ops ?_
      refine Run_b [.slice aaC aC.length caC] 0 _ (by kernel_rfl) (fun w => by kernel_rfl) ?_
      obtain ⟨x4, hx4, hF⟩ := M.bind_some hF
      refine Run_E (by kernel_rfl) ?_
      refine E_call (f := 15) (args := #[.slice aaC aC.length caC]) (w_laws_toInt64S h3 aC aaC caC (raC.at H6.ext) _ _ hx4) (by kernel_rfl) (fun v4 h4 hp4 => ?_)
      obtain ⟨a4, c4, rfl, H7⟩ := hp4
      have H8 : Hold h h4 [own cd2 a4 x4.length c4 x4, own cd2 a3 x3.1.length c3 x3.1, own cd2 a2 x2.length c2 x2, own cd2 a1 x1.length c1 x1] := H6.call H7 rfl
      refine Run_b [.slice a4 x4.length c4] 2 _ (by kernel_rfl) (fun w => by kernel_rfl) ?_
      refine Run_nil (by kernel_rfl) ?_
      refine Run_keep [0, 1, 5, 6, 7] (L' := [(0, .slice aaC aC.length caC), (1, .slice aaD aD.length caD), (5, .slice a3 x3.1.length c3), (6, .int .i64 x3.2), (7, .slice a4 x4.length c4)]) (by kernel_rfl) ?_
      refine Run_seq ?_
      refine Run_ops ?_
      refine Run_b [.slice aaD aD.length caD] 0 _ (by kernel_rfl) (fun w => by kernel_rfl) ?_
      obtain ⟨x5, hx5, hF⟩ := M.bind_some hF
      refine Run_E (by kernel_rfl) ?_
      refine E_call (f := 15) (args := #[.slice aaD aD.length caD]) (w_laws_toInt64S h4 aD aaD caD (raD.at H8.ext) _ _ hx5) (by kernel_rfl) (fun v5 h5 hp5 => ?_)
      obtain ⟨a5, c5, rfl, H9⟩ := hp5
      have H10 : Hold h h5 [own cd2 a5 x5.length c5 x5, own cd2 a4 x4.length c4 x4, own cd2 a3 x3.1.length c3 x3.1, own cd2 a2 x2.length c2 x2, own cd2 a1 x1.length c1 x1] := H8.call H9 rfl
      refine Run_b [.slice a5 x5.length c5] 2 _ (by kernel_rfl) (fun w => by kernel_rfl) ?_
      refine Run_nil (by kernel_rfl) ?_
      refine Run_keep [0, 1, 5, 6, 7, 8] (L' := [(0, .slice aaC aC.length caC), (1, .slice aaD aD.length caD), (5, .slice a3 x3.1.length c3), (6, .int .i64 x3.2), (7, .slice a4 x4.length c4), (8, .slice a5 x5.length c5)]) (by kernel_rfl) ?_
      refine Run_seq ?_
      refine Run_ops ?_
      refine Run_b [.slice a4 x4.length c4, .slice a5 x5.length c5] 0 _ (by kernel_rfl) (fun w => by kernel_rfl) ?_
      obtain ⟨x6, hx6, hF⟩ := M.bind_some hF
      refine Run_E (by kernel_rfl) ?_
      refine E_call (f := 39) (args := #[.slice a4 x4.length c4, .slice a5 x5.length c5]) (w_impl_MultiplyPolynomials h5 x4 a4 c4 (H10.rd 1 rfl) x5 a5 c5 (H10.rd 0 rfl) _ _ hx6) (by kernel_rfl) (fun v6 h6 hp6 => ?_)
      obtain ⟨a6, c6, rfl, H11⟩ := hp6
      have H12 : Hold h h6 [own cd2 a6 x6.1.length c6 x6.1, own cd2 a5 x5.length c5 x5, own cd2 a4 x4.length c4 x4, own cd2 a3 x3.1.length c3 x3.1, own cd2 a2 x2.length c2 x2, own cd2 a1 x1.length c1 x1] := H10.call H11 rfl
      refine Run_b [.tuple #[.slice a6 x6.1.length c6, .int .i64 x6.2], .slice a6 x6.1.length c6, .int .i64 x6.2, .slice a6 x6.1.length c6, .int .i64 x6.2] 3 _ (by kernel_rfl) (fun w => by kernel_rfl) ?_
      refine Run_nil (by kernel_rfl) ?_
      refine Run_keep [0, 1, 5, 6, 7, 8, 9, 10] (L' := [(0, .slice aaC aC.length caC), (1, .slice aaD aD.length caD), (5, .slice a3 x3.1.length c3), (6, .int .i64 x3.2), (7, .slice a4 x4.length c4), (8, .slice a5 x5.length c5), (9, .slice a6 x6.1.length c6), (10, .int .i64 x6.2)]) (by kernel_rfl) ?_
      refine Run_seq ?_
      refine Run_seq ?_
      obtain ⟨x7, hx7, hF⟩ := M.bind_some hF
      refine Run_reg 9 (by kernel_rfl) (L' := [(0, .slice aaC aC.length caC), (1, .slice aaD aD.length caD), (5, .slice a3 x3.1.length c3), (6, .int .i64 x3.2), (7, .slice a4 x4.length c4), (8, .slice a5 x5.length c5), (9, .slice a6 x6.1.length c6), (10, .int .i64 x6.2), (48, .bool ((!x7) || (x6.2 != x3.2)))]) ?_ ?_
      · refine QRun_b [.slice a6 x6.1.length c6, .slice a3 x3.1.length c3] 0 _ (by kernel_rfl) (fun w => by kernel_rfl) ?_
        refine QRun_y (.bool x7) (by kernel_rfl) (Y_callq (f := 17) (args := #[.slice a6 x6.1.length c6, .slice a3 x3.1.length c3]) (v := .bool x7) (by kernel_rfl) (w_laws_eqInt64S h6 x6.1 a6 c6 (H12.rd 0 rfl) x3.1 a3 c3 (H12.rd 3 rfl) _ _ hx7)) ?_
        refine QRun_b [.bool (!x7)] 3 _ (by kernel_rfl) (fun w => by kernel_rfl) ?_
        refine QRun_seq 9 [(0, .slice aaC aC.length caC), (1, .slice aaD aD.length caD), (5, .slice a3 x3.1.length c3), (6, .int .i64 x3.2), (7, .slice a4 x4.length c4), (8, .slice a5 x5.length c5), (9, .slice a6 x6.1.length c6), (10, .int .i64 x6.2), (48, .bool ((!x7) || (x6.2 != x3.2)))] ?_ ?_
        · rcases Bool.eq_false_or_eq_true (!x7) with hb3 | hb3
          · refine QRun_bool (!x7) true (by kernel_rfl) (fun w => by kernel_rfl) hb3 ?_
            refine QRun_n (by kernel_rfl) ?_
            refine QRun_n (by kernel_rfl) ?_
            refine QRun_n (by kernel_rfl) ?_
            refine QRun_bool true ((!x7) || (x6.2 != x3.2)) (by kernel_rfl) (fun w => by kernel_rfl) (by rw [hb3]; rfl) ?_
            exact QRun_done [0, 1, 5, 6, 7, 8, 9, 10, 48] (by kernel_rfl) (by kernel_rfl)
          · refine QRun_bool (!x7) false (by kernel_rfl) (fun w => by kernel_rfl) hb3 ?_
            refine QRun_b [.int .i64 x6.2, .int .i64 x3.2, .bool (x6.2 != x3.2)] 5 _ (by kernel_rfl) (fun w => by kernel_rfl) ?_
            refine QRun_bool (x6.2 != x3.2) ((!x7) || (x6.2 != x3.2)) (by kernel_rfl) (fun w => by kernel_rfl) (by rw [hb3]; rfl) ?_
            exact QRun_done [0, 1, 5, 6, 7, 8, 9, 10, 48] (by kernel_rfl) (by kernel_rfl)
        exact QRun_done [0, 1, 5, 6, 7, 8, 9, 10, 48] (by kernel_rfl) (by kernel_rfl)
      refine Run_cond (b := (!x7) || (x6.2 != x3.2)) (by kernel_rfl) (fun hb4 => ?_) (fun hb4 => ?_)
      · have hF := (M.ite_some hF).1 hb4
        refine Run_seq ?_
        refine Run_reg 1 (by kernel_rfl) (L' := [(4, .bool false)]) ?_ ?_
        · refine QRun_b [.bool false] 0 _ (by kernel_rfl) (fun w => by kernel_rfl) ?_
          exact QRun_done [4] (by kernel_rfl) (by kernel_rfl)
        have hF := M.ret_some hF
        subst hF
        have H13 : Hold h h6 [] := H12.pick [] (by kernel_rfl)
        exact Run_ret1 rfl (ResV_tmp (v := .bool false) (by kernel_rfl)) ⟨rfl, H13⟩
      · have hF := (M.ite_some hF).2 hb4
        refine Run_skip ?_
        refine Run_seq ?_
        refine Run_seq ?_
        refine Run_ops ?_
        refine Run_b [.slice a4 x4.length c4, .slice aaC aC.length caC] 0 _ (by kernel_rfl) (fun w => by kernel_rfl) ?_
        obtain ⟨x9, hx8, hF⟩ := M.bind_some hF
        refine Run_E (by kernel_rfl) ?_
        refine E_call (f := 15) (args := #[.slice aaC aC.length caC]) (w_laws_toInt64S h6 aC aaC caC (raC.at H12.ext) _ _ hx8) (by kernel_rfl) (fun v7 h7 hp7 => ?_)
        obtain ⟨a7, c7, rfl, H14⟩ := hp7
        have H15 : Hold h h7 [own cd2 a7 x9.length c7 x9, own cd2 a6 x6.1.length c6 x6.1, own cd2 a5 x5.length c5 x5, own cd2 a4 x4.length c4 x4, own cd2 a3 x3.1.length c3 x3.1, own cd2 a2 x2.length c2 x2, own cd2 a1 x1.length c1 x1] := H12.call H14 rfl
        obtain ⟨x10, hx9, hF⟩ := M.bind_some hF
        refine Run_y (.bool x10) (by kernel_rfl) (Y_callq (f := 17) (args := #[.slice a4 x4.length c4, .slice a7 x9.length c7]) (v := .bool x10) (by kernel_rfl) (w_laws_eqInt64S h7 x4 a4 c4 (H15.rd 3 rfl) x9 a7 c7 (H15.rd 0 rfl) _ _ hx9)) ?_
        refine Run_b [.bool (!x10)] 4 _ (by kernel_rfl) (fun w => by kernel_rfl) ?_
        refine Run_nil (by kernel_rfl) ?_
        refine Run_keep [0, 1, 5, 6, 7, 8, 9, 10, 53] (L' := [(0, .slice aaC aC.length caC), (1, .slice aaD aD.length caD), (5, .slice a3 x3.1.length c3), (6, .int .i64 x3.2), (7, .slice a4 x4.length c4), (8, .slice a5 x5.length c5), (9, .slice a6 x6.1.length c6), (10, .int .i64 x6.2), (53, .bool (!x10))]) (by kernel_rfl) ?_
        refine Run_cond (b := !x10) (by kernel_rfl) (fun hb5 => ?_) (fun hb5 => ?_)
        · have hF := (M.ite_some hF).1 hb5
          refine Run_seq ?_
          refine Run_reg 1 (by kernel_rfl) (L' := [(4, .bool false)]) ?_ ?_
          · refine QRun_b [.bool false] 0 _ (by kernel_rfl) (fun w => by kernel_rfl) ?_
            exact QRun_done [4] (by kernel_rfl) (by kernel_rfl)
          have hF := M.ret_some hF
          subst hF
          have H16 : Hold h h7 [] := H15.pick [] (by kernel_rfl)
          exact Run_ret1 rfl (ResV_tmp (v := .bool false) (by kernel_rfl)) ⟨rfl, H16⟩
        · have hF := (M.ite_some hF).2 hb5
          refine Run_skip ?_
          refine Run_seq ?_
          refine Run_seq ?_
          refine Run_ops ?_
          refine Run_b [.slice a5 x5.length c5, .slice aaD aD.length caD] 0 _ (by kernel_rfl) (fun w => by kernel_rfl) ?_
          obtain ⟨x11, hx10, hF⟩ := M.bind_some hF
          refine Run_E (by kernel_rfl) ?_
          refine E_call (f := 15) (args := #[.slice aaD aD.length caD]) (w_laws_toInt64S h7 aD aaD caD (raD.at H15.ext) _ _ hx10) (by kernel_rfl) (fun v8 h8 hp8 => ?_)
          obtain ⟨a8, c8, rfl, H17⟩ := hp8
          have H18 : Hold h h8 [own cd2 a8 x11.length c8 x11, own cd2 a7 x9.length c7 x9, own cd2 a6 x6.1.length c6 x6.1, own cd2 a5 x5.length c5 x5, own cd2 a4 x4.length c4 x4, own cd2 a3 x3.1.length c3 x3.1, own cd2 a2 x2.length c2 x2, own cd2 a1 x1.length c1 x1] := H15.call H17 rfl
          obtain ⟨x12, hx11, hF⟩ := M.bind_some hF
          refine Run_y (.bool x12) (by kernel_rfl) (Y_callq (f := 17) (args := #[.slice a5 x5.length c5, .slice a8 x11.length c8]) (v := .bool x12) (by kernel_rfl) (w_laws_eqInt64S h8 x5 a5 c5 (H18.rd 3 rfl) x11 a8 c8 (H18.rd 0 rfl) _ _ hx11)) ?_
          refine Run_b [.bool (!x12)] 4 _ (by kernel_rfl) (fun w => by kernel_rfl) ?_
          refine Run_nil (by kernel_rfl) ?_
          refine Run_keep [0, 1, 5, 6, 7, 8, 9, 10, 58] (L' := [(0, .slice aaC aC.length caC), (1, .slice aaD aD.length caD), (5, .slice a3 x3.1.length c3), (6, .int .i64 x3.2), (7, .slice a4 x4.length c4), (8, .slice a5 x5.length c5), (9, .slice a6 x6.1.length c6), (10, .int .i64 x6.2), (58, .bool (!x12))]) (by kernel_rfl) ?_
          refine Run_cond (b := !x12) (by kernel_rfl) (fun hb6 => ?_) (fun hb6 => ?_)
          · have hF := (M.ite_some hF).1 hb6
            refine Run_seq ?_
            refine Run_reg 1 (by kernel_rfl) (L' := [(4, .bool false)]) ?_ ?_
            · refine QRun_b [.bool false] 0 _ (by kernel_rfl) (fun w => by kernel_rfl) ?_
              exact QRun_done [4] (by kernel_rfl) (by kernel_rfl)
            have hF := M.ret_some hF
            subst hF
            have H19 : Hold h h8 [] := H18.pick [] (by kernel_rfl)
            exact Run_ret1 rfl (ResV_tmp (v := .bool false) (by kernel_rfl)) ⟨rfl, H19⟩
          · have hF := (M.ite_some hF).2 hb6
            refine Run_skip ?_
            refine Run_seq ?_
            refine Run_reg 1 (by kernel_rfl) (L' := [(0, .slice aaC aC.length caC), (1, .slice aaD aD.length caD), (5, .slice a3 x3.1.length c3), (6, .int .i64 x3.2), (7, .slice a4 x4.length c4), (8, .slice a5 x5.length c5), (9, .slice a6 x6.1.length c6), (10, .int .i64 x6.2), (11, .int .i64 1)]) ?_ ?_
            · refine QRun_b [.int .i64 1] 0 _ (by kernel_rfl) (fun w => by kernel_rfl) ?_
              exact QRun_done [0, 1, 5, 6, 7, 8, 9, 10, 11] (by kernel_rfl) (by kernel_rfl)
            refine Run_seq ?_
            refine Run_ops ?_
            refine Run_b [.slice a4 x4.length c4, .int .i64 1] 0 _ (by kernel_rfl) (fun w => by kernel_rfl) ?_
            obtain ⟨x13, hx12, hF⟩ := M.bind_some hF
            have H20 : Hold h h8 [own cd2 a4 x4.length c4 x4, own cd2 a8 x11.length c8 x11, own cd2 a7 x9.length c7 x9, own cd2 a6 x6.1.length c6 x6.1, own cd2 a5 x5.length c5 x5, own cd2 a3 x3.1.length c3 x3.1, own cd2 a2 x2.length c2 x2, own cd2 a1 x1.length c1 x1] := H18.pick [4, 0, 1, 2, 3, 5, 6, 7] (by kernel_rfl)
            have H21 : Hold h h8 [own cd2 a4 x4.length c4 x4, bun [own cd2 a8 x11.length c8 x11, own cd2 a7 x9.length c7 x9, own cd2 a6 x6.1.length c6 x6.1, own cd2 a5 x5.length c5 x5, own cd2 a3 x3.1.length c3 x3.1, own cd2 a2 x2.length c2 x2, own cd2 a1 x1.length c1 x1]] := Hold.bundle (S := [own cd2 a4 x4.length c4 x4]) (R := [own cd2 a8 x11.length c8 x11, own cd2 a7 x9.length c7 x9, own cd2 a6 x6.1.length c6 x6.1, own cd2 a5 x5.length c5 x5, own cd2 a3 x3.1.length c3 x3.1, own cd2 a2 x2.length c2 x2, own cd2 a1 x1.length c1 x1]) H20
            refine Run_E (by kernel_rfl) ?_
            refine E_call (f := 25) (args := #[.slice a4 x4.length c4, .int .i64 1]) (w_laws_markInt64S h h8 _ x4 a4 c4 1 H21 _ _ hx12) (by kernel_rfl) (fun v9 h9 hp9 => ?_)
            obtain ⟨rfl, H22⟩ := hp9
            have H23 : Hold h h9 [own cd2 a4 x4.length c4 x13.2, own cd2 a8 x11.length c8 x11, own cd2 a7 x9.length c7 x9, own cd2 a6 x6.1.length c6 x6.1, own cd2 a5 x5.length c5 x5, own cd2 a3 x3.1.length c3 x3.1, own cd2 a2 x2.length c2 x2, own cd2 a1 x1.length c1 x1] := Hold.unbundle (S := [own cd2 a4 x4.length c4 x13.2]) (R := [own cd2 a8 x11.length c8 x11, own cd2 a7 x9.length c7 x9, own cd2 a6 x6.1.length c6 x6.1, own cd2 a5 x5.length c5 x5, own cd2 a3 x3.1.length c3 x3.1, own cd2 a2 x2.length c2 x2, own cd2 a1 x1.length c1 x1]) H22 (Hold.tailBase (S := [own cd2 a4 x4.length c4 x4]) (R := [own cd2 a8 x11.length c8 x11, own cd2 a7 x9.length c7 x9, own cd2 a6 x6.1.length c6 x6.1, own cd2 a5 x5.length c5 x5, own cd2 a3 x3.1.length c3 x3.1, own cd2 a2 x2.length c2 x2, own cd2 a1 x1.length c1 x1]) H20)
            refine Run_b [.int .i64 x13.1] 3 _ (by kernel_rfl) (fun w => by kernel_rfl) ?_
            refine Run_nil (by kernel_rfl) ?_
            refine Run_keep [0, 1, 5, 6, 8, 9, 10, 11] (L' := [(0, .slice aaC aC.length caC), (1, .slice aaD aD.length caD), (5, .slice a3 x3.1.length c3), (6, .int .i64 x3.2), (8, .slice a5 x5.length c5), (9, .slice a6 x6.1.length c6), (10, .int .i64 x6.2), (11, .int .i64 x13.1)]) (by kernel_rfl) ?_
            refine Run_seq ?_
            refine Run_ops ?_
            refine Run_b [.slice a5 x5.length c5, .int .i64 x13.1] 0 _ (by kernel_rfl) (fun w => by kernel_rfl) ?_
            obtain ⟨x14, hx13, hF⟩ := M.bind_some hF
            have H24 : Hold h h9 [own cd2 a5 x5.length c5 x5, own cd2 a4 x4.length c4 x13.2, own cd2 a8 x11.length c8 x11, own cd2 a7 x9.length c7 x9, own cd2 a6 x6.1.length c6 x6.1, own cd2 a3 x3.1.length c3 x3.1, own cd2 a2 x2.length c2 x2, own cd2 a1 x1.length c1 x1] := H23.pick [4, 0, 1, 2, 3, 5, 6, 7] (by kernel_rfl)
            have H25 : Hold h h9 [own cd2 a5 x5.length c5 x5, bun [own cd2 a4 x4.length c4 x13.2, own cd2 a8 x11.length c8 x11, own cd2 a7 x9.length c7 x9, own cd2 a6 x6.1.length c6 x6.1, own cd2 a3 x3.1.length c3 x3.1, own cd2 a2 x2.length c2 x2, own cd2 a1 x1.length c1 x1]] := Hold.bundle (S := [own cd2 a5 x5.length c5 x5]) (R := [own cd2 a4 x4.length c4 x13.2, own cd2 a8 x11.length c8 x11, own cd2 a7 x9.length c7 x9, own cd2 a6 x6.1.length c6 x6.1, own cd2 a3 x3.1.length c3 x3.1, own cd2 a2 x2.length c2 x2, own cd2 a1 x1.length c1 x1]) H24
            refine Run_E (by kernel_rfl) ?_
            refine E_call (f := 25) (args := #[.slice a5 x5.length c5, .int .i64 x13.1]) (w_laws_markInt64S h h9 _ x5 a5 c5 x13.1 H25 _ _ hx13) (by kernel_rfl) (fun v10 h10 hp10 => ?_)
            obtain ⟨rfl, H26⟩ := hp10
            have H27 : Hold h h10 [own cd2 a5 x5.length c5 x14.2, own cd2 a4 x4.length c4 x13.2, own cd2 a8 x11.length c8 x11, own cd2 a7 x9.length c7 x9, own cd2 a6 x6.1.length c6 x6.1, own cd2 a3 x3.1.length c3 x3.1, own cd2 a2 x2.length c2 x2, own cd2 a1 x1.length c1 x1] := Hold.unbundle (S := [own cd2 a5 x5.length c5 x14.2]) (R := [own cd2 a4 x4.length c4 x13.2, own cd2 a8 x11.length c8 x11, own cd2 a7 x9.length c7 x9, own cd2 a6 x6.1.length c6 x6.1, own cd2 a3 x3.1.length c3 x3.1, own cd2 a2 x2.length c2 x2, own cd2 a1 x1.length c1 x1]) H26 (Hold.tailBase (S := [own cd2 a5 x5.length c5 x5]) (R := [own cd2 a4 x4.length c4 x13.2, own cd2 a8 x11.length c8 x11, own cd2 a7 x9.length c7 x9, own cd2 a6 x6.1.length c6 x6.1, own cd2 a3 x3.1.length c3 x3.1, own cd2 a2 x2.length c2 x2, own cd2 a1 x1.length c1 x1]) H24)
            refine Run_b [.int .i64 x14.1] 3 _ (by kernel_rfl) (fun w => by kernel_rfl) ?_
            refine Run_nil (by kernel_rfl) ?_
            refine Run_keep [0, 1, 5, 6, 9, 10, 11] (L' := [(0, .slice aaC aC.length caC), (1, .slice aaD aD.length caD), (5, .slice a3 x3.1.length c3), (6, .int .i64 x3.2), (9, .slice a6 x6.1.length c6), (10, .int .i64 x6.2), (11, .int .i64 x14.1)]) (by kernel_rfl) ?_
            refine Run_seq ?_
            refine Run_seq ?_
            obtain ⟨x15, gx15, hF⟩ := M.bind_some hF
            refine Run_reg 13 (by kernel_rfl) (L' := [(0, .slice aaC aC.length caC), (1, .slice aaD aD.length caD), (5, .slice a3 x3.1.length c3), (6, .int .i64 x3.2), (9, .slice a6 x6.1.length c6), (77, .bool (x15 || (x6.2 != x3.2)))]) ?_ ?_
            · refine QRun_b [.int .i64 x14.1, .bool (decide (x14.1 < 0))] 0 _ (by kernel_rfl) (fun w => by kernel_rfl) ?_
              refine QRun_seq 8 [(0, .slice aaC aC.length caC), (1, .slice aaD aD.length caD), (5, .slice a3 x3.1.length c3), (6, .int .i64 x3.2), (9, .slice a6 x6.1.length c6), (10, .int .i64 x6.2), (72, .bool x15)] ?_ ?_
              · rcases Bool.eq_false_or_eq_true (decide (x14.1 < 0)) with hb7 | hb7
                · refine QRun_bool (decide (x14.1 < 0)) true (by kernel_rfl) (fun w => by kernel_rfl) hb7 ?_
                  have gx15 := M.ret_some ((M.ite_some gx15).1 hb7)
                  refine QRun_n (by kernel_rfl) ?_
                  refine QRun_n (by kernel_rfl) ?_
                  refine QRun_n (by kernel_rfl) ?_
                  refine QRun_n (by kernel_rfl) ?_
                  refine QRun_bool true x15 (by kernel_rfl) (fun w => by kernel_rfl) gx15 ?_
                  exact QRun_done [0, 1, 5, 6, 9, 10, 72] (by kernel_rfl) (by kernel_rfl)
                · refine QRun_bool (decide (x14.1 < 0)) false (by kernel_rfl) (fun w => by kernel_rfl) hb7 ?_
                  have gx15 := (M.ite_some gx15).2 hb7
                  obtain ⟨x16, hx14, gx15⟩ := M.bind_some gx15
                  have gx15 := M.ret_some gx15
                  refine QRun_b [.slice a6 x6.1.length c6, .slice a3 x3.1.length c3] 3 _ (by kernel_rfl) (fun w => by kernel_rfl) ?_
                  refine QRun_y (.bool x16) (by kernel_rfl) (Y_callq (f := 17) (args := #[.slice a6 x6.1.length c6, .slice a3 x3.1.length c3]) (v := .bool x16) (by kernel_rfl) (w_laws_eqInt64S h10 x6.1 a6 c6 (H27.rd 4 rfl) x3.1 a3 c3 (H27.rd 5 rfl) _ _ hx14)) ?_
                  refine QRun_b [.bool (!x16)] 6 _ (by kernel_rfl) (fun w => by kernel_rfl) ?_
                  refine QRun_bool (!x16) x15 (by kernel_rfl) (fun w => by kernel_rfl) gx15 ?_
                  exact QRun_done [0, 1, 5, 6, 9, 10, 72] (by kernel_rfl) (by kernel_rfl)
              refine QRun_seq 13 [(0, .slice aaC aC.length caC), (1, .slice aaD aD.length caD), (5, .slice a3 x3.1.length c3), (6, .int .i64 x3.2), (9, .slice a6 x6.1.length c6), (77, .bool (x15 || (x6.2 != x3.2)))] ?_ ?_
              · rcases Bool.eq_false_or_eq_true x15 with hb8 | hb8
                · refine QRun_bool x15 true (by kernel_rfl) (fun w => by kernel_rfl) hb8 ?_
                  refine QRun_n (by kernel_rfl) ?_
                  refine QRun_n (by kernel_rfl) ?_
                  refine QRun_n (by kernel_rfl) ?_
                  refine QRun_bool true (x15 || (x6.2 != x3.2)) (by kernel_rfl) (fun w => by kernel_rfl) (by rw [hb8]; rfl) ?_
                  exact QRun_done [0, 1, 5, 6, 9, 77] (by kernel_rfl) (by kernel_rfl)
                · refine QRun_bool x15 false (by kernel_rfl) (fun w => by kernel_rfl) hb8 ?_
                  refine QRun_b [.int .i64 x6.2, .int .i64 x3.2, .bool (x6.2 != x3.2)] 9 _ (by kernel_rfl) (fun w => by kernel_rfl) ?_
                  refine QRun_bool (x6.2 != x3.2) (x15 || (x6.2 != x3.2)) (by kernel_rfl) (fun w => by kernel_rfl) (by rw [hb8]; rfl) ?_
                  exact QRun_done [0, 1, 5, 6, 9, 77] (by kernel_rfl) (by kernel_rfl)
              exact QRun_done [0, 1, 5, 6, 9, 77] (by kernel_rfl) (by kernel_rfl)
            refine Run_cond (b := x15 || (x6.2 != x3.2)) (by kernel_rfl) (fun hb9 => ?_) (fun hb9 => ?_)
            · have hF := (M.ite_some hF).1 hb9
              refine Run_seq ?_
              refine Run_reg 1 (by kernel_rfl) (L' := [(4, .bool false)]) ?_ ?_
              · refine QRun_b [.bool false] 0 _ (by kernel_rfl) (fun w => by kernel_rfl) ?_
                exact QRun_done [4] (by kernel_rfl) (by kernel_rfl)
              have hF := M.ret_some hF
              subst hF
              have H28 : Hold h h10 [] := H27.pick [] (by kernel_rfl)
              exact Run_ret1 rfl (ResV_tmp (v := .bool false) (by kernel_rfl)) ⟨rfl, H28⟩
            · have hF := (M.ite_some hF).2 hb9
              refine Run_skip ?_
              refine Run_seq ?_
              refine Run_reg 1 (by kernel_rfl) (L' := [(0, .slice aaC aC.length caC), (1, .slice aaD aD.length caD), (5, .slice a3 x3.1.length c3), (6, .int .i64 x3.2), (9, .slice a6 x6.1.length c6), (12, .int .i64 1)]) ?_ ?_
              · refine QRun_b [.int .i64 1] 0 _ (by kernel_rfl) (fun w => by kernel_rfl) ?_
                exact QRun_done [0, 1, 5, 6, 9, 12] (by kernel_rfl) (by kernel_rfl)
              refine Run_seq ?_
              refine Run_ops ?_
              refine Run_b [.slice a6 x6.1.length c6, .int .i64 1] 0 _ (by kernel_rfl) (fun w => by kernel_rfl) ?_
              obtain ⟨x18, hx15, hF⟩ := M.bind_some hF
              have H29 : Hold h h10 [own cd2 a6 x6.1.length c6 x6.1, own cd2 a5 x5.length c5 x14.2, own cd2 a4 x4.length c4 x13.2, own cd2 a8 x11.length c8 x11, own cd2 a7 x9.length c7 x9, own cd2 a3 x3.1.length c3 x3.1, own cd2 a2 x2.length c2 x2, own cd2 a1 x1.length c1 x1] := H27.pick [4, 0, 1, 2, 3, 5, 6, 7] (by kernel_rfl)
              have H30 : Hold h h10 [own cd2 a6 x6.1.length c6 x6.1, bun [own cd2 a5 x5.length c5 x14.2, own cd2 a4 x4.length c4 x13.2, own cd2 a8 x11.length c8 x11, own cd2 a7 x9.length c7 x9, own cd2 a3 x3.1.length c3 x3.1, own cd2 a2 x2.length c2 x2, own cd2 a1 x1.length c1 x1]] := Hold.bundle (S := [own cd2 a6 x6.1.length c6 x6.1]) (R := [own cd2 a5 x5.length c5 x14.2, own cd2 a4 x4.length c4 x13.2, own cd2 a8 x11.length c8 x11, own cd2 a7 x9.length c7 x9, own cd2 a3 x3.1.length c3 x3.1, own cd2 a2 x2.length c2 x2, own cd2 a1 x1.length c1 x1]) H29
              refine Run_E (by kernel_rfl) ?_
              refine E_call (f := 25) (args := #[.slice a6 x6.1.length c6, .int .i64 1]) (w_laws_markInt64S h h10 _ x6.1 a6 c6 1 H30 _ _ hx15) (by kernel_rfl) (fun v11 h11 hp11 => ?_)
              obtain ⟨rfl, H31⟩ := hp11
              have H32 : Hold h h11 [own cd2 a6 x6.1.length c6 x18.2, own cd2 a5 x5.length c5 x14.2, own cd2 a4 x4.length c4 x13.2, own cd2 a8 x11.length c8 x11, own cd2 a7 x9.length c7 x9, own cd2 a3 x3.1.length c3 x3.1, own cd2 a2 x2.length c2 x2, own cd2 a1 x1.length c1 x1] := Hold.unbundle (S := [own cd2 a6 x6.1.length c6 x18.2]) (R := [own cd2 a5 x5.length c5 x14.2, own cd2 a4 x4.length c4 x13.2, own cd2 a8 x11.length c8 x11, own cd2 a7 x9.length c7 x9, own cd2 a3 x3.1.length c3 x3.1, own cd2 a2 x2.length c2 x2, own cd2 a1 x1.length c1 x1]) H31 (Hold.tailBase (S := [own cd2 a6 x6.1.length c6 x6.1]) (R := [own cd2 a5 x5.length c5 x14.2, own cd2 a4 x4.length c4 x13.2, own cd2 a8 x11.length c8 x11, own cd2 a7 x9.length c7 x9, own cd2 a3 x3.1.length c3 x3.1, own cd2 a2 x2.length c2 x2, own cd2 a1 x1.length c1 x1]) H29)
              refine Run_b [.int .i64 x18.1] 3 _ (by kernel_rfl) (fun w => by kernel_rfl) ?_
              refine Run_nil (by kernel_rfl) ?_
              refine Run_keep [0, 1, 5, 6, 9, 12] (L' := [(0, .slice aaC aC.length caC), (1, .slice aaD aD.length caD), (5, .slice a3 x3.1.length c3), (6, .int .i64 x3.2), (9, .slice a6 x6.1.length c6), (12, .int .i64 x18.1)]) (by kernel_rfl) ?_
              refine Run_seq ?_
              refine Run_reg 1 (by kernel_rfl) (L' := [(0, .slice aaC aC.length caC), (1, .slice aaD aD.length caD), (5, .slice a3 x3.1.length c3), (6, .int .i64 x3.2), (9, .slice a6 x6.1.length c6), (12, .int .i64 x18.1), (13, .int .i64 1)]) ?_ ?_
              · refine QRun_b [.int .i64 1] 0 _ (by kernel_rfl) (fun w => by kernel_rfl) ?_
                exact QRun_done [0, 1, 5, 6, 9, 12, 13] (by kernel_rfl) (by kernel_rfl)
              refine Run_seq ?_
              obtain ⟨x19, hx16, hF⟩ := M.bind_some hF
              refine Run_reg 4 (by kernel_rfl) (L' := [(0, .slice aaC aC.length caC), (1, .slice aaD aD.length caD), (5, .slice a3 x3.1.length c3), (6, .int .i64 x3.2), (9, .slice a6 x6.1.length c6), (12, .int .i64 x18.1), (13, .int .i64 x19)]) ?_ ?_
              · refine QRun_b [.slice a6 x6.1.length c6, .int .i64 1] 0 _ (by kernel_rfl) (fun w => by kernel_rfl) ?_
                refine QRun_y (.int .i64 x19) (by kernel_rfl) (Y_callq (f := 26) (args := #[.slice a6 x6.1.length c6, .int .i64 1]) (v := .int .i64 x19) (by kernel_rfl) (Fn.arg (w_laws_heldInt64S h11 x18.2 a6 c6 (H32.rd 0 rfl) 1 _ _ hx16) (by simp only [(H32.len 0 rfl)]))) ?_
                refine QRun_b [.int .i64 x19] 3 _ (by kernel_rfl) (fun w => by kernel_rfl) ?_
                exact QRun_done [0, 1, 5, 6, 9, 12, 13] (by kernel_rfl) (by kernel_rfl)
              refine Run_seq ?_
              refine Run_seq ?_
              refine Run_reg 2 (by kernel_rfl) (L' := [(0, .slice aaC aC.length caC), (1, .slice aaD aD.length caD), (5, .slice a3 x3.1.length c3), (6, .int .i64 x3.2), (9, .slice a6 x6.1.length c6), (12, .int .i64 x18.1), (13, .int .i64 x19), (85, .bool (decide (x19 < 0)))]) ?_ ?_
              · refine QRun_b [.int .i64 x19, .bool (decide (x19 < 0))] 0 _ (by kernel_rfl) (fun w => by kernel_rfl) ?_
                exact QRun_done [0, 1, 5, 6, 9, 12, 13, 85] (by kernel_rfl) (by kernel_rfl)
              refine Run_cond (b := decide (x19 < 0)) (by kernel_rfl) (fun hb10 => ?_) (fun hb10 => ?_)
              · have hF := (M.ite_some hF).1 hb10
                refine Run_seq ?_
                refine Run_reg 1 (by kernel_rfl) (L' := [(4, .bool false)]) ?_ ?_
                · refine QRun_b [.bool false] 0 _ (by kernel_rfl) (fun w => by kernel_rfl) ?_
                  exact QRun_done [4] (by kernel_rfl) (by kernel_rfl)
                have hF := M.ret_some hF
                subst hF
                have H33 : Hold h h11 [] := H32.pick [] (by kernel_rfl)
                exact Run_ret1 rfl (ResV_tmp (v := .bool false) (by kernel_rfl)) ⟨rfl, H33⟩
              · have hF := (M.ite_some hF).2 hb10
                refine Run_skip ?_
                refine Run_seq ?_
                refine Run_seq ?_
                refine Run_reg 3 (by kernel_rfl) (L' := [(0, .slice aaC aC.length caC), (1, .slice aaD aD.length caD), (5, .slice a3 x3.1.length c3), (6, .int .i64 x3.2), (9, .slice a6 x6.1.length c6), (12, .int .i64 x18.1), (88, .bool (x19 != x18.1))]) ?_ ?_
                · refine QRun_b [.int .i64 x19, .int .i64 x18.1, .bool (x19 != x18.1)] 0 _ (by kernel_rfl) (fun w => by kernel_rfl) ?_
                  exact QRun_done [0, 1, 5, 6, 9, 12, 88] (by kernel_rfl) (by kernel_rfl)
                refine Run_cond (b := x19 != x18.1) (by kernel_rfl) (fun hb11 => ?_) (fun hb11 => ?_)
                · have hF := (M.ite_some hF).1 hb11
                  refine Run_seq ?_
                  refine Run_reg 1 (by kernel_rfl) (L' := [(4, .bool false)]) ?_ ?_
                  · refine QRun_b [.bool false] 0 _ (by kernel_rfl) (fun w => by kernel_rfl) ?_
                    exact QRun_done [4] (by kernel_rfl) (by kernel_rfl)
                  have hF := M.ret_some hF
                  subst hF
                  have H34 : Hold h h11 [] := H32.pick [] (by kernel_rfl)
                  exact Run_ret1 rfl (ResV_tmp (v := .bool false) (by kernel_rfl)) ⟨rfl, H34⟩
                · have hF := (M.ite_some hF).2 hb11
                  refine Run_skip ?_
                  refine Run_seq ?_
                  refine Run_ops ?_
                  refine Run_b [.slice aaC aC.length caC] 0 _ (by kernel_rfl) (fun w => by kernel_rfl) ?_
                  obtain ⟨x20, hx17, hF⟩ := M.bind_some hF
                  refine Run_E (by kernel_rfl) ?_
                  refine E_call (f := 15) (args := #[.slice aaC aC.length caC]) (w_laws_toInt64S h11 aC aaC caC (raC.at H32.ext) _ _ hx17) (by kernel_rfl) (fun v12 h12 hp12 => ?_)
                  obtain ⟨a9, c9, rfl, H35⟩ := hp12
                  have H36 : Hold h h12 [own cd2 a9 x20.length c9 x20, own cd2 a6 x6.1.length c6 x18.2, own cd2 a5 x5.length c5 x14.2, own cd2 a4 x4.length c4 x13.2, own cd2 a8 x11.length c8 x11, own cd2 a7 x9.length c7 x9, own cd2 a3 x3.1.length c3 x3.1, own cd2 a2 x2.length c2 x2, own cd2 a1 x1.length c1 x1] := H32.call H35 rfl
                  refine Run_b [.slice aaD aD.length caD] 2 _ (by kernel_rfl) (fun w => by kernel_rfl) ?_
                  obtain ⟨x21, hx18, hF⟩ := M.bind_some hF
                  refine Run_E (by kernel_rfl) ?_
                  refine E_call (f := 15) (args := #[.slice aaD aD.length caD]) (w_laws_toInt64S h12 aD aaD caD (raD.at H36.ext) _ _ hx18) (by kernel_rfl) (fun v13 h13 hp13 => ?_)
                  obtain ⟨a10, c10, rfl, H37⟩ := hp13
                  have H38 : Hold h h13 [own cd2 a10 x21.length c10 x21, own cd2 a9 x20.length c9 x20, own cd2 a6 x6.1.length c6 x18.2, own cd2 a5 x5.length c5 x14.2, own cd2 a4 x4.length c4 x13.2, own cd2 a8 x11.length c8 x11, own cd2 a7 x9.length c7 x9, own cd2 a3 x3.1.length c3 x3.1, own cd2 a2 x2.length c2 x2, own cd2 a1 x1.length c1 x1] := H36.call H37 rfl
                  obtain ⟨x22, hx19, hF⟩ := M.bind_some hF
                  refine Run_E (by kernel_rfl) ?_
                  refine E_call (f := 39) (args := #[.slice a9 x20.length c9, .slice a10 x21.length c10]) (w_impl_MultiplyPolynomials h13 x20 a9 c9 (H38.rd 1 rfl) x21 a10 c10 (H38.rd 0 rfl) _ _ hx19) (by kernel_rfl) (fun v14 h14 hp14 => ?_)
                  obtain ⟨a11, c11, rfl, H39⟩ := hp14
                  have H40 : Hold h h14 [own cd2 a11 x22.1.length c11 x22.1, own cd2 a10 x21.length c10 x21, own cd2 a9 x20.length c9 x20, own cd2 a6 x6.1.length c6 x18.2, own cd2 a5 x5.length c5 x14.2, own cd2 a4 x4.length c4 x13.2, own cd2 a8 x11.length c8 x11, own cd2 a7 x9.length c7 x9, own cd2 a3 x3.1.length c3 x3.1, own cd2 a2 x2.length c2 x2, own cd2 a1 x1.length c1 x1] := H38.call H39 rfl
                  refine Run_b [.tuple #[.slice a11 x22.1.length c11, .int .i64 x22.2], .slice a11 x22.1.length c11, .int .i64 x22.2, .slice a11 x22.1.length c11, .int .i64 x22.2] 5 _ (by kernel_rfl) (fun w => by kernel_rfl) ?_
                  refine Run_nil (by kernel_rfl) ?_
                  refine Run_keep [5, 6, 9, 12, 14, 15] (L' := [(5, .slice a3 x3.1.length c3), (6, .int .i64 x3.2), (9, .slice a6 x6.1.length c6), (12, .int .i64 x18.1), (14, .slice a11 x22.1.length c11), (15, .int .i64 x22.2)]) (by kernel_rfl) ?_
                  refine Run_seq ?_
                  refine Run_seq ?_
                  obtain ⟨x23, hx20, hF⟩ := M.bind_some hF
                  refine Run_reg 9 (by kernel_rfl) (L' := [(9, .slice a6 x6.1.length c6), (12, .int .i64 x18.1), (105, .bool ((!x23) || (x22.2 != x3.2)))]) ?_ ?_
                  · refine QRun_b [.slice a11 x22.1.length c11, .slice a3 x3.1.length c3] 0 _ (by kernel_rfl) (fun w => by kernel_rfl) ?_
                    refine QRun_y (.bool x23) (by kernel_rfl) (Y_callq (f := 17) (args := #[.slice a11 x22.1.length c11, .slice a3 x3.1.length c3]) (v := .bool x23) (by kernel_rfl) (w_laws_eqInt64S h14 x22.1 a11 c11 (H40.rd 0 rfl) x3.1 a3 c3 (H40.rd 8 rfl) _ _ hx20)) ?_
                    refine QRun_b [.bool (!x23)] 3 _ (by kernel_rfl) (fun w => by kernel_rfl) ?_
                    refine QRun_seq 9 [(9, .slice a6 x6.1.length c6), (12, .int .i64 x18.1), (105, .bool ((!x23) || (x22.2 != x3.2)))] ?_ ?_
                    · rcases Bool.eq_false_or_eq_true (!x23) with hb12 | hb12
                      · refine QRun_bool (!x23) true (by kernel_rfl) (fun w => by kernel_rfl) hb12 ?_
                        refine QRun_n (by kernel_rfl) ?_
                        refine QRun_n (by kernel_rfl) ?_
                        refine QRun_n (by kernel_rfl) ?_
                        refine QRun_bool true ((!x23) || (x22.2 != x3.2)) (by kernel_rfl) (fun w => by kernel_rfl) (by rw [hb12]; rfl) ?_
                        exact QRun_done [9, 12, 105] (by kernel_rfl) (by kernel_rfl)
                      · refine QRun_bool (!x23) false (by kernel_rfl) (fun w => by kernel_rfl) hb12 ?_
                        refine QRun_b [.int .i64 x22.2, .int .i64 x3.2, .bool (x22.2 != x3.2)] 5 _ (by kernel_rfl) (fun w => by kernel_rfl) ?_
                        refine QRun_bool (x22.2 != x3.2) ((!x23) || (x22.2 != x3.2)) (by kernel_rfl) (fun w => by kernel_rfl) (by rw [hb12]; rfl) ?_
                        exact QRun_done [9, 12, 105] (by kernel_rfl) (by kernel_rfl)
                    exact QRun_done [9, 12, 105] (by kernel_rfl) (by kernel_rfl)
                  refine Run_cond (b := (!x23) || (x22.2 != x3.2)) (by kernel_rfl) (fun hb13 => ?_) (fun hb13 => ?_)
                  · have hF := (M.ite_some hF).1 hb13
                    refine Run_seq ?_
                    refine Run_reg 1 (by kernel_rfl) (L' := [(4, .bool false)]) ?_ ?_
                    · refine QRun_b [.bool false] 0 _ (by kernel_rfl) (fun w => by kernel_rfl) ?_
                      exact QRun_done [4] (by kernel_rfl) (by kernel_rfl)
                    have hF := M.ret_some hF
                    subst hF
                    have H41 : Hold h h14 [] := H40.pick [] (by kernel_rfl)
                    exact Run_ret1 rfl (ResV_tmp (v := .bool false) (by kernel_rfl)) ⟨rfl, H41⟩
                  · have hF := (M.ite_some hF).2 hb13
                    refine Run_skip ?_
                    refine Run_seq ?_
                    refine Run_reg 1 (by kernel_rfl) (L' := [(9, .slice a6 x6.1.length c6), (12, .int .i64 x18.1), (13, .int .i64 1)]) ?_ ?_
                    · refine QRun_b [.int .i64 1] 0 _ (by kernel_rfl) (fun w => by kernel_rfl) ?_
                      exact QRun_done [9, 12, 13] (by kernel_rfl) (by kernel_rfl)
                    refine Run_seq ?_
                    obtain ⟨x25, hx21, hF⟩ := M.bind_some hF
                    refine Run_reg 4 (by kernel_rfl) (L' := [(12, .int .i64 x18.1), (13, .int .i64 x25)]) ?_ ?_
                    · refine QRun_b [.slice a6 x6.1.length c6, .int .i64 1] 0 _ (by kernel_rfl) (fun w => by kernel_rfl) ?_
                      refine QRun_y (.int .i64 x25) (by kernel_rfl) (Y_callq (f := 26) (args := #[.slice a6 x6.1.length c6, .int .i64 1]) (v := .int .i64 x25) (by kernel_rfl) (Fn.arg (w_laws_heldInt64S h14 x18.2 a6 c6 (H40.rd 3 rfl) 1 _ _ hx21) (by simp only [(H40.len 3 rfl)]))) ?_
                      refine QRun_b [.int .i64 x25] 3 _ (by kernel_rfl) (fun w => by kernel_rfl) ?_
                      exact QRun_done [12, 13] (by kernel_rfl) (by kernel_rfl)
                    refine Run_seq ?_
                    refine Run_seq ?_
                    refine Run_reg 2 (by kernel_rfl) (L' := [(12, .int .i64 x18.1), (13, .int .i64 x25), (110, .bool (decide (x25 < 0)))]) ?_ ?_
                    · refine QRun_b [.int .i64 x25, .bool (decide (x25 < 0))] 0 _ (by kernel_rfl) (fun w => by kernel_rfl) ?_
                      exact QRun_done [12, 13, 110] (by kernel_rfl) (by kernel_rfl)
                    refine Run_cond (b := decide (x25 < 0)) (by kernel_rfl) (fun hb14 => ?_) (fun hb14 => ?_)
                    · have hF := (M.ite_some hF).1 hb14
                      refine Run_seq ?_
                      refine Run_reg 1 (by kernel_rfl) (L' := [(4, .bool false)]) ?_ ?_
                      · refine QRun_b [.bool false] 0 _ (by kernel_rfl) (fun w => by kernel_rfl) ?_
                        exact QRun_done [4] (by kernel_rfl) (by kernel_rfl)
                      have hF := M.ret_some hF
                      subst hF
                      have H42 : Hold h h14 [] := H40.pick [] (by kernel_rfl)
                      exact Run_ret1 rfl (ResV_tmp (v := .bool false) (by kernel_rfl)) ⟨rfl, H42⟩
                    · have hF := (M.ite_some hF).2 hb14
                      refine Run_skip ?_
                      refine Run_seq ?_
                      refine Run_seq ?_
                      refine Run_reg 3 (by kernel_rfl) (L' := [(113, .bool (x25 != x18.1))]) ?_ ?_
                      · refine QRun_b [.int .i64 x25, .int .i64 x18.1, .bool (x25 != x18.1)] 0 _ (by kernel_rfl) (fun w => by kernel_rfl) ?_
                        exact QRun_done [113] (by kernel_rfl) (by kernel_rfl)
                      refine Run_cond (b := x25 != x18.1) (by kernel_rfl) (fun hb15 => ?_) (fun hb15 => ?_)
                      · have hF := (M.ite_some hF).1 hb15
                        refine Run_seq ?_
                        refine Run_reg 1 (by kernel_rfl) (L' := [(4, .bool false)]) ?_ ?_
                        · refine QRun_b [.bool false] 0 _ (by kernel_rfl) (fun w => by kernel_rfl) ?_
                          exact QRun_done [4] (by kernel_rfl) (by kernel_rfl)
                        have hF := M.ret_some hF
                        subst hF
                        have H43 : Hold h h14 [] := H40.pick [] (by kernel_rfl)
                        exact Run_ret1 rfl (ResV_tmp (v := .bool false) (by kernel_rfl)) ⟨rfl, H43⟩
                      · have hF := (M.ite_some hF).2 hb15
                        refine Run_skip ?_
                        refine Run_seq ?_
                        refine Run_reg 1 (by kernel_rfl) (L' := [(4, .bool true)]) ?_ ?_
                        · refine QRun_b [.bool true] 0 _ (by kernel_rfl) (fun w => by kernel_rfl) ?_
                          exact QRun_done [4] (by kernel_rfl) (by kernel_rfl)
                        have hF := M.ret_some hF
                        subst hF
                        have H44 : Hold h h14 [] := H40.pick [] (by kernel_rfl)
                        exact Run_ret1 rfl (ResV_tmp (v := .bool true) (by kernel_rfl)) ⟨rfl, H44⟩

end Go.Proofs.Ytdgehhbgjmgjjaa
