/-
  Walks: each Go function, called with what reads as plain data, returns what its plain program computes.
  Conditions: None beyond the given statement.
-/
import Derived.Test.YtjdcdcipilhmeaaRows
import Derived.Test.YtjdcdcipilhmeaaP
import Derived.Test.YtjdcdcipilhmeaaMut
namespace Go.Proofs.Ytjdcdcipilhmeaa
open Go
attribute [local irreducible] setL setB opA fineI idleI fineB evB okB markB markBs readyB readyBs chainB lk rho pickL dropSlot tailOK
theorem mixed : Try.prog.follows .mixedOrders = true := by kernel_rfl
def cd2 : Cd (Int) := flatCd 2 1 (by decide) (fun x => [.int .i64 x]) (fun _ => rfl) (fun _ => rfl)
theorem cd2_own (x : Int) : ∀ h, cd2.own h x [.int .i64 x] [] := fun _ => ⟨rfl, rfl⟩
theorem cd2_flat : Flat cd2 := fun _ _ _ _ o => o.2
theorem cd2_copies : Copies cd2 := fun _ _ _ _ o => ⟨o, rfl⟩
theorem cd2_zero : ∀ h, cd2.own h 0 [.int .i64 0] [] := fun _ => ⟨rfl, rfl⟩
theorem cd2_ti : TI Try.prog 2 (.int .i64 0) 1 8 := by unfold TI; kernel_rfl
theorem cd2_cell {h : Heap} {B : Bs} {a : Option Addr} {c : Nat} {l : List (Int)} {j : Nat} {x : Int} (r : Rd cd2 h B a c l) (hx : l[j]? = some x) : cellH h (adr a (j * 1)) = some (.int .i64 x) := r.cell1 hx (fun vs o => by rw [show vs = _ from o]; rfl)
abbrev cd23 : Cd (List Int) := rowCd cd2 23
theorem cd23_zero : ∀ h, cd23.own h [] [.slice none 0 0] [] := fun h => ⟨none, 0, rfl, Own.nil _ h⟩
theorem cd23_ti : TI Try.prog 23 (.slice none 0 0) 1 24 := by unfold TI; kernel_rfl
abbrev cd22 : Cd (List (List Int)) := rowCd cd23 22
theorem cd22_zero : ∀ h, cd22.own h [] [.slice none 0 0] [] := fun h => ⟨none, 0, rfl, Own.nil _ h⟩
theorem cd22_ti : TI Try.prog 22 (.slice none 0 0) 1 24 := by unfold TI; kernel_rfl
set_option maxRecDepth 100000 in
set_option maxHeartbeats 4000000 in
theorem w_laws_szInt64S (h : Heap) (a_ : List Int) {Sa_ : Bs} (aa_ : Option Addr) (ca_ : Nat) (ra_ : Rd cd2 h Sa_ aa_ ca_ a_) (left : Int) (n : Nat) (r : Int) (hF : laws_szInt64S a_ left n = some r) :
    Fn Try.prog 56 #[.slice aa_ a_.length ca_, .int .i64 left] h fun v h' => v = .int .i64 r ∧ h' = h := by
  unfold laws_szInt64S at hF
  refine Fn_enter (args := [.slice aa_ a_.length ca_, .int .i64 left]) Try.func56 rfl (by kernel_rfl) (by kernel_rfl) (fun w0 _ => ?_)
  refine Run_seq ?_
  refine Run_reg 1 (by kernel_rfl) (L' := [(0, .slice aa_ a_.length ca_), (1, .int .i64 left)]) ?_ ?_
  · refine QRun_b [.int .i64 0] 0 _ (by kernel_rfl) (fun w => by kernel_rfl) ?_
    exact QRun_done [0, 1] (by kernel_rfl) (by kernel_rfl)
  refine Run_seq ?_
  refine Run_reg 5 (by kernel_rfl) (L' := [(1, .int .i64 (w64 (left - (a_.length : Int))))]) ?_ ?_
  · refine QRun_b [.int .i64 left, .slice aa_ a_.length ca_, .int .i64 (a_.length : Int), .int .i64 (w64 (left - (a_.length : Int))), .int .i64 (w64 (left - (a_.length : Int)))] 0 _ (by kernel_rfl) (fun w => by kernel_rfl) ?_
    exact QRun_done [1] (by kernel_rfl) (by kernel_rfl)
  refine Run_seq ?_
  refine Run_seq ?_
  refine Run_reg 2 (by kernel_rfl) (L' := [(1, .int .i64 (w64 (left - (a_.length : Int)))), (10, .bool (decide ((w64 (left - (a_.length : Int))) < 0)))]) ?_ ?_
  · refine QRun_b [.int .i64 (w64 (left - (a_.length : Int))), .bool (decide ((w64 (left - (a_.length : Int))) < 0))] 0 _ (by kernel_rfl) (fun w => by kernel_rfl) ?_
    exact QRun_done [1, 10] (by kernel_rfl) (by kernel_rfl)
  refine Run_cond (b := decide ((w64 (left - (a_.length : Int))) < 0)) (by kernel_rfl) (fun hb1 => ?_) (fun hb1 => ?_)
  · have hF := (M.ite_some hF).1 hb1
    refine Run_seq ?_
    refine Run_reg 1 (by kernel_rfl) (L' := [(4, .int .i64 (-1))]) ?_ ?_
    · refine QRun_b [.int .i64 (-1)] 0 _ (by kernel_rfl) (fun w => by kernel_rfl) ?_
      exact QRun_done [4] (by kernel_rfl) (by kernel_rfl)
    have hF := M.ret_some hF
    subst hF
    exact Run_ret1 rfl (ResV_tmp (v := .int .i64 (-1)) (by kernel_rfl)) ⟨rfl, rfl⟩
  · have hF := (M.ite_some hF).2 hb1
    refine Run_skip ?_
    refine Run_seq ?_
    refine Run_reg 2 (by kernel_rfl) (L' := [(4, .int .i64 (w64 (left - (a_.length : Int))))]) ?_ ?_
    · refine QRun_b [.int .i64 (w64 (left - (a_.length : Int))), .int .i64 (w64 (left - (a_.length : Int)))] 0 _ (by kernel_rfl) (fun w => by kernel_rfl) ?_
      exact QRun_done [4] (by kernel_rfl) (by kernel_rfl)
    have hF := M.ret_some hF
    subst hF
    exact Run_ret1 rfl (ResV_tmp (v := .int .i64 (w64 (left - (a_.length : Int)))) (by kernel_rfl)) ⟨rfl, rfl⟩

set_option maxRecDepth 100000 in
set_option maxHeartbeats 4000000 in
theorem w_laws_szInt64SS (h : Heap) (a_ : List (List Int)) {Sa_ : Bs} (aa_ : Option Addr) (ca_ : Nat) (ra_ : Rd cd23 h Sa_ aa_ ca_ a_) (left : Int) (n : Nat) (r : Int) (hF : laws_szInt64SS a_ left n = some r) :
    Fn Try.prog 9 #[.slice aa_ a_.length ca_, .int .i64 left] h fun v h' => v = .int .i64 r ∧ h' = h := by
  unfold laws_szInt64SS at hF
  refine Fn_enter (args := [.slice aa_ a_.length ca_, .int .i64 left]) Try.func9 rfl (by kernel_rfl) (by kernel_rfl) (fun w0 _ => ?_)
  refine Run_seq ?_
  refine Run_reg 1 (by kernel_rfl) (L' := [(0, .slice aa_ a_.length ca_), (1, .int .i64 left)]) ?_ ?_
  · refine QRun_b [.int .i64 0] 0 _ (by kernel_rfl) (fun w => by kernel_rfl) ?_
    exact QRun_done [0, 1] (by kernel_rfl) (by kernel_rfl)
  refine Run_seq ?_
  refine Run_reg 5 (by kernel_rfl) (L' := [(0, .slice aa_ a_.length ca_), (1, .int .i64 (w64 (left - (a_.length : Int))))]) ?_ ?_
  · refine QRun_b [.int .i64 left, .slice aa_ a_.length ca_, .int .i64 (a_.length : Int), .int .i64 (w64 (left - (a_.length : Int))), .int .i64 (w64 (left - (a_.length : Int)))] 0 _ (by kernel_rfl) (fun w => by kernel_rfl) ?_
    exact QRun_done [0, 1] (by kernel_rfl) (by kernel_rfl)
  refine Run_seq ?_
  refine Run_seq ?_
  refine Run_reg 2 (by kernel_rfl) (L' := [(0, .slice aa_ a_.length ca_), (1, .int .i64 (w64 (left - (a_.length : Int)))), (11, .bool (decide ((w64 (left - (a_.length : Int))) < 0)))]) ?_ ?_
  · refine QRun_b [.int .i64 (w64 (left - (a_.length : Int))), .bool (decide ((w64 (left - (a_.length : Int))) < 0))] 0 _ (by kernel_rfl) (fun w => by kernel_rfl) ?_
    exact QRun_done [0, 1, 11] (by kernel_rfl) (by kernel_rfl)
  refine Run_cond (b := decide ((w64 (left - (a_.length : Int))) < 0)) (by kernel_rfl) (fun hb1 => ?_) (fun hb1 => ?_)
  · have hF := (M.ite_some hF).1 hb1
    refine Run_seq ?_
    refine Run_reg 1 (by kernel_rfl) (L' := [(4, .int .i64 (-1))]) ?_ ?_
    · refine QRun_b [.int .i64 (-1)] 0 _ (by kernel_rfl) (fun w => by kernel_rfl) ?_
      exact QRun_done [4] (by kernel_rfl) (by kernel_rfl)
    have hF := M.ret_some hF
    subst hF
    exact Run_ret1 rfl (ResV_tmp (v := .int .i64 (-1)) (by kernel_rfl)) ⟨rfl, rfl⟩
  · have hF := (M.ite_some hF).2 hb1
    refine Run_skip ?_
    refine Run_seq ?_
    refine Run_seq ?_
    refine Run_reg 1 (by kernel_rfl) (L' := [(0, .slice aa_ a_.length ca_), (1, .int .i64 (w64 (left - (a_.length : Int)))), (5, .int .i64 0)]) ?_ ?_
    · refine QRun_b [.int .i64 0] 0 _ (by kernel_rfl) (fun w => by kernel_rfl) ?_
      exact QRun_done [0, 1, 5] (by kernel_rfl) (by kernel_rfl)
    obtain ⟨x1, gx1, hF⟩ := M.bind_some hF
    obtain ⟨hloy1, hhiy1, gx1⟩ := M.for_start gx1
    refine Run_join (fun L' h' => ∃ (s2 : Int), x1 = .inl s2 ∧ L' = [(1, .int .i64 s2)] ∧ h = h') ?_ ?_
    · rintro _ _ ⟨s2, es2, rfl, rfl⟩
      have hF := M.cont_inl' hF es2
      refine Run_seq ?_
      refine Run_reg 2 (by kernel_rfl) (L' := [(4, .int .i64 s2)]) ?_ ?_
      · refine QRun_b [.int .i64 s2, .int .i64 s2] 0 _ (by kernel_rfl) (fun w => by kernel_rfl) ?_
        exact QRun_done [4] (by kernel_rfl) (by kernel_rfl)
      have hF := M.ret_some hF
      subst hF
      exact Run_ret1 rfl (ResV_tmp (v := .int .i64 s2) (by kernel_rfl)) ⟨rfl, rfl⟩
    · refine Run_block ?_
      refine Run_keep [0, 1, 5] (L' := [(0, .slice aa_ a_.length ca_), (1, .int .i64 (w64 (left - (a_.length : Int)))), (5, .int .i64 0)]) (by kernel_rfl) ?_
      refine Run_loop (fun m L' h' => ∃ (i1 : Int) (s1 : Int), 0 ≤ i1 ∧ M.forN (a_.length : Int) _ _ n m i1 s1 = some x1 ∧ L' = [(0, .slice aa_ a_.length ca_), (1, .int .i64 s1), (5, .int .i64 i1)] ∧ h = h') ((a_.length : Int) - 0 : Int).toNat ⟨0, (w64 (left - (a_.length : Int))), Int.le_refl _, gx1, rfl, rfl⟩ ?_
      rintro my1 _ _ ⟨i1, s1, hloy1', gx1, rfl, rfl⟩
      refine Run_seq ?_
      refine Run_seq ?_
      refine Run_reg 4 (by kernel_rfl) (L' := [(0, .slice aa_ a_.length ca_), (1, .int .i64 s1), (5, .int .i64 i1), (15, .bool (decide (i1 < (a_.length : Int))))]) ?_ ?_
      · refine QRun_b [.int .i64 i1, .slice aa_ a_.length ca_, .int .i64 (a_.length : Int), .bool (decide (i1 < (a_.length : Int)))] 0 _ (by kernel_rfl) (fun w => by kernel_rfl) ?_
        exact QRun_done [0, 1, 5, 15] (by kernel_rfl) (by kernel_rfl)
      refine Run_cond (b := decide (i1 < (a_.length : Int))) (by kernel_rfl) (fun hb2 => ?_) (fun hb2 => ?_)
      · obtain ⟨my1, y1, rfl, hB1, hgoy1, houty1⟩ := M.for_go gx1 hb2
        have hlty1 := of_decide_eq_true hb2
        refine Run_skip ?_
        refine Run_seq ?_
        refine Run_block ?_
        refine Run_seq ?_
        obtain ⟨x2, hx1, hB1⟩ := M.bind_some hB1
        obtain ⟨hx1l, hx1u, hx1⟩ := M.idx_some hx1
        obtain ⟨a1, c1, hc1, r1⟩ := ra_.row hx1
        obtain ⟨x3, hx2, hB1⟩ := M.bind_some hB1
        refine Run_reg 7 (by kernel_rfl) (L' := [(0, .slice aa_ a_.length ca_), (1, .int .i64 x3), (5, .int .i64 i1)]) ?_ ?_
        · refine QRun_b [.slice aa_ a_.length ca_, .int .i64 i1] 0 _ (by kernel_rfl) (fun w => by kernel_rfl) ?_
          refine QRun_y (.pointer (some (adr aa_ (i1.toNat * 1)))) (by kernel_rfl) (Y_idx (t := 22) (e := 23) (sz := 1) (a := aa_) (n := a_.length) (cap := ca_) (kk := .i64) (i := i1) (by kernel_rfl) Try.underlying22 (by kernel_rfl) (ra_.cell hx1).1 hx1l hx1u) ?_
          refine QRun_y (.slice a1 x2.length c1) (by kernel_rfl) (Y_load1 (t := 23) (p := adr aa_ (i1.toNat * 1)) (v := .slice a1 x2.length c1) (by kernel_rfl) (fun w => by kernel_rfl) hc1) ?_
          refine QRun_b [.int .i64 s1] 4 _ (by kernel_rfl) (fun w => by kernel_rfl) ?_
          refine QRun_y (.int .i64 x3) (by kernel_rfl) (Y_callq (f := 56) (args := #[.slice a1 x2.length c1, .int .i64 s1]) (v := .int .i64 x3) (by kernel_rfl) (w_laws_szInt64S h x2 a1 c1 r1 s1 _ _ hx2)) ?_
          refine QRun_b [.int .i64 x3] 6 _ (by kernel_rfl) (fun w => by kernel_rfl) ?_
          exact QRun_done [0, 1, 5] (by kernel_rfl) (by kernel_rfl)
        refine Run_seq ?_
        refine Run_reg 2 (by kernel_rfl) (L' := [(0, .slice aa_ a_.length ca_), (1, .int .i64 x3), (5, .int .i64 i1), (25, .bool (decide (x3 < 0)))]) ?_ ?_
        · refine QRun_b [.int .i64 x3, .bool (decide (x3 < 0))] 0 _ (by kernel_rfl) (fun w => by kernel_rfl) ?_
          exact QRun_done [0, 1, 5, 25] (by kernel_rfl) (by kernel_rfl)
        refine Run_cond (b := decide (x3 < 0)) (by kernel_rfl) (fun hb3 => ?_) (fun hb3 => ?_)
        · have hB1 := (M.ite_some hB1).1 hb3
          refine Run_seq ?_
          refine Run_reg 1 (by kernel_rfl) (L' := [(4, .int .i64 (-1))]) ?_ ?_
          · refine QRun_b [.int .i64 (-1)] 0 _ (by kernel_rfl) (fun w => by kernel_rfl) ?_
            exact QRun_done [4] (by kernel_rfl) (by kernel_rfl)
          have hB1 := M.ret_some hB1
          have gx1 := houty1 _ hB1.symm
          have hF := M.cont_inr' hF gx1
          have hF := M.ret_some hF
          subst hF
          exact Run_ret1 rfl (ResV_tmp (v := .int .i64 (-1)) (by kernel_rfl)) ⟨rfl, rfl⟩
        · have hB1 := (M.ite_some hB1).2 hb3
          refine Run_skip ?_
          refine Run_blk ?_
          refine Run_reg 3 (by kernel_rfl) (L' := [(0, .slice aa_ a_.length ca_), (1, .int .i64 x3), (5, .int .i64 (i1 + 1))]) ?_ ?_
          · refine QRun_b [.int .i64 i1] 0 _ (by kernel_rfl) (fun w => by kernel_rfl) ?_
            refine QRun_y (.int .i64 (i1 + 1)) (by kernel_rfl) (Y_eq (v := .int .i64 (w64 (i1 + 1))) (Y_pure (fun w => by kernel_rfl)) (by rw [w64_eq _ (by omega)])) ?_
            refine QRun_b [.int .i64 (i1 + 1)] 2 _ (by kernel_rfl) (fun w => by kernel_rfl) ?_
            exact QRun_done [0, 1, 5] (by kernel_rfl) (by kernel_rfl)
          have hB1 := M.ret_some hB1
          have gx1 := hgoy1 _ hB1.symm
          exact Run_again [0, 1, 5] (by kernel_rfl) my1 (Nat.lt_succ_self _) ⟨i1 + 1, x3, by omega, gx1, rfl, rfl⟩
      · have gx1 := M.for_end gx1 hb2
        subst gx1
        refine Run_exit (k' := _) rfl ?_
        exact Run_fall [1] (by kernel_rfl) ⟨s1, rfl, rfl, rfl⟩

set_option maxRecDepth 100000 in
set_option maxHeartbeats 4000000 in
theorem w_laws_toInt64S (h : Heap) (a_ : List Int) (aa_ : Option Addr) (ca_ : Nat) (ra_ : Rd cd2 h (Lt h) aa_ ca_ a_) (n : Nat) (r : (List Int)) (hF : laws_toInt64S a_ n = some r) :
    Fn Try.prog 12 #[.slice aa_ a_.length ca_] h fun v h' => ∃ (a0 : Option Addr) (c0 : Nat), v = .slice a0 r.length c0 ∧ Hold h h' [own cd2 a0 r.length c0 r] := by
  unfold laws_toInt64S at hF
  refine Fn_enter (args := [.slice aa_ a_.length ca_]) Try.func12 rfl (by kernel_rfl) (by kernel_rfl) (fun w0 _ => ?_)
  have H0 := Hold.init h
  refine Run_seq ?_
  refine Run_reg 1 (by kernel_rfl) (L' := [(0, .slice aa_ a_.length ca_)]) ?_ ?_
  · refine QRun_b [.slice none 0 0] 0 _ (by kernel_rfl) (fun w => by kernel_rfl) ?_
    exact QRun_done [0] (by kernel_rfl) (by kernel_rfl)
  refine Run_seq ?_
  refine Run_ops ?_
  refine Run_b [.slice aa_ a_.length ca_, .int .i64 (a_.length : Int)] 0 _ (by kernel_rfl) (fun w => by kernel_rfl) ?_
  obtain ⟨l1, hl1, hF⟩ := M.bind_some hF
  have hl1 := M.make_some hl1
  refine Run_E (by kernel_rfl) ?_
  refine E_make cd2 0 (kl := .i64) (kc := .i64) H0 cd2_ti Try.underlying23 (by decide) cd2_zero (by kernel_rfl) hl1 (fun a1 h1 H1 => ?_)
  refine Run_b [.slice a1 l1.length l1.length] 3 _ (by kernel_rfl) (fun w => by kernel_rfl) ?_
  refine Run_nil (by kernel_rfl) ?_
  refine Run_keep [0, 3] (L' := [(0, .slice aa_ a_.length ca_), (3, .slice a1 l1.length l1.length)]) (by kernel_rfl) ?_
  refine Run_seq ?_
  refine Run_seq ?_
  refine Run_reg 1 (by kernel_rfl) (L' := [(0, .slice aa_ a_.length ca_), (3, .slice a1 l1.length l1.length), (4, .int .i64 0)]) ?_ ?_
  · refine QRun_b [.int .i64 0] 0 _ (by kernel_rfl) (fun w => by kernel_rfl) ?_
    exact QRun_done [0, 3, 4] (by kernel_rfl) (by kernel_rfl)
  obtain ⟨x1, gx1, hF⟩ := M.bind_some hF
  obtain ⟨hloy1, hhiy1, gx1⟩ := M.for_start gx1
  refine Run_join (fun L' h' => L' = [(3, .slice a1 l1.length l1.length)] ∧ Hold h h' [own cd2 a1 l1.length l1.length x1]) ?_ ?_
  · rintro _ h3 ⟨rfl, H3⟩
    refine Run_seq ?_
    refine Run_reg 2 (by kernel_rfl) (L' := [(2, .slice a1 l1.length l1.length)]) ?_ ?_
    · refine QRun_b [.slice a1 l1.length l1.length, .slice a1 l1.length l1.length] 0 _ (by kernel_rfl) (fun w => by kernel_rfl) ?_
      exact QRun_done [2] (by kernel_rfl) (by kernel_rfl)
    have hF := M.ret_some hF
    subst hF
    have H5 := H3.norm
    exact Run_ret1 rfl (ResV_tmp (v := .slice a1 l1.length l1.length) (by kernel_rfl)) ⟨a1, l1.length, (by simp only [(H3.len 0 rfl)]), H5⟩
  · refine Run_block ?_
    refine Run_keep [0, 3, 4] (L' := [(0, .slice aa_ a_.length ca_), (3, .slice a1 l1.length l1.length), (4, .int .i64 0)]) (by kernel_rfl) ?_
    refine Run_loop (fun m L' h' => ∃ (i1 : Int) (s1 : (List Int)), 0 ≤ i1 ∧ M.forN (a_.length : Int) _ _ n m i1 s1 = some x1 ∧ L' = [(0, .slice aa_ a_.length ca_), (3, .slice a1 l1.length l1.length), (4, .int .i64 i1)] ∧ Hold h h' [own cd2 a1 l1.length l1.length s1]) ((a_.length : Int) - 0 : Int).toNat ⟨0, l1, Int.le_refl _, gx1, rfl, H1⟩ ?_
    rintro my1 _ h2 ⟨i1, s1, hloy1', gx1, rfl, H2⟩
    refine Run_seq ?_
    refine Run_seq ?_
    refine Run_reg 4 (by kernel_rfl) (L' := [(0, .slice aa_ a_.length ca_), (3, .slice a1 l1.length l1.length), (4, .int .i64 i1), (11, .bool (decide (i1 < (a_.length : Int))))]) ?_ ?_
    · refine QRun_b [.int .i64 i1, .slice aa_ a_.length ca_, .int .i64 (a_.length : Int), .bool (decide (i1 < (a_.length : Int)))] 0 _ (by kernel_rfl) (fun w => by kernel_rfl) ?_
      exact QRun_done [0, 3, 4, 11] (by kernel_rfl) (by kernel_rfl)
    refine Run_cond (b := decide (i1 < (a_.length : Int))) (by kernel_rfl) (fun hb1 => ?_) (fun hb1 => ?_)
    · obtain ⟨my1, y1, rfl, hB1, hgoy1, houty1⟩ := M.for_go gx1 hb1
      have hlty1 := of_decide_eq_true hb1
      refine Run_skip ?_
      refine Run_seq ?_
      refine Run_block ?_
      refine Run_ops ?_
      obtain ⟨x2, hx1, hB1⟩ := M.bind_some hB1
      obtain ⟨hx1l, hx1u, hx1⟩ := M.idx_some hx1
      obtain ⟨x3, hx2, hB1⟩ := M.bind_some hB1
      obtain ⟨hx2l, hx2u, hx2⟩ := M.idx_some hx2
      refine Run_b [.slice a1 l1.length l1.length, .int .i64 i1, .slice aa_ a_.length ca_, .int .i64 i1] 0 _ (by kernel_rfl) (fun w => by kernel_rfl) ?_
      refine Run_y (.pointer (some (adr aa_ (i1.toNat * 1)))) (by kernel_rfl) (Y_idx (t := 23) (e := 2) (sz := 1) (a := aa_) (n := a_.length) (cap := ca_) (kk := .i64) (i := i1) (by kernel_rfl) Try.underlying23 (by kernel_rfl) ((ra_.at H2.ext).cell hx1).1 hx1l hx1u) ?_
      refine Run_y (.int .i64 x2) (by kernel_rfl) (Y_load1 (t := 2) (p := adr aa_ (i1.toNat * 1)) (v := .int .i64 x2) (by kernel_rfl) (fun w => by kernel_rfl) (cd2_cell (ra_.at H2.ext) hx1)) ?_
      refine Run_y (.pointer (some (adr a1 (i1.toNat * 1)))) (by kernel_rfl) (Y_idx (t := 23) (e := 2) (sz := 1) (a := a1) (n := l1.length) (cap := l1.length) (kk := .i64) (i := i1) (by kernel_rfl) Try.underlying23 (by kernel_rfl) ((H2.rd 0 rfl).cell hx2).1 hx2l (by rw [← (H2.len 0 rfl)]; exact hx2u)) ?_
      obtain ⟨l2, hu1, hB1⟩ := M.bind_some hB1
      have hu1 := M.upd_some hu1
      refine Run_E (by kernel_rfl) ?_
      refine E_put (C := cd2) (t := 2) (sz := 1) (j := i1) (x := x2) (v := .int .i64 x2) H2 cd2_flat (by kernel_rfl) rfl (cd2_own _) (by kernel_rfl) hu1 (fun h4 H4 => ?_)
      refine Run_nil (by kernel_rfl) ?_
      refine Run_keep [0, 3, 4] (L' := [(0, .slice aa_ a_.length ca_), (3, .slice a1 l1.length l1.length), (4, .int .i64 i1)]) (by kernel_rfl) ?_
      refine Run_blk ?_
      refine Run_reg 3 (by kernel_rfl) (L' := [(0, .slice aa_ a_.length ca_), (3, .slice a1 l1.length l1.length), (4, .int .i64 (i1 + 1))]) ?_ ?_
      · refine QRun_b [.int .i64 i1] 0 _ (by kernel_rfl) (fun w => by kernel_rfl) ?_
        refine QRun_y (.int .i64 (i1 + 1)) (by kernel_rfl) (Y_eq (v := .int .i64 (w64 (i1 + 1))) (Y_pure (fun w => by kernel_rfl)) (by rw [w64_eq _ (by omega)])) ?_
        refine QRun_b [.int .i64 (i1 + 1)] 2 _ (by kernel_rfl) (fun w => by kernel_rfl) ?_
        exact QRun_done [0, 3, 4] (by kernel_rfl) (by kernel_rfl)
      have hB1 := M.ret_some hB1
      have gx1 := hgoy1 _ hB1.symm
      exact Run_again [0, 3, 4] (by kernel_rfl) my1 (Nat.lt_succ_self _) ⟨i1 + 1, l2, by omega, gx1, rfl, H4⟩
    · have gx1 := M.for_end gx1 hb1
      subst gx1
      refine Run_exit (k' := _) rfl ?_
      exact Run_fall [3] (by kernel_rfl) ⟨rfl, H2⟩

set_option maxRecDepth 100000 in
set_option maxHeartbeats 4000000 in
theorem w_laws_toInt64SS (h : Heap) (a_ : List (List Int)) (aa_ : Option Addr) (ca_ : Nat) (ra_ : Rd cd23 h (Lt h) aa_ ca_ a_) (n : Nat) (r : (List (List Int))) (hF : laws_toInt64SS a_ n = some r) :
    Fn Try.prog 11 #[.slice aa_ a_.length ca_] h fun v h' => ∃ (a0 : Option Addr) (c0 : Nat), v = .slice a0 r.length c0 ∧ Hold h h' [own cd23 a0 r.length c0 r] := by
  unfold laws_toInt64SS at hF
  refine Fn_enter (args := [.slice aa_ a_.length ca_]) Try.func11 rfl (by kernel_rfl) (by kernel_rfl) (fun w0 _ => ?_)
  have H0 := Hold.init h
  refine Run_seq ?_
  refine Run_reg 1 (by kernel_rfl) (L' := [(0, .slice aa_ a_.length ca_)]) ?_ ?_
  · refine QRun_b [.slice none 0 0] 0 _ (by kernel_rfl) (fun w => by kernel_rfl) ?_
    exact QRun_done [0] (by kernel_rfl) (by kernel_rfl)
  refine Run_seq ?_
  refine Run_ops ?_
  refine Run_b [.slice aa_ a_.length ca_, .int .i64 (a_.length : Int)] 0 _ (by kernel_rfl) (fun w => by kernel_rfl) ?_
  obtain ⟨l1, hl1, hF⟩ := M.bind_some hF
  have hl1 := M.make_some hl1
  refine Run_E (by kernel_rfl) ?_
  refine E_make cd23 [] (kl := .i64) (kc := .i64) H0 cd23_ti Try.underlying22 (by decide) cd23_zero (by kernel_rfl) hl1 (fun a1 h1 H1 => ?_)
  refine Run_b [.slice a1 l1.length l1.length] 3 _ (by kernel_rfl) (fun w => by kernel_rfl) ?_
  refine Run_nil (by kernel_rfl) ?_
  refine Run_keep [0, 3] (L' := [(0, .slice aa_ a_.length ca_), (3, .slice a1 l1.length l1.length)]) (by kernel_rfl) ?_
  refine Run_seq ?_
  refine Run_seq ?_
  refine Run_reg 1 (by kernel_rfl) (L' := [(0, .slice aa_ a_.length ca_), (3, .slice a1 l1.length l1.length), (4, .int .i64 0)]) ?_ ?_
  · refine QRun_b [.int .i64 0] 0 _ (by kernel_rfl) (fun w => by kernel_rfl) ?_
    exact QRun_done [0, 3, 4] (by kernel_rfl) (by kernel_rfl)
  obtain ⟨x1, gx1, hF⟩ := M.bind_some hF
  obtain ⟨hloy1, hhiy1, gx1⟩ := M.for_start gx1
  refine Run_join (fun L' h' => L' = [(3, .slice a1 l1.length l1.length)] ∧ Hold h h' [own cd23 a1 l1.length l1.length x1]) ?_ ?_
  · rintro _ h3 ⟨rfl, H3⟩
    refine Run_seq ?_
    refine Run_reg 2 (by kernel_rfl) (L' := [(2, .slice a1 l1.length l1.length)]) ?_ ?_
    · refine QRun_b [.slice a1 l1.length l1.length, .slice a1 l1.length l1.length] 0 _ (by kernel_rfl) (fun w => by kernel_rfl) ?_
      exact QRun_done [2] (by kernel_rfl) (by kernel_rfl)
    have hF := M.ret_some hF
    subst hF
    have H10 := H3.norm
    exact Run_ret1 rfl (ResV_tmp (v := .slice a1 l1.length l1.length) (by kernel_rfl)) ⟨a1, l1.length, (by simp only [(H3.len 0 rfl)]), H10⟩
  · refine Run_block ?_
    refine Run_keep [0, 3, 4] (L' := [(0, .slice aa_ a_.length ca_), (3, .slice a1 l1.length l1.length), (4, .int .i64 0)]) (by kernel_rfl) ?_
    refine Run_loop (fun m L' h' => ∃ (i1 : Int) (s1 : (List (List Int))), 0 ≤ i1 ∧ M.forN (a_.length : Int) _ _ n m i1 s1 = some x1 ∧ L' = [(0, .slice aa_ a_.length ca_), (3, .slice a1 l1.length l1.length), (4, .int .i64 i1)] ∧ Hold h h' [own cd23 a1 l1.length l1.length s1]) ((a_.length : Int) - 0 : Int).toNat ⟨0, l1, Int.le_refl _, gx1, rfl, H1⟩ ?_
    rintro my1 _ h2 ⟨i1, s1, hloy1', gx1, rfl, H2⟩
    refine Run_seq ?_
    refine Run_seq ?_
    refine Run_reg 4 (by kernel_rfl) (L' := [(0, .slice aa_ a_.length ca_), (3, .slice a1 l1.length l1.length), (4, .int .i64 i1), (11, .bool (decide (i1 < (a_.length : Int))))]) ?_ ?_
    · refine QRun_b [.int .i64 i1, .slice aa_ a_.length ca_, .int .i64 (a_.length : Int), .bool (decide (i1 < (a_.length : Int)))] 0 _ (by kernel_rfl) (fun w => by kernel_rfl) ?_
      exact QRun_done [0, 3, 4, 11] (by kernel_rfl) (by kernel_rfl)
    refine Run_cond (b := decide (i1 < (a_.length : Int))) (by kernel_rfl) (fun hb1 => ?_) (fun hb1 => ?_)
    · obtain ⟨my1, y1, rfl, hB1, hgoy1, houty1⟩ := M.for_go gx1 hb1
      have hlty1 := of_decide_eq_true hb1
      refine Run_skip ?_
      refine Run_seq ?_
      refine Run_block ?_
      refine Run_ops ?_
      obtain ⟨x2, hx1, hB1⟩ := M.bind_some hB1
      obtain ⟨hx1l, hx1u, hx1⟩ := M.idx_some hx1
      obtain ⟨a2, c1, hc1, r1⟩ := ra_.row hx1
      refine Run_b [.slice a1 l1.length l1.length, .int .i64 i1, .slice aa_ a_.length ca_, .int .i64 i1] 0 _ (by kernel_rfl) (fun w => by kernel_rfl) ?_
      refine Run_y (.pointer (some (adr aa_ (i1.toNat * 1)))) (by kernel_rfl) (Y_idx (t := 22) (e := 23) (sz := 1) (a := aa_) (n := a_.length) (cap := ca_) (kk := .i64) (i := i1) (by kernel_rfl) Try.underlying22 (by kernel_rfl) ((ra_.at H2.ext).cell hx1).1 hx1l hx1u) ?_
      refine Run_y (.slice a2 x2.length c1) (by kernel_rfl) (Y_load1 (t := 23) (p := adr aa_ (i1.toNat * 1)) (v := .slice a2 x2.length c1) (by kernel_rfl) (fun w => by kernel_rfl) (cell_at H2.ext hc1)) ?_
      obtain ⟨x3, hx2, hB1⟩ := M.bind_some hB1
      refine Run_E (by kernel_rfl) ?_
      refine E_call (f := 12) (args := #[.slice a2 x2.length c1]) (w_laws_toInt64S h2 x2 a2 c1 (r1.at H2.ext) _ _ hx2) (by kernel_rfl) (fun v1 h4 hp1 => ?_)
      obtain ⟨a3, c2, rfl, H4⟩ := hp1
      have H5 : Hold h h4 [own cd2 a3 x3.length c2 x3, own cd23 a1 l1.length l1.length s1] := H2.call H4 rfl
      obtain ⟨x4, hx3, hB1⟩ := M.bind_some hB1
      obtain ⟨hx3l, hx3u, hx3⟩ := M.idx_some hx3
      refine Run_y (.pointer (some (adr a1 (i1.toNat * 1)))) (by kernel_rfl) (Y_idx (t := 22) (e := 23) (sz := 1) (a := a1) (n := l1.length) (cap := l1.length) (kk := .i64) (i := i1) (by kernel_rfl) Try.underlying22 (by kernel_rfl) ((H5.rd 1 rfl).cell hx3).1 hx3l (by rw [← (H5.len 1 rfl)]; exact hx3u)) ?_
      obtain ⟨l2, hu1, hB1⟩ := M.bind_some hB1
      have hu1 := M.upd_some hu1
      have H7 : Hold h h4 [own cd23 a1 l1.length l1.length s1, own cd2 a3 x3.length c2 x3] := H5.pick [1, 0] (by kernel_rfl)
      have H8 : Hold h h4 [own cd2 a3 x3.length c2 x3, own cd23 a1 l1.length l1.length s1] := H7.pick [1, 0] (by kernel_rfl)
      have H9 : Hold h h4 [own cd23 a1 l1.length l1.length s1, own cd2 a3 x3.length c2 x3] := H8.pick [1, 0] (by kernel_rfl)
      refine Run_E (by kernel_rfl) ?_
      refine E_putRow (t := 23) (j := i1) H9 (by kernel_rfl) (by kernel_rfl) hu1 (fun h5 H6 => ?_)
      refine Run_nil (by kernel_rfl) ?_
      refine Run_keep [0, 3, 4] (L' := [(0, .slice aa_ a_.length ca_), (3, .slice a1 l1.length l1.length), (4, .int .i64 i1)]) (by kernel_rfl) ?_
      refine Run_blk ?_
      refine Run_reg 3 (by kernel_rfl) (L' := [(0, .slice aa_ a_.length ca_), (3, .slice a1 l1.length l1.length), (4, .int .i64 (i1 + 1))]) ?_ ?_
      · refine QRun_b [.int .i64 i1] 0 _ (by kernel_rfl) (fun w => by kernel_rfl) ?_
        refine QRun_y (.int .i64 (i1 + 1)) (by kernel_rfl) (Y_eq (v := .int .i64 (w64 (i1 + 1))) (Y_pure (fun w => by kernel_rfl)) (by rw [w64_eq _ (by omega)])) ?_
        refine QRun_b [.int .i64 (i1 + 1)] 2 _ (by kernel_rfl) (fun w => by kernel_rfl) ?_
        exact QRun_done [0, 3, 4] (by kernel_rfl) (by kernel_rfl)
      have hB1 := M.ret_some hB1
      have gx1 := hgoy1 _ hB1.symm
      exact Run_again [0, 3, 4] (by kernel_rfl) my1 (Nat.lt_succ_self _) ⟨i1 + 1, l2, by omega, gx1, rfl, H6⟩
    · have gx1 := M.for_end gx1 hb1
      subst gx1
      refine Run_exit (k' := _) rfl ?_
      exact Run_fall [3] (by kernel_rfl) ⟨rfl, H2⟩

set_option maxRecDepth 100000 in
set_option maxHeartbeats 4000000 in
theorem w_spec_l01In (h : Heap) (n_ : Int) (low : Int) (high : Int) (n : Nat) (r : Bool) (hF : spec_l01In n_ low high n = some r) :
    Fn Try.prog 75 #[.int .i64 n_, .int .i64 low, .int .i64 high] h fun v h' => v = .bool r ∧ h' = h := by
  unfold spec_l01In at hF
  refine Fn_enter (args := [.int .i64 n_, .int .i64 low, .int .i64 high]) Try.func75 rfl (by kernel_rfl) (by kernel_rfl) (fun w0 _ => ?_)
  refine Run_seq ?_
  refine Run_reg 1 (by kernel_rfl) (L' := [(0, .int .i64 n_), (1, .int .i64 low), (2, .int .i64 high)]) ?_ ?_
  · refine QRun_b [.bool false] 0 _ (by kernel_rfl) (fun w => by kernel_rfl) ?_
    exact QRun_done [0, 1, 2] (by kernel_rfl) (by kernel_rfl)
  refine Run_seq ?_
  refine Run_reg 9 (by kernel_rfl) (L' := [(6, .bool ((decide (low ≤ n_)) && (decide (n_ ≤ high))))]) ?_ ?_
  · refine QRun_b [.int .i64 n_, .int .i64 low, .bool (decide (low ≤ n_))] 0 _ (by kernel_rfl) (fun w => by kernel_rfl) ?_
    refine QRun_seq 8 [(14, .bool ((decide (low ≤ n_)) && (decide (n_ ≤ high))))] ?_ ?_
    · rcases Bool.eq_false_or_eq_true (decide (low ≤ n_)) with hb1 | hb1
      · refine QRun_bool (decide (low ≤ n_)) true (by kernel_rfl) (fun w => by kernel_rfl) hb1 ?_
        refine QRun_b [.int .i64 n_, .int .i64 high, .bool (decide (n_ ≤ high))] 4 _ (by kernel_rfl) (fun w => by kernel_rfl) ?_
        refine QRun_bool (decide (n_ ≤ high)) ((decide (low ≤ n_)) && (decide (n_ ≤ high))) (by kernel_rfl) (fun w => by kernel_rfl) (by rw [hb1]; rfl) ?_
        exact QRun_done [14] (by kernel_rfl) (by kernel_rfl)
      · refine QRun_bool (decide (low ≤ n_)) false (by kernel_rfl) (fun w => by kernel_rfl) hb1 ?_
        refine QRun_n (by kernel_rfl) ?_
        refine QRun_n (by kernel_rfl) ?_
        refine QRun_n (by kernel_rfl) ?_
        refine QRun_bool false ((decide (low ≤ n_)) && (decide (n_ ≤ high))) (by kernel_rfl) (fun w => by kernel_rfl) (by rw [hb1]; rfl) ?_
        exact QRun_done [14] (by kernel_rfl) (by kernel_rfl)
    refine QRun_b [.bool ((decide (low ≤ n_)) && (decide (n_ ≤ high)))] 8 _ (by kernel_rfl) (fun w => by kernel_rfl) ?_
    exact QRun_done [6] (by kernel_rfl) (by kernel_rfl)
  have hF := M.ret_some hF
  subst hF
  exact Run_ret1 rfl (ResV_tmp (v := .bool ((decide (low ≤ n_)) && (decide (n_ ≤ high)))) (by kernel_rfl)) ⟨rfl, rfl⟩

set_option maxRecDepth 100000 in
set_option maxHeartbeats 4000000 in
theorem w_spec_l01Finite (h : Heap) (a_ : Int) (n : Nat) (r : Bool) (hF : spec_l01Finite a_ n = some r) :
    Fn Try.prog 101 #[.int .i64 a_] h fun v h' => v = .bool r ∧ h' = h := by
  unfold spec_l01Finite at hF
  refine Fn_enter (args := [.int .i64 a_]) Try.func101 rfl (by kernel_rfl) (by kernel_rfl) (fun w0 _ => ?_)
  refine Run_seq ?_
  refine Run_reg 1 (by kernel_rfl) (L' := [(0, .int .i64 a_)]) ?_ ?_
  · refine QRun_b [.bool false] 0 _ (by kernel_rfl) (fun w => by kernel_rfl) ?_
    exact QRun_done [0] (by kernel_rfl) (by kernel_rfl)
  refine Run_seq ?_
  obtain ⟨x1, hx1, hF⟩ := M.bind_some hF
  refine Run_reg 3 (by kernel_rfl) (L' := [(2, .bool x1)]) ?_ ?_
  · refine QRun_b [.int .i64 a_] 0 _ (by kernel_rfl) (fun w => by kernel_rfl) ?_
    refine QRun_y (.bool x1) (by kernel_rfl) (Y_callq (f := 75) (args := #[.int .i64 a_, .int .i64 (-1000000), .int .i64 1000000]) (v := .bool x1) (by kernel_rfl) (w_spec_l01In h a_ (-1000000) 1000000 _ _ hx1)) ?_
    refine QRun_b [.bool x1] 2 _ (by kernel_rfl) (fun w => by kernel_rfl) ?_
    exact QRun_done [2] (by kernel_rfl) (by kernel_rfl)
  have hF := M.ret_some hF
  subst hF
  exact Run_ret1 rfl (ResV_tmp (v := .bool x1) (by kernel_rfl)) ⟨rfl, rfl⟩

set_option maxRecDepth 100000 in
set_option maxHeartbeats 4000000 in
theorem w_spec_IsValue (h : Heap) (a_ : Int) (n : Nat) (r : Bool) (hF : spec_IsValue a_ n = some r) :
    Fn Try.prog 134 #[.int .i64 a_] h fun v h' => v = .bool r ∧ h' = h := by
  unfold spec_IsValue at hF
  refine Fn_enter (args := [.int .i64 a_]) Try.func134 rfl (by kernel_rfl) (by kernel_rfl) (fun w0 _ => ?_)
  refine Run_seq ?_
  refine Run_reg 1 (by kernel_rfl) (L' := [(0, .int .i64 a_)]) ?_ ?_
  · refine QRun_b [.bool false] 0 _ (by kernel_rfl) (fun w => by kernel_rfl) ?_
    exact QRun_done [0] (by kernel_rfl) (by kernel_rfl)
  refine Run_seq ?_
  obtain ⟨x1, gx1, hF⟩ := M.bind_some hF
  refine Run_reg 7 (by kernel_rfl) (L' := [(2, .bool x1)]) ?_ ?_
  · refine QRun_b [.int .i64 a_, .bool (a_ == (-1000000000000000))] 0 _ (by kernel_rfl) (fun w => by kernel_rfl) ?_
    refine QRun_seq 6 [(8, .bool x1)] ?_ ?_
    · rcases Bool.eq_false_or_eq_true (a_ == (-1000000000000000)) with hb1 | hb1
      · refine QRun_bool (a_ == (-1000000000000000)) true (by kernel_rfl) (fun w => by kernel_rfl) hb1 ?_
        have gx1 := M.ret_some ((M.ite_some gx1).1 hb1)
        refine QRun_n (by kernel_rfl) ?_
        refine QRun_n (by kernel_rfl) ?_
        refine QRun_bool true x1 (by kernel_rfl) (fun w => by kernel_rfl) gx1 ?_
        exact QRun_done [8] (by kernel_rfl) (by kernel_rfl)
      · refine QRun_bool (a_ == (-1000000000000000)) false (by kernel_rfl) (fun w => by kernel_rfl) hb1 ?_
        have gx1 := (M.ite_some gx1).2 hb1
        obtain ⟨x2, hx1, gx1⟩ := M.bind_some gx1
        have gx1 := M.ret_some gx1
        refine QRun_b [.int .i64 a_] 3 _ (by kernel_rfl) (fun w => by kernel_rfl) ?_
        refine QRun_y (.bool x2) (by kernel_rfl) (Y_callq (f := 101) (args := #[.int .i64 a_]) (v := .bool x2) (by kernel_rfl) (w_spec_l01Finite h a_ _ _ hx1)) ?_
        refine QRun_bool x2 x1 (by kernel_rfl) (fun w => by kernel_rfl) gx1 ?_
        exact QRun_done [8] (by kernel_rfl) (by kernel_rfl)
    refine QRun_b [.bool x1] 6 _ (by kernel_rfl) (fun w => by kernel_rfl) ?_
    exact QRun_done [2] (by kernel_rfl) (by kernel_rfl)
  have hF := M.ret_some hF
  subst hF
  exact Run_ret1 rfl (ResV_tmp (v := .bool x1) (by kernel_rfl)) ⟨rfl, rfl⟩

set_option maxRecDepth 100000 in
set_option maxHeartbeats 4000000 in
theorem w_spec_l01All (h : Heap) (list : List Int) {Slist : Bs} (alist : Option Addr) (clist : Nat) (rlist : Rd cd2 h Slist alist clist list) (finite : Bool) (n : Nat) (r : Bool) (hF : spec_l01All list finite n = some r) :
    Fn Try.prog 144 #[.slice alist list.length clist, .bool finite] h fun v h' => v = .bool r ∧ h' = h := by
  unfold spec_l01All at hF
  refine Fn_enter (args := [.slice alist list.length clist, .bool finite]) Try.func144 rfl (by kernel_rfl) (by kernel_rfl) (fun w0 _ => ?_)
  refine Run_seq ?_
  refine Run_reg 1 (by kernel_rfl) (L' := [(0, .slice alist list.length clist), (1, .bool finite)]) ?_ ?_
  · refine QRun_b [.bool false] 0 _ (by kernel_rfl) (fun w => by kernel_rfl) ?_
    exact QRun_done [0, 1] (by kernel_rfl) (by kernel_rfl)
  refine Run_seq ?_
  refine Run_seq ?_
  refine Run_reg 1 (by kernel_rfl) (L' := [(0, .slice alist list.length clist), (1, .bool finite), (5, .int .i64 0)]) ?_ ?_
  · refine QRun_b [.int .i64 0] 0 _ (by kernel_rfl) (fun w => by kernel_rfl) ?_
    exact QRun_done [0, 1, 5] (by kernel_rfl) (by kernel_rfl)
  obtain ⟨x1, gx1, hF⟩ := M.bind_some hF
  obtain ⟨hloy1, hhiy1, gx1⟩ := M.for_start gx1
  refine Run_join (fun L' h' => ∃ (s2 : Unit), x1 = .inl s2 ∧ L' = [] ∧ h = h') ?_ ?_
  · rintro _ _ ⟨s2, es2, rfl, rfl⟩
    have hF := M.cont_inl' hF es2
    refine Run_seq ?_
    refine Run_reg 1 (by kernel_rfl) (L' := [(4, .bool true)]) ?_ ?_
    · refine QRun_b [.bool true] 0 _ (by kernel_rfl) (fun w => by kernel_rfl) ?_
      exact QRun_done [4] (by kernel_rfl) (by kernel_rfl)
    have hF := M.ret_some hF
    subst hF
    exact Run_ret1 rfl (ResV_tmp (v := .bool true) (by kernel_rfl)) ⟨rfl, rfl⟩
  · refine Run_block ?_
    refine Run_keep [0, 1, 5] (L' := [(0, .slice alist list.length clist), (1, .bool finite), (5, .int .i64 0)]) (by kernel_rfl) ?_
    refine Run_loop (fun m L' h' => ∃ (i1 : Int) (s1 : Unit), 0 ≤ i1 ∧ M.forN (list.length : Int) _ _ n m i1 s1 = some x1 ∧ L' = [(0, .slice alist list.length clist), (1, .bool finite), (5, .int .i64 i1)] ∧ h = h') ((list.length : Int) - 0 : Int).toNat ⟨0, (), Int.le_refl _, gx1, rfl, rfl⟩ ?_
    rintro my1 _ _ ⟨i1, s1, hloy1', gx1, rfl, rfl⟩
    refine Run_seq ?_
    refine Run_seq ?_
    refine Run_reg 4 (by kernel_rfl) (L' := [(0, .slice alist list.length clist), (1, .bool finite), (5, .int .i64 i1), (9, .bool (decide (i1 < (list.length : Int))))]) ?_ ?_
    · refine QRun_b [.int .i64 i1, .slice alist list.length clist, .int .i64 (list.length : Int), .bool (decide (i1 < (list.length : Int)))] 0 _ (by kernel_rfl) (fun w => by kernel_rfl) ?_
      exact QRun_done [0, 1, 5, 9] (by kernel_rfl) (by kernel_rfl)
    refine Run_cond (b := decide (i1 < (list.length : Int))) (by kernel_rfl) (fun hb1 => ?_) (fun hb1 => ?_)
    · obtain ⟨my1, y1, rfl, hB1, hgoy1, houty1⟩ := M.for_go gx1 hb1
      have hlty1 := of_decide_eq_true hb1
      refine Run_skip ?_
      refine Run_seq ?_
      refine Run_block ?_
      refine Run_seq ?_
      obtain ⟨x2, hx1, hB1⟩ := M.bind_some hB1
      obtain ⟨hx1l, hx1u, hx1⟩ := M.idx_some hx1
      obtain ⟨x3, hx2, hB1⟩ := M.bind_some hB1
      obtain ⟨x4, gx4, hB1⟩ := M.bind_some hB1
      refine Run_reg 16 (by kernel_rfl) (L' := [(0, .slice alist list.length clist), (1, .bool finite), (5, .int .i64 i1), (27, .bool x4)]) ?_ ?_
      · refine QRun_b [.slice alist list.length clist, .int .i64 i1] 0 _ (by kernel_rfl) (fun w => by kernel_rfl) ?_
        refine QRun_y (.pointer (some (adr alist (i1.toNat * 1)))) (by kernel_rfl) (Y_idx (t := 23) (e := 2) (sz := 1) (a := alist) (n := list.length) (cap := clist) (kk := .i64) (i := i1) (by kernel_rfl) Try.underlying23 (by kernel_rfl) (rlist.cell hx1).1 hx1l hx1u) ?_
        refine QRun_y (.int .i64 x2) (by kernel_rfl) (Y_load1 (t := 2) (p := adr alist (i1.toNat * 1)) (v := .int .i64 x2) (by kernel_rfl) (fun w => by kernel_rfl) (cd2_cell rlist hx1)) ?_
        refine QRun_y (.bool x3) (by kernel_rfl) (Y_callq (f := 134) (args := #[.int .i64 x2]) (v := .bool x3) (by kernel_rfl) (w_spec_IsValue h x2 _ _ hx2)) ?_
        refine QRun_b [.bool (!x3)] 5 _ (by kernel_rfl) (fun w => by kernel_rfl) ?_
        refine QRun_seq 16 [(0, .slice alist list.length clist), (1, .bool finite), (5, .int .i64 i1), (27, .bool x4)] ?_ ?_
        · rcases Bool.eq_false_or_eq_true (!x3) with hb2 | hb2
          · refine QRun_bool (!x3) true (by kernel_rfl) (fun w => by kernel_rfl) hb2 ?_
            have gx4 := M.ret_some ((M.ite_some gx4).1 hb2)
            refine QRun_n (by kernel_rfl) ?_
            refine QRun_n (by kernel_rfl) ?_
            refine QRun_n (by kernel_rfl) ?_
            refine QRun_n (by kernel_rfl) ?_
            refine QRun_n (by kernel_rfl) ?_
            refine QRun_n (by kernel_rfl) ?_
            refine QRun_n (by kernel_rfl) ?_
            refine QRun_n (by kernel_rfl) ?_
            refine QRun_bool true x4 (by kernel_rfl) (fun w => by kernel_rfl) gx4 ?_
            exact QRun_done [0, 1, 5, 27] (by kernel_rfl) (by kernel_rfl)
          · refine QRun_bool (!x3) false (by kernel_rfl) (fun w => by kernel_rfl) hb2 ?_
            have gx4 := (M.ite_some gx4).2 hb2
            obtain ⟨x5, gx5, gx4⟩ := M.bind_some gx4
            have gx4 := M.ret_some gx4
            refine QRun_b [.bool finite] 7 _ (by kernel_rfl) (fun w => by kernel_rfl) ?_
            refine QRun_seq 15 [(0, .slice alist list.length clist), (1, .bool finite), (5, .int .i64 i1), (18, .bool false), (26, .bool x5)] ?_ ?_
            · rcases Bool.eq_false_or_eq_true finite with hb3 | hb3
              · refine QRun_bool finite true (by kernel_rfl) (fun w => by kernel_rfl) hb3 ?_
                have gx5 := (M.ite_some gx5).1 hb3
                obtain ⟨x6, hx3, gx5⟩ := M.bind_some gx5
                obtain ⟨hx3l, hx3u, hx3⟩ := M.idx_some hx3
                have gx5 := M.ret_some gx5
                refine QRun_b [.slice alist list.length clist, .int .i64 i1] 9 _ (by kernel_rfl) (fun w => by kernel_rfl) ?_
                refine QRun_y (.pointer (some (adr alist (i1.toNat * 1)))) (by kernel_rfl) (Y_idx (t := 23) (e := 2) (sz := 1) (a := alist) (n := list.length) (cap := clist) (kk := .i64) (i := i1) (by kernel_rfl) Try.underlying23 (by kernel_rfl) (rlist.cell hx3).1 hx3l hx3u) ?_
                refine QRun_y (.int .i64 x6) (by kernel_rfl) (Y_load1 (t := 2) (p := adr alist (i1.toNat * 1)) (v := .int .i64 x6) (by kernel_rfl) (fun w => by kernel_rfl) (cd2_cell rlist hx3)) ?_
                refine QRun_b [.bool (x6 == (-1000000000000000))] 13 _ (by kernel_rfl) (fun w => by kernel_rfl) ?_
                refine QRun_bool (x6 == (-1000000000000000)) x5 (by kernel_rfl) (fun w => by kernel_rfl) gx5 ?_
                exact QRun_done [0, 1, 5, 18, 26] (by kernel_rfl) (by kernel_rfl)
              · refine QRun_bool finite false (by kernel_rfl) (fun w => by kernel_rfl) hb3 ?_
                have gx5 := M.ret_some ((M.ite_some gx5).2 hb3)
                refine QRun_n (by kernel_rfl) ?_
                refine QRun_n (by kernel_rfl) ?_
                refine QRun_n (by kernel_rfl) ?_
                refine QRun_n (by kernel_rfl) ?_
                refine QRun_n (by kernel_rfl) ?_
                refine QRun_bool false x5 (by kernel_rfl) (fun w => by kernel_rfl) gx5 ?_
                exact QRun_done [0, 1, 5, 18, 26] (by kernel_rfl) (by kernel_rfl)
            refine QRun_bool x5 x4 (by kernel_rfl) (fun w => by kernel_rfl) gx4 ?_
            exact QRun_done [0, 1, 5, 27] (by kernel_rfl) (by kernel_rfl)
        exact QRun_done [0, 1, 5, 27] (by kernel_rfl) (by kernel_rfl)
      refine Run_cond (b := x4) (by kernel_rfl) (fun hb4 => ?_) (fun hb4 => ?_)
      · have hB1 := (M.ite_some hB1).1 hb4
        refine Run_seq ?_
        refine Run_reg 1 (by kernel_rfl) (L' := [(4, .bool false)]) ?_ ?_
        · refine QRun_b [.bool false] 0 _ (by kernel_rfl) (fun w => by kernel_rfl) ?_
          exact QRun_done [4] (by kernel_rfl) (by kernel_rfl)
        have hB1 := M.ret_some hB1
        have gx1 := houty1 _ hB1.symm
        have hF := M.cont_inr' hF gx1
        have hF := M.ret_some hF
        subst hF
        exact Run_ret1 rfl (ResV_tmp (v := .bool false) (by kernel_rfl)) ⟨rfl, rfl⟩
      · have hB1 := (M.ite_some hB1).2 hb4
        refine Run_skip ?_
        refine Run_blk ?_
        refine Run_reg 3 (by kernel_rfl) (L' := [(0, .slice alist list.length clist), (1, .bool finite), (5, .int .i64 (i1 + 1))]) ?_ ?_
        · refine QRun_b [.int .i64 i1] 0 _ (by kernel_rfl) (fun w => by kernel_rfl) ?_
          refine QRun_y (.int .i64 (i1 + 1)) (by kernel_rfl) (Y_eq (v := .int .i64 (w64 (i1 + 1))) (Y_pure (fun w => by kernel_rfl)) (by rw [w64_eq _ (by omega)])) ?_
          refine QRun_b [.int .i64 (i1 + 1)] 2 _ (by kernel_rfl) (fun w => by kernel_rfl) ?_
          exact QRun_done [0, 1, 5] (by kernel_rfl) (by kernel_rfl)
        have hB1 := M.ret_some hB1
        have gx1 := hgoy1 _ hB1.symm
        exact Run_again [0, 1, 5] (by kernel_rfl) my1 (Nat.lt_succ_self _) ⟨i1 + 1, (), by omega, gx1, rfl, rfl⟩
    · have gx1 := M.for_end gx1 hb1
      subst gx1
      refine Run_exit (k' := _) rfl ?_
      exact Run_fall [] (by kernel_rfl) ⟨(), rfl, rfl, rfl⟩

set_option maxRecDepth 100000 in
set_option maxHeartbeats 4000000 in
theorem w_spec_l02Vector (h : Heap) (x_ : List Int) {Sx_ : Bs} (ax_ : Option Addr) (cx_ : Nat) (rx_ : Rd cd2 h Sx_ ax_ cx_ x_) (n : Nat) (r : Bool) (hF : spec_l02Vector x_ n = some r) :
    Fn Try.prog 99 #[.slice ax_ x_.length cx_] h fun v h' => v = .bool r ∧ h' = h := by
  unfold spec_l02Vector at hF
  refine Fn_enter (args := [.slice ax_ x_.length cx_]) Try.func99 rfl (by kernel_rfl) (by kernel_rfl) (fun w0 _ => ?_)
  refine Run_seq ?_
  refine Run_reg 1 (by kernel_rfl) (L' := [(0, .slice ax_ x_.length cx_)]) ?_ ?_
  · refine QRun_b [.bool false] 0 _ (by kernel_rfl) (fun w => by kernel_rfl) ?_
    exact QRun_done [0] (by kernel_rfl) (by kernel_rfl)
  refine Run_seq ?_
  obtain ⟨x1, hx1, hF⟩ := M.bind_some hF
  obtain ⟨x2, gx2, hF⟩ := M.bind_some hF
  refine Run_reg 8 (by kernel_rfl) (L' := [(2, .bool x2)]) ?_ ?_
  · refine QRun_b [.slice ax_ x_.length cx_, .int .i64 (x_.length : Int)] 0 _ (by kernel_rfl) (fun w => by kernel_rfl) ?_
    refine QRun_y (.bool x1) (by kernel_rfl) (Y_callq (f := 75) (args := #[.int .i64 (x_.length : Int), .int .i64 1, .int .i64 10]) (v := .bool x1) (by kernel_rfl) (w_spec_l01In h (x_.length : Int) 1 10 _ _ hx1)) ?_
    refine QRun_seq 7 [(9, .bool x2)] ?_ ?_
    · rcases Bool.eq_false_or_eq_true x1 with hb1 | hb1
      · refine QRun_bool x1 true (by kernel_rfl) (fun w => by kernel_rfl) hb1 ?_
        have gx2 := (M.ite_some gx2).1 hb1
        obtain ⟨x3, hx2, gx2⟩ := M.bind_some gx2
        have gx2 := M.ret_some gx2
        refine QRun_b [.slice ax_ x_.length cx_] 4 _ (by kernel_rfl) (fun w => by kernel_rfl) ?_
        refine QRun_y (.bool x3) (by kernel_rfl) (Y_callq (f := 144) (args := #[.slice ax_ x_.length cx_, .bool false]) (v := .bool x3) (by kernel_rfl) (w_spec_l01All h x_ ax_ cx_ rx_ false _ _ hx2)) ?_
        refine QRun_bool x3 x2 (by kernel_rfl) (fun w => by kernel_rfl) gx2 ?_
        exact QRun_done [9] (by kernel_rfl) (by kernel_rfl)
      · refine QRun_bool x1 false (by kernel_rfl) (fun w => by kernel_rfl) hb1 ?_
        have gx2 := M.ret_some ((M.ite_some gx2).2 hb1)
        refine QRun_n (by kernel_rfl) ?_
        refine QRun_n (by kernel_rfl) ?_
        refine QRun_bool false x2 (by kernel_rfl) (fun w => by kernel_rfl) gx2 ?_
        exact QRun_done [9] (by kernel_rfl) (by kernel_rfl)
    refine QRun_b [.bool x2] 7 _ (by kernel_rfl) (fun w => by kernel_rfl) ?_
    exact QRun_done [2] (by kernel_rfl) (by kernel_rfl)
  have hF := M.ret_some hF
  subst hF
  exact Run_ret1 rfl (ResV_tmp (v := .bool x2) (by kernel_rfl)) ⟨rfl, rfl⟩

set_option maxRecDepth 100000 in
set_option maxHeartbeats 4000000 in
theorem w_spec_IsMatrix (h : Heap) (a_ : List (List Int)) {Sa_ : Bs} (aa_ : Option Addr) (ca_ : Nat) (ra_ : Rd cd23 h Sa_ aa_ ca_ a_) (n : Nat) (r : Bool) (hF : spec_IsMatrix a_ n = some r) :
    Fn Try.prog 131 #[.slice aa_ a_.length ca_] h fun v h' => v = .bool r ∧ h' = h := by
  unfold spec_IsMatrix at hF
  refine Fn_enter (args := [.slice aa_ a_.length ca_]) Try.func131 rfl (by kernel_rfl) (by kernel_rfl) (fun w0 _ => ?_)
  refine Run_seq ?_
  refine Run_reg 1 (by kernel_rfl) (L' := [(0, .slice aa_ a_.length ca_)]) ?_ ?_
  · refine QRun_b [.bool false] 0 _ (by kernel_rfl) (fun w => by kernel_rfl) ?_
    exact QRun_done [0] (by kernel_rfl) (by kernel_rfl)
  refine Run_seq ?_
  refine Run_seq ?_
  refine Run_reg 8 (by kernel_rfl) (L' := [(0, .slice aa_ a_.length ca_), (11, .bool ((decide ((a_.length : Int) < 1)) || (decide (10 < (a_.length : Int)))))]) ?_ ?_
  · refine QRun_b [.slice aa_ a_.length ca_, .int .i64 (a_.length : Int), .bool (decide ((a_.length : Int) < 1))] 0 _ (by kernel_rfl) (fun w => by kernel_rfl) ?_
    refine QRun_seq 8 [(0, .slice aa_ a_.length ca_), (11, .bool ((decide ((a_.length : Int) < 1)) || (decide (10 < (a_.length : Int)))))] ?_ ?_
    · rcases Bool.eq_false_or_eq_true (decide ((a_.length : Int) < 1)) with hb1 | hb1
      · refine QRun_bool (decide ((a_.length : Int) < 1)) true (by kernel_rfl) (fun w => by kernel_rfl) hb1 ?_
        refine QRun_n (by kernel_rfl) ?_
        refine QRun_n (by kernel_rfl) ?_
        refine QRun_n (by kernel_rfl) ?_
        refine QRun_bool true ((decide ((a_.length : Int) < 1)) || (decide (10 < (a_.length : Int)))) (by kernel_rfl) (fun w => by kernel_rfl) (by rw [hb1]; rfl) ?_
        exact QRun_done [0, 11] (by kernel_rfl) (by kernel_rfl)
      · refine QRun_bool (decide ((a_.length : Int) < 1)) false (by kernel_rfl) (fun w => by kernel_rfl) hb1 ?_
        refine QRun_b [.slice aa_ a_.length ca_, .int .i64 (a_.length : Int), .bool (decide (10 < (a_.length : Int)))] 4 _ (by kernel_rfl) (fun w => by kernel_rfl) ?_
        refine QRun_bool (decide (10 < (a_.length : Int))) ((decide ((a_.length : Int) < 1)) || (decide (10 < (a_.length : Int)))) (by kernel_rfl) (fun w => by kernel_rfl) (by rw [hb1]; rfl) ?_
        exact QRun_done [0, 11] (by kernel_rfl) (by kernel_rfl)
    exact QRun_done [0, 11] (by kernel_rfl) (by kernel_rfl)
  refine Run_cond (b := (decide ((a_.length : Int) < 1)) || (decide (10 < (a_.length : Int)))) (by kernel_rfl) (fun hb2 => ?_) (fun hb2 => ?_)
  · have hF := (M.ite_some hF).1 hb2
    refine Run_seq ?_
    refine Run_reg 1 (by kernel_rfl) (L' := [(2, .bool false)]) ?_ ?_
    · refine QRun_b [.bool false] 0 _ (by kernel_rfl) (fun w => by kernel_rfl) ?_
      exact QRun_done [2] (by kernel_rfl) (by kernel_rfl)
    have hF := M.ret_some hF
    subst hF
    exact Run_ret1 rfl (ResV_tmp (v := .bool false) (by kernel_rfl)) ⟨rfl, rfl⟩
  · have hF := (M.ite_some hF).2 hb2
    refine Run_skip ?_
    refine Run_seq ?_
    refine Run_seq ?_
    refine Run_reg 1 (by kernel_rfl) (L' := [(0, .slice aa_ a_.length ca_), (3, .int .i64 0)]) ?_ ?_
    · refine QRun_b [.int .i64 0] 0 _ (by kernel_rfl) (fun w => by kernel_rfl) ?_
      exact QRun_done [0, 3] (by kernel_rfl) (by kernel_rfl)
    obtain ⟨x2, gx2, hF⟩ := M.bind_some hF
    obtain ⟨hloy1, hhiy1, gx2⟩ := M.for_start gx2
    refine Run_join (fun L' h' => ∃ (s2 : Unit), x2 = .inl s2 ∧ L' = [] ∧ h = h') ?_ ?_
    · rintro _ _ ⟨s2, es2, rfl, rfl⟩
      have hF := M.cont_inl' hF es2
      refine Run_seq ?_
      refine Run_reg 1 (by kernel_rfl) (L' := [(2, .bool true)]) ?_ ?_
      · refine QRun_b [.bool true] 0 _ (by kernel_rfl) (fun w => by kernel_rfl) ?_
        exact QRun_done [2] (by kernel_rfl) (by kernel_rfl)
      have hF := M.ret_some hF
      subst hF
      exact Run_ret1 rfl (ResV_tmp (v := .bool true) (by kernel_rfl)) ⟨rfl, rfl⟩
    · refine Run_block ?_
      refine Run_keep [0, 3] (L' := [(0, .slice aa_ a_.length ca_), (3, .int .i64 0)]) (by kernel_rfl) ?_
      refine Run_loop (fun m L' h' => ∃ (i1 : Int) (s1 : Unit), 0 ≤ i1 ∧ M.forN (a_.length : Int) _ _ n m i1 s1 = some x2 ∧ L' = [(0, .slice aa_ a_.length ca_), (3, .int .i64 i1)] ∧ h = h') ((a_.length : Int) - 0 : Int).toNat ⟨0, (), Int.le_refl _, gx2, rfl, rfl⟩ ?_
      rintro my1 _ _ ⟨i1, s1, hloy1', gx2, rfl, rfl⟩
      refine Run_seq ?_
      refine Run_seq ?_
      refine Run_reg 4 (by kernel_rfl) (L' := [(0, .slice aa_ a_.length ca_), (3, .int .i64 i1), (15, .bool (decide (i1 < (a_.length : Int))))]) ?_ ?_
      · refine QRun_b [.int .i64 i1, .slice aa_ a_.length ca_, .int .i64 (a_.length : Int), .bool (decide (i1 < (a_.length : Int)))] 0 _ (by kernel_rfl) (fun w => by kernel_rfl) ?_
        exact QRun_done [0, 3, 15] (by kernel_rfl) (by kernel_rfl)
      refine Run_cond (b := decide (i1 < (a_.length : Int))) (by kernel_rfl) (fun hb3 => ?_) (fun hb3 => ?_)
      · obtain ⟨my1, y1, rfl, hB1, hgoy1, houty1⟩ := M.for_go gx2 hb3
        have hlty1 := of_decide_eq_true hb3
        refine Run_skip ?_
        refine Run_seq ?_
        refine Run_block ?_
        refine Run_seq ?_
        obtain ⟨x3, hx1, hB1⟩ := M.bind_some hB1
        obtain ⟨hx1l, hx1u, hx1⟩ := M.idx_some hx1
        obtain ⟨a1, c1, hc1, r1⟩ := ra_.row hx1
        obtain ⟨x4, hx2, hB1⟩ := M.bind_some hB1
        obtain ⟨x5, gx5, hB1⟩ := M.bind_some hB1
        refine Run_draw 18 mixed (by kernel_rfl) (by kernel_rfl) (L' := [(0, .slice aa_ a_.length ca_), (3, .int .i64 i1), (35, .bool x5)]) ?_ ?_
        · refine QRun_b [.slice aa_ a_.length ca_, .int .i64 i1] 0 _ (by kernel_rfl) (fun w => by kernel_rfl) ?_
          refine QRun_y (.pointer (some (adr aa_ (i1.toNat * 1)))) (by kernel_rfl) (Y_idx (t := 22) (e := 23) (sz := 1) (a := aa_) (n := a_.length) (cap := ca_) (kk := .i64) (i := i1) (by kernel_rfl) Try.underlying22 (by kernel_rfl) (ra_.cell hx1).1 hx1l hx1u) ?_
          refine QRun_y (.slice a1 x3.length c1) (by kernel_rfl) (Y_load1 (t := 23) (p := adr aa_ (i1.toNat * 1)) (v := .slice a1 x3.length c1) (by kernel_rfl) (fun w => by kernel_rfl) hc1) ?_
          refine QRun_y (.bool x4) (by kernel_rfl) (Y_callq (f := 99) (args := #[.slice a1 x3.length c1]) (v := .bool x4) (by kernel_rfl) (w_spec_l02Vector h x3 a1 c1 r1 _ _ hx2)) ?_
          refine QRun_b [.bool (!x4)] 5 _ (by kernel_rfl) (fun w => by kernel_rfl) ?_
          refine QRun_seq 18 [(0, .slice aa_ a_.length ca_), (3, .int .i64 i1), (35, .bool x5)] ?_ ?_
          · rcases Bool.eq_false_or_eq_true (!x4) with hb4 | hb4
            · refine QRun_bool (!x4) true (by kernel_rfl) (fun w => by kernel_rfl) hb4 ?_
              have gx5 := M.ret_some ((M.ite_some gx5).1 hb4)
              refine QRun_n (by kernel_rfl) ?_
              refine QRun_n (by kernel_rfl) ?_
              refine QRun_n (by kernel_rfl) ?_
              refine QRun_n (by kernel_rfl) ?_
              refine QRun_n (by kernel_rfl) ?_
              refine QRun_n (by kernel_rfl) ?_
              refine QRun_n (by kernel_rfl) ?_
              refine QRun_n (by kernel_rfl) ?_
              refine QRun_n (by kernel_rfl) ?_
              refine QRun_n (by kernel_rfl) ?_
              refine QRun_bool true x5 (by kernel_rfl) (fun w => by kernel_rfl) gx5 ?_
              exact QRun_done [0, 3, 35] (by kernel_rfl) (by kernel_rfl)
            · refine QRun_bool (!x4) false (by kernel_rfl) (fun w => by kernel_rfl) hb4 ?_
              have gx5 := (M.ite_some gx5).2 hb4
              obtain ⟨x6, hx3, gx5⟩ := M.bind_some gx5
              obtain ⟨hx3l, hx3u, hx3⟩ := M.idx_some hx3
              obtain ⟨a2, c2, hc2, r2⟩ := ra_.row hx3
              obtain ⟨x7, hx4, gx5⟩ := M.bind_some gx5
              obtain ⟨hx4l, hx4u, hx4⟩ := M.idx_some hx4
              obtain ⟨a3, c3, hc3, r3⟩ := ra_.row hx4
              have gx5 := M.ret_some gx5
              refine QRun_b [.slice aa_ a_.length ca_, .int .i64 i1] 7 _ (by kernel_rfl) (fun w => by kernel_rfl) ?_
              refine QRun_y (.pointer (some (adr aa_ (i1.toNat * 1)))) (by kernel_rfl) (Y_idx (t := 22) (e := 23) (sz := 1) (a := aa_) (n := a_.length) (cap := ca_) (kk := .i64) (i := i1) (by kernel_rfl) Try.underlying22 (by kernel_rfl) (ra_.cell hx3).1 hx3l hx3u) ?_
              refine QRun_y (.slice a2 x6.length c2) (by kernel_rfl) (Y_load1 (t := 23) (p := adr aa_ (i1.toNat * 1)) (v := .slice a2 x6.length c2) (by kernel_rfl) (fun w => by kernel_rfl) hc2) ?_
              refine QRun_b [.int .i64 (x6.length : Int), .slice aa_ a_.length ca_] 11 _ (by kernel_rfl) (fun w => by kernel_rfl) ?_
              refine QRun_y (.pointer (some (adr aa_ (0 * 1)))) (by kernel_rfl) (Y_idx (t := 22) (e := 23) (sz := 1) (a := aa_) (n := a_.length) (cap := ca_) (kk := .i64) (i := 0) (by kernel_rfl) Try.underlying22 (by kernel_rfl) (ra_.cell hx4).1 hx4l hx4u) ?_
              refine QRun_y (.slice a3 x7.length c3) (by kernel_rfl) (Y_load1 (t := 23) (p := adr aa_ (0 * 1)) (v := .slice a3 x7.length c3) (by kernel_rfl) (fun w => by kernel_rfl) hc3) ?_
              refine QRun_b [.int .i64 (x7.length : Int), .bool ((x6.length : Int) != (x7.length : Int))] 15 _ (by kernel_rfl) (fun w => by kernel_rfl) ?_
              refine QRun_bool ((x6.length : Int) != (x7.length : Int)) x5 (by kernel_rfl) (fun w => by kernel_rfl) gx5 ?_
              exact QRun_done [0, 3, 35] (by kernel_rfl) (by kernel_rfl)
          exact QRun_done [0, 3, 35] (by kernel_rfl) (by kernel_rfl)
        refine Run_cond (b := x5) (by kernel_rfl) (fun hb5 => ?_) (fun hb5 => ?_)
        · have hB1 := (M.ite_some hB1).1 hb5
          refine Run_seq ?_
          refine Run_reg 1 (by kernel_rfl) (L' := [(2, .bool false)]) ?_ ?_
          · refine QRun_b [.bool false] 0 _ (by kernel_rfl) (fun w => by kernel_rfl) ?_
            exact QRun_done [2] (by kernel_rfl) (by kernel_rfl)
          have hB1 := M.ret_some hB1
          have gx2 := houty1 _ hB1.symm
          have hF := M.cont_inr' hF gx2
          have hF := M.ret_some hF
          subst hF
          exact Run_ret1 rfl (ResV_tmp (v := .bool false) (by kernel_rfl)) ⟨rfl, rfl⟩
        · have hB1 := (M.ite_some hB1).2 hb5
          refine Run_skip ?_
          refine Run_blk ?_
          refine Run_reg 3 (by kernel_rfl) (L' := [(0, .slice aa_ a_.length ca_), (3, .int .i64 (i1 + 1))]) ?_ ?_
          · refine QRun_b [.int .i64 i1] 0 _ (by kernel_rfl) (fun w => by kernel_rfl) ?_
            refine QRun_y (.int .i64 (i1 + 1)) (by kernel_rfl) (Y_eq (v := .int .i64 (w64 (i1 + 1))) (Y_pure (fun w => by kernel_rfl)) (by rw [w64_eq _ (by omega)])) ?_
            refine QRun_b [.int .i64 (i1 + 1)] 2 _ (by kernel_rfl) (fun w => by kernel_rfl) ?_
            exact QRun_done [0, 3] (by kernel_rfl) (by kernel_rfl)
          have hB1 := M.ret_some hB1
          have gx2 := hgoy1 _ hB1.symm
          exact Run_again [0, 3] (by kernel_rfl) my1 (Nat.lt_succ_self _) ⟨i1 + 1, (), by omega, gx2, rfl, rfl⟩
      · have gx2 := M.for_end gx2 hb3
        subst gx2
        refine Run_exit (k' := _) rfl ?_
        exact Run_fall [] (by kernel_rfl) ⟨(), rfl, rfl, rfl⟩

set_option maxRecDepth 100000 in
set_option maxHeartbeats 4000000 in
theorem w_spec_l02Square (h : Heap) (a_ : List (List Int)) {Sa_ : Bs} (aa_ : Option Addr) (ca_ : Nat) (ra_ : Rd cd23 h Sa_ aa_ ca_ a_) (n : Nat) (r : Bool) (hF : spec_l02Square a_ n = some r) :
    Fn Try.prog 74 #[.slice aa_ a_.length ca_] h fun v h' => v = .bool r ∧ h' = h := by
  unfold spec_l02Square at hF
  refine Fn_enter (args := [.slice aa_ a_.length ca_]) Try.func74 rfl (by kernel_rfl) (by kernel_rfl) (fun w0 _ => ?_)
  refine Run_seq ?_
  refine Run_reg 1 (by kernel_rfl) (L' := [(0, .slice aa_ a_.length ca_)]) ?_ ?_
  · refine QRun_b [.bool false] 0 _ (by kernel_rfl) (fun w => by kernel_rfl) ?_
    exact QRun_done [0] (by kernel_rfl) (by kernel_rfl)
  refine Run_seq ?_
  obtain ⟨x1, hx1, hF⟩ := M.bind_some hF
  obtain ⟨x2, gx2, hF⟩ := M.bind_some hF
  refine Run_reg 12 (by kernel_rfl) (L' := [(2, .bool x2)]) ?_ ?_
  · refine QRun_b [.slice aa_ a_.length ca_] 0 _ (by kernel_rfl) (fun w => by kernel_rfl) ?_
    refine QRun_y (.bool x1) (by kernel_rfl) (Y_callq (f := 131) (args := #[.slice aa_ a_.length ca_]) (v := .bool x1) (by kernel_rfl) (w_spec_IsMatrix h a_ aa_ ca_ ra_ _ _ hx1)) ?_
    refine QRun_seq 11 [(13, .bool x2)] ?_ ?_
    · rcases Bool.eq_false_or_eq_true x1 with hb1 | hb1
      · refine QRun_bool x1 true (by kernel_rfl) (fun w => by kernel_rfl) hb1 ?_
        have gx2 := (M.ite_some gx2).1 hb1
        obtain ⟨x3, hx2, gx2⟩ := M.bind_some gx2
        obtain ⟨hx2l, hx2u, hx2⟩ := M.idx_some hx2
        obtain ⟨a1, c1, hc1, r1⟩ := ra_.row hx2
        have gx2 := M.ret_some gx2
        refine QRun_b [.slice aa_ a_.length ca_, .int .i64 (a_.length : Int), .slice aa_ a_.length ca_] 3 _ (by kernel_rfl) (fun w => by kernel_rfl) ?_
        refine QRun_y (.pointer (some (adr aa_ (0 * 1)))) (by kernel_rfl) (Y_idx (t := 22) (e := 23) (sz := 1) (a := aa_) (n := a_.length) (cap := ca_) (kk := .i64) (i := 0) (by kernel_rfl) Try.underlying22 (by kernel_rfl) (ra_.cell hx2).1 hx2l hx2u) ?_
        refine QRun_y (.slice a1 x3.length c1) (by kernel_rfl) (Y_load1 (t := 23) (p := adr aa_ (0 * 1)) (v := .slice a1 x3.length c1) (by kernel_rfl) (fun w => by kernel_rfl) hc1) ?_
        refine QRun_b [.int .i64 (x3.length : Int), .bool ((a_.length : Int) == (x3.length : Int))] 8 _ (by kernel_rfl) (fun w => by kernel_rfl) ?_
        refine QRun_bool ((a_.length : Int) == (x3.length : Int)) x2 (by kernel_rfl) (fun w => by kernel_rfl) gx2 ?_
        exact QRun_done [13] (by kernel_rfl) (by kernel_rfl)
      · refine QRun_bool x1 false (by kernel_rfl) (fun w => by kernel_rfl) hb1 ?_
        have gx2 := M.ret_some ((M.ite_some gx2).2 hb1)
        refine QRun_n (by kernel_rfl) ?_
        refine QRun_n (by kernel_rfl) ?_
        refine QRun_n (by kernel_rfl) ?_
        refine QRun_n (by kernel_rfl) ?_
        refine QRun_n (by kernel_rfl) ?_
        refine QRun_n (by kernel_rfl) ?_
        refine QRun_n (by kernel_rfl) ?_
        refine QRun_bool false x2 (by kernel_rfl) (fun w => by kernel_rfl) gx2 ?_
        exact QRun_done [13] (by kernel_rfl) (by kernel_rfl)
    refine QRun_b [.bool x2] 11 _ (by kernel_rfl) (fun w => by kernel_rfl) ?_
    exact QRun_done [2] (by kernel_rfl) (by kernel_rfl)
  have hF := M.ret_some hF
  subst hF
  exact Run_ret1 rfl (ResV_tmp (v := .bool x2) (by kernel_rfl)) ⟨rfl, rfl⟩

set_option maxRecDepth 100000 in
set_option maxHeartbeats 4000000 in
theorem w_spec_l07Code (h : Heap) (a_ : List (List Int)) {Sa_ : Bs} (aa_ : Option Addr) (ca_ : Nat) (ra_ : Rd cd23 h Sa_ aa_ ca_ a_) (x_ : List Int) {Sx_ : Bs} (ax_ : Option Addr) (cx_ : Nat) (rx_ : Rd cd2 h Sx_ ax_ cx_ x_) (n : Nat) (r : Int) (hF : spec_l07Code a_ x_ n = some r) :
    Fn Try.prog 87 #[.slice aa_ a_.length ca_, .slice ax_ x_.length cx_] h fun v h' => v = .int .i64 r ∧ h' = h := by
  unfold spec_l07Code at hF
  refine Fn_enter (args := [.slice aa_ a_.length ca_, .slice ax_ x_.length cx_]) Try.func87 rfl (by kernel_rfl) (by kernel_rfl) (fun w0 _ => ?_)
  refine Run_seq ?_
  refine Run_reg 1 (by kernel_rfl) (L' := [(0, .slice aa_ a_.length ca_), (1, .slice ax_ x_.length cx_)]) ?_ ?_
  · refine QRun_b [.int .i64 0] 0 _ (by kernel_rfl) (fun w => by kernel_rfl) ?_
    exact QRun_done [0, 1] (by kernel_rfl) (by kernel_rfl)
  refine Run_seq ?_
  refine Run_block ?_
  refine Run_seq ?_
  obtain ⟨x1, hx1, hF⟩ := M.bind_some hF
  obtain ⟨x2, gx2, hF⟩ := M.bind_some hF
  refine Run_reg 9 (by kernel_rfl) (L' := [(0, .slice aa_ a_.length ca_), (1, .slice ax_ x_.length cx_), (5, .bool x2)]) ?_ ?_
  · refine QRun_b [.slice aa_ a_.length ca_] 0 _ (by kernel_rfl) (fun w => by kernel_rfl) ?_
    refine QRun_y (.bool x1) (by kernel_rfl) (Y_callq (f := 74) (args := #[.slice aa_ a_.length ca_]) (v := .bool x1) (by kernel_rfl) (w_spec_l02Square h a_ aa_ ca_ ra_ _ _ hx1)) ?_
    refine QRun_b [.bool (!x1)] 2 _ (by kernel_rfl) (fun w => by kernel_rfl) ?_
    refine QRun_seq 8 [(0, .slice aa_ a_.length ca_), (1, .slice ax_ x_.length cx_), (13, .bool x2)] ?_ ?_
    · rcases Bool.eq_false_or_eq_true (!x1) with hb1 | hb1
      · refine QRun_bool (!x1) true (by kernel_rfl) (fun w => by kernel_rfl) hb1 ?_
        have gx2 := M.ret_some ((M.ite_some gx2).1 hb1)
        refine QRun_n (by kernel_rfl) ?_
        refine QRun_n (by kernel_rfl) ?_
        refine QRun_n (by kernel_rfl) ?_
        refine QRun_bool true x2 (by kernel_rfl) (fun w => by kernel_rfl) gx2 ?_
        exact QRun_done [0, 1, 13] (by kernel_rfl) (by kernel_rfl)
      · refine QRun_bool (!x1) false (by kernel_rfl) (fun w => by kernel_rfl) hb1 ?_
        have gx2 := (M.ite_some gx2).2 hb1
        obtain ⟨x3, hx2, gx2⟩ := M.bind_some gx2
        have gx2 := M.ret_some gx2
        refine QRun_b [.slice ax_ x_.length cx_] 4 _ (by kernel_rfl) (fun w => by kernel_rfl) ?_
        refine QRun_y (.bool x3) (by kernel_rfl) (Y_callq (f := 99) (args := #[.slice ax_ x_.length cx_]) (v := .bool x3) (by kernel_rfl) (w_spec_l02Vector h x_ ax_ cx_ rx_ _ _ hx2)) ?_
        refine QRun_b [.bool (!x3)] 6 _ (by kernel_rfl) (fun w => by kernel_rfl) ?_
        refine QRun_bool (!x3) x2 (by kernel_rfl) (fun w => by kernel_rfl) gx2 ?_
        exact QRun_done [0, 1, 13] (by kernel_rfl) (by kernel_rfl)
    refine QRun_b [.bool x2] 8 _ (by kernel_rfl) (fun w => by kernel_rfl) ?_
    exact QRun_done [0, 1, 5] (by kernel_rfl) (by kernel_rfl)
  refine Run_cond (b := x2) (by kernel_rfl) (fun hb2 => ?_) (fun hb2 => ?_)
  · have hF := (M.ite_some hF).1 hb2
    refine Run_seq ?_
    refine Run_reg 1 (by kernel_rfl) (L' := [(4, .int .i64 1)]) ?_ ?_
    · refine QRun_b [.int .i64 1] 0 _ (by kernel_rfl) (fun w => by kernel_rfl) ?_
      exact QRun_done [4] (by kernel_rfl) (by kernel_rfl)
    have hF := M.ret_some hF
    subst hF
    exact Run_ret1 rfl (ResV_tmp (v := .int .i64 1) (by kernel_rfl)) ⟨rfl, rfl⟩
  · have hF := (M.ite_some hF).2 hb2
    refine Run_seq ?_
    refine Run_reg 6 (by kernel_rfl) (L' := [(14, .bool ((x_.length : Int) != (a_.length : Int)))]) ?_ ?_
    · refine QRun_b [.slice ax_ x_.length cx_, .int .i64 (x_.length : Int), .slice aa_ a_.length ca_, .int .i64 (a_.length : Int), .bool ((x_.length : Int) != (a_.length : Int)), .bool ((x_.length : Int) != (a_.length : Int))] 0 _ (by kernel_rfl) (fun w => by kernel_rfl) ?_
      exact QRun_done [14] (by kernel_rfl) (by kernel_rfl)
    refine Run_cond (b := (x_.length : Int) != (a_.length : Int)) (by kernel_rfl) (fun hb3 => ?_) (fun hb3 => ?_)
    · have hF := (M.ite_some hF).1 hb3
      refine Run_seq ?_
      refine Run_reg 1 (by kernel_rfl) (L' := [(4, .int .i64 5)]) ?_ ?_
      · refine QRun_b [.int .i64 5] 0 _ (by kernel_rfl) (fun w => by kernel_rfl) ?_
        exact QRun_done [4] (by kernel_rfl) (by kernel_rfl)
      have hF := M.ret_some hF
      subst hF
      exact Run_ret1 rfl (ResV_tmp (v := .int .i64 5) (by kernel_rfl)) ⟨rfl, rfl⟩
    · have hF := (M.ite_some hF).2 hb3
      refine Run_skip ?_
      refine Run_blk ?_
      refine Run_seq ?_
      refine Run_reg 1 (by kernel_rfl) (L' := [(4, .int .i64 0)]) ?_ ?_
      · refine QRun_b [.int .i64 0] 0 _ (by kernel_rfl) (fun w => by kernel_rfl) ?_
        exact QRun_done [4] (by kernel_rfl) (by kernel_rfl)
      have hF := M.ret_some hF
      subst hF
      exact Run_ret1 rfl (ResV_tmp (v := .int .i64 0) (by kernel_rfl)) ⟨rfl, rfl⟩

set_option maxRecDepth 100000 in
set_option maxHeartbeats 4000000 in
theorem w_spec_l02Bottom (h : Heap) (m_ : Int) (n_ : Int) (n : Nat) (r : (List (List Int))) (hF : spec_l02Bottom m_ n_ n = some r) :
    Fn Try.prog 119 #[.int .i64 m_, .int .i64 n_] h fun v h' => ∃ (a0 : Option Addr) (c0 : Nat), v = .slice a0 r.length c0 ∧ Hold h h' [own cd23 a0 r.length c0 r] := by
  unfold spec_l02Bottom at hF
  refine Fn_enter (args := [.int .i64 m_, .int .i64 n_]) Try.func119 rfl (by kernel_rfl) (by kernel_rfl) (fun w0 _ => ?_)
  have H0 := Hold.init h
  refine Run_seq ?_
  refine Run_reg 1 (by kernel_rfl) (L' := [(0, .int .i64 m_), (1, .int .i64 n_)]) ?_ ?_
  · refine QRun_b [.slice none 0 0] 0 _ (by kernel_rfl) (fun w => by kernel_rfl) ?_
    exact QRun_done [0, 1] (by kernel_rfl) (by kernel_rfl)
  refine Run_seq ?_
  refine Run_ops ?_
  refine Run_E (by kernel_rfl) ?_
  refine E_lit (C := cd23) (n := 0) (l := []) (cs := []) H0 (fun w => by kernel_rfl) (Enc.nil _ _) rfl (by decide) (fun a1 h1 H1 => ?_)
  refine Run_b [.slice a1 0 0] 1 _ (by kernel_rfl) (fun w => by kernel_rfl) ?_
  refine Run_nil (by kernel_rfl) ?_
  refine Run_keep [0, 1, 5] (L' := [(0, .int .i64 m_), (1, .int .i64 n_), (5, .slice a1 0 0)]) (by kernel_rfl) ?_
  refine Run_seq ?_
  refine Run_seq ?_
  refine Run_reg 1 (by kernel_rfl) (L' := [(0, .int .i64 m_), (1, .int .i64 n_), (5, .slice a1 0 0), (6, .int .i64 0)]) ?_ ?_
  · refine QRun_b [.int .i64 0] 0 _ (by kernel_rfl) (fun w => by kernel_rfl) ?_
    exact QRun_done [0, 1, 5, 6] (by kernel_rfl) (by kernel_rfl)
  obtain ⟨x1, gx1, hF⟩ := M.bind_some hF
  obtain ⟨hloy1, hhiy1, gx1⟩ := M.for_start gx1
  refine Run_join (fun L' h' => ∃ (a3 : Option Addr) (c2 : Nat), L' = [(5, .slice a3 x1.length c2)] ∧ Hold h h' [own cd23 a3 x1.length c2 x1]) ?_ ?_
  · rintro _ h3 ⟨a3, c2, rfl, H3⟩
    refine Run_seq ?_
    refine Run_reg 2 (by kernel_rfl) (L' := [(4, .slice a3 x1.length c2)]) ?_ ?_
    · refine QRun_b [.slice a3 x1.length c2, .slice a3 x1.length c2] 0 _ (by kernel_rfl) (fun w => by kernel_rfl) ?_
      exact QRun_done [4] (by kernel_rfl) (by kernel_rfl)
    have hF := M.ret_some hF
    subst hF
    exact Run_ret1 rfl (ResV_tmp (v := .slice a3 x1.length c2) (by kernel_rfl)) ⟨a3, c2, rfl, H3⟩
  · refine Run_block ?_
    have hn2 := (H1.len 0 rfl)
    have H23 : Hold h h1 [own cd23 a1 (([] : List (List Int)).length) 0 ([] : List (List Int))] := by rw [hn2]; exact H1
    refine Run_keep [0, 1, 5, 6] (L' := [(0, .int .i64 m_), (1, .int .i64 n_), (5, .slice a1 (([] : List (List Int)).length) 0), (6, .int .i64 0)]) (by rw [hn2]; kernel_rfl) ?_
    refine Run_loop (fun m L' h' => ∃ (i1 : Int) (s1 : (List (List Int))) (a2 : Option Addr) (c1 : Nat), 0 ≤ i1 ∧ M.forN m_ _ _ n m i1 s1 = some x1 ∧ L' = [(0, .int .i64 m_), (1, .int .i64 n_), (5, .slice a2 s1.length c1), (6, .int .i64 i1)] ∧ Hold h h' [own cd23 a2 s1.length c1 s1]) (m_ - 0 : Int).toNat ⟨0, ([] : List (List Int)), a1, 0, Int.le_refl _, gx1, rfl, H23⟩ ?_
    rintro my1 _ h2 ⟨i1, s1, a2, c1, hloy1', gx1, rfl, H2⟩
    refine Run_seq ?_
    refine Run_seq ?_
    refine Run_reg 3 (by kernel_rfl) (L' := [(0, .int .i64 m_), (1, .int .i64 n_), (5, .slice a2 s1.length c1), (6, .int .i64 i1), (12, .bool (decide (i1 < m_)))]) ?_ ?_
    · refine QRun_b [.int .i64 i1, .int .i64 m_, .bool (decide (i1 < m_))] 0 _ (by kernel_rfl) (fun w => by kernel_rfl) ?_
      exact QRun_done [0, 1, 5, 6, 12] (by kernel_rfl) (by kernel_rfl)
    refine Run_cond (b := decide (i1 < m_)) (by kernel_rfl) (fun hb1 => ?_) (fun hb1 => ?_)
    · obtain ⟨my1, y1, rfl, hB1, hgoy1, houty1⟩ := M.for_go gx1 hb1
      have hlty1 := of_decide_eq_true hb1
      refine Run_skip ?_
      refine Run_seq ?_
      refine Run_block ?_
      refine Run_seq ?_
      refine Run_ops ?_
      refine Run_E (by kernel_rfl) ?_
      refine E_lit (C := cd2) (n := 0) (l := ([] : List Int)) (cs := []) H2 (fun w => by kernel_rfl) (Enc.nil _ _) rfl (by decide) (fun a4 h4 H4 => ?_)
      refine Run_b [.slice a4 0 0] 1 _ (by kernel_rfl) (fun w => by kernel_rfl) ?_
      refine Run_nil (by kernel_rfl) ?_
      refine Run_keep [0, 1, 5, 6, 7] (L' := [(0, .int .i64 m_), (1, .int .i64 n_), (5, .slice a2 s1.length c1), (6, .int .i64 i1), (7, .slice a4 0 0)]) (by kernel_rfl) ?_
      refine Run_seq ?_
      refine Run_seq ?_
      refine Run_reg 1 (by kernel_rfl) (L' := [(0, .int .i64 m_), (1, .int .i64 n_), (5, .slice a2 s1.length c1), (6, .int .i64 i1), (7, .slice a4 0 0), (8, .int .i64 0)]) ?_ ?_
      · refine QRun_b [.int .i64 0] 0 _ (by kernel_rfl) (fun w => by kernel_rfl) ?_
        exact QRun_done [0, 1, 5, 6, 7, 8] (by kernel_rfl) (by kernel_rfl)
      obtain ⟨x2, gx2, hB1⟩ := M.bind_some hB1
      obtain ⟨hloy2, hhiy2, gx2⟩ := M.for_start gx2
      refine Run_join (fun L' h' => ∃ (a6 : Option Addr) (c4 : Nat), L' = [(0, .int .i64 m_), (1, .int .i64 n_), (5, .slice a2 s1.length c1), (6, .int .i64 i1), (7, .slice a6 x2.length c4)] ∧ Hold h h' [own cd23 a2 s1.length c1 s1, own cd2 a6 x2.length c4 x2]) ?_ ?_
      · rintro _ h6 ⟨a6, c4, rfl, H6⟩
        refine Run_ops ?_
        refine Run_b [.slice a2 s1.length c1, .slice a6 x2.length c4] 0 _ (by kernel_rfl) (fun w => by kernel_rfl) ?_
        have H16 : Hold h h6 [own cd2 a6 x2.length c4 x2, own cd23 a2 s1.length c1 s1] := H6.pick [1, 0] (by kernel_rfl)
        refine Run_E (by kernel_rfl) ?_
        refine E_lit1 (ey := 23) (n := x2.length) H16 (fun w => by kernel_rfl) rfl (fun a9 h9 H15 => ?_)
        obtain ⟨l2, hl2, hB1⟩ := M.bind_some hB1
        have hl2 := M.app_some hl2
        have H17 : Hold h h9 [own cd23 a2 s1.length c1 s1, own cd23 a9 1 1 [x2]] := H15.pick [1, 0] (by kernel_rfl)
        have H18 : Hold h h9 [own cd23 a9 1 1 [x2], own cd23 a2 s1.length c1 s1] := H17.pick [1, 0] (by kernel_rfl)
        have H19 : Hold h h9 [own cd23 a2 s1.length c1 s1, own cd23 a9 1 1 [x2]] := H18.pick [1, 0] (by kernel_rfl)
        refine Run_E (by kernel_rfl) ?_
        refine E_app (C := cd23) (t := 22) (ty := 22) (n := s1.length) (m := 1) H19 cd23_ti rfl Try.underlying22 (by decide) (by kernel_rfl) hl2 (fun a10 c6 h10 H20 => ?_)
        refine Run_b [.slice a10 l2.length c6] 4 _ (by kernel_rfl) (fun w => by kernel_rfl) ?_
        refine Run_nil (by kernel_rfl) ?_
        refine Run_keep [0, 1, 5, 6] (L' := [(0, .int .i64 m_), (1, .int .i64 n_), (5, .slice a10 l2.length c6), (6, .int .i64 i1)]) (by kernel_rfl) ?_
        refine Run_blk ?_
        refine Run_reg 3 (by kernel_rfl) (L' := [(0, .int .i64 m_), (1, .int .i64 n_), (5, .slice a10 l2.length c6), (6, .int .i64 (i1 + 1))]) ?_ ?_
        · refine QRun_b [.int .i64 i1] 0 _ (by kernel_rfl) (fun w => by kernel_rfl) ?_
          refine QRun_y (.int .i64 (i1 + 1)) (by kernel_rfl) (Y_eq (v := .int .i64 (w64 (i1 + 1))) (Y_pure (fun w => by kernel_rfl)) (by rw [w64_eq _ (by omega)])) ?_
          refine QRun_b [.int .i64 (i1 + 1)] 2 _ (by kernel_rfl) (fun w => by kernel_rfl) ?_
          exact QRun_done [0, 1, 5, 6] (by kernel_rfl) (by kernel_rfl)
        have hB1 := M.ret_some hB1
        have gx1 := hgoy1 _ hB1.symm
        exact Run_again [0, 1, 5, 6] (by kernel_rfl) my1 (Nat.lt_succ_self _) ⟨i1 + 1, l2, a10, c6, by omega, gx1, rfl, H20⟩
      · refine Run_block ?_
        have hn1 := (H4.len 0 rfl)
        have H21 : Hold h h4 [own cd2 a4 (([] : List Int).length) 0 ([] : List Int), own cd23 a2 s1.length c1 s1] := by rw [hn1]; exact H4
        have H22 : Hold h h4 [own cd23 a2 s1.length c1 s1, own cd2 a4 (([] : List Int).length) 0 ([] : List Int)] := H21.pick [1, 0] (by kernel_rfl)
        refine Run_keep [0, 1, 5, 6, 7, 8] (L' := [(0, .int .i64 m_), (1, .int .i64 n_), (5, .slice a2 s1.length c1), (6, .int .i64 i1), (7, .slice a4 (([] : List Int).length) 0), (8, .int .i64 0)]) (by rw [hn1]; kernel_rfl) ?_
        refine Run_loop (fun m L' h' => ∃ (i2 : Int) (s2 : (List Int)) (a5 : Option Addr) (c3 : Nat), 0 ≤ i2 ∧ M.forN n_ _ _ n m i2 s2 = some x2 ∧ L' = [(0, .int .i64 m_), (1, .int .i64 n_), (5, .slice a2 s1.length c1), (6, .int .i64 i1), (7, .slice a5 s2.length c3), (8, .int .i64 i2)] ∧ Hold h h' [own cd23 a2 s1.length c1 s1, own cd2 a5 s2.length c3 s2]) (n_ - 0 : Int).toNat ⟨0, ([] : List Int), a4, 0, Int.le_refl _, gx2, rfl, H22⟩ ?_
        rintro my2 _ h5 ⟨i2, s2, a5, c3, hloy2', gx2, rfl, H5⟩
        refine Run_seq ?_
        refine Run_seq ?_
        refine Run_reg 3 (by kernel_rfl) (L' := [(0, .int .i64 m_), (1, .int .i64 n_), (5, .slice a2 s1.length c1), (6, .int .i64 i1), (7, .slice a5 s2.length c3), (8, .int .i64 i2), (18, .bool (decide (i2 < n_)))]) ?_ ?_
        · refine QRun_b [.int .i64 i2, .int .i64 n_, .bool (decide (i2 < n_))] 0 _ (by kernel_rfl) (fun w => by kernel_rfl) ?_
          exact QRun_done [0, 1, 5, 6, 7, 8, 18] (by kernel_rfl) (by kernel_rfl)
        refine Run_cond (b := decide (i2 < n_)) (by kernel_rfl) (fun hb2 => ?_) (fun hb2 => ?_)
        · obtain ⟨my2, y2, rfl, hB2, hgoy2, houty2⟩ := M.for_go gx2 hb2
          have hlty2 := of_decide_eq_true hb2
          refine Run_skip ?_
          refine Run_seq ?_
          refine Run_block ?_
          refine Run_ops ?_
          refine Run_b [.slice a5 s2.length c3] 0 _ (by kernel_rfl) (fun w => by kernel_rfl) ?_
          refine Run_E (by kernel_rfl) ?_
          refine E_lit (C := cd2) (n := 1) (l := ([(-1000000000000000)] : List Int)) (cs := [.int .i64 (-1000000000000000)]) H5 (fun w => by kernel_rfl) (Enc.consE (cd2_own (-1000000000000000) _) (Enc.nil _ _) rfl) rfl (by decide) (fun a7 h7 H7 => ?_)
          obtain ⟨l1, hl1, hB2⟩ := M.bind_some hB2
          have hl1 := M.app_some hl1
          have H8 : Hold h h7 [own cd2 a5 s2.length c3 s2, own cd2 a7 1 1 ([(-1000000000000000)] : List Int), own cd23 a2 s1.length c1 s1] := H7.pick [2, 0, 1] (by kernel_rfl)
          have H9 : Hold h h7 [own cd2 a7 1 1 ([(-1000000000000000)] : List Int), own cd2 a5 s2.length c3 s2, own cd23 a2 s1.length c1 s1] := H8.pick [1, 0, 2] (by kernel_rfl)
          have H10 : Hold h h7 [own cd2 a5 s2.length c3 s2, own cd2 a7 1 1 ([(-1000000000000000)] : List Int), own cd23 a2 s1.length c1 s1] := H9.pick [1, 0, 2] (by kernel_rfl)
          refine Run_E (by kernel_rfl) ?_
          refine E_app (C := cd2) (t := 23) (ty := 23) (n := s2.length) (m := 1) H10 cd2_ti rfl Try.underlying23 (by decide) (by kernel_rfl) hl1 (fun a8 c5 h8 H11 => ?_)
          refine Run_b [.slice a8 l1.length c5] 3 _ (by kernel_rfl) (fun w => by kernel_rfl) ?_
          refine Run_nil (by kernel_rfl) ?_
          refine Run_keep [0, 1, 5, 6, 7, 8] (L' := [(0, .int .i64 m_), (1, .int .i64 n_), (5, .slice a2 s1.length c1), (6, .int .i64 i1), (7, .slice a8 l1.length c5), (8, .int .i64 i2)]) (by kernel_rfl) ?_
          refine Run_blk ?_
          refine Run_reg 3 (by kernel_rfl) (L' := [(0, .int .i64 m_), (1, .int .i64 n_), (5, .slice a2 s1.length c1), (6, .int .i64 i1), (7, .slice a8 l1.length c5), (8, .int .i64 (i2 + 1))]) ?_ ?_
          · refine QRun_b [.int .i64 i2] 0 _ (by kernel_rfl) (fun w => by kernel_rfl) ?_
            refine QRun_y (.int .i64 (i2 + 1)) (by kernel_rfl) (Y_eq (v := .int .i64 (w64 (i2 + 1))) (Y_pure (fun w => by kernel_rfl)) (by rw [w64_eq _ (by omega)])) ?_
            refine QRun_b [.int .i64 (i2 + 1)] 2 _ (by kernel_rfl) (fun w => by kernel_rfl) ?_
            exact QRun_done [0, 1, 5, 6, 7, 8] (by kernel_rfl) (by kernel_rfl)
          have H12 : Hold h h8 [own cd23 a2 s1.length c1 s1, own cd2 a8 l1.length c5 l1] := H11.pick [1, 0] (by kernel_rfl)
          have hB2 := M.ret_some hB2
          have gx2 := hgoy2 _ hB2.symm
          exact Run_again [0, 1, 5, 6, 7, 8] (by kernel_rfl) my2 (Nat.lt_succ_self _) ⟨i2 + 1, l1, a8, c5, by omega, gx2, rfl, H12⟩
        · have gx2 := M.for_end gx2 hb2
          subst gx2
          refine Run_exit (k' := _) rfl ?_
          have H13 : Hold h h5 [own cd2 a5 s2.length c3 s2, own cd23 a2 s1.length c1 s1] := H5.pick [1, 0] (by kernel_rfl)
          have H14 : Hold h h5 [own cd23 a2 s1.length c1 s1, own cd2 a5 s2.length c3 s2] := H13.pick [1, 0] (by kernel_rfl)
          exact Run_fall [0, 1, 5, 6, 7] (by kernel_rfl) ⟨a5, c3, rfl, H14⟩
    · have gx1 := M.for_end gx1 hb1
      subst gx1
      refine Run_exit (k' := _) rfl ?_
      exact Run_fall [5] (by kernel_rfl) ⟨a2, c1, rfl, H2⟩

set_option maxRecDepth 100000 in
set_option maxHeartbeats 4000000 in
theorem w_spec_l02Turn (h : Heap) (a_ : List (List Int)) (aa_ : Option Addr) (ca_ : Nat) (ra_ : Rd cd23 h (Lt h) aa_ ca_ a_) (n : Nat) (r : (List (List Int))) (hF : spec_l02Turn a_ n = some r) :
    Fn Try.prog 141 #[.slice aa_ a_.length ca_] h fun v h' => ∃ (a0 : Option Addr) (c0 : Nat), v = .slice a0 r.length c0 ∧ Hold h h' [own cd23 a0 r.length c0 r] := by
  unfold spec_l02Turn at hF
  refine Fn_enter (args := [.slice aa_ a_.length ca_]) Try.func141 rfl (by kernel_rfl) (by kernel_rfl) (fun w0 _ => ?_)
  have H0 := Hold.init h
  refine Run_seq ?_
  refine Run_reg 1 (by kernel_rfl) (L' := [(0, .slice aa_ a_.length ca_)]) ?_ ?_
  · refine QRun_b [.slice none 0 0] 0 _ (by kernel_rfl) (fun w => by kernel_rfl) ?_
    exact QRun_done [0] (by kernel_rfl) (by kernel_rfl)
  refine Run_seq ?_
  refine Run_ops ?_
  obtain ⟨x1, hx1, hF⟩ := M.bind_some hF
  obtain ⟨hx1l, hx1u, hx1⟩ := M.idx_some hx1
  obtain ⟨a1, c1, hc1, r1⟩ := ra_.row hx1
  refine Run_b [.slice aa_ a_.length ca_] 0 _ (by kernel_rfl) (fun w => by kernel_rfl) ?_
  refine Run_y (.pointer (some (adr aa_ (0 * 1)))) (by kernel_rfl) (Y_idx (t := 22) (e := 23) (sz := 1) (a := aa_) (n := a_.length) (cap := ca_) (kk := .i64) (i := 0) (by kernel_rfl) Try.underlying22 (by kernel_rfl) (ra_.cell hx1).1 hx1l hx1u) ?_
  refine Run_y (.slice a1 x1.length c1) (by kernel_rfl) (Y_load1 (t := 23) (p := adr aa_ (0 * 1)) (v := .slice a1 x1.length c1) (by kernel_rfl) (fun w => by kernel_rfl) hc1) ?_
  refine Run_b [.int .i64 (x1.length : Int), .slice aa_ a_.length ca_, .int .i64 (a_.length : Int)] 3 _ (by kernel_rfl) (fun w => by kernel_rfl) ?_
  obtain ⟨x2, hx2, hF⟩ := M.bind_some hF
  refine Run_E (by kernel_rfl) ?_
  refine E_call (f := 119) (args := #[.int .i64 (x1.length : Int), .int .i64 (a_.length : Int)]) (w_spec_l02Bottom h (x1.length : Int) (a_.length : Int) _ _ hx2) (by kernel_rfl) (fun v1 h1 hp1 => ?_)
  obtain ⟨a2, c2, rfl, H1⟩ := hp1
  have H2 : Hold h h1 [own cd23 a2 x2.length c2 x2] := H0.call H1 rfl
  refine Run_b [.slice a2 x2.length c2] 7 _ (by kernel_rfl) (fun w => by kernel_rfl) ?_
  refine Run_nil (by kernel_rfl) ?_
  refine Run_keep [0, 3] (L' := [(0, .slice aa_ a_.length ca_), (3, .slice a2 x2.length c2)]) (by kernel_rfl) ?_
  refine Run_seq ?_
  refine Run_seq ?_
  refine Run_reg 1 (by kernel_rfl) (L' := [(0, .slice aa_ a_.length ca_), (3, .slice a2 x2.length c2), (4, .int .i64 0)]) ?_ ?_
  · refine QRun_b [.int .i64 0] 0 _ (by kernel_rfl) (fun w => by kernel_rfl) ?_
    exact QRun_done [0, 3, 4] (by kernel_rfl) (by kernel_rfl)
  obtain ⟨x3, gx3, hF⟩ := M.bind_some hF
  obtain ⟨hloy1, hhiy1, gx3⟩ := M.for_start gx3
  refine Run_join (fun L' h' => L' = [(3, .slice a2 x2.length c2)] ∧ Hold h h' [own cd23 a2 x2.length c2 x3]) ?_ ?_
  · rintro _ h3 ⟨rfl, H4⟩
    refine Run_seq ?_
    refine Run_reg 2 (by kernel_rfl) (L' := [(2, .slice a2 x2.length c2)]) ?_ ?_
    · refine QRun_b [.slice a2 x2.length c2, .slice a2 x2.length c2] 0 _ (by kernel_rfl) (fun w => by kernel_rfl) ?_
      exact QRun_done [2] (by kernel_rfl) (by kernel_rfl)
    have hF := M.ret_some hF
    subst hF
    have H13 := H4.norm
    exact Run_ret1 rfl (ResV_tmp (v := .slice a2 x2.length c2) (by kernel_rfl)) ⟨a2, c2, (by simp only [(H4.len 0 rfl)]), H13⟩
  · refine Run_block ?_
    refine Run_keep [0, 3, 4] (L' := [(0, .slice aa_ a_.length ca_), (3, .slice a2 x2.length c2), (4, .int .i64 0)]) (by kernel_rfl) ?_
    refine Run_loop (fun m L' h' => ∃ (i1 : Int) (s1 : (List (List Int))), 0 ≤ i1 ∧ M.forN (a_.length : Int) _ _ n m i1 s1 = some x3 ∧ L' = [(0, .slice aa_ a_.length ca_), (3, .slice a2 x2.length c2), (4, .int .i64 i1)] ∧ Hold h h' [own cd23 a2 x2.length c2 s1]) ((a_.length : Int) - 0 : Int).toNat ⟨0, x2, Int.le_refl _, gx3, rfl, H2⟩ ?_
    rintro my1 _ h2 ⟨i1, s1, hloy1', gx3, rfl, H3⟩
    refine Run_seq ?_
    refine Run_seq ?_
    refine Run_reg 4 (by kernel_rfl) (L' := [(0, .slice aa_ a_.length ca_), (3, .slice a2 x2.length c2), (4, .int .i64 i1), (16, .bool (decide (i1 < (a_.length : Int))))]) ?_ ?_
    · refine QRun_b [.int .i64 i1, .slice aa_ a_.length ca_, .int .i64 (a_.length : Int), .bool (decide (i1 < (a_.length : Int)))] 0 _ (by kernel_rfl) (fun w => by kernel_rfl) ?_
      exact QRun_done [0, 3, 4, 16] (by kernel_rfl) (by kernel_rfl)
    refine Run_cond (b := decide (i1 < (a_.length : Int))) (by kernel_rfl) (fun hb1 => ?_) (fun hb1 => ?_)
    · obtain ⟨my1, y1, rfl, hB1, hgoy1, houty1⟩ := M.for_go gx3 hb1
      have hlty1 := of_decide_eq_true hb1
      refine Run_skip ?_
      refine Run_seq ?_
      refine Run_block ?_
      refine Run_seq ?_
      refine Run_reg 1 (by kernel_rfl) (L' := [(0, .slice aa_ a_.length ca_), (3, .slice a2 x2.length c2), (4, .int .i64 i1), (5, .int .i64 0)]) ?_ ?_
      · refine QRun_b [.int .i64 0] 0 _ (by kernel_rfl) (fun w => by kernel_rfl) ?_
        exact QRun_done [0, 3, 4, 5] (by kernel_rfl) (by kernel_rfl)
      obtain ⟨x4, gx4, hB1⟩ := M.bind_some hB1
      refine Run_join (fun L' h' => L' = [(0, .slice aa_ a_.length ca_), (3, .slice a2 x2.length c2), (4, .int .i64 i1)] ∧ Hold h h' [own cd23 a2 x2.length c2 x4.1]) ?_ ?_
      · rintro _ h5 ⟨rfl, H6⟩
        refine Run_blk ?_
        refine Run_reg 3 (by kernel_rfl) (L' := [(0, .slice aa_ a_.length ca_), (3, .slice a2 x2.length c2), (4, .int .i64 (i1 + 1))]) ?_ ?_
        · refine QRun_b [.int .i64 i1] 0 _ (by kernel_rfl) (fun w => by kernel_rfl) ?_
          refine QRun_y (.int .i64 (i1 + 1)) (by kernel_rfl) (Y_eq (v := .int .i64 (w64 (i1 + 1))) (Y_pure (fun w => by kernel_rfl)) (by rw [w64_eq _ (by omega)])) ?_
          refine QRun_b [.int .i64 (i1 + 1)] 2 _ (by kernel_rfl) (fun w => by kernel_rfl) ?_
          exact QRun_done [0, 3, 4] (by kernel_rfl) (by kernel_rfl)
        have hB1 := M.ret_some hB1
        have gx3 := hgoy1 _ hB1.symm
        exact Run_again [0, 3, 4] (by kernel_rfl) my1 (Nat.lt_succ_self _) ⟨i1 + 1, x4.1, by omega, gx3, rfl, H6⟩
      · refine Run_block ?_
        refine Run_keep [0, 3, 4, 5] (L' := [(0, .slice aa_ a_.length ca_), (3, .slice a2 x2.length c2), (4, .int .i64 i1), (5, .int .i64 0)]) (by kernel_rfl) ?_
        refine Run_loop (fun m L' h' => ∃ (s2 : (List (List Int)) × Int), M.loopN _ n m s2 = some x4 ∧ L' = [(0, .slice aa_ a_.length ca_), (3, .slice a2 x2.length c2), (4, .int .i64 i1), (5, .int .i64 s2.2)] ∧ Hold h h' [own cd23 a2 x2.length c2 s2.1]) n ⟨(s1, 0), gx4, rfl, H3⟩ ?_
        rintro my2 _ h4 ⟨s2, gx4, rfl, H5⟩
        obtain ⟨my2, y2, rfl, hB2, hgoy2, houty2⟩ := M.loop_some gx4
        refine Run_seq ?_
        refine Run_seq ?_
        obtain ⟨x5, hx3, hB2⟩ := M.bind_some hB2
        obtain ⟨hx3l, hx3u, hx3⟩ := M.idx_some hx3
        obtain ⟨a3, c3, hc2, r2⟩ := ra_.row hx3
        refine Run_reg 7 (by kernel_rfl) (L' := [(0, .slice aa_ a_.length ca_), (3, .slice a2 x2.length c2), (4, .int .i64 i1), (5, .int .i64 s2.2), (25, .bool (decide (s2.2 < (x5.length : Int))))]) ?_ ?_
        · refine QRun_b [.int .i64 s2.2, .slice aa_ a_.length ca_, .int .i64 i1] 0 _ (by kernel_rfl) (fun w => by kernel_rfl) ?_
          refine QRun_y (.pointer (some (adr aa_ (i1.toNat * 1)))) (by kernel_rfl) (Y_idx (t := 22) (e := 23) (sz := 1) (a := aa_) (n := a_.length) (cap := ca_) (kk := .i64) (i := i1) (by kernel_rfl) Try.underlying22 (by kernel_rfl) ((ra_.at H5.ext).cell hx3).1 hx3l hx3u) ?_
          refine QRun_y (.slice a3 x5.length c3) (by kernel_rfl) (Y_load1 (t := 23) (p := adr aa_ (i1.toNat * 1)) (v := .slice a3 x5.length c3) (by kernel_rfl) (fun w => by kernel_rfl) (cell_at H5.ext hc2)) ?_
          refine QRun_b [.int .i64 (x5.length : Int), .bool (decide (s2.2 < (x5.length : Int)))] 5 _ (by kernel_rfl) (fun w => by kernel_rfl) ?_
          exact QRun_done [0, 3, 4, 5, 25] (by kernel_rfl) (by kernel_rfl)
        refine Run_cond (b := decide (s2.2 < (x5.length : Int))) (by kernel_rfl) (fun hb2 => ?_) (fun hb2 => ?_)
        · have hB2 := (M.ite_some hB2).1 hb2
          refine Run_skip ?_
          refine Run_seq ?_
          refine Run_block ?_
          obtain ⟨x6, hx4, hB2⟩ := M.bind_some hB2
          obtain ⟨hx4l, hx4u, hx4⟩ := M.idx_some hx4
          have H7 := H5.toRows
          obtain ⟨a4, c4, H8⟩ := H7.pinRow hx4
          obtain ⟨x7, hx5, hB2⟩ := M.bind_some hB2
          obtain ⟨hx5l, hx5u, hx5⟩ := M.idx_some hx5
          obtain ⟨a5, c5, hc3, r3⟩ := ra_.row hx5
          obtain ⟨x8, hx6, hB2⟩ := M.bind_some hB2
          obtain ⟨hx6l, hx6u, hx6⟩ := M.idx_some hx6
          obtain ⟨x9, hx7, hB2⟩ := M.bind_some hB2
          obtain ⟨hx7l, hx7u, hx7⟩ := M.idx_some hx7
          refine Run_D (fun x => Hold h x [rowsP cd2 23 a2 x2.length c2 s2.1 [(s2.2.toNat, a4, x6.length, c4, x6)]]) (fun x => Hold h x [rowsP cd2 23 a2 x2.length c2 s2.1 [(s2.2.toNat, a4, x6.length, c4, x6)]]) mixed (by kernel_rfl) H8 Hold.stable (fun x Hy => (show Hold h x [rowsP cd2 23 a2 x2.length c2 s2.1 [(s2.2.toNat, a4, x6.length, c4, x6)]] from Hy).pick [0] (by kernel_rfl)) ?_
          refine DR_b 12 [.slice a2 x2.length c2, .int .i64 s2.2] 0 (by kernel_rfl) (by kernel_rfl) (by kernel_rfl) (fun w => by kernel_rfl) ?_
          refine DR_y 11 (i := 2) (.pointer (some (adr a2 (s2.2.toNat * 1)))) (by kernel_rfl) (by kernel_rfl) (by kernel_rfl) (fun hx Hx => (YE.of (Y_idx (t := 22) (e := 23) (sz := 1) (a := a2) (n := x2.length) (cap := c2) (kk := .i64) (i := s2.2) (by kernel_rfl) Try.underlying22 (by kernel_rfl) ((H5.rd 0 rfl).cell hx4).1 hx4l (by rw [← (H5.len 0 rfl)]; exact hx4u)))) ?_
          refine DR_y 10 (i := 3) (.slice a4 x6.length c4) (by kernel_rfl) (by kernel_rfl) (by kernel_rfl) (fun hx Hx => (YE.of (Y_load1 (t := 23) (p := adr a2 (s2.2.toNat * 1)) (v := .slice a4 x6.length c4) (by kernel_rfl) (fun w => by kernel_rfl) (Hx.cellPin 0 rfl 0 rfl)))) ?_
          refine DR_b 7 [.int .i64 i1, .slice aa_ a_.length ca_, .int .i64 i1] 4 (by kernel_rfl) (by kernel_rfl) (by kernel_rfl) (fun w => by kernel_rfl) ?_
          refine DR_y 6 (i := 7) (.pointer (some (adr aa_ (i1.toNat * 1)))) (by kernel_rfl) (by kernel_rfl) (by kernel_rfl) (fun hx Hx => (YE.of (Y_idx (t := 22) (e := 23) (sz := 1) (a := aa_) (n := a_.length) (cap := ca_) (kk := .i64) (i := i1) (by kernel_rfl) Try.underlying22 (by kernel_rfl) ((ra_.at H8.ext).cell hx5).1 hx5l hx5u))) ?_
          refine DR_y 5 (i := 8) (.slice a5 x7.length c5) (by kernel_rfl) (by kernel_rfl) (by kernel_rfl) (fun hx Hx => (YE.of (Y_load1 (t := 23) (p := adr aa_ (i1.toNat * 1)) (v := .slice a5 x7.length c5) (by kernel_rfl) (fun w => by kernel_rfl) (cell_at Hx.ext hc3)))) ?_
          refine DR_b 4 [.int .i64 s2.2] 9 (by kernel_rfl) (by kernel_rfl) (by kernel_rfl) (fun w => by kernel_rfl) ?_
          refine DR_y 3 (i := 10) (.pointer (some (adr a5 (s2.2.toNat * 1)))) (by kernel_rfl) (by kernel_rfl) (by kernel_rfl) (fun hx Hx => (YE.of (Y_idx (t := 23) (e := 2) (sz := 1) (a := a5) (n := x7.length) (cap := c5) (kk := .i64) (i := s2.2) (by kernel_rfl) Try.underlying23 (by kernel_rfl) ((r3.at H8.ext).cell hx6).1 hx6l hx6u))) ?_
          refine DR_y 2 (i := 11) (.int .i64 x8) (by kernel_rfl) (by kernel_rfl) (by kernel_rfl) (fun hx Hx => (YE.of (Y_load1 (t := 2) (p := adr a5 (s2.2.toNat * 1)) (v := .int .i64 x8) (by kernel_rfl) (fun w => by kernel_rfl) (cd2_cell (r3.at Hx.ext) hx6)))) ?_
          refine DR_y 1 (i := 12) (.pointer (some (adr a4 (i1.toNat * 1)))) (by kernel_rfl) (by kernel_rfl) (by kernel_rfl) (fun hx Hx => (YE.of (Y_idx (t := 23) (e := 2) (sz := 1) (a := a4) (n := x6.length) (cap := c4) (kk := .i64) (i := i1) (by kernel_rfl) Try.underlying23 (by kernel_rfl) ((H8.rdPin 0 rfl 0 rfl).cell hx7).1 hx7l hx7u))) ?_
          refine DR_tail (i := 13) (by kernel_rfl) (by kernel_rfl) (by kernel_rfl) (fun h6 H9 => ?_)
          have H10 : Hold h h6 [rowsP cd2 23 a2 x2.length c2 s2.1 [(s2.2.toNat, a4, x6.length, c4, x6)]] := H9
          obtain ⟨l1, hu1, hB2⟩ := M.bind_some hB2
          have hu1 := M.upd_some hu1
          refine Run_E (by kernel_rfl) ?_
          refine E_put2 (C := cd2) (t := 2) (sz := 1) (j := i1) (x := x8) (v := .int .i64 x8) (m2 := s2.1.set s2.2.toNat l1) H10 cd2_flat 0 rfl (by kernel_rfl) rfl (cd2_own _) (by kernel_rfl) hu1 rfl (fun h7 H11 => ?_)
          refine Run_nil (by kernel_rfl) ?_
          refine Run_keep [0, 3, 4, 5] (L' := [(0, .slice aa_ a_.length ca_), (3, .slice a2 x2.length c2), (4, .int .i64 i1), (5, .int .i64 s2.2)]) (by kernel_rfl) ?_
          refine Run_blk ?_
          refine Run_reg 3 (by kernel_rfl) (L' := [(0, .slice aa_ a_.length ca_), (3, .slice a2 x2.length c2), (4, .int .i64 i1), (5, .int .i64 (w64 (s2.2 + 1)))]) ?_ ?_
          · refine QRun_b [.int .i64 s2.2, .int .i64 (w64 (s2.2 + 1)), .int .i64 (w64 (s2.2 + 1))] 0 _ (by kernel_rfl) (fun w => by kernel_rfl) ?_
            exact QRun_done [0, 3, 4, 5] (by kernel_rfl) (by kernel_rfl)
          have H12 := H11.ofRows
          have hB2 := M.ret_some hB2
          have gx4 := hgoy2 _ hB2.symm
          exact Run_again [0, 3, 4, 5] (by kernel_rfl) my2 (Nat.lt_succ_self _) ⟨((s2.1.set s2.2.toNat l1), (w64 (s2.2 + 1))), gx4, rfl, H12⟩
        · have hB2 := (M.ite_some hB2).2 hb2
          refine Run_exit (k' := _) rfl ?_
          have hB2 := M.ret_some hB2
          have gx4 := houty2 _ hB2.symm
          subst gx4
          exact Run_fall [0, 3, 4] (by kernel_rfl) ⟨rfl, H5⟩
    · have gx3 := M.for_end gx3 hb1
      subst gx3
      refine Run_exit (k' := _) rfl ?_
      exact Run_fall [3] (by kernel_rfl) ⟨rfl, H3⟩

set_option maxRecDepth 100000 in
set_option maxHeartbeats 4000000 in
theorem w_spec_l07Column (h : Heap) (x_ : List Int) (ax_ : Option Addr) (cx_ : Nat) (rx_ : Rd cd2 h (Lt h) ax_ cx_ x_) (n : Nat) (r : (List (List Int))) (hF : spec_l07Column x_ n = some r) :
    Fn Try.prog 88 #[.slice ax_ x_.length cx_] h fun v h' => ∃ (a0 : Option Addr) (c0 : Nat), v = .slice a0 r.length c0 ∧ Hold h h' [own cd23 a0 r.length c0 r] := by
  unfold spec_l07Column at hF
  refine Fn_enter (args := [.slice ax_ x_.length cx_]) Try.func88 rfl (by kernel_rfl) (by kernel_rfl) (fun w0 _ => ?_)
  have H0 := Hold.init h
  refine Run_seq ?_
  refine Run_reg 1 (by kernel_rfl) (L' := [(0, .slice ax_ x_.length cx_)]) ?_ ?_
  · refine QRun_b [.slice none 0 0] 0 _ (by kernel_rfl) (fun w => by kernel_rfl) ?_
    exact QRun_done [0] (by kernel_rfl) (by kernel_rfl)
  refine Run_seq ?_
  refine Run_ops ?_
  refine Run_b [.slice ax_ x_.length cx_] 0 _ (by kernel_rfl) (fun w => by kernel_rfl) ?_
  refine Run_E (by kernel_rfl) ?_
  refine E_litV (ey := 23) (n := x_.length) H0 rx_ rfl (fun w => by kernel_rfl) rfl (fun a1 h1 H1 => ?_)
  obtain ⟨x1, hx1, hF⟩ := M.bind_some hF
  refine Run_E (by kernel_rfl) ?_
  refine E_call (f := 141) (args := #[.slice a1 1 1]) (Fn.arg (w_spec_l02Turn h1 [x_] a1 1 (H1.rdV 0 rfl) _ _ hx1) (by simp only [(H1.lenV 0 rfl)])) (by kernel_rfl) (fun v1 h2 hp1 => ?_)
  obtain ⟨a2, c1, rfl, H2⟩ := hp1
  have H3 : Hold h h2 [own cd23 a2 x1.length c1 x1, view h.size cd23 a1 1 1 [x_]] := H1.call H2 rfl
  refine Run_b [.slice a2 x1.length c1] 3 _ (by kernel_rfl) (fun w => by kernel_rfl) ?_
  refine Run_nil (by kernel_rfl) ?_
  refine Run_keep [2] (L' := [(2, .slice a2 x1.length c1)]) (by kernel_rfl) ?_
  have hF := M.ret_some hF
  subst hF
  have H4 : Hold h h2 [own cd23 a2 x1.length c1 x1] := H3.pick [0] (by kernel_rfl)
  exact Run_ret1 rfl (ResV_tmp (v := .slice a2 x1.length c1) (by kernel_rfl)) ⟨a2, c1, rfl, H4⟩

set_option maxRecDepth 100000 in
set_option maxHeartbeats 4000000 in
theorem w_spec_l07Flat (h : Heap) (a_ : List (List Int)) (aa_ : Option Addr) (ca_ : Nat) (ra_ : Rd cd23 h (Lt h) aa_ ca_ a_) (n : Nat) (r : (List Int)) (hF : spec_l07Flat a_ n = some r) :
    Fn Try.prog 132 #[.slice aa_ a_.length ca_] h fun v h' => ∃ (a0 : Option Addr) (c0 : Nat), v = .slice a0 r.length c0 ∧ Hold h h' [own cd2 a0 r.length c0 r] := by
  unfold spec_l07Flat at hF
  refine Fn_enter (args := [.slice aa_ a_.length ca_]) Try.func132 rfl (by kernel_rfl) (by kernel_rfl) (fun w0 _ => ?_)
  have H0 := Hold.init h
  refine Run_seq ?_
  refine Run_reg 1 (by kernel_rfl) (L' := [(0, .slice aa_ a_.length ca_)]) ?_ ?_
  · refine QRun_b [.slice none 0 0] 0 _ (by kernel_rfl) (fun w => by kernel_rfl) ?_
    exact QRun_done [0] (by kernel_rfl) (by kernel_rfl)
  refine Run_seq ?_
  refine Run_ops ?_
  refine Run_E (by kernel_rfl) ?_
  refine E_lit (C := cd2) (n := 0) (l := ([] : List Int)) (cs := []) H0 (fun w => by kernel_rfl) (Enc.nil _ _) rfl (by decide) (fun a1 h1 H1 => ?_)
  refine Run_b [.slice a1 0 0] 1 _ (by kernel_rfl) (fun w => by kernel_rfl) ?_
  refine Run_nil (by kernel_rfl) ?_
  refine Run_keep [0, 3] (L' := [(0, .slice aa_ a_.length ca_), (3, .slice a1 0 0)]) (by kernel_rfl) ?_
  refine Run_seq ?_
  refine Run_seq ?_
  refine Run_reg 1 (by kernel_rfl) (L' := [(0, .slice aa_ a_.length ca_), (3, .slice a1 0 0), (4, .int .i64 0)]) ?_ ?_
  · refine QRun_b [.int .i64 0] 0 _ (by kernel_rfl) (fun w => by kernel_rfl) ?_
    exact QRun_done [0, 3, 4] (by kernel_rfl) (by kernel_rfl)
  obtain ⟨x1, gx1, hF⟩ := M.bind_some hF
  obtain ⟨hloy1, hhiy1, gx1⟩ := M.for_start gx1
  refine Run_join (fun L' h' => ∃ (a3 : Option Addr) (c2 : Nat), L' = [(3, .slice a3 x1.length c2)] ∧ Hold h h' [own cd2 a3 x1.length c2 x1]) ?_ ?_
  · rintro _ h3 ⟨a3, c2, rfl, H3⟩
    refine Run_seq ?_
    refine Run_reg 2 (by kernel_rfl) (L' := [(2, .slice a3 x1.length c2)]) ?_ ?_
    · refine QRun_b [.slice a3 x1.length c2, .slice a3 x1.length c2] 0 _ (by kernel_rfl) (fun w => by kernel_rfl) ?_
      exact QRun_done [2] (by kernel_rfl) (by kernel_rfl)
    have hF := M.ret_some hF
    subst hF
    exact Run_ret1 rfl (ResV_tmp (v := .slice a3 x1.length c2) (by kernel_rfl)) ⟨a3, c2, rfl, H3⟩
  · refine Run_block ?_
    have hn1 := (H1.len 0 rfl)
    have H5 : Hold h h1 [own cd2 a1 (([] : List Int).length) 0 ([] : List Int)] := by rw [hn1]; exact H1
    refine Run_keep [0, 3, 4] (L' := [(0, .slice aa_ a_.length ca_), (3, .slice a1 (([] : List Int).length) 0), (4, .int .i64 0)]) (by rw [hn1]; kernel_rfl) ?_
    refine Run_loop (fun m L' h' => ∃ (i1 : Int) (s1 : (List Int)) (a2 : Option Addr) (c1 : Nat), 0 ≤ i1 ∧ M.forN (a_.length : Int) _ _ n m i1 s1 = some x1 ∧ L' = [(0, .slice aa_ a_.length ca_), (3, .slice a2 s1.length c1), (4, .int .i64 i1)] ∧ Hold h h' [own cd2 a2 s1.length c1 s1]) ((a_.length : Int) - 0 : Int).toNat ⟨0, ([] : List Int), a1, 0, Int.le_refl _, gx1, rfl, H5⟩ ?_
    rintro my1 _ h2 ⟨i1, s1, a2, c1, hloy1', gx1, rfl, H2⟩
    refine Run_seq ?_
    refine Run_seq ?_
    refine Run_reg 4 (by kernel_rfl) (L' := [(0, .slice aa_ a_.length ca_), (3, .slice a2 s1.length c1), (4, .int .i64 i1), (9, .bool (decide (i1 < (a_.length : Int))))]) ?_ ?_
    · refine QRun_b [.int .i64 i1, .slice aa_ a_.length ca_, .int .i64 (a_.length : Int), .bool (decide (i1 < (a_.length : Int)))] 0 _ (by kernel_rfl) (fun w => by kernel_rfl) ?_
      exact QRun_done [0, 3, 4, 9] (by kernel_rfl) (by kernel_rfl)
    refine Run_cond (b := decide (i1 < (a_.length : Int))) (by kernel_rfl) (fun hb1 => ?_) (fun hb1 => ?_)
    · obtain ⟨my1, y1, rfl, hB1, hgoy1, houty1⟩ := M.for_go gx1 hb1
      have hlty1 := of_decide_eq_true hb1
      refine Run_skip ?_
      refine Run_seq ?_
      refine Run_block ?_
      refine Run_ops ?_
      obtain ⟨x2, hx1, hB1⟩ := M.bind_some hB1
      obtain ⟨hx1l, hx1u, hx1⟩ := M.idx_some hx1
      obtain ⟨a4, c3, hc1, r1⟩ := ra_.row hx1
      refine Run_b [.slice a2 s1.length c1, .slice aa_ a_.length ca_, .int .i64 i1] 0 _ (by kernel_rfl) (fun w => by kernel_rfl) ?_
      refine Run_y (.pointer (some (adr aa_ (i1.toNat * 1)))) (by kernel_rfl) (Y_idx (t := 22) (e := 23) (sz := 1) (a := aa_) (n := a_.length) (cap := ca_) (kk := .i64) (i := i1) (by kernel_rfl) Try.underlying22 (by kernel_rfl) ((ra_.at H2.ext).cell hx1).1 hx1l hx1u) ?_
      refine Run_y (.slice a4 x2.length c3) (by kernel_rfl) (Y_load1 (t := 23) (p := adr aa_ (i1.toNat * 1)) (v := .slice a4 x2.length c3) (by kernel_rfl) (fun w => by kernel_rfl) (cell_at H2.ext hc1)) ?_
      obtain ⟨l1, hl1, hB1⟩ := M.bind_some hB1
      have hl1 := M.app_some hl1
      refine Run_E (by kernel_rfl) ?_
      refine E_appR (C := cd2) (t := 23) (ty := 23) (n := s1.length) (m := x2.length) H2 cd2_copies (r1.at H2.ext) rfl cd2_ti rfl Try.underlying23 (by decide) (by kernel_rfl) hl1 (fun a5 c4 h4 H4 => ?_)
      refine Run_b [.slice a5 l1.length c4] 6 _ (by kernel_rfl) (fun w => by kernel_rfl) ?_
      refine Run_nil (by kernel_rfl) ?_
      refine Run_keep [0, 3, 4] (L' := [(0, .slice aa_ a_.length ca_), (3, .slice a5 l1.length c4), (4, .int .i64 i1)]) (by kernel_rfl) ?_
      refine Run_blk ?_
      refine Run_reg 3 (by kernel_rfl) (L' := [(0, .slice aa_ a_.length ca_), (3, .slice a5 l1.length c4), (4, .int .i64 (i1 + 1))]) ?_ ?_
      · refine QRun_b [.int .i64 i1] 0 _ (by kernel_rfl) (fun w => by kernel_rfl) ?_
        refine QRun_y (.int .i64 (i1 + 1)) (by kernel_rfl) (Y_eq (v := .int .i64 (w64 (i1 + 1))) (Y_pure (fun w => by kernel_rfl)) (by rw [w64_eq _ (by omega)])) ?_
        refine QRun_b [.int .i64 (i1 + 1)] 2 _ (by kernel_rfl) (fun w => by kernel_rfl) ?_
        exact QRun_done [0, 3, 4] (by kernel_rfl) (by kernel_rfl)
      have hB1 := M.ret_some hB1
      have gx1 := hgoy1 _ hB1.symm
      exact Run_again [0, 3, 4] (by kernel_rfl) my1 (Nat.lt_succ_self _) ⟨i1 + 1, l1, a5, c4, by omega, gx1, rfl, H4⟩
    · have gx1 := M.for_end gx1 hb1
      subst gx1
      refine Run_exit (k' := _) rfl ?_
      exact Run_fall [3] (by kernel_rfl) ⟨a2, c1, rfl, H2⟩

set_option maxRecDepth 100000 in
set_option maxHeartbeats 4000000 in
theorem w_spec_l07Start (h : Heap) (a_ : List (List Int)) (aa_ : Option Addr) (ca_ : Nat) (ra_ : Rd cd23 h (Lt h) aa_ ca_ a_) (first : List (List Int)) (afirst : Option Addr) (cfirst : Nat) (rfirst : Rd cd23 h (Lt h) afirst cfirst first) (n : Nat) (r : TL07series) (hF : spec_l07Start a_ first n = some r) :
    Fn Try.prog 77 #[.slice aa_ a_.length ca_, .slice afirst first.length cfirst] h fun v h' => ∃ (b0 : Nat), ∃ (a0 : Option Addr) (c0 : Nat), ∃ (a1 : Option Addr) (c1 : Nat), ∃ (a2 : Option Addr) (c2 : Nat), v = .pointer (some ⟨b0, 0, none⟩) ∧ Ali a0 aa_ c0 ca_ r.a a_ ∧ Ali a1 afirst c1 cfirst r.last first ∧ Hold h h' [box b0 96 [.slice a0 r.a.length c0, .slice a1 r.last.length c1, .slice a2 r.lists.length c2], own cd23 a2 r.lists.length c2 r.lists] := by
  unfold spec_l07Start at hF
  refine Fn_enter (args := [.slice aa_ a_.length ca_, .slice afirst first.length cfirst]) Try.func77 rfl (by kernel_rfl) (by kernel_rfl) (fun w0 _ => ?_)
  have H0 := Hold.init h
  refine Run_seq ?_
  refine Run_reg 1 (by kernel_rfl) (L' := [(0, .slice aa_ a_.length ca_), (1, .slice afirst first.length cfirst)]) ?_ ?_
  · refine QRun_b [.pointer none] 0 _ (by kernel_rfl) (fun w => by kernel_rfl) ?_
    exact QRun_done [0, 1] (by kernel_rfl) (by kernel_rfl)
  refine Run_seq ?_
  refine Run_ops ?_
  refine Run_b [.slice aa_ a_.length ca_, .slice afirst first.length cfirst, .slice afirst first.length cfirst] 0 _ (by kernel_rfl) (fun w => by kernel_rfl) ?_
  obtain ⟨x1, hx1, hF⟩ := M.bind_some hF
  refine Run_E (by kernel_rfl) ?_
  refine E_call (f := 132) (args := #[.slice afirst first.length cfirst]) (w_spec_l07Flat h first afirst cfirst rfirst _ _ hx1) (by kernel_rfl) (fun v1 h1 hp1 => ?_)
  obtain ⟨a1, c1, rfl, H1⟩ := hp1
  have H2 : Hold h h1 [own cd2 a1 x1.length c1 x1] := H0.call H1 rfl
  refine Run_E (by kernel_rfl) ?_
  refine E_lit1 (ey := 23) (n := x1.length) H2 (fun w => by kernel_rfl) rfl (fun a2 h2 H3 => ?_)
  refine Run_b [.agg #[.slice aa_ a_.length ca_, .slice afirst first.length cfirst, .slice a2 1 1]] 5 _ (by kernel_rfl) (fun w => by kernel_rfl) ?_
  refine Run_E (by kernel_rfl) ?_
  refine E_box (ty := 96) (cs := [.slice aa_ a_.length ca_, .slice afirst first.length cfirst, .slice a2 1 1]) H3 (fun w => by kernel_rfl) (fun b1 h3 H4 => ?_)
  refine Run_b [.pointer (some ⟨b1, 0, none⟩)] 7 _ (by kernel_rfl) (fun w => by kernel_rfl) ?_
  refine Run_nil (by kernel_rfl) ?_
  refine Run_keep [4] (L' := [(4, .pointer (some ⟨b1, 0, none⟩))]) (by kernel_rfl) ?_
  have hF := M.ret_some hF
  subst hF
  have H5 : Hold h h3 [own cd23 a2 1 1 [x1], box b1 96 [.slice aa_ a_.length ca_, .slice afirst first.length cfirst, .slice a2 1 1]] := H4.pick [1, 0] (by kernel_rfl)
  have H6 := H5.norm
  have H7 : Hold h h3 [box b1 96 [.slice aa_ a_.length ca_, .slice afirst first.length cfirst, .slice a2 1 1], own cd23 a2 ([x1].length) 1 [x1]] := H6.pick [1, 0] (by kernel_rfl)
  exact Run_ret1 rfl (ResV_tmp (v := .pointer (some ⟨b1, 0, none⟩)) (by kernel_rfl)) ⟨b1, aa_, ca_, afirst, cfirst, a2, 1, (by simp only [(H5.len 0 rfl)]), .inl ⟨rfl, rfl, rfl⟩, .inl ⟨rfl, rfl, rfl⟩, H7⟩

set_option maxRecDepth 100000 in
set_option maxHeartbeats 4000000 in
theorem w_spec_l01Times (h : Heap) (a_ : Int) (b : Int) (n : Nat) (r : Int) (hF : spec_l01Times a_ b n = some r) :
    Fn Try.prog 81 #[.int .i64 a_, .int .i64 b] h fun v h' => v = .int .i64 r ∧ h' = h := by
  unfold spec_l01Times at hF
  refine Fn_enter (args := [.int .i64 a_, .int .i64 b]) Try.func81 rfl (by kernel_rfl) (by kernel_rfl) (fun w0 _ => ?_)
  refine Run_seq ?_
  refine Run_reg 1 (by kernel_rfl) (L' := [(0, .int .i64 a_), (1, .int .i64 b)]) ?_ ?_
  · refine QRun_b [.int .i64 0] 0 _ (by kernel_rfl) (fun w => by kernel_rfl) ?_
    exact QRun_done [0, 1] (by kernel_rfl) (by kernel_rfl)
  refine Run_seq ?_
  refine Run_seq ?_
  refine Run_reg 6 (by kernel_rfl) (L' := [(0, .int .i64 a_), (1, .int .i64 b), (10, .bool ((a_ == (-1000000000000000)) || (b == (-1000000000000000))))]) ?_ ?_
  · refine QRun_b [.int .i64 a_, .bool (a_ == (-1000000000000000))] 0 _ (by kernel_rfl) (fun w => by kernel_rfl) ?_
    refine QRun_seq 6 [(0, .int .i64 a_), (1, .int .i64 b), (10, .bool ((a_ == (-1000000000000000)) || (b == (-1000000000000000))))] ?_ ?_
    · rcases Bool.eq_false_or_eq_true (a_ == (-1000000000000000)) with hb1 | hb1
      · refine QRun_bool (a_ == (-1000000000000000)) true (by kernel_rfl) (fun w => by kernel_rfl) hb1 ?_
        refine QRun_n (by kernel_rfl) ?_
        refine QRun_n (by kernel_rfl) ?_
        refine QRun_bool true ((a_ == (-1000000000000000)) || (b == (-1000000000000000))) (by kernel_rfl) (fun w => by kernel_rfl) (by rw [hb1]; rfl) ?_
        exact QRun_done [0, 1, 10] (by kernel_rfl) (by kernel_rfl)
      · refine QRun_bool (a_ == (-1000000000000000)) false (by kernel_rfl) (fun w => by kernel_rfl) hb1 ?_
        refine QRun_b [.int .i64 b, .bool (b == (-1000000000000000))] 3 _ (by kernel_rfl) (fun w => by kernel_rfl) ?_
        refine QRun_bool (b == (-1000000000000000)) ((a_ == (-1000000000000000)) || (b == (-1000000000000000))) (by kernel_rfl) (fun w => by kernel_rfl) (by rw [hb1]; rfl) ?_
        exact QRun_done [0, 1, 10] (by kernel_rfl) (by kernel_rfl)
    exact QRun_done [0, 1, 10] (by kernel_rfl) (by kernel_rfl)
  refine Run_cond (b := (a_ == (-1000000000000000)) || (b == (-1000000000000000))) (by kernel_rfl) (fun hb2 => ?_) (fun hb2 => ?_)
  · have hF := (M.ite_some hF).1 hb2
    refine Run_seq ?_
    refine Run_reg 1 (by kernel_rfl) (L' := [(4, .int .i64 (-1000000000000000))]) ?_ ?_
    · refine QRun_b [.int .i64 (-1000000000000000)] 0 _ (by kernel_rfl) (fun w => by kernel_rfl) ?_
      exact QRun_done [4] (by kernel_rfl) (by kernel_rfl)
    have hF := M.ret_some hF
    subst hF
    exact Run_ret1 rfl (ResV_tmp (v := .int .i64 (-1000000000000000)) (by kernel_rfl)) ⟨rfl, rfl⟩
  · have hF := (M.ite_some hF).2 hb2
    refine Run_skip ?_
    refine Run_seq ?_
    refine Run_reg 4 (by kernel_rfl) (L' := [(4, .int .i64 (w64 (a_ + b)))]) ?_ ?_
    · refine QRun_b [.int .i64 a_, .int .i64 b, .int .i64 (w64 (a_ + b)), .int .i64 (w64 (a_ + b))] 0 _ (by kernel_rfl) (fun w => by kernel_rfl) ?_
      exact QRun_done [4] (by kernel_rfl) (by kernel_rfl)
    have hF := M.ret_some hF
    subst hF
    exact Run_ret1 rfl (ResV_tmp (v := .int .i64 (w64 (a_ + b))) (by kernel_rfl)) ⟨rfl, rfl⟩

set_option maxRecDepth 100000 in
set_option maxHeartbeats 4000000 in
theorem w_spec_l02Multiply (h : Heap) (a_ : List (List Int)) (aa_ : Option Addr) (ca_ : Nat) (ra_ : Rd cd23 h (Lt h) aa_ ca_ a_) (b : List (List Int)) (ab : Option Addr) (cb : Nat) (rb : Rd cd23 h (Lt h) ab cb b) (n : Nat) (r : (List (List Int))) (hF : spec_l02Multiply a_ b n = some r) :
    Fn Try.prog 143 #[.slice aa_ a_.length ca_, .slice ab b.length cb] h fun v h' => ∃ (a0 : Option Addr) (c0 : Nat), v = .slice a0 r.length c0 ∧ Hold h h' [own cd23 a0 r.length c0 r] := by
  unfold spec_l02Multiply at hF
  refine Fn_enter (args := [.slice aa_ a_.length ca_, .slice ab b.length cb]) Try.func143 rfl (by kernel_rfl) (by kernel_rfl) (fun w0 _ => ?_)
  have H0 := Hold.init h
  refine Run_seq ?_
  refine Run_reg 1 (by kernel_rfl) (L' := [(0, .slice aa_ a_.length ca_), (1, .slice ab b.length cb)]) ?_ ?_
  · refine QRun_b [.slice none 0 0] 0 _ (by kernel_rfl) (fun w => by kernel_rfl) ?_
    exact QRun_done [0, 1] (by kernel_rfl) (by kernel_rfl)
  refine Run_seq ?_
  refine Run_ops ?_
  obtain ⟨x1, hx1, hF⟩ := M.bind_some hF
  obtain ⟨hx1l, hx1u, hx1⟩ := M.idx_some hx1
  obtain ⟨a1, c1, hc1, r1⟩ := rb.row hx1
  refine Run_b [.slice aa_ a_.length ca_, .int .i64 (a_.length : Int), .slice ab b.length cb] 0 _ (by kernel_rfl) (fun w => by kernel_rfl) ?_
  refine Run_y (.pointer (some (adr ab (0 * 1)))) (by kernel_rfl) (Y_idx (t := 22) (e := 23) (sz := 1) (a := ab) (n := b.length) (cap := cb) (kk := .i64) (i := 0) (by kernel_rfl) Try.underlying22 (by kernel_rfl) (rb.cell hx1).1 hx1l hx1u) ?_
  refine Run_y (.slice a1 x1.length c1) (by kernel_rfl) (Y_load1 (t := 23) (p := adr ab (0 * 1)) (v := .slice a1 x1.length c1) (by kernel_rfl) (fun w => by kernel_rfl) hc1) ?_
  refine Run_b [.int .i64 (x1.length : Int)] 5 _ (by kernel_rfl) (fun w => by kernel_rfl) ?_
  obtain ⟨x2, hx2, hF⟩ := M.bind_some hF
  refine Run_E (by kernel_rfl) ?_
  refine E_call (f := 119) (args := #[.int .i64 (a_.length : Int), .int .i64 (x1.length : Int)]) (w_spec_l02Bottom h (a_.length : Int) (x1.length : Int) _ _ hx2) (by kernel_rfl) (fun v1 h1 hp1 => ?_)
  obtain ⟨a2, c2, rfl, H1⟩ := hp1
  have H2 : Hold h h1 [own cd23 a2 x2.length c2 x2] := H0.call H1 rfl
  refine Run_b [.slice a2 x2.length c2] 7 _ (by kernel_rfl) (fun w => by kernel_rfl) ?_
  refine Run_nil (by kernel_rfl) ?_
  refine Run_keep [0, 1, 5] (L' := [(0, .slice aa_ a_.length ca_), (1, .slice ab b.length cb), (5, .slice a2 x2.length c2)]) (by kernel_rfl) ?_
  refine Run_seq ?_
  refine Run_seq ?_
  refine Run_reg 1 (by kernel_rfl) (L' := [(0, .slice aa_ a_.length ca_), (1, .slice ab b.length cb), (5, .slice a2 x2.length c2), (6, .int .i64 0)]) ?_ ?_
  · refine QRun_b [.int .i64 0] 0 _ (by kernel_rfl) (fun w => by kernel_rfl) ?_
    exact QRun_done [0, 1, 5, 6] (by kernel_rfl) (by kernel_rfl)
  obtain ⟨x3, gx3, hF⟩ := M.bind_some hF
  obtain ⟨hloy1, hhiy1, gx3⟩ := M.for_start gx3
  refine Run_join (fun L' h' => L' = [(5, .slice a2 x2.length c2)] ∧ Hold h h' [own cd23 a2 x2.length c2 x3]) ?_ ?_
  · rintro _ h3 ⟨rfl, H4⟩
    refine Run_seq ?_
    refine Run_reg 2 (by kernel_rfl) (L' := [(4, .slice a2 x2.length c2)]) ?_ ?_
    · refine QRun_b [.slice a2 x2.length c2, .slice a2 x2.length c2] 0 _ (by kernel_rfl) (fun w => by kernel_rfl) ?_
      exact QRun_done [4] (by kernel_rfl) (by kernel_rfl)
    have hF := M.ret_some hF
    subst hF
    have H16 := H4.norm
    exact Run_ret1 rfl (ResV_tmp (v := .slice a2 x2.length c2) (by kernel_rfl)) ⟨a2, c2, (by simp only [(H4.len 0 rfl)]), H16⟩
  · refine Run_block ?_
    refine Run_keep [0, 1, 5, 6] (L' := [(0, .slice aa_ a_.length ca_), (1, .slice ab b.length cb), (5, .slice a2 x2.length c2), (6, .int .i64 0)]) (by kernel_rfl) ?_
    refine Run_loop (fun m L' h' => ∃ (i1 : Int) (s1 : (List (List Int))), 0 ≤ i1 ∧ M.forN (a_.length : Int) _ _ n m i1 s1 = some x3 ∧ L' = [(0, .slice aa_ a_.length ca_), (1, .slice ab b.length cb), (5, .slice a2 x2.length c2), (6, .int .i64 i1)] ∧ Hold h h' [own cd23 a2 x2.length c2 s1]) ((a_.length : Int) - 0 : Int).toNat ⟨0, x2, Int.le_refl _, gx3, rfl, H2⟩ ?_
    rintro my1 _ h2 ⟨i1, s1, hloy1', gx3, rfl, H3⟩
    refine Run_seq ?_
    refine Run_seq ?_
    refine Run_reg 4 (by kernel_rfl) (L' := [(0, .slice aa_ a_.length ca_), (1, .slice ab b.length cb), (5, .slice a2 x2.length c2), (6, .int .i64 i1), (19, .bool (decide (i1 < (a_.length : Int))))]) ?_ ?_
    · refine QRun_b [.int .i64 i1, .slice aa_ a_.length ca_, .int .i64 (a_.length : Int), .bool (decide (i1 < (a_.length : Int)))] 0 _ (by kernel_rfl) (fun w => by kernel_rfl) ?_
      exact QRun_done [0, 1, 5, 6, 19] (by kernel_rfl) (by kernel_rfl)
    refine Run_cond (b := decide (i1 < (a_.length : Int))) (by kernel_rfl) (fun hb1 => ?_) (fun hb1 => ?_)
    · obtain ⟨my1, y1, rfl, hB1, hgoy1, houty1⟩ := M.for_go gx3 hb1
      have hlty1 := of_decide_eq_true hb1
      refine Run_skip ?_
      refine Run_seq ?_
      refine Run_block ?_
      refine Run_seq ?_
      refine Run_reg 1 (by kernel_rfl) (L' := [(0, .slice aa_ a_.length ca_), (1, .slice ab b.length cb), (5, .slice a2 x2.length c2), (6, .int .i64 i1), (7, .int .i64 0)]) ?_ ?_
      · refine QRun_b [.int .i64 0] 0 _ (by kernel_rfl) (fun w => by kernel_rfl) ?_
        exact QRun_done [0, 1, 5, 6, 7] (by kernel_rfl) (by kernel_rfl)
      obtain ⟨x4, gx4, hB1⟩ := M.bind_some hB1
      refine Run_join (fun L' h' => L' = [(0, .slice aa_ a_.length ca_), (1, .slice ab b.length cb), (5, .slice a2 x2.length c2), (6, .int .i64 i1)] ∧ Hold h h' [own cd23 a2 x2.length c2 x4.1]) ?_ ?_
      · rintro _ h5 ⟨rfl, H6⟩
        refine Run_blk ?_
        refine Run_reg 3 (by kernel_rfl) (L' := [(0, .slice aa_ a_.length ca_), (1, .slice ab b.length cb), (5, .slice a2 x2.length c2), (6, .int .i64 (i1 + 1))]) ?_ ?_
        · refine QRun_b [.int .i64 i1] 0 _ (by kernel_rfl) (fun w => by kernel_rfl) ?_
          refine QRun_y (.int .i64 (i1 + 1)) (by kernel_rfl) (Y_eq (v := .int .i64 (w64 (i1 + 1))) (Y_pure (fun w => by kernel_rfl)) (by rw [w64_eq _ (by omega)])) ?_
          refine QRun_b [.int .i64 (i1 + 1)] 2 _ (by kernel_rfl) (fun w => by kernel_rfl) ?_
          exact QRun_done [0, 1, 5, 6] (by kernel_rfl) (by kernel_rfl)
        have hB1 := M.ret_some hB1
        have gx3 := hgoy1 _ hB1.symm
        exact Run_again [0, 1, 5, 6] (by kernel_rfl) my1 (Nat.lt_succ_self _) ⟨i1 + 1, x4.1, by omega, gx3, rfl, H6⟩
      · refine Run_block ?_
        refine Run_keep [0, 1, 5, 6, 7] (L' := [(0, .slice aa_ a_.length ca_), (1, .slice ab b.length cb), (5, .slice a2 x2.length c2), (6, .int .i64 i1), (7, .int .i64 0)]) (by kernel_rfl) ?_
        refine Run_loop (fun m L' h' => ∃ (s2 : (List (List Int)) × Int), M.loopN _ n m s2 = some x4 ∧ L' = [(0, .slice aa_ a_.length ca_), (1, .slice ab b.length cb), (5, .slice a2 x2.length c2), (6, .int .i64 i1), (7, .int .i64 s2.2)] ∧ Hold h h' [own cd23 a2 x2.length c2 s2.1]) n ⟨(s1, 0), gx4, rfl, H3⟩ ?_
        rintro my2 _ h4 ⟨s2, gx4, rfl, H5⟩
        obtain ⟨my2, y2, rfl, hB2, hgoy2, houty2⟩ := M.loop_some gx4
        refine Run_seq ?_
        refine Run_seq ?_
        obtain ⟨x5, hx3, hB2⟩ := M.bind_some hB2
        obtain ⟨hx3l, hx3u, hx3⟩ := M.idx_some hx3
        obtain ⟨a3, c3, hc2, r2⟩ := rb.row hx3
        refine Run_reg 6 (by kernel_rfl) (L' := [(0, .slice aa_ a_.length ca_), (1, .slice ab b.length cb), (5, .slice a2 x2.length c2), (6, .int .i64 i1), (7, .int .i64 s2.2), (27, .bool (decide (s2.2 < (x5.length : Int))))]) ?_ ?_
        · refine QRun_b [.int .i64 s2.2, .slice ab b.length cb] 0 _ (by kernel_rfl) (fun w => by kernel_rfl) ?_
          refine QRun_y (.pointer (some (adr ab (0 * 1)))) (by kernel_rfl) (Y_idx (t := 22) (e := 23) (sz := 1) (a := ab) (n := b.length) (cap := cb) (kk := .i64) (i := 0) (by kernel_rfl) Try.underlying22 (by kernel_rfl) ((rb.at H5.ext).cell hx3).1 hx3l hx3u) ?_
          refine QRun_y (.slice a3 x5.length c3) (by kernel_rfl) (Y_load1 (t := 23) (p := adr ab (0 * 1)) (v := .slice a3 x5.length c3) (by kernel_rfl) (fun w => by kernel_rfl) (cell_at H5.ext hc2)) ?_
          refine QRun_b [.int .i64 (x5.length : Int), .bool (decide (s2.2 < (x5.length : Int)))] 4 _ (by kernel_rfl) (fun w => by kernel_rfl) ?_
          exact QRun_done [0, 1, 5, 6, 7, 27] (by kernel_rfl) (by kernel_rfl)
        refine Run_cond (b := decide (s2.2 < (x5.length : Int))) (by kernel_rfl) (fun hb2 => ?_) (fun hb2 => ?_)
        · have hB2 := (M.ite_some hB2).1 hb2
          refine Run_skip ?_
          refine Run_seq ?_
          refine Run_block ?_
          refine Run_seq ?_
          refine Run_reg 1 (by kernel_rfl) (L' := [(0, .slice aa_ a_.length ca_), (1, .slice ab b.length cb), (5, .slice a2 x2.length c2), (6, .int .i64 i1), (7, .int .i64 s2.2), (8, .int .i64 0)]) ?_ ?_
          · refine QRun_b [.int .i64 0] 0 _ (by kernel_rfl) (fun w => by kernel_rfl) ?_
            exact QRun_done [0, 1, 5, 6, 7, 8] (by kernel_rfl) (by kernel_rfl)
          obtain ⟨x6, gx6, hB2⟩ := M.bind_some hB2
          obtain ⟨hloy3, hhiy3, gx6⟩ := M.for_start gx6
          refine Run_join (fun L' h' => L' = [(0, .slice aa_ a_.length ca_), (1, .slice ab b.length cb), (5, .slice a2 x2.length c2), (6, .int .i64 i1), (7, .int .i64 s2.2)] ∧ Hold h h' [own cd23 a2 x2.length c2 x6]) ?_ ?_
          · rintro _ h7 ⟨rfl, H8⟩
            refine Run_blk ?_
            refine Run_reg 3 (by kernel_rfl) (L' := [(0, .slice aa_ a_.length ca_), (1, .slice ab b.length cb), (5, .slice a2 x2.length c2), (6, .int .i64 i1), (7, .int .i64 (w64 (s2.2 + 1)))]) ?_ ?_
            · refine QRun_b [.int .i64 s2.2, .int .i64 (w64 (s2.2 + 1)), .int .i64 (w64 (s2.2 + 1))] 0 _ (by kernel_rfl) (fun w => by kernel_rfl) ?_
              exact QRun_done [0, 1, 5, 6, 7] (by kernel_rfl) (by kernel_rfl)
            have hB2 := M.ret_some hB2
            have gx4 := hgoy2 _ hB2.symm
            exact Run_again [0, 1, 5, 6, 7] (by kernel_rfl) my2 (Nat.lt_succ_self _) ⟨(x6, (w64 (s2.2 + 1))), gx4, rfl, H8⟩
          · refine Run_block ?_
            refine Run_keep [0, 1, 5, 6, 7, 8] (L' := [(0, .slice aa_ a_.length ca_), (1, .slice ab b.length cb), (5, .slice a2 x2.length c2), (6, .int .i64 i1), (7, .int .i64 s2.2), (8, .int .i64 0)]) (by kernel_rfl) ?_
            refine Run_loop (fun m L' h' => ∃ (i2 : Int) (s3 : (List (List Int))), 0 ≤ i2 ∧ M.forN (b.length : Int) _ _ n m i2 s3 = some x6 ∧ L' = [(0, .slice aa_ a_.length ca_), (1, .slice ab b.length cb), (5, .slice a2 x2.length c2), (6, .int .i64 i1), (7, .int .i64 s2.2), (8, .int .i64 i2)] ∧ Hold h h' [own cd23 a2 x2.length c2 s3]) ((b.length : Int) - 0 : Int).toNat ⟨0, s2.1, Int.le_refl _, gx6, rfl, H5⟩ ?_
            rintro my3 _ h6 ⟨i2, s3, hloy3', gx6, rfl, H7⟩
            refine Run_seq ?_
            refine Run_seq ?_
            refine Run_reg 4 (by kernel_rfl) (L' := [(0, .slice aa_ a_.length ca_), (1, .slice ab b.length cb), (5, .slice a2 x2.length c2), (6, .int .i64 i1), (7, .int .i64 s2.2), (8, .int .i64 i2), (33, .bool (decide (i2 < (b.length : Int))))]) ?_ ?_
            · refine QRun_b [.int .i64 i2, .slice ab b.length cb, .int .i64 (b.length : Int), .bool (decide (i2 < (b.length : Int)))] 0 _ (by kernel_rfl) (fun w => by kernel_rfl) ?_
              exact QRun_done [0, 1, 5, 6, 7, 8, 33] (by kernel_rfl) (by kernel_rfl)
            refine Run_cond (b := decide (i2 < (b.length : Int))) (by kernel_rfl) (fun hb3 => ?_) (fun hb3 => ?_)
            · obtain ⟨my3, y3, rfl, hB3, hgoy3, houty3⟩ := M.for_go gx6 hb3
              have hlty3 := of_decide_eq_true hb3
              refine Run_skip ?_
              refine Run_seq ?_
              refine Run_block ?_
              obtain ⟨x7, hx4, hB3⟩ := M.bind_some hB3
              obtain ⟨hx4l, hx4u, hx4⟩ := M.idx_some hx4
              have H9 := H7.toRows
              obtain ⟨a4, c4, H10⟩ := H9.pinRow hx4
              obtain ⟨x8, hx5, hB3⟩ := M.bind_some hB3
              obtain ⟨hx5l, hx5u, hx5⟩ := M.idx_some hx5
              obtain ⟨a5, c5, H11⟩ := H10.pinRow hx5
              obtain ⟨x9, hx6, hB3⟩ := M.bind_some hB3
              obtain ⟨hx6l, hx6u, hx6⟩ := M.idx_some hx6
              obtain ⟨x10, hx7, hB3⟩ := M.bind_some hB3
              obtain ⟨hx7l, hx7u, hx7⟩ := M.idx_some hx7
              obtain ⟨a6, c6, hc3, r3⟩ := ra_.row hx7
              obtain ⟨x11, hx8, hB3⟩ := M.bind_some hB3
              obtain ⟨hx8l, hx8u, hx8⟩ := M.idx_some hx8
              obtain ⟨x12, hx9, hB3⟩ := M.bind_some hB3
              obtain ⟨hx9l, hx9u, hx9⟩ := M.idx_some hx9
              obtain ⟨a7, c7, hc4, r4⟩ := rb.row hx9
              obtain ⟨x13, hx10, hB3⟩ := M.bind_some hB3
              obtain ⟨hx10l, hx10u, hx10⟩ := M.idx_some hx10
              obtain ⟨x14, hx11, hB3⟩ := M.bind_some hB3
              obtain ⟨x15, hx12, hB3⟩ := M.bind_some hB3
              obtain ⟨hx12l, hx12u, hx12⟩ := M.idx_some hx12
              refine Run_D (fun x => Hold h x [rowsP cd2 23 a2 x2.length c2 s3 [(i1.toNat, a5, x8.length, c5, x8), (i1.toNat, a4, x7.length, c4, x7)]]) (fun x => Hold h x [rowsP cd2 23 a2 x2.length c2 s3 [(i1.toNat, a5, x8.length, c5, x8), (i1.toNat, a4, x7.length, c4, x7)]]) mixed (by kernel_rfl) H11 Hold.stable (fun x Hy => (show Hold h x [rowsP cd2 23 a2 x2.length c2 s3 [(i1.toNat, a5, x8.length, c5, x8), (i1.toNat, a4, x7.length, c4, x7)]] from Hy).pick [0] (by kernel_rfl)) ?_
              refine DR_b 28 [.slice a2 x2.length c2, .int .i64 i1] 0 (by kernel_rfl) (by kernel_rfl) (by kernel_rfl) (fun w => by kernel_rfl) ?_
              refine DR_y 27 (i := 2) (.pointer (some (adr a2 (i1.toNat * 1)))) (by kernel_rfl) (by kernel_rfl) (by kernel_rfl) (fun hx Hx => (YE.of (Y_idx (t := 22) (e := 23) (sz := 1) (a := a2) (n := x2.length) (cap := c2) (kk := .i64) (i := i1) (by kernel_rfl) Try.underlying22 (by kernel_rfl) ((H7.rd 0 rfl).cell hx4).1 hx4l (by rw [← (H7.len 0 rfl)]; exact hx4u)))) ?_
              refine DR_y 26 (i := 3) (.slice a4 x7.length c4) (by kernel_rfl) (by kernel_rfl) (by kernel_rfl) (fun hx Hx => (YE.of (Y_load1 (t := 23) (p := adr a2 (i1.toNat * 1)) (v := .slice a4 x7.length c4) (by kernel_rfl) (fun w => by kernel_rfl) (Hx.cellPin 0 rfl 1 rfl)))) ?_
              refine DR_b 23 [.int .i64 s2.2, .slice a2 x2.length c2, .int .i64 i1] 4 (by kernel_rfl) (by kernel_rfl) (by kernel_rfl) (fun w => by kernel_rfl) ?_
              refine DR_y 22 (i := 7) (.pointer (some (adr a2 (i1.toNat * 1)))) (by kernel_rfl) (by kernel_rfl) (by kernel_rfl) (fun hx Hx => (YE.of (Y_idx (t := 22) (e := 23) (sz := 1) (a := a2) (n := x2.length) (cap := c2) (kk := .i64) (i := i1) (by kernel_rfl) Try.underlying22 (by kernel_rfl) ((H10.rdRows 0 rfl).cell hx5).1 hx5l (by rw [← (H10.lenRows 0 rfl)]; exact hx5u)))) ?_
              refine DR_y 21 (i := 8) (.slice a5 x8.length c5) (by kernel_rfl) (by kernel_rfl) (by kernel_rfl) (fun hx Hx => (YE.of (Y_load1 (t := 23) (p := adr a2 (i1.toNat * 1)) (v := .slice a5 x8.length c5) (by kernel_rfl) (fun w => by kernel_rfl) (Hx.cellPin 0 rfl 0 rfl)))) ?_
              refine DR_b 20 [.int .i64 s2.2] 9 (by kernel_rfl) (by kernel_rfl) (by kernel_rfl) (fun w => by kernel_rfl) ?_
              refine DR_y 19 (i := 10) (.pointer (some (adr a5 (s2.2.toNat * 1)))) (by kernel_rfl) (by kernel_rfl) (by kernel_rfl) (fun hx Hx => (YE.of (Y_idx (t := 23) (e := 2) (sz := 1) (a := a5) (n := x8.length) (cap := c5) (kk := .i64) (i := s2.2) (by kernel_rfl) Try.underlying23 (by kernel_rfl) ((H11.rdPin 0 rfl 0 rfl).cell hx6).1 hx6l hx6u))) ?_
              refine DR_y 18 (i := 11) (.int .i64 x9) (by kernel_rfl) (by kernel_rfl) (by kernel_rfl) (fun hx Hx => (YE.of (Y_load1 (t := 2) (p := adr a5 (s2.2.toNat * 1)) (v := .int .i64 x9) (by kernel_rfl) (fun w => by kernel_rfl) (cd2_cell (Hx.rdPin 0 rfl 0 rfl) hx6)))) ?_
              refine DR_b 16 [.slice aa_ a_.length ca_, .int .i64 i1] 12 (by kernel_rfl) (by kernel_rfl) (by kernel_rfl) (fun w => by kernel_rfl) ?_
              refine DR_y 15 (i := 14) (.pointer (some (adr aa_ (i1.toNat * 1)))) (by kernel_rfl) (by kernel_rfl) (by kernel_rfl) (fun hx Hx => (YE.of (Y_idx (t := 22) (e := 23) (sz := 1) (a := aa_) (n := a_.length) (cap := ca_) (kk := .i64) (i := i1) (by kernel_rfl) Try.underlying22 (by kernel_rfl) ((ra_.at H11.ext).cell hx7).1 hx7l hx7u))) ?_
              refine DR_y 14 (i := 15) (.slice a6 x10.length c6) (by kernel_rfl) (by kernel_rfl) (by kernel_rfl) (fun hx Hx => (YE.of (Y_load1 (t := 23) (p := adr aa_ (i1.toNat * 1)) (v := .slice a6 x10.length c6) (by kernel_rfl) (fun w => by kernel_rfl) (cell_at Hx.ext hc3)))) ?_
              refine DR_b 13 [.int .i64 i2] 16 (by kernel_rfl) (by kernel_rfl) (by kernel_rfl) (fun w => by kernel_rfl) ?_
              refine DR_y 12 (i := 17) (.pointer (some (adr a6 (i2.toNat * 1)))) (by kernel_rfl) (by kernel_rfl) (by kernel_rfl) (fun hx Hx => (YE.of (Y_idx (t := 23) (e := 2) (sz := 1) (a := a6) (n := x10.length) (cap := c6) (kk := .i64) (i := i2) (by kernel_rfl) Try.underlying23 (by kernel_rfl) ((r3.at H11.ext).cell hx8).1 hx8l hx8u))) ?_
              refine DR_y 11 (i := 18) (.int .i64 x11) (by kernel_rfl) (by kernel_rfl) (by kernel_rfl) (fun hx Hx => (YE.of (Y_load1 (t := 2) (p := adr a6 (i2.toNat * 1)) (v := .int .i64 x11) (by kernel_rfl) (fun w => by kernel_rfl) (cd2_cell (r3.at Hx.ext) hx8)))) ?_
              refine DR_b 9 [.slice ab b.length cb, .int .i64 i2] 19 (by kernel_rfl) (by kernel_rfl) (by kernel_rfl) (fun w => by kernel_rfl) ?_
              refine DR_y 8 (i := 21) (.pointer (some (adr ab (i2.toNat * 1)))) (by kernel_rfl) (by kernel_rfl) (by kernel_rfl) (fun hx Hx => (YE.of (Y_idx (t := 22) (e := 23) (sz := 1) (a := ab) (n := b.length) (cap := cb) (kk := .i64) (i := i2) (by kernel_rfl) Try.underlying22 (by kernel_rfl) ((rb.at H11.ext).cell hx9).1 hx9l hx9u))) ?_
              refine DR_y 7 (i := 22) (.slice a7 x12.length c7) (by kernel_rfl) (by kernel_rfl) (by kernel_rfl) (fun hx Hx => (YE.of (Y_load1 (t := 23) (p := adr ab (i2.toNat * 1)) (v := .slice a7 x12.length c7) (by kernel_rfl) (fun w => by kernel_rfl) (cell_at Hx.ext hc4)))) ?_
              refine DR_b 6 [.int .i64 s2.2] 23 (by kernel_rfl) (by kernel_rfl) (by kernel_rfl) (fun w => by kernel_rfl) ?_
              refine DR_y 5 (i := 24) (.pointer (some (adr a7 (s2.2.toNat * 1)))) (by kernel_rfl) (by kernel_rfl) (by kernel_rfl) (fun hx Hx => (YE.of (Y_idx (t := 23) (e := 2) (sz := 1) (a := a7) (n := x12.length) (cap := c7) (kk := .i64) (i := s2.2) (by kernel_rfl) Try.underlying23 (by kernel_rfl) ((r4.at H11.ext).cell hx10).1 hx10l hx10u))) ?_
              refine DR_y 4 (i := 25) (.int .i64 x13) (by kernel_rfl) (by kernel_rfl) (by kernel_rfl) (fun hx Hx => (YE.of (Y_load1 (t := 2) (p := adr a7 (s2.2.toNat * 1)) (v := .int .i64 x13) (by kernel_rfl) (fun w => by kernel_rfl) (cd2_cell (r4.at Hx.ext) hx10)))) ?_
              refine DR_y 3 (i := 26) (.int .i64 x14) (by kernel_rfl) (by kernel_rfl) (by kernel_rfl) (fun hx Hx => (YE.of (Y_callq (f := 81) (args := #[.int .i64 x11, .int .i64 x13]) (v := .int .i64 x14) (by kernel_rfl) (w_spec_l01Times hx x11 x13 _ _ hx11)))) ?_
              refine DR_b 2 [.int .i64 (mx x9 x14)] 27 (by kernel_rfl) (by kernel_rfl) (by kernel_rfl) (fun w => by kernel_rfl) ?_
              refine DR_y 1 (i := 28) (.pointer (some (adr a4 (s2.2.toNat * 1)))) (by kernel_rfl) (by kernel_rfl) (by kernel_rfl) (fun hx Hx => (YE.of (Y_idx (t := 23) (e := 2) (sz := 1) (a := a4) (n := x7.length) (cap := c4) (kk := .i64) (i := s2.2) (by kernel_rfl) Try.underlying23 (by kernel_rfl) ((H11.rdPin 0 rfl 1 rfl).cell hx12).1 hx12l hx12u))) ?_
              refine DR_tail (i := 29) (by kernel_rfl) (by kernel_rfl) (by kernel_rfl) (fun h8 H12 => ?_)
              have H13 : Hold h h8 [rowsP cd2 23 a2 x2.length c2 s3 [(i1.toNat, a5, x8.length, c5, x8), (i1.toNat, a4, x7.length, c4, x7)]] := H12
              obtain ⟨l1, hu1, hB3⟩ := M.bind_some hB3
              have hu1 := M.upd_some hu1
              refine Run_E (by kernel_rfl) ?_
              refine E_put2 (C := cd2) (t := 2) (sz := 1) (j := s2.2) (x := (mx x9 x14)) (v := .int .i64 (mx x9 x14)) (m2 := s3.set i1.toNat l1) H13 cd2_flat 1 rfl (by kernel_rfl) rfl (cd2_own _) (by kernel_rfl) hu1 rfl (fun h9 H14 => ?_)
              refine Run_nil (by kernel_rfl) ?_
              refine Run_keep [0, 1, 5, 6, 7, 8] (L' := [(0, .slice aa_ a_.length ca_), (1, .slice ab b.length cb), (5, .slice a2 x2.length c2), (6, .int .i64 i1), (7, .int .i64 s2.2), (8, .int .i64 i2)]) (by kernel_rfl) ?_
              refine Run_blk ?_
              refine Run_reg 3 (by kernel_rfl) (L' := [(0, .slice aa_ a_.length ca_), (1, .slice ab b.length cb), (5, .slice a2 x2.length c2), (6, .int .i64 i1), (7, .int .i64 s2.2), (8, .int .i64 (i2 + 1))]) ?_ ?_
              · refine QRun_b [.int .i64 i2] 0 _ (by kernel_rfl) (fun w => by kernel_rfl) ?_
                refine QRun_y (.int .i64 (i2 + 1)) (by kernel_rfl) (Y_eq (v := .int .i64 (w64 (i2 + 1))) (Y_pure (fun w => by kernel_rfl)) (by rw [w64_eq _ (by omega)])) ?_
                refine QRun_b [.int .i64 (i2 + 1)] 2 _ (by kernel_rfl) (fun w => by kernel_rfl) ?_
                exact QRun_done [0, 1, 5, 6, 7, 8] (by kernel_rfl) (by kernel_rfl)
              have H15 := H14.ofRows
              have hB3 := M.ret_some hB3
              have gx6 := hgoy3 _ hB3.symm
              exact Run_again [0, 1, 5, 6, 7, 8] (by kernel_rfl) my3 (Nat.lt_succ_self _) ⟨i2 + 1, (s3.set i1.toNat l1), by omega, gx6, rfl, H15⟩
            · have gx6 := M.for_end gx6 hb3
              subst gx6
              refine Run_exit (k' := _) rfl ?_
              exact Run_fall [0, 1, 5, 6, 7] (by kernel_rfl) ⟨rfl, H7⟩
        · have hB2 := (M.ite_some hB2).2 hb2
          refine Run_exit (k' := _) rfl ?_
          have hB2 := M.ret_some hB2
          have gx4 := houty2 _ hB2.symm
          subst gx4
          exact Run_fall [0, 1, 5, 6] (by kernel_rfl) ⟨rfl, H5⟩
    · have gx3 := M.for_end gx3 hb1
      subst gx3
      refine Run_exit (k' := _) rfl ?_
      exact Run_fall [5] (by kernel_rfl) ⟨rfl, H3⟩

set_option maxRecDepth 100000 in
set_option maxHeartbeats 4000000 in
theorem w_spec_l07Shift (h : Heap) (x_ : List Int) (ax_ : Option Addr) (cx_ : Nat) (rx_ : Rd cd2 h (Lt h) ax_ cx_ x_) (g : Int) (n : Nat) (r : (List Int)) (hF : spec_l07Shift x_ g n = some r) :
    Fn Try.prog 98 #[.slice ax_ x_.length cx_, .int .i64 g] h fun v h' => ∃ (a0 : Option Addr) (c0 : Nat), v = .slice a0 r.length c0 ∧ Hold h h' [own cd2 a0 r.length c0 r] := by
  unfold spec_l07Shift at hF
  refine Fn_enter (args := [.slice ax_ x_.length cx_, .int .i64 g]) Try.func98 rfl (by kernel_rfl) (by kernel_rfl) (fun w0 _ => ?_)
  have H0 := Hold.init h
  refine Run_seq ?_
  refine Run_reg 1 (by kernel_rfl) (L' := [(0, .slice ax_ x_.length cx_), (1, .int .i64 g)]) ?_ ?_
  · refine QRun_b [.slice none 0 0] 0 _ (by kernel_rfl) (fun w => by kernel_rfl) ?_
    exact QRun_done [0, 1] (by kernel_rfl) (by kernel_rfl)
  refine Run_seq ?_
  refine Run_ops ?_
  refine Run_E (by kernel_rfl) ?_
  refine E_lit (C := cd2) (n := 0) (l := ([] : List Int)) (cs := []) H0 (fun w => by kernel_rfl) (Enc.nil _ _) rfl (by decide) (fun a1 h1 H1 => ?_)
  refine Run_b [.slice a1 0 0] 1 _ (by kernel_rfl) (fun w => by kernel_rfl) ?_
  refine Run_nil (by kernel_rfl) ?_
  refine Run_keep [0, 1, 5] (L' := [(0, .slice ax_ x_.length cx_), (1, .int .i64 g), (5, .slice a1 0 0)]) (by kernel_rfl) ?_
  refine Run_seq ?_
  refine Run_seq ?_
  refine Run_reg 1 (by kernel_rfl) (L' := [(0, .slice ax_ x_.length cx_), (1, .int .i64 g), (5, .slice a1 0 0), (6, .int .i64 0)]) ?_ ?_
  · refine QRun_b [.int .i64 0] 0 _ (by kernel_rfl) (fun w => by kernel_rfl) ?_
    exact QRun_done [0, 1, 5, 6] (by kernel_rfl) (by kernel_rfl)
  obtain ⟨x1, gx1, hF⟩ := M.bind_some hF
  obtain ⟨hloy1, hhiy1, gx1⟩ := M.for_start gx1
  refine Run_join (fun L' h' => ∃ (a3 : Option Addr) (c2 : Nat), L' = [(5, .slice a3 x1.length c2)] ∧ Hold h h' [own cd2 a3 x1.length c2 x1]) ?_ ?_
  · rintro _ h3 ⟨a3, c2, rfl, H3⟩
    refine Run_seq ?_
    refine Run_reg 2 (by kernel_rfl) (L' := [(4, .slice a3 x1.length c2)]) ?_ ?_
    · refine QRun_b [.slice a3 x1.length c2, .slice a3 x1.length c2] 0 _ (by kernel_rfl) (fun w => by kernel_rfl) ?_
      exact QRun_done [4] (by kernel_rfl) (by kernel_rfl)
    have hF := M.ret_some hF
    subst hF
    exact Run_ret1 rfl (ResV_tmp (v := .slice a3 x1.length c2) (by kernel_rfl)) ⟨a3, c2, rfl, H3⟩
  · refine Run_block ?_
    have hn1 := (H1.len 0 rfl)
    have H9 : Hold h h1 [own cd2 a1 (([] : List Int).length) 0 ([] : List Int)] := by rw [hn1]; exact H1
    refine Run_keep [0, 1, 5, 6] (L' := [(0, .slice ax_ x_.length cx_), (1, .int .i64 g), (5, .slice a1 (([] : List Int).length) 0), (6, .int .i64 0)]) (by rw [hn1]; kernel_rfl) ?_
    refine Run_loop (fun m L' h' => ∃ (i1 : Int) (s1 : (List Int)) (a2 : Option Addr) (c1 : Nat), 0 ≤ i1 ∧ M.forN (x_.length : Int) _ _ n m i1 s1 = some x1 ∧ L' = [(0, .slice ax_ x_.length cx_), (1, .int .i64 g), (5, .slice a2 s1.length c1), (6, .int .i64 i1)] ∧ Hold h h' [own cd2 a2 s1.length c1 s1]) ((x_.length : Int) - 0 : Int).toNat ⟨0, ([] : List Int), a1, 0, Int.le_refl _, gx1, rfl, H9⟩ ?_
    rintro my1 _ h2 ⟨i1, s1, a2, c1, hloy1', gx1, rfl, H2⟩
    refine Run_seq ?_
    refine Run_seq ?_
    refine Run_reg 4 (by kernel_rfl) (L' := [(0, .slice ax_ x_.length cx_), (1, .int .i64 g), (5, .slice a2 s1.length c1), (6, .int .i64 i1), (11, .bool (decide (i1 < (x_.length : Int))))]) ?_ ?_
    · refine QRun_b [.int .i64 i1, .slice ax_ x_.length cx_, .int .i64 (x_.length : Int), .bool (decide (i1 < (x_.length : Int)))] 0 _ (by kernel_rfl) (fun w => by kernel_rfl) ?_
      exact QRun_done [0, 1, 5, 6, 11] (by kernel_rfl) (by kernel_rfl)
    refine Run_cond (b := decide (i1 < (x_.length : Int))) (by kernel_rfl) (fun hb1 => ?_) (fun hb1 => ?_)
    · obtain ⟨my1, y1, rfl, hB1, hgoy1, houty1⟩ := M.for_go gx1 hb1
      have hlty1 := of_decide_eq_true hb1
      refine Run_skip ?_
      refine Run_seq ?_
      refine Run_block ?_
      refine Run_ops ?_
      obtain ⟨x2, hx1, hB1⟩ := M.bind_some hB1
      obtain ⟨hx1l, hx1u, hx1⟩ := M.idx_some hx1
      obtain ⟨x3, hx2, hB1⟩ := M.bind_some hB1
      refine Run_b [.slice a2 s1.length c1, .slice ax_ x_.length cx_, .int .i64 i1] 0 _ (by kernel_rfl) (fun w => by kernel_rfl) ?_
      refine Run_y (.pointer (some (adr ax_ (i1.toNat * 1)))) (by kernel_rfl) (Y_idx (t := 23) (e := 2) (sz := 1) (a := ax_) (n := x_.length) (cap := cx_) (kk := .i64) (i := i1) (by kernel_rfl) Try.underlying23 (by kernel_rfl) ((rx_.at H2.ext).cell hx1).1 hx1l hx1u) ?_
      refine Run_y (.int .i64 x2) (by kernel_rfl) (Y_load1 (t := 2) (p := adr ax_ (i1.toNat * 1)) (v := .int .i64 x2) (by kernel_rfl) (fun w => by kernel_rfl) (cd2_cell (rx_.at H2.ext) hx1)) ?_
      refine Run_b [.int .i64 g] 5 _ (by kernel_rfl) (fun w => by kernel_rfl) ?_
      refine Run_y (.int .i64 x3) (by kernel_rfl) (Y_callq (f := 81) (args := #[.int .i64 x2, .int .i64 g]) (v := .int .i64 x3) (by kernel_rfl) (w_spec_l01Times h2 x2 g _ _ hx2)) ?_
      refine Run_E (by kernel_rfl) ?_
      refine E_lit (C := cd2) (n := 1) (l := ([x3] : List Int)) (cs := [.int .i64 x3]) H2 (fun w => by kernel_rfl) (Enc.consE (cd2_own x3 _) (Enc.nil _ _) rfl) rfl (by decide) (fun a4 h4 H4 => ?_)
      obtain ⟨l1, hl1, hB1⟩ := M.bind_some hB1
      have hl1 := M.app_some hl1
      have H5 : Hold h h4 [own cd2 a2 s1.length c1 s1, own cd2 a4 1 1 ([x3] : List Int)] := H4.pick [1, 0] (by kernel_rfl)
      have H6 : Hold h h4 [own cd2 a4 1 1 ([x3] : List Int), own cd2 a2 s1.length c1 s1] := H5.pick [1, 0] (by kernel_rfl)
      have H7 : Hold h h4 [own cd2 a2 s1.length c1 s1, own cd2 a4 1 1 ([x3] : List Int)] := H6.pick [1, 0] (by kernel_rfl)
      refine Run_E (by kernel_rfl) ?_
      refine E_app (C := cd2) (t := 23) (ty := 23) (n := s1.length) (m := 1) H7 cd2_ti rfl Try.underlying23 (by decide) (by kernel_rfl) hl1 (fun a5 c3 h5 H8 => ?_)
      refine Run_b [.slice a5 l1.length c3] 9 _ (by kernel_rfl) (fun w => by kernel_rfl) ?_
      refine Run_nil (by kernel_rfl) ?_
      refine Run_keep [0, 1, 5, 6] (L' := [(0, .slice ax_ x_.length cx_), (1, .int .i64 g), (5, .slice a5 l1.length c3), (6, .int .i64 i1)]) (by kernel_rfl) ?_
      refine Run_blk ?_
      refine Run_reg 3 (by kernel_rfl) (L' := [(0, .slice ax_ x_.length cx_), (1, .int .i64 g), (5, .slice a5 l1.length c3), (6, .int .i64 (i1 + 1))]) ?_ ?_
      · refine QRun_b [.int .i64 i1] 0 _ (by kernel_rfl) (fun w => by kernel_rfl) ?_
        refine QRun_y (.int .i64 (i1 + 1)) (by kernel_rfl) (Y_eq (v := .int .i64 (w64 (i1 + 1))) (Y_pure (fun w => by kernel_rfl)) (by rw [w64_eq _ (by omega)])) ?_
        refine QRun_b [.int .i64 (i1 + 1)] 2 _ (by kernel_rfl) (fun w => by kernel_rfl) ?_
        exact QRun_done [0, 1, 5, 6] (by kernel_rfl) (by kernel_rfl)
      have hB1 := M.ret_some hB1
      have gx1 := hgoy1 _ hB1.symm
      exact Run_again [0, 1, 5, 6] (by kernel_rfl) my1 (Nat.lt_succ_self _) ⟨i1 + 1, l1, a5, c3, by omega, gx1, rfl, H8⟩
    · have gx1 := M.for_end gx1 hb1
      subst gx1
      refine Run_exit (k' := _) rfl ?_
      exact Run_fall [5] (by kernel_rfl) ⟨a2, c1, rfl, H2⟩

set_option maxRecDepth 100000 in
set_option maxHeartbeats 4000000 in
theorem w_spec_l01Same (h : Heap) (a_ : List Int) {Sa_ : Bs} (aa_ : Option Addr) (ca_ : Nat) (ra_ : Rd cd2 h Sa_ aa_ ca_ a_) (b : List Int) {Sb : Bs} (ab : Option Addr) (cb : Nat) (rb : Rd cd2 h Sb ab cb b) (n : Nat) (r : Bool) (hF : spec_l01Same a_ b n = some r) :
    Fn Try.prog 106 #[.slice aa_ a_.length ca_, .slice ab b.length cb] h fun v h' => v = .bool r ∧ h' = h := by
  unfold spec_l01Same at hF
  refine Fn_enter (args := [.slice aa_ a_.length ca_, .slice ab b.length cb]) Try.func106 rfl (by kernel_rfl) (by kernel_rfl) (fun w0 _ => ?_)
  refine Run_seq ?_
  refine Run_reg 1 (by kernel_rfl) (L' := [(0, .slice aa_ a_.length ca_), (1, .slice ab b.length cb)]) ?_ ?_
  · refine QRun_b [.bool false] 0 _ (by kernel_rfl) (fun w => by kernel_rfl) ?_
    exact QRun_done [0, 1] (by kernel_rfl) (by kernel_rfl)
  refine Run_seq ?_
  refine Run_seq ?_
  refine Run_reg 5 (by kernel_rfl) (L' := [(0, .slice aa_ a_.length ca_), (1, .slice ab b.length cb), (10, .bool ((a_.length : Int) != (b.length : Int)))]) ?_ ?_
  · refine QRun_b [.slice aa_ a_.length ca_, .int .i64 (a_.length : Int), .slice ab b.length cb, .int .i64 (b.length : Int), .bool ((a_.length : Int) != (b.length : Int))] 0 _ (by kernel_rfl) (fun w => by kernel_rfl) ?_
    exact QRun_done [0, 1, 10] (by kernel_rfl) (by kernel_rfl)
  refine Run_cond (b := (a_.length : Int) != (b.length : Int)) (by kernel_rfl) (fun hb1 => ?_) (fun hb1 => ?_)
  · have hF := (M.ite_some hF).1 hb1
    refine Run_seq ?_
    refine Run_reg 1 (by kernel_rfl) (L' := [(4, .bool false)]) ?_ ?_
    · refine QRun_b [.bool false] 0 _ (by kernel_rfl) (fun w => by kernel_rfl) ?_
      exact QRun_done [4] (by kernel_rfl) (by kernel_rfl)
    have hF := M.ret_some hF
    subst hF
    exact Run_ret1 rfl (ResV_tmp (v := .bool false) (by kernel_rfl)) ⟨rfl, rfl⟩
  · have hF := (M.ite_some hF).2 hb1
    refine Run_skip ?_
    refine Run_seq ?_
    refine Run_seq ?_
    refine Run_reg 1 (by kernel_rfl) (L' := [(0, .slice aa_ a_.length ca_), (1, .slice ab b.length cb), (5, .int .i64 0)]) ?_ ?_
    · refine QRun_b [.int .i64 0] 0 _ (by kernel_rfl) (fun w => by kernel_rfl) ?_
      exact QRun_done [0, 1, 5] (by kernel_rfl) (by kernel_rfl)
    obtain ⟨x1, gx1, hF⟩ := M.bind_some hF
    obtain ⟨hloy1, hhiy1, gx1⟩ := M.for_start gx1
    refine Run_join (fun L' h' => ∃ (s2 : Unit), x1 = .inl s2 ∧ L' = [] ∧ h = h') ?_ ?_
    · rintro _ _ ⟨s2, es2, rfl, rfl⟩
      have hF := M.cont_inl' hF es2
      refine Run_seq ?_
      refine Run_reg 1 (by kernel_rfl) (L' := [(4, .bool true)]) ?_ ?_
      · refine QRun_b [.bool true] 0 _ (by kernel_rfl) (fun w => by kernel_rfl) ?_
        exact QRun_done [4] (by kernel_rfl) (by kernel_rfl)
      have hF := M.ret_some hF
      subst hF
      exact Run_ret1 rfl (ResV_tmp (v := .bool true) (by kernel_rfl)) ⟨rfl, rfl⟩
    · refine Run_block ?_
      refine Run_keep [0, 1, 5] (L' := [(0, .slice aa_ a_.length ca_), (1, .slice ab b.length cb), (5, .int .i64 0)]) (by kernel_rfl) ?_
      refine Run_loop (fun m L' h' => ∃ (i1 : Int) (s1 : Unit), 0 ≤ i1 ∧ M.forN (a_.length : Int) _ _ n m i1 s1 = some x1 ∧ L' = [(0, .slice aa_ a_.length ca_), (1, .slice ab b.length cb), (5, .int .i64 i1)] ∧ h = h') ((a_.length : Int) - 0 : Int).toNat ⟨0, (), Int.le_refl _, gx1, rfl, rfl⟩ ?_
      rintro my1 _ _ ⟨i1, s1, hloy1', gx1, rfl, rfl⟩
      refine Run_seq ?_
      refine Run_seq ?_
      refine Run_reg 4 (by kernel_rfl) (L' := [(0, .slice aa_ a_.length ca_), (1, .slice ab b.length cb), (5, .int .i64 i1), (14, .bool (decide (i1 < (a_.length : Int))))]) ?_ ?_
      · refine QRun_b [.int .i64 i1, .slice aa_ a_.length ca_, .int .i64 (a_.length : Int), .bool (decide (i1 < (a_.length : Int)))] 0 _ (by kernel_rfl) (fun w => by kernel_rfl) ?_
        exact QRun_done [0, 1, 5, 14] (by kernel_rfl) (by kernel_rfl)
      refine Run_cond (b := decide (i1 < (a_.length : Int))) (by kernel_rfl) (fun hb2 => ?_) (fun hb2 => ?_)
      · obtain ⟨my1, y1, rfl, hB1, hgoy1, houty1⟩ := M.for_go gx1 hb2
        have hlty1 := of_decide_eq_true hb2
        refine Run_skip ?_
        refine Run_seq ?_
        refine Run_block ?_
        refine Run_seq ?_
        obtain ⟨x2, hx1, hB1⟩ := M.bind_some hB1
        obtain ⟨hx1l, hx1u, hx1⟩ := M.idx_some hx1
        obtain ⟨x3, hx2, hB1⟩ := M.bind_some hB1
        obtain ⟨hx2l, hx2u, hx2⟩ := M.idx_some hx2
        refine Run_draw 9 mixed (by kernel_rfl) (by kernel_rfl) (L' := [(0, .slice aa_ a_.length ca_), (1, .slice ab b.length cb), (5, .int .i64 i1), (25, .bool (x2 != x3))]) ?_ ?_
        · refine QRun_b [.slice aa_ a_.length ca_, .int .i64 i1] 0 _ (by kernel_rfl) (fun w => by kernel_rfl) ?_
          refine QRun_y (.pointer (some (adr aa_ (i1.toNat * 1)))) (by kernel_rfl) (Y_idx (t := 23) (e := 2) (sz := 1) (a := aa_) (n := a_.length) (cap := ca_) (kk := .i64) (i := i1) (by kernel_rfl) Try.underlying23 (by kernel_rfl) (ra_.cell hx1).1 hx1l hx1u) ?_
          refine QRun_y (.int .i64 x2) (by kernel_rfl) (Y_load1 (t := 2) (p := adr aa_ (i1.toNat * 1)) (v := .int .i64 x2) (by kernel_rfl) (fun w => by kernel_rfl) (cd2_cell ra_ hx1)) ?_
          refine QRun_b [.slice ab b.length cb, .int .i64 i1] 4 _ (by kernel_rfl) (fun w => by kernel_rfl) ?_
          refine QRun_y (.pointer (some (adr ab (i1.toNat * 1)))) (by kernel_rfl) (Y_idx (t := 23) (e := 2) (sz := 1) (a := ab) (n := b.length) (cap := cb) (kk := .i64) (i := i1) (by kernel_rfl) Try.underlying23 (by kernel_rfl) (rb.cell hx2).1 hx2l hx2u) ?_
          refine QRun_y (.int .i64 x3) (by kernel_rfl) (Y_load1 (t := 2) (p := adr ab (i1.toNat * 1)) (v := .int .i64 x3) (by kernel_rfl) (fun w => by kernel_rfl) (cd2_cell rb hx2)) ?_
          refine QRun_b [.bool (x2 != x3)] 8 _ (by kernel_rfl) (fun w => by kernel_rfl) ?_
          exact QRun_done [0, 1, 5, 25] (by kernel_rfl) (by kernel_rfl)
        refine Run_cond (b := x2 != x3) (by kernel_rfl) (fun hb3 => ?_) (fun hb3 => ?_)
        · have hB1 := (M.ite_some hB1).1 hb3
          refine Run_seq ?_
          refine Run_reg 1 (by kernel_rfl) (L' := [(4, .bool false)]) ?_ ?_
          · refine QRun_b [.bool false] 0 _ (by kernel_rfl) (fun w => by kernel_rfl) ?_
            exact QRun_done [4] (by kernel_rfl) (by kernel_rfl)
          have hB1 := M.ret_some hB1
          have gx1 := houty1 _ hB1.symm
          have hF := M.cont_inr' hF gx1
          have hF := M.ret_some hF
          subst hF
          exact Run_ret1 rfl (ResV_tmp (v := .bool false) (by kernel_rfl)) ⟨rfl, rfl⟩
        · have hB1 := (M.ite_some hB1).2 hb3
          refine Run_skip ?_
          refine Run_blk ?_
          refine Run_reg 3 (by kernel_rfl) (L' := [(0, .slice aa_ a_.length ca_), (1, .slice ab b.length cb), (5, .int .i64 (i1 + 1))]) ?_ ?_
          · refine QRun_b [.int .i64 i1] 0 _ (by kernel_rfl) (fun w => by kernel_rfl) ?_
            refine QRun_y (.int .i64 (i1 + 1)) (by kernel_rfl) (Y_eq (v := .int .i64 (w64 (i1 + 1))) (Y_pure (fun w => by kernel_rfl)) (by rw [w64_eq _ (by omega)])) ?_
            refine QRun_b [.int .i64 (i1 + 1)] 2 _ (by kernel_rfl) (fun w => by kernel_rfl) ?_
            exact QRun_done [0, 1, 5] (by kernel_rfl) (by kernel_rfl)
          have hB1 := M.ret_some hB1
          have gx1 := hgoy1 _ hB1.symm
          exact Run_again [0, 1, 5] (by kernel_rfl) my1 (Nat.lt_succ_self _) ⟨i1 + 1, (), by omega, gx1, rfl, rfl⟩
      · have gx1 := M.for_end gx1 hb2
        subst gx1
        refine Run_exit (k' := _) rfl ?_
        exact Run_fall [] (by kernel_rfl) ⟨(), rfl, rfl, rfl⟩

set_option maxRecDepth 100000 in
set_option maxHeartbeats 4000000 in
theorem w_spec_l07Gap (h : Heap) (x_ : List Int) (ax_ : Option Addr) (cx_ : Nat) (rx_ : Rd cd2 h (Lt h) ax_ cx_ x_) (y_ : List Int) (ay_ : Option Addr) (cy_ : Nat) (ry_ : Rd cd2 h (Lt h) ay_ cy_ y_) (n : Nat) (r : Int × Bool) (hF : spec_l07Gap x_ y_ n = some r) :
    Fn Try.prog 133 #[.slice ax_ x_.length cx_, .slice ay_ y_.length cy_] h fun v h' => v = .tuple #[.int .i64 r.1, .bool r.2] ∧ Hold h h' [] := by
  unfold spec_l07Gap at hF
  refine Fn_enter (args := [.slice ax_ x_.length cx_, .slice ay_ y_.length cy_]) Try.func133 rfl (by kernel_rfl) (by kernel_rfl) (fun w0 _ => ?_)
  have H0 := Hold.init h
  refine Run_seq ?_
  refine Run_reg 2 (by kernel_rfl) (L' := [(0, .slice ax_ x_.length cx_), (1, .slice ay_ y_.length cy_)]) ?_ ?_
  · refine QRun_b [.int .i64 0, .bool false] 0 _ (by kernel_rfl) (fun w => by kernel_rfl) ?_
    exact QRun_done [0, 1] (by kernel_rfl) (by kernel_rfl)
  refine Run_seq ?_
  refine Run_reg 1 (by kernel_rfl) (L' := [(0, .slice ax_ x_.length cx_), (1, .slice ay_ y_.length cy_), (6, .int .i64 0)]) ?_ ?_
  · refine QRun_b [.int .i64 0] 0 _ (by kernel_rfl) (fun w => by kernel_rfl) ?_
    exact QRun_done [0, 1, 6] (by kernel_rfl) (by kernel_rfl)
  refine Run_seq ?_
  refine Run_seq ?_
  refine Run_reg 1 (by kernel_rfl) (L' := [(0, .slice ax_ x_.length cx_), (1, .slice ay_ y_.length cy_), (6, .int .i64 0), (7, .int .i64 0)]) ?_ ?_
  · refine QRun_b [.int .i64 0] 0 _ (by kernel_rfl) (fun w => by kernel_rfl) ?_
    exact QRun_done [0, 1, 6, 7] (by kernel_rfl) (by kernel_rfl)
  obtain ⟨x1, gx1, hF⟩ := M.bind_some hF
  obtain ⟨hloy1, hhiy1, gx1⟩ := M.for_start gx1
  refine Run_join (fun L' h' => L' = [(0, .slice ax_ x_.length cx_), (1, .slice ay_ y_.length cy_), (6, .int .i64 x1)] ∧ Hold h h' []) ?_ ?_
  · rintro _ h2 ⟨rfl, H2⟩
    refine Run_seq ?_
    refine Run_ops ?_
    refine Run_b [.int .i64 x1, .slice ax_ x_.length cx_, .int .i64 x1] 0 _ (by kernel_rfl) (fun w => by kernel_rfl) ?_
    obtain ⟨x7, hx5, hF⟩ := M.bind_some hF
    refine Run_E (by kernel_rfl) ?_
    refine E_call (f := 98) (args := #[.slice ax_ x_.length cx_, .int .i64 x1]) (w_spec_l07Shift h2 x_ ax_ cx_ (rx_.at H2.ext) x1 _ _ hx5) (by kernel_rfl) (fun v1 h3 hp1 => ?_)
    obtain ⟨a1, c1, rfl, H3⟩ := hp1
    have H4 : Hold h h3 [own cd2 a1 x7.length c1 x7] := H2.call H3 rfl
    obtain ⟨x8, hx6, hF⟩ := M.bind_some hF
    refine Run_b [.slice ay_ y_.length cy_] 4 _ (by kernel_rfl) (fun w => by kernel_rfl) ?_
    refine Run_y (.bool x8) (by kernel_rfl) (Y_callq (f := 106) (args := #[.slice a1 x7.length c1, .slice ay_ y_.length cy_]) (v := .bool x8) (by kernel_rfl) (w_spec_l01Same h3 x7 a1 c1 (H4.rd 0 rfl) y_ ay_ cy_ (ry_.at H4.ext) _ _ hx6)) ?_
    refine Run_b [.int .i64 x1, .bool x8] 6 _ (by kernel_rfl) (fun w => by kernel_rfl) ?_
    refine Run_nil (by kernel_rfl) ?_
    refine Run_keep [4, 5] (L' := [(4, .int .i64 x1), (5, .bool x8)]) (by kernel_rfl) ?_
    have hF := M.ret_some hF
    subst hF
    have H5 : Hold h h3 [] := H4.pick [] (by kernel_rfl)
    exact Run_ret2 rfl (ResV_tmp (v := .int .i64 x1) (by kernel_rfl)) (ResV_tmp (v := .bool x8) (by kernel_rfl)) ⟨rfl, H5⟩
  · refine Run_block ?_
    refine Run_keep [0, 1, 6, 7] (L' := [(0, .slice ax_ x_.length cx_), (1, .slice ay_ y_.length cy_), (6, .int .i64 0), (7, .int .i64 0)]) (by kernel_rfl) ?_
    refine Run_loop (fun m L' h' => ∃ (i1 : Int) (s1 : Int), 0 ≤ i1 ∧ M.forN (x_.length : Int) _ _ n m i1 s1 = some x1 ∧ L' = [(0, .slice ax_ x_.length cx_), (1, .slice ay_ y_.length cy_), (6, .int .i64 s1), (7, .int .i64 i1)] ∧ Hold h h' []) ((x_.length : Int) - 0 : Int).toNat ⟨0, 0, Int.le_refl _, gx1, rfl, H0⟩ ?_
    rintro my1 _ h1 ⟨i1, s1, hloy1', gx1, rfl, H1⟩
    refine Run_seq ?_
    refine Run_seq ?_
    refine Run_reg 4 (by kernel_rfl) (L' := [(0, .slice ax_ x_.length cx_), (1, .slice ay_ y_.length cy_), (6, .int .i64 s1), (7, .int .i64 i1), (11, .bool (decide (i1 < (x_.length : Int))))]) ?_ ?_
    · refine QRun_b [.int .i64 i1, .slice ax_ x_.length cx_, .int .i64 (x_.length : Int), .bool (decide (i1 < (x_.length : Int)))] 0 _ (by kernel_rfl) (fun w => by kernel_rfl) ?_
      exact QRun_done [0, 1, 6, 7, 11] (by kernel_rfl) (by kernel_rfl)
    refine Run_cond (b := decide (i1 < (x_.length : Int))) (by kernel_rfl) (fun hb1 => ?_) (fun hb1 => ?_)
    · obtain ⟨my1, y1, rfl, hB1, hgoy1, houty1⟩ := M.for_go gx1 hb1
      have hlty1 := of_decide_eq_true hb1
      refine Run_skip ?_
      refine Run_seq ?_
      refine Run_block ?_
      refine Run_seq ?_
      obtain ⟨x2, hx1, hB1⟩ := M.bind_some hB1
      obtain ⟨hx1l, hx1u, hx1⟩ := M.idx_some hx1
      obtain ⟨x3, gx3, hB1⟩ := M.bind_some hB1
      refine Run_reg 12 (by kernel_rfl) (L' := [(0, .slice ax_ x_.length cx_), (1, .slice ay_ y_.length cy_), (6, .int .i64 s1), (7, .int .i64 i1), (25, .bool x3)]) ?_ ?_
      · refine QRun_b [.slice ax_ x_.length cx_, .int .i64 i1] 0 _ (by kernel_rfl) (fun w => by kernel_rfl) ?_
        refine QRun_y (.pointer (some (adr ax_ (i1.toNat * 1)))) (by kernel_rfl) (Y_idx (t := 23) (e := 2) (sz := 1) (a := ax_) (n := x_.length) (cap := cx_) (kk := .i64) (i := i1) (by kernel_rfl) Try.underlying23 (by kernel_rfl) ((rx_.at H1.ext).cell hx1).1 hx1l hx1u) ?_
        refine QRun_y (.int .i64 x2) (by kernel_rfl) (Y_load1 (t := 2) (p := adr ax_ (i1.toNat * 1)) (v := .int .i64 x2) (by kernel_rfl) (fun w => by kernel_rfl) (cd2_cell (rx_.at H1.ext) hx1)) ?_
        refine QRun_b [.bool (x2 != (-1000000000000000))] 4 _ (by kernel_rfl) (fun w => by kernel_rfl) ?_
        refine QRun_seq 12 [(0, .slice ax_ x_.length cx_), (1, .slice ay_ y_.length cy_), (6, .int .i64 s1), (7, .int .i64 i1), (25, .bool x3)] ?_ ?_
        · rcases Bool.eq_false_or_eq_true (x2 != (-1000000000000000)) with hb2 | hb2
          · refine QRun_bool (x2 != (-1000000000000000)) true (by kernel_rfl) (fun w => by kernel_rfl) hb2 ?_
            have gx3 := (M.ite_some gx3).1 hb2
            obtain ⟨x4, hx2, gx3⟩ := M.bind_some gx3
            obtain ⟨hx2l, hx2u, hx2⟩ := M.idx_some hx2
            have gx3 := M.ret_some gx3
            refine QRun_b [.slice ay_ y_.length cy_, .int .i64 i1] 6 _ (by kernel_rfl) (fun w => by kernel_rfl) ?_
            refine QRun_y (.pointer (some (adr ay_ (i1.toNat * 1)))) (by kernel_rfl) (Y_idx (t := 23) (e := 2) (sz := 1) (a := ay_) (n := y_.length) (cap := cy_) (kk := .i64) (i := i1) (by kernel_rfl) Try.underlying23 (by kernel_rfl) ((ry_.at H1.ext).cell hx2).1 hx2l hx2u) ?_
            refine QRun_y (.int .i64 x4) (by kernel_rfl) (Y_load1 (t := 2) (p := adr ay_ (i1.toNat * 1)) (v := .int .i64 x4) (by kernel_rfl) (fun w => by kernel_rfl) (cd2_cell (ry_.at H1.ext) hx2)) ?_
            refine QRun_b [.bool (x4 != (-1000000000000000))] 10 _ (by kernel_rfl) (fun w => by kernel_rfl) ?_
            refine QRun_bool (x4 != (-1000000000000000)) x3 (by kernel_rfl) (fun w => by kernel_rfl) gx3 ?_
            exact QRun_done [0, 1, 6, 7, 25] (by kernel_rfl) (by kernel_rfl)
          · refine QRun_bool (x2 != (-1000000000000000)) false (by kernel_rfl) (fun w => by kernel_rfl) hb2 ?_
            have gx3 := M.ret_some ((M.ite_some gx3).2 hb2)
            refine QRun_n (by kernel_rfl) ?_
            refine QRun_n (by kernel_rfl) ?_
            refine QRun_n (by kernel_rfl) ?_
            refine QRun_n (by kernel_rfl) ?_
            refine QRun_n (by kernel_rfl) ?_
            refine QRun_bool false x3 (by kernel_rfl) (fun w => by kernel_rfl) gx3 ?_
            exact QRun_done [0, 1, 6, 7, 25] (by kernel_rfl) (by kernel_rfl)
        exact QRun_done [0, 1, 6, 7, 25] (by kernel_rfl) (by kernel_rfl)
      refine Run_cond (b := x3) (by kernel_rfl) (fun hb3 => ?_) (fun hb3 => ?_)
      · have hB1 := (M.ite_some hB1).1 hb3
        refine Run_seq ?_
        obtain ⟨x5, hx3, hB1⟩ := M.bind_some hB1
        obtain ⟨hx3l, hx3u, hx3⟩ := M.idx_some hx3
        obtain ⟨x6, hx4, hB1⟩ := M.bind_some hB1
        obtain ⟨hx4l, hx4u, hx4⟩ := M.idx_some hx4
        refine Run_draw 10 mixed (by kernel_rfl) (by kernel_rfl) (L' := [(0, .slice ax_ x_.length cx_), (1, .slice ay_ y_.length cy_), (6, .int .i64 (w64 (x5 - x6)))]) ?_ ?_
        · refine QRun_b [.slice ay_ y_.length cy_, .int .i64 i1] 0 _ (by kernel_rfl) (fun w => by kernel_rfl) ?_
          refine QRun_y (.pointer (some (adr ay_ (i1.toNat * 1)))) (by kernel_rfl) (Y_idx (t := 23) (e := 2) (sz := 1) (a := ay_) (n := y_.length) (cap := cy_) (kk := .i64) (i := i1) (by kernel_rfl) Try.underlying23 (by kernel_rfl) ((ry_.at H1.ext).cell hx3).1 hx3l hx3u) ?_
          refine QRun_y (.int .i64 x5) (by kernel_rfl) (Y_load1 (t := 2) (p := adr ay_ (i1.toNat * 1)) (v := .int .i64 x5) (by kernel_rfl) (fun w => by kernel_rfl) (cd2_cell (ry_.at H1.ext) hx3)) ?_
          refine QRun_b [.slice ax_ x_.length cx_, .int .i64 i1] 4 _ (by kernel_rfl) (fun w => by kernel_rfl) ?_
          refine QRun_y (.pointer (some (adr ax_ (i1.toNat * 1)))) (by kernel_rfl) (Y_idx (t := 23) (e := 2) (sz := 1) (a := ax_) (n := x_.length) (cap := cx_) (kk := .i64) (i := i1) (by kernel_rfl) Try.underlying23 (by kernel_rfl) ((rx_.at H1.ext).cell hx4).1 hx4l hx4u) ?_
          refine QRun_y (.int .i64 x6) (by kernel_rfl) (Y_load1 (t := 2) (p := adr ax_ (i1.toNat * 1)) (v := .int .i64 x6) (by kernel_rfl) (fun w => by kernel_rfl) (cd2_cell (rx_.at H1.ext) hx4)) ?_
          refine QRun_b [.int .i64 (w64 (x5 - x6)), .int .i64 (w64 (x5 - x6))] 8 _ (by kernel_rfl) (fun w => by kernel_rfl) ?_
          exact QRun_done [0, 1, 6] (by kernel_rfl) (by kernel_rfl)
        refine Run_exit (k' := _) rfl ?_
        have hB1 := M.ret_some hB1
        have gx1 := houty1 _ hB1.symm
        subst gx1
        exact Run_fall [0, 1, 6] (by kernel_rfl) ⟨rfl, H1⟩
      · have hB1 := (M.ite_some hB1).2 hb3
        refine Run_skip ?_
        refine Run_blk ?_
        refine Run_reg 3 (by kernel_rfl) (L' := [(0, .slice ax_ x_.length cx_), (1, .slice ay_ y_.length cy_), (6, .int .i64 s1), (7, .int .i64 (i1 + 1))]) ?_ ?_
        · refine QRun_b [.int .i64 i1] 0 _ (by kernel_rfl) (fun w => by kernel_rfl) ?_
          refine QRun_y (.int .i64 (i1 + 1)) (by kernel_rfl) (Y_eq (v := .int .i64 (w64 (i1 + 1))) (Y_pure (fun w => by kernel_rfl)) (by rw [w64_eq _ (by omega)])) ?_
          refine QRun_b [.int .i64 (i1 + 1)] 2 _ (by kernel_rfl) (fun w => by kernel_rfl) ?_
          exact QRun_done [0, 1, 6, 7] (by kernel_rfl) (by kernel_rfl)
        have hB1 := M.ret_some hB1
        have gx1 := hgoy1 _ hB1.symm
        exact Run_again [0, 1, 6, 7] (by kernel_rfl) my1 (Nat.lt_succ_self _) ⟨i1 + 1, s1, by omega, gx1, rfl, H1⟩
    · have gx1 := M.for_end gx1 hb1
      subst gx1
      refine Run_exit (k' := _) rfl ?_
      exact Run_fall [0, 1, 6] (by kernel_rfl) ⟨rfl, H1⟩

set_option maxRecDepth 100000 in
set_option maxHeartbeats 4000000 in
theorem w_spec_l07At_BQ0 (h hE : Heap) (it : Item) (s_ : TL07series) (bs_ : Nat) (as_a : Option Addr) (cs_a : Nat) (rs_a : Rd cd23 h (Lt h) as_a cs_a s_.a) (as_last : Option Addr) (cs_last : Nat) (as_lists : Option Addr) (cs_lists : Nat) (k_ : Int) (HM : Hold h hE [box bs_ 96 [.slice as_a s_.a.length cs_a, .slice as_last s_.last.length cs_last, .slice as_lists s_.lists.length cs_lists], own cd23 as_last s_.last.length cs_last s_.last, rowsQ cd2 23 as_lists s_.lists.length cs_lists s_.lists [], it]) (n : Nat) (r : (List Int) × Bool × TL07series) (hF : spec_l07At_BQ0 s_ k_ n = some r) :
    Fn Try.prog 95 #[.pointer (some ⟨bs_, 0, none⟩), .int .i64 k_] hE fun v h' => ∃ (a0 : Option Addr) (c0 : Nat), ∃ (a1 : Option Addr) (c1 : Nat), ∃ (a2 : Option Addr) (c2 : Nat), v = .tuple #[.slice a0 r.1.length c0, .bool r.2.1] ∧ Hold h h' [box bs_ 96 [.slice as_a s_.a.length cs_a, .slice a1 r.2.2.last.length c1, .slice a2 r.2.2.lists.length c2], own cd23 a1 r.2.2.last.length c1 r.2.2.last, rowsQ cd2 23 a2 r.2.2.lists.length c2 r.2.2.lists [(a0, c0, r.1)], it] := by
  unfold spec_l07At_BQ0 at hF
  refine Fn_enter (args := [.pointer (some ⟨bs_, 0, none⟩), .int .i64 k_]) Try.func95 rfl (by kernel_rfl) (by kernel_rfl) (fun w0 _ => ?_)
  refine Run_seq ?_
  refine Run_reg 2 (by kernel_rfl) (L' := [(0, .pointer (some ⟨bs_, 0, none⟩)), (1, .int .i64 k_)]) ?_ ?_
  · refine QRun_b [.slice none 0 0, .bool false] 0 _ (by kernel_rfl) (fun w => by kernel_rfl) ?_
    exact QRun_done [0, 1] (by kernel_rfl) (by kernel_rfl)
  refine Run_seq ?_
  obtain ⟨x1, gx1, hF⟩ := M.bind_some hF
  refine Run_join (fun L' h' => ∃ (s2 : (List (List Int)) × (List (List Int))) (a3 : Option Addr) (c3 : Nat) (a4 : Option Addr) (c4 : Nat), x1 = .inl s2 ∧ L' = [(0, .pointer (some ⟨bs_, 0, none⟩)), (1, .int .i64 k_)] ∧ Hold h h' [box bs_ 96 [.slice as_a s_.a.length cs_a, .slice a3 s2.1.length c3, .slice a4 s2.2.length c4], own cd23 a3 s2.1.length c3 s2.1, rowsQ cd2 23 a4 s2.2.length c4 s2.2 [], it]) ?_ ?_
  · rintro _ h2 ⟨s2, a3, c3, a4, c4, es2, rfl, H2⟩
    have hF := M.cont_inl' hF es2
    refine Run_seq ?_
    obtain ⟨x5, hx4, hF⟩ := M.bind_some hF
    obtain ⟨hx4l, hx4u, hx4⟩ := M.idx_some hx4
    have H37 : Hold h h2 [rowsQ cd2 23 a4 s2.2.length c4 s2.2 [], box bs_ 96 [.slice as_a s_.a.length cs_a, .slice a3 s2.1.length c3, .slice a4 s2.2.length c4], own cd23 a3 s2.1.length c3 s2.1, it] := H2.pick [2, 0, 1, 3] (by kernel_rfl)
    obtain ⟨a9, c8, hc1, H38⟩ := H37.peekRow hx4
    have H39 : Hold h h2 [box bs_ 96 [.slice as_a s_.a.length cs_a, .slice a3 s2.1.length c3, .slice a4 s2.2.length c4], own cd23 a3 s2.1.length c3 s2.1, rowsQ cd2 23 a4 s2.2.length c4 s2.2 [(a9, c8, x5)], it] := H38.pick [1, 2, 0, 3] (by kernel_rfl)
    refine Run_reg 9 (by kernel_rfl) (L' := [(4, .slice a9 x5.length c8), (5, .bool true)]) ?_ ?_
    · refine QRun_b [.pointer (some ⟨bs_, 0, none⟩), .pointer (some ⟨bs_, 0, none⟩), .pointer (some ⟨bs_, 2, none⟩)] 0 _ (by kernel_rfl) (fun w => by kernel_rfl) ?_
      refine QRun_y (.slice a4 s2.2.length c4) (by kernel_rfl) (Y_load1 (t := 22) (p := ⟨bs_, 2, none⟩) (v := .slice a4 s2.2.length c4) (by kernel_rfl) (fun w => by kernel_rfl) (H2.cell 0 rfl rfl)) ?_
      refine QRun_b [.int .i64 k_] 4 _ (by kernel_rfl) (fun w => by kernel_rfl) ?_
      refine QRun_y (.pointer (some (adr a4 (k_.toNat * 1)))) (by kernel_rfl) (Y_idx (t := 22) (e := 23) (sz := 1) (a := a4) (n := s2.2.length) (cap := c4) (kk := .i64) (i := k_) (by kernel_rfl) Try.underlying22 (by kernel_rfl) ((H2.rdQ 2 rfl).cell hx4).1 hx4l hx4u) ?_
      refine QRun_y (.slice a9 x5.length c8) (by kernel_rfl) (Y_load1 (t := 23) (p := adr a4 (k_.toNat * 1)) (v := .slice a9 x5.length c8) (by kernel_rfl) (fun w => by kernel_rfl) hc1) ?_
      refine QRun_b [.slice a9 x5.length c8, .bool true] 7 _ (by kernel_rfl) (fun w => by kernel_rfl) ?_
      exact QRun_done [4, 5] (by kernel_rfl) (by kernel_rfl)
    have hF := M.ret_some hF
    subst hF
    have H40 : Hold h h2 [rowsQ cd2 23 a4 s2.2.length c4 s2.2 [(a9, c8, x5)], box bs_ 96 [.slice as_a s_.a.length cs_a, .slice a3 s2.1.length c3, .slice a4 s2.2.length c4], own cd23 a3 s2.1.length c3 s2.1, it] := H39.pick [2, 0, 1, 3] (by kernel_rfl)
    have H41 : Hold h h2 [own cd23 a3 s2.1.length c3 s2.1, rowsQ cd2 23 a4 s2.2.length c4 s2.2 [(a9, c8, x5)], box bs_ 96 [.slice as_a s_.a.length cs_a, .slice a3 s2.1.length c3, .slice a4 s2.2.length c4], it] := H40.pick [2, 0, 1, 3] (by kernel_rfl)
    have H42 : Hold h h2 [rowsQ cd2 23 a4 s2.2.length c4 s2.2 [(a9, c8, x5)], own cd23 a3 s2.1.length c3 s2.1, box bs_ 96 [.slice as_a s_.a.length cs_a, .slice a3 s2.1.length c3, .slice a4 s2.2.length c4], it] := H41.pick [1, 0, 2, 3] (by kernel_rfl)
    have H43 : Hold h h2 [box bs_ 96 [.slice as_a s_.a.length cs_a, .slice a3 s2.1.length c3, .slice a4 s2.2.length c4], own cd23 a3 s2.1.length c3 s2.1, rowsQ cd2 23 a4 s2.2.length c4 s2.2 [(a9, c8, x5)], it] := H42.pick [2, 1, 0, 3] (by kernel_rfl)
    exact Run_ret2 rfl (ResV_tmp (v := .slice a9 x5.length c8) (by kernel_rfl)) (ResV_tmp (v := .bool true) (by kernel_rfl)) ⟨a9, c8, a3, c3, a4, c4, rfl, H43⟩
  · refine Run_block ?_
    have H44 : Hold h hE [own cd23 as_last s_.last.length cs_last s_.last, box bs_ 96 [.slice as_a s_.a.length cs_a, .slice as_last s_.last.length cs_last, .slice as_lists s_.lists.length cs_lists], rowsQ cd2 23 as_lists s_.lists.length cs_lists s_.lists [], it] := HM.pick [1, 0, 2, 3] (by kernel_rfl)
    have H45 : Hold h hE [rowsQ cd2 23 as_lists s_.lists.length cs_lists s_.lists [], own cd23 as_last s_.last.length cs_last s_.last, box bs_ 96 [.slice as_a s_.a.length cs_a, .slice as_last s_.last.length cs_last, .slice as_lists s_.lists.length cs_lists], it] := H44.pick [2, 0, 1, 3] (by kernel_rfl)
    have H46 : Hold h hE [box bs_ 96 [.slice as_a s_.a.length cs_a, .slice as_last s_.last.length cs_last, .slice as_lists s_.lists.length cs_lists], own cd23 as_last s_.last.length cs_last s_.last, rowsQ cd2 23 as_lists s_.lists.length cs_lists s_.lists [], it] := H45.pick [2, 1, 0, 3] (by kernel_rfl)
    refine Run_keep [0, 1] (L' := [(0, .pointer (some ⟨bs_, 0, none⟩)), (1, .int .i64 k_)]) (by kernel_rfl) ?_
    refine Run_loop (fun m L' h' => ∃ (s1 : (List (List Int)) × (List (List Int))) (a1 : Option Addr) (c1 : Nat) (a2 : Option Addr) (c2 : Nat), M.loopN _ n m s1 = some x1 ∧ L' = [(0, .pointer (some ⟨bs_, 0, none⟩)), (1, .int .i64 k_)] ∧ Hold h h' [box bs_ 96 [.slice as_a s_.a.length cs_a, .slice a1 s1.1.length c1, .slice a2 s1.2.length c2], own cd23 a1 s1.1.length c1 s1.1, rowsQ cd2 23 a2 s1.2.length c2 s1.2 [], it]) n ⟨(s_.last, s_.lists), as_last, cs_last, as_lists, cs_lists, gx1, rfl, H46⟩ ?_
    rintro my1 _ h1 ⟨s1, a1, c1, a2, c2, gx1, rfl, H1⟩
    obtain ⟨my1, y1, rfl, hB1, hgoy1, houty1⟩ := M.loop_some gx1
    refine Run_seq ?_
    refine Run_seq ?_
    refine Run_reg 7 (by kernel_rfl) (L' := [(0, .pointer (some ⟨bs_, 0, none⟩)), (1, .int .i64 k_), (12, .bool (decide ((s1.2.length : Int) ≤ k_)))]) ?_ ?_
    · refine QRun_b [.pointer (some ⟨bs_, 0, none⟩), .pointer (some ⟨bs_, 0, none⟩), .pointer (some ⟨bs_, 2, none⟩)] 0 _ (by kernel_rfl) (fun w => by kernel_rfl) ?_
      refine QRun_y (.slice a2 s1.2.length c2) (by kernel_rfl) (Y_load1 (t := 22) (p := ⟨bs_, 2, none⟩) (v := .slice a2 s1.2.length c2) (by kernel_rfl) (fun w => by kernel_rfl) (H1.cell 0 rfl rfl)) ?_
      refine QRun_b [.int .i64 (s1.2.length : Int), .int .i64 k_, .bool (decide ((s1.2.length : Int) ≤ k_))] 4 _ (by kernel_rfl) (fun w => by kernel_rfl) ?_
      exact QRun_done [0, 1, 12] (by kernel_rfl) (by kernel_rfl)
    refine Run_cond (b := decide ((s1.2.length : Int) ≤ k_)) (by kernel_rfl) (fun hb1 => ?_) (fun hb1 => ?_)
    · have hB1 := (M.ite_some hB1).1 hb1
      refine Run_skip ?_
      refine Run_block ?_
      refine Run_seq ?_
      refine Run_D (fun x => Hold h x [box bs_ 96 [.slice as_a s_.a.length cs_a, .slice a1 s1.1.length c1, .slice a2 s1.2.length c2], own cd23 a1 s1.1.length c1 s1.1, rowsQ cd2 23 a2 s1.2.length c2 s1.2 [], it]) (fun x => Hold h x [box bs_ 96 [.slice as_a s_.a.length cs_a, .slice a1 s1.1.length c1, .slice a2 s1.2.length c2], own cd23 a1 s1.1.length c1 s1.1, rowsQ cd2 23 a2 s1.2.length c2 s1.2 [], it]) mixed (by kernel_rfl) H1 Hold.stable (fun x Hy => (show Hold h x [box bs_ 96 [.slice as_a s_.a.length cs_a, .slice a1 s1.1.length c1, .slice a2 s1.2.length c2], own cd23 a1 s1.1.length c1 s1.1, rowsQ cd2 23 a2 s1.2.length c2 s1.2 [], it] from Hy).pick [0, 1, 2, 3] (by kernel_rfl)) ?_
      refine DR_b 9 [.pointer (some ⟨bs_, 0, none⟩), .pointer (some ⟨bs_, 0, none⟩), .pointer (some ⟨bs_, 0, none⟩), .pointer (some ⟨bs_, 0, none⟩)] 0 (by kernel_rfl) (by kernel_rfl) (by kernel_rfl) (fun w => by kernel_rfl) ?_
      refine DR_y 8 (i := 4) (.slice as_a s_.a.length cs_a) (by kernel_rfl) (by kernel_rfl) (by kernel_rfl) (fun hx Hx => (YE.of (Y_load1 (t := 22) (p := ⟨bs_, 0, none⟩) (v := .slice as_a s_.a.length cs_a) (by kernel_rfl) (fun w => by kernel_rfl) (Hx.cell 0 rfl rfl)))) ?_
      refine DR_b 5 [.pointer (some ⟨bs_, 0, none⟩), .pointer (some ⟨bs_, 0, none⟩), .pointer (some ⟨bs_, 1, none⟩)] 5 (by kernel_rfl) (by kernel_rfl) (by kernel_rfl) (fun w => by kernel_rfl) ?_
      refine DR_y 4 (i := 8) (.slice a1 s1.1.length c1) (by kernel_rfl) (by kernel_rfl) (by kernel_rfl) (fun hx Hx => (YE.of (Y_load1 (t := 22) (p := ⟨bs_, 1, none⟩) (v := .slice a1 s1.1.length c1) (by kernel_rfl) (fun w => by kernel_rfl) (Hx.cell 0 rfl rfl)))) ?_
      refine DR_e 3 9 (by kernel_rfl) (by kernel_rfl) (by kernel_rfl) (fun h3 H3 => ?_)
      have H4 : Hold h h3 [box bs_ 96 [.slice as_a s_.a.length cs_a, .slice a1 s1.1.length c1, .slice a2 s1.2.length c2], own cd23 a1 s1.1.length c1 s1.1, rowsQ cd2 23 a2 s1.2.length c2 s1.2 [], it] := H3
      obtain ⟨x2, hx1, hB1⟩ := M.bind_some hB1
      refine E_call (f := 143) (args := #[.slice as_a s_.a.length cs_a, .slice a1 s1.1.length c1]) (w_spec_l02Multiply h3 s_.a as_a cs_a (rs_a.at H4.ext) s1.1 a1 c1 (H4.rd 1 rfl) _ _ hx1) (by kernel_rfl) (fun v1 h4 hp1 => ?_)
      obtain ⟨a5, c5, rfl, H5⟩ := hp1
      have H6 : Hold h h4 [own cd23 a5 x2.length c5 x2, box bs_ 96 [.slice as_a s_.a.length cs_a, .slice a1 s1.1.length c1, .slice a2 s1.2.length c2], own cd23 a1 s1.1.length c1 s1.1, rowsQ cd2 23 a2 s1.2.length c2 s1.2 [], it] := H4.call H5 rfl
      refine ⟨fun x => Hold h x [box bs_ 96 [.slice as_a s_.a.length cs_a, .slice a1 s1.1.length c1, .slice a2 s1.2.length c2], own cd23 a1 s1.1.length c1 s1.1, rowsQ cd2 23 a2 s1.2.length c2 s1.2 [], it, own cd23 a5 x2.length c5 x2], fun x => Hold h x [own cd23 a5 x2.length c5 x2, box bs_ 96 [.slice as_a s_.a.length cs_a, .slice a1 s1.1.length c1, .slice a2 s1.2.length c2], own cd23 a1 s1.1.length c1 s1.1, rowsQ cd2 23 a2 s1.2.length c2 s1.2 [], it], H6, Hold.stable, fun x Hy => (show Hold h x [own cd23 a5 x2.length c5 x2, box bs_ 96 [.slice as_a s_.a.length cs_a, .slice a1 s1.1.length c1, .slice a2 s1.2.length c2], own cd23 a1 s1.1.length c1 s1.1, rowsQ cd2 23 a2 s1.2.length c2 s1.2 [], it] from Hy).pick [1, 2, 3, 4, 0] (by kernel_rfl), fun x Hy => (show Hold h x [box bs_ 96 [.slice as_a s_.a.length cs_a, .slice a1 s1.1.length c1, .slice a2 s1.2.length c2], own cd23 a1 s1.1.length c1 s1.1, rowsQ cd2 23 a2 s1.2.length c2 s1.2 [], it, own cd23 a5 x2.length c5 x2] from Hy).pick [0, 1, 2, 3] (by kernel_rfl), ?_⟩
      refine DR_b 1 [.pointer (some ⟨bs_, 0, none⟩), .pointer (some ⟨bs_, 1, none⟩)] 10 (by kernel_rfl) (by kernel_rfl) (by kernel_rfl) (fun w => by kernel_rfl) ?_
      refine DR_tail (i := 12) (by kernel_rfl) (by kernel_rfl) (by kernel_rfl) (fun h5 H7 => ?_)
      have H8 : Hold h h5 [own cd23 a5 x2.length c5 x2, box bs_ 96 [.slice as_a s_.a.length cs_a, .slice a1 s1.1.length c1, .slice a2 s1.2.length c2], own cd23 a1 s1.1.length c1 s1.1, rowsQ cd2 23 a2 s1.2.length c2 s1.2 [], it] := H7
      have H10 : Hold h h5 [box bs_ 96 [.slice as_a s_.a.length cs_a, .slice a1 s1.1.length c1, .slice a2 s1.2.length c2], own cd23 a5 x2.length c5 x2, own cd23 a1 s1.1.length c1 s1.1, rowsQ cd2 23 a2 s1.2.length c2 s1.2 [], it] := H8.pick [1, 0, 2, 3, 4] (by kernel_rfl)
      refine Run_E (by kernel_rfl) ?_
      refine E_bput (t := 22) (off := 1) (us := [.slice as_a s_.a.length cs_a, .slice a5 x2.length c5, .slice a2 s1.2.length c2]) (v := .slice a5 x2.length c5) H10 (by kernel_rfl) (by kernel_rfl) rfl (by kernel_rfl) rfl (fun h6 H9 => ?_)
      refine Run_nil (by kernel_rfl) ?_
      refine Run_keep [0, 1] (L' := [(0, .pointer (some ⟨bs_, 0, none⟩)), (1, .int .i64 k_)]) (by kernel_rfl) ?_
      refine Run_seq ?_
      refine Run_seq ?_
      obtain ⟨x3, hx2, hB1⟩ := M.bind_some hB1
      refine Run_reg 6 (by kernel_rfl) (L' := [(0, .pointer (some ⟨bs_, 0, none⟩)), (1, .int .i64 k_), (30, .bool (!x3))]) ?_ ?_
      · refine QRun_b [.pointer (some ⟨bs_, 0, none⟩), .pointer (some ⟨bs_, 0, none⟩), .pointer (some ⟨bs_, 1, none⟩)] 0 _ (by kernel_rfl) (fun w => by kernel_rfl) ?_
        refine QRun_y (.slice a5 x2.length c5) (by kernel_rfl) (Y_load1 (t := 22) (p := ⟨bs_, 1, none⟩) (v := .slice a5 x2.length c5) (by kernel_rfl) (fun w => by kernel_rfl) (H9.cell 0 rfl rfl)) ?_
        refine QRun_y (.bool x3) (by kernel_rfl) (Y_callq (f := 131) (args := #[.slice a5 x2.length c5]) (v := .bool x3) (by kernel_rfl) (w_spec_IsMatrix h6 x2 a5 c5 (H9.rd 1 rfl) _ _ hx2)) ?_
        refine QRun_b [.bool (!x3)] 5 _ (by kernel_rfl) (fun w => by kernel_rfl) ?_
        exact QRun_done [0, 1, 30] (by kernel_rfl) (by kernel_rfl)
      refine Run_cond (b := !x3) (by kernel_rfl) (fun hb2 => ?_) (fun hb2 => ?_)
      · have hB1 := (M.ite_some hB1).1 hb2
        refine Run_seq ?_
        refine Run_reg 2 (by kernel_rfl) (L' := [(4, .slice none 0 0), (5, .bool false)]) ?_ ?_
        · refine QRun_b [.slice none 0 0, .bool false] 0 _ (by kernel_rfl) (fun w => by kernel_rfl) ?_
          exact QRun_done [4, 5] (by kernel_rfl) (by kernel_rfl)
        have hB1 := M.ret_some hB1
        have gx1 := houty1 _ hB1.symm
        have hF := M.cont_inr' hF gx1
        have hF := M.ret_some hF
        subst hF
        have H11 : Hold h h6 [rowsQ cd2 23 a2 s1.2.length c2 s1.2 [], box bs_ 96 [.slice as_a s_.a.length cs_a, .slice a5 x2.length c5, .slice a2 s1.2.length c2], own cd23 a5 x2.length c5 x2, own cd23 a1 s1.1.length c1 s1.1, it] := H9.pick [3, 0, 1, 2, 4] (by kernel_rfl)
        have H12 := H11.nilPeek
        have H13 : Hold h h6 [own cd23 a5 x2.length c5 x2, rowsQ cd2 23 a2 s1.2.length c2 s1.2 [(none, 0, [])], box bs_ 96 [.slice as_a s_.a.length cs_a, .slice a5 x2.length c5, .slice a2 s1.2.length c2], own cd23 a1 s1.1.length c1 s1.1, it] := H12.pick [2, 0, 1, 3, 4] (by kernel_rfl)
        have H14 : Hold h h6 [rowsQ cd2 23 a2 s1.2.length c2 s1.2 [(none, 0, [])], own cd23 a5 x2.length c5 x2, box bs_ 96 [.slice as_a s_.a.length cs_a, .slice a5 x2.length c5, .slice a2 s1.2.length c2], own cd23 a1 s1.1.length c1 s1.1, it] := H13.pick [1, 0, 2, 3, 4] (by kernel_rfl)
        have H15 : Hold h h6 [box bs_ 96 [.slice as_a s_.a.length cs_a, .slice a5 x2.length c5, .slice a2 s1.2.length c2], own cd23 a5 x2.length c5 x2, rowsQ cd2 23 a2 s1.2.length c2 s1.2 [(none, 0, [])], it] := H14.pick [2, 1, 0, 4] (by kernel_rfl)
        exact Run_ret2 rfl (ResV_tmp (v := .slice none 0 0) (by kernel_rfl)) (ResV_tmp (v := .bool false) (by kernel_rfl)) ⟨none, 0, a5, c5, a2, c2, rfl, H15⟩
      · have hB1 := (M.ite_some hB1).2 hb2
        refine Run_skip ?_
        refine Run_D (fun x => Hold h x [box bs_ 96 [.slice as_a s_.a.length cs_a, .slice a5 x2.length c5, .slice a2 s1.2.length c2], own cd23 a5 x2.length c5 x2, own cd23 a1 s1.1.length c1 s1.1, it]) (fun x => Hold h x [box bs_ 96 [.slice as_a s_.a.length cs_a, .slice a5 x2.length c5, .slice a2 s1.2.length c2], own cd23 a5 x2.length c5 x2, own cd23 a1 s1.1.length c1 s1.1, rowsQ cd2 23 a2 s1.2.length c2 s1.2 [], it]) mixed (by kernel_rfl) H9 Hold.stable (fun x Hy => (show Hold h x [box bs_ 96 [.slice as_a s_.a.length cs_a, .slice a5 x2.length c5, .slice a2 s1.2.length c2], own cd23 a5 x2.length c5 x2, own cd23 a1 s1.1.length c1 s1.1, rowsQ cd2 23 a2 s1.2.length c2 s1.2 [], it] from Hy).pick [0, 1, 2, 4] (by kernel_rfl)) ?_
        refine DR_b 11 [.pointer (some ⟨bs_, 0, none⟩), .pointer (some ⟨bs_, 0, none⟩), .pointer (some ⟨bs_, 0, none⟩), .pointer (some ⟨bs_, 2, none⟩)] 0 (by kernel_rfl) (by kernel_rfl) (by kernel_rfl) (fun w => by kernel_rfl) ?_
        refine DR_y 10 (i := 4) (.slice a2 s1.2.length c2) (by kernel_rfl) (by kernel_rfl) (by kernel_rfl) (fun hx Hx => (YE.of (Y_load1 (t := 22) (p := ⟨bs_, 2, none⟩) (v := .slice a2 s1.2.length c2) (by kernel_rfl) (fun w => by kernel_rfl) (Hx.cell 0 rfl rfl)))) ?_
        refine DR_b 7 [.pointer (some ⟨bs_, 0, none⟩), .pointer (some ⟨bs_, 0, none⟩), .pointer (some ⟨bs_, 1, none⟩)] 5 (by kernel_rfl) (by kernel_rfl) (by kernel_rfl) (fun w => by kernel_rfl) ?_
        refine DR_y 6 (i := 8) (.slice a5 x2.length c5) (by kernel_rfl) (by kernel_rfl) (by kernel_rfl) (fun hx Hx => (YE.of (Y_load1 (t := 22) (p := ⟨bs_, 1, none⟩) (v := .slice a5 x2.length c5) (by kernel_rfl) (fun w => by kernel_rfl) (Hx.cell 0 rfl rfl)))) ?_
        refine DR_e 5 9 (by kernel_rfl) (by kernel_rfl) (by kernel_rfl) (fun h7 H16 => ?_)
        have H17 : Hold h h7 [box bs_ 96 [.slice as_a s_.a.length cs_a, .slice a5 x2.length c5, .slice a2 s1.2.length c2], own cd23 a5 x2.length c5 x2, own cd23 a1 s1.1.length c1 s1.1, rowsQ cd2 23 a2 s1.2.length c2 s1.2 [], it] := H16
        obtain ⟨x4, hx3, hB1⟩ := M.bind_some hB1
        refine E_call (f := 132) (args := #[.slice a5 x2.length c5]) (w_spec_l07Flat h7 x2 a5 c5 (H17.rd 1 rfl) _ _ hx3) (by kernel_rfl) (fun v2 h8 hp2 => ?_)
        obtain ⟨a6, c6, rfl, H18⟩ := hp2
        have H19 : Hold h h8 [own cd2 a6 x4.length c6 x4, box bs_ 96 [.slice as_a s_.a.length cs_a, .slice a5 x2.length c5, .slice a2 s1.2.length c2], own cd23 a5 x2.length c5 x2, own cd23 a1 s1.1.length c1 s1.1, rowsQ cd2 23 a2 s1.2.length c2 s1.2 [], it] := H17.call H18 rfl
        refine ⟨fun x => Hold h x [box bs_ 96 [.slice as_a s_.a.length cs_a, .slice a5 x2.length c5, .slice a2 s1.2.length c2], own cd23 a5 x2.length c5 x2, own cd23 a1 s1.1.length c1 s1.1, it], fun x => Hold h x [own cd2 a6 x4.length c6 x4, box bs_ 96 [.slice as_a s_.a.length cs_a, .slice a5 x2.length c5, .slice a2 s1.2.length c2], own cd23 a5 x2.length c5 x2, own cd23 a1 s1.1.length c1 s1.1, rowsQ cd2 23 a2 s1.2.length c2 s1.2 [], it], H19, Hold.stable, fun x Hy => (show Hold h x [own cd2 a6 x4.length c6 x4, box bs_ 96 [.slice as_a s_.a.length cs_a, .slice a5 x2.length c5, .slice a2 s1.2.length c2], own cd23 a5 x2.length c5 x2, own cd23 a1 s1.1.length c1 s1.1, rowsQ cd2 23 a2 s1.2.length c2 s1.2 [], it] from Hy).pick [1, 2, 3, 5] (by kernel_rfl), fun x Hy => (show Hold h x [box bs_ 96 [.slice as_a s_.a.length cs_a, .slice a5 x2.length c5, .slice a2 s1.2.length c2], own cd23 a5 x2.length c5 x2, own cd23 a1 s1.1.length c1 s1.1, it] from Hy).pick [0, 1, 2, 3] (by kernel_rfl), ?_⟩
        refine DR_e 4 10 (by kernel_rfl) (by kernel_rfl) (by kernel_rfl) (fun h9 H20 => ?_)
        have H21 : Hold h h9 [own cd2 a6 x4.length c6 x4, box bs_ 96 [.slice as_a s_.a.length cs_a, .slice a5 x2.length c5, .slice a2 s1.2.length c2], own cd23 a5 x2.length c5 x2, own cd23 a1 s1.1.length c1 s1.1, rowsQ cd2 23 a2 s1.2.length c2 s1.2 [], it] := H20
        refine E_lit1 (ey := 23) (n := x4.length) H21 (fun w => by kernel_rfl) rfl (fun a7 h10 H22 => ?_)
        refine ⟨fun x => Hold h x [box bs_ 96 [.slice as_a s_.a.length cs_a, .slice a5 x2.length c5, .slice a2 s1.2.length c2], own cd23 a5 x2.length c5 x2, own cd23 a1 s1.1.length c1 s1.1, it], fun x => Hold h x [own cd23 a7 1 1 [x4], box bs_ 96 [.slice as_a s_.a.length cs_a, .slice a5 x2.length c5, .slice a2 s1.2.length c2], own cd23 a5 x2.length c5 x2, own cd23 a1 s1.1.length c1 s1.1, rowsQ cd2 23 a2 s1.2.length c2 s1.2 [], it], H22, Hold.stable, fun x Hy => (show Hold h x [own cd23 a7 1 1 [x4], box bs_ 96 [.slice as_a s_.a.length cs_a, .slice a5 x2.length c5, .slice a2 s1.2.length c2], own cd23 a5 x2.length c5 x2, own cd23 a1 s1.1.length c1 s1.1, rowsQ cd2 23 a2 s1.2.length c2 s1.2 [], it] from Hy).pick [1, 2, 3, 5] (by kernel_rfl), fun x Hy => (show Hold h x [box bs_ 96 [.slice as_a s_.a.length cs_a, .slice a5 x2.length c5, .slice a2 s1.2.length c2], own cd23 a5 x2.length c5 x2, own cd23 a1 s1.1.length c1 s1.1, it] from Hy).pick [0, 1, 2, 3] (by kernel_rfl), ?_⟩
        refine DR_e 3 11 (by kernel_rfl) (by kernel_rfl) (by kernel_rfl) (fun h11 H23 => ?_)
        have H24 : Hold h h11 [own cd23 a7 1 1 [x4], box bs_ 96 [.slice as_a s_.a.length cs_a, .slice a5 x2.length c5, .slice a2 s1.2.length c2], own cd23 a5 x2.length c5 x2, own cd23 a1 s1.1.length c1 s1.1, rowsQ cd2 23 a2 s1.2.length c2 s1.2 [], it] := H23
        obtain ⟨l1, hl1, hB1⟩ := M.bind_some hB1
        have hl1 := M.app_some hl1
        have H25 : Hold h h11 [rowsQ cd2 23 a2 s1.2.length c2 s1.2 [], own cd23 a7 1 1 [x4], box bs_ 96 [.slice as_a s_.a.length cs_a, .slice a5 x2.length c5, .slice a2 s1.2.length c2], own cd23 a5 x2.length c5 x2, own cd23 a1 s1.1.length c1 s1.1, it] := H24.pick [4, 0, 1, 2, 3, 5] (by kernel_rfl)
        refine E_appQ (C := cd2) (t := 22) (ty := 22) (tr := 23) (n := s1.2.length) (m := 1) H25 cd23_ti rfl Try.underlying22 (by decide) (by kernel_rfl) hl1 (fun a8 c7 h12 H26 => ?_)
        refine ⟨fun x => Hold h x [box bs_ 96 [.slice as_a s_.a.length cs_a, .slice a5 x2.length c5, .slice a2 s1.2.length c2], own cd23 a5 x2.length c5 x2, own cd23 a1 s1.1.length c1 s1.1, it, rowsQ cd2 23 a8 l1.length c7 l1 []], fun x => Hold h x [rowsQ cd2 23 a8 l1.length c7 l1 [], box bs_ 96 [.slice as_a s_.a.length cs_a, .slice a5 x2.length c5, .slice a2 s1.2.length c2], own cd23 a5 x2.length c5 x2, own cd23 a1 s1.1.length c1 s1.1, it], H26, Hold.stable, fun x Hy => (show Hold h x [rowsQ cd2 23 a8 l1.length c7 l1 [], box bs_ 96 [.slice as_a s_.a.length cs_a, .slice a5 x2.length c5, .slice a2 s1.2.length c2], own cd23 a5 x2.length c5 x2, own cd23 a1 s1.1.length c1 s1.1, it] from Hy).pick [1, 2, 3, 4, 0] (by kernel_rfl), fun x Hy => (show Hold h x [box bs_ 96 [.slice as_a s_.a.length cs_a, .slice a5 x2.length c5, .slice a2 s1.2.length c2], own cd23 a5 x2.length c5 x2, own cd23 a1 s1.1.length c1 s1.1, it, rowsQ cd2 23 a8 l1.length c7 l1 []] from Hy).pick [0, 1, 2, 3] (by kernel_rfl), ?_⟩
        refine DR_b 1 [.pointer (some ⟨bs_, 0, none⟩), .pointer (some ⟨bs_, 2, none⟩)] 12 (by kernel_rfl) (by kernel_rfl) (by kernel_rfl) (fun w => by kernel_rfl) ?_
        refine DR_tail (i := 14) (by kernel_rfl) (by kernel_rfl) (by kernel_rfl) (fun h13 H27 => ?_)
        have H28 : Hold h h13 [rowsQ cd2 23 a8 l1.length c7 l1 [], box bs_ 96 [.slice as_a s_.a.length cs_a, .slice a5 x2.length c5, .slice a2 s1.2.length c2], own cd23 a5 x2.length c5 x2, own cd23 a1 s1.1.length c1 s1.1, it] := H27
        have H30 : Hold h h13 [box bs_ 96 [.slice as_a s_.a.length cs_a, .slice a5 x2.length c5, .slice a2 s1.2.length c2], rowsQ cd2 23 a8 l1.length c7 l1 [], own cd23 a5 x2.length c5 x2, own cd23 a1 s1.1.length c1 s1.1, it] := H28.pick [1, 0, 2, 3, 4] (by kernel_rfl)
        refine Run_E (by kernel_rfl) ?_
        refine E_bput (t := 22) (off := 2) (us := [.slice as_a s_.a.length cs_a, .slice a5 x2.length c5, .slice a8 l1.length c7]) (v := .slice a8 l1.length c7) H30 (by kernel_rfl) (by kernel_rfl) rfl (by kernel_rfl) rfl (fun h14 H29 => ?_)
        refine Run_nil (by kernel_rfl) ?_
        refine Run_keep [0, 1] (L' := [(0, .pointer (some ⟨bs_, 0, none⟩)), (1, .int .i64 k_)]) (by kernel_rfl) ?_
        refine Run_blk ?_
        have H31 : Hold h h14 [own cd23 a5 x2.length c5 x2, box bs_ 96 [.slice as_a s_.a.length cs_a, .slice a5 x2.length c5, .slice a8 l1.length c7], rowsQ cd2 23 a8 l1.length c7 l1 [], own cd23 a1 s1.1.length c1 s1.1, it] := H29.pick [2, 0, 1, 3, 4] (by kernel_rfl)
        have H32 : Hold h h14 [rowsQ cd2 23 a8 l1.length c7 l1 [], own cd23 a5 x2.length c5 x2, box bs_ 96 [.slice as_a s_.a.length cs_a, .slice a5 x2.length c5, .slice a8 l1.length c7], own cd23 a1 s1.1.length c1 s1.1, it] := H31.pick [2, 0, 1, 3, 4] (by kernel_rfl)
        have H33 : Hold h h14 [box bs_ 96 [.slice as_a s_.a.length cs_a, .slice a5 x2.length c5, .slice a8 l1.length c7], own cd23 a5 x2.length c5 x2, rowsQ cd2 23 a8 l1.length c7 l1 [], it] := H32.pick [2, 1, 0, 4] (by kernel_rfl)
        have hB1 := M.ret_some hB1
        have gx1 := hgoy1 _ hB1.symm
        exact Run_again [0, 1] (by kernel_rfl) my1 (Nat.lt_succ_self _) ⟨(x2, l1), a5, c5, a8, c7, gx1, rfl, H33⟩
    · have hB1 := (M.ite_some hB1).2 hb1
      refine Run_exit (k' := _) rfl ?_
      have H34 : Hold h h1 [own cd23 a1 s1.1.length c1 s1.1, box bs_ 96 [.slice as_a s_.a.length cs_a, .slice a1 s1.1.length c1, .slice a2 s1.2.length c2], rowsQ cd2 23 a2 s1.2.length c2 s1.2 [], it] := H1.pick [1, 0, 2, 3] (by kernel_rfl)
      have H35 : Hold h h1 [rowsQ cd2 23 a2 s1.2.length c2 s1.2 [], own cd23 a1 s1.1.length c1 s1.1, box bs_ 96 [.slice as_a s_.a.length cs_a, .slice a1 s1.1.length c1, .slice a2 s1.2.length c2], it] := H34.pick [2, 0, 1, 3] (by kernel_rfl)
      have H36 : Hold h h1 [box bs_ 96 [.slice as_a s_.a.length cs_a, .slice a1 s1.1.length c1, .slice a2 s1.2.length c2], own cd23 a1 s1.1.length c1 s1.1, rowsQ cd2 23 a2 s1.2.length c2 s1.2 [], it] := H35.pick [2, 1, 0, 3] (by kernel_rfl)
      have hB1 := M.ret_some hB1
      have gx1 := houty1 _ hB1.symm
      subst gx1
      exact Run_fall [0, 1] (by kernel_rfl) ⟨(s1.1, s1.2), a1, c1, a2, c2, rfl, rfl, H36⟩

set_option maxRecDepth 100000 in
set_option maxHeartbeats 4000000 in
theorem w_spec_l07At_BQ1 (h hE : Heap) (it : Item) (s_ : TL07series) (bs_ : Nat) (as_a : Option Addr) (cs_a : Nat) (rs_a : Rd cd23 h (Lt h) as_a cs_a s_.a) (as_last : Option Addr) (cs_last : Nat) (as_lists : Option Addr) (cs_lists : Nat) (qas_lists0 : Option Addr) (qcs_lists0 : Nat) (qls_lists0 : List Int) (k_ : Int) (HM : Hold h hE [box bs_ 96 [.slice as_a s_.a.length cs_a, .slice as_last s_.last.length cs_last, .slice as_lists s_.lists.length cs_lists], own cd23 as_last s_.last.length cs_last s_.last, rowsQ cd2 23 as_lists s_.lists.length cs_lists s_.lists [(qas_lists0, qcs_lists0, qls_lists0)], it]) (n : Nat) (r : (List Int) × Bool × TL07series) (hF : spec_l07At_BQ1 s_ k_ n = some r) :
    Fn Try.prog 95 #[.pointer (some ⟨bs_, 0, none⟩), .int .i64 k_] hE fun v h' => ∃ (a0 : Option Addr) (c0 : Nat), ∃ (a1 : Option Addr) (c1 : Nat), ∃ (a2 : Option Addr) (c2 : Nat), v = .tuple #[.slice a0 r.1.length c0, .bool r.2.1] ∧ Hold h h' [box bs_ 96 [.slice as_a s_.a.length cs_a, .slice a1 r.2.2.last.length c1, .slice a2 r.2.2.lists.length c2], own cd23 a1 r.2.2.last.length c1 r.2.2.last, rowsQ cd2 23 a2 r.2.2.lists.length c2 r.2.2.lists [(a0, c0, r.1), (qas_lists0, qcs_lists0, qls_lists0)], it] := by
  unfold spec_l07At_BQ1 at hF
  refine Fn_enter (args := [.pointer (some ⟨bs_, 0, none⟩), .int .i64 k_]) Try.func95 rfl (by kernel_rfl) (by kernel_rfl) (fun w0 _ => ?_)
  refine Run_seq ?_
  refine Run_reg 2 (by kernel_rfl) (L' := [(0, .pointer (some ⟨bs_, 0, none⟩)), (1, .int .i64 k_)]) ?_ ?_
  · refine QRun_b [.slice none 0 0, .bool false] 0 _ (by kernel_rfl) (fun w => by kernel_rfl) ?_
    exact QRun_done [0, 1] (by kernel_rfl) (by kernel_rfl)
  refine Run_seq ?_
  obtain ⟨x1, gx1, hF⟩ := M.bind_some hF
  refine Run_join (fun L' h' => ∃ (s2 : (List (List Int)) × (List (List Int))) (a3 : Option Addr) (c3 : Nat) (a4 : Option Addr) (c4 : Nat), x1 = .inl s2 ∧ L' = [(0, .pointer (some ⟨bs_, 0, none⟩)), (1, .int .i64 k_)] ∧ Hold h h' [box bs_ 96 [.slice as_a s_.a.length cs_a, .slice a3 s2.1.length c3, .slice a4 s2.2.length c4], own cd23 a3 s2.1.length c3 s2.1, rowsQ cd2 23 a4 s2.2.length c4 s2.2 [(qas_lists0, qcs_lists0, qls_lists0)], it]) ?_ ?_
  · rintro _ h2 ⟨s2, a3, c3, a4, c4, es2, rfl, H2⟩
    have hF := M.cont_inl' hF es2
    refine Run_seq ?_
    obtain ⟨x5, hx4, hF⟩ := M.bind_some hF
    obtain ⟨hx4l, hx4u, hx4⟩ := M.idx_some hx4
    have H37 : Hold h h2 [rowsQ cd2 23 a4 s2.2.length c4 s2.2 [(qas_lists0, qcs_lists0, qls_lists0)], box bs_ 96 [.slice as_a s_.a.length cs_a, .slice a3 s2.1.length c3, .slice a4 s2.2.length c4], own cd23 a3 s2.1.length c3 s2.1, it] := H2.pick [2, 0, 1, 3] (by kernel_rfl)
    obtain ⟨a9, c8, hc1, H38⟩ := H37.peekRow hx4
    have H39 : Hold h h2 [box bs_ 96 [.slice as_a s_.a.length cs_a, .slice a3 s2.1.length c3, .slice a4 s2.2.length c4], own cd23 a3 s2.1.length c3 s2.1, rowsQ cd2 23 a4 s2.2.length c4 s2.2 [(a9, c8, x5), (qas_lists0, qcs_lists0, qls_lists0)], it] := H38.pick [1, 2, 0, 3] (by kernel_rfl)
    refine Run_reg 9 (by kernel_rfl) (L' := [(4, .slice a9 x5.length c8), (5, .bool true)]) ?_ ?_
    · refine QRun_b [.pointer (some ⟨bs_, 0, none⟩), .pointer (some ⟨bs_, 0, none⟩), .pointer (some ⟨bs_, 2, none⟩)] 0 _ (by kernel_rfl) (fun w => by kernel_rfl) ?_
      refine QRun_y (.slice a4 s2.2.length c4) (by kernel_rfl) (Y_load1 (t := 22) (p := ⟨bs_, 2, none⟩) (v := .slice a4 s2.2.length c4) (by kernel_rfl) (fun w => by kernel_rfl) (H2.cell 0 rfl rfl)) ?_
      refine QRun_b [.int .i64 k_] 4 _ (by kernel_rfl) (fun w => by kernel_rfl) ?_
      refine QRun_y (.pointer (some (adr a4 (k_.toNat * 1)))) (by kernel_rfl) (Y_idx (t := 22) (e := 23) (sz := 1) (a := a4) (n := s2.2.length) (cap := c4) (kk := .i64) (i := k_) (by kernel_rfl) Try.underlying22 (by kernel_rfl) ((H2.rdQ 2 rfl).cell hx4).1 hx4l hx4u) ?_
      refine QRun_y (.slice a9 x5.length c8) (by kernel_rfl) (Y_load1 (t := 23) (p := adr a4 (k_.toNat * 1)) (v := .slice a9 x5.length c8) (by kernel_rfl) (fun w => by kernel_rfl) hc1) ?_
      refine QRun_b [.slice a9 x5.length c8, .bool true] 7 _ (by kernel_rfl) (fun w => by kernel_rfl) ?_
      exact QRun_done [4, 5] (by kernel_rfl) (by kernel_rfl)
    have hF := M.ret_some hF
    subst hF
    have H40 : Hold h h2 [rowsQ cd2 23 a4 s2.2.length c4 s2.2 [(a9, c8, x5), (qas_lists0, qcs_lists0, qls_lists0)], box bs_ 96 [.slice as_a s_.a.length cs_a, .slice a3 s2.1.length c3, .slice a4 s2.2.length c4], own cd23 a3 s2.1.length c3 s2.1, it] := H39.pick [2, 0, 1, 3] (by kernel_rfl)
    have H41 : Hold h h2 [own cd23 a3 s2.1.length c3 s2.1, rowsQ cd2 23 a4 s2.2.length c4 s2.2 [(a9, c8, x5), (qas_lists0, qcs_lists0, qls_lists0)], box bs_ 96 [.slice as_a s_.a.length cs_a, .slice a3 s2.1.length c3, .slice a4 s2.2.length c4], it] := H40.pick [2, 0, 1, 3] (by kernel_rfl)
    have H42 : Hold h h2 [rowsQ cd2 23 a4 s2.2.length c4 s2.2 [(a9, c8, x5), (qas_lists0, qcs_lists0, qls_lists0)], own cd23 a3 s2.1.length c3 s2.1, box bs_ 96 [.slice as_a s_.a.length cs_a, .slice a3 s2.1.length c3, .slice a4 s2.2.length c4], it] := H41.pick [1, 0, 2, 3] (by kernel_rfl)
    have H43 : Hold h h2 [box bs_ 96 [.slice as_a s_.a.length cs_a, .slice a3 s2.1.length c3, .slice a4 s2.2.length c4], own cd23 a3 s2.1.length c3 s2.1, rowsQ cd2 23 a4 s2.2.length c4 s2.2 [(a9, c8, x5), (qas_lists0, qcs_lists0, qls_lists0)], it] := H42.pick [2, 1, 0, 3] (by kernel_rfl)
    exact Run_ret2 rfl (ResV_tmp (v := .slice a9 x5.length c8) (by kernel_rfl)) (ResV_tmp (v := .bool true) (by kernel_rfl)) ⟨a9, c8, a3, c3, a4, c4, rfl, H43⟩
  · refine Run_block ?_
    have H44 : Hold h hE [own cd23 as_last s_.last.length cs_last s_.last, box bs_ 96 [.slice as_a s_.a.length cs_a, .slice as_last s_.last.length cs_last, .slice as_lists s_.lists.length cs_lists], rowsQ cd2 23 as_lists s_.lists.length cs_lists s_.lists [(qas_lists0, qcs_lists0, qls_lists0)], it] := HM.pick [1, 0, 2, 3] (by kernel_rfl)
    have H45 : Hold h hE [rowsQ cd2 23 as_lists s_.lists.length cs_lists s_.lists [(qas_lists0, qcs_lists0, qls_lists0)], own cd23 as_last s_.last.length cs_last s_.last, box bs_ 96 [.slice as_a s_.a.length cs_a, .slice as_last s_.last.length cs_last, .slice as_lists s_.lists.length cs_lists], it] := H44.pick [2, 0, 1, 3] (by kernel_rfl)
    have H46 : Hold h hE [box bs_ 96 [.slice as_a s_.a.length cs_a, .slice as_last s_.last.length cs_last, .slice as_lists s_.lists.length cs_lists], own cd23 as_last s_.last.length cs_last s_.last, rowsQ cd2 23 as_lists s_.lists.length cs_lists s_.lists [(qas_lists0, qcs_lists0, qls_lists0)], it] := H45.pick [2, 1, 0, 3] (by kernel_rfl)
    refine Run_keep [0, 1] (L' := [(0, .pointer (some ⟨bs_, 0, none⟩)), (1, .int .i64 k_)]) (by kernel_rfl) ?_
    refine Run_loop (fun m L' h' => ∃ (s1 : (List (List Int)) × (List (List Int))) (a1 : Option Addr) (c1 : Nat) (a2 : Option Addr) (c2 : Nat), M.loopN _ n m s1 = some x1 ∧ L' = [(0, .pointer (some ⟨bs_, 0, none⟩)), (1, .int .i64 k_)] ∧ Hold h h' [box bs_ 96 [.slice as_a s_.a.length cs_a, .slice a1 s1.1.length c1, .slice a2 s1.2.length c2], own cd23 a1 s1.1.length c1 s1.1, rowsQ cd2 23 a2 s1.2.length c2 s1.2 [(qas_lists0, qcs_lists0, qls_lists0)], it]) n ⟨(s_.last, s_.lists), as_last, cs_last, as_lists, cs_lists, gx1, rfl, H46⟩ ?_
    rintro my1 _ h1 ⟨s1, a1, c1, a2, c2, gx1, rfl, H1⟩
    obtain ⟨my1, y1, rfl, hB1, hgoy1, houty1⟩ := M.loop_some gx1
    refine Run_seq ?_
    refine Run_seq ?_
    refine Run_reg 7 (by kernel_rfl) (L' := [(0, .pointer (some ⟨bs_, 0, none⟩)), (1, .int .i64 k_), (12, .bool (decide ((s1.2.length : Int) ≤ k_)))]) ?_ ?_
    · refine QRun_b [.pointer (some ⟨bs_, 0, none⟩), .pointer (some ⟨bs_, 0, none⟩), .pointer (some ⟨bs_, 2, none⟩)] 0 _ (by kernel_rfl) (fun w => by kernel_rfl) ?_
      refine QRun_y (.slice a2 s1.2.length c2) (by kernel_rfl) (Y_load1 (t := 22) (p := ⟨bs_, 2, none⟩) (v := .slice a2 s1.2.length c2) (by kernel_rfl) (fun w => by kernel_rfl) (H1.cell 0 rfl rfl)) ?_
      refine QRun_b [.int .i64 (s1.2.length : Int), .int .i64 k_, .bool (decide ((s1.2.length : Int) ≤ k_))] 4 _ (by kernel_rfl) (fun w => by kernel_rfl) ?_
      exact QRun_done [0, 1, 12] (by kernel_rfl) (by kernel_rfl)
    refine Run_cond (b := decide ((s1.2.length : Int) ≤ k_)) (by kernel_rfl) (fun hb1 => ?_) (fun hb1 => ?_)
    · have hB1 := (M.ite_some hB1).1 hb1
      refine Run_skip ?_
      refine Run_block ?_
      refine Run_seq ?_
      refine Run_D (fun x => Hold h x [box bs_ 96 [.slice as_a s_.a.length cs_a, .slice a1 s1.1.length c1, .slice a2 s1.2.length c2], own cd23 a1 s1.1.length c1 s1.1, rowsQ cd2 23 a2 s1.2.length c2 s1.2 [(qas_lists0, qcs_lists0, qls_lists0)], it]) (fun x => Hold h x [box bs_ 96 [.slice as_a s_.a.length cs_a, .slice a1 s1.1.length c1, .slice a2 s1.2.length c2], own cd23 a1 s1.1.length c1 s1.1, rowsQ cd2 23 a2 s1.2.length c2 s1.2 [(qas_lists0, qcs_lists0, qls_lists0)], it]) mixed (by kernel_rfl) H1 Hold.stable (fun x Hy => (show Hold h x [box bs_ 96 [.slice as_a s_.a.length cs_a, .slice a1 s1.1.length c1, .slice a2 s1.2.length c2], own cd23 a1 s1.1.length c1 s1.1, rowsQ cd2 23 a2 s1.2.length c2 s1.2 [(qas_lists0, qcs_lists0, qls_lists0)], it] from Hy).pick [0, 1, 2, 3] (by kernel_rfl)) ?_
      refine DR_b 9 [.pointer (some ⟨bs_, 0, none⟩), .pointer (some ⟨bs_, 0, none⟩), .pointer (some ⟨bs_, 0, none⟩), .pointer (some ⟨bs_, 0, none⟩)] 0 (by kernel_rfl) (by kernel_rfl) (by kernel_rfl) (fun w => by kernel_rfl) ?_
      refine DR_y 8 (i := 4) (.slice as_a s_.a.length cs_a) (by kernel_rfl) (by kernel_rfl) (by kernel_rfl) (fun hx Hx => (YE.of (Y_load1 (t := 22) (p := ⟨bs_, 0, none⟩) (v := .slice as_a s_.a.length cs_a) (by kernel_rfl) (fun w => by kernel_rfl) (Hx.cell 0 rfl rfl)))) ?_
      refine DR_b 5 [.pointer (some ⟨bs_, 0, none⟩), .pointer (some ⟨bs_, 0, none⟩), .pointer (some ⟨bs_, 1, none⟩)] 5 (by kernel_rfl) (by kernel_rfl) (by kernel_rfl) (fun w => by kernel_rfl) ?_
      refine DR_y 4 (i := 8) (.slice a1 s1.1.length c1) (by kernel_rfl) (by kernel_rfl) (by kernel_rfl) (fun hx Hx => (YE.of (Y_load1 (t := 22) (p := ⟨bs_, 1, none⟩) (v := .slice a1 s1.1.length c1) (by kernel_rfl) (fun w => by kernel_rfl) (Hx.cell 0 rfl rfl)))) ?_
      refine DR_e 3 9 (by kernel_rfl) (by kernel_rfl) (by kernel_rfl) (fun h3 H3 => ?_)
      have H4 : Hold h h3 [box bs_ 96 [.slice as_a s_.a.length cs_a, .slice a1 s1.1.length c1, .slice a2 s1.2.length c2], own cd23 a1 s1.1.length c1 s1.1, rowsQ cd2 23 a2 s1.2.length c2 s1.2 [(qas_lists0, qcs_lists0, qls_lists0)], it] := H3
      obtain ⟨x2, hx1, hB1⟩ := M.bind_some hB1
      refine E_call (f := 143) (args := #[.slice as_a s_.a.length cs_a, .slice a1 s1.1.length c1]) (w_spec_l02Multiply h3 s_.a as_a cs_a (rs_a.at H4.ext) s1.1 a1 c1 (H4.rd 1 rfl) _ _ hx1) (by kernel_rfl) (fun v1 h4 hp1 => ?_)
      obtain ⟨a5, c5, rfl, H5⟩ := hp1
      have H6 : Hold h h4 [own cd23 a5 x2.length c5 x2, box bs_ 96 [.slice as_a s_.a.length cs_a, .slice a1 s1.1.length c1, .slice a2 s1.2.length c2], own cd23 a1 s1.1.length c1 s1.1, rowsQ cd2 23 a2 s1.2.length c2 s1.2 [(qas_lists0, qcs_lists0, qls_lists0)], it] := H4.call H5 rfl
      refine ⟨fun x => Hold h x [box bs_ 96 [.slice as_a s_.a.length cs_a, .slice a1 s1.1.length c1, .slice a2 s1.2.length c2], own cd23 a1 s1.1.length c1 s1.1, rowsQ cd2 23 a2 s1.2.length c2 s1.2 [(qas_lists0, qcs_lists0, qls_lists0)], it, own cd23 a5 x2.length c5 x2], fun x => Hold h x [own cd23 a5 x2.length c5 x2, box bs_ 96 [.slice as_a s_.a.length cs_a, .slice a1 s1.1.length c1, .slice a2 s1.2.length c2], own cd23 a1 s1.1.length c1 s1.1, rowsQ cd2 23 a2 s1.2.length c2 s1.2 [(qas_lists0, qcs_lists0, qls_lists0)], it], H6, Hold.stable, fun x Hy => (show Hold h x [own cd23 a5 x2.length c5 x2, box bs_ 96 [.slice as_a s_.a.length cs_a, .slice a1 s1.1.length c1, .slice a2 s1.2.length c2], own cd23 a1 s1.1.length c1 s1.1, rowsQ cd2 23 a2 s1.2.length c2 s1.2 [(qas_lists0, qcs_lists0, qls_lists0)], it] from Hy).pick [1, 2, 3, 4, 0] (by kernel_rfl), fun x Hy => (show Hold h x [box bs_ 96 [.slice as_a s_.a.length cs_a, .slice a1 s1.1.length c1, .slice a2 s1.2.length c2], own cd23 a1 s1.1.length c1 s1.1, rowsQ cd2 23 a2 s1.2.length c2 s1.2 [(qas_lists0, qcs_lists0, qls_lists0)], it, own cd23 a5 x2.length c5 x2] from Hy).pick [0, 1, 2, 3] (by kernel_rfl), ?_⟩
      refine DR_b 1 [.pointer (some ⟨bs_, 0, none⟩), .pointer (some ⟨bs_, 1, none⟩)] 10 (by kernel_rfl) (by kernel_rfl) (by kernel_rfl) (fun w => by kernel_rfl) ?_
      refine DR_tail (i := 12) (by kernel_rfl) (by kernel_rfl) (by kernel_rfl) (fun h5 H7 => ?_)
      have H8 : Hold h h5 [own cd23 a5 x2.length c5 x2, box bs_ 96 [.slice as_a s_.a.length cs_a, .slice a1 s1.1.length c1, .slice a2 s1.2.length c2], own cd23 a1 s1.1.length c1 s1.1, rowsQ cd2 23 a2 s1.2.length c2 s1.2 [(qas_lists0, qcs_lists0, qls_lists0)], it] := H7
      have H10 : Hold h h5 [box bs_ 96 [.slice as_a s_.a.length cs_a, .slice a1 s1.1.length c1, .slice a2 s1.2.length c2], own cd23 a5 x2.length c5 x2, own cd23 a1 s1.1.length c1 s1.1, rowsQ cd2 23 a2 s1.2.length c2 s1.2 [(qas_lists0, qcs_lists0, qls_lists0)], it] := H8.pick [1, 0, 2, 3, 4] (by kernel_rfl)
      refine Run_E (by kernel_rfl) ?_
      refine E_bput (t := 22) (off := 1) (us := [.slice as_a s_.a.length cs_a, .slice a5 x2.length c5, .slice a2 s1.2.length c2]) (v := .slice a5 x2.length c5) H10 (by kernel_rfl) (by kernel_rfl) rfl (by kernel_rfl) rfl (fun h6 H9 => ?_)
      refine Run_nil (by kernel_rfl) ?_
      refine Run_keep [0, 1] (L' := [(0, .pointer (some ⟨bs_, 0, none⟩)), (1, .int .i64 k_)]) (by kernel_rfl) ?_
      refine Run_seq ?_
      refine Run_seq ?_
      obtain ⟨x3, hx2, hB1⟩ := M.bind_some hB1
      refine Run_reg 6 (by kernel_rfl) (L' := [(0, .pointer (some ⟨bs_, 0, none⟩)), (1, .int .i64 k_), (30, .bool (!x3))]) ?_ ?_
      · refine QRun_b [.pointer (some ⟨bs_, 0, none⟩), .pointer (some ⟨bs_, 0, none⟩), .pointer (some ⟨bs_, 1, none⟩)] 0 _ (by kernel_rfl) (fun w => by kernel_rfl) ?_
        refine QRun_y (.slice a5 x2.length c5) (by kernel_rfl) (Y_load1 (t := 22) (p := ⟨bs_, 1, none⟩) (v := .slice a5 x2.length c5) (by kernel_rfl) (fun w => by kernel_rfl) (H9.cell 0 rfl rfl)) ?_
        refine QRun_y (.bool x3) (by kernel_rfl) (Y_callq (f := 131) (args := #[.slice a5 x2.length c5]) (v := .bool x3) (by kernel_rfl) (w_spec_IsMatrix h6 x2 a5 c5 (H9.rd 1 rfl) _ _ hx2)) ?_
        refine QRun_b [.bool (!x3)] 5 _ (by kernel_rfl) (fun w => by kernel_rfl) ?_
        exact QRun_done [0, 1, 30] (by kernel_rfl) (by kernel_rfl)
      refine Run_cond (b := !x3) (by kernel_rfl) (fun hb2 => ?_) (fun hb2 => ?_)
      · have hB1 := (M.ite_some hB1).1 hb2
        refine Run_seq ?_
        refine Run_reg 2 (by kernel_rfl) (L' := [(4, .slice none 0 0), (5, .bool false)]) ?_ ?_
        · refine QRun_b [.slice none 0 0, .bool false] 0 _ (by kernel_rfl) (fun w => by kernel_rfl) ?_
          exact QRun_done [4, 5] (by kernel_rfl) (by kernel_rfl)
        have hB1 := M.ret_some hB1
        have gx1 := houty1 _ hB1.symm
        have hF := M.cont_inr' hF gx1
        have hF := M.ret_some hF
        subst hF
        have H11 : Hold h h6 [rowsQ cd2 23 a2 s1.2.length c2 s1.2 [(qas_lists0, qcs_lists0, qls_lists0)], box bs_ 96 [.slice as_a s_.a.length cs_a, .slice a5 x2.length c5, .slice a2 s1.2.length c2], own cd23 a5 x2.length c5 x2, own cd23 a1 s1.1.length c1 s1.1, it] := H9.pick [3, 0, 1, 2, 4] (by kernel_rfl)
        have H12 := H11.nilPeek
        have H13 : Hold h h6 [own cd23 a5 x2.length c5 x2, rowsQ cd2 23 a2 s1.2.length c2 s1.2 [(none, 0, []), (qas_lists0, qcs_lists0, qls_lists0)], box bs_ 96 [.slice as_a s_.a.length cs_a, .slice a5 x2.length c5, .slice a2 s1.2.length c2], own cd23 a1 s1.1.length c1 s1.1, it] := H12.pick [2, 0, 1, 3, 4] (by kernel_rfl)
        have H14 : Hold h h6 [rowsQ cd2 23 a2 s1.2.length c2 s1.2 [(none, 0, []), (qas_lists0, qcs_lists0, qls_lists0)], own cd23 a5 x2.length c5 x2, box bs_ 96 [.slice as_a s_.a.length cs_a, .slice a5 x2.length c5, .slice a2 s1.2.length c2], own cd23 a1 s1.1.length c1 s1.1, it] := H13.pick [1, 0, 2, 3, 4] (by kernel_rfl)
        have H15 : Hold h h6 [box bs_ 96 [.slice as_a s_.a.length cs_a, .slice a5 x2.length c5, .slice a2 s1.2.length c2], own cd23 a5 x2.length c5 x2, rowsQ cd2 23 a2 s1.2.length c2 s1.2 [(none, 0, []), (qas_lists0, qcs_lists0, qls_lists0)], it] := H14.pick [2, 1, 0, 4] (by kernel_rfl)
        exact Run_ret2 rfl (ResV_tmp (v := .slice none 0 0) (by kernel_rfl)) (ResV_tmp (v := .bool false) (by kernel_rfl)) ⟨none, 0, a5, c5, a2, c2, rfl, H15⟩
      · have hB1 := (M.ite_some hB1).2 hb2
        refine Run_skip ?_
        refine Run_D (fun x => Hold h x [box bs_ 96 [.slice as_a s_.a.length cs_a, .slice a5 x2.length c5, .slice a2 s1.2.length c2], own cd23 a5 x2.length c5 x2, own cd23 a1 s1.1.length c1 s1.1, it]) (fun x => Hold h x [box bs_ 96 [.slice as_a s_.a.length cs_a, .slice a5 x2.length c5, .slice a2 s1.2.length c2], own cd23 a5 x2.length c5 x2, own cd23 a1 s1.1.length c1 s1.1, rowsQ cd2 23 a2 s1.2.length c2 s1.2 [(qas_lists0, qcs_lists0, qls_lists0)], it]) mixed (by kernel_rfl) H9 Hold.stable (fun x Hy => (show Hold h x [box bs_ 96 [.slice as_a s_.a.length cs_a, .slice a5 x2.length c5, .slice a2 s1.2.length c2], own cd23 a5 x2.length c5 x2, own cd23 a1 s1.1.length c1 s1.1, rowsQ cd2 23 a2 s1.2.length c2 s1.2 [(qas_lists0, qcs_lists0, qls_lists0)], it] from Hy).pick [0, 1, 2, 4] (by kernel_rfl)) ?_
        refine DR_b 11 [.pointer (some ⟨bs_, 0, none⟩), .pointer (some ⟨bs_, 0, none⟩), .pointer (some ⟨bs_, 0, none⟩), .pointer (some ⟨bs_, 2, none⟩)] 0 (by kernel_rfl) (by kernel_rfl) (by kernel_rfl) (fun w => by kernel_rfl) ?_
        refine DR_y 10 (i := 4) (.slice a2 s1.2.length c2) (by kernel_rfl) (by kernel_rfl) (by kernel_rfl) (fun hx Hx => (YE.of (Y_load1 (t := 22) (p := ⟨bs_, 2, none⟩) (v := .slice a2 s1.2.length c2) (by kernel_rfl) (fun w => by kernel_rfl) (Hx.cell 0 rfl rfl)))) ?_
        refine DR_b 7 [.pointer (some ⟨bs_, 0, none⟩), .pointer (some ⟨bs_, 0, none⟩), .pointer (some ⟨bs_, 1, none⟩)] 5 (by kernel_rfl) (by kernel_rfl) (by kernel_rfl) (fun w => by kernel_rfl) ?_
        refine DR_y 6 (i := 8) (.slice a5 x2.length c5) (by kernel_rfl) (by kernel_rfl) (by kernel_rfl) (fun hx Hx => (YE.of (Y_load1 (t := 22) (p := ⟨bs_, 1, none⟩) (v := .slice a5 x2.length c5) (by kernel_rfl) (fun w => by kernel_rfl) (Hx.cell 0 rfl rfl)))) ?_
        refine DR_e 5 9 (by kernel_rfl) (by kernel_rfl) (by kernel_rfl) (fun h7 H16 => ?_)
        have H17 : Hold h h7 [box bs_ 96 [.slice as_a s_.a.length cs_a, .slice a5 x2.length c5, .slice a2 s1.2.length c2], own cd23 a5 x2.length c5 x2, own cd23 a1 s1.1.length c1 s1.1, rowsQ cd2 23 a2 s1.2.length c2 s1.2 [(qas_lists0, qcs_lists0, qls_lists0)], it] := H16
        obtain ⟨x4, hx3, hB1⟩ := M.bind_some hB1
        refine E_call (f := 132) (args := #[.slice a5 x2.length c5]) (w_spec_l07Flat h7 x2 a5 c5 (H17.rd 1 rfl) _ _ hx3) (by kernel_rfl) (fun v2 h8 hp2 => ?_)
        obtain ⟨a6, c6, rfl, H18⟩ := hp2
        have H19 : Hold h h8 [own cd2 a6 x4.length c6 x4, box bs_ 96 [.slice as_a s_.a.length cs_a, .slice a5 x2.length c5, .slice a2 s1.2.length c2], own cd23 a5 x2.length c5 x2, own cd23 a1 s1.1.length c1 s1.1, rowsQ cd2 23 a2 s1.2.length c2 s1.2 [(qas_lists0, qcs_lists0, qls_lists0)], it] := H17.call H18 rfl
        refine ⟨fun x => Hold h x [box bs_ 96 [.slice as_a s_.a.length cs_a, .slice a5 x2.length c5, .slice a2 s1.2.length c2], own cd23 a5 x2.length c5 x2, own cd23 a1 s1.1.length c1 s1.1, it], fun x => Hold h x [own cd2 a6 x4.length c6 x4, box bs_ 96 [.slice as_a s_.a.length cs_a, .slice a5 x2.length c5, .slice a2 s1.2.length c2], own cd23 a5 x2.length c5 x2, own cd23 a1 s1.1.length c1 s1.1, rowsQ cd2 23 a2 s1.2.length c2 s1.2 [(qas_lists0, qcs_lists0, qls_lists0)], it], H19, Hold.stable, fun x Hy => (show Hold h x [own cd2 a6 x4.length c6 x4, box bs_ 96 [.slice as_a s_.a.length cs_a, .slice a5 x2.length c5, .slice a2 s1.2.length c2], own cd23 a5 x2.length c5 x2, own cd23 a1 s1.1.length c1 s1.1, rowsQ cd2 23 a2 s1.2.length c2 s1.2 [(qas_lists0, qcs_lists0, qls_lists0)], it] from Hy).pick [1, 2, 3, 5] (by kernel_rfl), fun x Hy => (show Hold h x [box bs_ 96 [.slice as_a s_.a.length cs_a, .slice a5 x2.length c5, .slice a2 s1.2.length c2], own cd23 a5 x2.length c5 x2, own cd23 a1 s1.1.length c1 s1.1, it] from Hy).pick [0, 1, 2, 3] (by kernel_rfl), ?_⟩
        refine DR_e 4 10 (by kernel_rfl) (by kernel_rfl) (by kernel_rfl) (fun h9 H20 => ?_)
        have H21 : Hold h h9 [own cd2 a6 x4.length c6 x4, box bs_ 96 [.slice as_a s_.a.length cs_a, .slice a5 x2.length c5, .slice a2 s1.2.length c2], own cd23 a5 x2.length c5 x2, own cd23 a1 s1.1.length c1 s1.1, rowsQ cd2 23 a2 s1.2.length c2 s1.2 [(qas_lists0, qcs_lists0, qls_lists0)], it] := H20
        refine E_lit1 (ey := 23) (n := x4.length) H21 (fun w => by kernel_rfl) rfl (fun a7 h10 H22 => ?_)
        refine ⟨fun x => Hold h x [box bs_ 96 [.slice as_a s_.a.length cs_a, .slice a5 x2.length c5, .slice a2 s1.2.length c2], own cd23 a5 x2.length c5 x2, own cd23 a1 s1.1.length c1 s1.1, it], fun x => Hold h x [own cd23 a7 1 1 [x4], box bs_ 96 [.slice as_a s_.a.length cs_a, .slice a5 x2.length c5, .slice a2 s1.2.length c2], own cd23 a5 x2.length c5 x2, own cd23 a1 s1.1.length c1 s1.1, rowsQ cd2 23 a2 s1.2.length c2 s1.2 [(qas_lists0, qcs_lists0, qls_lists0)], it], H22, Hold.stable, fun x Hy => (show Hold h x [own cd23 a7 1 1 [x4], box bs_ 96 [.slice as_a s_.a.length cs_a, .slice a5 x2.length c5, .slice a2 s1.2.length c2], own cd23 a5 x2.length c5 x2, own cd23 a1 s1.1.length c1 s1.1, rowsQ cd2 23 a2 s1.2.length c2 s1.2 [(qas_lists0, qcs_lists0, qls_lists0)], it] from Hy).pick [1, 2, 3, 5] (by kernel_rfl), fun x Hy => (show Hold h x [box bs_ 96 [.slice as_a s_.a.length cs_a, .slice a5 x2.length c5, .slice a2 s1.2.length c2], own cd23 a5 x2.length c5 x2, own cd23 a1 s1.1.length c1 s1.1, it] from Hy).pick [0, 1, 2, 3] (by kernel_rfl), ?_⟩
        refine DR_e 3 11 (by kernel_rfl) (by kernel_rfl) (by kernel_rfl) (fun h11 H23 => ?_)
        have H24 : Hold h h11 [own cd23 a7 1 1 [x4], box bs_ 96 [.slice as_a s_.a.length cs_a, .slice a5 x2.length c5, .slice a2 s1.2.length c2], own cd23 a5 x2.length c5 x2, own cd23 a1 s1.1.length c1 s1.1, rowsQ cd2 23 a2 s1.2.length c2 s1.2 [(qas_lists0, qcs_lists0, qls_lists0)], it] := H23
        obtain ⟨l1, hl1, hB1⟩ := M.bind_some hB1
        have hl1 := M.app_some hl1
        have H25 : Hold h h11 [rowsQ cd2 23 a2 s1.2.length c2 s1.2 [(qas_lists0, qcs_lists0, qls_lists0)], own cd23 a7 1 1 [x4], box bs_ 96 [.slice as_a s_.a.length cs_a, .slice a5 x2.length c5, .slice a2 s1.2.length c2], own cd23 a5 x2.length c5 x2, own cd23 a1 s1.1.length c1 s1.1, it] := H24.pick [4, 0, 1, 2, 3, 5] (by kernel_rfl)
        refine E_appQ (C := cd2) (t := 22) (ty := 22) (tr := 23) (n := s1.2.length) (m := 1) H25 cd23_ti rfl Try.underlying22 (by decide) (by kernel_rfl) hl1 (fun a8 c7 h12 H26 => ?_)
        refine ⟨fun x => Hold h x [box bs_ 96 [.slice as_a s_.a.length cs_a, .slice a5 x2.length c5, .slice a2 s1.2.length c2], own cd23 a5 x2.length c5 x2, own cd23 a1 s1.1.length c1 s1.1, it, rowsQ cd2 23 a8 l1.length c7 l1 [(qas_lists0, qcs_lists0, qls_lists0)]], fun x => Hold h x [rowsQ cd2 23 a8 l1.length c7 l1 [(qas_lists0, qcs_lists0, qls_lists0)], box bs_ 96 [.slice as_a s_.a.length cs_a, .slice a5 x2.length c5, .slice a2 s1.2.length c2], own cd23 a5 x2.length c5 x2, own cd23 a1 s1.1.length c1 s1.1, it], H26, Hold.stable, fun x Hy => (show Hold h x [rowsQ cd2 23 a8 l1.length c7 l1 [(qas_lists0, qcs_lists0, qls_lists0)], box bs_ 96 [.slice as_a s_.a.length cs_a, .slice a5 x2.length c5, .slice a2 s1.2.length c2], own cd23 a5 x2.length c5 x2, own cd23 a1 s1.1.length c1 s1.1, it] from Hy).pick [1, 2, 3, 4, 0] (by kernel_rfl), fun x Hy => (show Hold h x [box bs_ 96 [.slice as_a s_.a.length cs_a, .slice a5 x2.length c5, .slice a2 s1.2.length c2], own cd23 a5 x2.length c5 x2, own cd23 a1 s1.1.length c1 s1.1, it, rowsQ cd2 23 a8 l1.length c7 l1 [(qas_lists0, qcs_lists0, qls_lists0)]] from Hy).pick [0, 1, 2, 3] (by kernel_rfl), ?_⟩
        refine DR_b 1 [.pointer (some ⟨bs_, 0, none⟩), .pointer (some ⟨bs_, 2, none⟩)] 12 (by kernel_rfl) (by kernel_rfl) (by kernel_rfl) (fun w => by kernel_rfl) ?_
        refine DR_tail (i := 14) (by kernel_rfl) (by kernel_rfl) (by kernel_rfl) (fun h13 H27 => ?_)
        have H28 : Hold h h13 [rowsQ cd2 23 a8 l1.length c7 l1 [(qas_lists0, qcs_lists0, qls_lists0)], box bs_ 96 [.slice as_a s_.a.length cs_a, .slice a5 x2.length c5, .slice a2 s1.2.length c2], own cd23 a5 x2.length c5 x2, own cd23 a1 s1.1.length c1 s1.1, it] := H27
        have H30 : Hold h h13 [box bs_ 96 [.slice as_a s_.a.length cs_a, .slice a5 x2.length c5, .slice a2 s1.2.length c2], rowsQ cd2 23 a8 l1.length c7 l1 [(qas_lists0, qcs_lists0, qls_lists0)], own cd23 a5 x2.length c5 x2, own cd23 a1 s1.1.length c1 s1.1, it] := H28.pick [1, 0, 2, 3, 4] (by kernel_rfl)
        refine Run_E (by kernel_rfl) ?_
        refine E_bput (t := 22) (off := 2) (us := [.slice as_a s_.a.length cs_a, .slice a5 x2.length c5, .slice a8 l1.length c7]) (v := .slice a8 l1.length c7) H30 (by kernel_rfl) (by kernel_rfl) rfl (by kernel_rfl) rfl (fun h14 H29 => ?_)
        refine Run_nil (by kernel_rfl) ?_
        refine Run_keep [0, 1] (L' := [(0, .pointer (some ⟨bs_, 0, none⟩)), (1, .int .i64 k_)]) (by kernel_rfl) ?_
        refine Run_blk ?_
        have H31 : Hold h h14 [own cd23 a5 x2.length c5 x2, box bs_ 96 [.slice as_a s_.a.length cs_a, .slice a5 x2.length c5, .slice a8 l1.length c7], rowsQ cd2 23 a8 l1.length c7 l1 [(qas_lists0, qcs_lists0, qls_lists0)], own cd23 a1 s1.1.length c1 s1.1, it] := H29.pick [2, 0, 1, 3, 4] (by kernel_rfl)
        have H32 : Hold h h14 [rowsQ cd2 23 a8 l1.length c7 l1 [(qas_lists0, qcs_lists0, qls_lists0)], own cd23 a5 x2.length c5 x2, box bs_ 96 [.slice as_a s_.a.length cs_a, .slice a5 x2.length c5, .slice a8 l1.length c7], own cd23 a1 s1.1.length c1 s1.1, it] := H31.pick [2, 0, 1, 3, 4] (by kernel_rfl)
        have H33 : Hold h h14 [box bs_ 96 [.slice as_a s_.a.length cs_a, .slice a5 x2.length c5, .slice a8 l1.length c7], own cd23 a5 x2.length c5 x2, rowsQ cd2 23 a8 l1.length c7 l1 [(qas_lists0, qcs_lists0, qls_lists0)], it] := H32.pick [2, 1, 0, 4] (by kernel_rfl)
        have hB1 := M.ret_some hB1
        have gx1 := hgoy1 _ hB1.symm
        exact Run_again [0, 1] (by kernel_rfl) my1 (Nat.lt_succ_self _) ⟨(x2, l1), a5, c5, a8, c7, gx1, rfl, H33⟩
    · have hB1 := (M.ite_some hB1).2 hb1
      refine Run_exit (k' := _) rfl ?_
      have H34 : Hold h h1 [own cd23 a1 s1.1.length c1 s1.1, box bs_ 96 [.slice as_a s_.a.length cs_a, .slice a1 s1.1.length c1, .slice a2 s1.2.length c2], rowsQ cd2 23 a2 s1.2.length c2 s1.2 [(qas_lists0, qcs_lists0, qls_lists0)], it] := H1.pick [1, 0, 2, 3] (by kernel_rfl)
      have H35 : Hold h h1 [rowsQ cd2 23 a2 s1.2.length c2 s1.2 [(qas_lists0, qcs_lists0, qls_lists0)], own cd23 a1 s1.1.length c1 s1.1, box bs_ 96 [.slice as_a s_.a.length cs_a, .slice a1 s1.1.length c1, .slice a2 s1.2.length c2], it] := H34.pick [2, 0, 1, 3] (by kernel_rfl)
      have H36 : Hold h h1 [box bs_ 96 [.slice as_a s_.a.length cs_a, .slice a1 s1.1.length c1, .slice a2 s1.2.length c2], own cd23 a1 s1.1.length c1 s1.1, rowsQ cd2 23 a2 s1.2.length c2 s1.2 [(qas_lists0, qcs_lists0, qls_lists0)], it] := H35.pick [2, 1, 0, 3] (by kernel_rfl)
      have hB1 := M.ret_some hB1
      have gx1 := houty1 _ hB1.symm
      subst gx1
      exact Run_fall [0, 1] (by kernel_rfl) ⟨(s1.1, s1.2), a1, c1, a2, c2, rfl, rfl, H36⟩

end Go.Proofs.Ytjdcdcipilhmeaa
