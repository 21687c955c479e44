/-
  Walks: each Go function, called with what reads as plain data, returns what its plain program computes.
  Conditions: None beyond the given statement.
-/
import Derived.Test.YtipdgiljgbjjkaaRows
import Derived.Test.YtipdgiljgbjjkaaP
import Derived.Test.YtipdgiljgbjjkaaMut
namespace Go.Proofs.Ytipdgiljgbjjkaa
open Go
attribute [local irreducible] setL setB opA fineI idleI fineB evB okB markB markBs readyB readyBs chainB lk rho pickL dropSlot tailOK
theorem mixed : Try.prog.follows .mixedOrders = true := by kernel_rfl
def cd2 : Cd (Int) := flatCd 2 1 (by decide) (fun x => [.int .i64 x]) (fun _ => rfl) (fun _ => rfl)
theorem cd2_own (x : Int) : ∀ h, cd2.own h x [.int .i64 x] [] := fun _ => ⟨rfl, rfl⟩
theorem cd2_flat : Flat cd2 := fun _ _ _ _ o => o.2
theorem cd2_copies : Copies cd2 := fun _ _ _ _ o => ⟨o, rfl⟩
theorem cd2_zero : ∀ h, cd2.own h 0 [.int .i64 0] [] := fun _ => ⟨rfl, rfl⟩
theorem cd2_ti : TI Try.prog 2 (.int .i64 0) 1 8 := by unfold TI; kernel_rfl
theorem cd2_cell {h : Heap} {B : Bs} {a : Option Addr} {c : Nat} {l : List (Int)} {j : Nat} {x : Int} (r : Rd cd2 h B a c l) (hx : l[j]? = some x) : cellH h (adr a (j * 1)) = some (.int .i64 x) := r.cell1 hx (fun vs o => by rw [show vs = _ from o]; rfl)
abbrev cd39 : Cd (List Int) := rowCd cd2 39
theorem cd39_zero : ∀ h, cd39.own h [] [.slice none 0 0] [] := fun h => ⟨none, 0, rfl, Own.nil _ h⟩
theorem cd39_ti : TI Try.prog 39 (.slice none 0 0) 1 24 := by unfold TI; kernel_rfl
def cd127 : Cd (TPermanent) := flatCd 127 2 (by decide) (fun x => [.int .i64 x.weight, .int .i64 x.count]) (fun _ => rfl) (fun _ => rfl)
theorem cd127_own (x : TPermanent) : ∀ h, cd127.own h x [.int .i64 x.weight, .int .i64 x.count] [] := fun _ => ⟨rfl, rfl⟩
theorem cd127_flat : Flat cd127 := fun _ _ _ _ o => o.2
theorem cd127_copies : Copies cd127 := fun _ _ _ _ o => ⟨o, rfl⟩
theorem cd127_zero : ∀ h, cd127.own h (⟨0, 0⟩ : TPermanent) [.int .i64 0, .int .i64 0] [] := fun _ => ⟨rfl, rfl⟩
theorem cd127_ti : TI Try.prog 127 (.agg #[.int .i64 0, .int .i64 0]) 2 16 := by unfold TI; kernel_rfl
theorem cd127_elem {h : Heap} {B : Bs} {a : Option Addr} {c : Nat} {l : List (TPermanent)} {j : Nat} {x : TPermanent} (r : Rd cd127 h B a c l) (hx : l[j]? = some x) : ∀ i v, ([.int .i64 x.weight, .int .i64 x.count] : List Value)[i]? = some v → cellH h ((adr a (j * 2)).add i) = some v := r.elem hx (fun _ o => o)
theorem cd127_f0 {h : Heap} {B : Bs} {a : Option Addr} {c : Nat} {l : List (TPermanent)} {j : Nat} {x : TPermanent} (r : Rd cd127 h B a c l) (hx : l[j]? = some x) : cellH h ((adr a (j * 2)).add 0) = some (.int .i64 x.weight) := r.field hx (fun vs o => by rw [show vs = _ from o]; rfl)
theorem cd127_f1 {h : Heap} {B : Bs} {a : Option Addr} {c : Nat} {l : List (TPermanent)} {j : Nat} {x : TPermanent} (r : Rd cd127 h B a c l) (hx : l[j]? = some x) : cellH h ((adr a (j * 2)).add 1) = some (.int .i64 x.count) := r.field hx (fun vs o => by rw [show vs = _ from o]; rfl)
set_option maxRecDepth 100000 in
set_option maxHeartbeats 4000000 in
theorem w_laws_szInt64S (h : Heap) (a_ : List Int) {Sa_ : Bs} (aa_ : Option Addr) (ca_ : Nat) (ra_ : Rd cd2 h Sa_ aa_ ca_ a_) (left : Int) (n : Nat) (r : Int) (hF : laws_szInt64S a_ left n = some r) :
    Fn Try.prog 81 #[.slice aa_ a_.length ca_, .int .i64 left] h fun v h' => v = .int .i64 r ∧ h' = h := by
  unfold laws_szInt64S at hF
  refine Fn_enter (args := [.slice aa_ a_.length ca_, .int .i64 left]) Try.func81 rfl (by kernel_rfl) (by kernel_rfl) (fun w0 _ => ?_)
  refine Run_seq ?_
  refine Run_reg 1 (by kernel_rfl) (L' := [(0, .slice aa_ a_.length ca_), (1, .int .i64 left)]) ?_ ?_
  · refine QRun_b [.int .i64 0] 0 _ (by kernel_rfl) (fun w => by kernel_rfl) ?_
    exact QRun_done [0, 1] (by kernel_rfl) (by kernel_rfl)
  refine Run_seq ?_
  refine Run_reg 5 (by kernel_rfl) (L' := [(1, .int .i64 (w64 (left - (a_.length : Int))))]) ?_ ?_
  · refine QRun_b [.int .i64 left, .slice aa_ a_.length ca_, .int .i64 (a_.length : Int), .int .i64 (w64 (left - (a_.length : Int))), .int .i64 (w64 (left - (a_.length : Int)))] 0 _ (by kernel_rfl) (fun w => by kernel_rfl) ?_
    exact QRun_done [1] (by kernel_rfl) (by kernel_rfl)
  refine Run_seq ?_
  refine Run_seq ?_
  refine Run_reg 2 (by kernel_rfl) (L' := [(1, .int .i64 (w64 (left - (a_.length : Int)))), (10, .bool (decide ((w64 (left - (a_.length : Int))) < 0)))]) ?_ ?_
  · refine QRun_b [.int .i64 (w64 (left - (a_.length : Int))), .bool (decide ((w64 (left - (a_.length : Int))) < 0))] 0 _ (by kernel_rfl) (fun w => by kernel_rfl) ?_
    exact QRun_done [1, 10] (by kernel_rfl) (by kernel_rfl)
  refine Run_cond (b := decide ((w64 (left - (a_.length : Int))) < 0)) (by kernel_rfl) (fun hb1 => ?_) (fun hb1 => ?_)
  · have hF := (M.ite_some hF).1 hb1
    refine Run_seq ?_
    refine Run_reg 1 (by kernel_rfl) (L' := [(4, .int .i64 (-1))]) ?_ ?_
    · refine QRun_b [.int .i64 (-1)] 0 _ (by kernel_rfl) (fun w => by kernel_rfl) ?_
      exact QRun_done [4] (by kernel_rfl) (by kernel_rfl)
    have hF := M.ret_some hF
    subst hF
    exact Run_ret1 rfl (ResV_tmp (v := .int .i64 (-1)) (by kernel_rfl)) ⟨rfl, rfl⟩
  · have hF := (M.ite_some hF).2 hb1
    refine Run_skip ?_
    refine Run_seq ?_
    refine Run_reg 2 (by kernel_rfl) (L' := [(4, .int .i64 (w64 (left - (a_.length : Int))))]) ?_ ?_
    · refine QRun_b [.int .i64 (w64 (left - (a_.length : Int))), .int .i64 (w64 (left - (a_.length : Int)))] 0 _ (by kernel_rfl) (fun w => by kernel_rfl) ?_
      exact QRun_done [4] (by kernel_rfl) (by kernel_rfl)
    have hF := M.ret_some hF
    subst hF
    exact Run_ret1 rfl (ResV_tmp (v := .int .i64 (w64 (left - (a_.length : Int)))) (by kernel_rfl)) ⟨rfl, rfl⟩

set_option maxRecDepth 100000 in
set_option maxHeartbeats 4000000 in
theorem w_laws_szInt64SS (h : Heap) (a_ : List (List Int)) {Sa_ : Bs} (aa_ : Option Addr) (ca_ : Nat) (ra_ : Rd cd39 h Sa_ aa_ ca_ a_) (left : Int) (n : Nat) (r : Int) (hF : laws_szInt64SS a_ left n = some r) :
    Fn Try.prog 18 #[.slice aa_ a_.length ca_, .int .i64 left] h fun v h' => v = .int .i64 r ∧ h' = h := by
  unfold laws_szInt64SS at hF
  refine Fn_enter (args := [.slice aa_ a_.length ca_, .int .i64 left]) Try.func18 rfl (by kernel_rfl) (by kernel_rfl) (fun w0 _ => ?_)
  refine Run_seq ?_
  refine Run_reg 1 (by kernel_rfl) (L' := [(0, .slice aa_ a_.length ca_), (1, .int .i64 left)]) ?_ ?_
  · refine QRun_b [.int .i64 0] 0 _ (by kernel_rfl) (fun w => by kernel_rfl) ?_
    exact QRun_done [0, 1] (by kernel_rfl) (by kernel_rfl)
  refine Run_seq ?_
  refine Run_reg 5 (by kernel_rfl) (L' := [(0, .slice aa_ a_.length ca_), (1, .int .i64 (w64 (left - (a_.length : Int))))]) ?_ ?_
  · refine QRun_b [.int .i64 left, .slice aa_ a_.length ca_, .int .i64 (a_.length : Int), .int .i64 (w64 (left - (a_.length : Int))), .int .i64 (w64 (left - (a_.length : Int)))] 0 _ (by kernel_rfl) (fun w => by kernel_rfl) ?_
    exact QRun_done [0, 1] (by kernel_rfl) (by kernel_rfl)
  refine Run_seq ?_
  refine Run_seq ?_
  refine Run_reg 2 (by kernel_rfl) (L' := [(0, .slice aa_ a_.length ca_), (1, .int .i64 (w64 (left - (a_.length : Int)))), (11, .bool (decide ((w64 (left - (a_.length : Int))) < 0)))]) ?_ ?_
  · refine QRun_b [.int .i64 (w64 (left - (a_.length : Int))), .bool (decide ((w64 (left - (a_.length : Int))) < 0))] 0 _ (by kernel_rfl) (fun w => by kernel_rfl) ?_
    exact QRun_done [0, 1, 11] (by kernel_rfl) (by kernel_rfl)
  refine Run_cond (b := decide ((w64 (left - (a_.length : Int))) < 0)) (by kernel_rfl) (fun hb1 => ?_) (fun hb1 => ?_)
  · have hF := (M.ite_some hF).1 hb1
    refine Run_seq ?_
    refine Run_reg 1 (by kernel_rfl) (L' := [(4, .int .i64 (-1))]) ?_ ?_
    · refine QRun_b [.int .i64 (-1)] 0 _ (by kernel_rfl) (fun w => by kernel_rfl) ?_
      exact QRun_done [4] (by kernel_rfl) (by kernel_rfl)
    have hF := M.ret_some hF
    subst hF
    exact Run_ret1 rfl (ResV_tmp (v := .int .i64 (-1)) (by kernel_rfl)) ⟨rfl, rfl⟩
  · have hF := (M.ite_some hF).2 hb1
    refine Run_skip ?_
    refine Run_seq ?_
    refine Run_seq ?_
    refine Run_reg 1 (by kernel_rfl) (L' := [(0, .slice aa_ a_.length ca_), (1, .int .i64 (w64 (left - (a_.length : Int)))), (5, .int .i64 0)]) ?_ ?_
    · refine QRun_b [.int .i64 0] 0 _ (by kernel_rfl) (fun w => by kernel_rfl) ?_
      exact QRun_done [0, 1, 5] (by kernel_rfl) (by kernel_rfl)
    obtain ⟨x1, gx1, hF⟩ := M.bind_some hF
    obtain ⟨hloy1, hhiy1, gx1⟩ := M.for_start gx1
    refine Run_join (fun L' h' => ∃ (s2 : Int), x1 = .inl s2 ∧ L' = [(1, .int .i64 s2)] ∧ h = h') ?_ ?_
    · rintro _ _ ⟨s2, es2, rfl, rfl⟩
      have hF := M.cont_inl' hF es2
      refine Run_seq ?_
      refine Run_reg 2 (by kernel_rfl) (L' := [(4, .int .i64 s2)]) ?_ ?_
      · refine QRun_b [.int .i64 s2, .int .i64 s2] 0 _ (by kernel_rfl) (fun w => by kernel_rfl) ?_
        exact QRun_done [4] (by kernel_rfl) (by kernel_rfl)
      have hF := M.ret_some hF
      subst hF
      exact Run_ret1 rfl (ResV_tmp (v := .int .i64 s2) (by kernel_rfl)) ⟨rfl, rfl⟩
    · refine Run_block ?_
      refine Run_keep [0, 1, 5] (L' := [(0, .slice aa_ a_.length ca_), (1, .int .i64 (w64 (left - (a_.length : Int)))), (5, .int .i64 0)]) (by kernel_rfl) ?_
      refine Run_loop (fun m L' h' => ∃ (i1 : Int) (s1 : Int), 0 ≤ i1 ∧ M.forN (a_.length : Int) _ _ n m i1 s1 = some x1 ∧ L' = [(0, .slice aa_ a_.length ca_), (1, .int .i64 s1), (5, .int .i64 i1)] ∧ h = h') ((a_.length : Int) - 0 : Int).toNat ⟨0, (w64 (left - (a_.length : Int))), Int.le_refl _, gx1, rfl, rfl⟩ ?_
      rintro my1 _ _ ⟨i1, s1, hloy1', gx1, rfl, rfl⟩
      refine Run_seq ?_
      refine Run_seq ?_
      refine Run_reg 4 (by kernel_rfl) (L' := [(0, .slice aa_ a_.length ca_), (1, .int .i64 s1), (5, .int .i64 i1), (15, .bool (decide (i1 < (a_.length : Int))))]) ?_ ?_
      · refine QRun_b [.int .i64 i1, .slice aa_ a_.length ca_, .int .i64 (a_.length : Int), .bool (decide (i1 < (a_.length : Int)))] 0 _ (by kernel_rfl) (fun w => by kernel_rfl) ?_
        exact QRun_done [0, 1, 5, 15] (by kernel_rfl) (by kernel_rfl)
      refine Run_cond (b := decide (i1 < (a_.length : Int))) (by kernel_rfl) (fun hb2 => ?_) (fun hb2 => ?_)
      · obtain ⟨my1, y1, rfl, hB1, hgoy1, houty1⟩ := M.for_go gx1 hb2
        have hlty1 := of_decide_eq_true hb2
        refine Run_skip ?_
        refine Run_seq ?_
        refine Run_block ?_
        refine Run_seq ?_
        obtain ⟨x2, hx1, hB1⟩ := M.bind_some hB1
        obtain ⟨hx1l, hx1u, hx1⟩ := M.idx_some hx1
        obtain ⟨a1, c1, hc1, r1⟩ := ra_.row hx1
        obtain ⟨x3, hx2, hB1⟩ := M.bind_some hB1
        refine Run_reg 7 (by kernel_rfl) (L' := [(0, .slice aa_ a_.length ca_), (1, .int .i64 x3), (5, .int .i64 i1)]) ?_ ?_
        · refine QRun_b [.slice aa_ a_.length ca_, .int .i64 i1] 0 _ (by kernel_rfl) (fun w => by kernel_rfl) ?_
          refine QRun_y (.pointer (some (adr aa_ (i1.toNat * 1)))) (by kernel_rfl) (Y_idx (t := 37) (e := 39) (sz := 1) (a := aa_) (n := a_.length) (cap := ca_) (kk := .i64) (i := i1) (by kernel_rfl) Try.underlying37 (by kernel_rfl) (ra_.cell hx1).1 hx1l hx1u) ?_
          refine QRun_y (.slice a1 x2.length c1) (by kernel_rfl) (Y_load1 (t := 39) (p := adr aa_ (i1.toNat * 1)) (v := .slice a1 x2.length c1) (by kernel_rfl) (fun w => by kernel_rfl) hc1) ?_
          refine QRun_b [.int .i64 s1] 4 _ (by kernel_rfl) (fun w => by kernel_rfl) ?_
          refine QRun_y (.int .i64 x3) (by kernel_rfl) (Y_callq (f := 81) (args := #[.slice a1 x2.length c1, .int .i64 s1]) (v := .int .i64 x3) (by kernel_rfl) (w_laws_szInt64S h x2 a1 c1 r1 s1 _ _ hx2)) ?_
          refine QRun_b [.int .i64 x3] 6 _ (by kernel_rfl) (fun w => by kernel_rfl) ?_
          exact QRun_done [0, 1, 5] (by kernel_rfl) (by kernel_rfl)
        refine Run_seq ?_
        refine Run_reg 2 (by kernel_rfl) (L' := [(0, .slice aa_ a_.length ca_), (1, .int .i64 x3), (5, .int .i64 i1), (25, .bool (decide (x3 < 0)))]) ?_ ?_
        · refine QRun_b [.int .i64 x3, .bool (decide (x3 < 0))] 0 _ (by kernel_rfl) (fun w => by kernel_rfl) ?_
          exact QRun_done [0, 1, 5, 25] (by kernel_rfl) (by kernel_rfl)
        refine Run_cond (b := decide (x3 < 0)) (by kernel_rfl) (fun hb3 => ?_) (fun hb3 => ?_)
        · have hB1 := (M.ite_some hB1).1 hb3
          refine Run_seq ?_
          refine Run_reg 1 (by kernel_rfl) (L' := [(4, .int .i64 (-1))]) ?_ ?_
          · refine QRun_b [.int .i64 (-1)] 0 _ (by kernel_rfl) (fun w => by kernel_rfl) ?_
            exact QRun_done [4] (by kernel_rfl) (by kernel_rfl)
          have hB1 := M.ret_some hB1
          have gx1 := houty1 _ hB1.symm
          have hF := M.cont_inr' hF gx1
          have hF := M.ret_some hF
          subst hF
          exact Run_ret1 rfl (ResV_tmp (v := .int .i64 (-1)) (by kernel_rfl)) ⟨rfl, rfl⟩
        · have hB1 := (M.ite_some hB1).2 hb3
          refine Run_skip ?_
          refine Run_blk ?_
          refine Run_reg 3 (by kernel_rfl) (L' := [(0, .slice aa_ a_.length ca_), (1, .int .i64 x3), (5, .int .i64 (i1 + 1))]) ?_ ?_
          · refine QRun_b [.int .i64 i1] 0 _ (by kernel_rfl) (fun w => by kernel_rfl) ?_
            refine QRun_y (.int .i64 (i1 + 1)) (by kernel_rfl) (Y_eq (v := .int .i64 (w64 (i1 + 1))) (Y_pure (fun w => by kernel_rfl)) (by rw [w64_eq _ (by omega)])) ?_
            refine QRun_b [.int .i64 (i1 + 1)] 2 _ (by kernel_rfl) (fun w => by kernel_rfl) ?_
            exact QRun_done [0, 1, 5] (by kernel_rfl) (by kernel_rfl)
          have hB1 := M.ret_some hB1
          have gx1 := hgoy1 _ hB1.symm
          exact Run_again [0, 1, 5] (by kernel_rfl) my1 (Nat.lt_succ_self _) ⟨i1 + 1, x3, by omega, gx1, rfl, rfl⟩
      · have gx1 := M.for_end gx1 hb2
        subst gx1
        refine Run_exit (k' := _) rfl ?_
        exact Run_fall [1] (by kernel_rfl) ⟨s1, rfl, rfl, rfl⟩

set_option maxRecDepth 100000 in
set_option maxHeartbeats 4000000 in
theorem w_laws_toInt64S (h : Heap) (a_ : List Int) (aa_ : Option Addr) (ca_ : Nat) (ra_ : Rd cd2 h (Lt h) aa_ ca_ a_) (n : Nat) (r : (List Int)) (hF : laws_toInt64S a_ n = some r) :
    Fn Try.prog 88 #[.slice aa_ a_.length ca_] h fun v h' => ∃ (a0 : Option Addr) (c0 : Nat), v = .slice a0 r.length c0 ∧ Hold h h' [own cd2 a0 r.length c0 r] := by
  unfold laws_toInt64S at hF
  refine Fn_enter (args := [.slice aa_ a_.length ca_]) Try.func88 rfl (by kernel_rfl) (by kernel_rfl) (fun w0 _ => ?_)
  have H0 := Hold.init h
  refine Run_seq ?_
  refine Run_reg 1 (by kernel_rfl) (L' := [(0, .slice aa_ a_.length ca_)]) ?_ ?_
  · refine QRun_b [.slice none 0 0] 0 _ (by kernel_rfl) (fun w => by kernel_rfl) ?_
    exact QRun_done [0] (by kernel_rfl) (by kernel_rfl)
  refine Run_seq ?_
  refine Run_ops ?_
  refine Run_b [.slice aa_ a_.length ca_, .int .i64 (a_.length : Int)] 0 _ (by kernel_rfl) (fun w => by kernel_rfl) ?_
  obtain ⟨l1, hl1, hF⟩ := M.bind_some hF
  have hl1 := M.make_some hl1
  refine Run_E (by kernel_rfl) ?_
  refine E_make cd2 0 (kl := .i64) (kc := .i64) H0 cd2_ti Try.underlying39 (by decide) cd2_zero (by kernel_rfl) hl1 (fun a1 h1 H1 => ?_)
  refine Run_b [.slice a1 l1.length l1.length] 3 _ (by kernel_rfl) (fun w => by kernel_rfl) ?_
  refine Run_nil (by kernel_rfl) ?_
  refine Run_keep [0, 3] (L' := [(0, .slice aa_ a_.length ca_), (3, .slice a1 l1.length l1.length)]) (by kernel_rfl) ?_
  refine Run_seq ?_
  refine Run_seq ?_
  refine Run_reg 1 (by kernel_rfl) (L' := [(0, .slice aa_ a_.length ca_), (3, .slice a1 l1.length l1.length), (4, .int .i64 0)]) ?_ ?_
  · refine QRun_b [.int .i64 0] 0 _ (by kernel_rfl) (fun w => by kernel_rfl) ?_
    exact QRun_done [0, 3, 4] (by kernel_rfl) (by kernel_rfl)
  obtain ⟨x1, gx1, hF⟩ := M.bind_some hF
  obtain ⟨hloy1, hhiy1, gx1⟩ := M.for_start gx1
  refine Run_join (fun L' h' => L' = [(3, .slice a1 l1.length l1.length)] ∧ Hold h h' [own cd2 a1 l1.length l1.length x1]) ?_ ?_
  · rintro _ h3 ⟨rfl, H3⟩
    refine Run_seq ?_
    refine Run_reg 2 (by kernel_rfl) (L' := [(2, .slice a1 l1.length l1.length)]) ?_ ?_
    · refine QRun_b [.slice a1 l1.length l1.length, .slice a1 l1.length l1.length] 0 _ (by kernel_rfl) (fun w => by kernel_rfl) ?_
      exact QRun_done [2] (by kernel_rfl) (by kernel_rfl)
    have hF := M.ret_some hF
    subst hF
    have H5 := H3.norm
    exact Run_ret1 rfl (ResV_tmp (v := .slice a1 l1.length l1.length) (by kernel_rfl)) ⟨a1, l1.length, (by simp only [(H3.len 0 rfl)]), H5⟩
  · refine Run_block ?_
    refine Run_keep [0, 3, 4] (L' := [(0, .slice aa_ a_.length ca_), (3, .slice a1 l1.length l1.length), (4, .int .i64 0)]) (by kernel_rfl) ?_
    refine Run_loop (fun m L' h' => ∃ (i1 : Int) (s1 : (List Int)), 0 ≤ i1 ∧ M.forN (a_.length : Int) _ _ n m i1 s1 = some x1 ∧ L' = [(0, .slice aa_ a_.length ca_), (3, .slice a1 l1.length l1.length), (4, .int .i64 i1)] ∧ Hold h h' [own cd2 a1 l1.length l1.length s1]) ((a_.length : Int) - 0 : Int).toNat ⟨0, l1, Int.le_refl _, gx1, rfl, H1⟩ ?_
    rintro my1 _ h2 ⟨i1, s1, hloy1', gx1, rfl, H2⟩
    refine Run_seq ?_
    refine Run_seq ?_
    refine Run_reg 4 (by kernel_rfl) (L' := [(0, .slice aa_ a_.length ca_), (3, .slice a1 l1.length l1.length), (4, .int .i64 i1), (11, .bool (decide (i1 < (a_.length : Int))))]) ?_ ?_
    · refine QRun_b [.int .i64 i1, .slice aa_ a_.length ca_, .int .i64 (a_.length : Int), .bool (decide (i1 < (a_.length : Int)))] 0 _ (by kernel_rfl) (fun w => by kernel_rfl) ?_
      exact QRun_done [0, 3, 4, 11] (by kernel_rfl) (by kernel_rfl)
    refine Run_cond (b := decide (i1 < (a_.length : Int))) (by kernel_rfl) (fun hb1 => ?_) (fun hb1 => ?_)
    · obtain ⟨my1, y1, rfl, hB1, hgoy1, houty1⟩ := M.for_go gx1 hb1
      have hlty1 := of_decide_eq_true hb1
      refine Run_skip ?_
      refine Run_seq ?_
      refine Run_block ?_
      refine Run_ops ?_
      obtain ⟨x2, hx1, hB1⟩ := M.bind_some hB1
      obtain ⟨hx1l, hx1u, hx1⟩ := M.idx_some hx1
      obtain ⟨x3, hx2, hB1⟩ := M.bind_some hB1
      obtain ⟨hx2l, hx2u, hx2⟩ := M.idx_some hx2
      refine Run_b [.slice a1 l1.length l1.length, .int .i64 i1, .slice aa_ a_.length ca_, .int .i64 i1] 0 _ (by kernel_rfl) (fun w => by kernel_rfl) ?_
      refine Run_y (.pointer (some (adr aa_ (i1.toNat * 1)))) (by kernel_rfl) (Y_idx (t := 39) (e := 2) (sz := 1) (a := aa_) (n := a_.length) (cap := ca_) (kk := .i64) (i := i1) (by kernel_rfl) Try.underlying39 (by kernel_rfl) ((ra_.at H2.ext).cell hx1).1 hx1l hx1u) ?_
      refine Run_y (.int .i64 x2) (by kernel_rfl) (Y_load1 (t := 2) (p := adr aa_ (i1.toNat * 1)) (v := .int .i64 x2) (by kernel_rfl) (fun w => by kernel_rfl) (cd2_cell (ra_.at H2.ext) hx1)) ?_
      refine Run_y (.pointer (some (adr a1 (i1.toNat * 1)))) (by kernel_rfl) (Y_idx (t := 39) (e := 2) (sz := 1) (a := a1) (n := l1.length) (cap := l1.length) (kk := .i64) (i := i1) (by kernel_rfl) Try.underlying39 (by kernel_rfl) ((H2.rd 0 rfl).cell hx2).1 hx2l (by rw [← (H2.len 0 rfl)]; exact hx2u)) ?_
      obtain ⟨l2, hu1, hB1⟩ := M.bind_some hB1
      have hu1 := M.upd_some hu1
      refine Run_E (by kernel_rfl) ?_
      refine E_put (C := cd2) (t := 2) (sz := 1) (j := i1) (x := x2) (v := .int .i64 x2) H2 cd2_flat (by kernel_rfl) rfl (cd2_own _) (by kernel_rfl) hu1 (fun h4 H4 => ?_)
      refine Run_nil (by kernel_rfl) ?_
      refine Run_keep [0, 3, 4] (L' := [(0, .slice aa_ a_.length ca_), (3, .slice a1 l1.length l1.length), (4, .int .i64 i1)]) (by kernel_rfl) ?_
      refine Run_blk ?_
      refine Run_reg 3 (by kernel_rfl) (L' := [(0, .slice aa_ a_.length ca_), (3, .slice a1 l1.length l1.length), (4, .int .i64 (i1 + 1))]) ?_ ?_
      · refine QRun_b [.int .i64 i1] 0 _ (by kernel_rfl) (fun w => by kernel_rfl) ?_
        refine QRun_y (.int .i64 (i1 + 1)) (by kernel_rfl) (Y_eq (v := .int .i64 (w64 (i1 + 1))) (Y_pure (fun w => by kernel_rfl)) (by rw [w64_eq _ (by omega)])) ?_
        refine QRun_b [.int .i64 (i1 + 1)] 2 _ (by kernel_rfl) (fun w => by kernel_rfl) ?_
        exact QRun_done [0, 3, 4] (by kernel_rfl) (by kernel_rfl)
      have hB1 := M.ret_some hB1
      have gx1 := hgoy1 _ hB1.symm
      exact Run_again [0, 3, 4] (by kernel_rfl) my1 (Nat.lt_succ_self _) ⟨i1 + 1, l2, by omega, gx1, rfl, H4⟩
    · have gx1 := M.for_end gx1 hb1
      subst gx1
      refine Run_exit (k' := _) rfl ?_
      exact Run_fall [3] (by kernel_rfl) ⟨rfl, H2⟩

set_option maxRecDepth 100000 in
set_option maxHeartbeats 4000000 in
theorem w_laws_toInt64SS (h : Heap) (a_ : List (List Int)) (aa_ : Option Addr) (ca_ : Nat) (ra_ : Rd cd39 h (Lt h) aa_ ca_ a_) (n : Nat) (r : (List (List Int))) (hF : laws_toInt64SS a_ n = some r) :
    Fn Try.prog 20 #[.slice aa_ a_.length ca_] h fun v h' => ∃ (a0 : Option Addr) (c0 : Nat), v = .slice a0 r.length c0 ∧ Hold h h' [own cd39 a0 r.length c0 r] := by
  unfold laws_toInt64SS at hF
  refine Fn_enter (args := [.slice aa_ a_.length ca_]) Try.func20 rfl (by kernel_rfl) (by kernel_rfl) (fun w0 _ => ?_)
  have H0 := Hold.init h
  refine Run_seq ?_
  refine Run_reg 1 (by kernel_rfl) (L' := [(0, .slice aa_ a_.length ca_)]) ?_ ?_
  · refine QRun_b [.slice none 0 0] 0 _ (by kernel_rfl) (fun w => by kernel_rfl) ?_
    exact QRun_done [0] (by kernel_rfl) (by kernel_rfl)
  refine Run_seq ?_
  refine Run_ops ?_
  refine Run_b [.slice aa_ a_.length ca_, .int .i64 (a_.length : Int)] 0 _ (by kernel_rfl) (fun w => by kernel_rfl) ?_
  obtain ⟨l1, hl1, hF⟩ := M.bind_some hF
  have hl1 := M.make_some hl1
  refine Run_E (by kernel_rfl) ?_
  refine E_make cd39 [] (kl := .i64) (kc := .i64) H0 cd39_ti Try.underlying37 (by decide) cd39_zero (by kernel_rfl) hl1 (fun a1 h1 H1 => ?_)
  refine Run_b [.slice a1 l1.length l1.length] 3 _ (by kernel_rfl) (fun w => by kernel_rfl) ?_
  refine Run_nil (by kernel_rfl) ?_
  refine Run_keep [0, 3] (L' := [(0, .slice aa_ a_.length ca_), (3, .slice a1 l1.length l1.length)]) (by kernel_rfl) ?_
  refine Run_seq ?_
  refine Run_seq ?_
  refine Run_reg 1 (by kernel_rfl) (L' := [(0, .slice aa_ a_.length ca_), (3, .slice a1 l1.length l1.length), (4, .int .i64 0)]) ?_ ?_
  · refine QRun_b [.int .i64 0] 0 _ (by kernel_rfl) (fun w => by kernel_rfl) ?_
    exact QRun_done [0, 3, 4] (by kernel_rfl) (by kernel_rfl)
  obtain ⟨x1, gx1, hF⟩ := M.bind_some hF
  obtain ⟨hloy1, hhiy1, gx1⟩ := M.for_start gx1
  refine Run_join (fun L' h' => L' = [(3, .slice a1 l1.length l1.length)] ∧ Hold h h' [own cd39 a1 l1.length l1.length x1]) ?_ ?_
  · rintro _ h3 ⟨rfl, H3⟩
    refine Run_seq ?_
    refine Run_reg 2 (by kernel_rfl) (L' := [(2, .slice a1 l1.length l1.length)]) ?_ ?_
    · refine QRun_b [.slice a1 l1.length l1.length, .slice a1 l1.length l1.length] 0 _ (by kernel_rfl) (fun w => by kernel_rfl) ?_
      exact QRun_done [2] (by kernel_rfl) (by kernel_rfl)
    have hF := M.ret_some hF
    subst hF
    have H10 := H3.norm
    exact Run_ret1 rfl (ResV_tmp (v := .slice a1 l1.length l1.length) (by kernel_rfl)) ⟨a1, l1.length, (by simp only [(H3.len 0 rfl)]), H10⟩
  · refine Run_block ?_
    refine Run_keep [0, 3, 4] (L' := [(0, .slice aa_ a_.length ca_), (3, .slice a1 l1.length l1.length), (4, .int .i64 0)]) (by kernel_rfl) ?_
    refine Run_loop (fun m L' h' => ∃ (i1 : Int) (s1 : (List (List Int))), 0 ≤ i1 ∧ M.forN (a_.length : Int) _ _ n m i1 s1 = some x1 ∧ L' = [(0, .slice aa_ a_.length ca_), (3, .slice a1 l1.length l1.length), (4, .int .i64 i1)] ∧ Hold h h' [own cd39 a1 l1.length l1.length s1]) ((a_.length : Int) - 0 : Int).toNat ⟨0, l1, Int.le_refl _, gx1, rfl, H1⟩ ?_
    rintro my1 _ h2 ⟨i1, s1, hloy1', gx1, rfl, H2⟩
    refine Run_seq ?_
    refine Run_seq ?_
    refine Run_reg 4 (by kernel_rfl) (L' := [(0, .slice aa_ a_.length ca_), (3, .slice a1 l1.length l1.length), (4, .int .i64 i1), (11, .bool (decide (i1 < (a_.length : Int))))]) ?_ ?_
    · refine QRun_b [.int .i64 i1, .slice aa_ a_.length ca_, .int .i64 (a_.length : Int), .bool (decide (i1 < (a_.length : Int)))] 0 _ (by kernel_rfl) (fun w => by kernel_rfl) ?_
      exact QRun_done [0, 3, 4, 11] (by kernel_rfl) (by kernel_rfl)
    refine Run_cond (b := decide (i1 < (a_.length : Int))) (by kernel_rfl) (fun hb1 => ?_) (fun hb1 => ?_)
    · obtain ⟨my1, y1, rfl, hB1, hgoy1, houty1⟩ := M.for_go gx1 hb1
      have hlty1 := of_decide_eq_true hb1
      refine Run_skip ?_
      refine Run_seq ?_
      refine Run_block ?_
      refine Run_ops ?_
      obtain ⟨x2, hx1, hB1⟩ := M.bind_some hB1
      obtain ⟨hx1l, hx1u, hx1⟩ := M.idx_some hx1
      obtain ⟨a2, c1, hc1, r1⟩ := ra_.row hx1
      refine Run_b [.slice a1 l1.length l1.length, .int .i64 i1, .slice aa_ a_.length ca_, .int .i64 i1] 0 _ (by kernel_rfl) (fun w => by kernel_rfl) ?_
      refine Run_y (.pointer (some (adr aa_ (i1.toNat * 1)))) (by kernel_rfl) (Y_idx (t := 37) (e := 39) (sz := 1) (a := aa_) (n := a_.length) (cap := ca_) (kk := .i64) (i := i1) (by kernel_rfl) Try.underlying37 (by kernel_rfl) ((ra_.at H2.ext).cell hx1).1 hx1l hx1u) ?_
      refine Run_y (.slice a2 x2.length c1) (by kernel_rfl) (Y_load1 (t := 39) (p := adr aa_ (i1.toNat * 1)) (v := .slice a2 x2.length c1) (by kernel_rfl) (fun w => by kernel_rfl) (cell_at H2.ext hc1)) ?_
      obtain ⟨x3, hx2, hB1⟩ := M.bind_some hB1
      refine Run_E (by kernel_rfl) ?_
      refine E_call (f := 88) (args := #[.slice a2 x2.length c1]) (w_laws_toInt64S h2 x2 a2 c1 (r1.at H2.ext) _ _ hx2) (by kernel_rfl) (fun v1 h4 hp1 => ?_)
      obtain ⟨a3, c2, rfl, H4⟩ := hp1
      have H5 : Hold h h4 [own cd2 a3 x3.length c2 x3, own cd39 a1 l1.length l1.length s1] := H2.call H4 rfl
      obtain ⟨x4, hx3, hB1⟩ := M.bind_some hB1
      obtain ⟨hx3l, hx3u, hx3⟩ := M.idx_some hx3
      refine Run_y (.pointer (some (adr a1 (i1.toNat * 1)))) (by kernel_rfl) (Y_idx (t := 37) (e := 39) (sz := 1) (a := a1) (n := l1.length) (cap := l1.length) (kk := .i64) (i := i1) (by kernel_rfl) Try.underlying37 (by kernel_rfl) ((H5.rd 1 rfl).cell hx3).1 hx3l (by rw [← (H5.len 1 rfl)]; exact hx3u)) ?_
      obtain ⟨l2, hu1, hB1⟩ := M.bind_some hB1
      have hu1 := M.upd_some hu1
      have H7 : Hold h h4 [own cd39 a1 l1.length l1.length s1, own cd2 a3 x3.length c2 x3] := H5.pick [1, 0] (by kernel_rfl)
      have H8 : Hold h h4 [own cd2 a3 x3.length c2 x3, own cd39 a1 l1.length l1.length s1] := H7.pick [1, 0] (by kernel_rfl)
      have H9 : Hold h h4 [own cd39 a1 l1.length l1.length s1, own cd2 a3 x3.length c2 x3] := H8.pick [1, 0] (by kernel_rfl)
      refine Run_E (by kernel_rfl) ?_
      refine E_putRow (t := 39) (j := i1) H9 (by kernel_rfl) (by kernel_rfl) hu1 (fun h5 H6 => ?_)
      refine Run_nil (by kernel_rfl) ?_
      refine Run_keep [0, 3, 4] (L' := [(0, .slice aa_ a_.length ca_), (3, .slice a1 l1.length l1.length), (4, .int .i64 i1)]) (by kernel_rfl) ?_
      refine Run_blk ?_
      refine Run_reg 3 (by kernel_rfl) (L' := [(0, .slice aa_ a_.length ca_), (3, .slice a1 l1.length l1.length), (4, .int .i64 (i1 + 1))]) ?_ ?_
      · refine QRun_b [.int .i64 i1] 0 _ (by kernel_rfl) (fun w => by kernel_rfl) ?_
        refine QRun_y (.int .i64 (i1 + 1)) (by kernel_rfl) (Y_eq (v := .int .i64 (w64 (i1 + 1))) (Y_pure (fun w => by kernel_rfl)) (by rw [w64_eq _ (by omega)])) ?_
        refine QRun_b [.int .i64 (i1 + 1)] 2 _ (by kernel_rfl) (fun w => by kernel_rfl) ?_
        exact QRun_done [0, 3, 4] (by kernel_rfl) (by kernel_rfl)
      have hB1 := M.ret_some hB1
      have gx1 := hgoy1 _ hB1.symm
      exact Run_again [0, 3, 4] (by kernel_rfl) my1 (Nat.lt_succ_self _) ⟨i1 + 1, l2, by omega, gx1, rfl, H6⟩
    · have gx1 := M.for_end gx1 hb1
      subst gx1
      refine Run_exit (k' := _) rfl ?_
      exact Run_fall [3] (by kernel_rfl) ⟨rfl, H2⟩

set_option maxRecDepth 100000 in
set_option maxHeartbeats 4000000 in
theorem w_spec_l01In (h : Heap) (n_ : Int) (low : Int) (high : Int) (n : Nat) (r : Bool) (hF : spec_l01In n_ low high n = some r) :
    Fn Try.prog 78 #[.int .i64 n_, .int .i64 low, .int .i64 high] h fun v h' => v = .bool r ∧ h' = h := by
  unfold spec_l01In at hF
  refine Fn_enter (args := [.int .i64 n_, .int .i64 low, .int .i64 high]) Try.func78 rfl (by kernel_rfl) (by kernel_rfl) (fun w0 _ => ?_)
  refine Run_seq ?_
  refine Run_reg 1 (by kernel_rfl) (L' := [(0, .int .i64 n_), (1, .int .i64 low), (2, .int .i64 high)]) ?_ ?_
  · refine QRun_b [.bool false] 0 _ (by kernel_rfl) (fun w => by kernel_rfl) ?_
    exact QRun_done [0, 1, 2] (by kernel_rfl) (by kernel_rfl)
  refine Run_seq ?_
  refine Run_reg 9 (by kernel_rfl) (L' := [(6, .bool ((decide (low ≤ n_)) && (decide (n_ ≤ high))))]) ?_ ?_
  · refine QRun_b [.int .i64 n_, .int .i64 low, .bool (decide (low ≤ n_))] 0 _ (by kernel_rfl) (fun w => by kernel_rfl) ?_
    refine QRun_seq 8 [(14, .bool ((decide (low ≤ n_)) && (decide (n_ ≤ high))))] ?_ ?_
    · rcases Bool.eq_false_or_eq_true (decide (low ≤ n_)) with hb1 | hb1
      · refine QRun_bool (decide (low ≤ n_)) true (by kernel_rfl) (fun w => by kernel_rfl) hb1 ?_
        refine QRun_b [.int .i64 n_, .int .i64 high, .bool (decide (n_ ≤ high))] 4 _ (by kernel_rfl) (fun w => by kernel_rfl) ?_
        refine QRun_bool (decide (n_ ≤ high)) ((decide (low ≤ n_)) && (decide (n_ ≤ high))) (by kernel_rfl) (fun w => by kernel_rfl) (by rw [hb1]; rfl) ?_
        exact QRun_done [14] (by kernel_rfl) (by kernel_rfl)
      · refine QRun_bool (decide (low ≤ n_)) false (by kernel_rfl) (fun w => by kernel_rfl) hb1 ?_
        refine QRun_n (by kernel_rfl) ?_
        refine QRun_n (by kernel_rfl) ?_
        refine QRun_n (by kernel_rfl) ?_
        refine QRun_bool false ((decide (low ≤ n_)) && (decide (n_ ≤ high))) (by kernel_rfl) (fun w => by kernel_rfl) (by rw [hb1]; rfl) ?_
        exact QRun_done [14] (by kernel_rfl) (by kernel_rfl)
    refine QRun_b [.bool ((decide (low ≤ n_)) && (decide (n_ ≤ high)))] 8 _ (by kernel_rfl) (fun w => by kernel_rfl) ?_
    exact QRun_done [6] (by kernel_rfl) (by kernel_rfl)
  have hF := M.ret_some hF
  subst hF
  exact Run_ret1 rfl (ResV_tmp (v := .bool ((decide (low ≤ n_)) && (decide (n_ ≤ high)))) (by kernel_rfl)) ⟨rfl, rfl⟩

set_option maxRecDepth 100000 in
set_option maxHeartbeats 4000000 in
theorem w_spec_l01Finite (h : Heap) (a_ : Int) (n : Nat) (r : Bool) (hF : spec_l01Finite a_ n = some r) :
    Fn Try.prog 169 #[.int .i64 a_] h fun v h' => v = .bool r ∧ h' = h := by
  unfold spec_l01Finite at hF
  refine Fn_enter (args := [.int .i64 a_]) Try.func169 rfl (by kernel_rfl) (by kernel_rfl) (fun w0 _ => ?_)
  refine Run_seq ?_
  refine Run_reg 1 (by kernel_rfl) (L' := [(0, .int .i64 a_)]) ?_ ?_
  · refine QRun_b [.bool false] 0 _ (by kernel_rfl) (fun w => by kernel_rfl) ?_
    exact QRun_done [0] (by kernel_rfl) (by kernel_rfl)
  refine Run_seq ?_
  obtain ⟨x1, hx1, hF⟩ := M.bind_some hF
  refine Run_reg 3 (by kernel_rfl) (L' := [(2, .bool x1)]) ?_ ?_
  · refine QRun_b [.int .i64 a_] 0 _ (by kernel_rfl) (fun w => by kernel_rfl) ?_
    refine QRun_y (.bool x1) (by kernel_rfl) (Y_callq (f := 78) (args := #[.int .i64 a_, .int .i64 (-1000000), .int .i64 1000000]) (v := .bool x1) (by kernel_rfl) (w_spec_l01In h a_ (-1000000) 1000000 _ _ hx1)) ?_
    refine QRun_b [.bool x1] 2 _ (by kernel_rfl) (fun w => by kernel_rfl) ?_
    exact QRun_done [2] (by kernel_rfl) (by kernel_rfl)
  have hF := M.ret_some hF
  subst hF
  exact Run_ret1 rfl (ResV_tmp (v := .bool x1) (by kernel_rfl)) ⟨rfl, rfl⟩

set_option maxRecDepth 100000 in
set_option maxHeartbeats 4000000 in
theorem w_spec_IsValue (h : Heap) (a_ : Int) (n : Nat) (r : Bool) (hF : spec_IsValue a_ n = some r) :
    Fn Try.prog 153 #[.int .i64 a_] h fun v h' => v = .bool r ∧ h' = h := by
  unfold spec_IsValue at hF
  refine Fn_enter (args := [.int .i64 a_]) Try.func153 rfl (by kernel_rfl) (by kernel_rfl) (fun w0 _ => ?_)
  refine Run_seq ?_
  refine Run_reg 1 (by kernel_rfl) (L' := [(0, .int .i64 a_)]) ?_ ?_
  · refine QRun_b [.bool false] 0 _ (by kernel_rfl) (fun w => by kernel_rfl) ?_
    exact QRun_done [0] (by kernel_rfl) (by kernel_rfl)
  refine Run_seq ?_
  obtain ⟨x1, gx1, hF⟩ := M.bind_some hF
  refine Run_reg 7 (by kernel_rfl) (L' := [(2, .bool x1)]) ?_ ?_
  · refine QRun_b [.int .i64 a_, .bool (a_ == (-1000000000000000))] 0 _ (by kernel_rfl) (fun w => by kernel_rfl) ?_
    refine QRun_seq 6 [(8, .bool x1)] ?_ ?_
    · rcases Bool.eq_false_or_eq_true (a_ == (-1000000000000000)) with hb1 | hb1
      · refine QRun_bool (a_ == (-1000000000000000)) true (by kernel_rfl) (fun w => by kernel_rfl) hb1 ?_
        have gx1 := M.ret_some ((M.ite_some gx1).1 hb1)
        refine QRun_n (by kernel_rfl) ?_
        refine QRun_n (by kernel_rfl) ?_
        refine QRun_bool true x1 (by kernel_rfl) (fun w => by kernel_rfl) gx1 ?_
        exact QRun_done [8] (by kernel_rfl) (by kernel_rfl)
      · refine QRun_bool (a_ == (-1000000000000000)) false (by kernel_rfl) (fun w => by kernel_rfl) hb1 ?_
        have gx1 := (M.ite_some gx1).2 hb1
        obtain ⟨x2, hx1, gx1⟩ := M.bind_some gx1
        have gx1 := M.ret_some gx1
        refine QRun_b [.int .i64 a_] 3 _ (by kernel_rfl) (fun w => by kernel_rfl) ?_
        refine QRun_y (.bool x2) (by kernel_rfl) (Y_callq (f := 169) (args := #[.int .i64 a_]) (v := .bool x2) (by kernel_rfl) (w_spec_l01Finite h a_ _ _ hx1)) ?_
        refine QRun_bool x2 x1 (by kernel_rfl) (fun w => by kernel_rfl) gx1 ?_
        exact QRun_done [8] (by kernel_rfl) (by kernel_rfl)
    refine QRun_b [.bool x1] 6 _ (by kernel_rfl) (fun w => by kernel_rfl) ?_
    exact QRun_done [2] (by kernel_rfl) (by kernel_rfl)
  have hF := M.ret_some hF
  subst hF
  exact Run_ret1 rfl (ResV_tmp (v := .bool x1) (by kernel_rfl)) ⟨rfl, rfl⟩

set_option maxRecDepth 100000 in
set_option maxHeartbeats 4000000 in
theorem w_spec_l01All (h : Heap) (list : List Int) {Slist : Bs} (alist : Option Addr) (clist : Nat) (rlist : Rd cd2 h Slist alist clist list) (finite : Bool) (n : Nat) (r : Bool) (hF : spec_l01All list finite n = some r) :
    Fn Try.prog 87 #[.slice alist list.length clist, .bool finite] h fun v h' => v = .bool r ∧ h' = h := by
  unfold spec_l01All at hF
  refine Fn_enter (args := [.slice alist list.length clist, .bool finite]) Try.func87 rfl (by kernel_rfl) (by kernel_rfl) (fun w0 _ => ?_)
  refine Run_seq ?_
  refine Run_reg 1 (by kernel_rfl) (L' := [(0, .slice alist list.length clist), (1, .bool finite)]) ?_ ?_
  · refine QRun_b [.bool false] 0 _ (by kernel_rfl) (fun w => by kernel_rfl) ?_
    exact QRun_done [0, 1] (by kernel_rfl) (by kernel_rfl)
  refine Run_seq ?_
  refine Run_seq ?_
  refine Run_reg 1 (by kernel_rfl) (L' := [(0, .slice alist list.length clist), (1, .bool finite), (5, .int .i64 0)]) ?_ ?_
  · refine QRun_b [.int .i64 0] 0 _ (by kernel_rfl) (fun w => by kernel_rfl) ?_
    exact QRun_done [0, 1, 5] (by kernel_rfl) (by kernel_rfl)
  obtain ⟨x1, gx1, hF⟩ := M.bind_some hF
  obtain ⟨hloy1, hhiy1, gx1⟩ := M.for_start gx1
  refine Run_join (fun L' h' => ∃ (s2 : Unit), x1 = .inl s2 ∧ L' = [] ∧ h = h') ?_ ?_
  · rintro _ _ ⟨s2, es2, rfl, rfl⟩
    have hF := M.cont_inl' hF es2
    refine Run_seq ?_
    refine Run_reg 1 (by kernel_rfl) (L' := [(4, .bool true)]) ?_ ?_
    · refine QRun_b [.bool true] 0 _ (by kernel_rfl) (fun w => by kernel_rfl) ?_
      exact QRun_done [4] (by kernel_rfl) (by kernel_rfl)
    have hF := M.ret_some hF
    subst hF
    exact Run_ret1 rfl (ResV_tmp (v := .bool true) (by kernel_rfl)) ⟨rfl, rfl⟩
  · refine Run_block ?_
    refine Run_keep [0, 1, 5] (L' := [(0, .slice alist list.length clist), (1, .bool finite), (5, .int .i64 0)]) (by kernel_rfl) ?_
    refine Run_loop (fun m L' h' => ∃ (i1 : Int) (s1 : Unit), 0 ≤ i1 ∧ M.forN (list.length : Int) _ _ n m i1 s1 = some x1 ∧ L' = [(0, .slice alist list.length clist), (1, .bool finite), (5, .int .i64 i1)] ∧ h = h') ((list.length : Int) - 0 : Int).toNat ⟨0, (), Int.le_refl _, gx1, rfl, rfl⟩ ?_
    rintro my1 _ _ ⟨i1, s1, hloy1', gx1, rfl, rfl⟩
    refine Run_seq ?_
    refine Run_seq ?_
    refine Run_reg 4 (by kernel_rfl) (L' := [(0, .slice alist list.length clist), (1, .bool finite), (5, .int .i64 i1), (9, .bool (decide (i1 < (list.length : Int))))]) ?_ ?_
    · refine QRun_b [.int .i64 i1, .slice alist list.length clist, .int .i64 (list.length : Int), .bool (decide (i1 < (list.length : Int)))] 0 _ (by kernel_rfl) (fun w => by kernel_rfl) ?_
      exact QRun_done [0, 1, 5, 9] (by kernel_rfl) (by kernel_rfl)
    refine Run_cond (b := decide (i1 < (list.length : Int))) (by kernel_rfl) (fun hb1 => ?_) (fun hb1 => ?_)
    · obtain ⟨my1, y1, rfl, hB1, hgoy1, houty1⟩ := M.for_go gx1 hb1
      have hlty1 := of_decide_eq_true hb1
      refine Run_skip ?_
      refine Run_seq ?_
      refine Run_block ?_
      refine Run_seq ?_
      obtain ⟨x2, hx1, hB1⟩ := M.bind_some hB1
      obtain ⟨hx1l, hx1u, hx1⟩ := M.idx_some hx1
      obtain ⟨x3, hx2, hB1⟩ := M.bind_some hB1
      obtain ⟨x4, gx4, hB1⟩ := M.bind_some hB1
      refine Run_reg 16 (by kernel_rfl) (L' := [(0, .slice alist list.length clist), (1, .bool finite), (5, .int .i64 i1), (27, .bool x4)]) ?_ ?_
      · refine QRun_b [.slice alist list.length clist, .int .i64 i1] 0 _ (by kernel_rfl) (fun w => by kernel_rfl) ?_
        refine QRun_y (.pointer (some (adr alist (i1.toNat * 1)))) (by kernel_rfl) (Y_idx (t := 39) (e := 2) (sz := 1) (a := alist) (n := list.length) (cap := clist) (kk := .i64) (i := i1) (by kernel_rfl) Try.underlying39 (by kernel_rfl) (rlist.cell hx1).1 hx1l hx1u) ?_
        refine QRun_y (.int .i64 x2) (by kernel_rfl) (Y_load1 (t := 2) (p := adr alist (i1.toNat * 1)) (v := .int .i64 x2) (by kernel_rfl) (fun w => by kernel_rfl) (cd2_cell rlist hx1)) ?_
        refine QRun_y (.bool x3) (by kernel_rfl) (Y_callq (f := 153) (args := #[.int .i64 x2]) (v := .bool x3) (by kernel_rfl) (w_spec_IsValue h x2 _ _ hx2)) ?_
        refine QRun_b [.bool (!x3)] 5 _ (by kernel_rfl) (fun w => by kernel_rfl) ?_
        refine QRun_seq 16 [(0, .slice alist list.length clist), (1, .bool finite), (5, .int .i64 i1), (27, .bool x4)] ?_ ?_
        · rcases Bool.eq_false_or_eq_true (!x3) with hb2 | hb2
          · refine QRun_bool (!x3) true (by kernel_rfl) (fun w => by kernel_rfl) hb2 ?_
            have gx4 := M.ret_some ((M.ite_some gx4).1 hb2)
            refine QRun_n (by kernel_rfl) ?_
            refine QRun_n (by kernel_rfl) ?_
            refine QRun_n (by kernel_rfl) ?_
            refine QRun_n (by kernel_rfl) ?_
            refine QRun_n (by kernel_rfl) ?_
            refine QRun_n (by kernel_rfl) ?_
            refine QRun_n (by kernel_rfl) ?_
            refine QRun_n (by kernel_rfl) ?_
            refine QRun_bool true x4 (by kernel_rfl) (fun w => by kernel_rfl) gx4 ?_
            exact QRun_done [0, 1, 5, 27] (by kernel_rfl) (by kernel_rfl)
          · refine QRun_bool (!x3) false (by kernel_rfl) (fun w => by kernel_rfl) hb2 ?_
            have gx4 := (M.ite_some gx4).2 hb2
            obtain ⟨x5, gx5, gx4⟩ := M.bind_some gx4
            have gx4 := M.ret_some gx4
            refine QRun_b [.bool finite] 7 _ (by kernel_rfl) (fun w => by kernel_rfl) ?_
            refine QRun_seq 15 [(0, .slice alist list.length clist), (1, .bool finite), (5, .int .i64 i1), (18, .bool false), (26, .bool x5)] ?_ ?_
            · rcases Bool.eq_false_or_eq_true finite with hb3 | hb3
              · refine QRun_bool finite true (by kernel_rfl) (fun w => by kernel_rfl) hb3 ?_
                have gx5 := (M.ite_some gx5).1 hb3
                obtain ⟨x6, hx3, gx5⟩ := M.bind_some gx5
                obtain ⟨hx3l, hx3u, hx3⟩ := M.idx_some hx3
                have gx5 := M.ret_some gx5
                refine QRun_b [.slice alist list.length clist, .int .i64 i1] 9 _ (by kernel_rfl) (fun w => by kernel_rfl) ?_
                refine QRun_y (.pointer (some (adr alist (i1.toNat * 1)))) (by kernel_rfl) (Y_idx (t := 39) (e := 2) (sz := 1) (a := alist) (n := list.length) (cap := clist) (kk := .i64) (i := i1) (by kernel_rfl) Try.underlying39 (by kernel_rfl) (rlist.cell hx3).1 hx3l hx3u) ?_
                refine QRun_y (.int .i64 x6) (by kernel_rfl) (Y_load1 (t := 2) (p := adr alist (i1.toNat * 1)) (v := .int .i64 x6) (by kernel_rfl) (fun w => by kernel_rfl) (cd2_cell rlist hx3)) ?_
                refine QRun_b [.bool (x6 == (-1000000000000000))] 13 _ (by kernel_rfl) (fun w => by kernel_rfl) ?_
                refine QRun_bool (x6 == (-1000000000000000)) x5 (by kernel_rfl) (fun w => by kernel_rfl) gx5 ?_
                exact QRun_done [0, 1, 5, 18, 26] (by kernel_rfl) (by kernel_rfl)
              · refine QRun_bool finite false (by kernel_rfl) (fun w => by kernel_rfl) hb3 ?_
                have gx5 := M.ret_some ((M.ite_some gx5).2 hb3)
                refine QRun_n (by kernel_rfl) ?_
                refine QRun_n (by kernel_rfl) ?_
                refine QRun_n (by kernel_rfl) ?_
                refine QRun_n (by kernel_rfl) ?_
                refine QRun_n (by kernel_rfl) ?_
                refine QRun_bool false x5 (by kernel_rfl) (fun w => by kernel_rfl) gx5 ?_
                exact QRun_done [0, 1, 5, 18, 26] (by kernel_rfl) (by kernel_rfl)
            refine QRun_bool x5 x4 (by kernel_rfl) (fun w => by kernel_rfl) gx4 ?_
            exact QRun_done [0, 1, 5, 27] (by kernel_rfl) (by kernel_rfl)
        exact QRun_done [0, 1, 5, 27] (by kernel_rfl) (by kernel_rfl)
      refine Run_cond (b := x4) (by kernel_rfl) (fun hb4 => ?_) (fun hb4 => ?_)
      · have hB1 := (M.ite_some hB1).1 hb4
        refine Run_seq ?_
        refine Run_reg 1 (by kernel_rfl) (L' := [(4, .bool false)]) ?_ ?_
        · refine QRun_b [.bool false] 0 _ (by kernel_rfl) (fun w => by kernel_rfl) ?_
          exact QRun_done [4] (by kernel_rfl) (by kernel_rfl)
        have hB1 := M.ret_some hB1
        have gx1 := houty1 _ hB1.symm
        have hF := M.cont_inr' hF gx1
        have hF := M.ret_some hF
        subst hF
        exact Run_ret1 rfl (ResV_tmp (v := .bool false) (by kernel_rfl)) ⟨rfl, rfl⟩
      · have hB1 := (M.ite_some hB1).2 hb4
        refine Run_skip ?_
        refine Run_blk ?_
        refine Run_reg 3 (by kernel_rfl) (L' := [(0, .slice alist list.length clist), (1, .bool finite), (5, .int .i64 (i1 + 1))]) ?_ ?_
        · refine QRun_b [.int .i64 i1] 0 _ (by kernel_rfl) (fun w => by kernel_rfl) ?_
          refine QRun_y (.int .i64 (i1 + 1)) (by kernel_rfl) (Y_eq (v := .int .i64 (w64 (i1 + 1))) (Y_pure (fun w => by kernel_rfl)) (by rw [w64_eq _ (by omega)])) ?_
          refine QRun_b [.int .i64 (i1 + 1)] 2 _ (by kernel_rfl) (fun w => by kernel_rfl) ?_
          exact QRun_done [0, 1, 5] (by kernel_rfl) (by kernel_rfl)
        have hB1 := M.ret_some hB1
        have gx1 := hgoy1 _ hB1.symm
        exact Run_again [0, 1, 5] (by kernel_rfl) my1 (Nat.lt_succ_self _) ⟨i1 + 1, (), by omega, gx1, rfl, rfl⟩
    · have gx1 := M.for_end gx1 hb1
      subst gx1
      refine Run_exit (k' := _) rfl ?_
      exact Run_fall [] (by kernel_rfl) ⟨(), rfl, rfl, rfl⟩

set_option maxRecDepth 100000 in
set_option maxHeartbeats 4000000 in
theorem w_spec_l02Vector (h : Heap) (x_ : List Int) {Sx_ : Bs} (ax_ : Option Addr) (cx_ : Nat) (rx_ : Rd cd2 h Sx_ ax_ cx_ x_) (n : Nat) (r : Bool) (hF : spec_l02Vector x_ n = some r) :
    Fn Try.prog 175 #[.slice ax_ x_.length cx_] h fun v h' => v = .bool r ∧ h' = h := by
  unfold spec_l02Vector at hF
  refine Fn_enter (args := [.slice ax_ x_.length cx_]) Try.func175 rfl (by kernel_rfl) (by kernel_rfl) (fun w0 _ => ?_)
  refine Run_seq ?_
  refine Run_reg 1 (by kernel_rfl) (L' := [(0, .slice ax_ x_.length cx_)]) ?_ ?_
  · refine QRun_b [.bool false] 0 _ (by kernel_rfl) (fun w => by kernel_rfl) ?_
    exact QRun_done [0] (by kernel_rfl) (by kernel_rfl)
  refine Run_seq ?_
  obtain ⟨x1, hx1, hF⟩ := M.bind_some hF
  obtain ⟨x2, gx2, hF⟩ := M.bind_some hF
  refine Run_reg 8 (by kernel_rfl) (L' := [(2, .bool x2)]) ?_ ?_
  · refine QRun_b [.slice ax_ x_.length cx_, .int .i64 (x_.length : Int)] 0 _ (by kernel_rfl) (fun w => by kernel_rfl) ?_
    refine QRun_y (.bool x1) (by kernel_rfl) (Y_callq (f := 78) (args := #[.int .i64 (x_.length : Int), .int .i64 1, .int .i64 10]) (v := .bool x1) (by kernel_rfl) (w_spec_l01In h (x_.length : Int) 1 10 _ _ hx1)) ?_
    refine QRun_seq 7 [(9, .bool x2)] ?_ ?_
    · rcases Bool.eq_false_or_eq_true x1 with hb1 | hb1
      · refine QRun_bool x1 true (by kernel_rfl) (fun w => by kernel_rfl) hb1 ?_
        have gx2 := (M.ite_some gx2).1 hb1
        obtain ⟨x3, hx2, gx2⟩ := M.bind_some gx2
        have gx2 := M.ret_some gx2
        refine QRun_b [.slice ax_ x_.length cx_] 4 _ (by kernel_rfl) (fun w => by kernel_rfl) ?_
        refine QRun_y (.bool x3) (by kernel_rfl) (Y_callq (f := 87) (args := #[.slice ax_ x_.length cx_, .bool false]) (v := .bool x3) (by kernel_rfl) (w_spec_l01All h x_ ax_ cx_ rx_ false _ _ hx2)) ?_
        refine QRun_bool x3 x2 (by kernel_rfl) (fun w => by kernel_rfl) gx2 ?_
        exact QRun_done [9] (by kernel_rfl) (by kernel_rfl)
      · refine QRun_bool x1 false (by kernel_rfl) (fun w => by kernel_rfl) hb1 ?_
        have gx2 := M.ret_some ((M.ite_some gx2).2 hb1)
        refine QRun_n (by kernel_rfl) ?_
        refine QRun_n (by kernel_rfl) ?_
        refine QRun_bool false x2 (by kernel_rfl) (fun w => by kernel_rfl) gx2 ?_
        exact QRun_done [9] (by kernel_rfl) (by kernel_rfl)
    refine QRun_b [.bool x2] 7 _ (by kernel_rfl) (fun w => by kernel_rfl) ?_
    exact QRun_done [2] (by kernel_rfl) (by kernel_rfl)
  have hF := M.ret_some hF
  subst hF
  exact Run_ret1 rfl (ResV_tmp (v := .bool x2) (by kernel_rfl)) ⟨rfl, rfl⟩

set_option maxRecDepth 100000 in
set_option maxHeartbeats 4000000 in
theorem w_spec_IsMatrix (h : Heap) (a_ : List (List Int)) {Sa_ : Bs} (aa_ : Option Addr) (ca_ : Nat) (ra_ : Rd cd39 h Sa_ aa_ ca_ a_) (n : Nat) (r : Bool) (hF : spec_IsMatrix a_ n = some r) :
    Fn Try.prog 148 #[.slice aa_ a_.length ca_] h fun v h' => v = .bool r ∧ h' = h := by
  unfold spec_IsMatrix at hF
  refine Fn_enter (args := [.slice aa_ a_.length ca_]) Try.func148 rfl (by kernel_rfl) (by kernel_rfl) (fun w0 _ => ?_)
  refine Run_seq ?_
  refine Run_reg 1 (by kernel_rfl) (L' := [(0, .slice aa_ a_.length ca_)]) ?_ ?_
  · refine QRun_b [.bool false] 0 _ (by kernel_rfl) (fun w => by kernel_rfl) ?_
    exact QRun_done [0] (by kernel_rfl) (by kernel_rfl)
  refine Run_seq ?_
  refine Run_seq ?_
  refine Run_reg 8 (by kernel_rfl) (L' := [(0, .slice aa_ a_.length ca_), (11, .bool ((decide ((a_.length : Int) < 1)) || (decide (10 < (a_.length : Int)))))]) ?_ ?_
  · refine QRun_b [.slice aa_ a_.length ca_, .int .i64 (a_.length : Int), .bool (decide ((a_.length : Int) < 1))] 0 _ (by kernel_rfl) (fun w => by kernel_rfl) ?_
    refine QRun_seq 8 [(0, .slice aa_ a_.length ca_), (11, .bool ((decide ((a_.length : Int) < 1)) || (decide (10 < (a_.length : Int)))))] ?_ ?_
    · rcases Bool.eq_false_or_eq_true (decide ((a_.length : Int) < 1)) with hb1 | hb1
      · refine QRun_bool (decide ((a_.length : Int) < 1)) true (by kernel_rfl) (fun w => by kernel_rfl) hb1 ?_
        refine QRun_n (by kernel_rfl) ?_
        refine QRun_n (by kernel_rfl) ?_
        refine QRun_n (by kernel_rfl) ?_
        refine QRun_bool true ((decide ((a_.length : Int) < 1)) || (decide (10 < (a_.length : Int)))) (by kernel_rfl) (fun w => by kernel_rfl) (by rw [hb1]; rfl) ?_
        exact QRun_done [0, 11] (by kernel_rfl) (by kernel_rfl)
      · refine QRun_bool (decide ((a_.length : Int) < 1)) false (by kernel_rfl) (fun w => by kernel_rfl) hb1 ?_
        refine QRun_b [.slice aa_ a_.length ca_, .int .i64 (a_.length : Int), .bool (decide (10 < (a_.length : Int)))] 4 _ (by kernel_rfl) (fun w => by kernel_rfl) ?_
        refine QRun_bool (decide (10 < (a_.length : Int))) ((decide ((a_.length : Int) < 1)) || (decide (10 < (a_.length : Int)))) (by kernel_rfl) (fun w => by kernel_rfl) (by rw [hb1]; rfl) ?_
        exact QRun_done [0, 11] (by kernel_rfl) (by kernel_rfl)
    exact QRun_done [0, 11] (by kernel_rfl) (by kernel_rfl)
  refine Run_cond (b := (decide ((a_.length : Int) < 1)) || (decide (10 < (a_.length : Int)))) (by kernel_rfl) (fun hb2 => ?_) (fun hb2 => ?_)
  · have hF := (M.ite_some hF).1 hb2
    refine Run_seq ?_
    refine Run_reg 1 (by kernel_rfl) (L' := [(2, .bool false)]) ?_ ?_
    · refine QRun_b [.bool false] 0 _ (by kernel_rfl) (fun w => by kernel_rfl) ?_
      exact QRun_done [2] (by kernel_rfl) (by kernel_rfl)
    have hF := M.ret_some hF
    subst hF
    exact Run_ret1 rfl (ResV_tmp (v := .bool false) (by kernel_rfl)) ⟨rfl, rfl⟩
  · have hF := (M.ite_some hF).2 hb2
    refine Run_skip ?_
    refine Run_seq ?_
    refine Run_seq ?_
    refine Run_reg 1 (by kernel_rfl) (L' := [(0, .slice aa_ a_.length ca_), (3, .int .i64 0)]) ?_ ?_
    · refine QRun_b [.int .i64 0] 0 _ (by kernel_rfl) (fun w => by kernel_rfl) ?_
      exact QRun_done [0, 3] (by kernel_rfl) (by kernel_rfl)
    obtain ⟨x2, gx2, hF⟩ := M.bind_some hF
    obtain ⟨hloy1, hhiy1, gx2⟩ := M.for_start gx2
    refine Run_join (fun L' h' => ∃ (s2 : Unit), x2 = .inl s2 ∧ L' = [] ∧ h = h') ?_ ?_
    · rintro _ _ ⟨s2, es2, rfl, rfl⟩
      have hF := M.cont_inl' hF es2
      refine Run_seq ?_
      refine Run_reg 1 (by kernel_rfl) (L' := [(2, .bool true)]) ?_ ?_
      · refine QRun_b [.bool true] 0 _ (by kernel_rfl) (fun w => by kernel_rfl) ?_
        exact QRun_done [2] (by kernel_rfl) (by kernel_rfl)
      have hF := M.ret_some hF
      subst hF
      exact Run_ret1 rfl (ResV_tmp (v := .bool true) (by kernel_rfl)) ⟨rfl, rfl⟩
    · refine Run_block ?_
      refine Run_keep [0, 3] (L' := [(0, .slice aa_ a_.length ca_), (3, .int .i64 0)]) (by kernel_rfl) ?_
      refine Run_loop (fun m L' h' => ∃ (i1 : Int) (s1 : Unit), 0 ≤ i1 ∧ M.forN (a_.length : Int) _ _ n m i1 s1 = some x2 ∧ L' = [(0, .slice aa_ a_.length ca_), (3, .int .i64 i1)] ∧ h = h') ((a_.length : Int) - 0 : Int).toNat ⟨0, (), Int.le_refl _, gx2, rfl, rfl⟩ ?_
      rintro my1 _ _ ⟨i1, s1, hloy1', gx2, rfl, rfl⟩
      refine Run_seq ?_
      refine Run_seq ?_
      refine Run_reg 4 (by kernel_rfl) (L' := [(0, .slice aa_ a_.length ca_), (3, .int .i64 i1), (15, .bool (decide (i1 < (a_.length : Int))))]) ?_ ?_
      · refine QRun_b [.int .i64 i1, .slice aa_ a_.length ca_, .int .i64 (a_.length : Int), .bool (decide (i1 < (a_.length : Int)))] 0 _ (by kernel_rfl) (fun w => by kernel_rfl) ?_
        exact QRun_done [0, 3, 15] (by kernel_rfl) (by kernel_rfl)
      refine Run_cond (b := decide (i1 < (a_.length : Int))) (by kernel_rfl) (fun hb3 => ?_) (fun hb3 => ?_)
      · obtain ⟨my1, y1, rfl, hB1, hgoy1, houty1⟩ := M.for_go gx2 hb3
        have hlty1 := of_decide_eq_true hb3
        refine Run_skip ?_
        refine Run_seq ?_
        refine Run_block ?_
        refine Run_seq ?_
        obtain ⟨x3, hx1, hB1⟩ := M.bind_some hB1
        obtain ⟨hx1l, hx1u, hx1⟩ := M.idx_some hx1
        obtain ⟨a1, c1, hc1, r1⟩ := ra_.row hx1
        obtain ⟨x4, hx2, hB1⟩ := M.bind_some hB1
        obtain ⟨x5, gx5, hB1⟩ := M.bind_some hB1
        refine Run_draw 18 mixed (by kernel_rfl) (by kernel_rfl) (L' := [(0, .slice aa_ a_.length ca_), (3, .int .i64 i1), (35, .bool x5)]) ?_ ?_
        · refine QRun_b [.slice aa_ a_.length ca_, .int .i64 i1] 0 _ (by kernel_rfl) (fun w => by kernel_rfl) ?_
          refine QRun_y (.pointer (some (adr aa_ (i1.toNat * 1)))) (by kernel_rfl) (Y_idx (t := 37) (e := 39) (sz := 1) (a := aa_) (n := a_.length) (cap := ca_) (kk := .i64) (i := i1) (by kernel_rfl) Try.underlying37 (by kernel_rfl) (ra_.cell hx1).1 hx1l hx1u) ?_
          refine QRun_y (.slice a1 x3.length c1) (by kernel_rfl) (Y_load1 (t := 39) (p := adr aa_ (i1.toNat * 1)) (v := .slice a1 x3.length c1) (by kernel_rfl) (fun w => by kernel_rfl) hc1) ?_
          refine QRun_y (.bool x4) (by kernel_rfl) (Y_callq (f := 175) (args := #[.slice a1 x3.length c1]) (v := .bool x4) (by kernel_rfl) (w_spec_l02Vector h x3 a1 c1 r1 _ _ hx2)) ?_
          refine QRun_b [.bool (!x4)] 5 _ (by kernel_rfl) (fun w => by kernel_rfl) ?_
          refine QRun_seq 18 [(0, .slice aa_ a_.length ca_), (3, .int .i64 i1), (35, .bool x5)] ?_ ?_
          · rcases Bool.eq_false_or_eq_true (!x4) with hb4 | hb4
            · refine QRun_bool (!x4) true (by kernel_rfl) (fun w => by kernel_rfl) hb4 ?_
              have gx5 := M.ret_some ((M.ite_some gx5).1 hb4)
              refine QRun_n (by kernel_rfl) ?_
              refine QRun_n (by kernel_rfl) ?_
              refine QRun_n (by kernel_rfl) ?_
              refine QRun_n (by kernel_rfl) ?_
              refine QRun_n (by kernel_rfl) ?_
              refine QRun_n (by kernel_rfl) ?_
              refine QRun_n (by kernel_rfl) ?_
              refine QRun_n (by kernel_rfl) ?_
              refine QRun_n (by kernel_rfl) ?_
              refine QRun_n (by kernel_rfl) ?_
              refine QRun_bool true x5 (by kernel_rfl) (fun w => by kernel_rfl) gx5 ?_
              exact QRun_done [0, 3, 35] (by kernel_rfl) (by kernel_rfl)
            · refine QRun_bool (!x4) false (by kernel_rfl) (fun w => by kernel_rfl) hb4 ?_
              have gx5 := (M.ite_some gx5).2 hb4
              obtain ⟨x6, hx3, gx5⟩ := M.bind_some gx5
              obtain ⟨hx3l, hx3u, hx3⟩ := M.idx_some hx3
              obtain ⟨a2, c2, hc2, r2⟩ := ra_.row hx3
              obtain ⟨x7, hx4, gx5⟩ := M.bind_some gx5
              obtain ⟨hx4l, hx4u, hx4⟩ := M.idx_some hx4
              obtain ⟨a3, c3, hc3, r3⟩ := ra_.row hx4
              have gx5 := M.ret_some gx5
              refine QRun_b [.slice aa_ a_.length ca_, .int .i64 i1] 7 _ (by kernel_rfl) (fun w => by kernel_rfl) ?_
              refine QRun_y (.pointer (some (adr aa_ (i1.toNat * 1)))) (by kernel_rfl) (Y_idx (t := 37) (e := 39) (sz := 1) (a := aa_) (n := a_.length) (cap := ca_) (kk := .i64) (i := i1) (by kernel_rfl) Try.underlying37 (by kernel_rfl) (ra_.cell hx3).1 hx3l hx3u) ?_
              refine QRun_y (.slice a2 x6.length c2) (by kernel_rfl) (Y_load1 (t := 39) (p := adr aa_ (i1.toNat * 1)) (v := .slice a2 x6.length c2) (by kernel_rfl) (fun w => by kernel_rfl) hc2) ?_
              refine QRun_b [.int .i64 (x6.length : Int), .slice aa_ a_.length ca_] 11 _ (by kernel_rfl) (fun w => by kernel_rfl) ?_
              refine QRun_y (.pointer (some (adr aa_ (0 * 1)))) (by kernel_rfl) (Y_idx (t := 37) (e := 39) (sz := 1) (a := aa_) (n := a_.length) (cap := ca_) (kk := .i64) (i := 0) (by kernel_rfl) Try.underlying37 (by kernel_rfl) (ra_.cell hx4).1 hx4l hx4u) ?_
              refine QRun_y (.slice a3 x7.length c3) (by kernel_rfl) (Y_load1 (t := 39) (p := adr aa_ (0 * 1)) (v := .slice a3 x7.length c3) (by kernel_rfl) (fun w => by kernel_rfl) hc3) ?_
              refine QRun_b [.int .i64 (x7.length : Int), .bool ((x6.length : Int) != (x7.length : Int))] 15 _ (by kernel_rfl) (fun w => by kernel_rfl) ?_
              refine QRun_bool ((x6.length : Int) != (x7.length : Int)) x5 (by kernel_rfl) (fun w => by kernel_rfl) gx5 ?_
              exact QRun_done [0, 3, 35] (by kernel_rfl) (by kernel_rfl)
          exact QRun_done [0, 3, 35] (by kernel_rfl) (by kernel_rfl)
        refine Run_cond (b := x5) (by kernel_rfl) (fun hb5 => ?_) (fun hb5 => ?_)
        · have hB1 := (M.ite_some hB1).1 hb5
          refine Run_seq ?_
          refine Run_reg 1 (by kernel_rfl) (L' := [(2, .bool false)]) ?_ ?_
          · refine QRun_b [.bool false] 0 _ (by kernel_rfl) (fun w => by kernel_rfl) ?_
            exact QRun_done [2] (by kernel_rfl) (by kernel_rfl)
          have hB1 := M.ret_some hB1
          have gx2 := houty1 _ hB1.symm
          have hF := M.cont_inr' hF gx2
          have hF := M.ret_some hF
          subst hF
          exact Run_ret1 rfl (ResV_tmp (v := .bool false) (by kernel_rfl)) ⟨rfl, rfl⟩
        · have hB1 := (M.ite_some hB1).2 hb5
          refine Run_skip ?_
          refine Run_blk ?_
          refine Run_reg 3 (by kernel_rfl) (L' := [(0, .slice aa_ a_.length ca_), (3, .int .i64 (i1 + 1))]) ?_ ?_
          · refine QRun_b [.int .i64 i1] 0 _ (by kernel_rfl) (fun w => by kernel_rfl) ?_
            refine QRun_y (.int .i64 (i1 + 1)) (by kernel_rfl) (Y_eq (v := .int .i64 (w64 (i1 + 1))) (Y_pure (fun w => by kernel_rfl)) (by rw [w64_eq _ (by omega)])) ?_
            refine QRun_b [.int .i64 (i1 + 1)] 2 _ (by kernel_rfl) (fun w => by kernel_rfl) ?_
            exact QRun_done [0, 3] (by kernel_rfl) (by kernel_rfl)
          have hB1 := M.ret_some hB1
          have gx2 := hgoy1 _ hB1.symm
          exact Run_again [0, 3] (by kernel_rfl) my1 (Nat.lt_succ_self _) ⟨i1 + 1, (), by omega, gx2, rfl, rfl⟩
      · have gx2 := M.for_end gx2 hb3
        subst gx2
        refine Run_exit (k' := _) rfl ?_
        exact Run_fall [] (by kernel_rfl) ⟨(), rfl, rfl, rfl⟩

set_option maxRecDepth 100000 in
set_option maxHeartbeats 4000000 in
theorem w_spec_l02Square (h : Heap) (a_ : List (List Int)) {Sa_ : Bs} (aa_ : Option Addr) (ca_ : Nat) (ra_ : Rd cd39 h Sa_ aa_ ca_ a_) (n : Nat) (r : Bool) (hF : spec_l02Square a_ n = some r) :
    Fn Try.prog 82 #[.slice aa_ a_.length ca_] h fun v h' => v = .bool r ∧ h' = h := by
  unfold spec_l02Square at hF
  refine Fn_enter (args := [.slice aa_ a_.length ca_]) Try.func82 rfl (by kernel_rfl) (by kernel_rfl) (fun w0 _ => ?_)
  refine Run_seq ?_
  refine Run_reg 1 (by kernel_rfl) (L' := [(0, .slice aa_ a_.length ca_)]) ?_ ?_
  · refine QRun_b [.bool false] 0 _ (by kernel_rfl) (fun w => by kernel_rfl) ?_
    exact QRun_done [0] (by kernel_rfl) (by kernel_rfl)
  refine Run_seq ?_
  obtain ⟨x1, hx1, hF⟩ := M.bind_some hF
  obtain ⟨x2, gx2, hF⟩ := M.bind_some hF
  refine Run_reg 12 (by kernel_rfl) (L' := [(2, .bool x2)]) ?_ ?_
  · refine QRun_b [.slice aa_ a_.length ca_] 0 _ (by kernel_rfl) (fun w => by kernel_rfl) ?_
    refine QRun_y (.bool x1) (by kernel_rfl) (Y_callq (f := 148) (args := #[.slice aa_ a_.length ca_]) (v := .bool x1) (by kernel_rfl) (w_spec_IsMatrix h a_ aa_ ca_ ra_ _ _ hx1)) ?_
    refine QRun_seq 11 [(13, .bool x2)] ?_ ?_
    · rcases Bool.eq_false_or_eq_true x1 with hb1 | hb1
      · refine QRun_bool x1 true (by kernel_rfl) (fun w => by kernel_rfl) hb1 ?_
        have gx2 := (M.ite_some gx2).1 hb1
        obtain ⟨x3, hx2, gx2⟩ := M.bind_some gx2
        obtain ⟨hx2l, hx2u, hx2⟩ := M.idx_some hx2
        obtain ⟨a1, c1, hc1, r1⟩ := ra_.row hx2
        have gx2 := M.ret_some gx2
        refine QRun_b [.slice aa_ a_.length ca_, .int .i64 (a_.length : Int), .slice aa_ a_.length ca_] 3 _ (by kernel_rfl) (fun w => by kernel_rfl) ?_
        refine QRun_y (.pointer (some (adr aa_ (0 * 1)))) (by kernel_rfl) (Y_idx (t := 37) (e := 39) (sz := 1) (a := aa_) (n := a_.length) (cap := ca_) (kk := .i64) (i := 0) (by kernel_rfl) Try.underlying37 (by kernel_rfl) (ra_.cell hx2).1 hx2l hx2u) ?_
        refine QRun_y (.slice a1 x3.length c1) (by kernel_rfl) (Y_load1 (t := 39) (p := adr aa_ (0 * 1)) (v := .slice a1 x3.length c1) (by kernel_rfl) (fun w => by kernel_rfl) hc1) ?_
        refine QRun_b [.int .i64 (x3.length : Int), .bool ((a_.length : Int) == (x3.length : Int))] 8 _ (by kernel_rfl) (fun w => by kernel_rfl) ?_
        refine QRun_bool ((a_.length : Int) == (x3.length : Int)) x2 (by kernel_rfl) (fun w => by kernel_rfl) gx2 ?_
        exact QRun_done [13] (by kernel_rfl) (by kernel_rfl)
      · refine QRun_bool x1 false (by kernel_rfl) (fun w => by kernel_rfl) hb1 ?_
        have gx2 := M.ret_some ((M.ite_some gx2).2 hb1)
        refine QRun_n (by kernel_rfl) ?_
        refine QRun_n (by kernel_rfl) ?_
        refine QRun_n (by kernel_rfl) ?_
        refine QRun_n (by kernel_rfl) ?_
        refine QRun_n (by kernel_rfl) ?_
        refine QRun_n (by kernel_rfl) ?_
        refine QRun_n (by kernel_rfl) ?_
        refine QRun_bool false x2 (by kernel_rfl) (fun w => by kernel_rfl) gx2 ?_
        exact QRun_done [13] (by kernel_rfl) (by kernel_rfl)
    refine QRun_b [.bool x2] 11 _ (by kernel_rfl) (fun w => by kernel_rfl) ?_
    exact QRun_done [2] (by kernel_rfl) (by kernel_rfl)
  have hF := M.ret_some hF
  subst hF
  exact Run_ret1 rfl (ResV_tmp (v := .bool x2) (by kernel_rfl)) ⟨rfl, rfl⟩

set_option maxRecDepth 100000 in
set_option maxHeartbeats 4000000 in
theorem w_spec_l01Times (h : Heap) (a_ : Int) (b : Int) (n : Nat) (r : Int) (hF : spec_l01Times a_ b n = some r) :
    Fn Try.prog 117 #[.int .i64 a_, .int .i64 b] h fun v h' => v = .int .i64 r ∧ h' = h := by
  unfold spec_l01Times at hF
  refine Fn_enter (args := [.int .i64 a_, .int .i64 b]) Try.func117 rfl (by kernel_rfl) (by kernel_rfl) (fun w0 _ => ?_)
  refine Run_seq ?_
  refine Run_reg 1 (by kernel_rfl) (L' := [(0, .int .i64 a_), (1, .int .i64 b)]) ?_ ?_
  · refine QRun_b [.int .i64 0] 0 _ (by kernel_rfl) (fun w => by kernel_rfl) ?_
    exact QRun_done [0, 1] (by kernel_rfl) (by kernel_rfl)
  refine Run_seq ?_
  refine Run_seq ?_
  refine Run_reg 6 (by kernel_rfl) (L' := [(0, .int .i64 a_), (1, .int .i64 b), (10, .bool ((a_ == (-1000000000000000)) || (b == (-1000000000000000))))]) ?_ ?_
  · refine QRun_b [.int .i64 a_, .bool (a_ == (-1000000000000000))] 0 _ (by kernel_rfl) (fun w => by kernel_rfl) ?_
    refine QRun_seq 6 [(0, .int .i64 a_), (1, .int .i64 b), (10, .bool ((a_ == (-1000000000000000)) || (b == (-1000000000000000))))] ?_ ?_
    · rcases Bool.eq_false_or_eq_true (a_ == (-1000000000000000)) with hb1 | hb1
      · refine QRun_bool (a_ == (-1000000000000000)) true (by kernel_rfl) (fun w => by kernel_rfl) hb1 ?_
        refine QRun_n (by kernel_rfl) ?_
        refine QRun_n (by kernel_rfl) ?_
        refine QRun_bool true ((a_ == (-1000000000000000)) || (b == (-1000000000000000))) (by kernel_rfl) (fun w => by kernel_rfl) (by rw [hb1]; rfl) ?_
        exact QRun_done [0, 1, 10] (by kernel_rfl) (by kernel_rfl)
      · refine QRun_bool (a_ == (-1000000000000000)) false (by kernel_rfl) (fun w => by kernel_rfl) hb1 ?_
        refine QRun_b [.int .i64 b, .bool (b == (-1000000000000000))] 3 _ (by kernel_rfl) (fun w => by kernel_rfl) ?_
        refine QRun_bool (b == (-1000000000000000)) ((a_ == (-1000000000000000)) || (b == (-1000000000000000))) (by kernel_rfl) (fun w => by kernel_rfl) (by rw [hb1]; rfl) ?_
        exact QRun_done [0, 1, 10] (by kernel_rfl) (by kernel_rfl)
    exact QRun_done [0, 1, 10] (by kernel_rfl) (by kernel_rfl)
  refine Run_cond (b := (a_ == (-1000000000000000)) || (b == (-1000000000000000))) (by kernel_rfl) (fun hb2 => ?_) (fun hb2 => ?_)
  · have hF := (M.ite_some hF).1 hb2
    refine Run_seq ?_
    refine Run_reg 1 (by kernel_rfl) (L' := [(4, .int .i64 (-1000000000000000))]) ?_ ?_
    · refine QRun_b [.int .i64 (-1000000000000000)] 0 _ (by kernel_rfl) (fun w => by kernel_rfl) ?_
      exact QRun_done [4] (by kernel_rfl) (by kernel_rfl)
    have hF := M.ret_some hF
    subst hF
    exact Run_ret1 rfl (ResV_tmp (v := .int .i64 (-1000000000000000)) (by kernel_rfl)) ⟨rfl, rfl⟩
  · have hF := (M.ite_some hF).2 hb2
    refine Run_skip ?_
    refine Run_seq ?_
    refine Run_reg 4 (by kernel_rfl) (L' := [(4, .int .i64 (w64 (a_ + b)))]) ?_ ?_
    · refine QRun_b [.int .i64 a_, .int .i64 b, .int .i64 (w64 (a_ + b)), .int .i64 (w64 (a_ + b))] 0 _ (by kernel_rfl) (fun w => by kernel_rfl) ?_
      exact QRun_done [4] (by kernel_rfl) (by kernel_rfl)
    have hF := M.ret_some hF
    subst hF
    exact Run_ret1 rfl (ResV_tmp (v := .int .i64 (w64 (a_ + b))) (by kernel_rfl)) ⟨rfl, rfl⟩

set_option maxRecDepth 100000 in
set_option maxHeartbeats 4000000 in
theorem w_spec_l10Best (h : Heap) (a_ : List (List Int)) (aa_ : Option Addr) (ca_ : Nat) (ra_ : Rd cd39 h (Lt h) aa_ ca_ a_) (n : Nat) (r : (List Int) × (List Int)) (hF : spec_l10Best a_ n = some r) :
    Fn Try.prog 133 #[.slice aa_ a_.length ca_] h fun v h' => ∃ (a0 : Option Addr) (c0 : Nat), ∃ (a1 : Option Addr) (c1 : Nat), v = .tuple #[.slice a0 r.1.length c0, .slice a1 r.2.length c1] ∧ Hold h h' [own cd2 a0 r.1.length c0 r.1, own cd2 a1 r.2.length c1 r.2] := by
  unfold spec_l10Best at hF
  refine Fn_enter (args := [.slice aa_ a_.length ca_]) Try.func133 rfl (by kernel_rfl) (by kernel_rfl) (fun w0 _ => ?_)
  have H0 := Hold.init h
  refine Run_seq ?_
  refine Run_reg 2 (by kernel_rfl) (L' := [(0, .slice aa_ a_.length ca_)]) ?_ ?_
  · refine QRun_b [.slice none 0 0, .slice none 0 0] 0 _ (by kernel_rfl) (fun w => by kernel_rfl) ?_
    exact QRun_done [0] (by kernel_rfl) (by kernel_rfl)
  refine Run_seq ?_
  refine Run_reg 3 (by kernel_rfl) (L' := [(0, .slice aa_ a_.length ca_), (4, .int .i64 (a_.length : Int))]) ?_ ?_
  · refine QRun_b [.slice aa_ a_.length ca_, .int .i64 (a_.length : Int), .int .i64 (a_.length : Int)] 0 _ (by kernel_rfl) (fun w => by kernel_rfl) ?_
    exact QRun_done [0, 4] (by kernel_rfl) (by kernel_rfl)
  refine Run_seq ?_
  refine Run_ops ?_
  refine Run_E (by kernel_rfl) ?_
  refine E_lit (C := cd2) (n := 1) (l := ([0] : List Int)) (cs := [.int .i64 0]) H0 (fun w => by kernel_rfl) (Enc.consE (cd2_own 0 _) (Enc.nil _ _) rfl) rfl (by decide) (fun a1 h1 H1 => ?_)
  refine Run_E (by kernel_rfl) ?_
  refine E_lit (C := cd2) (n := 1) (l := ([1] : List Int)) (cs := [.int .i64 1]) H1 (fun w => by kernel_rfl) (Enc.consE (cd2_own 1 _) (Enc.nil _ _) rfl) rfl (by decide) (fun a2 h2 H2 => ?_)
  refine Run_b [.slice a1 1 1, .slice a2 1 1] 2 _ (by kernel_rfl) (fun w => by kernel_rfl) ?_
  refine Run_nil (by kernel_rfl) ?_
  refine Run_keep [0, 4, 5, 6] (L' := [(0, .slice aa_ a_.length ca_), (4, .int .i64 (a_.length : Int)), (5, .slice a1 1 1), (6, .slice a2 1 1)]) (by kernel_rfl) ?_
  refine Run_seq ?_
  refine Run_seq ?_
  refine Run_reg 1 (by kernel_rfl) (L' := [(0, .slice aa_ a_.length ca_), (4, .int .i64 (a_.length : Int)), (5, .slice a1 1 1), (6, .slice a2 1 1), (7, .int .i64 1)]) ?_ ?_
  · refine QRun_b [.int .i64 1] 0 _ (by kernel_rfl) (fun w => by kernel_rfl) ?_
    exact QRun_done [0, 4, 5, 6, 7] (by kernel_rfl) (by kernel_rfl)
  obtain ⟨x1, gx1, hF⟩ := M.bind_some hF
  refine Run_join (fun L' h' => ∃ (a5 : Option Addr) (c3 : Nat) (a6 : Option Addr) (c4 : Nat), L' = [(5, .slice a5 x1.1.length c3), (6, .slice a6 x1.2.1.length c4)] ∧ Hold h h' [own cd2 a5 x1.1.length c3 x1.1, own cd2 a6 x1.2.1.length c4 x1.2.1]) ?_ ?_
  · rintro _ h4 ⟨a5, c3, a6, c4, rfl, H4⟩
    refine Run_seq ?_
    refine Run_reg 4 (by kernel_rfl) (L' := [(2, .slice a5 x1.1.length c3), (3, .slice a6 x1.2.1.length c4)]) ?_ ?_
    · refine QRun_b [.slice a5 x1.1.length c3, .slice a6 x1.2.1.length c4, .slice a5 x1.1.length c3, .slice a6 x1.2.1.length c4] 0 _ (by kernel_rfl) (fun w => by kernel_rfl) ?_
      exact QRun_done [2, 3] (by kernel_rfl) (by kernel_rfl)
    have hF := M.ret_some hF
    subst hF
    have H26 : Hold h h4 [own cd2 a6 x1.2.1.length c4 x1.2.1, own cd2 a5 x1.1.length c3 x1.1] := H4.pick [1, 0] (by kernel_rfl)
    have H27 : Hold h h4 [own cd2 a5 x1.1.length c3 x1.1, own cd2 a6 x1.2.1.length c4 x1.2.1] := H26.pick [1, 0] (by kernel_rfl)
    exact Run_ret2 rfl (ResV_tmp (v := .slice a5 x1.1.length c3) (by kernel_rfl)) (ResV_tmp (v := .slice a6 x1.2.1.length c4) (by kernel_rfl)) ⟨a5, c3, a6, c4, rfl, H27⟩
  · refine Run_block ?_
    have H28 : Hold h h2 [own cd2 a1 1 1 ([0] : List Int), own cd2 a2 1 1 ([1] : List Int)] := H2.pick [1, 0] (by kernel_rfl)
    have hn1 := (H28.len 0 rfl)
    have H29 : Hold h h2 [own cd2 a2 1 1 ([1] : List Int), own cd2 a1 (([0] : List Int).length) 1 ([0] : List Int)] := H28.pick [1, 0] (by kernel_rfl)
    have hn2 := (H29.len 0 rfl)
    have H30 : Hold h h2 [own cd2 a2 (([1] : List Int).length) 1 ([1] : List Int), own cd2 a1 (([0] : List Int).length) 1 ([0] : List Int)] := by rw [hn1, hn2]; exact H29
    have H31 : Hold h h2 [own cd2 a1 (([0] : List Int).length) 1 ([0] : List Int), own cd2 a2 (([1] : List Int).length) 1 ([1] : List Int)] := H30.pick [1, 0] (by kernel_rfl)
    refine Run_keep [0, 4, 5, 6, 7] (L' := [(0, .slice aa_ a_.length ca_), (4, .int .i64 (a_.length : Int)), (5, .slice a1 (([0] : List Int).length) 1), (6, .slice a2 (([1] : List Int).length) 1), (7, .int .i64 1)]) (by first | (rw [hn1, hn2]; kernel_rfl) | (simp only [hn1, hn2]; kernel_rfl) | kernel_rfl) ?_
    refine Run_loop (fun m L' h' => ∃ (s1 : (List Int) × (List Int) × Int) (a3 : Option Addr) (c1 : Nat) (a4 : Option Addr) (c2 : Nat), M.loopN _ n m s1 = some x1 ∧ L' = [(0, .slice aa_ a_.length ca_), (4, .int .i64 (a_.length : Int)), (5, .slice a3 s1.1.length c1), (6, .slice a4 s1.2.1.length c2), (7, .int .i64 s1.2.2)] ∧ Hold h h' [own cd2 a3 s1.1.length c1 s1.1, own cd2 a4 s1.2.1.length c2 s1.2.1]) n ⟨(([0] : List Int), ([1] : List Int), 1), a1, 1, a2, 1, gx1, rfl, H31⟩ ?_
    rintro my1 _ h3 ⟨s1, a3, c1, a4, c2, gx1, rfl, H3⟩
    obtain ⟨my1, y1, rfl, hB1, hgoy1, houty1⟩ := M.loop_some gx1
    refine Run_seq ?_
    refine Run_seq ?_
    obtain ⟨u1, hz1, hB1⟩ := M.bind_some hB1
    have hz1 := M.guard_some hz1
    refine Run_reg 5 (by kernel_rfl) (L' := [(0, .slice aa_ a_.length ca_), (4, .int .i64 (a_.length : Int)), (5, .slice a3 s1.1.length c1), (6, .slice a4 s1.2.1.length c2), (7, .int .i64 s1.2.2), (24, .bool (decide (s1.2.2 < (ishl .i64 1 (IntKind.u64.wrap ((a_.length : Int)))))))]) ?_ ?_
    · refine QRun_b [.int .i64 s1.2.2, .int .i64 (a_.length : Int), .int .u64 (IntKind.u64.wrap ((a_.length : Int)))] 0 _ (by kernel_rfl) (fun w => by kernel_rfl) ?_
      refine QRun_y (.int .i64 (ishl .i64 1 (IntKind.u64.wrap ((a_.length : Int))))) (by kernel_rfl) (Y_shl (k := .i64) (x := 1) (kk := .u64) (y := IntKind.u64.wrap ((a_.length : Int))) (by kernel_rfl) hz1) ?_
      refine QRun_b [.bool (decide (s1.2.2 < (ishl .i64 1 (IntKind.u64.wrap ((a_.length : Int))))))] 4 _ (by kernel_rfl) (fun w => by kernel_rfl) ?_
      exact QRun_done [0, 4, 5, 6, 7, 24] (by kernel_rfl) (by kernel_rfl)
    refine Run_cond (b := decide (s1.2.2 < (ishl .i64 1 (IntKind.u64.wrap ((a_.length : Int)))))) (by kernel_rfl) (fun hb1 => ?_) (fun hb1 => ?_)
    · have hB1 := (M.ite_some hB1).1 hb1
      refine Run_skip ?_
      refine Run_seq ?_
      refine Run_block ?_
      refine Run_seq ?_
      refine Run_reg 1 (by kernel_rfl) (L' := [(0, .slice aa_ a_.length ca_), (4, .int .i64 (a_.length : Int)), (5, .slice a3 s1.1.length c1), (6, .slice a4 s1.2.1.length c2), (7, .int .i64 s1.2.2), (8, .int .i64 0)]) ?_ ?_
      · refine QRun_b [.int .i64 0] 0 _ (by kernel_rfl) (fun w => by kernel_rfl) ?_
        exact QRun_done [0, 4, 5, 6, 7, 8] (by kernel_rfl) (by kernel_rfl)
      refine Run_seq ?_
      refine Run_seq ?_
      refine Run_reg 1 (by kernel_rfl) (L' := [(0, .slice aa_ a_.length ca_), (4, .int .i64 (a_.length : Int)), (5, .slice a3 s1.1.length c1), (6, .slice a4 s1.2.1.length c2), (7, .int .i64 s1.2.2), (8, .int .i64 0), (9, .int .i64 0)]) ?_ ?_
      · refine QRun_b [.int .i64 0] 0 _ (by kernel_rfl) (fun w => by kernel_rfl) ?_
        exact QRun_done [0, 4, 5, 6, 7, 8, 9] (by kernel_rfl) (by kernel_rfl)
      obtain ⟨x2, gx2, hB1⟩ := M.bind_some hB1
      obtain ⟨hloy2, hhiy2, gx2⟩ := M.for_start gx2
      refine Run_join (fun L' h' => L' = [(0, .slice aa_ a_.length ca_), (4, .int .i64 (a_.length : Int)), (5, .slice a3 s1.1.length c1), (6, .slice a4 s1.2.1.length c2), (7, .int .i64 s1.2.2), (8, .int .i64 x2)] ∧ Hold h h' [own cd2 a3 s1.1.length c1 s1.1, own cd2 a4 s1.2.1.length c2 s1.2.1]) ?_ ?_
      · rintro _ h6 ⟨rfl, H6⟩
        refine Run_seq ?_
        refine Run_reg 6 (by kernel_rfl) (L' := [(0, .slice aa_ a_.length ca_), (4, .int .i64 (a_.length : Int)), (5, .slice a3 s1.1.length c1), (6, .slice a4 s1.2.1.length c2), (7, .int .i64 s1.2.2), (10, .int .i64 (w64 ((a_.length : Int) - x2))), (11, .int .i64 (-1000000000000000)), (12, .int .i64 0)]) ?_ ?_
        · refine QRun_b [.int .i64 (a_.length : Int), .int .i64 x2, .int .i64 (w64 ((a_.length : Int) - x2)), .int .i64 (w64 ((a_.length : Int) - x2)), .int .i64 (-1000000000000000), .int .i64 0] 0 _ (by kernel_rfl) (fun w => by kernel_rfl) ?_
          exact QRun_done [0, 4, 5, 6, 7, 10, 11, 12] (by kernel_rfl) (by kernel_rfl)
        refine Run_seq ?_
        refine Run_seq ?_
        refine Run_reg 1 (by kernel_rfl) (L' := [(0, .slice aa_ a_.length ca_), (4, .int .i64 (a_.length : Int)), (5, .slice a3 s1.1.length c1), (6, .slice a4 s1.2.1.length c2), (7, .int .i64 s1.2.2), (10, .int .i64 (w64 ((a_.length : Int) - x2))), (11, .int .i64 (-1000000000000000)), (12, .int .i64 0), (13, .int .i64 0)]) ?_ ?_
        · refine QRun_b [.int .i64 0] 0 _ (by kernel_rfl) (fun w => by kernel_rfl) ?_
          exact QRun_done [0, 4, 5, 6, 7, 10, 11, 12, 13] (by kernel_rfl) (by kernel_rfl)
        obtain ⟨x3, gx3, hB1⟩ := M.bind_some hB1
        obtain ⟨hloy3, hhiy3, gx3⟩ := M.for_start gx3
        refine Run_join (fun L' h' => L' = [(0, .slice aa_ a_.length ca_), (4, .int .i64 (a_.length : Int)), (5, .slice a3 s1.1.length c1), (6, .slice a4 s1.2.1.length c2), (7, .int .i64 s1.2.2), (11, .int .i64 x3.1), (12, .int .i64 x3.2)] ∧ Hold h h' [own cd2 a3 s1.1.length c1 s1.1, own cd2 a4 s1.2.1.length c2 s1.2.1]) ?_ ?_
        · rintro _ h8 ⟨rfl, H8⟩
          refine Run_seq ?_
          refine Run_ops ?_
          refine Run_b [.slice a3 s1.1.length c1, .int .i64 x3.1] 0 _ (by kernel_rfl) (fun w => by kernel_rfl) ?_
          refine Run_E (by kernel_rfl) ?_
          refine E_lit (C := cd2) (n := 1) (l := ([x3.1] : List Int)) (cs := [.int .i64 x3.1]) H8 (fun w => by kernel_rfl) (Enc.consE (cd2_own x3.1 _) (Enc.nil _ _) rfl) rfl (by decide) (fun a8 h11 H11 => ?_)
          obtain ⟨l1, hl1, hB1⟩ := M.bind_some hB1
          have hl1 := M.app_some hl1
          have H12 : Hold h h11 [own cd2 a3 s1.1.length c1 s1.1, own cd2 a8 1 1 ([x3.1] : List Int), own cd2 a4 s1.2.1.length c2 s1.2.1] := H11.pick [1, 0, 2] (by kernel_rfl)
          have H13 : Hold h h11 [own cd2 a8 1 1 ([x3.1] : List Int), own cd2 a3 s1.1.length c1 s1.1, own cd2 a4 s1.2.1.length c2 s1.2.1] := H12.pick [1, 0, 2] (by kernel_rfl)
          have H14 : Hold h h11 [own cd2 a3 s1.1.length c1 s1.1, own cd2 a8 1 1 ([x3.1] : List Int), own cd2 a4 s1.2.1.length c2 s1.2.1] := H13.pick [1, 0, 2] (by kernel_rfl)
          refine Run_E (by kernel_rfl) ?_
          refine E_app (C := cd2) (t := 39) (ty := 39) (n := s1.1.length) (m := 1) H14 cd2_ti rfl Try.underlying39 (by decide) (by kernel_rfl) hl1 (fun a9 c6 h12 H15 => ?_)
          refine Run_b [.slice a9 l1.length c6] 4 _ (by kernel_rfl) (fun w => by kernel_rfl) ?_
          refine Run_nil (by kernel_rfl) ?_
          refine Run_keep [0, 4, 5, 6, 7, 12] (L' := [(0, .slice aa_ a_.length ca_), (4, .int .i64 (a_.length : Int)), (5, .slice a9 l1.length c6), (6, .slice a4 s1.2.1.length c2), (7, .int .i64 s1.2.2), (12, .int .i64 x3.2)]) (by kernel_rfl) ?_
          refine Run_ops ?_
          refine Run_b [.slice a4 s1.2.1.length c2, .int .i64 x3.2] 0 _ (by kernel_rfl) (fun w => by kernel_rfl) ?_
          refine Run_E (by kernel_rfl) ?_
          refine E_lit (C := cd2) (n := 1) (l := ([x3.2] : List Int)) (cs := [.int .i64 x3.2]) H15 (fun w => by kernel_rfl) (Enc.consE (cd2_own x3.2 _) (Enc.nil _ _) rfl) rfl (by decide) (fun a10 h13 H16 => ?_)
          obtain ⟨l2, hl2, hB1⟩ := M.bind_some hB1
          have hl2 := M.app_some hl2
          have H17 : Hold h h13 [own cd2 a4 s1.2.1.length c2 s1.2.1, own cd2 a10 1 1 ([x3.2] : List Int), own cd2 a9 l1.length c6 l1] := H16.pick [2, 0, 1] (by kernel_rfl)
          have H18 : Hold h h13 [own cd2 a10 1 1 ([x3.2] : List Int), own cd2 a4 s1.2.1.length c2 s1.2.1, own cd2 a9 l1.length c6 l1] := H17.pick [1, 0, 2] (by kernel_rfl)
          have H19 : Hold h h13 [own cd2 a4 s1.2.1.length c2 s1.2.1, own cd2 a10 1 1 ([x3.2] : List Int), own cd2 a9 l1.length c6 l1] := H18.pick [1, 0, 2] (by kernel_rfl)
          refine Run_E (by kernel_rfl) ?_
          refine E_app (C := cd2) (t := 39) (ty := 39) (n := s1.2.1.length) (m := 1) H19 cd2_ti rfl Try.underlying39 (by decide) (by kernel_rfl) hl2 (fun a11 c7 h14 H20 => ?_)
          refine Run_b [.slice a11 l2.length c7] 4 _ (by kernel_rfl) (fun w => by kernel_rfl) ?_
          refine Run_nil (by kernel_rfl) ?_
          refine Run_keep [0, 4, 5, 6, 7] (L' := [(0, .slice aa_ a_.length ca_), (4, .int .i64 (a_.length : Int)), (5, .slice a9 l1.length c6), (6, .slice a11 l2.length c7), (7, .int .i64 s1.2.2)]) (by kernel_rfl) ?_
          refine Run_blk ?_
          refine Run_reg 3 (by kernel_rfl) (L' := [(0, .slice aa_ a_.length ca_), (4, .int .i64 (a_.length : Int)), (5, .slice a9 l1.length c6), (6, .slice a11 l2.length c7), (7, .int .i64 (w64 (s1.2.2 + 1)))]) ?_ ?_
          · refine QRun_b [.int .i64 s1.2.2, .int .i64 (w64 (s1.2.2 + 1)), .int .i64 (w64 (s1.2.2 + 1))] 0 _ (by kernel_rfl) (fun w => by kernel_rfl) ?_
            exact QRun_done [0, 4, 5, 6, 7] (by kernel_rfl) (by kernel_rfl)
          have H21 : Hold h h14 [own cd2 a9 l1.length c6 l1, own cd2 a11 l2.length c7 l2] := H20.pick [1, 0] (by kernel_rfl)
          have H22 : Hold h h14 [own cd2 a11 l2.length c7 l2, own cd2 a9 l1.length c6 l1] := H21.pick [1, 0] (by kernel_rfl)
          have H23 : Hold h h14 [own cd2 a9 l1.length c6 l1, own cd2 a11 l2.length c7 l2] := H22.pick [1, 0] (by kernel_rfl)
          have hB1 := M.ret_some hB1
          have gx1 := hgoy1 _ hB1.symm
          exact Run_again [0, 4, 5, 6, 7] (by kernel_rfl) my1 (Nat.lt_succ_self _) ⟨(l1, l2, (w64 (s1.2.2 + 1))), a9, c6, a11, c7, gx1, rfl, H23⟩
        · refine Run_block ?_
          refine Run_keep [0, 4, 5, 6, 7, 10, 11, 12, 13] (L' := [(0, .slice aa_ a_.length ca_), (4, .int .i64 (a_.length : Int)), (5, .slice a3 s1.1.length c1), (6, .slice a4 s1.2.1.length c2), (7, .int .i64 s1.2.2), (10, .int .i64 (w64 ((a_.length : Int) - x2))), (11, .int .i64 (-1000000000000000)), (12, .int .i64 0), (13, .int .i64 0)]) (by kernel_rfl) ?_
          refine Run_loop (fun m L' h' => ∃ (i2 : Int) (s3 : Int × Int), 0 ≤ i2 ∧ M.forN (a_.length : Int) _ _ n m i2 s3 = some x3 ∧ L' = [(0, .slice aa_ a_.length ca_), (4, .int .i64 (a_.length : Int)), (5, .slice a3 s1.1.length c1), (6, .slice a4 s1.2.1.length c2), (7, .int .i64 s1.2.2), (10, .int .i64 (w64 ((a_.length : Int) - x2))), (11, .int .i64 s3.1), (12, .int .i64 s3.2), (13, .int .i64 i2)] ∧ Hold h h' [own cd2 a3 s1.1.length c1 s1.1, own cd2 a4 s1.2.1.length c2 s1.2.1]) ((a_.length : Int) - 0 : Int).toNat ⟨0, ((-1000000000000000), 0), Int.le_refl _, gx3, rfl, H6⟩ ?_
          rintro my3 _ h7 ⟨i2, s3, hloy3', gx3, rfl, H7⟩
          refine Run_seq ?_
          refine Run_seq ?_
          refine Run_reg 3 (by kernel_rfl) (L' := [(0, .slice aa_ a_.length ca_), (4, .int .i64 (a_.length : Int)), (5, .slice a3 s1.1.length c1), (6, .slice a4 s1.2.1.length c2), (7, .int .i64 s1.2.2), (10, .int .i64 (w64 ((a_.length : Int) - x2))), (11, .int .i64 s3.1), (12, .int .i64 s3.2), (13, .int .i64 i2), (44, .bool (decide (i2 < (a_.length : Int))))]) ?_ ?_
          · refine QRun_b [.int .i64 i2, .int .i64 (a_.length : Int), .bool (decide (i2 < (a_.length : Int)))] 0 _ (by kernel_rfl) (fun w => by kernel_rfl) ?_
            exact QRun_done [0, 4, 5, 6, 7, 10, 11, 12, 13, 44] (by kernel_rfl) (by kernel_rfl)
          refine Run_cond (b := decide (i2 < (a_.length : Int))) (by kernel_rfl) (fun hb3 => ?_) (fun hb3 => ?_)
          · obtain ⟨my3, y3, rfl, hB3, hgoy3, houty3⟩ := M.for_go gx3 hb3
            have hlty3 := of_decide_eq_true hb3
            refine Run_skip ?_
            refine Run_seq ?_
            obtain ⟨s4, gs4, hB3⟩ := M.bind_some hB3
            refine Run_join (fun L' h' => L' = [(0, .slice aa_ a_.length ca_), (4, .int .i64 (a_.length : Int)), (5, .slice a3 s1.1.length c1), (6, .slice a4 s1.2.1.length c2), (7, .int .i64 s1.2.2), (10, .int .i64 (w64 ((a_.length : Int) - x2))), (11, .int .i64 s4.1), (12, .int .i64 s4.2), (13, .int .i64 i2)] ∧ Hold h h' [own cd2 a3 s1.1.length c1 s1.1, own cd2 a4 s1.2.1.length c2 s1.2.1]) ?_ ?_
            · rintro _ h10 ⟨rfl, H10⟩
              refine Run_reg 3 (by kernel_rfl) (L' := [(0, .slice aa_ a_.length ca_), (4, .int .i64 (a_.length : Int)), (5, .slice a3 s1.1.length c1), (6, .slice a4 s1.2.1.length c2), (7, .int .i64 s1.2.2), (10, .int .i64 (w64 ((a_.length : Int) - x2))), (11, .int .i64 s4.1), (12, .int .i64 s4.2), (13, .int .i64 (i2 + 1))]) ?_ ?_
              · refine QRun_b [.int .i64 i2] 0 _ (by kernel_rfl) (fun w => by kernel_rfl) ?_
                refine QRun_y (.int .i64 (i2 + 1)) (by kernel_rfl) (Y_eq (v := .int .i64 (w64 (i2 + 1))) (Y_pure (fun w => by kernel_rfl)) (by rw [w64_eq _ (by omega)])) ?_
                refine QRun_b [.int .i64 (i2 + 1)] 2 _ (by kernel_rfl) (fun w => by kernel_rfl) ?_
                exact QRun_done [0, 4, 5, 6, 7, 10, 11, 12, 13] (by kernel_rfl) (by kernel_rfl)
              have hB3 := M.ret_some hB3
              have gx3 := hgoy3 _ hB3.symm
              exact Run_again [0, 4, 5, 6, 7, 10, 11, 12, 13] (by kernel_rfl) my3 (Nat.lt_succ_self _) ⟨i2 + 1, (s4.1, s4.2), by omega, gx3, rfl, H10⟩
            · refine Run_block ?_
              refine Run_seq ?_
              refine Run_seq ?_
              obtain ⟨u3, hz3, gs4⟩ := M.bind_some gs4
              have hz3 := M.guard_some hz3
              refine Run_reg 6 (by kernel_rfl) (L' := [(0, .slice aa_ a_.length ca_), (4, .int .i64 (a_.length : Int)), (5, .slice a3 s1.1.length c1), (6, .slice a4 s1.2.1.length c2), (7, .int .i64 s1.2.2), (10, .int .i64 (w64 ((a_.length : Int) - x2))), (11, .int .i64 s3.1), (12, .int .i64 s3.2), (13, .int .i64 i2), (52, .bool ((ibit .and .i64 (ishr .i64 s1.2.2 (IntKind.u64.wrap (i2))) 1) == 0))]) ?_ ?_
              · refine QRun_b [.int .i64 s1.2.2, .int .i64 i2, .int .u64 (IntKind.u64.wrap (i2))] 0 _ (by kernel_rfl) (fun w => by kernel_rfl) ?_
                refine QRun_y (.int .i64 (ishr .i64 s1.2.2 (IntKind.u64.wrap (i2)))) (by kernel_rfl) (Y_shr (k := .i64) (x := s1.2.2) (kk := .u64) (y := IntKind.u64.wrap (i2)) (by kernel_rfl) hz3) ?_
                refine QRun_b [.int .i64 (ibit .and .i64 (ishr .i64 s1.2.2 (IntKind.u64.wrap (i2))) 1), .bool ((ibit .and .i64 (ishr .i64 s1.2.2 (IntKind.u64.wrap (i2))) 1) == 0)] 4 _ (by kernel_rfl) (fun w => by kernel_rfl) ?_
                exact QRun_done [0, 4, 5, 6, 7, 10, 11, 12, 13, 52] (by kernel_rfl) (by kernel_rfl)
              refine Run_cond (b := (ibit .and .i64 (ishr .i64 s1.2.2 (IntKind.u64.wrap (i2))) 1) == 0) (by kernel_rfl) (fun hb4 => ?_) (fun hb4 => ?_)
              · have gs4 := (M.ite_some gs4).1 hb4
                refine Run_exit (k' := _) rfl ?_
                have gs4 := M.ret_some gs4
                subst gs4
                exact Run_fall [0, 4, 5, 6, 7, 10, 11, 12, 13] (by kernel_rfl) ⟨rfl, H7⟩
              · have gs4 := (M.ite_some gs4).2 hb4
                refine Run_skip ?_
                refine Run_seq ?_
                obtain ⟨u4, hz4, gs4⟩ := M.bind_some gs4
                have hz4 := M.guard_some hz4
                refine Run_reg 6 (by kernel_rfl) (L' := [(0, .slice aa_ a_.length ca_), (4, .int .i64 (a_.length : Int)), (5, .slice a3 s1.1.length c1), (6, .slice a4 s1.2.1.length c2), (7, .int .i64 s1.2.2), (10, .int .i64 (w64 ((a_.length : Int) - x2))), (11, .int .i64 s3.1), (12, .int .i64 s3.2), (13, .int .i64 i2), (14, .int .i64 (w64 (s1.2.2 - (ishl .i64 1 (IntKind.u64.wrap (i2))))))]) ?_ ?_
                · refine QRun_b [.int .i64 s1.2.2, .int .i64 i2, .int .u64 (IntKind.u64.wrap (i2))] 0 _ (by kernel_rfl) (fun w => by kernel_rfl) ?_
                  refine QRun_y (.int .i64 (ishl .i64 1 (IntKind.u64.wrap (i2)))) (by kernel_rfl) (Y_shl (k := .i64) (x := 1) (kk := .u64) (y := IntKind.u64.wrap (i2)) (by kernel_rfl) hz4) ?_
                  refine QRun_b [.int .i64 (w64 (s1.2.2 - (ishl .i64 1 (IntKind.u64.wrap (i2))))), .int .i64 (w64 (s1.2.2 - (ishl .i64 1 (IntKind.u64.wrap (i2)))))] 4 _ (by kernel_rfl) (fun w => by kernel_rfl) ?_
                  exact QRun_done [0, 4, 5, 6, 7, 10, 11, 12, 13, 14] (by kernel_rfl) (by kernel_rfl)
                refine Run_seq ?_
                obtain ⟨x4, hx1, gs4⟩ := M.bind_some gs4
                obtain ⟨hx1l, hx1u, hx1⟩ := M.idx_some hx1
                obtain ⟨a7, c5, hc1, r1⟩ := ra_.row hx1
                obtain ⟨x5, hx2, gs4⟩ := M.bind_some gs4
                obtain ⟨hx2l, hx2u, hx2⟩ := M.idx_some hx2
                obtain ⟨x6, hx3, gs4⟩ := M.bind_some gs4
                obtain ⟨hx3l, hx3u, hx3⟩ := M.idx_some hx3
                obtain ⟨x7, hx4, gs4⟩ := M.bind_some gs4
                refine Run_draw 13 mixed (by kernel_rfl) (by kernel_rfl) (L' := [(0, .slice aa_ a_.length ca_), (4, .int .i64 (a_.length : Int)), (5, .slice a3 s1.1.length c1), (6, .slice a4 s1.2.1.length c2), (7, .int .i64 s1.2.2), (10, .int .i64 (w64 ((a_.length : Int) - x2))), (11, .int .i64 s3.1), (12, .int .i64 s3.2), (13, .int .i64 i2), (14, .int .i64 (w64 (s1.2.2 - (ishl .i64 1 (IntKind.u64.wrap (i2)))))), (15, .int .i64 x7)]) ?_ ?_
                · refine QRun_b [.slice aa_ a_.length ca_, .int .i64 (w64 ((a_.length : Int) - x2))] 0 _ (by kernel_rfl) (fun w => by kernel_rfl) ?_
                  refine QRun_y (.pointer (some (adr aa_ ((w64 ((a_.length : Int) - x2)).toNat * 1)))) (by kernel_rfl) (Y_idx (t := 37) (e := 39) (sz := 1) (a := aa_) (n := a_.length) (cap := ca_) (kk := .i64) (i := w64 ((a_.length : Int) - x2)) (by kernel_rfl) Try.underlying37 (by kernel_rfl) ((ra_.at H7.ext).cell hx1).1 hx1l hx1u) ?_
                  refine QRun_y (.slice a7 x4.length c5) (by kernel_rfl) (Y_load1 (t := 39) (p := adr aa_ ((w64 ((a_.length : Int) - x2)).toNat * 1)) (v := .slice a7 x4.length c5) (by kernel_rfl) (fun w => by kernel_rfl) (cell_at H7.ext hc1)) ?_
                  refine QRun_b [.int .i64 i2] 4 _ (by kernel_rfl) (fun w => by kernel_rfl) ?_
                  refine QRun_y (.pointer (some (adr a7 (i2.toNat * 1)))) (by kernel_rfl) (Y_idx (t := 39) (e := 2) (sz := 1) (a := a7) (n := x4.length) (cap := c5) (kk := .i64) (i := i2) (by kernel_rfl) Try.underlying39 (by kernel_rfl) ((r1.at H7.ext).cell hx2).1 hx2l hx2u) ?_
                  refine QRun_y (.int .i64 x5) (by kernel_rfl) (Y_load1 (t := 2) (p := adr a7 (i2.toNat * 1)) (v := .int .i64 x5) (by kernel_rfl) (fun w => by kernel_rfl) (cd2_cell (r1.at H7.ext) hx2)) ?_
                  refine QRun_b [.slice a3 s1.1.length c1, .int .i64 (w64 (s1.2.2 - (ishl .i64 1 (IntKind.u64.wrap (i2)))))] 7 _ (by kernel_rfl) (fun w => by kernel_rfl) ?_
                  refine QRun_y (.pointer (some (adr a3 ((w64 (s1.2.2 - (ishl .i64 1 (IntKind.u64.wrap (i2))))).toNat * 1)))) (by kernel_rfl) (Y_idx (t := 39) (e := 2) (sz := 1) (a := a3) (n := s1.1.length) (cap := c1) (kk := .i64) (i := w64 (s1.2.2 - (ishl .i64 1 (IntKind.u64.wrap (i2))))) (by kernel_rfl) Try.underlying39 (by kernel_rfl) ((H7.rd 0 rfl).cell hx3).1 hx3l hx3u) ?_
                  refine QRun_y (.int .i64 x6) (by kernel_rfl) (Y_load1 (t := 2) (p := adr a3 ((w64 (s1.2.2 - (ishl .i64 1 (IntKind.u64.wrap (i2))))).toNat * 1)) (v := .int .i64 x6) (by kernel_rfl) (fun w => by kernel_rfl) (cd2_cell (H7.rd 0 rfl) hx3)) ?_
                  refine QRun_y (.int .i64 x7) (by kernel_rfl) (Y_callq (f := 117) (args := #[.int .i64 x5, .int .i64 x6]) (v := .int .i64 x7) (by kernel_rfl) (w_spec_l01Times h7 x5 x6 _ _ hx4)) ?_
                  refine QRun_b [.int .i64 x7] 12 _ (by kernel_rfl) (fun w => by kernel_rfl) ?_
                  exact QRun_done [0, 4, 5, 6, 7, 10, 11, 12, 13, 14, 15] (by kernel_rfl) (by kernel_rfl)
                refine Run_block ?_
                refine Run_seq ?_
                refine Run_reg 3 (by kernel_rfl) (L' := [(0, .slice aa_ a_.length ca_), (4, .int .i64 (a_.length : Int)), (5, .slice a3 s1.1.length c1), (6, .slice a4 s1.2.1.length c2), (7, .int .i64 s1.2.2), (10, .int .i64 (w64 ((a_.length : Int) - x2))), (11, .int .i64 s3.1), (12, .int .i64 s3.2), (13, .int .i64 i2), (14, .int .i64 (w64 (s1.2.2 - (ishl .i64 1 (IntKind.u64.wrap (i2)))))), (15, .int .i64 x7), (70, .bool (x7 == (-1000000000000000)))]) ?_ ?_
                · refine QRun_b [.int .i64 x7, .bool (x7 == (-1000000000000000)), .bool (x7 == (-1000000000000000))] 0 _ (by kernel_rfl) (fun w => by kernel_rfl) ?_
                  exact QRun_done [0, 4, 5, 6, 7, 10, 11, 12, 13, 14, 15, 70] (by kernel_rfl) (by kernel_rfl)
                refine Run_cond (b := x7 == (-1000000000000000)) (by kernel_rfl) (fun hb5 => ?_) (fun hb5 => ?_)
                · have gs4 := (M.ite_some gs4).1 hb5
                  refine Run_exit (k' := _) rfl ?_
                  have gs4 := M.ret_some gs4
                  subst gs4
                  exact Run_fall [0, 4, 5, 6, 7, 10, 11, 12, 13] (by kernel_rfl) ⟨rfl, H7⟩
                · have gs4 := (M.ite_some gs4).2 hb5
                  refine Run_seq ?_
                  refine Run_reg 4 (by kernel_rfl) (L' := [(0, .slice aa_ a_.length ca_), (4, .int .i64 (a_.length : Int)), (5, .slice a3 s1.1.length c1), (6, .slice a4 s1.2.1.length c2), (7, .int .i64 s1.2.2), (10, .int .i64 (w64 ((a_.length : Int) - x2))), (11, .int .i64 s3.1), (12, .int .i64 s3.2), (13, .int .i64 i2), (14, .int .i64 (w64 (s1.2.2 - (ishl .i64 1 (IntKind.u64.wrap (i2)))))), (15, .int .i64 x7), (73, .bool (decide (s3.1 < x7)))]) ?_ ?_
                  · refine QRun_b [.int .i64 x7, .int .i64 s3.1, .bool (decide (s3.1 < x7)), .bool (decide (s3.1 < x7))] 0 _ (by kernel_rfl) (fun w => by kernel_rfl) ?_
                    exact QRun_done [0, 4, 5, 6, 7, 10, 11, 12, 13, 14, 15, 73] (by kernel_rfl) (by kernel_rfl)
                  obtain ⟨s5, gs5, gs4⟩ := M.bind_some gs4
                  refine Run_join (fun L' h' => L' = [(0, .slice aa_ a_.length ca_), (4, .int .i64 (a_.length : Int)), (5, .slice a3 s1.1.length c1), (6, .slice a4 s1.2.1.length c2), (7, .int .i64 s1.2.2), (10, .int .i64 (w64 ((a_.length : Int) - x2))), (11, .int .i64 s5.1), (12, .int .i64 s5.2), (13, .int .i64 i2)] ∧ Hold h h' [own cd2 a3 s1.1.length c1 s1.1, own cd2 a4 s1.2.1.length c2 s1.2.1]) ?_ ?_
                  · rintro _ h9 ⟨rfl, H9⟩
                    refine Run_blk ?_
                    refine Run_blk ?_
                    have gs4 := M.ret_some gs4
                    subst gs4
                    exact Run_fall [0, 4, 5, 6, 7, 10, 11, 12, 13] (by kernel_rfl) ⟨rfl, H9⟩
                  · refine Run_cond (b := decide (s3.1 < x7)) (by kernel_rfl) (fun hb6 => ?_) (fun hb6 => ?_)
                    · have gs5 := (M.ite_some gs5).1 hb6
                      refine Run_seq ?_
                      refine Run_reg 2 (by kernel_rfl) (L' := [(0, .slice aa_ a_.length ca_), (4, .int .i64 (a_.length : Int)), (5, .slice a3 s1.1.length c1), (6, .slice a4 s1.2.1.length c2), (7, .int .i64 s1.2.2), (10, .int .i64 (w64 ((a_.length : Int) - x2))), (11, .int .i64 x7), (13, .int .i64 i2), (14, .int .i64 (w64 (s1.2.2 - (ishl .i64 1 (IntKind.u64.wrap (i2))))))]) ?_ ?_
                      · refine QRun_b [.int .i64 x7, .int .i64 x7] 0 _ (by kernel_rfl) (fun w => by kernel_rfl) ?_
                        exact QRun_done [0, 4, 5, 6, 7, 10, 11, 13, 14] (by kernel_rfl) (by kernel_rfl)
                      obtain ⟨x8, hx5, gs5⟩ := M.bind_some gs5
                      obtain ⟨hx5l, hx5u, hx5⟩ := M.idx_some hx5
                      refine Run_reg 5 (by kernel_rfl) (L' := [(0, .slice aa_ a_.length ca_), (4, .int .i64 (a_.length : Int)), (5, .slice a3 s1.1.length c1), (6, .slice a4 s1.2.1.length c2), (7, .int .i64 s1.2.2), (10, .int .i64 (w64 ((a_.length : Int) - x2))), (11, .int .i64 x7), (12, .int .i64 x8), (13, .int .i64 i2)]) ?_ ?_
                      · refine QRun_b [.slice a4 s1.2.1.length c2, .int .i64 (w64 (s1.2.2 - (ishl .i64 1 (IntKind.u64.wrap (i2)))))] 0 _ (by kernel_rfl) (fun w => by kernel_rfl) ?_
                        refine QRun_y (.pointer (some (adr a4 ((w64 (s1.2.2 - (ishl .i64 1 (IntKind.u64.wrap (i2))))).toNat * 1)))) (by kernel_rfl) (Y_idx (t := 39) (e := 2) (sz := 1) (a := a4) (n := s1.2.1.length) (cap := c2) (kk := .i64) (i := w64 (s1.2.2 - (ishl .i64 1 (IntKind.u64.wrap (i2))))) (by kernel_rfl) Try.underlying39 (by kernel_rfl) ((H7.rd 1 rfl).cell hx5).1 hx5l hx5u) ?_
                        refine QRun_y (.int .i64 x8) (by kernel_rfl) (Y_load1 (t := 2) (p := adr a4 ((w64 (s1.2.2 - (ishl .i64 1 (IntKind.u64.wrap (i2))))).toNat * 1)) (v := .int .i64 x8) (by kernel_rfl) (fun w => by kernel_rfl) (cd2_cell (H7.rd 1 rfl) hx5)) ?_
                        refine QRun_b [.int .i64 x8] 4 _ (by kernel_rfl) (fun w => by kernel_rfl) ?_
                        exact QRun_done [0, 4, 5, 6, 7, 10, 11, 12, 13] (by kernel_rfl) (by kernel_rfl)
                      have gs5 := M.ret_some gs5
                      subst gs5
                      exact Run_fall [0, 4, 5, 6, 7, 10, 11, 12, 13] (by kernel_rfl) ⟨rfl, H7⟩
                    · have gs5 := (M.ite_some gs5).2 hb6
                      refine Run_seq ?_
                      refine Run_reg 4 (by kernel_rfl) (L' := [(0, .slice aa_ a_.length ca_), (4, .int .i64 (a_.length : Int)), (5, .slice a3 s1.1.length c1), (6, .slice a4 s1.2.1.length c2), (7, .int .i64 s1.2.2), (10, .int .i64 (w64 ((a_.length : Int) - x2))), (11, .int .i64 s3.1), (12, .int .i64 s3.2), (13, .int .i64 i2), (14, .int .i64 (w64 (s1.2.2 - (ishl .i64 1 (IntKind.u64.wrap (i2)))))), (82, .bool (x7 == s3.1))]) ?_ ?_
                      · refine QRun_b [.int .i64 x7, .int .i64 s3.1, .bool (x7 == s3.1), .bool (x7 == s3.1)] 0 _ (by kernel_rfl) (fun w => by kernel_rfl) ?_
                        exact QRun_done [0, 4, 5, 6, 7, 10, 11, 12, 13, 14, 82] (by kernel_rfl) (by kernel_rfl)
                      refine Run_cond (b := x7 == s3.1) (by kernel_rfl) (fun hb7 => ?_) (fun hb7 => ?_)
                      · have gs5 := (M.ite_some gs5).1 hb7
                        obtain ⟨x9, hx6, gs5⟩ := M.bind_some gs5
                        obtain ⟨hx6l, hx6u, hx6⟩ := M.idx_some hx6
                        refine Run_reg 7 (by kernel_rfl) (L' := [(0, .slice aa_ a_.length ca_), (4, .int .i64 (a_.length : Int)), (5, .slice a3 s1.1.length c1), (6, .slice a4 s1.2.1.length c2), (7, .int .i64 s1.2.2), (10, .int .i64 (w64 ((a_.length : Int) - x2))), (11, .int .i64 s3.1), (12, .int .i64 (w64 (s3.2 + x9))), (13, .int .i64 i2)]) ?_ ?_
                        · refine QRun_b [.int .i64 s3.2, .slice a4 s1.2.1.length c2, .int .i64 (w64 (s1.2.2 - (ishl .i64 1 (IntKind.u64.wrap (i2)))))] 0 _ (by kernel_rfl) (fun w => by kernel_rfl) ?_
                          refine QRun_y (.pointer (some (adr a4 ((w64 (s1.2.2 - (ishl .i64 1 (IntKind.u64.wrap (i2))))).toNat * 1)))) (by kernel_rfl) (Y_idx (t := 39) (e := 2) (sz := 1) (a := a4) (n := s1.2.1.length) (cap := c2) (kk := .i64) (i := w64 (s1.2.2 - (ishl .i64 1 (IntKind.u64.wrap (i2))))) (by kernel_rfl) Try.underlying39 (by kernel_rfl) ((H7.rd 1 rfl).cell hx6).1 hx6l hx6u) ?_
                          refine QRun_y (.int .i64 x9) (by kernel_rfl) (Y_load1 (t := 2) (p := adr a4 ((w64 (s1.2.2 - (ishl .i64 1 (IntKind.u64.wrap (i2))))).toNat * 1)) (v := .int .i64 x9) (by kernel_rfl) (fun w => by kernel_rfl) (cd2_cell (H7.rd 1 rfl) hx6)) ?_
                          refine QRun_b [.int .i64 (w64 (s3.2 + x9)), .int .i64 (w64 (s3.2 + x9))] 5 _ (by kernel_rfl) (fun w => by kernel_rfl) ?_
                          exact QRun_done [0, 4, 5, 6, 7, 10, 11, 12, 13] (by kernel_rfl) (by kernel_rfl)
                        have gs5 := M.ret_some gs5
                        subst gs5
                        exact Run_fall [0, 4, 5, 6, 7, 10, 11, 12, 13] (by kernel_rfl) ⟨rfl, H7⟩
                      · have gs5 := (M.ite_some gs5).2 hb7
                        refine Run_skip ?_
                        have gs5 := M.ret_some gs5
                        subst gs5
                        exact Run_fall [0, 4, 5, 6, 7, 10, 11, 12, 13] (by kernel_rfl) ⟨rfl, H7⟩
          · have gx3 := M.for_end gx3 hb3
            subst gx3
            refine Run_exit (k' := _) rfl ?_
            exact Run_fall [0, 4, 5, 6, 7, 11, 12] (by kernel_rfl) ⟨rfl, H7⟩
      · refine Run_block ?_
        refine Run_keep [0, 4, 5, 6, 7, 8, 9] (L' := [(0, .slice aa_ a_.length ca_), (4, .int .i64 (a_.length : Int)), (5, .slice a3 s1.1.length c1), (6, .slice a4 s1.2.1.length c2), (7, .int .i64 s1.2.2), (8, .int .i64 0), (9, .int .i64 0)]) (by kernel_rfl) ?_
        refine Run_loop (fun m L' h' => ∃ (i1 : Int) (s2 : Int), 0 ≤ i1 ∧ M.forN (a_.length : Int) _ _ n m i1 s2 = some x2 ∧ L' = [(0, .slice aa_ a_.length ca_), (4, .int .i64 (a_.length : Int)), (5, .slice a3 s1.1.length c1), (6, .slice a4 s1.2.1.length c2), (7, .int .i64 s1.2.2), (8, .int .i64 s2), (9, .int .i64 i1)] ∧ Hold h h' [own cd2 a3 s1.1.length c1 s1.1, own cd2 a4 s1.2.1.length c2 s1.2.1]) ((a_.length : Int) - 0 : Int).toNat ⟨0, 0, Int.le_refl _, gx2, rfl, H3⟩ ?_
        rintro my2 _ h5 ⟨i1, s2, hloy2', gx2, rfl, H5⟩
        refine Run_seq ?_
        refine Run_seq ?_
        refine Run_reg 3 (by kernel_rfl) (L' := [(0, .slice aa_ a_.length ca_), (4, .int .i64 (a_.length : Int)), (5, .slice a3 s1.1.length c1), (6, .slice a4 s1.2.1.length c2), (7, .int .i64 s1.2.2), (8, .int .i64 s2), (9, .int .i64 i1), (29, .bool (decide (i1 < (a_.length : Int))))]) ?_ ?_
        · refine QRun_b [.int .i64 i1, .int .i64 (a_.length : Int), .bool (decide (i1 < (a_.length : Int)))] 0 _ (by kernel_rfl) (fun w => by kernel_rfl) ?_
          exact QRun_done [0, 4, 5, 6, 7, 8, 9, 29] (by kernel_rfl) (by kernel_rfl)
        refine Run_cond (b := decide (i1 < (a_.length : Int))) (by kernel_rfl) (fun hb2 => ?_) (fun hb2 => ?_)
        · obtain ⟨my2, y2, rfl, hB2, hgoy2, houty2⟩ := M.for_go gx2 hb2
          have hlty2 := of_decide_eq_true hb2
          refine Run_skip ?_
          refine Run_seq ?_
          refine Run_block ?_
          obtain ⟨u2, hz2, hB2⟩ := M.bind_some hB2
          have hz2 := M.guard_some hz2
          refine Run_reg 8 (by kernel_rfl) (L' := [(0, .slice aa_ a_.length ca_), (4, .int .i64 (a_.length : Int)), (5, .slice a3 s1.1.length c1), (6, .slice a4 s1.2.1.length c2), (7, .int .i64 s1.2.2), (8, .int .i64 (w64 (s2 + (ibit .and .i64 (ishr .i64 s1.2.2 (IntKind.u64.wrap (i1))) 1)))), (9, .int .i64 i1)]) ?_ ?_
          · refine QRun_b [.int .i64 s2, .int .i64 s1.2.2, .int .i64 i1, .int .u64 (IntKind.u64.wrap (i1))] 0 _ (by kernel_rfl) (fun w => by kernel_rfl) ?_
            refine QRun_y (.int .i64 (ishr .i64 s1.2.2 (IntKind.u64.wrap (i1)))) (by kernel_rfl) (Y_shr (k := .i64) (x := s1.2.2) (kk := .u64) (y := IntKind.u64.wrap (i1)) (by kernel_rfl) hz2) ?_
            refine QRun_b [.int .i64 (ibit .and .i64 (ishr .i64 s1.2.2 (IntKind.u64.wrap (i1))) 1), .int .i64 (w64 (s2 + (ibit .and .i64 (ishr .i64 s1.2.2 (IntKind.u64.wrap (i1))) 1))), .int .i64 (w64 (s2 + (ibit .and .i64 (ishr .i64 s1.2.2 (IntKind.u64.wrap (i1))) 1)))] 5 _ (by kernel_rfl) (fun w => by kernel_rfl) ?_
            exact QRun_done [0, 4, 5, 6, 7, 8, 9] (by kernel_rfl) (by kernel_rfl)
          refine Run_blk ?_
          refine Run_reg 3 (by kernel_rfl) (L' := [(0, .slice aa_ a_.length ca_), (4, .int .i64 (a_.length : Int)), (5, .slice a3 s1.1.length c1), (6, .slice a4 s1.2.1.length c2), (7, .int .i64 s1.2.2), (8, .int .i64 (w64 (s2 + (ibit .and .i64 (ishr .i64 s1.2.2 (IntKind.u64.wrap (i1))) 1)))), (9, .int .i64 (i1 + 1))]) ?_ ?_
          · refine QRun_b [.int .i64 i1] 0 _ (by kernel_rfl) (fun w => by kernel_rfl) ?_
            refine QRun_y (.int .i64 (i1 + 1)) (by kernel_rfl) (Y_eq (v := .int .i64 (w64 (i1 + 1))) (Y_pure (fun w => by kernel_rfl)) (by rw [w64_eq _ (by omega)])) ?_
            refine QRun_b [.int .i64 (i1 + 1)] 2 _ (by kernel_rfl) (fun w => by kernel_rfl) ?_
            exact QRun_done [0, 4, 5, 6, 7, 8, 9] (by kernel_rfl) (by kernel_rfl)
          have hB2 := M.ret_some hB2
          have gx2 := hgoy2 _ hB2.symm
          exact Run_again [0, 4, 5, 6, 7, 8, 9] (by kernel_rfl) my2 (Nat.lt_succ_self _) ⟨i1 + 1, (w64 (s2 + (ibit .and .i64 (ishr .i64 s1.2.2 (IntKind.u64.wrap (i1))) 1))), by omega, gx2, rfl, H5⟩
        · have gx2 := M.for_end gx2 hb2
          subst gx2
          refine Run_exit (k' := _) rfl ?_
          exact Run_fall [0, 4, 5, 6, 7, 8] (by kernel_rfl) ⟨rfl, H5⟩
    · have hB1 := (M.ite_some hB1).2 hb1
      refine Run_exit (k' := _) rfl ?_
      have H24 : Hold h h3 [own cd2 a4 s1.2.1.length c2 s1.2.1, own cd2 a3 s1.1.length c1 s1.1] := H3.pick [1, 0] (by kernel_rfl)
      have H25 : Hold h h3 [own cd2 a3 s1.1.length c1 s1.1, own cd2 a4 s1.2.1.length c2 s1.2.1] := H24.pick [1, 0] (by kernel_rfl)
      have hB1 := M.ret_some hB1
      have gx1 := houty1 _ hB1.symm
      subst gx1
      exact Run_fall [5, 6] (by kernel_rfl) ⟨a3, c1, a4, c2, rfl, H25⟩

set_option maxRecDepth 100000 in
set_option maxHeartbeats 4000000 in
theorem w_spec_l10Assignment (h : Heap) (a_ : List (List Int)) (aa_ : Option Addr) (ca_ : Nat) (ra_ : Rd cd39 h (Lt h) aa_ ca_ a_) (n : Nat) (r : (List Int) × Bool) (hF : spec_l10Assignment a_ n = some r) :
    Fn Try.prog 83 #[.slice aa_ a_.length ca_] h fun v h' => ∃ (a0 : Option Addr) (c0 : Nat), v = .tuple #[.slice a0 r.1.length c0, .bool r.2] ∧ Hold h h' [own cd2 a0 r.1.length c0 r.1] := by
  unfold spec_l10Assignment at hF
  refine Fn_enter (args := [.slice aa_ a_.length ca_]) Try.func83 rfl (by kernel_rfl) (by kernel_rfl) (fun w0 _ => ?_)
  have H0 := Hold.init h
  refine Run_seq ?_
  refine Run_reg 2 (by kernel_rfl) (L' := [(0, .slice aa_ a_.length ca_)]) ?_ ?_
  · refine QRun_b [.slice none 0 0, .bool false] 0 _ (by kernel_rfl) (fun w => by kernel_rfl) ?_
    exact QRun_done [0] (by kernel_rfl) (by kernel_rfl)
  refine Run_seq ?_
  refine Run_ops ?_
  refine Run_b [.slice aa_ a_.length ca_] 0 _ (by kernel_rfl) (fun w => by kernel_rfl) ?_
  obtain ⟨x1, hx1, hF⟩ := M.bind_some hF
  refine Run_E (by kernel_rfl) ?_
  refine E_call (f := 133) (args := #[.slice aa_ a_.length ca_]) (w_spec_l10Best h a_ aa_ ca_ ra_ _ _ hx1) (by kernel_rfl) (fun v1 h1 hp1 => ?_)
  obtain ⟨a1, c1, a2, c2, rfl, H1⟩ := hp1
  have H2 : Hold h h1 [own cd2 a1 x1.1.length c1 x1.1, own cd2 a2 x1.2.length c2 x1.2] := H0.call H1 rfl
  refine Run_b [.tuple #[.slice a1 x1.1.length c1, .slice a2 x1.2.length c2], .slice a1 x1.1.length c1, .slice a2 x1.2.length c2, .slice a1 x1.1.length c1, .slice a2 x1.2.length c2] 2 _ (by kernel_rfl) (fun w => by kernel_rfl) ?_
  refine Run_nil (by kernel_rfl) ?_
  refine Run_keep [0, 4] (L' := [(0, .slice aa_ a_.length ca_), (4, .slice a1 x1.1.length c1)]) (by kernel_rfl) ?_
  refine Run_seq ?_
  refine Run_reg 4 (by kernel_rfl) (L' := [(0, .slice aa_ a_.length ca_), (4, .slice a1 x1.1.length c1), (6, .int .i64 (w64 ((x1.1.length : Int) - 1)))]) ?_ ?_
  · refine QRun_b [.slice a1 x1.1.length c1, .int .i64 (x1.1.length : Int), .int .i64 (w64 ((x1.1.length : Int) - 1)), .int .i64 (w64 ((x1.1.length : Int) - 1))] 0 _ (by kernel_rfl) (fun w => by kernel_rfl) ?_
    exact QRun_done [0, 4, 6] (by kernel_rfl) (by kernel_rfl)
  refine Run_seq ?_
  refine Run_seq ?_
  obtain ⟨x2, hx2, hF⟩ := M.bind_some hF
  obtain ⟨hx2l, hx2u, hx2⟩ := M.idx_some hx2
  refine Run_reg 5 (by kernel_rfl) (L' := [(0, .slice aa_ a_.length ca_), (4, .slice a1 x1.1.length c1), (6, .int .i64 (w64 ((x1.1.length : Int) - 1))), (22, .bool (x2 == (-1000000000000000)))]) ?_ ?_
  · refine QRun_b [.slice a1 x1.1.length c1, .int .i64 (w64 ((x1.1.length : Int) - 1))] 0 _ (by kernel_rfl) (fun w => by kernel_rfl) ?_
    refine QRun_y (.pointer (some (adr a1 ((w64 ((x1.1.length : Int) - 1)).toNat * 1)))) (by kernel_rfl) (Y_idx (t := 39) (e := 2) (sz := 1) (a := a1) (n := x1.1.length) (cap := c1) (kk := .i64) (i := w64 ((x1.1.length : Int) - 1)) (by kernel_rfl) Try.underlying39 (by kernel_rfl) ((H2.rd 0 rfl).cell hx2).1 hx2l hx2u) ?_
    refine QRun_y (.int .i64 x2) (by kernel_rfl) (Y_load1 (t := 2) (p := adr a1 ((w64 ((x1.1.length : Int) - 1)).toNat * 1)) (v := .int .i64 x2) (by kernel_rfl) (fun w => by kernel_rfl) (cd2_cell (H2.rd 0 rfl) hx2)) ?_
    refine QRun_b [.bool (x2 == (-1000000000000000))] 4 _ (by kernel_rfl) (fun w => by kernel_rfl) ?_
    exact QRun_done [0, 4, 6, 22] (by kernel_rfl) (by kernel_rfl)
  refine Run_cond (b := x2 == (-1000000000000000)) (by kernel_rfl) (fun hb1 => ?_) (fun hb1 => ?_)
  · have hF := (M.ite_some hF).1 hb1
    refine Run_seq ?_
    refine Run_reg 2 (by kernel_rfl) (L' := [(2, .slice none 0 0), (3, .bool false)]) ?_ ?_
    · refine QRun_b [.slice none 0 0, .bool false] 0 _ (by kernel_rfl) (fun w => by kernel_rfl) ?_
      exact QRun_done [2, 3] (by kernel_rfl) (by kernel_rfl)
    have hF := M.ret_some hF
    subst hF
    have H3 := H2.empty cd2
    have H4 : Hold h h1 [own cd2 none 0 0 []] := H3.pick [0] (by kernel_rfl)
    exact Run_ret2 rfl (ResV_tmp (v := .slice none 0 0) (by kernel_rfl)) (ResV_tmp (v := .bool false) (by kernel_rfl)) ⟨none, 0, rfl, H4⟩
  · have hF := (M.ite_some hF).2 hb1
    refine Run_skip ?_
    refine Run_seq ?_
    refine Run_ops ?_
    refine Run_E (by kernel_rfl) ?_
    refine E_lit (C := cd2) (n := 0) (l := ([] : List Int)) (cs := []) H2 (fun w => by kernel_rfl) (Enc.nil _ _) rfl (by decide) (fun a3 h2 H5 => ?_)
    refine Run_b [.slice a3 0 0] 1 _ (by kernel_rfl) (fun w => by kernel_rfl) ?_
    refine Run_nil (by kernel_rfl) ?_
    refine Run_keep [0, 4, 6, 7] (L' := [(0, .slice aa_ a_.length ca_), (4, .slice a1 x1.1.length c1), (6, .int .i64 (w64 ((x1.1.length : Int) - 1))), (7, .slice a3 0 0)]) (by kernel_rfl) ?_
    refine Run_seq ?_
    refine Run_seq ?_
    refine Run_reg 1 (by kernel_rfl) (L' := [(0, .slice aa_ a_.length ca_), (4, .slice a1 x1.1.length c1), (6, .int .i64 (w64 ((x1.1.length : Int) - 1))), (7, .slice a3 0 0), (8, .int .i64 0)]) ?_ ?_
    · refine QRun_b [.int .i64 0] 0 _ (by kernel_rfl) (fun w => by kernel_rfl) ?_
      exact QRun_done [0, 4, 6, 7, 8] (by kernel_rfl) (by kernel_rfl)
    obtain ⟨x3, gx3, hF⟩ := M.bind_some hF
    obtain ⟨hloy1, hhiy1, gx3⟩ := M.for_start gx3
    refine Run_join (fun L' h' => ∃ (a5 : Option Addr) (c4 : Nat), L' = [(7, .slice a5 x3.2.length c4)] ∧ Hold h h' [own cd2 a5 x3.2.length c4 x3.2]) ?_ ?_
    · rintro _ h4 ⟨a5, c4, rfl, H7⟩
      refine Run_seq ?_
      refine Run_reg 3 (by kernel_rfl) (L' := [(2, .slice a5 x3.2.length c4), (3, .bool true)]) ?_ ?_
      · refine QRun_b [.slice a5 x3.2.length c4, .slice a5 x3.2.length c4, .bool true] 0 _ (by kernel_rfl) (fun w => by kernel_rfl) ?_
        exact QRun_done [2, 3] (by kernel_rfl) (by kernel_rfl)
      have hF := M.ret_some hF
      subst hF
      exact Run_ret2 rfl (ResV_tmp (v := .slice a5 x3.2.length c4) (by kernel_rfl)) (ResV_tmp (v := .bool true) (by kernel_rfl)) ⟨a5, c4, rfl, H7⟩
    · refine Run_block ?_
      have hn1 := (H5.len 0 rfl)
      have H26 : Hold h h2 [own cd2 a3 (([] : List Int).length) 0 ([] : List Int), own cd2 a1 x1.1.length c1 x1.1, own cd2 a2 x1.2.length c2 x1.2] := by rw [hn1]; exact H5
      have H27 : Hold h h2 [own cd2 a1 x1.1.length c1 x1.1, own cd2 a3 (([] : List Int).length) 0 ([] : List Int)] := H26.pick [1, 0] (by kernel_rfl)
      refine Run_keep [0, 4, 6, 7, 8] (L' := [(0, .slice aa_ a_.length ca_), (4, .slice a1 x1.1.length c1), (6, .int .i64 (w64 ((x1.1.length : Int) - 1))), (7, .slice a3 (([] : List Int).length) 0), (8, .int .i64 0)]) (by first | (rw [hn1]; kernel_rfl) | (simp only [hn1]; kernel_rfl) | kernel_rfl) ?_
      refine Run_loop (fun m L' h' => ∃ (i1 : Int) (s1 : Int × (List Int)) (a4 : Option Addr) (c3 : Nat), 0 ≤ i1 ∧ M.forN (a_.length : Int) _ _ n m i1 s1 = some x3 ∧ L' = [(0, .slice aa_ a_.length ca_), (4, .slice a1 x1.1.length c1), (6, .int .i64 s1.1), (7, .slice a4 s1.2.length c3), (8, .int .i64 i1)] ∧ Hold h h' [own cd2 a1 x1.1.length c1 x1.1, own cd2 a4 s1.2.length c3 s1.2]) ((a_.length : Int) - 0 : Int).toNat ⟨0, ((w64 ((x1.1.length : Int) - 1)), ([] : List Int)), a3, 0, Int.le_refl _, gx3, rfl, H27⟩ ?_
      rintro my1 _ h3 ⟨i1, s1, a4, c3, hloy1', gx3, rfl, H6⟩
      refine Run_seq ?_
      refine Run_seq ?_
      refine Run_reg 4 (by kernel_rfl) (L' := [(0, .slice aa_ a_.length ca_), (4, .slice a1 x1.1.length c1), (6, .int .i64 s1.1), (7, .slice a4 s1.2.length c3), (8, .int .i64 i1), (27, .bool (decide (i1 < (a_.length : Int))))]) ?_ ?_
      · refine QRun_b [.int .i64 i1, .slice aa_ a_.length ca_, .int .i64 (a_.length : Int), .bool (decide (i1 < (a_.length : Int)))] 0 _ (by kernel_rfl) (fun w => by kernel_rfl) ?_
        exact QRun_done [0, 4, 6, 7, 8, 27] (by kernel_rfl) (by kernel_rfl)
      refine Run_cond (b := decide (i1 < (a_.length : Int))) (by kernel_rfl) (fun hb2 => ?_) (fun hb2 => ?_)
      · obtain ⟨my1, y1, rfl, hB1, hgoy1, houty1⟩ := M.for_go gx3 hb2
        have hlty1 := of_decide_eq_true hb2
        refine Run_skip ?_
        refine Run_seq ?_
        refine Run_block ?_
        refine Run_seq ?_
        refine Run_reg 1 (by kernel_rfl) (L' := [(0, .slice aa_ a_.length ca_), (4, .slice a1 x1.1.length c1), (6, .int .i64 s1.1), (7, .slice a4 s1.2.length c3), (8, .int .i64 i1), (9, .int .i64 0)]) ?_ ?_
        · refine QRun_b [.int .i64 0] 0 _ (by kernel_rfl) (fun w => by kernel_rfl) ?_
          exact QRun_done [0, 4, 6, 7, 8, 9] (by kernel_rfl) (by kernel_rfl)
        obtain ⟨x4, gx4, hB1⟩ := M.bind_some hB1
        obtain ⟨hloy2, hhiy2, gx4⟩ := M.for_start gx4
        refine Run_join (fun L' h' => ∃ (a7 : Option Addr) (c6 : Nat), L' = [(0, .slice aa_ a_.length ca_), (4, .slice a1 x1.1.length c1), (6, .int .i64 x4.1), (7, .slice a7 x4.2.length c6), (8, .int .i64 i1)] ∧ Hold h h' [own cd2 a1 x1.1.length c1 x1.1, own cd2 a7 x4.2.length c6 x4.2]) ?_ ?_
        · rintro _ h6 ⟨a7, c6, rfl, H9⟩
          refine Run_blk ?_
          refine Run_reg 3 (by kernel_rfl) (L' := [(0, .slice aa_ a_.length ca_), (4, .slice a1 x1.1.length c1), (6, .int .i64 x4.1), (7, .slice a7 x4.2.length c6), (8, .int .i64 (i1 + 1))]) ?_ ?_
          · refine QRun_b [.int .i64 i1] 0 _ (by kernel_rfl) (fun w => by kernel_rfl) ?_
            refine QRun_y (.int .i64 (i1 + 1)) (by kernel_rfl) (Y_eq (v := .int .i64 (w64 (i1 + 1))) (Y_pure (fun w => by kernel_rfl)) (by rw [w64_eq _ (by omega)])) ?_
            refine QRun_b [.int .i64 (i1 + 1)] 2 _ (by kernel_rfl) (fun w => by kernel_rfl) ?_
            exact QRun_done [0, 4, 6, 7, 8] (by kernel_rfl) (by kernel_rfl)
          have H20 : Hold h h6 [own cd2 a7 x4.2.length c6 x4.2, own cd2 a1 x1.1.length c1 x1.1] := H9.pick [1, 0] (by kernel_rfl)
          have H21 : Hold h h6 [own cd2 a1 x1.1.length c1 x1.1, own cd2 a7 x4.2.length c6 x4.2] := H20.pick [1, 0] (by kernel_rfl)
          have hB1 := M.ret_some hB1
          have gx3 := hgoy1 _ hB1.symm
          exact Run_again [0, 4, 6, 7, 8] (by kernel_rfl) my1 (Nat.lt_succ_self _) ⟨i1 + 1, (x4.1, x4.2), a7, c6, by omega, gx3, rfl, H21⟩
        · refine Run_block ?_
          have H22 : Hold h h3 [own cd2 a4 s1.2.length c3 s1.2, own cd2 a1 x1.1.length c1 x1.1] := H6.pick [1, 0] (by kernel_rfl)
          have H23 : Hold h h3 [own cd2 a1 x1.1.length c1 x1.1, own cd2 a4 s1.2.length c3 s1.2] := H22.pick [1, 0] (by kernel_rfl)
          refine Run_keep [0, 4, 6, 7, 8, 9] (L' := [(0, .slice aa_ a_.length ca_), (4, .slice a1 x1.1.length c1), (6, .int .i64 s1.1), (7, .slice a4 s1.2.length c3), (8, .int .i64 i1), (9, .int .i64 0)]) (by kernel_rfl) ?_
          refine Run_loop (fun m L' h' => ∃ (i2 : Int) (s2 : Int × (List Int)) (a6 : Option Addr) (c5 : Nat), 0 ≤ i2 ∧ M.forN (a_.length : Int) _ _ n m i2 s2 = some x4 ∧ L' = [(0, .slice aa_ a_.length ca_), (4, .slice a1 x1.1.length c1), (6, .int .i64 s2.1), (7, .slice a6 s2.2.length c5), (8, .int .i64 i1), (9, .int .i64 i2)] ∧ Hold h h' [own cd2 a1 x1.1.length c1 x1.1, own cd2 a6 s2.2.length c5 s2.2]) ((a_.length : Int) - 0 : Int).toNat ⟨0, (s1.1, s1.2), a4, c3, Int.le_refl _, gx4, rfl, H23⟩ ?_
          rintro my2 _ h5 ⟨i2, s2, a6, c5, hloy2', gx4, rfl, H8⟩
          refine Run_seq ?_
          refine Run_seq ?_
          refine Run_reg 4 (by kernel_rfl) (L' := [(0, .slice aa_ a_.length ca_), (4, .slice a1 x1.1.length c1), (6, .int .i64 s2.1), (7, .slice a6 s2.2.length c5), (8, .int .i64 i1), (9, .int .i64 i2), (33, .bool (decide (i2 < (a_.length : Int))))]) ?_ ?_
          · refine QRun_b [.int .i64 i2, .slice aa_ a_.length ca_, .int .i64 (a_.length : Int), .bool (decide (i2 < (a_.length : Int)))] 0 _ (by kernel_rfl) (fun w => by kernel_rfl) ?_
            exact QRun_done [0, 4, 6, 7, 8, 9, 33] (by kernel_rfl) (by kernel_rfl)
          refine Run_cond (b := decide (i2 < (a_.length : Int))) (by kernel_rfl) (fun hb3 => ?_) (fun hb3 => ?_)
          · obtain ⟨my2, y2, rfl, hB2, hgoy2, houty2⟩ := M.for_go gx4 hb3
            have hlty2 := of_decide_eq_true hb3
            refine Run_skip ?_
            refine Run_seq ?_
            refine Run_block ?_
            refine Run_seq ?_
            obtain ⟨u1, hz1, hB2⟩ := M.bind_some hB2
            have hz1 := M.guard_some hz1
            obtain ⟨x5, gx5, hB2⟩ := M.bind_some hB2
            obtain ⟨x8, gx8, hB2⟩ := M.bind_some hB2
            refine Run_draw 39 mixed (by kernel_rfl) (by kernel_rfl) (L' := [(0, .slice aa_ a_.length ca_), (4, .slice a1 x1.1.length c1), (6, .int .i64 s2.1), (7, .slice a6 s2.2.length c5), (8, .int .i64 i1), (9, .int .i64 i2), (74, .bool x8)]) ?_ ?_
            · refine QRun_b [.int .i64 s2.1, .int .i64 i2, .int .u64 (IntKind.u64.wrap (i2))] 0 _ (by kernel_rfl) (fun w => by kernel_rfl) ?_
              refine QRun_y (.int .i64 (ishr .i64 s2.1 (IntKind.u64.wrap (i2)))) (by kernel_rfl) (Y_shr (k := .i64) (x := s2.1) (kk := .u64) (y := IntKind.u64.wrap (i2)) (by kernel_rfl) hz1) ?_
              refine QRun_b [.int .i64 (ibit .and .i64 (ishr .i64 s2.1 (IntKind.u64.wrap (i2))) 1), .bool ((ibit .and .i64 (ishr .i64 s2.1 (IntKind.u64.wrap (i2))) 1) == 1)] 4 _ (by kernel_rfl) (fun w => by kernel_rfl) ?_
              refine QRun_seq 16 [(0, .slice aa_ a_.length ca_), (4, .slice a1 x1.1.length c1), (6, .int .i64 s2.1), (7, .slice a6 s2.2.length c5), (8, .int .i64 i1), (9, .int .i64 i2), (51, .bool x5)] ?_ ?_
              · rcases Bool.eq_false_or_eq_true ((ibit .and .i64 (ishr .i64 s2.1 (IntKind.u64.wrap (i2))) 1) == 1) with hb4 | hb4
                · refine QRun_bool ((ibit .and .i64 (ishr .i64 s2.1 (IntKind.u64.wrap (i2))) 1) == 1) true (by kernel_rfl) (fun w => by kernel_rfl) hb4 ?_
                  have gx5 := (M.ite_some gx5).1 hb4
                  obtain ⟨x6, hx3, gx5⟩ := M.bind_some gx5
                  obtain ⟨hx3l, hx3u, hx3⟩ := M.idx_some hx3
                  obtain ⟨a8, c7, hc1, r1⟩ := ra_.row hx3
                  obtain ⟨x7, hx4, gx5⟩ := M.bind_some gx5
                  obtain ⟨hx4l, hx4u, hx4⟩ := M.idx_some hx4
                  have gx5 := M.ret_some gx5
                  refine QRun_b [.slice aa_ a_.length ca_, .int .i64 i1] 7 _ (by kernel_rfl) (fun w => by kernel_rfl) ?_
                  refine QRun_y (.pointer (some (adr aa_ (i1.toNat * 1)))) (by kernel_rfl) (Y_idx (t := 37) (e := 39) (sz := 1) (a := aa_) (n := a_.length) (cap := ca_) (kk := .i64) (i := i1) (by kernel_rfl) Try.underlying37 (by kernel_rfl) ((ra_.at H8.ext).cell hx3).1 hx3l hx3u) ?_
                  refine QRun_y (.slice a8 x6.length c7) (by kernel_rfl) (Y_load1 (t := 39) (p := adr aa_ (i1.toNat * 1)) (v := .slice a8 x6.length c7) (by kernel_rfl) (fun w => by kernel_rfl) (cell_at H8.ext hc1)) ?_
                  refine QRun_b [.int .i64 i2] 11 _ (by kernel_rfl) (fun w => by kernel_rfl) ?_
                  refine QRun_y (.pointer (some (adr a8 (i2.toNat * 1)))) (by kernel_rfl) (Y_idx (t := 39) (e := 2) (sz := 1) (a := a8) (n := x6.length) (cap := c7) (kk := .i64) (i := i2) (by kernel_rfl) Try.underlying39 (by kernel_rfl) ((r1.at H8.ext).cell hx4).1 hx4l hx4u) ?_
                  refine QRun_y (.int .i64 x7) (by kernel_rfl) (Y_load1 (t := 2) (p := adr a8 (i2.toNat * 1)) (v := .int .i64 x7) (by kernel_rfl) (fun w => by kernel_rfl) (cd2_cell (r1.at H8.ext) hx4)) ?_
                  refine QRun_b [.bool (x7 != (-1000000000000000))] 14 _ (by kernel_rfl) (fun w => by kernel_rfl) ?_
                  refine QRun_bool (x7 != (-1000000000000000)) x5 (by kernel_rfl) (fun w => by kernel_rfl) gx5 ?_
                  exact QRun_done [0, 4, 6, 7, 8, 9, 51] (by kernel_rfl) (by kernel_rfl)
                · refine QRun_bool ((ibit .and .i64 (ishr .i64 s2.1 (IntKind.u64.wrap (i2))) 1) == 1) false (by kernel_rfl) (fun w => by kernel_rfl) hb4 ?_
                  have gx5 := M.ret_some ((M.ite_some gx5).2 hb4)
                  refine QRun_n (by kernel_rfl) ?_
                  refine QRun_n (by kernel_rfl) ?_
                  refine QRun_n (by kernel_rfl) ?_
                  refine QRun_n (by kernel_rfl) ?_
                  refine QRun_n (by kernel_rfl) ?_
                  refine QRun_n (by kernel_rfl) ?_
                  refine QRun_n (by kernel_rfl) ?_
                  refine QRun_n (by kernel_rfl) ?_
                  refine QRun_bool false x5 (by kernel_rfl) (fun w => by kernel_rfl) gx5 ?_
                  exact QRun_done [0, 4, 6, 7, 8, 9, 51] (by kernel_rfl) (by kernel_rfl)
              refine QRun_seq 39 [(0, .slice aa_ a_.length ca_), (4, .slice a1 x1.1.length c1), (6, .int .i64 s2.1), (7, .slice a6 s2.2.length c5), (8, .int .i64 i1), (9, .int .i64 i2), (74, .bool x8)] ?_ ?_
              · rcases Bool.eq_false_or_eq_true x5 with hb5 | hb5
                · refine QRun_bool x5 true (by kernel_rfl) (fun w => by kernel_rfl) hb5 ?_
                  have gx8 := (M.ite_some gx8).1 hb5
                  obtain ⟨x9, hx5, gx8⟩ := M.bind_some gx8
                  obtain ⟨hx5l, hx5u, hx5⟩ := M.idx_some hx5
                  obtain ⟨a9, c8, hc2, r2⟩ := ra_.row hx5
                  obtain ⟨x10, hx6, gx8⟩ := M.bind_some gx8
                  obtain ⟨hx6l, hx6u, hx6⟩ := M.idx_some hx6
                  obtain ⟨u2, hz2, gx8⟩ := M.bind_some gx8
                  have hz2 := M.guard_some hz2
                  obtain ⟨x11, hx7, gx8⟩ := M.bind_some gx8
                  obtain ⟨hx7l, hx7u, hx7⟩ := M.idx_some hx7
                  obtain ⟨x12, hx8, gx8⟩ := M.bind_some gx8
                  obtain ⟨x13, hx9, gx8⟩ := M.bind_some gx8
                  obtain ⟨hx9l, hx9u, hx9⟩ := M.idx_some hx9
                  have gx8 := M.ret_some gx8
                  refine QRun_b [.slice aa_ a_.length ca_, .int .i64 i1] 17 _ (by kernel_rfl) (fun w => by kernel_rfl) ?_
                  refine QRun_y (.pointer (some (adr aa_ (i1.toNat * 1)))) (by kernel_rfl) (Y_idx (t := 37) (e := 39) (sz := 1) (a := aa_) (n := a_.length) (cap := ca_) (kk := .i64) (i := i1) (by kernel_rfl) Try.underlying37 (by kernel_rfl) ((ra_.at H8.ext).cell hx5).1 hx5l hx5u) ?_
                  refine QRun_y (.slice a9 x9.length c8) (by kernel_rfl) (Y_load1 (t := 39) (p := adr aa_ (i1.toNat * 1)) (v := .slice a9 x9.length c8) (by kernel_rfl) (fun w => by kernel_rfl) (cell_at H8.ext hc2)) ?_
                  refine QRun_b [.int .i64 i2] 21 _ (by kernel_rfl) (fun w => by kernel_rfl) ?_
                  refine QRun_y (.pointer (some (adr a9 (i2.toNat * 1)))) (by kernel_rfl) (Y_idx (t := 39) (e := 2) (sz := 1) (a := a9) (n := x9.length) (cap := c8) (kk := .i64) (i := i2) (by kernel_rfl) Try.underlying39 (by kernel_rfl) ((r2.at H8.ext).cell hx6).1 hx6l hx6u) ?_
                  refine QRun_y (.int .i64 x10) (by kernel_rfl) (Y_load1 (t := 2) (p := adr a9 (i2.toNat * 1)) (v := .int .i64 x10) (by kernel_rfl) (fun w => by kernel_rfl) (cd2_cell (r2.at H8.ext) hx6)) ?_
                  refine QRun_b [.slice a1 x1.1.length c1, .int .i64 s2.1, .int .i64 i2, .int .u64 (IntKind.u64.wrap (i2))] 24 _ (by kernel_rfl) (fun w => by kernel_rfl) ?_
                  refine QRun_y (.int .i64 (ishl .i64 1 (IntKind.u64.wrap (i2)))) (by kernel_rfl) (Y_shl (k := .i64) (x := 1) (kk := .u64) (y := IntKind.u64.wrap (i2)) (by kernel_rfl) hz2) ?_
                  refine QRun_b [.int .i64 (w64 (s2.1 - (ishl .i64 1 (IntKind.u64.wrap (i2)))))] 29 _ (by kernel_rfl) (fun w => by kernel_rfl) ?_
                  refine QRun_y (.pointer (some (adr a1 ((w64 (s2.1 - (ishl .i64 1 (IntKind.u64.wrap (i2))))).toNat * 1)))) (by kernel_rfl) (Y_idx (t := 39) (e := 2) (sz := 1) (a := a1) (n := x1.1.length) (cap := c1) (kk := .i64) (i := w64 (s2.1 - (ishl .i64 1 (IntKind.u64.wrap (i2))))) (by kernel_rfl) Try.underlying39 (by kernel_rfl) ((H8.rd 0 rfl).cell hx7).1 hx7l hx7u) ?_
                  refine QRun_y (.int .i64 x11) (by kernel_rfl) (Y_load1 (t := 2) (p := adr a1 ((w64 (s2.1 - (ishl .i64 1 (IntKind.u64.wrap (i2))))).toNat * 1)) (v := .int .i64 x11) (by kernel_rfl) (fun w => by kernel_rfl) (cd2_cell (H8.rd 0 rfl) hx7)) ?_
                  refine QRun_y (.int .i64 x12) (by kernel_rfl) (Y_callq (f := 117) (args := #[.int .i64 x10, .int .i64 x11]) (v := .int .i64 x12) (by kernel_rfl) (w_spec_l01Times h5 x10 x11 _ _ hx8)) ?_
                  refine QRun_b [.slice a1 x1.1.length c1, .int .i64 s2.1] 33 _ (by kernel_rfl) (fun w => by kernel_rfl) ?_
                  refine QRun_y (.pointer (some (adr a1 (s2.1.toNat * 1)))) (by kernel_rfl) (Y_idx (t := 39) (e := 2) (sz := 1) (a := a1) (n := x1.1.length) (cap := c1) (kk := .i64) (i := s2.1) (by kernel_rfl) Try.underlying39 (by kernel_rfl) ((H8.rd 0 rfl).cell hx9).1 hx9l hx9u) ?_
                  refine QRun_y (.int .i64 x13) (by kernel_rfl) (Y_load1 (t := 2) (p := adr a1 (s2.1.toNat * 1)) (v := .int .i64 x13) (by kernel_rfl) (fun w => by kernel_rfl) (cd2_cell (H8.rd 0 rfl) hx9)) ?_
                  refine QRun_b [.bool (x12 == x13)] 37 _ (by kernel_rfl) (fun w => by kernel_rfl) ?_
                  refine QRun_bool (x12 == x13) x8 (by kernel_rfl) (fun w => by kernel_rfl) gx8 ?_
                  exact QRun_done [0, 4, 6, 7, 8, 9, 74] (by kernel_rfl) (by kernel_rfl)
                · refine QRun_bool x5 false (by kernel_rfl) (fun w => by kernel_rfl) hb5 ?_
                  have gx8 := M.ret_some ((M.ite_some gx8).2 hb5)
                  refine QRun_n (by kernel_rfl) ?_
                  refine QRun_n (by kernel_rfl) ?_
                  refine QRun_n (by kernel_rfl) ?_
                  refine QRun_n (by kernel_rfl) ?_
                  refine QRun_n (by kernel_rfl) ?_
                  refine QRun_n (by kernel_rfl) ?_
                  refine QRun_n (by kernel_rfl) ?_
                  refine QRun_n (by kernel_rfl) ?_
                  refine QRun_n (by kernel_rfl) ?_
                  refine QRun_n (by kernel_rfl) ?_
                  refine QRun_n (by kernel_rfl) ?_
                  refine QRun_n (by kernel_rfl) ?_
                  refine QRun_n (by kernel_rfl) ?_
                  refine QRun_n (by kernel_rfl) ?_
                  refine QRun_n (by kernel_rfl) ?_
                  refine QRun_n (by kernel_rfl) ?_
                  refine QRun_n (by kernel_rfl) ?_
                  refine QRun_n (by kernel_rfl) ?_
                  refine QRun_n (by kernel_rfl) ?_
                  refine QRun_n (by kernel_rfl) ?_
                  refine QRun_n (by kernel_rfl) ?_
                  refine QRun_bool false x8 (by kernel_rfl) (fun w => by kernel_rfl) gx8 ?_
                  exact QRun_done [0, 4, 6, 7, 8, 9, 74] (by kernel_rfl) (by kernel_rfl)
              exact QRun_done [0, 4, 6, 7, 8, 9, 74] (by kernel_rfl) (by kernel_rfl)
            refine Run_cond (b := x8) (by kernel_rfl) (fun hb6 => ?_) (fun hb6 => ?_)
            · have hB2 := (M.ite_some hB2).1 hb6
              refine Run_seq ?_
              refine Run_ops ?_
              refine Run_b [.slice a6 s2.2.length c5, .int .i64 i2] 0 _ (by kernel_rfl) (fun w => by kernel_rfl) ?_
              refine Run_E (by kernel_rfl) ?_
              refine E_lit (C := cd2) (n := 1) (l := ([i2] : List Int)) (cs := [.int .i64 i2]) H8 (fun w => by kernel_rfl) (Enc.consE (cd2_own i2 _) (Enc.nil _ _) rfl) rfl (by decide) (fun a10 h7 H10 => ?_)
              obtain ⟨l1, hl1, hB2⟩ := M.bind_some hB2
              have hl1 := M.app_some hl1
              have H11 : Hold h h7 [own cd2 a6 s2.2.length c5 s2.2, own cd2 a10 1 1 ([i2] : List Int), own cd2 a1 x1.1.length c1 x1.1] := H10.pick [2, 0, 1] (by kernel_rfl)
              have H12 : Hold h h7 [own cd2 a10 1 1 ([i2] : List Int), own cd2 a6 s2.2.length c5 s2.2, own cd2 a1 x1.1.length c1 x1.1] := H11.pick [1, 0, 2] (by kernel_rfl)
              have H13 : Hold h h7 [own cd2 a6 s2.2.length c5 s2.2, own cd2 a10 1 1 ([i2] : List Int), own cd2 a1 x1.1.length c1 x1.1] := H12.pick [1, 0, 2] (by kernel_rfl)
              refine Run_E (by kernel_rfl) ?_
              refine E_app (C := cd2) (t := 39) (ty := 39) (n := s2.2.length) (m := 1) H13 cd2_ti rfl Try.underlying39 (by decide) (by kernel_rfl) hl1 (fun a11 c9 h8 H14 => ?_)
              refine Run_b [.slice a11 l1.length c9] 4 _ (by kernel_rfl) (fun w => by kernel_rfl) ?_
              refine Run_nil (by kernel_rfl) ?_
              refine Run_keep [0, 4, 6, 7, 8, 9] (L' := [(0, .slice aa_ a_.length ca_), (4, .slice a1 x1.1.length c1), (6, .int .i64 s2.1), (7, .slice a11 l1.length c9), (8, .int .i64 i1), (9, .int .i64 i2)]) (by kernel_rfl) ?_
              refine Run_seq ?_
              obtain ⟨u3, hz3, hB2⟩ := M.bind_some hB2
              have hz3 := M.guard_some hz3
              refine Run_reg 6 (by kernel_rfl) (L' := [(0, .slice aa_ a_.length ca_), (4, .slice a1 x1.1.length c1), (6, .int .i64 (w64 (s2.1 - (ishl .i64 1 (IntKind.u64.wrap (i2)))))), (7, .slice a11 l1.length c9), (8, .int .i64 i1)]) ?_ ?_
              · refine QRun_b [.int .i64 s2.1, .int .i64 i2, .int .u64 (IntKind.u64.wrap (i2))] 0 _ (by kernel_rfl) (fun w => by kernel_rfl) ?_
                refine QRun_y (.int .i64 (ishl .i64 1 (IntKind.u64.wrap (i2)))) (by kernel_rfl) (Y_shl (k := .i64) (x := 1) (kk := .u64) (y := IntKind.u64.wrap (i2)) (by kernel_rfl) hz3) ?_
                refine QRun_b [.int .i64 (w64 (s2.1 - (ishl .i64 1 (IntKind.u64.wrap (i2))))), .int .i64 (w64 (s2.1 - (ishl .i64 1 (IntKind.u64.wrap (i2)))))] 4 _ (by kernel_rfl) (fun w => by kernel_rfl) ?_
                exact QRun_done [0, 4, 6, 7, 8] (by kernel_rfl) (by kernel_rfl)
              refine Run_exit (k' := _) rfl ?_
              have H15 : Hold h h8 [own cd2 a1 x1.1.length c1 x1.1, own cd2 a11 l1.length c9 l1] := H14.pick [1, 0] (by kernel_rfl)
              have hB2 := M.ret_some hB2
              have gx4 := houty2 _ hB2.symm
              subst gx4
              exact Run_fall [0, 4, 6, 7, 8] (by kernel_rfl) ⟨a11, c9, rfl, H15⟩
            · have hB2 := (M.ite_some hB2).2 hb6
              refine Run_skip ?_
              refine Run_blk ?_
              refine Run_reg 3 (by kernel_rfl) (L' := [(0, .slice aa_ a_.length ca_), (4, .slice a1 x1.1.length c1), (6, .int .i64 s2.1), (7, .slice a6 s2.2.length c5), (8, .int .i64 i1), (9, .int .i64 (i2 + 1))]) ?_ ?_
              · refine QRun_b [.int .i64 i2] 0 _ (by kernel_rfl) (fun w => by kernel_rfl) ?_
                refine QRun_y (.int .i64 (i2 + 1)) (by kernel_rfl) (Y_eq (v := .int .i64 (w64 (i2 + 1))) (Y_pure (fun w => by kernel_rfl)) (by rw [w64_eq _ (by omega)])) ?_
                refine QRun_b [.int .i64 (i2 + 1)] 2 _ (by kernel_rfl) (fun w => by kernel_rfl) ?_
                exact QRun_done [0, 4, 6, 7, 8, 9] (by kernel_rfl) (by kernel_rfl)
              have H16 : Hold h h5 [own cd2 a6 s2.2.length c5 s2.2, own cd2 a1 x1.1.length c1 x1.1] := H8.pick [1, 0] (by kernel_rfl)
              have H17 : Hold h h5 [own cd2 a1 x1.1.length c1 x1.1, own cd2 a6 s2.2.length c5 s2.2] := H16.pick [1, 0] (by kernel_rfl)
              have hB2 := M.ret_some hB2
              have gx4 := hgoy2 _ hB2.symm
              exact Run_again [0, 4, 6, 7, 8, 9] (by kernel_rfl) my2 (Nat.lt_succ_self _) ⟨i2 + 1, (s2.1, s2.2), a6, c5, by omega, gx4, rfl, H17⟩
          · have gx4 := M.for_end gx4 hb3
            subst gx4
            refine Run_exit (k' := _) rfl ?_
            have H18 : Hold h h5 [own cd2 a6 s2.2.length c5 s2.2, own cd2 a1 x1.1.length c1 x1.1] := H8.pick [1, 0] (by kernel_rfl)
            have H19 : Hold h h5 [own cd2 a1 x1.1.length c1 x1.1, own cd2 a6 s2.2.length c5 s2.2] := H18.pick [1, 0] (by kernel_rfl)
            exact Run_fall [0, 4, 6, 7, 8] (by kernel_rfl) ⟨a6, c5, rfl, H19⟩
      · have gx3 := M.for_end gx3 hb2
        subst gx3
        refine Run_exit (k' := _) rfl ?_
        have H24 : Hold h h3 [own cd2 a4 s1.2.length c3 s1.2, own cd2 a1 x1.1.length c1 x1.1] := H6.pick [1, 0] (by kernel_rfl)
        have H25 : Hold h h3 [own cd2 a4 s1.2.length c3 s1.2] := H24.pick [0] (by kernel_rfl)
        exact Run_fall [7] (by kernel_rfl) ⟨a4, c3, rfl, H25⟩

set_option maxRecDepth 100000 in
set_option maxHeartbeats 4000000 in
theorem w_spec_l02Bottom (h : Heap) (m_ : Int) (n_ : Int) (n : Nat) (r : (List (List Int))) (hF : spec_l02Bottom m_ n_ n = some r) :
    Fn Try.prog 84 #[.int .i64 m_, .int .i64 n_] h fun v h' => ∃ (a0 : Option Addr) (c0 : Nat), v = .slice a0 r.length c0 ∧ Hold h h' [own cd39 a0 r.length c0 r] := by
  unfold spec_l02Bottom at hF
  refine Fn_enter (args := [.int .i64 m_, .int .i64 n_]) Try.func84 rfl (by kernel_rfl) (by kernel_rfl) (fun w0 _ => ?_)
  have H0 := Hold.init h
  refine Run_seq ?_
  refine Run_reg 1 (by kernel_rfl) (L' := [(0, .int .i64 m_), (1, .int .i64 n_)]) ?_ ?_
  · refine QRun_b [.slice none 0 0] 0 _ (by kernel_rfl) (fun w => by kernel_rfl) ?_
    exact QRun_done [0, 1] (by kernel_rfl) (by kernel_rfl)
  refine Run_seq ?_
  refine Run_ops ?_
  refine Run_E (by kernel_rfl) ?_
  refine E_lit (C := cd39) (n := 0) (l := []) (cs := []) H0 (fun w => by kernel_rfl) (Enc.nil _ _) rfl (by decide) (fun a1 h1 H1 => ?_)
  refine Run_b [.slice a1 0 0] 1 _ (by kernel_rfl) (fun w => by kernel_rfl) ?_
  refine Run_nil (by kernel_rfl) ?_
  refine Run_keep [0, 1, 5] (L' := [(0, .int .i64 m_), (1, .int .i64 n_), (5, .slice a1 0 0)]) (by kernel_rfl) ?_
  refine Run_seq ?_
  refine Run_seq ?_
  refine Run_reg 1 (by kernel_rfl) (L' := [(0, .int .i64 m_), (1, .int .i64 n_), (5, .slice a1 0 0), (6, .int .i64 0)]) ?_ ?_
  · refine QRun_b [.int .i64 0] 0 _ (by kernel_rfl) (fun w => by kernel_rfl) ?_
    exact QRun_done [0, 1, 5, 6] (by kernel_rfl) (by kernel_rfl)
  obtain ⟨x1, gx1, hF⟩ := M.bind_some hF
  obtain ⟨hloy1, hhiy1, gx1⟩ := M.for_start gx1
  refine Run_join (fun L' h' => ∃ (a3 : Option Addr) (c2 : Nat), L' = [(5, .slice a3 x1.length c2)] ∧ Hold h h' [own cd39 a3 x1.length c2 x1]) ?_ ?_
  · rintro _ h3 ⟨a3, c2, rfl, H3⟩
    refine Run_seq ?_
    refine Run_reg 2 (by kernel_rfl) (L' := [(4, .slice a3 x1.length c2)]) ?_ ?_
    · refine QRun_b [.slice a3 x1.length c2, .slice a3 x1.length c2] 0 _ (by kernel_rfl) (fun w => by kernel_rfl) ?_
      exact QRun_done [4] (by kernel_rfl) (by kernel_rfl)
    have hF := M.ret_some hF
    subst hF
    exact Run_ret1 rfl (ResV_tmp (v := .slice a3 x1.length c2) (by kernel_rfl)) ⟨a3, c2, rfl, H3⟩
  · refine Run_block ?_
    have hn2 := (H1.len 0 rfl)
    have H23 : Hold h h1 [own cd39 a1 (([] : List (List Int)).length) 0 ([] : List (List Int))] := by rw [hn2]; exact H1
    refine Run_keep [0, 1, 5, 6] (L' := [(0, .int .i64 m_), (1, .int .i64 n_), (5, .slice a1 (([] : List (List Int)).length) 0), (6, .int .i64 0)]) (by first | (rw [hn2]; kernel_rfl) | (simp only [hn2]; kernel_rfl) | kernel_rfl) ?_
    refine Run_loop (fun m L' h' => ∃ (i1 : Int) (s1 : (List (List Int))) (a2 : Option Addr) (c1 : Nat), 0 ≤ i1 ∧ M.forN m_ _ _ n m i1 s1 = some x1 ∧ L' = [(0, .int .i64 m_), (1, .int .i64 n_), (5, .slice a2 s1.length c1), (6, .int .i64 i1)] ∧ Hold h h' [own cd39 a2 s1.length c1 s1]) (m_ - 0 : Int).toNat ⟨0, ([] : List (List Int)), a1, 0, Int.le_refl _, gx1, rfl, H23⟩ ?_
    rintro my1 _ h2 ⟨i1, s1, a2, c1, hloy1', gx1, rfl, H2⟩
    refine Run_seq ?_
    refine Run_seq ?_
    refine Run_reg 3 (by kernel_rfl) (L' := [(0, .int .i64 m_), (1, .int .i64 n_), (5, .slice a2 s1.length c1), (6, .int .i64 i1), (12, .bool (decide (i1 < m_)))]) ?_ ?_
    · refine QRun_b [.int .i64 i1, .int .i64 m_, .bool (decide (i1 < m_))] 0 _ (by kernel_rfl) (fun w => by kernel_rfl) ?_
      exact QRun_done [0, 1, 5, 6, 12] (by kernel_rfl) (by kernel_rfl)
    refine Run_cond (b := decide (i1 < m_)) (by kernel_rfl) (fun hb1 => ?_) (fun hb1 => ?_)
    · obtain ⟨my1, y1, rfl, hB1, hgoy1, houty1⟩ := M.for_go gx1 hb1
      have hlty1 := of_decide_eq_true hb1
      refine Run_skip ?_
      refine Run_seq ?_
      refine Run_block ?_
      refine Run_seq ?_
      refine Run_ops ?_
      refine Run_E (by kernel_rfl) ?_
      refine E_lit (C := cd2) (n := 0) (l := ([] : List Int)) (cs := []) H2 (fun w => by kernel_rfl) (Enc.nil _ _) rfl (by decide) (fun a4 h4 H4 => ?_)
      refine Run_b [.slice a4 0 0] 1 _ (by kernel_rfl) (fun w => by kernel_rfl) ?_
      refine Run_nil (by kernel_rfl) ?_
      refine Run_keep [0, 1, 5, 6, 7] (L' := [(0, .int .i64 m_), (1, .int .i64 n_), (5, .slice a2 s1.length c1), (6, .int .i64 i1), (7, .slice a4 0 0)]) (by kernel_rfl) ?_
      refine Run_seq ?_
      refine Run_seq ?_
      refine Run_reg 1 (by kernel_rfl) (L' := [(0, .int .i64 m_), (1, .int .i64 n_), (5, .slice a2 s1.length c1), (6, .int .i64 i1), (7, .slice a4 0 0), (8, .int .i64 0)]) ?_ ?_
      · refine QRun_b [.int .i64 0] 0 _ (by kernel_rfl) (fun w => by kernel_rfl) ?_
        exact QRun_done [0, 1, 5, 6, 7, 8] (by kernel_rfl) (by kernel_rfl)
      obtain ⟨x2, gx2, hB1⟩ := M.bind_some hB1
      obtain ⟨hloy2, hhiy2, gx2⟩ := M.for_start gx2
      refine Run_join (fun L' h' => ∃ (a6 : Option Addr) (c4 : Nat), L' = [(0, .int .i64 m_), (1, .int .i64 n_), (5, .slice a2 s1.length c1), (6, .int .i64 i1), (7, .slice a6 x2.length c4)] ∧ Hold h h' [own cd39 a2 s1.length c1 s1, own cd2 a6 x2.length c4 x2]) ?_ ?_
      · rintro _ h6 ⟨a6, c4, rfl, H6⟩
        refine Run_ops ?_
        refine Run_b [.slice a2 s1.length c1, .slice a6 x2.length c4] 0 _ (by kernel_rfl) (fun w => by kernel_rfl) ?_
        have H16 : Hold h h6 [own cd2 a6 x2.length c4 x2, own cd39 a2 s1.length c1 s1] := H6.pick [1, 0] (by kernel_rfl)
        refine Run_E (by kernel_rfl) ?_
        refine E_lit1 (ey := 39) (n := x2.length) H16 (fun w => by kernel_rfl) rfl (fun a9 h9 H15 => ?_)
        obtain ⟨l2, hl2, hB1⟩ := M.bind_some hB1
        have hl2 := M.app_some hl2
        have H17 : Hold h h9 [own cd39 a2 s1.length c1 s1, own cd39 a9 1 1 [x2]] := H15.pick [1, 0] (by kernel_rfl)
        have H18 : Hold h h9 [own cd39 a9 1 1 [x2], own cd39 a2 s1.length c1 s1] := H17.pick [1, 0] (by kernel_rfl)
        have H19 : Hold h h9 [own cd39 a2 s1.length c1 s1, own cd39 a9 1 1 [x2]] := H18.pick [1, 0] (by kernel_rfl)
        refine Run_E (by kernel_rfl) ?_
        refine E_app (C := cd39) (t := 37) (ty := 37) (n := s1.length) (m := 1) H19 cd39_ti rfl Try.underlying37 (by decide) (by kernel_rfl) hl2 (fun a10 c6 h10 H20 => ?_)
        refine Run_b [.slice a10 l2.length c6] 4 _ (by kernel_rfl) (fun w => by kernel_rfl) ?_
        refine Run_nil (by kernel_rfl) ?_
        refine Run_keep [0, 1, 5, 6] (L' := [(0, .int .i64 m_), (1, .int .i64 n_), (5, .slice a10 l2.length c6), (6, .int .i64 i1)]) (by kernel_rfl) ?_
        refine Run_blk ?_
        refine Run_reg 3 (by kernel_rfl) (L' := [(0, .int .i64 m_), (1, .int .i64 n_), (5, .slice a10 l2.length c6), (6, .int .i64 (i1 + 1))]) ?_ ?_
        · refine QRun_b [.int .i64 i1] 0 _ (by kernel_rfl) (fun w => by kernel_rfl) ?_
          refine QRun_y (.int .i64 (i1 + 1)) (by kernel_rfl) (Y_eq (v := .int .i64 (w64 (i1 + 1))) (Y_pure (fun w => by kernel_rfl)) (by rw [w64_eq _ (by omega)])) ?_
          refine QRun_b [.int .i64 (i1 + 1)] 2 _ (by kernel_rfl) (fun w => by kernel_rfl) ?_
          exact QRun_done [0, 1, 5, 6] (by kernel_rfl) (by kernel_rfl)
        have hB1 := M.ret_some hB1
        have gx1 := hgoy1 _ hB1.symm
        exact Run_again [0, 1, 5, 6] (by kernel_rfl) my1 (Nat.lt_succ_self _) ⟨i1 + 1, l2, a10, c6, by omega, gx1, rfl, H20⟩
      · refine Run_block ?_
        have hn1 := (H4.len 0 rfl)
        have H21 : Hold h h4 [own cd2 a4 (([] : List Int).length) 0 ([] : List Int), own cd39 a2 s1.length c1 s1] := by rw [hn1]; exact H4
        have H22 : Hold h h4 [own cd39 a2 s1.length c1 s1, own cd2 a4 (([] : List Int).length) 0 ([] : List Int)] := H21.pick [1, 0] (by kernel_rfl)
        refine Run_keep [0, 1, 5, 6, 7, 8] (L' := [(0, .int .i64 m_), (1, .int .i64 n_), (5, .slice a2 s1.length c1), (6, .int .i64 i1), (7, .slice a4 (([] : List Int).length) 0), (8, .int .i64 0)]) (by first | (rw [hn1]; kernel_rfl) | (simp only [hn1]; kernel_rfl) | kernel_rfl) ?_
        refine Run_loop (fun m L' h' => ∃ (i2 : Int) (s2 : (List Int)) (a5 : Option Addr) (c3 : Nat), 0 ≤ i2 ∧ M.forN n_ _ _ n m i2 s2 = some x2 ∧ L' = [(0, .int .i64 m_), (1, .int .i64 n_), (5, .slice a2 s1.length c1), (6, .int .i64 i1), (7, .slice a5 s2.length c3), (8, .int .i64 i2)] ∧ Hold h h' [own cd39 a2 s1.length c1 s1, own cd2 a5 s2.length c3 s2]) (n_ - 0 : Int).toNat ⟨0, ([] : List Int), a4, 0, Int.le_refl _, gx2, rfl, H22⟩ ?_
        rintro my2 _ h5 ⟨i2, s2, a5, c3, hloy2', gx2, rfl, H5⟩
        refine Run_seq ?_
        refine Run_seq ?_
        refine Run_reg 3 (by kernel_rfl) (L' := [(0, .int .i64 m_), (1, .int .i64 n_), (5, .slice a2 s1.length c1), (6, .int .i64 i1), (7, .slice a5 s2.length c3), (8, .int .i64 i2), (18, .bool (decide (i2 < n_)))]) ?_ ?_
        · refine QRun_b [.int .i64 i2, .int .i64 n_, .bool (decide (i2 < n_))] 0 _ (by kernel_rfl) (fun w => by kernel_rfl) ?_
          exact QRun_done [0, 1, 5, 6, 7, 8, 18] (by kernel_rfl) (by kernel_rfl)
        refine Run_cond (b := decide (i2 < n_)) (by kernel_rfl) (fun hb2 => ?_) (fun hb2 => ?_)
        · obtain ⟨my2, y2, rfl, hB2, hgoy2, houty2⟩ := M.for_go gx2 hb2
          have hlty2 := of_decide_eq_true hb2
          refine Run_skip ?_
          refine Run_seq ?_
          refine Run_block ?_
          refine Run_ops ?_
          refine Run_b [.slice a5 s2.length c3] 0 _ (by kernel_rfl) (fun w => by kernel_rfl) ?_
          refine Run_E (by kernel_rfl) ?_
          refine E_lit (C := cd2) (n := 1) (l := ([(-1000000000000000)] : List Int)) (cs := [.int .i64 (-1000000000000000)]) H5 (fun w => by kernel_rfl) (Enc.consE (cd2_own (-1000000000000000) _) (Enc.nil _ _) rfl) rfl (by decide) (fun a7 h7 H7 => ?_)
          obtain ⟨l1, hl1, hB2⟩ := M.bind_some hB2
          have hl1 := M.app_some hl1
          have H8 : Hold h h7 [own cd2 a5 s2.length c3 s2, own cd2 a7 1 1 ([(-1000000000000000)] : List Int), own cd39 a2 s1.length c1 s1] := H7.pick [2, 0, 1] (by kernel_rfl)
          have H9 : Hold h h7 [own cd2 a7 1 1 ([(-1000000000000000)] : List Int), own cd2 a5 s2.length c3 s2, own cd39 a2 s1.length c1 s1] := H8.pick [1, 0, 2] (by kernel_rfl)
          have H10 : Hold h h7 [own cd2 a5 s2.length c3 s2, own cd2 a7 1 1 ([(-1000000000000000)] : List Int), own cd39 a2 s1.length c1 s1] := H9.pick [1, 0, 2] (by kernel_rfl)
          refine Run_E (by kernel_rfl) ?_
          refine E_app (C := cd2) (t := 39) (ty := 39) (n := s2.length) (m := 1) H10 cd2_ti rfl Try.underlying39 (by decide) (by kernel_rfl) hl1 (fun a8 c5 h8 H11 => ?_)
          refine Run_b [.slice a8 l1.length c5] 3 _ (by kernel_rfl) (fun w => by kernel_rfl) ?_
          refine Run_nil (by kernel_rfl) ?_
          refine Run_keep [0, 1, 5, 6, 7, 8] (L' := [(0, .int .i64 m_), (1, .int .i64 n_), (5, .slice a2 s1.length c1), (6, .int .i64 i1), (7, .slice a8 l1.length c5), (8, .int .i64 i2)]) (by kernel_rfl) ?_
          refine Run_blk ?_
          refine Run_reg 3 (by kernel_rfl) (L' := [(0, .int .i64 m_), (1, .int .i64 n_), (5, .slice a2 s1.length c1), (6, .int .i64 i1), (7, .slice a8 l1.length c5), (8, .int .i64 (i2 + 1))]) ?_ ?_
          · refine QRun_b [.int .i64 i2] 0 _ (by kernel_rfl) (fun w => by kernel_rfl) ?_
            refine QRun_y (.int .i64 (i2 + 1)) (by kernel_rfl) (Y_eq (v := .int .i64 (w64 (i2 + 1))) (Y_pure (fun w => by kernel_rfl)) (by rw [w64_eq _ (by omega)])) ?_
            refine QRun_b [.int .i64 (i2 + 1)] 2 _ (by kernel_rfl) (fun w => by kernel_rfl) ?_
            exact QRun_done [0, 1, 5, 6, 7, 8] (by kernel_rfl) (by kernel_rfl)
          have H12 : Hold h h8 [own cd39 a2 s1.length c1 s1, own cd2 a8 l1.length c5 l1] := H11.pick [1, 0] (by kernel_rfl)
          have hB2 := M.ret_some hB2
          have gx2 := hgoy2 _ hB2.symm
          exact Run_again [0, 1, 5, 6, 7, 8] (by kernel_rfl) my2 (Nat.lt_succ_self _) ⟨i2 + 1, l1, a8, c5, by omega, gx2, rfl, H12⟩
        · have gx2 := M.for_end gx2 hb2
          subst gx2
          refine Run_exit (k' := _) rfl ?_
          have H13 : Hold h h5 [own cd2 a5 s2.length c3 s2, own cd39 a2 s1.length c1 s1] := H5.pick [1, 0] (by kernel_rfl)
          have H14 : Hold h h5 [own cd39 a2 s1.length c1 s1, own cd2 a5 s2.length c3 s2] := H13.pick [1, 0] (by kernel_rfl)
          exact Run_fall [0, 1, 5, 6, 7] (by kernel_rfl) ⟨a5, c3, rfl, H14⟩
    · have gx1 := M.for_end gx1 hb1
      subst gx1
      refine Run_exit (k' := _) rfl ?_
      exact Run_fall [5] (by kernel_rfl) ⟨a2, c1, rfl, H2⟩

set_option maxRecDepth 100000 in
set_option maxHeartbeats 4000000 in
theorem w_spec_l02Unit (h : Heap) (n_ : Int) (n : Nat) (r : (List (List Int))) (hF : spec_l02Unit n_ n = some r) :
    Fn Try.prog 149 #[.int .i64 n_] h fun v h' => ∃ (a0 : Option Addr) (c0 : Nat), v = .slice a0 r.length c0 ∧ Hold h h' [own cd39 a0 r.length c0 r] := by
  unfold spec_l02Unit at hF
  refine Fn_enter (args := [.int .i64 n_]) Try.func149 rfl (by kernel_rfl) (by kernel_rfl) (fun w0 _ => ?_)
  have H0 := Hold.init h
  refine Run_seq ?_
  refine Run_reg 1 (by kernel_rfl) (L' := [(0, .int .i64 n_)]) ?_ ?_
  · refine QRun_b [.slice none 0 0] 0 _ (by kernel_rfl) (fun w => by kernel_rfl) ?_
    exact QRun_done [0] (by kernel_rfl) (by kernel_rfl)
  refine Run_seq ?_
  refine Run_ops ?_
  refine Run_b [.int .i64 n_, .int .i64 n_] 0 _ (by kernel_rfl) (fun w => by kernel_rfl) ?_
  obtain ⟨x1, hx1, hF⟩ := M.bind_some hF
  refine Run_E (by kernel_rfl) ?_
  refine E_call (f := 84) (args := #[.int .i64 n_, .int .i64 n_]) (w_spec_l02Bottom h n_ n_ _ _ hx1) (by kernel_rfl) (fun v1 h1 hp1 => ?_)
  obtain ⟨a1, c1, rfl, H1⟩ := hp1
  have H2 : Hold h h1 [own cd39 a1 x1.length c1 x1] := H0.call H1 rfl
  refine Run_b [.slice a1 x1.length c1] 3 _ (by kernel_rfl) (fun w => by kernel_rfl) ?_
  refine Run_nil (by kernel_rfl) ?_
  refine Run_keep [0, 3] (L' := [(0, .int .i64 n_), (3, .slice a1 x1.length c1)]) (by kernel_rfl) ?_
  refine Run_seq ?_
  refine Run_seq ?_
  refine Run_reg 1 (by kernel_rfl) (L' := [(0, .int .i64 n_), (3, .slice a1 x1.length c1), (4, .int .i64 0)]) ?_ ?_
  · refine QRun_b [.int .i64 0] 0 _ (by kernel_rfl) (fun w => by kernel_rfl) ?_
    exact QRun_done [0, 3, 4] (by kernel_rfl) (by kernel_rfl)
  obtain ⟨x2, gx2, hF⟩ := M.bind_some hF
  obtain ⟨hloy1, hhiy1, gx2⟩ := M.for_start gx2
  refine Run_join (fun L' h' => L' = [(3, .slice a1 x1.length c1)] ∧ Hold h h' [own cd39 a1 x1.length c1 x2]) ?_ ?_
  · rintro _ h3 ⟨rfl, H4⟩
    refine Run_seq ?_
    refine Run_reg 2 (by kernel_rfl) (L' := [(2, .slice a1 x1.length c1)]) ?_ ?_
    · refine QRun_b [.slice a1 x1.length c1, .slice a1 x1.length c1] 0 _ (by kernel_rfl) (fun w => by kernel_rfl) ?_
      exact QRun_done [2] (by kernel_rfl) (by kernel_rfl)
    have hF := M.ret_some hF
    subst hF
    have H9 := H4.norm
    exact Run_ret1 rfl (ResV_tmp (v := .slice a1 x1.length c1) (by kernel_rfl)) ⟨a1, c1, (by simp only [(H4.len 0 rfl)]), H9⟩
  · refine Run_block ?_
    refine Run_keep [0, 3, 4] (L' := [(0, .int .i64 n_), (3, .slice a1 x1.length c1), (4, .int .i64 0)]) (by kernel_rfl) ?_
    refine Run_loop (fun m L' h' => ∃ (i1 : Int) (s1 : (List (List Int))), 0 ≤ i1 ∧ M.forN n_ _ _ n m i1 s1 = some x2 ∧ L' = [(0, .int .i64 n_), (3, .slice a1 x1.length c1), (4, .int .i64 i1)] ∧ Hold h h' [own cd39 a1 x1.length c1 s1]) (n_ - 0 : Int).toNat ⟨0, x1, Int.le_refl _, gx2, rfl, H2⟩ ?_
    rintro my1 _ h2 ⟨i1, s1, hloy1', gx2, rfl, H3⟩
    refine Run_seq ?_
    refine Run_seq ?_
    refine Run_reg 3 (by kernel_rfl) (L' := [(0, .int .i64 n_), (3, .slice a1 x1.length c1), (4, .int .i64 i1), (10, .bool (decide (i1 < n_)))]) ?_ ?_
    · refine QRun_b [.int .i64 i1, .int .i64 n_, .bool (decide (i1 < n_))] 0 _ (by kernel_rfl) (fun w => by kernel_rfl) ?_
      exact QRun_done [0, 3, 4, 10] (by kernel_rfl) (by kernel_rfl)
    refine Run_cond (b := decide (i1 < n_)) (by kernel_rfl) (fun hb1 => ?_) (fun hb1 => ?_)
    · obtain ⟨my1, y1, rfl, hB1, hgoy1, houty1⟩ := M.for_go gx2 hb1
      have hlty1 := of_decide_eq_true hb1
      refine Run_skip ?_
      refine Run_seq ?_
      refine Run_block ?_
      refine Run_ops ?_
      obtain ⟨x3, hx2, hB1⟩ := M.bind_some hB1
      obtain ⟨hx2l, hx2u, hx2⟩ := M.idx_some hx2
      have H5 := H3.toRows
      obtain ⟨a2, c2, H6⟩ := H5.pinRow hx2
      obtain ⟨x4, hx3, hB1⟩ := M.bind_some hB1
      obtain ⟨hx3l, hx3u, hx3⟩ := M.idx_some hx3
      refine Run_b [.slice a1 x1.length c1, .int .i64 i1] 0 _ (by kernel_rfl) (fun w => by kernel_rfl) ?_
      refine Run_y (.pointer (some (adr a1 (i1.toNat * 1)))) (by kernel_rfl) (Y_idx (t := 37) (e := 39) (sz := 1) (a := a1) (n := x1.length) (cap := c1) (kk := .i64) (i := i1) (by kernel_rfl) Try.underlying37 (by kernel_rfl) ((H3.rd 0 rfl).cell hx2).1 hx2l (by rw [← (H3.len 0 rfl)]; exact hx2u)) ?_
      refine Run_y (.slice a2 x3.length c2) (by kernel_rfl) (Y_load1 (t := 39) (p := adr a1 (i1.toNat * 1)) (v := .slice a2 x3.length c2) (by kernel_rfl) (fun w => by kernel_rfl) (H6.cellPin 0 rfl 0 rfl)) ?_
      refine Run_b [.int .i64 i1] 4 _ (by kernel_rfl) (fun w => by kernel_rfl) ?_
      refine Run_y (.pointer (some (adr a2 (i1.toNat * 1)))) (by kernel_rfl) (Y_idx (t := 39) (e := 2) (sz := 1) (a := a2) (n := x3.length) (cap := c2) (kk := .i64) (i := i1) (by kernel_rfl) Try.underlying39 (by kernel_rfl) ((H6.rdPin 0 rfl 0 rfl).cell hx3).1 hx3l hx3u) ?_
      obtain ⟨l1, hu1, hB1⟩ := M.bind_some hB1
      have hu1 := M.upd_some hu1
      refine Run_E (by kernel_rfl) ?_
      refine E_put2 (C := cd2) (t := 2) (sz := 1) (j := i1) (x := 0) (v := .int .i64 0) (m2 := s1.set i1.toNat l1) H6 cd2_flat 0 rfl (by kernel_rfl) rfl (cd2_own _) (by kernel_rfl) hu1 rfl (fun h4 H7 => ?_)
      refine Run_nil (by kernel_rfl) ?_
      refine Run_keep [0, 3, 4] (L' := [(0, .int .i64 n_), (3, .slice a1 x1.length c1), (4, .int .i64 i1)]) (by kernel_rfl) ?_
      refine Run_blk ?_
      refine Run_reg 3 (by kernel_rfl) (L' := [(0, .int .i64 n_), (3, .slice a1 x1.length c1), (4, .int .i64 (i1 + 1))]) ?_ ?_
      · refine QRun_b [.int .i64 i1] 0 _ (by kernel_rfl) (fun w => by kernel_rfl) ?_
        refine QRun_y (.int .i64 (i1 + 1)) (by kernel_rfl) (Y_eq (v := .int .i64 (w64 (i1 + 1))) (Y_pure (fun w => by kernel_rfl)) (by rw [w64_eq _ (by omega)])) ?_
        refine QRun_b [.int .i64 (i1 + 1)] 2 _ (by kernel_rfl) (fun w => by kernel_rfl) ?_
        exact QRun_done [0, 3, 4] (by kernel_rfl) (by kernel_rfl)
      have H8 := H7.ofRows
      have hB1 := M.ret_some hB1
      have gx2 := hgoy1 _ hB1.symm
      exact Run_again [0, 3, 4] (by kernel_rfl) my1 (Nat.lt_succ_self _) ⟨i1 + 1, (s1.set i1.toNat l1), by omega, gx2, rfl, H8⟩
    · have gx2 := M.for_end gx2 hb1
      subst gx2
      refine Run_exit (k' := _) rfl ?_
      exact Run_fall [3] (by kernel_rfl) ⟨rfl, H3⟩

set_option maxRecDepth 100000 in
set_option maxHeartbeats 4000000 in
theorem w_spec_l02Multiply (h : Heap) (a_ : List (List Int)) (aa_ : Option Addr) (ca_ : Nat) (ra_ : Rd cd39 h (Lt h) aa_ ca_ a_) (b : List (List Int)) (ab : Option Addr) (cb : Nat) (rb : Rd cd39 h (Lt h) ab cb b) (n : Nat) (r : (List (List Int))) (hF : spec_l02Multiply a_ b n = some r) :
    Fn Try.prog 151 #[.slice aa_ a_.length ca_, .slice ab b.length cb] h fun v h' => ∃ (a0 : Option Addr) (c0 : Nat), v = .slice a0 r.length c0 ∧ Hold h h' [own cd39 a0 r.length c0 r] := by
  unfold spec_l02Multiply at hF
  refine Fn_enter (args := [.slice aa_ a_.length ca_, .slice ab b.length cb]) Try.func151 rfl (by kernel_rfl) (by kernel_rfl) (fun w0 _ => ?_)
  have H0 := Hold.init h
  refine Run_seq ?_
  refine Run_reg 1 (by kernel_rfl) (L' := [(0, .slice aa_ a_.length ca_), (1, .slice ab b.length cb)]) ?_ ?_
  · refine QRun_b [.slice none 0 0] 0 _ (by kernel_rfl) (fun w => by kernel_rfl) ?_
    exact QRun_done [0, 1] (by kernel_rfl) (by kernel_rfl)
  refine Run_seq ?_
  refine Run_ops ?_
  obtain ⟨x1, hx1, hF⟩ := M.bind_some hF
  obtain ⟨hx1l, hx1u, hx1⟩ := M.idx_some hx1
  obtain ⟨a1, c1, hc1, r1⟩ := rb.row hx1
  refine Run_b [.slice aa_ a_.length ca_, .int .i64 (a_.length : Int), .slice ab b.length cb] 0 _ (by kernel_rfl) (fun w => by kernel_rfl) ?_
  refine Run_y (.pointer (some (adr ab (0 * 1)))) (by kernel_rfl) (Y_idx (t := 37) (e := 39) (sz := 1) (a := ab) (n := b.length) (cap := cb) (kk := .i64) (i := 0) (by kernel_rfl) Try.underlying37 (by kernel_rfl) (rb.cell hx1).1 hx1l hx1u) ?_
  refine Run_y (.slice a1 x1.length c1) (by kernel_rfl) (Y_load1 (t := 39) (p := adr ab (0 * 1)) (v := .slice a1 x1.length c1) (by kernel_rfl) (fun w => by kernel_rfl) hc1) ?_
  refine Run_b [.int .i64 (x1.length : Int)] 5 _ (by kernel_rfl) (fun w => by kernel_rfl) ?_
  obtain ⟨x2, hx2, hF⟩ := M.bind_some hF
  refine Run_E (by kernel_rfl) ?_
  refine E_call (f := 84) (args := #[.int .i64 (a_.length : Int), .int .i64 (x1.length : Int)]) (w_spec_l02Bottom h (a_.length : Int) (x1.length : Int) _ _ hx2) (by kernel_rfl) (fun v1 h1 hp1 => ?_)
  obtain ⟨a2, c2, rfl, H1⟩ := hp1
  have H2 : Hold h h1 [own cd39 a2 x2.length c2 x2] := H0.call H1 rfl
  refine Run_b [.slice a2 x2.length c2] 7 _ (by kernel_rfl) (fun w => by kernel_rfl) ?_
  refine Run_nil (by kernel_rfl) ?_
  refine Run_keep [0, 1, 5] (L' := [(0, .slice aa_ a_.length ca_), (1, .slice ab b.length cb), (5, .slice a2 x2.length c2)]) (by kernel_rfl) ?_
  refine Run_seq ?_
  refine Run_seq ?_
  refine Run_reg 1 (by kernel_rfl) (L' := [(0, .slice aa_ a_.length ca_), (1, .slice ab b.length cb), (5, .slice a2 x2.length c2), (6, .int .i64 0)]) ?_ ?_
  · refine QRun_b [.int .i64 0] 0 _ (by kernel_rfl) (fun w => by kernel_rfl) ?_
    exact QRun_done [0, 1, 5, 6] (by kernel_rfl) (by kernel_rfl)
  obtain ⟨x3, gx3, hF⟩ := M.bind_some hF
  obtain ⟨hloy1, hhiy1, gx3⟩ := M.for_start gx3
  refine Run_join (fun L' h' => L' = [(5, .slice a2 x2.length c2)] ∧ Hold h h' [own cd39 a2 x2.length c2 x3]) ?_ ?_
  · rintro _ h3 ⟨rfl, H4⟩
    refine Run_seq ?_
    refine Run_reg 2 (by kernel_rfl) (L' := [(4, .slice a2 x2.length c2)]) ?_ ?_
    · refine QRun_b [.slice a2 x2.length c2, .slice a2 x2.length c2] 0 _ (by kernel_rfl) (fun w => by kernel_rfl) ?_
      exact QRun_done [4] (by kernel_rfl) (by kernel_rfl)
    have hF := M.ret_some hF
    subst hF
    have H16 := H4.norm
    exact Run_ret1 rfl (ResV_tmp (v := .slice a2 x2.length c2) (by kernel_rfl)) ⟨a2, c2, (by simp only [(H4.len 0 rfl)]), H16⟩
  · refine Run_block ?_
    refine Run_keep [0, 1, 5, 6] (L' := [(0, .slice aa_ a_.length ca_), (1, .slice ab b.length cb), (5, .slice a2 x2.length c2), (6, .int .i64 0)]) (by kernel_rfl) ?_
    refine Run_loop (fun m L' h' => ∃ (i1 : Int) (s1 : (List (List Int))), 0 ≤ i1 ∧ M.forN (a_.length : Int) _ _ n m i1 s1 = some x3 ∧ L' = [(0, .slice aa_ a_.length ca_), (1, .slice ab b.length cb), (5, .slice a2 x2.length c2), (6, .int .i64 i1)] ∧ Hold h h' [own cd39 a2 x2.length c2 s1]) ((a_.length : Int) - 0 : Int).toNat ⟨0, x2, Int.le_refl _, gx3, rfl, H2⟩ ?_
    rintro my1 _ h2 ⟨i1, s1, hloy1', gx3, rfl, H3⟩
    refine Run_seq ?_
    refine Run_seq ?_
    refine Run_reg 4 (by kernel_rfl) (L' := [(0, .slice aa_ a_.length ca_), (1, .slice ab b.length cb), (5, .slice a2 x2.length c2), (6, .int .i64 i1), (19, .bool (decide (i1 < (a_.length : Int))))]) ?_ ?_
    · refine QRun_b [.int .i64 i1, .slice aa_ a_.length ca_, .int .i64 (a_.length : Int), .bool (decide (i1 < (a_.length : Int)))] 0 _ (by kernel_rfl) (fun w => by kernel_rfl) ?_
      exact QRun_done [0, 1, 5, 6, 19] (by kernel_rfl) (by kernel_rfl)
    refine Run_cond (b := decide (i1 < (a_.length : Int))) (by kernel_rfl) (fun hb1 => ?_) (fun hb1 => ?_)
    · obtain ⟨my1, y1, rfl, hB1, hgoy1, houty1⟩ := M.for_go gx3 hb1
      have hlty1 := of_decide_eq_true hb1
      refine Run_skip ?_
      refine Run_seq ?_
      refine Run_block ?_
      refine Run_seq ?_
      refine Run_reg 1 (by kernel_rfl) (L' := [(0, .slice aa_ a_.length ca_), (1, .slice ab b.length cb), (5, .slice a2 x2.length c2), (6, .int .i64 i1), (7, .int .i64 0)]) ?_ ?_
      · refine QRun_b [.int .i64 0] 0 _ (by kernel_rfl) (fun w => by kernel_rfl) ?_
        exact QRun_done [0, 1, 5, 6, 7] (by kernel_rfl) (by kernel_rfl)
      obtain ⟨x4, gx4, hB1⟩ := M.bind_some hB1
      refine Run_join (fun L' h' => L' = [(0, .slice aa_ a_.length ca_), (1, .slice ab b.length cb), (5, .slice a2 x2.length c2), (6, .int .i64 i1)] ∧ Hold h h' [own cd39 a2 x2.length c2 x4.1]) ?_ ?_
      · rintro _ h5 ⟨rfl, H6⟩
        refine Run_blk ?_
        refine Run_reg 3 (by kernel_rfl) (L' := [(0, .slice aa_ a_.length ca_), (1, .slice ab b.length cb), (5, .slice a2 x2.length c2), (6, .int .i64 (i1 + 1))]) ?_ ?_
        · refine QRun_b [.int .i64 i1] 0 _ (by kernel_rfl) (fun w => by kernel_rfl) ?_
          refine QRun_y (.int .i64 (i1 + 1)) (by kernel_rfl) (Y_eq (v := .int .i64 (w64 (i1 + 1))) (Y_pure (fun w => by kernel_rfl)) (by rw [w64_eq _ (by omega)])) ?_
          refine QRun_b [.int .i64 (i1 + 1)] 2 _ (by kernel_rfl) (fun w => by kernel_rfl) ?_
          exact QRun_done [0, 1, 5, 6] (by kernel_rfl) (by kernel_rfl)
        have hB1 := M.ret_some hB1
        have gx3 := hgoy1 _ hB1.symm
        exact Run_again [0, 1, 5, 6] (by kernel_rfl) my1 (Nat.lt_succ_self _) ⟨i1 + 1, x4.1, by omega, gx3, rfl, H6⟩
      · refine Run_block ?_
        refine Run_keep [0, 1, 5, 6, 7] (L' := [(0, .slice aa_ a_.length ca_), (1, .slice ab b.length cb), (5, .slice a2 x2.length c2), (6, .int .i64 i1), (7, .int .i64 0)]) (by kernel_rfl) ?_
        refine Run_loop (fun m L' h' => ∃ (s2 : (List (List Int)) × Int), M.loopN _ n m s2 = some x4 ∧ L' = [(0, .slice aa_ a_.length ca_), (1, .slice ab b.length cb), (5, .slice a2 x2.length c2), (6, .int .i64 i1), (7, .int .i64 s2.2)] ∧ Hold h h' [own cd39 a2 x2.length c2 s2.1]) n ⟨(s1, 0), gx4, rfl, H3⟩ ?_
        rintro my2 _ h4 ⟨s2, gx4, rfl, H5⟩
        obtain ⟨my2, y2, rfl, hB2, hgoy2, houty2⟩ := M.loop_some gx4
        refine Run_seq ?_
        refine Run_seq ?_
        obtain ⟨x5, hx3, hB2⟩ := M.bind_some hB2
        obtain ⟨hx3l, hx3u, hx3⟩ := M.idx_some hx3
        obtain ⟨a3, c3, hc2, r2⟩ := rb.row hx3
        refine Run_reg 6 (by kernel_rfl) (L' := [(0, .slice aa_ a_.length ca_), (1, .slice ab b.length cb), (5, .slice a2 x2.length c2), (6, .int .i64 i1), (7, .int .i64 s2.2), (27, .bool (decide (s2.2 < (x5.length : Int))))]) ?_ ?_
        · refine QRun_b [.int .i64 s2.2, .slice ab b.length cb] 0 _ (by kernel_rfl) (fun w => by kernel_rfl) ?_
          refine QRun_y (.pointer (some (adr ab (0 * 1)))) (by kernel_rfl) (Y_idx (t := 37) (e := 39) (sz := 1) (a := ab) (n := b.length) (cap := cb) (kk := .i64) (i := 0) (by kernel_rfl) Try.underlying37 (by kernel_rfl) ((rb.at H5.ext).cell hx3).1 hx3l hx3u) ?_
          refine QRun_y (.slice a3 x5.length c3) (by kernel_rfl) (Y_load1 (t := 39) (p := adr ab (0 * 1)) (v := .slice a3 x5.length c3) (by kernel_rfl) (fun w => by kernel_rfl) (cell_at H5.ext hc2)) ?_
          refine QRun_b [.int .i64 (x5.length : Int), .bool (decide (s2.2 < (x5.length : Int)))] 4 _ (by kernel_rfl) (fun w => by kernel_rfl) ?_
          exact QRun_done [0, 1, 5, 6, 7, 27] (by kernel_rfl) (by kernel_rfl)
        refine Run_cond (b := decide (s2.2 < (x5.length : Int))) (by kernel_rfl) (fun hb2 => ?_) (fun hb2 => ?_)
        · have hB2 := (M.ite_some hB2).1 hb2
          refine Run_skip ?_
          refine Run_seq ?_
          refine Run_block ?_
          refine Run_seq ?_
          refine Run_reg 1 (by kernel_rfl) (L' := [(0, .slice aa_ a_.length ca_), (1, .slice ab b.length cb), (5, .slice a2 x2.length c2), (6, .int .i64 i1), (7, .int .i64 s2.2), (8, .int .i64 0)]) ?_ ?_
          · refine QRun_b [.int .i64 0] 0 _ (by kernel_rfl) (fun w => by kernel_rfl) ?_
            exact QRun_done [0, 1, 5, 6, 7, 8] (by kernel_rfl) (by kernel_rfl)
          obtain ⟨x6, gx6, hB2⟩ := M.bind_some hB2
          obtain ⟨hloy3, hhiy3, gx6⟩ := M.for_start gx6
          refine Run_join (fun L' h' => L' = [(0, .slice aa_ a_.length ca_), (1, .slice ab b.length cb), (5, .slice a2 x2.length c2), (6, .int .i64 i1), (7, .int .i64 s2.2)] ∧ Hold h h' [own cd39 a2 x2.length c2 x6]) ?_ ?_
          · rintro _ h7 ⟨rfl, H8⟩
            refine Run_blk ?_
            refine Run_reg 3 (by kernel_rfl) (L' := [(0, .slice aa_ a_.length ca_), (1, .slice ab b.length cb), (5, .slice a2 x2.length c2), (6, .int .i64 i1), (7, .int .i64 (w64 (s2.2 + 1)))]) ?_ ?_
            · refine QRun_b [.int .i64 s2.2, .int .i64 (w64 (s2.2 + 1)), .int .i64 (w64 (s2.2 + 1))] 0 _ (by kernel_rfl) (fun w => by kernel_rfl) ?_
              exact QRun_done [0, 1, 5, 6, 7] (by kernel_rfl) (by kernel_rfl)
            have hB2 := M.ret_some hB2
            have gx4 := hgoy2 _ hB2.symm
            exact Run_again [0, 1, 5, 6, 7] (by kernel_rfl) my2 (Nat.lt_succ_self _) ⟨(x6, (w64 (s2.2 + 1))), gx4, rfl, H8⟩
          · refine Run_block ?_
            refine Run_keep [0, 1, 5, 6, 7, 8] (L' := [(0, .slice aa_ a_.length ca_), (1, .slice ab b.length cb), (5, .slice a2 x2.length c2), (6, .int .i64 i1), (7, .int .i64 s2.2), (8, .int .i64 0)]) (by kernel_rfl) ?_
            refine Run_loop (fun m L' h' => ∃ (i2 : Int) (s3 : (List (List Int))), 0 ≤ i2 ∧ M.forN (b.length : Int) _ _ n m i2 s3 = some x6 ∧ L' = [(0, .slice aa_ a_.length ca_), (1, .slice ab b.length cb), (5, .slice a2 x2.length c2), (6, .int .i64 i1), (7, .int .i64 s2.2), (8, .int .i64 i2)] ∧ Hold h h' [own cd39 a2 x2.length c2 s3]) ((b.length : Int) - 0 : Int).toNat ⟨0, s2.1, Int.le_refl _, gx6, rfl, H5⟩ ?_
            rintro my3 _ h6 ⟨i2, s3, hloy3', gx6, rfl, H7⟩
            refine Run_seq ?_
            refine Run_seq ?_
            refine Run_reg 4 (by kernel_rfl) (L' := [(0, .slice aa_ a_.length ca_), (1, .slice ab b.length cb), (5, .slice a2 x2.length c2), (6, .int .i64 i1), (7, .int .i64 s2.2), (8, .int .i64 i2), (33, .bool (decide (i2 < (b.length : Int))))]) ?_ ?_
            · refine QRun_b [.int .i64 i2, .slice ab b.length cb, .int .i64 (b.length : Int), .bool (decide (i2 < (b.length : Int)))] 0 _ (by kernel_rfl) (fun w => by kernel_rfl) ?_
              exact QRun_done [0, 1, 5, 6, 7, 8, 33] (by kernel_rfl) (by kernel_rfl)
            refine Run_cond (b := decide (i2 < (b.length : Int))) (by kernel_rfl) (fun hb3 => ?_) (fun hb3 => ?_)
            · obtain ⟨my3, y3, rfl, hB3, hgoy3, houty3⟩ := M.for_go gx6 hb3
              have hlty3 := of_decide_eq_true hb3
              refine Run_skip ?_
              refine Run_seq ?_
              refine Run_block ?_
              obtain ⟨x7, hx4, hB3⟩ := M.bind_some hB3
              obtain ⟨hx4l, hx4u, hx4⟩ := M.idx_some hx4
              have H9 := H7.toRows
              obtain ⟨a4, c4, H10⟩ := H9.pinRow hx4
              obtain ⟨x8, hx5, hB3⟩ := M.bind_some hB3
              obtain ⟨hx5l, hx5u, hx5⟩ := M.idx_some hx5
              obtain ⟨a5, c5, H11⟩ := H10.pinRow hx5
              obtain ⟨x9, hx6, hB3⟩ := M.bind_some hB3
              obtain ⟨hx6l, hx6u, hx6⟩ := M.idx_some hx6
              obtain ⟨x10, hx7, hB3⟩ := M.bind_some hB3
              obtain ⟨hx7l, hx7u, hx7⟩ := M.idx_some hx7
              obtain ⟨a6, c6, hc3, r3⟩ := ra_.row hx7
              obtain ⟨x11, hx8, hB3⟩ := M.bind_some hB3
              obtain ⟨hx8l, hx8u, hx8⟩ := M.idx_some hx8
              obtain ⟨x12, hx9, hB3⟩ := M.bind_some hB3
              obtain ⟨hx9l, hx9u, hx9⟩ := M.idx_some hx9
              obtain ⟨a7, c7, hc4, r4⟩ := rb.row hx9
              obtain ⟨x13, hx10, hB3⟩ := M.bind_some hB3
              obtain ⟨hx10l, hx10u, hx10⟩ := M.idx_some hx10
              obtain ⟨x14, hx11, hB3⟩ := M.bind_some hB3
              obtain ⟨x15, hx12, hB3⟩ := M.bind_some hB3
              obtain ⟨hx12l, hx12u, hx12⟩ := M.idx_some hx12
              refine Run_D (fun x => Hold h x [rowsP cd2 39 a2 x2.length c2 s3 [(i1.toNat, a5, x8.length, c5, x8), (i1.toNat, a4, x7.length, c4, x7)]]) (fun x => Hold h x [rowsP cd2 39 a2 x2.length c2 s3 [(i1.toNat, a5, x8.length, c5, x8), (i1.toNat, a4, x7.length, c4, x7)]]) mixed (by kernel_rfl) H11 Hold.stable (fun x Hy => (show Hold h x [rowsP cd2 39 a2 x2.length c2 s3 [(i1.toNat, a5, x8.length, c5, x8), (i1.toNat, a4, x7.length, c4, x7)]] from Hy).pick [0] (by kernel_rfl)) ?_
              refine DR_b 28 [.slice a2 x2.length c2, .int .i64 i1] 0 (by kernel_rfl) (by kernel_rfl) (by kernel_rfl) (fun w => by kernel_rfl) ?_
              refine DR_y 27 (i := 2) (.pointer (some (adr a2 (i1.toNat * 1)))) (by kernel_rfl) (by kernel_rfl) (by kernel_rfl) (fun hx Hx => (YE.of (Y_idx (t := 37) (e := 39) (sz := 1) (a := a2) (n := x2.length) (cap := c2) (kk := .i64) (i := i1) (by kernel_rfl) Try.underlying37 (by kernel_rfl) ((H7.rd 0 rfl).cell hx4).1 hx4l (by rw [← (H7.len 0 rfl)]; exact hx4u)))) ?_
              refine DR_y 26 (i := 3) (.slice a4 x7.length c4) (by kernel_rfl) (by kernel_rfl) (by kernel_rfl) (fun hx Hx => (YE.of (Y_load1 (t := 39) (p := adr a2 (i1.toNat * 1)) (v := .slice a4 x7.length c4) (by kernel_rfl) (fun w => by kernel_rfl) (Hx.cellPin 0 rfl 1 rfl)))) ?_
              refine DR_b 23 [.int .i64 s2.2, .slice a2 x2.length c2, .int .i64 i1] 4 (by kernel_rfl) (by kernel_rfl) (by kernel_rfl) (fun w => by kernel_rfl) ?_
              refine DR_y 22 (i := 7) (.pointer (some (adr a2 (i1.toNat * 1)))) (by kernel_rfl) (by kernel_rfl) (by kernel_rfl) (fun hx Hx => (YE.of (Y_idx (t := 37) (e := 39) (sz := 1) (a := a2) (n := x2.length) (cap := c2) (kk := .i64) (i := i1) (by kernel_rfl) Try.underlying37 (by kernel_rfl) ((H10.rdRows 0 rfl).cell hx5).1 hx5l (by rw [← (H10.lenRows 0 rfl)]; exact hx5u)))) ?_
              refine DR_y 21 (i := 8) (.slice a5 x8.length c5) (by kernel_rfl) (by kernel_rfl) (by kernel_rfl) (fun hx Hx => (YE.of (Y_load1 (t := 39) (p := adr a2 (i1.toNat * 1)) (v := .slice a5 x8.length c5) (by kernel_rfl) (fun w => by kernel_rfl) (Hx.cellPin 0 rfl 0 rfl)))) ?_
              refine DR_b 20 [.int .i64 s2.2] 9 (by kernel_rfl) (by kernel_rfl) (by kernel_rfl) (fun w => by kernel_rfl) ?_
              refine DR_y 19 (i := 10) (.pointer (some (adr a5 (s2.2.toNat * 1)))) (by kernel_rfl) (by kernel_rfl) (by kernel_rfl) (fun hx Hx => (YE.of (Y_idx (t := 39) (e := 2) (sz := 1) (a := a5) (n := x8.length) (cap := c5) (kk := .i64) (i := s2.2) (by kernel_rfl) Try.underlying39 (by kernel_rfl) ((H11.rdPin 0 rfl 0 rfl).cell hx6).1 hx6l hx6u))) ?_
              refine DR_y 18 (i := 11) (.int .i64 x9) (by kernel_rfl) (by kernel_rfl) (by kernel_rfl) (fun hx Hx => (YE.of (Y_load1 (t := 2) (p := adr a5 (s2.2.toNat * 1)) (v := .int .i64 x9) (by kernel_rfl) (fun w => by kernel_rfl) (cd2_cell (Hx.rdPin 0 rfl 0 rfl) hx6)))) ?_
              refine DR_b 16 [.slice aa_ a_.length ca_, .int .i64 i1] 12 (by kernel_rfl) (by kernel_rfl) (by kernel_rfl) (fun w => by kernel_rfl) ?_
              refine DR_y 15 (i := 14) (.pointer (some (adr aa_ (i1.toNat * 1)))) (by kernel_rfl) (by kernel_rfl) (by kernel_rfl) (fun hx Hx => (YE.of (Y_idx (t := 37) (e := 39) (sz := 1) (a := aa_) (n := a_.length) (cap := ca_) (kk := .i64) (i := i1) (by kernel_rfl) Try.underlying37 (by kernel_rfl) ((ra_.at H11.ext).cell hx7).1 hx7l hx7u))) ?_
              refine DR_y 14 (i := 15) (.slice a6 x10.length c6) (by kernel_rfl) (by kernel_rfl) (by kernel_rfl) (fun hx Hx => (YE.of (Y_load1 (t := 39) (p := adr aa_ (i1.toNat * 1)) (v := .slice a6 x10.length c6) (by kernel_rfl) (fun w => by kernel_rfl) (cell_at Hx.ext hc3)))) ?_
              refine DR_b 13 [.int .i64 i2] 16 (by kernel_rfl) (by kernel_rfl) (by kernel_rfl) (fun w => by kernel_rfl) ?_
              refine DR_y 12 (i := 17) (.pointer (some (adr a6 (i2.toNat * 1)))) (by kernel_rfl) (by kernel_rfl) (by kernel_rfl) (fun hx Hx => (YE.of (Y_idx (t := 39) (e := 2) (sz := 1) (a := a6) (n := x10.length) (cap := c6) (kk := .i64) (i := i2) (by kernel_rfl) Try.underlying39 (by kernel_rfl) ((r3.at H11.ext).cell hx8).1 hx8l hx8u))) ?_
              refine DR_y 11 (i := 18) (.int .i64 x11) (by kernel_rfl) (by kernel_rfl) (by kernel_rfl) (fun hx Hx => (YE.of (Y_load1 (t := 2) (p := adr a6 (i2.toNat * 1)) (v := .int .i64 x11) (by kernel_rfl) (fun w => by kernel_rfl) (cd2_cell (r3.at Hx.ext) hx8)))) ?_
              refine DR_b 9 [.slice ab b.length cb, .int .i64 i2] 19 (by kernel_rfl) (by kernel_rfl) (by kernel_rfl) (fun w => by kernel_rfl) ?_
              refine DR_y 8 (i := 21) (.pointer (some (adr ab (i2.toNat * 1)))) (by kernel_rfl) (by kernel_rfl) (by kernel_rfl) (fun hx Hx => (YE.of (Y_idx (t := 37) (e := 39) (sz := 1) (a := ab) (n := b.length) (cap := cb) (kk := .i64) (i := i2) (by kernel_rfl) Try.underlying37 (by kernel_rfl) ((rb.at H11.ext).cell hx9).1 hx9l hx9u))) ?_
              refine DR_y 7 (i := 22) (.slice a7 x12.length c7) (by kernel_rfl) (by kernel_rfl) (by kernel_rfl) (fun hx Hx => (YE.of (Y_load1 (t := 39) (p := adr ab (i2.toNat * 1)) (v := .slice a7 x12.length c7) (by kernel_rfl) (fun w => by kernel_rfl) (cell_at Hx.ext hc4)))) ?_
              refine DR_b 6 [.int .i64 s2.2] 23 (by kernel_rfl) (by kernel_rfl) (by kernel_rfl) (fun w => by kernel_rfl) ?_
              refine DR_y 5 (i := 24) (.pointer (some (adr a7 (s2.2.toNat * 1)))) (by kernel_rfl) (by kernel_rfl) (by kernel_rfl) (fun hx Hx => (YE.of (Y_idx (t := 39) (e := 2) (sz := 1) (a := a7) (n := x12.length) (cap := c7) (kk := .i64) (i := s2.2) (by kernel_rfl) Try.underlying39 (by kernel_rfl) ((r4.at H11.ext).cell hx10).1 hx10l hx10u))) ?_
              refine DR_y 4 (i := 25) (.int .i64 x13) (by kernel_rfl) (by kernel_rfl) (by kernel_rfl) (fun hx Hx => (YE.of (Y_load1 (t := 2) (p := adr a7 (s2.2.toNat * 1)) (v := .int .i64 x13) (by kernel_rfl) (fun w => by kernel_rfl) (cd2_cell (r4.at Hx.ext) hx10)))) ?_
              refine DR_y 3 (i := 26) (.int .i64 x14) (by kernel_rfl) (by kernel_rfl) (by kernel_rfl) (fun hx Hx => (YE.of (Y_callq (f := 117) (args := #[.int .i64 x11, .int .i64 x13]) (v := .int .i64 x14) (by kernel_rfl) (w_spec_l01Times hx x11 x13 _ _ hx11)))) ?_
              refine DR_b 2 [.int .i64 (mx x9 x14)] 27 (by kernel_rfl) (by kernel_rfl) (by kernel_rfl) (fun w => by kernel_rfl) ?_
              refine DR_y 1 (i := 28) (.pointer (some (adr a4 (s2.2.toNat * 1)))) (by kernel_rfl) (by kernel_rfl) (by kernel_rfl) (fun hx Hx => (YE.of (Y_idx (t := 39) (e := 2) (sz := 1) (a := a4) (n := x7.length) (cap := c4) (kk := .i64) (i := s2.2) (by kernel_rfl) Try.underlying39 (by kernel_rfl) ((H11.rdPin 0 rfl 1 rfl).cell hx12).1 hx12l hx12u))) ?_
              refine DR_tail (i := 29) (by kernel_rfl) (by kernel_rfl) (by kernel_rfl) (fun h8 H12 => ?_)
              have H13 : Hold h h8 [rowsP cd2 39 a2 x2.length c2 s3 [(i1.toNat, a5, x8.length, c5, x8), (i1.toNat, a4, x7.length, c4, x7)]] := H12
              obtain ⟨l1, hu1, hB3⟩ := M.bind_some hB3
              have hu1 := M.upd_some hu1
              refine Run_E (by kernel_rfl) ?_
              refine E_put2 (C := cd2) (t := 2) (sz := 1) (j := s2.2) (x := (mx x9 x14)) (v := .int .i64 (mx x9 x14)) (m2 := s3.set i1.toNat l1) H13 cd2_flat 1 rfl (by kernel_rfl) rfl (cd2_own _) (by kernel_rfl) hu1 rfl (fun h9 H14 => ?_)
              refine Run_nil (by kernel_rfl) ?_
              refine Run_keep [0, 1, 5, 6, 7, 8] (L' := [(0, .slice aa_ a_.length ca_), (1, .slice ab b.length cb), (5, .slice a2 x2.length c2), (6, .int .i64 i1), (7, .int .i64 s2.2), (8, .int .i64 i2)]) (by kernel_rfl) ?_
              refine Run_blk ?_
              refine Run_reg 3 (by kernel_rfl) (L' := [(0, .slice aa_ a_.length ca_), (1, .slice ab b.length cb), (5, .slice a2 x2.length c2), (6, .int .i64 i1), (7, .int .i64 s2.2), (8, .int .i64 (i2 + 1))]) ?_ ?_
              · refine QRun_b [.int .i64 i2] 0 _ (by kernel_rfl) (fun w => by kernel_rfl) ?_
                refine QRun_y (.int .i64 (i2 + 1)) (by kernel_rfl) (Y_eq (v := .int .i64 (w64 (i2 + 1))) (Y_pure (fun w => by kernel_rfl)) (by rw [w64_eq _ (by omega)])) ?_
                refine QRun_b [.int .i64 (i2 + 1)] 2 _ (by kernel_rfl) (fun w => by kernel_rfl) ?_
                exact QRun_done [0, 1, 5, 6, 7, 8] (by kernel_rfl) (by kernel_rfl)
              have H15 := H14.ofRows
              have hB3 := M.ret_some hB3
              have gx6 := hgoy3 _ hB3.symm
              exact Run_again [0, 1, 5, 6, 7, 8] (by kernel_rfl) my3 (Nat.lt_succ_self _) ⟨i2 + 1, (s3.set i1.toNat l1), by omega, gx6, rfl, H15⟩
            · have gx6 := M.for_end gx6 hb3
              subst gx6
              refine Run_exit (k' := _) rfl ?_
              exact Run_fall [0, 1, 5, 6, 7] (by kernel_rfl) ⟨rfl, H7⟩
        · have hB2 := (M.ite_some hB2).2 hb2
          refine Run_exit (k' := _) rfl ?_
          have hB2 := M.ret_some hB2
          have gx4 := houty2 _ hB2.symm
          subst gx4
          exact Run_fall [0, 1, 5, 6] (by kernel_rfl) ⟨rfl, H5⟩
    · have gx3 := M.for_end gx3 hb1
      subst gx3
      refine Run_exit (k' := _) rfl ?_
      exact Run_fall [5] (by kernel_rfl) ⟨rfl, H3⟩

set_option maxRecDepth 100000 in
set_option maxHeartbeats 4000000 in
theorem w_spec_l01Own (h : Heap) (list : List Int) (alist : Option Addr) (clist : Nat) (rlist : Rd cd2 h (Lt h) alist clist list) (n : Nat) (r : (List Int)) (hF : spec_l01Own list n = some r) :
    Fn Try.prog 187 #[.slice alist list.length clist] h fun v h' => ∃ (a0 : Option Addr) (c0 : Nat), v = .slice a0 r.length c0 ∧ Hold h h' [own cd2 a0 r.length c0 r] := by
  unfold spec_l01Own at hF
  refine Fn_enter (args := [.slice alist list.length clist]) Try.func187 rfl (by kernel_rfl) (by kernel_rfl) (fun w0 _ => ?_)
  have H0 := Hold.init h
  refine Run_seq ?_
  refine Run_reg 1 (by kernel_rfl) (L' := [(0, .slice alist list.length clist)]) ?_ ?_
  · refine QRun_b [.slice none 0 0] 0 _ (by kernel_rfl) (fun w => by kernel_rfl) ?_
    exact QRun_done [0] (by kernel_rfl) (by kernel_rfl)
  refine Run_seq ?_
  refine Run_ops ?_
  refine Run_E (by kernel_rfl) ?_
  refine E_lit (C := cd2) (n := 0) (l := ([] : List Int)) (cs := []) H0 (fun w => by kernel_rfl) (Enc.nil _ _) rfl (by decide) (fun a1 h1 H1 => ?_)
  refine Run_b [.slice alist list.length clist] 1 _ (by kernel_rfl) (fun w => by kernel_rfl) ?_
  obtain ⟨l1, hl1, hF⟩ := M.bind_some hF
  have hl1 := M.app_some hl1
  refine Run_E (by kernel_rfl) ?_
  refine E_appR (C := cd2) (t := 39) (ty := 39) (n := 0) (m := list.length) H1 cd2_copies (rlist.at H1.ext) rfl cd2_ti rfl Try.underlying39 (by decide) (by kernel_rfl) hl1 (fun a2 c1 h2 H2 => ?_)
  refine Run_b [.slice a2 l1.length c1] 3 _ (by kernel_rfl) (fun w => by kernel_rfl) ?_
  refine Run_nil (by kernel_rfl) ?_
  refine Run_keep [2] (L' := [(2, .slice a2 l1.length c1)]) (by kernel_rfl) ?_
  have hF := M.ret_some hF
  subst hF
  exact Run_ret1 rfl (ResV_tmp (v := .slice a2 l1.length c1) (by kernel_rfl)) ⟨a2, c1, rfl, H2⟩

set_option maxRecDepth 100000 in
set_option maxHeartbeats 4000000 in
theorem w_spec_l02Own (h : Heap) (a_ : List (List Int)) (aa_ : Option Addr) (ca_ : Nat) (ra_ : Rd cd39 h (Lt h) aa_ ca_ a_) (n : Nat) (r : (List (List Int))) (hF : spec_l02Own a_ n = some r) :
    Fn Try.prog 176 #[.slice aa_ a_.length ca_] h fun v h' => ∃ (a0 : Option Addr) (c0 : Nat), v = .slice a0 r.length c0 ∧ Hold h h' [own cd39 a0 r.length c0 r] := by
  unfold spec_l02Own at hF
  refine Fn_enter (args := [.slice aa_ a_.length ca_]) Try.func176 rfl (by kernel_rfl) (by kernel_rfl) (fun w0 _ => ?_)
  have H0 := Hold.init h
  refine Run_seq ?_
  refine Run_reg 1 (by kernel_rfl) (L' := [(0, .slice aa_ a_.length ca_)]) ?_ ?_
  · refine QRun_b [.slice none 0 0] 0 _ (by kernel_rfl) (fun w => by kernel_rfl) ?_
    exact QRun_done [0] (by kernel_rfl) (by kernel_rfl)
  refine Run_seq ?_
  refine Run_ops ?_
  refine Run_E (by kernel_rfl) ?_
  refine E_lit (C := cd39) (n := 0) (l := []) (cs := []) H0 (fun w => by kernel_rfl) (Enc.nil _ _) rfl (by decide) (fun a1 h1 H1 => ?_)
  refine Run_b [.slice a1 0 0] 1 _ (by kernel_rfl) (fun w => by kernel_rfl) ?_
  refine Run_nil (by kernel_rfl) ?_
  refine Run_keep [0, 3] (L' := [(0, .slice aa_ a_.length ca_), (3, .slice a1 0 0)]) (by kernel_rfl) ?_
  refine Run_seq ?_
  refine Run_seq ?_
  refine Run_reg 1 (by kernel_rfl) (L' := [(0, .slice aa_ a_.length ca_), (3, .slice a1 0 0), (4, .int .i64 0)]) ?_ ?_
  · refine QRun_b [.int .i64 0] 0 _ (by kernel_rfl) (fun w => by kernel_rfl) ?_
    exact QRun_done [0, 3, 4] (by kernel_rfl) (by kernel_rfl)
  obtain ⟨x1, gx1, hF⟩ := M.bind_some hF
  obtain ⟨hloy1, hhiy1, gx1⟩ := M.for_start gx1
  refine Run_join (fun L' h' => ∃ (a3 : Option Addr) (c2 : Nat), L' = [(3, .slice a3 x1.length c2)] ∧ Hold h h' [own cd39 a3 x1.length c2 x1]) ?_ ?_
  · rintro _ h3 ⟨a3, c2, rfl, H3⟩
    refine Run_seq ?_
    refine Run_reg 2 (by kernel_rfl) (L' := [(2, .slice a3 x1.length c2)]) ?_ ?_
    · refine QRun_b [.slice a3 x1.length c2, .slice a3 x1.length c2] 0 _ (by kernel_rfl) (fun w => by kernel_rfl) ?_
      exact QRun_done [2] (by kernel_rfl) (by kernel_rfl)
    have hF := M.ret_some hF
    subst hF
    exact Run_ret1 rfl (ResV_tmp (v := .slice a3 x1.length c2) (by kernel_rfl)) ⟨a3, c2, rfl, H3⟩
  · refine Run_block ?_
    have hn1 := (H1.len 0 rfl)
    have H11 : Hold h h1 [own cd39 a1 (([] : List (List Int)).length) 0 ([] : List (List Int))] := by rw [hn1]; exact H1
    refine Run_keep [0, 3, 4] (L' := [(0, .slice aa_ a_.length ca_), (3, .slice a1 (([] : List (List Int)).length) 0), (4, .int .i64 0)]) (by first | (rw [hn1]; kernel_rfl) | (simp only [hn1]; kernel_rfl) | kernel_rfl) ?_
    refine Run_loop (fun m L' h' => ∃ (i1 : Int) (s1 : (List (List Int))) (a2 : Option Addr) (c1 : Nat), 0 ≤ i1 ∧ M.forN (a_.length : Int) _ _ n m i1 s1 = some x1 ∧ L' = [(0, .slice aa_ a_.length ca_), (3, .slice a2 s1.length c1), (4, .int .i64 i1)] ∧ Hold h h' [own cd39 a2 s1.length c1 s1]) ((a_.length : Int) - 0 : Int).toNat ⟨0, ([] : List (List Int)), a1, 0, Int.le_refl _, gx1, rfl, H11⟩ ?_
    rintro my1 _ h2 ⟨i1, s1, a2, c1, hloy1', gx1, rfl, H2⟩
    refine Run_seq ?_
    refine Run_seq ?_
    refine Run_reg 4 (by kernel_rfl) (L' := [(0, .slice aa_ a_.length ca_), (3, .slice a2 s1.length c1), (4, .int .i64 i1), (9, .bool (decide (i1 < (a_.length : Int))))]) ?_ ?_
    · refine QRun_b [.int .i64 i1, .slice aa_ a_.length ca_, .int .i64 (a_.length : Int), .bool (decide (i1 < (a_.length : Int)))] 0 _ (by kernel_rfl) (fun w => by kernel_rfl) ?_
      exact QRun_done [0, 3, 4, 9] (by kernel_rfl) (by kernel_rfl)
    refine Run_cond (b := decide (i1 < (a_.length : Int))) (by kernel_rfl) (fun hb1 => ?_) (fun hb1 => ?_)
    · obtain ⟨my1, y1, rfl, hB1, hgoy1, houty1⟩ := M.for_go gx1 hb1
      have hlty1 := of_decide_eq_true hb1
      refine Run_skip ?_
      refine Run_seq ?_
      refine Run_block ?_
      refine Run_ops ?_
      obtain ⟨x2, hx1, hB1⟩ := M.bind_some hB1
      obtain ⟨hx1l, hx1u, hx1⟩ := M.idx_some hx1
      obtain ⟨a4, c3, hc1, r1⟩ := ra_.row hx1
      refine Run_b [.slice a2 s1.length c1, .slice aa_ a_.length ca_, .int .i64 i1] 0 _ (by kernel_rfl) (fun w => by kernel_rfl) ?_
      refine Run_y (.pointer (some (adr aa_ (i1.toNat * 1)))) (by kernel_rfl) (Y_idx (t := 37) (e := 39) (sz := 1) (a := aa_) (n := a_.length) (cap := ca_) (kk := .i64) (i := i1) (by kernel_rfl) Try.underlying37 (by kernel_rfl) ((ra_.at H2.ext).cell hx1).1 hx1l hx1u) ?_
      refine Run_y (.slice a4 x2.length c3) (by kernel_rfl) (Y_load1 (t := 39) (p := adr aa_ (i1.toNat * 1)) (v := .slice a4 x2.length c3) (by kernel_rfl) (fun w => by kernel_rfl) (cell_at H2.ext hc1)) ?_
      obtain ⟨x3, hx2, hB1⟩ := M.bind_some hB1
      refine Run_E (by kernel_rfl) ?_
      refine E_call (f := 187) (args := #[.slice a4 x2.length c3]) (w_spec_l01Own h2 x2 a4 c3 (r1.at H2.ext) _ _ hx2) (by kernel_rfl) (fun v1 h4 hp1 => ?_)
      obtain ⟨a5, c4, rfl, H4⟩ := hp1
      have H5 : Hold h h4 [own cd2 a5 x3.length c4 x3, own cd39 a2 s1.length c1 s1] := H2.call H4 rfl
      refine Run_E (by kernel_rfl) ?_
      refine E_lit1 (ey := 39) (n := x3.length) H5 (fun w => by kernel_rfl) rfl (fun a6 h5 H6 => ?_)
      obtain ⟨l1, hl1, hB1⟩ := M.bind_some hB1
      have hl1 := M.app_some hl1
      have H7 : Hold h h5 [own cd39 a2 s1.length c1 s1, own cd39 a6 1 1 [x3]] := H6.pick [1, 0] (by kernel_rfl)
      have H8 : Hold h h5 [own cd39 a6 1 1 [x3], own cd39 a2 s1.length c1 s1] := H7.pick [1, 0] (by kernel_rfl)
      have H9 : Hold h h5 [own cd39 a2 s1.length c1 s1, own cd39 a6 1 1 [x3]] := H8.pick [1, 0] (by kernel_rfl)
      refine Run_E (by kernel_rfl) ?_
      refine E_app (C := cd39) (t := 37) (ty := 37) (n := s1.length) (m := 1) H9 cd39_ti rfl Try.underlying37 (by decide) (by kernel_rfl) hl1 (fun a7 c5 h6 H10 => ?_)
      refine Run_b [.slice a7 l1.length c5] 8 _ (by kernel_rfl) (fun w => by kernel_rfl) ?_
      refine Run_nil (by kernel_rfl) ?_
      refine Run_keep [0, 3, 4] (L' := [(0, .slice aa_ a_.length ca_), (3, .slice a7 l1.length c5), (4, .int .i64 i1)]) (by kernel_rfl) ?_
      refine Run_blk ?_
      refine Run_reg 3 (by kernel_rfl) (L' := [(0, .slice aa_ a_.length ca_), (3, .slice a7 l1.length c5), (4, .int .i64 (i1 + 1))]) ?_ ?_
      · refine QRun_b [.int .i64 i1] 0 _ (by kernel_rfl) (fun w => by kernel_rfl) ?_
        refine QRun_y (.int .i64 (i1 + 1)) (by kernel_rfl) (Y_eq (v := .int .i64 (w64 (i1 + 1))) (Y_pure (fun w => by kernel_rfl)) (by rw [w64_eq _ (by omega)])) ?_
        refine QRun_b [.int .i64 (i1 + 1)] 2 _ (by kernel_rfl) (fun w => by kernel_rfl) ?_
        exact QRun_done [0, 3, 4] (by kernel_rfl) (by kernel_rfl)
      have hB1 := M.ret_some hB1
      have gx1 := hgoy1 _ hB1.symm
      exact Run_again [0, 3, 4] (by kernel_rfl) my1 (Nat.lt_succ_self _) ⟨i1 + 1, l1, a7, c5, by omega, gx1, rfl, H10⟩
    · have gx1 := M.for_end gx1 hb1
      subst gx1
      refine Run_exit (k' := _) rfl ?_
      exact Run_fall [3] (by kernel_rfl) ⟨a2, c1, rfl, H2⟩

set_option maxRecDepth 100000 in
set_option maxHeartbeats 4000000 in
theorem w_spec_l02Add (h : Heap) (a_ : List (List Int)) (aa_ : Option Addr) (ca_ : Nat) (ra_ : Rd cd39 h (Lt h) aa_ ca_ a_) (b : List (List Int)) (ab : Option Addr) (cb : Nat) (rb : Rd cd39 h (Lt h) ab cb b) (n : Nat) (r : (List (List Int))) (hF : spec_l02Add a_ b n = some r) :
    Fn Try.prog 150 #[.slice aa_ a_.length ca_, .slice ab b.length cb] h fun v h' => ∃ (a0 : Option Addr) (c0 : Nat), v = .slice a0 r.length c0 ∧ Hold h h' [own cd39 a0 r.length c0 r] := by
  unfold spec_l02Add at hF
  refine Fn_enter (args := [.slice aa_ a_.length ca_, .slice ab b.length cb]) Try.func150 rfl (by kernel_rfl) (by kernel_rfl) (fun w0 _ => ?_)
  have H0 := Hold.init h
  refine Run_seq ?_
  refine Run_reg 1 (by kernel_rfl) (L' := [(0, .slice aa_ a_.length ca_), (1, .slice ab b.length cb)]) ?_ ?_
  · refine QRun_b [.slice none 0 0] 0 _ (by kernel_rfl) (fun w => by kernel_rfl) ?_
    exact QRun_done [0, 1] (by kernel_rfl) (by kernel_rfl)
  refine Run_seq ?_
  refine Run_ops ?_
  refine Run_b [.slice aa_ a_.length ca_] 0 _ (by kernel_rfl) (fun w => by kernel_rfl) ?_
  obtain ⟨x1, hx1, hF⟩ := M.bind_some hF
  refine Run_E (by kernel_rfl) ?_
  refine E_call (f := 176) (args := #[.slice aa_ a_.length ca_]) (w_spec_l02Own h a_ aa_ ca_ ra_ _ _ hx1) (by kernel_rfl) (fun v1 h1 hp1 => ?_)
  obtain ⟨a1, c1, rfl, H1⟩ := hp1
  have H2 : Hold h h1 [own cd39 a1 x1.length c1 x1] := H0.call H1 rfl
  refine Run_b [.slice a1 x1.length c1] 2 _ (by kernel_rfl) (fun w => by kernel_rfl) ?_
  refine Run_nil (by kernel_rfl) ?_
  refine Run_keep [1, 5] (L' := [(1, .slice ab b.length cb), (5, .slice a1 x1.length c1)]) (by kernel_rfl) ?_
  refine Run_seq ?_
  refine Run_seq ?_
  refine Run_reg 1 (by kernel_rfl) (L' := [(1, .slice ab b.length cb), (5, .slice a1 x1.length c1), (6, .int .i64 0)]) ?_ ?_
  · refine QRun_b [.int .i64 0] 0 _ (by kernel_rfl) (fun w => by kernel_rfl) ?_
    exact QRun_done [1, 5, 6] (by kernel_rfl) (by kernel_rfl)
  obtain ⟨x2, gx2, hF⟩ := M.bind_some hF
  obtain ⟨hloy1, hhiy1, gx2⟩ := M.for_start gx2
  refine Run_join (fun L' h' => L' = [(5, .slice a1 x1.length c1)] ∧ Hold h h' [own cd39 a1 x1.length c1 x2]) ?_ ?_
  · rintro _ h3 ⟨rfl, H4⟩
    refine Run_seq ?_
    refine Run_reg 2 (by kernel_rfl) (L' := [(4, .slice a1 x1.length c1)]) ?_ ?_
    · refine QRun_b [.slice a1 x1.length c1, .slice a1 x1.length c1] 0 _ (by kernel_rfl) (fun w => by kernel_rfl) ?_
      exact QRun_done [4] (by kernel_rfl) (by kernel_rfl)
    have hF := M.ret_some hF
    subst hF
    have H16 := H4.norm
    exact Run_ret1 rfl (ResV_tmp (v := .slice a1 x1.length c1) (by kernel_rfl)) ⟨a1, c1, (by simp only [(H4.len 0 rfl)]), H16⟩
  · refine Run_block ?_
    refine Run_keep [1, 5, 6] (L' := [(1, .slice ab b.length cb), (5, .slice a1 x1.length c1), (6, .int .i64 0)]) (by kernel_rfl) ?_
    refine Run_loop (fun m L' h' => ∃ (i1 : Int) (s1 : (List (List Int))), 0 ≤ i1 ∧ M.forN (x1.length : Int) _ _ n m i1 s1 = some x2 ∧ L' = [(1, .slice ab b.length cb), (5, .slice a1 x1.length c1), (6, .int .i64 i1)] ∧ Hold h h' [own cd39 a1 x1.length c1 s1]) ((x1.length : Int) - 0 : Int).toNat ⟨0, x1, Int.le_refl _, gx2, rfl, H2⟩ ?_
    rintro my1 _ h2 ⟨i1, s1, hloy1', gx2, rfl, H3⟩
    refine Run_seq ?_
    refine Run_seq ?_
    refine Run_reg 4 (by kernel_rfl) (L' := [(1, .slice ab b.length cb), (5, .slice a1 x1.length c1), (6, .int .i64 i1), (13, .bool (decide (i1 < (x1.length : Int))))]) ?_ ?_
    · refine QRun_b [.int .i64 i1, .slice a1 x1.length c1, .int .i64 (x1.length : Int), .bool (decide (i1 < (x1.length : Int)))] 0 _ (by kernel_rfl) (fun w => by kernel_rfl) ?_
      exact QRun_done [1, 5, 6, 13] (by kernel_rfl) (by kernel_rfl)
    refine Run_cond (b := decide (i1 < (x1.length : Int))) (by kernel_rfl) (fun hb1 => ?_) (fun hb1 => ?_)
    · obtain ⟨my1, y1, rfl, hB1, hgoy1, houty1⟩ := M.for_go gx2 hb1
      have hlty1 := of_decide_eq_true hb1
      refine Run_skip ?_
      refine Run_seq ?_
      refine Run_block ?_
      refine Run_seq ?_
      refine Run_reg 1 (by kernel_rfl) (L' := [(1, .slice ab b.length cb), (5, .slice a1 x1.length c1), (6, .int .i64 i1), (7, .int .i64 0)]) ?_ ?_
      · refine QRun_b [.int .i64 0] 0 _ (by kernel_rfl) (fun w => by kernel_rfl) ?_
        exact QRun_done [1, 5, 6, 7] (by kernel_rfl) (by kernel_rfl)
      obtain ⟨x3, gx3, hB1⟩ := M.bind_some hB1
      refine Run_join (fun L' h' => L' = [(1, .slice ab b.length cb), (5, .slice a1 x1.length c1), (6, .int .i64 i1)] ∧ Hold h h' [own cd39 a1 x1.length c1 x3.1]) ?_ ?_
      · rintro _ h5 ⟨rfl, H6⟩
        refine Run_blk ?_
        refine Run_reg 3 (by kernel_rfl) (L' := [(1, .slice ab b.length cb), (5, .slice a1 x1.length c1), (6, .int .i64 (i1 + 1))]) ?_ ?_
        · refine QRun_b [.int .i64 i1] 0 _ (by kernel_rfl) (fun w => by kernel_rfl) ?_
          refine QRun_y (.int .i64 (i1 + 1)) (by kernel_rfl) (Y_eq (v := .int .i64 (w64 (i1 + 1))) (Y_pure (fun w => by kernel_rfl)) (by rw [w64_eq _ (by omega)])) ?_
          refine QRun_b [.int .i64 (i1 + 1)] 2 _ (by kernel_rfl) (fun w => by kernel_rfl) ?_
          exact QRun_done [1, 5, 6] (by kernel_rfl) (by kernel_rfl)
        have hB1 := M.ret_some hB1
        have gx2 := hgoy1 _ hB1.symm
        exact Run_again [1, 5, 6] (by kernel_rfl) my1 (Nat.lt_succ_self _) ⟨i1 + 1, x3.1, by omega, gx2, rfl, H6⟩
      · refine Run_block ?_
        refine Run_keep [1, 5, 6, 7] (L' := [(1, .slice ab b.length cb), (5, .slice a1 x1.length c1), (6, .int .i64 i1), (7, .int .i64 0)]) (by kernel_rfl) ?_
        refine Run_loop (fun m L' h' => ∃ (s2 : (List (List Int)) × Int), M.loopN _ n m s2 = some x3 ∧ L' = [(1, .slice ab b.length cb), (5, .slice a1 x1.length c1), (6, .int .i64 i1), (7, .int .i64 s2.2)] ∧ Hold h h' [own cd39 a1 x1.length c1 s2.1]) n ⟨(s1, 0), gx3, rfl, H3⟩ ?_
        rintro my2 _ h4 ⟨s2, gx3, rfl, H5⟩
        obtain ⟨my2, y2, rfl, hB2, hgoy2, houty2⟩ := M.loop_some gx3
        refine Run_seq ?_
        refine Run_seq ?_
        obtain ⟨x4, hx2, hB2⟩ := M.bind_some hB2
        obtain ⟨hx2l, hx2u, hx2⟩ := M.idx_some hx2
        have H7 := H5.toRows
        obtain ⟨a2, c2, H8⟩ := H7.pinRow hx2
        refine Run_reg 7 (by kernel_rfl) (L' := [(1, .slice ab b.length cb), (5, .slice a1 x1.length c1), (6, .int .i64 i1), (7, .int .i64 s2.2), (22, .bool (decide (s2.2 < (x4.length : Int))))]) ?_ ?_
        · refine QRun_b [.int .i64 s2.2, .slice a1 x1.length c1, .int .i64 i1] 0 _ (by kernel_rfl) (fun w => by kernel_rfl) ?_
          refine QRun_y (.pointer (some (adr a1 (i1.toNat * 1)))) (by kernel_rfl) (Y_idx (t := 37) (e := 39) (sz := 1) (a := a1) (n := x1.length) (cap := c1) (kk := .i64) (i := i1) (by kernel_rfl) Try.underlying37 (by kernel_rfl) ((H5.rd 0 rfl).cell hx2).1 hx2l (by rw [← (H5.len 0 rfl)]; exact hx2u)) ?_
          refine QRun_y (.slice a2 x4.length c2) (by kernel_rfl) (Y_load1 (t := 39) (p := adr a1 (i1.toNat * 1)) (v := .slice a2 x4.length c2) (by kernel_rfl) (fun w => by kernel_rfl) (H8.cellPin 0 rfl 0 rfl)) ?_
          refine QRun_b [.int .i64 (x4.length : Int), .bool (decide (s2.2 < (x4.length : Int)))] 5 _ (by kernel_rfl) (fun w => by kernel_rfl) ?_
          exact QRun_done [1, 5, 6, 7, 22] (by kernel_rfl) (by kernel_rfl)
        refine Run_cond (b := decide (s2.2 < (x4.length : Int))) (by kernel_rfl) (fun hb2 => ?_) (fun hb2 => ?_)
        · have hB2 := (M.ite_some hB2).1 hb2
          refine Run_skip ?_
          refine Run_seq ?_
          refine Run_block ?_
          obtain ⟨x5, hx3, hB2⟩ := M.bind_some hB2
          obtain ⟨hx3l, hx3u, hx3⟩ := M.idx_some hx3
          obtain ⟨a3, c3, H9⟩ := H8.pinRow hx3
          obtain ⟨x6, hx4, hB2⟩ := M.bind_some hB2
          obtain ⟨hx4l, hx4u, hx4⟩ := M.idx_some hx4
          obtain ⟨a4, c4, H10⟩ := H9.pinRow hx4
          obtain ⟨x7, hx5, hB2⟩ := M.bind_some hB2
          obtain ⟨hx5l, hx5u, hx5⟩ := M.idx_some hx5
          obtain ⟨x8, hx6, hB2⟩ := M.bind_some hB2
          obtain ⟨hx6l, hx6u, hx6⟩ := M.idx_some hx6
          obtain ⟨a5, c5, hc1, r1⟩ := rb.row hx6
          obtain ⟨x9, hx7, hB2⟩ := M.bind_some hB2
          obtain ⟨hx7l, hx7u, hx7⟩ := M.idx_some hx7
          obtain ⟨x10, hx8, hB2⟩ := M.bind_some hB2
          obtain ⟨hx8l, hx8u, hx8⟩ := M.idx_some hx8
          refine Run_D (fun x => Hold h x [rowsP cd2 39 a1 x1.length c1 s2.1 [(i1.toNat, a4, x6.length, c4, x6), (i1.toNat, a3, x5.length, c3, x5), (i1.toNat, a2, x4.length, c2, x4)]]) (fun x => Hold h x [rowsP cd2 39 a1 x1.length c1 s2.1 [(i1.toNat, a4, x6.length, c4, x6), (i1.toNat, a3, x5.length, c3, x5), (i1.toNat, a2, x4.length, c2, x4)]]) mixed (by kernel_rfl) H10 Hold.stable (fun x Hy => (show Hold h x [rowsP cd2 39 a1 x1.length c1 s2.1 [(i1.toNat, a4, x6.length, c4, x6), (i1.toNat, a3, x5.length, c3, x5), (i1.toNat, a2, x4.length, c2, x4)]] from Hy).pick [0] (by kernel_rfl)) ?_
          refine DR_b 20 [.slice a1 x1.length c1, .int .i64 i1] 0 (by kernel_rfl) (by kernel_rfl) (by kernel_rfl) (fun w => by kernel_rfl) ?_
          refine DR_y 19 (i := 2) (.pointer (some (adr a1 (i1.toNat * 1)))) (by kernel_rfl) (by kernel_rfl) (by kernel_rfl) (fun hx Hx => (YE.of (Y_idx (t := 37) (e := 39) (sz := 1) (a := a1) (n := x1.length) (cap := c1) (kk := .i64) (i := i1) (by kernel_rfl) Try.underlying37 (by kernel_rfl) ((H8.rdRows 0 rfl).cell hx3).1 hx3l (by rw [← (H8.lenRows 0 rfl)]; exact hx3u)))) ?_
          refine DR_y 18 (i := 3) (.slice a3 x5.length c3) (by kernel_rfl) (by kernel_rfl) (by kernel_rfl) (fun hx Hx => (YE.of (Y_load1 (t := 39) (p := adr a1 (i1.toNat * 1)) (v := .slice a3 x5.length c3) (by kernel_rfl) (fun w => by kernel_rfl) (Hx.cellPin 0 rfl 1 rfl)))) ?_
          refine DR_b 15 [.int .i64 s2.2, .slice a1 x1.length c1, .int .i64 i1] 4 (by kernel_rfl) (by kernel_rfl) (by kernel_rfl) (fun w => by kernel_rfl) ?_
          refine DR_y 14 (i := 7) (.pointer (some (adr a1 (i1.toNat * 1)))) (by kernel_rfl) (by kernel_rfl) (by kernel_rfl) (fun hx Hx => (YE.of (Y_idx (t := 37) (e := 39) (sz := 1) (a := a1) (n := x1.length) (cap := c1) (kk := .i64) (i := i1) (by kernel_rfl) Try.underlying37 (by kernel_rfl) ((H9.rdRows 0 rfl).cell hx4).1 hx4l (by rw [← (H9.lenRows 0 rfl)]; exact hx4u)))) ?_
          refine DR_y 13 (i := 8) (.slice a4 x6.length c4) (by kernel_rfl) (by kernel_rfl) (by kernel_rfl) (fun hx Hx => (YE.of (Y_load1 (t := 39) (p := adr a1 (i1.toNat * 1)) (v := .slice a4 x6.length c4) (by kernel_rfl) (fun w => by kernel_rfl) (Hx.cellPin 0 rfl 0 rfl)))) ?_
          refine DR_b 12 [.int .i64 s2.2] 9 (by kernel_rfl) (by kernel_rfl) (by kernel_rfl) (fun w => by kernel_rfl) ?_
          refine DR_y 11 (i := 10) (.pointer (some (adr a4 (s2.2.toNat * 1)))) (by kernel_rfl) (by kernel_rfl) (by kernel_rfl) (fun hx Hx => (YE.of (Y_idx (t := 39) (e := 2) (sz := 1) (a := a4) (n := x6.length) (cap := c4) (kk := .i64) (i := s2.2) (by kernel_rfl) Try.underlying39 (by kernel_rfl) ((H10.rdPin 0 rfl 0 rfl).cell hx5).1 hx5l hx5u))) ?_
          refine DR_y 10 (i := 11) (.int .i64 x7) (by kernel_rfl) (by kernel_rfl) (by kernel_rfl) (fun hx Hx => (YE.of (Y_load1 (t := 2) (p := adr a4 (s2.2.toNat * 1)) (v := .int .i64 x7) (by kernel_rfl) (fun w => by kernel_rfl) (cd2_cell (Hx.rdPin 0 rfl 0 rfl) hx5)))) ?_
          refine DR_b 8 [.slice ab b.length cb, .int .i64 i1] 12 (by kernel_rfl) (by kernel_rfl) (by kernel_rfl) (fun w => by kernel_rfl) ?_
          refine DR_y 7 (i := 14) (.pointer (some (adr ab (i1.toNat * 1)))) (by kernel_rfl) (by kernel_rfl) (by kernel_rfl) (fun hx Hx => (YE.of (Y_idx (t := 37) (e := 39) (sz := 1) (a := ab) (n := b.length) (cap := cb) (kk := .i64) (i := i1) (by kernel_rfl) Try.underlying37 (by kernel_rfl) ((rb.at H10.ext).cell hx6).1 hx6l hx6u))) ?_
          refine DR_y 6 (i := 15) (.slice a5 x8.length c5) (by kernel_rfl) (by kernel_rfl) (by kernel_rfl) (fun hx Hx => (YE.of (Y_load1 (t := 39) (p := adr ab (i1.toNat * 1)) (v := .slice a5 x8.length c5) (by kernel_rfl) (fun w => by kernel_rfl) (cell_at Hx.ext hc1)))) ?_
          refine DR_b 5 [.int .i64 s2.2] 16 (by kernel_rfl) (by kernel_rfl) (by kernel_rfl) (fun w => by kernel_rfl) ?_
          refine DR_y 4 (i := 17) (.pointer (some (adr a5 (s2.2.toNat * 1)))) (by kernel_rfl) (by kernel_rfl) (by kernel_rfl) (fun hx Hx => (YE.of (Y_idx (t := 39) (e := 2) (sz := 1) (a := a5) (n := x8.length) (cap := c5) (kk := .i64) (i := s2.2) (by kernel_rfl) Try.underlying39 (by kernel_rfl) ((r1.at H10.ext).cell hx7).1 hx7l hx7u))) ?_
          refine DR_y 3 (i := 18) (.int .i64 x9) (by kernel_rfl) (by kernel_rfl) (by kernel_rfl) (fun hx Hx => (YE.of (Y_load1 (t := 2) (p := adr a5 (s2.2.toNat * 1)) (v := .int .i64 x9) (by kernel_rfl) (fun w => by kernel_rfl) (cd2_cell (r1.at Hx.ext) hx7)))) ?_
          refine DR_b 2 [.int .i64 (mx x7 x9)] 19 (by kernel_rfl) (by kernel_rfl) (by kernel_rfl) (fun w => by kernel_rfl) ?_
          refine DR_y 1 (i := 20) (.pointer (some (adr a3 (s2.2.toNat * 1)))) (by kernel_rfl) (by kernel_rfl) (by kernel_rfl) (fun hx Hx => (YE.of (Y_idx (t := 39) (e := 2) (sz := 1) (a := a3) (n := x5.length) (cap := c3) (kk := .i64) (i := s2.2) (by kernel_rfl) Try.underlying39 (by kernel_rfl) ((H10.rdPin 0 rfl 1 rfl).cell hx8).1 hx8l hx8u))) ?_
          refine DR_tail (i := 21) (by kernel_rfl) (by kernel_rfl) (by kernel_rfl) (fun h6 H11 => ?_)
          have H12 : Hold h h6 [rowsP cd2 39 a1 x1.length c1 s2.1 [(i1.toNat, a4, x6.length, c4, x6), (i1.toNat, a3, x5.length, c3, x5), (i1.toNat, a2, x4.length, c2, x4)]] := H11
          obtain ⟨l1, hu1, hB2⟩ := M.bind_some hB2
          have hu1 := M.upd_some hu1
          refine Run_E (by kernel_rfl) ?_
          refine E_put2 (C := cd2) (t := 2) (sz := 1) (j := s2.2) (x := (mx x7 x9)) (v := .int .i64 (mx x7 x9)) (m2 := s2.1.set i1.toNat l1) H12 cd2_flat 1 rfl (by kernel_rfl) rfl (cd2_own _) (by kernel_rfl) hu1 rfl (fun h7 H13 => ?_)
          refine Run_nil (by kernel_rfl) ?_
          refine Run_keep [1, 5, 6, 7] (L' := [(1, .slice ab b.length cb), (5, .slice a1 x1.length c1), (6, .int .i64 i1), (7, .int .i64 s2.2)]) (by kernel_rfl) ?_
          refine Run_blk ?_
          refine Run_reg 3 (by kernel_rfl) (L' := [(1, .slice ab b.length cb), (5, .slice a1 x1.length c1), (6, .int .i64 i1), (7, .int .i64 (w64 (s2.2 + 1)))]) ?_ ?_
          · refine QRun_b [.int .i64 s2.2, .int .i64 (w64 (s2.2 + 1)), .int .i64 (w64 (s2.2 + 1))] 0 _ (by kernel_rfl) (fun w => by kernel_rfl) ?_
            exact QRun_done [1, 5, 6, 7] (by kernel_rfl) (by kernel_rfl)
          have H14 := H13.ofRows
          have hB2 := M.ret_some hB2
          have gx3 := hgoy2 _ hB2.symm
          exact Run_again [1, 5, 6, 7] (by kernel_rfl) my2 (Nat.lt_succ_self _) ⟨((s2.1.set i1.toNat l1), (w64 (s2.2 + 1))), gx3, rfl, H14⟩
        · have hB2 := (M.ite_some hB2).2 hb2
          refine Run_exit (k' := _) rfl ?_
          have H15 := H8.ofRows
          have hB2 := M.ret_some hB2
          have gx3 := houty2 _ hB2.symm
          subst gx3
          exact Run_fall [1, 5, 6] (by kernel_rfl) ⟨rfl, H15⟩
    · have gx2 := M.for_end gx2 hb1
      subst gx2
      refine Run_exit (k' := _) rfl ?_
      exact Run_fall [5] (by kernel_rfl) ⟨rfl, H3⟩

set_option maxRecDepth 100000 in
set_option maxHeartbeats 4000000 in
theorem w_spec_l01Same (h : Heap) (a_ : List Int) {Sa_ : Bs} (aa_ : Option Addr) (ca_ : Nat) (ra_ : Rd cd2 h Sa_ aa_ ca_ a_) (b : List Int) {Sb : Bs} (ab : Option Addr) (cb : Nat) (rb : Rd cd2 h Sb ab cb b) (n : Nat) (r : Bool) (hF : spec_l01Same a_ b n = some r) :
    Fn Try.prog 177 #[.slice aa_ a_.length ca_, .slice ab b.length cb] h fun v h' => v = .bool r ∧ h' = h := by
  unfold spec_l01Same at hF
  refine Fn_enter (args := [.slice aa_ a_.length ca_, .slice ab b.length cb]) Try.func177 rfl (by kernel_rfl) (by kernel_rfl) (fun w0 _ => ?_)
  refine Run_seq ?_
  refine Run_reg 1 (by kernel_rfl) (L' := [(0, .slice aa_ a_.length ca_), (1, .slice ab b.length cb)]) ?_ ?_
  · refine QRun_b [.bool false] 0 _ (by kernel_rfl) (fun w => by kernel_rfl) ?_
    exact QRun_done [0, 1] (by kernel_rfl) (by kernel_rfl)
  refine Run_seq ?_
  refine Run_seq ?_
  refine Run_reg 5 (by kernel_rfl) (L' := [(0, .slice aa_ a_.length ca_), (1, .slice ab b.length cb), (10, .bool ((a_.length : Int) != (b.length : Int)))]) ?_ ?_
  · refine QRun_b [.slice aa_ a_.length ca_, .int .i64 (a_.length : Int), .slice ab b.length cb, .int .i64 (b.length : Int), .bool ((a_.length : Int) != (b.length : Int))] 0 _ (by kernel_rfl) (fun w => by kernel_rfl) ?_
    exact QRun_done [0, 1, 10] (by kernel_rfl) (by kernel_rfl)
  refine Run_cond (b := (a_.length : Int) != (b.length : Int)) (by kernel_rfl) (fun hb1 => ?_) (fun hb1 => ?_)
  · have hF := (M.ite_some hF).1 hb1
    refine Run_seq ?_
    refine Run_reg 1 (by kernel_rfl) (L' := [(4, .bool false)]) ?_ ?_
    · refine QRun_b [.bool false] 0 _ (by kernel_rfl) (fun w => by kernel_rfl) ?_
      exact QRun_done [4] (by kernel_rfl) (by kernel_rfl)
    have hF := M.ret_some hF
    subst hF
    exact Run_ret1 rfl (ResV_tmp (v := .bool false) (by kernel_rfl)) ⟨rfl, rfl⟩
  · have hF := (M.ite_some hF).2 hb1
    refine Run_skip ?_
    refine Run_seq ?_
    refine Run_seq ?_
    refine Run_reg 1 (by kernel_rfl) (L' := [(0, .slice aa_ a_.length ca_), (1, .slice ab b.length cb), (5, .int .i64 0)]) ?_ ?_
    · refine QRun_b [.int .i64 0] 0 _ (by kernel_rfl) (fun w => by kernel_rfl) ?_
      exact QRun_done [0, 1, 5] (by kernel_rfl) (by kernel_rfl)
    obtain ⟨x1, gx1, hF⟩ := M.bind_some hF
    obtain ⟨hloy1, hhiy1, gx1⟩ := M.for_start gx1
    refine Run_join (fun L' h' => ∃ (s2 : Unit), x1 = .inl s2 ∧ L' = [] ∧ h = h') ?_ ?_
    · rintro _ _ ⟨s2, es2, rfl, rfl⟩
      have hF := M.cont_inl' hF es2
      refine Run_seq ?_
      refine Run_reg 1 (by kernel_rfl) (L' := [(4, .bool true)]) ?_ ?_
      · refine QRun_b [.bool true] 0 _ (by kernel_rfl) (fun w => by kernel_rfl) ?_
        exact QRun_done [4] (by kernel_rfl) (by kernel_rfl)
      have hF := M.ret_some hF
      subst hF
      exact Run_ret1 rfl (ResV_tmp (v := .bool true) (by kernel_rfl)) ⟨rfl, rfl⟩
    · refine Run_block ?_
      refine Run_keep [0, 1, 5] (L' := [(0, .slice aa_ a_.length ca_), (1, .slice ab b.length cb), (5, .int .i64 0)]) (by kernel_rfl) ?_
      refine Run_loop (fun m L' h' => ∃ (i1 : Int) (s1 : Unit), 0 ≤ i1 ∧ M.forN (a_.length : Int) _ _ n m i1 s1 = some x1 ∧ L' = [(0, .slice aa_ a_.length ca_), (1, .slice ab b.length cb), (5, .int .i64 i1)] ∧ h = h') ((a_.length : Int) - 0 : Int).toNat ⟨0, (), Int.le_refl _, gx1, rfl, rfl⟩ ?_
      rintro my1 _ _ ⟨i1, s1, hloy1', gx1, rfl, rfl⟩
      refine Run_seq ?_
      refine Run_seq ?_
      refine Run_reg 4 (by kernel_rfl) (L' := [(0, .slice aa_ a_.length ca_), (1, .slice ab b.length cb), (5, .int .i64 i1), (14, .bool (decide (i1 < (a_.length : Int))))]) ?_ ?_
      · refine QRun_b [.int .i64 i1, .slice aa_ a_.length ca_, .int .i64 (a_.length : Int), .bool (decide (i1 < (a_.length : Int)))] 0 _ (by kernel_rfl) (fun w => by kernel_rfl) ?_
        exact QRun_done [0, 1, 5, 14] (by kernel_rfl) (by kernel_rfl)
      refine Run_cond (b := decide (i1 < (a_.length : Int))) (by kernel_rfl) (fun hb2 => ?_) (fun hb2 => ?_)
      · obtain ⟨my1, y1, rfl, hB1, hgoy1, houty1⟩ := M.for_go gx1 hb2
        have hlty1 := of_decide_eq_true hb2
        refine Run_skip ?_
        refine Run_seq ?_
        refine Run_block ?_
        refine Run_seq ?_
        obtain ⟨x2, hx1, hB1⟩ := M.bind_some hB1
        obtain ⟨hx1l, hx1u, hx1⟩ := M.idx_some hx1
        obtain ⟨x3, hx2, hB1⟩ := M.bind_some hB1
        obtain ⟨hx2l, hx2u, hx2⟩ := M.idx_some hx2
        refine Run_draw 9 mixed (by kernel_rfl) (by kernel_rfl) (L' := [(0, .slice aa_ a_.length ca_), (1, .slice ab b.length cb), (5, .int .i64 i1), (25, .bool (x2 != x3))]) ?_ ?_
        · refine QRun_b [.slice aa_ a_.length ca_, .int .i64 i1] 0 _ (by kernel_rfl) (fun w => by kernel_rfl) ?_
          refine QRun_y (.pointer (some (adr aa_ (i1.toNat * 1)))) (by kernel_rfl) (Y_idx (t := 39) (e := 2) (sz := 1) (a := aa_) (n := a_.length) (cap := ca_) (kk := .i64) (i := i1) (by kernel_rfl) Try.underlying39 (by kernel_rfl) (ra_.cell hx1).1 hx1l hx1u) ?_
          refine QRun_y (.int .i64 x2) (by kernel_rfl) (Y_load1 (t := 2) (p := adr aa_ (i1.toNat * 1)) (v := .int .i64 x2) (by kernel_rfl) (fun w => by kernel_rfl) (cd2_cell ra_ hx1)) ?_
          refine QRun_b [.slice ab b.length cb, .int .i64 i1] 4 _ (by kernel_rfl) (fun w => by kernel_rfl) ?_
          refine QRun_y (.pointer (some (adr ab (i1.toNat * 1)))) (by kernel_rfl) (Y_idx (t := 39) (e := 2) (sz := 1) (a := ab) (n := b.length) (cap := cb) (kk := .i64) (i := i1) (by kernel_rfl) Try.underlying39 (by kernel_rfl) (rb.cell hx2).1 hx2l hx2u) ?_
          refine QRun_y (.int .i64 x3) (by kernel_rfl) (Y_load1 (t := 2) (p := adr ab (i1.toNat * 1)) (v := .int .i64 x3) (by kernel_rfl) (fun w => by kernel_rfl) (cd2_cell rb hx2)) ?_
          refine QRun_b [.bool (x2 != x3)] 8 _ (by kernel_rfl) (fun w => by kernel_rfl) ?_
          exact QRun_done [0, 1, 5, 25] (by kernel_rfl) (by kernel_rfl)
        refine Run_cond (b := x2 != x3) (by kernel_rfl) (fun hb3 => ?_) (fun hb3 => ?_)
        · have hB1 := (M.ite_some hB1).1 hb3
          refine Run_seq ?_
          refine Run_reg 1 (by kernel_rfl) (L' := [(4, .bool false)]) ?_ ?_
          · refine QRun_b [.bool false] 0 _ (by kernel_rfl) (fun w => by kernel_rfl) ?_
            exact QRun_done [4] (by kernel_rfl) (by kernel_rfl)
          have hB1 := M.ret_some hB1
          have gx1 := houty1 _ hB1.symm
          have hF := M.cont_inr' hF gx1
          have hF := M.ret_some hF
          subst hF
          exact Run_ret1 rfl (ResV_tmp (v := .bool false) (by kernel_rfl)) ⟨rfl, rfl⟩
        · have hB1 := (M.ite_some hB1).2 hb3
          refine Run_skip ?_
          refine Run_blk ?_
          refine Run_reg 3 (by kernel_rfl) (L' := [(0, .slice aa_ a_.length ca_), (1, .slice ab b.length cb), (5, .int .i64 (i1 + 1))]) ?_ ?_
          · refine QRun_b [.int .i64 i1] 0 _ (by kernel_rfl) (fun w => by kernel_rfl) ?_
            refine QRun_y (.int .i64 (i1 + 1)) (by kernel_rfl) (Y_eq (v := .int .i64 (w64 (i1 + 1))) (Y_pure (fun w => by kernel_rfl)) (by rw [w64_eq _ (by omega)])) ?_
            refine QRun_b [.int .i64 (i1 + 1)] 2 _ (by kernel_rfl) (fun w => by kernel_rfl) ?_
            exact QRun_done [0, 1, 5] (by kernel_rfl) (by kernel_rfl)
          have hB1 := M.ret_some hB1
          have gx1 := hgoy1 _ hB1.symm
          exact Run_again [0, 1, 5] (by kernel_rfl) my1 (Nat.lt_succ_self _) ⟨i1 + 1, (), by omega, gx1, rfl, rfl⟩
      · have gx1 := M.for_end gx1 hb2
        subst gx1
        refine Run_exit (k' := _) rfl ?_
        exact Run_fall [] (by kernel_rfl) ⟨(), rfl, rfl, rfl⟩

set_option maxRecDepth 100000 in
set_option maxHeartbeats 4000000 in
theorem w_spec_l02Same (h : Heap) (a_ : List (List Int)) {Sa_ : Bs} (aa_ : Option Addr) (ca_ : Nat) (ra_ : Rd cd39 h Sa_ aa_ ca_ a_) (b : List (List Int)) {Sb : Bs} (ab : Option Addr) (cb : Nat) (rb : Rd cd39 h Sb ab cb b) (n : Nat) (r : Bool) (hF : spec_l02Same a_ b n = some r) :
    Fn Try.prog 152 #[.slice aa_ a_.length ca_, .slice ab b.length cb] h fun v h' => v = .bool r ∧ h' = h := by
  unfold spec_l02Same at hF
  refine Fn_enter (args := [.slice aa_ a_.length ca_, .slice ab b.length cb]) Try.func152 rfl (by kernel_rfl) (by kernel_rfl) (fun w0 _ => ?_)
  refine Run_seq ?_
  refine Run_reg 1 (by kernel_rfl) (L' := [(0, .slice aa_ a_.length ca_), (1, .slice ab b.length cb)]) ?_ ?_
  · refine QRun_b [.bool false] 0 _ (by kernel_rfl) (fun w => by kernel_rfl) ?_
    exact QRun_done [0, 1] (by kernel_rfl) (by kernel_rfl)
  refine Run_seq ?_
  refine Run_seq ?_
  refine Run_reg 5 (by kernel_rfl) (L' := [(0, .slice aa_ a_.length ca_), (1, .slice ab b.length cb), (10, .bool ((a_.length : Int) != (b.length : Int)))]) ?_ ?_
  · refine QRun_b [.slice aa_ a_.length ca_, .int .i64 (a_.length : Int), .slice ab b.length cb, .int .i64 (b.length : Int), .bool ((a_.length : Int) != (b.length : Int))] 0 _ (by kernel_rfl) (fun w => by kernel_rfl) ?_
    exact QRun_done [0, 1, 10] (by kernel_rfl) (by kernel_rfl)
  refine Run_cond (b := (a_.length : Int) != (b.length : Int)) (by kernel_rfl) (fun hb1 => ?_) (fun hb1 => ?_)
  · have hF := (M.ite_some hF).1 hb1
    refine Run_seq ?_
    refine Run_reg 1 (by kernel_rfl) (L' := [(4, .bool false)]) ?_ ?_
    · refine QRun_b [.bool false] 0 _ (by kernel_rfl) (fun w => by kernel_rfl) ?_
      exact QRun_done [4] (by kernel_rfl) (by kernel_rfl)
    have hF := M.ret_some hF
    subst hF
    exact Run_ret1 rfl (ResV_tmp (v := .bool false) (by kernel_rfl)) ⟨rfl, rfl⟩
  · have hF := (M.ite_some hF).2 hb1
    refine Run_skip ?_
    refine Run_seq ?_
    refine Run_seq ?_
    refine Run_reg 1 (by kernel_rfl) (L' := [(0, .slice aa_ a_.length ca_), (1, .slice ab b.length cb), (5, .int .i64 0)]) ?_ ?_
    · refine QRun_b [.int .i64 0] 0 _ (by kernel_rfl) (fun w => by kernel_rfl) ?_
      exact QRun_done [0, 1, 5] (by kernel_rfl) (by kernel_rfl)
    obtain ⟨x1, gx1, hF⟩ := M.bind_some hF
    obtain ⟨hloy1, hhiy1, gx1⟩ := M.for_start gx1
    refine Run_join (fun L' h' => ∃ (s2 : Unit), x1 = .inl s2 ∧ L' = [] ∧ h = h') ?_ ?_
    · rintro _ _ ⟨s2, es2, rfl, rfl⟩
      have hF := M.cont_inl' hF es2
      refine Run_seq ?_
      refine Run_reg 1 (by kernel_rfl) (L' := [(4, .bool true)]) ?_ ?_
      · refine QRun_b [.bool true] 0 _ (by kernel_rfl) (fun w => by kernel_rfl) ?_
        exact QRun_done [4] (by kernel_rfl) (by kernel_rfl)
      have hF := M.ret_some hF
      subst hF
      exact Run_ret1 rfl (ResV_tmp (v := .bool true) (by kernel_rfl)) ⟨rfl, rfl⟩
    · refine Run_block ?_
      refine Run_keep [0, 1, 5] (L' := [(0, .slice aa_ a_.length ca_), (1, .slice ab b.length cb), (5, .int .i64 0)]) (by kernel_rfl) ?_
      refine Run_loop (fun m L' h' => ∃ (i1 : Int) (s1 : Unit), 0 ≤ i1 ∧ M.forN (a_.length : Int) _ _ n m i1 s1 = some x1 ∧ L' = [(0, .slice aa_ a_.length ca_), (1, .slice ab b.length cb), (5, .int .i64 i1)] ∧ h = h') ((a_.length : Int) - 0 : Int).toNat ⟨0, (), Int.le_refl _, gx1, rfl, rfl⟩ ?_
      rintro my1 _ _ ⟨i1, s1, hloy1', gx1, rfl, rfl⟩
      refine Run_seq ?_
      refine Run_seq ?_
      refine Run_reg 4 (by kernel_rfl) (L' := [(0, .slice aa_ a_.length ca_), (1, .slice ab b.length cb), (5, .int .i64 i1), (14, .bool (decide (i1 < (a_.length : Int))))]) ?_ ?_
      · refine QRun_b [.int .i64 i1, .slice aa_ a_.length ca_, .int .i64 (a_.length : Int), .bool (decide (i1 < (a_.length : Int)))] 0 _ (by kernel_rfl) (fun w => by kernel_rfl) ?_
        exact QRun_done [0, 1, 5, 14] (by kernel_rfl) (by kernel_rfl)
      refine Run_cond (b := decide (i1 < (a_.length : Int))) (by kernel_rfl) (fun hb2 => ?_) (fun hb2 => ?_)
      · obtain ⟨my1, y1, rfl, hB1, hgoy1, houty1⟩ := M.for_go gx1 hb2
        have hlty1 := of_decide_eq_true hb2
        refine Run_skip ?_
        refine Run_seq ?_
        refine Run_block ?_
        refine Run_seq ?_
        obtain ⟨x2, hx1, hB1⟩ := M.bind_some hB1
        obtain ⟨hx1l, hx1u, hx1⟩ := M.idx_some hx1
        obtain ⟨a1, c1, hc1, r1⟩ := ra_.row hx1
        obtain ⟨x3, hx2, hB1⟩ := M.bind_some hB1
        obtain ⟨hx2l, hx2u, hx2⟩ := M.idx_some hx2
        obtain ⟨a2, c2, hc2, r2⟩ := rb.row hx2
        obtain ⟨x4, hx3, hB1⟩ := M.bind_some hB1
        refine Run_draw 10 mixed (by kernel_rfl) (by kernel_rfl) (L' := [(0, .slice aa_ a_.length ca_), (1, .slice ab b.length cb), (5, .int .i64 i1), (26, .bool (!x4))]) ?_ ?_
        · refine QRun_b [.slice aa_ a_.length ca_, .int .i64 i1] 0 _ (by kernel_rfl) (fun w => by kernel_rfl) ?_
          refine QRun_y (.pointer (some (adr aa_ (i1.toNat * 1)))) (by kernel_rfl) (Y_idx (t := 37) (e := 39) (sz := 1) (a := aa_) (n := a_.length) (cap := ca_) (kk := .i64) (i := i1) (by kernel_rfl) Try.underlying37 (by kernel_rfl) (ra_.cell hx1).1 hx1l hx1u) ?_
          refine QRun_y (.slice a1 x2.length c1) (by kernel_rfl) (Y_load1 (t := 39) (p := adr aa_ (i1.toNat * 1)) (v := .slice a1 x2.length c1) (by kernel_rfl) (fun w => by kernel_rfl) hc1) ?_
          refine QRun_b [.slice ab b.length cb, .int .i64 i1] 4 _ (by kernel_rfl) (fun w => by kernel_rfl) ?_
          refine QRun_y (.pointer (some (adr ab (i1.toNat * 1)))) (by kernel_rfl) (Y_idx (t := 37) (e := 39) (sz := 1) (a := ab) (n := b.length) (cap := cb) (kk := .i64) (i := i1) (by kernel_rfl) Try.underlying37 (by kernel_rfl) (rb.cell hx2).1 hx2l hx2u) ?_
          refine QRun_y (.slice a2 x3.length c2) (by kernel_rfl) (Y_load1 (t := 39) (p := adr ab (i1.toNat * 1)) (v := .slice a2 x3.length c2) (by kernel_rfl) (fun w => by kernel_rfl) hc2) ?_
          refine QRun_y (.bool x4) (by kernel_rfl) (Y_callq (f := 177) (args := #[.slice a1 x2.length c1, .slice a2 x3.length c2]) (v := .bool x4) (by kernel_rfl) (w_spec_l01Same h x2 a1 c1 r1 x3 a2 c2 r2 _ _ hx3)) ?_
          refine QRun_b [.bool (!x4)] 9 _ (by kernel_rfl) (fun w => by kernel_rfl) ?_
          exact QRun_done [0, 1, 5, 26] (by kernel_rfl) (by kernel_rfl)
        refine Run_cond (b := !x4) (by kernel_rfl) (fun hb3 => ?_) (fun hb3 => ?_)
        · have hB1 := (M.ite_some hB1).1 hb3
          refine Run_seq ?_
          refine Run_reg 1 (by kernel_rfl) (L' := [(4, .bool false)]) ?_ ?_
          · refine QRun_b [.bool false] 0 _ (by kernel_rfl) (fun w => by kernel_rfl) ?_
            exact QRun_done [4] (by kernel_rfl) (by kernel_rfl)
          have hB1 := M.ret_some hB1
          have gx1 := houty1 _ hB1.symm
          have hF := M.cont_inr' hF gx1
          have hF := M.ret_some hF
          subst hF
          exact Run_ret1 rfl (ResV_tmp (v := .bool false) (by kernel_rfl)) ⟨rfl, rfl⟩
        · have hB1 := (M.ite_some hB1).2 hb3
          refine Run_skip ?_
          refine Run_blk ?_
          refine Run_reg 3 (by kernel_rfl) (L' := [(0, .slice aa_ a_.length ca_), (1, .slice ab b.length cb), (5, .int .i64 (i1 + 1))]) ?_ ?_
          · refine QRun_b [.int .i64 i1] 0 _ (by kernel_rfl) (fun w => by kernel_rfl) ?_
            refine QRun_y (.int .i64 (i1 + 1)) (by kernel_rfl) (Y_eq (v := .int .i64 (w64 (i1 + 1))) (Y_pure (fun w => by kernel_rfl)) (by rw [w64_eq _ (by omega)])) ?_
            refine QRun_b [.int .i64 (i1 + 1)] 2 _ (by kernel_rfl) (fun w => by kernel_rfl) ?_
            exact QRun_done [0, 1, 5] (by kernel_rfl) (by kernel_rfl)
          have hB1 := M.ret_some hB1
          have gx1 := hgoy1 _ hB1.symm
          exact Run_again [0, 1, 5] (by kernel_rfl) my1 (Nat.lt_succ_self _) ⟨i1 + 1, (), by omega, gx1, rfl, rfl⟩
      · have gx1 := M.for_end gx1 hb2
        subst gx1
        refine Run_exit (k' := _) rfl ?_
        exact Run_fall [] (by kernel_rfl) ⟨(), rfl, rfl, rfl⟩

set_option maxRecDepth 100000 in
set_option maxHeartbeats 4000000 in
theorem w_spec_l03Star (h : Heap) (a_ : List (List Int)) (aa_ : Option Addr) (ca_ : Nat) (ra_ : Rd cd39 h (Lt h) aa_ ca_ a_) (n : Nat) (r : (List (List Int)) × Bool) (hF : spec_l03Star a_ n = some r) :
    Fn Try.prog 85 #[.slice aa_ a_.length ca_] h fun v h' => ∃ (a0 : Option Addr) (c0 : Nat), v = .tuple #[.slice a0 r.1.length c0, .bool r.2] ∧ Hold h h' [own cd39 a0 r.1.length c0 r.1] := by
  unfold spec_l03Star at hF
  refine Fn_enter (args := [.slice aa_ a_.length ca_]) Try.func85 rfl (by kernel_rfl) (by kernel_rfl) (fun w0 _ => ?_)
  have H0 := Hold.init h
  refine Run_seq ?_
  refine Run_reg 2 (by kernel_rfl) (L' := [(0, .slice aa_ a_.length ca_)]) ?_ ?_
  · refine QRun_b [.slice none 0 0, .bool false] 0 _ (by kernel_rfl) (fun w => by kernel_rfl) ?_
    exact QRun_done [0] (by kernel_rfl) (by kernel_rfl)
  refine Run_seq ?_
  refine Run_reg 3 (by kernel_rfl) (L' := [(0, .slice aa_ a_.length ca_), (4, .int .i64 (a_.length : Int))]) ?_ ?_
  · refine QRun_b [.slice aa_ a_.length ca_, .int .i64 (a_.length : Int), .int .i64 (a_.length : Int)] 0 _ (by kernel_rfl) (fun w => by kernel_rfl) ?_
    exact QRun_done [0, 4] (by kernel_rfl) (by kernel_rfl)
  refine Run_seq ?_
  refine Run_ops ?_
  refine Run_b [.int .i64 (a_.length : Int)] 0 _ (by kernel_rfl) (fun w => by kernel_rfl) ?_
  obtain ⟨x1, hx1, hF⟩ := M.bind_some hF
  refine Run_E (by kernel_rfl) ?_
  refine E_call (f := 149) (args := #[.int .i64 (a_.length : Int)]) (w_spec_l02Unit h (a_.length : Int) _ _ hx1) (by kernel_rfl) (fun v1 h1 hp1 => ?_)
  obtain ⟨a1, c1, rfl, H1⟩ := hp1
  have H2 : Hold h h1 [own cd39 a1 x1.length c1 x1] := H0.call H1 rfl
  refine Run_b [.slice a1 x1.length c1] 2 _ (by kernel_rfl) (fun w => by kernel_rfl) ?_
  refine Run_nil (by kernel_rfl) ?_
  refine Run_keep [0, 4, 5] (L' := [(0, .slice aa_ a_.length ca_), (4, .int .i64 (a_.length : Int)), (5, .slice a1 x1.length c1)]) (by kernel_rfl) ?_
  refine Run_seq ?_
  refine Run_seq ?_
  refine Run_reg 1 (by kernel_rfl) (L' := [(0, .slice aa_ a_.length ca_), (4, .int .i64 (a_.length : Int)), (5, .slice a1 x1.length c1), (6, .int .i64 0)]) ?_ ?_
  · refine QRun_b [.int .i64 0] 0 _ (by kernel_rfl) (fun w => by kernel_rfl) ?_
    exact QRun_done [0, 4, 5, 6] (by kernel_rfl) (by kernel_rfl)
  obtain ⟨x2, gx2, hF⟩ := M.bind_some hF
  obtain ⟨hloy1, hhiy1, gx2⟩ := M.for_start gx2
  refine Run_join (fun L' h' => ∃ (a3 : Option Addr) (c3 : Nat), L' = [(0, .slice aa_ a_.length ca_), (4, .int .i64 (a_.length : Int)), (5, .slice a3 x2.length c3)] ∧ Hold h h' [own cd39 a3 x2.length c3 x2]) ?_ ?_
  · rintro _ h3 ⟨a3, c3, rfl, H4⟩
    refine Run_seq ?_
    refine Run_ops ?_
    refine Run_b [.int .i64 (a_.length : Int)] 0 _ (by kernel_rfl) (fun w => by kernel_rfl) ?_
    obtain ⟨x6, hx5, hF⟩ := M.bind_some hF
    refine Run_E (by kernel_rfl) ?_
    refine E_call (f := 149) (args := #[.int .i64 (a_.length : Int)]) (w_spec_l02Unit h3 (a_.length : Int) _ _ hx5) (by kernel_rfl) (fun v5 h7 hp5 => ?_)
    obtain ⟨a7, c7, rfl, H12⟩ := hp5
    have H13 : Hold h h7 [own cd39 a7 x6.length c7 x6, own cd39 a3 x2.length c3 x2] := H4.call H12 rfl
    refine Run_b [.slice aa_ a_.length ca_, .slice a3 x2.length c3] 2 _ (by kernel_rfl) (fun w => by kernel_rfl) ?_
    obtain ⟨x7, hx6, hF⟩ := M.bind_some hF
    refine Run_E (by kernel_rfl) ?_
    refine E_call (f := 151) (args := #[.slice aa_ a_.length ca_, .slice a3 x2.length c3]) (w_spec_l02Multiply h7 a_ aa_ ca_ (ra_.at H13.ext) x2 a3 c3 (H13.rd 1 rfl) _ _ hx6) (by kernel_rfl) (fun v6 h8 hp6 => ?_)
    obtain ⟨a8, c8, rfl, H14⟩ := hp6
    have H15 : Hold h h8 [own cd39 a8 x7.length c8 x7, own cd39 a7 x6.length c7 x6, own cd39 a3 x2.length c3 x2] := H13.call H14 rfl
    obtain ⟨x8, hx7, hF⟩ := M.bind_some hF
    refine Run_E (by kernel_rfl) ?_
    refine E_call (f := 150) (args := #[.slice a7 x6.length c7, .slice a8 x7.length c8]) (w_spec_l02Add h8 x6 a7 c7 (H15.rd 1 rfl) x7 a8 c8 (H15.rd 0 rfl) _ _ hx7) (by kernel_rfl) (fun v7 h9 hp7 => ?_)
    obtain ⟨a9, c9, rfl, H16⟩ := hp7
    have H17 : Hold h h9 [own cd39 a9 x8.length c9 x8, own cd39 a8 x7.length c8 x7, own cd39 a7 x6.length c7 x6, own cd39 a3 x2.length c3 x2] := H15.call H16 rfl
    refine Run_b [.slice a9 x8.length c9] 6 _ (by kernel_rfl) (fun w => by kernel_rfl) ?_
    refine Run_nil (by kernel_rfl) ?_
    refine Run_keep [5, 7] (L' := [(5, .slice a3 x2.length c3), (7, .slice a9 x8.length c9)]) (by kernel_rfl) ?_
    refine Run_seq ?_
    obtain ⟨x9, hx8, hF⟩ := M.bind_some hF
    refine Run_reg 6 (by kernel_rfl) (L' := [(2, .slice a3 x2.length c3), (3, .bool x9)]) ?_ ?_
    · refine QRun_b [.slice a3 x2.length c3, .slice a9 x8.length c9, .slice a3 x2.length c3] 0 _ (by kernel_rfl) (fun w => by kernel_rfl) ?_
      refine QRun_y (.bool x9) (by kernel_rfl) (Y_callq (f := 152) (args := #[.slice a9 x8.length c9, .slice a3 x2.length c3]) (v := .bool x9) (by kernel_rfl) (w_spec_l02Same h9 x8 a9 c9 (H17.rd 0 rfl) x2 a3 c3 (H17.rd 3 rfl) _ _ hx8)) ?_
      refine QRun_b [.slice a3 x2.length c3, .bool x9] 4 _ (by kernel_rfl) (fun w => by kernel_rfl) ?_
      exact QRun_done [2, 3] (by kernel_rfl) (by kernel_rfl)
    have hF := M.ret_some hF
    subst hF
    have H18 : Hold h h9 [own cd39 a3 x2.length c3 x2, own cd39 a9 x8.length c9 x8, own cd39 a8 x7.length c8 x7, own cd39 a7 x6.length c7 x6] := H17.pick [3, 0, 1, 2] (by kernel_rfl)
    have H19 : Hold h h9 [own cd39 a3 x2.length c3 x2] := H18.pick [0] (by kernel_rfl)
    exact Run_ret2 rfl (ResV_tmp (v := .slice a3 x2.length c3) (by kernel_rfl)) (ResV_tmp (v := .bool x9) (by kernel_rfl)) ⟨a3, c3, rfl, H19⟩
  · refine Run_block ?_
    refine Run_keep [0, 4, 5, 6] (L' := [(0, .slice aa_ a_.length ca_), (4, .int .i64 (a_.length : Int)), (5, .slice a1 x1.length c1), (6, .int .i64 0)]) (by kernel_rfl) ?_
    refine Run_loop (fun m L' h' => ∃ (i1 : Int) (s1 : (List (List Int))) (a2 : Option Addr) (c2 : Nat), 0 ≤ i1 ∧ M.forN (a_.length : Int) _ _ n m i1 s1 = some x2 ∧ L' = [(0, .slice aa_ a_.length ca_), (4, .int .i64 (a_.length : Int)), (5, .slice a2 s1.length c2), (6, .int .i64 i1)] ∧ Hold h h' [own cd39 a2 s1.length c2 s1]) ((a_.length : Int) - 0 : Int).toNat ⟨0, x1, a1, c1, Int.le_refl _, gx2, rfl, H2⟩ ?_
    rintro my1 _ h2 ⟨i1, s1, a2, c2, hloy1', gx2, rfl, H3⟩
    refine Run_seq ?_
    refine Run_seq ?_
    refine Run_reg 3 (by kernel_rfl) (L' := [(0, .slice aa_ a_.length ca_), (4, .int .i64 (a_.length : Int)), (5, .slice a2 s1.length c2), (6, .int .i64 i1), (14, .bool (decide (i1 < (a_.length : Int))))]) ?_ ?_
    · refine QRun_b [.int .i64 i1, .int .i64 (a_.length : Int), .bool (decide (i1 < (a_.length : Int)))] 0 _ (by kernel_rfl) (fun w => by kernel_rfl) ?_
      exact QRun_done [0, 4, 5, 6, 14] (by kernel_rfl) (by kernel_rfl)
    refine Run_cond (b := decide (i1 < (a_.length : Int))) (by kernel_rfl) (fun hb1 => ?_) (fun hb1 => ?_)
    · obtain ⟨my1, y1, rfl, hB1, hgoy1, houty1⟩ := M.for_go gx2 hb1
      have hlty1 := of_decide_eq_true hb1
      refine Run_skip ?_
      refine Run_seq ?_
      refine Run_block ?_
      refine Run_ops ?_
      refine Run_b [.int .i64 (a_.length : Int)] 0 _ (by kernel_rfl) (fun w => by kernel_rfl) ?_
      obtain ⟨x3, hx2, hB1⟩ := M.bind_some hB1
      refine Run_E (by kernel_rfl) ?_
      refine E_call (f := 149) (args := #[.int .i64 (a_.length : Int)]) (w_spec_l02Unit h2 (a_.length : Int) _ _ hx2) (by kernel_rfl) (fun v2 h4 hp2 => ?_)
      obtain ⟨a4, c4, rfl, H5⟩ := hp2
      have H6 : Hold h h4 [own cd39 a4 x3.length c4 x3, own cd39 a2 s1.length c2 s1] := H3.call H5 rfl
      refine Run_b [.slice aa_ a_.length ca_, .slice a2 s1.length c2] 2 _ (by kernel_rfl) (fun w => by kernel_rfl) ?_
      obtain ⟨x4, hx3, hB1⟩ := M.bind_some hB1
      refine Run_E (by kernel_rfl) ?_
      refine E_call (f := 151) (args := #[.slice aa_ a_.length ca_, .slice a2 s1.length c2]) (w_spec_l02Multiply h4 a_ aa_ ca_ (ra_.at H6.ext) s1 a2 c2 (H6.rd 1 rfl) _ _ hx3) (by kernel_rfl) (fun v3 h5 hp3 => ?_)
      obtain ⟨a5, c5, rfl, H7⟩ := hp3
      have H8 : Hold h h5 [own cd39 a5 x4.length c5 x4, own cd39 a4 x3.length c4 x3, own cd39 a2 s1.length c2 s1] := H6.call H7 rfl
      obtain ⟨x5, hx4, hB1⟩ := M.bind_some hB1
      refine Run_E (by kernel_rfl) ?_
      refine E_call (f := 150) (args := #[.slice a4 x3.length c4, .slice a5 x4.length c5]) (w_spec_l02Add h5 x3 a4 c4 (H8.rd 1 rfl) x4 a5 c5 (H8.rd 0 rfl) _ _ hx4) (by kernel_rfl) (fun v4 h6 hp4 => ?_)
      obtain ⟨a6, c6, rfl, H9⟩ := hp4
      have H10 : Hold h h6 [own cd39 a6 x5.length c6 x5, own cd39 a5 x4.length c5 x4, own cd39 a4 x3.length c4 x3, own cd39 a2 s1.length c2 s1] := H8.call H9 rfl
      refine Run_b [.slice a6 x5.length c6] 6 _ (by kernel_rfl) (fun w => by kernel_rfl) ?_
      refine Run_nil (by kernel_rfl) ?_
      refine Run_keep [0, 4, 5, 6] (L' := [(0, .slice aa_ a_.length ca_), (4, .int .i64 (a_.length : Int)), (5, .slice a6 x5.length c6), (6, .int .i64 i1)]) (by kernel_rfl) ?_
      refine Run_blk ?_
      refine Run_reg 3 (by kernel_rfl) (L' := [(0, .slice aa_ a_.length ca_), (4, .int .i64 (a_.length : Int)), (5, .slice a6 x5.length c6), (6, .int .i64 (i1 + 1))]) ?_ ?_
      · refine QRun_b [.int .i64 i1] 0 _ (by kernel_rfl) (fun w => by kernel_rfl) ?_
        refine QRun_y (.int .i64 (i1 + 1)) (by kernel_rfl) (Y_eq (v := .int .i64 (w64 (i1 + 1))) (Y_pure (fun w => by kernel_rfl)) (by rw [w64_eq _ (by omega)])) ?_
        refine QRun_b [.int .i64 (i1 + 1)] 2 _ (by kernel_rfl) (fun w => by kernel_rfl) ?_
        exact QRun_done [0, 4, 5, 6] (by kernel_rfl) (by kernel_rfl)
      have H11 : Hold h h6 [own cd39 a6 x5.length c6 x5] := H10.pick [0] (by kernel_rfl)
      have hB1 := M.ret_some hB1
      have gx2 := hgoy1 _ hB1.symm
      exact Run_again [0, 4, 5, 6] (by kernel_rfl) my1 (Nat.lt_succ_self _) ⟨i1 + 1, x5, a6, c6, by omega, gx2, rfl, H11⟩
    · have gx2 := M.for_end gx2 hb1
      subst gx2
      refine Run_exit (k' := _) rfl ?_
      exact Run_fall [0, 4, 5] (by kernel_rfl) ⟨a2, c2, rfl, H3⟩

set_option maxRecDepth 100000 in
set_option maxHeartbeats 4000000 in
theorem w_spec_l02Apply (h : Heap) (a_ : List (List Int)) (aa_ : Option Addr) (ca_ : Nat) (ra_ : Rd cd39 h (Lt h) aa_ ca_ a_) (x_ : List Int) (ax_ : Option Addr) (cx_ : Nat) (rx_ : Rd cd2 h (Lt h) ax_ cx_ x_) (n : Nat) (r : (List Int)) (hF : spec_l02Apply a_ x_ n = some r) :
    Fn Try.prog 86 #[.slice aa_ a_.length ca_, .slice ax_ x_.length cx_] h fun v h' => ∃ (a0 : Option Addr) (c0 : Nat), v = .slice a0 r.length c0 ∧ Hold h h' [own cd2 a0 r.length c0 r] := by
  unfold spec_l02Apply at hF
  refine Fn_enter (args := [.slice aa_ a_.length ca_, .slice ax_ x_.length cx_]) Try.func86 rfl (by kernel_rfl) (by kernel_rfl) (fun w0 _ => ?_)
  have H0 := Hold.init h
  refine Run_seq ?_
  refine Run_reg 1 (by kernel_rfl) (L' := [(0, .slice aa_ a_.length ca_), (1, .slice ax_ x_.length cx_)]) ?_ ?_
  · refine QRun_b [.slice none 0 0] 0 _ (by kernel_rfl) (fun w => by kernel_rfl) ?_
    exact QRun_done [0, 1] (by kernel_rfl) (by kernel_rfl)
  refine Run_seq ?_
  refine Run_ops ?_
  refine Run_E (by kernel_rfl) ?_
  refine E_lit (C := cd2) (n := 0) (l := ([] : List Int)) (cs := []) H0 (fun w => by kernel_rfl) (Enc.nil _ _) rfl (by decide) (fun a1 h1 H1 => ?_)
  refine Run_b [.slice a1 0 0] 1 _ (by kernel_rfl) (fun w => by kernel_rfl) ?_
  refine Run_nil (by kernel_rfl) ?_
  refine Run_keep [0, 1, 5] (L' := [(0, .slice aa_ a_.length ca_), (1, .slice ax_ x_.length cx_), (5, .slice a1 0 0)]) (by kernel_rfl) ?_
  refine Run_seq ?_
  refine Run_seq ?_
  refine Run_reg 1 (by kernel_rfl) (L' := [(0, .slice aa_ a_.length ca_), (1, .slice ax_ x_.length cx_), (5, .slice a1 0 0), (6, .int .i64 0)]) ?_ ?_
  · refine QRun_b [.int .i64 0] 0 _ (by kernel_rfl) (fun w => by kernel_rfl) ?_
    exact QRun_done [0, 1, 5, 6] (by kernel_rfl) (by kernel_rfl)
  obtain ⟨x1, gx1, hF⟩ := M.bind_some hF
  obtain ⟨hloy1, hhiy1, gx1⟩ := M.for_start gx1
  refine Run_join (fun L' h' => ∃ (a3 : Option Addr) (c2 : Nat), L' = [(5, .slice a3 x1.length c2)] ∧ Hold h h' [own cd2 a3 x1.length c2 x1]) ?_ ?_
  · rintro _ h3 ⟨a3, c2, rfl, H3⟩
    refine Run_seq ?_
    refine Run_reg 2 (by kernel_rfl) (L' := [(4, .slice a3 x1.length c2)]) ?_ ?_
    · refine QRun_b [.slice a3 x1.length c2, .slice a3 x1.length c2] 0 _ (by kernel_rfl) (fun w => by kernel_rfl) ?_
      exact QRun_done [4] (by kernel_rfl) (by kernel_rfl)
    have hF := M.ret_some hF
    subst hF
    exact Run_ret1 rfl (ResV_tmp (v := .slice a3 x1.length c2) (by kernel_rfl)) ⟨a3, c2, rfl, H3⟩
  · refine Run_block ?_
    have hn1 := (H1.len 0 rfl)
    have H11 : Hold h h1 [own cd2 a1 (([] : List Int).length) 0 ([] : List Int)] := by rw [hn1]; exact H1
    refine Run_keep [0, 1, 5, 6] (L' := [(0, .slice aa_ a_.length ca_), (1, .slice ax_ x_.length cx_), (5, .slice a1 (([] : List Int).length) 0), (6, .int .i64 0)]) (by first | (rw [hn1]; kernel_rfl) | (simp only [hn1]; kernel_rfl) | kernel_rfl) ?_
    refine Run_loop (fun m L' h' => ∃ (i1 : Int) (s1 : (List Int)) (a2 : Option Addr) (c1 : Nat), 0 ≤ i1 ∧ M.forN (a_.length : Int) _ _ n m i1 s1 = some x1 ∧ L' = [(0, .slice aa_ a_.length ca_), (1, .slice ax_ x_.length cx_), (5, .slice a2 s1.length c1), (6, .int .i64 i1)] ∧ Hold h h' [own cd2 a2 s1.length c1 s1]) ((a_.length : Int) - 0 : Int).toNat ⟨0, ([] : List Int), a1, 0, Int.le_refl _, gx1, rfl, H11⟩ ?_
    rintro my1 _ h2 ⟨i1, s1, a2, c1, hloy1', gx1, rfl, H2⟩
    refine Run_seq ?_
    refine Run_seq ?_
    refine Run_reg 4 (by kernel_rfl) (L' := [(0, .slice aa_ a_.length ca_), (1, .slice ax_ x_.length cx_), (5, .slice a2 s1.length c1), (6, .int .i64 i1), (13, .bool (decide (i1 < (a_.length : Int))))]) ?_ ?_
    · refine QRun_b [.int .i64 i1, .slice aa_ a_.length ca_, .int .i64 (a_.length : Int), .bool (decide (i1 < (a_.length : Int)))] 0 _ (by kernel_rfl) (fun w => by kernel_rfl) ?_
      exact QRun_done [0, 1, 5, 6, 13] (by kernel_rfl) (by kernel_rfl)
    refine Run_cond (b := decide (i1 < (a_.length : Int))) (by kernel_rfl) (fun hb1 => ?_) (fun hb1 => ?_)
    · obtain ⟨my1, y1, rfl, hB1, hgoy1, houty1⟩ := M.for_go gx1 hb1
      have hlty1 := of_decide_eq_true hb1
      refine Run_skip ?_
      refine Run_seq ?_
      refine Run_block ?_
      refine Run_seq ?_
      refine Run_reg 1 (by kernel_rfl) (L' := [(0, .slice aa_ a_.length ca_), (1, .slice ax_ x_.length cx_), (5, .slice a2 s1.length c1), (6, .int .i64 i1), (7, .int .i64 (-1000000000000000))]) ?_ ?_
      · refine QRun_b [.int .i64 (-1000000000000000)] 0 _ (by kernel_rfl) (fun w => by kernel_rfl) ?_
        exact QRun_done [0, 1, 5, 6, 7] (by kernel_rfl) (by kernel_rfl)
      refine Run_seq ?_
      refine Run_seq ?_
      refine Run_reg 1 (by kernel_rfl) (L' := [(0, .slice aa_ a_.length ca_), (1, .slice ax_ x_.length cx_), (5, .slice a2 s1.length c1), (6, .int .i64 i1), (7, .int .i64 (-1000000000000000)), (8, .int .i64 0)]) ?_ ?_
      · refine QRun_b [.int .i64 0] 0 _ (by kernel_rfl) (fun w => by kernel_rfl) ?_
        exact QRun_done [0, 1, 5, 6, 7, 8] (by kernel_rfl) (by kernel_rfl)
      obtain ⟨x2, gx2, hB1⟩ := M.bind_some hB1
      obtain ⟨hloy2, hhiy2, gx2⟩ := M.for_start gx2
      refine Run_join (fun L' h' => L' = [(0, .slice aa_ a_.length ca_), (1, .slice ax_ x_.length cx_), (5, .slice a2 s1.length c1), (6, .int .i64 i1), (7, .int .i64 x2)] ∧ Hold h h' [own cd2 a2 s1.length c1 s1]) ?_ ?_
      · rintro _ h5 ⟨rfl, H5⟩
        refine Run_ops ?_
        refine Run_b [.slice a2 s1.length c1, .int .i64 x2] 0 _ (by kernel_rfl) (fun w => by kernel_rfl) ?_
        refine Run_E (by kernel_rfl) ?_
        refine E_lit (C := cd2) (n := 1) (l := ([x2] : List Int)) (cs := [.int .i64 x2]) H5 (fun w => by kernel_rfl) (Enc.consE (cd2_own x2 _) (Enc.nil _ _) rfl) rfl (by decide) (fun a5 h6 H6 => ?_)
        obtain ⟨l1, hl1, hB1⟩ := M.bind_some hB1
        have hl1 := M.app_some hl1
        have H7 : Hold h h6 [own cd2 a2 s1.length c1 s1, own cd2 a5 1 1 ([x2] : List Int)] := H6.pick [1, 0] (by kernel_rfl)
        have H8 : Hold h h6 [own cd2 a5 1 1 ([x2] : List Int), own cd2 a2 s1.length c1 s1] := H7.pick [1, 0] (by kernel_rfl)
        have H9 : Hold h h6 [own cd2 a2 s1.length c1 s1, own cd2 a5 1 1 ([x2] : List Int)] := H8.pick [1, 0] (by kernel_rfl)
        refine Run_E (by kernel_rfl) ?_
        refine E_app (C := cd2) (t := 39) (ty := 39) (n := s1.length) (m := 1) H9 cd2_ti rfl Try.underlying39 (by decide) (by kernel_rfl) hl1 (fun a6 c4 h7 H10 => ?_)
        refine Run_b [.slice a6 l1.length c4] 4 _ (by kernel_rfl) (fun w => by kernel_rfl) ?_
        refine Run_nil (by kernel_rfl) ?_
        refine Run_keep [0, 1, 5, 6] (L' := [(0, .slice aa_ a_.length ca_), (1, .slice ax_ x_.length cx_), (5, .slice a6 l1.length c4), (6, .int .i64 i1)]) (by kernel_rfl) ?_
        refine Run_blk ?_
        refine Run_reg 3 (by kernel_rfl) (L' := [(0, .slice aa_ a_.length ca_), (1, .slice ax_ x_.length cx_), (5, .slice a6 l1.length c4), (6, .int .i64 (i1 + 1))]) ?_ ?_
        · refine QRun_b [.int .i64 i1] 0 _ (by kernel_rfl) (fun w => by kernel_rfl) ?_
          refine QRun_y (.int .i64 (i1 + 1)) (by kernel_rfl) (Y_eq (v := .int .i64 (w64 (i1 + 1))) (Y_pure (fun w => by kernel_rfl)) (by rw [w64_eq _ (by omega)])) ?_
          refine QRun_b [.int .i64 (i1 + 1)] 2 _ (by kernel_rfl) (fun w => by kernel_rfl) ?_
          exact QRun_done [0, 1, 5, 6] (by kernel_rfl) (by kernel_rfl)
        have hB1 := M.ret_some hB1
        have gx1 := hgoy1 _ hB1.symm
        exact Run_again [0, 1, 5, 6] (by kernel_rfl) my1 (Nat.lt_succ_self _) ⟨i1 + 1, l1, a6, c4, by omega, gx1, rfl, H10⟩
      · refine Run_block ?_
        refine Run_keep [0, 1, 5, 6, 7, 8] (L' := [(0, .slice aa_ a_.length ca_), (1, .slice ax_ x_.length cx_), (5, .slice a2 s1.length c1), (6, .int .i64 i1), (7, .int .i64 (-1000000000000000)), (8, .int .i64 0)]) (by kernel_rfl) ?_
        refine Run_loop (fun m L' h' => ∃ (i2 : Int) (s2 : Int), 0 ≤ i2 ∧ M.forN (x_.length : Int) _ _ n m i2 s2 = some x2 ∧ L' = [(0, .slice aa_ a_.length ca_), (1, .slice ax_ x_.length cx_), (5, .slice a2 s1.length c1), (6, .int .i64 i1), (7, .int .i64 s2), (8, .int .i64 i2)] ∧ Hold h h' [own cd2 a2 s1.length c1 s1]) ((x_.length : Int) - 0 : Int).toNat ⟨0, (-1000000000000000), Int.le_refl _, gx2, rfl, H2⟩ ?_
        rintro my2 _ h4 ⟨i2, s2, hloy2', gx2, rfl, H4⟩
        refine Run_seq ?_
        refine Run_seq ?_
        refine Run_reg 4 (by kernel_rfl) (L' := [(0, .slice aa_ a_.length ca_), (1, .slice ax_ x_.length cx_), (5, .slice a2 s1.length c1), (6, .int .i64 i1), (7, .int .i64 s2), (8, .int .i64 i2), (19, .bool (decide (i2 < (x_.length : Int))))]) ?_ ?_
        · refine QRun_b [.int .i64 i2, .slice ax_ x_.length cx_, .int .i64 (x_.length : Int), .bool (decide (i2 < (x_.length : Int)))] 0 _ (by kernel_rfl) (fun w => by kernel_rfl) ?_
          exact QRun_done [0, 1, 5, 6, 7, 8, 19] (by kernel_rfl) (by kernel_rfl)
        refine Run_cond (b := decide (i2 < (x_.length : Int))) (by kernel_rfl) (fun hb2 => ?_) (fun hb2 => ?_)
        · obtain ⟨my2, y2, rfl, hB2, hgoy2, houty2⟩ := M.for_go gx2 hb2
          have hlty2 := of_decide_eq_true hb2
          refine Run_skip ?_
          refine Run_seq ?_
          refine Run_block ?_
          obtain ⟨x3, hx1, hB2⟩ := M.bind_some hB2
          obtain ⟨hx1l, hx1u, hx1⟩ := M.idx_some hx1
          obtain ⟨a4, c3, hc1, r1⟩ := ra_.row hx1
          obtain ⟨x4, hx2, hB2⟩ := M.bind_some hB2
          obtain ⟨hx2l, hx2u, hx2⟩ := M.idx_some hx2
          obtain ⟨x5, hx3, hB2⟩ := M.bind_some hB2
          obtain ⟨hx3l, hx3u, hx3⟩ := M.idx_some hx3
          obtain ⟨x6, hx4, hB2⟩ := M.bind_some hB2
          refine Run_draw 15 mixed (by kernel_rfl) (by kernel_rfl) (L' := [(0, .slice aa_ a_.length ca_), (1, .slice ax_ x_.length cx_), (5, .slice a2 s1.length c1), (6, .int .i64 i1), (7, .int .i64 (mx s2 x6)), (8, .int .i64 i2)]) ?_ ?_
          · refine QRun_b [.int .i64 s2, .slice aa_ a_.length ca_, .int .i64 i1] 0 _ (by kernel_rfl) (fun w => by kernel_rfl) ?_
            refine QRun_y (.pointer (some (adr aa_ (i1.toNat * 1)))) (by kernel_rfl) (Y_idx (t := 37) (e := 39) (sz := 1) (a := aa_) (n := a_.length) (cap := ca_) (kk := .i64) (i := i1) (by kernel_rfl) Try.underlying37 (by kernel_rfl) ((ra_.at H4.ext).cell hx1).1 hx1l hx1u) ?_
            refine QRun_y (.slice a4 x3.length c3) (by kernel_rfl) (Y_load1 (t := 39) (p := adr aa_ (i1.toNat * 1)) (v := .slice a4 x3.length c3) (by kernel_rfl) (fun w => by kernel_rfl) (cell_at H4.ext hc1)) ?_
            refine QRun_b [.int .i64 i2] 5 _ (by kernel_rfl) (fun w => by kernel_rfl) ?_
            refine QRun_y (.pointer (some (adr a4 (i2.toNat * 1)))) (by kernel_rfl) (Y_idx (t := 39) (e := 2) (sz := 1) (a := a4) (n := x3.length) (cap := c3) (kk := .i64) (i := i2) (by kernel_rfl) Try.underlying39 (by kernel_rfl) ((r1.at H4.ext).cell hx2).1 hx2l hx2u) ?_
            refine QRun_y (.int .i64 x4) (by kernel_rfl) (Y_load1 (t := 2) (p := adr a4 (i2.toNat * 1)) (v := .int .i64 x4) (by kernel_rfl) (fun w => by kernel_rfl) (cd2_cell (r1.at H4.ext) hx2)) ?_
            refine QRun_b [.slice ax_ x_.length cx_, .int .i64 i2] 8 _ (by kernel_rfl) (fun w => by kernel_rfl) ?_
            refine QRun_y (.pointer (some (adr ax_ (i2.toNat * 1)))) (by kernel_rfl) (Y_idx (t := 39) (e := 2) (sz := 1) (a := ax_) (n := x_.length) (cap := cx_) (kk := .i64) (i := i2) (by kernel_rfl) Try.underlying39 (by kernel_rfl) ((rx_.at H4.ext).cell hx3).1 hx3l hx3u) ?_
            refine QRun_y (.int .i64 x5) (by kernel_rfl) (Y_load1 (t := 2) (p := adr ax_ (i2.toNat * 1)) (v := .int .i64 x5) (by kernel_rfl) (fun w => by kernel_rfl) (cd2_cell (rx_.at H4.ext) hx3)) ?_
            refine QRun_y (.int .i64 x6) (by kernel_rfl) (Y_callq (f := 117) (args := #[.int .i64 x4, .int .i64 x5]) (v := .int .i64 x6) (by kernel_rfl) (w_spec_l01Times h4 x4 x5 _ _ hx4)) ?_
            refine QRun_b [.int .i64 (mx s2 x6), .int .i64 (mx s2 x6)] 13 _ (by kernel_rfl) (fun w => by kernel_rfl) ?_
            exact QRun_done [0, 1, 5, 6, 7, 8] (by kernel_rfl) (by kernel_rfl)
          refine Run_blk ?_
          refine Run_reg 3 (by kernel_rfl) (L' := [(0, .slice aa_ a_.length ca_), (1, .slice ax_ x_.length cx_), (5, .slice a2 s1.length c1), (6, .int .i64 i1), (7, .int .i64 (mx s2 x6)), (8, .int .i64 (i2 + 1))]) ?_ ?_
          · refine QRun_b [.int .i64 i2] 0 _ (by kernel_rfl) (fun w => by kernel_rfl) ?_
            refine QRun_y (.int .i64 (i2 + 1)) (by kernel_rfl) (Y_eq (v := .int .i64 (w64 (i2 + 1))) (Y_pure (fun w => by kernel_rfl)) (by rw [w64_eq _ (by omega)])) ?_
            refine QRun_b [.int .i64 (i2 + 1)] 2 _ (by kernel_rfl) (fun w => by kernel_rfl) ?_
            exact QRun_done [0, 1, 5, 6, 7, 8] (by kernel_rfl) (by kernel_rfl)
          have hB2 := M.ret_some hB2
          have gx2 := hgoy2 _ hB2.symm
          exact Run_again [0, 1, 5, 6, 7, 8] (by kernel_rfl) my2 (Nat.lt_succ_self _) ⟨i2 + 1, (mx s2 x6), by omega, gx2, rfl, H4⟩
        · have gx2 := M.for_end gx2 hb2
          subst gx2
          refine Run_exit (k' := _) rfl ?_
          exact Run_fall [0, 1, 5, 6, 7] (by kernel_rfl) ⟨rfl, H4⟩
    · have gx1 := M.for_end gx1 hb1
      subst gx1
      refine Run_exit (k' := _) rfl ?_
      exact Run_fall [5] (by kernel_rfl) ⟨a2, c1, rfl, H2⟩

end Go.Proofs.Ytipdgiljgbjjkaa
