/-
  Walks: each Go function, called with what reads as plain data, returns what its plain program computes.
  Conditions: None beyond the given statement.
-/
import Derived.Test.YtjdilhpekknejaaW0
namespace Go.Proofs.Ytjdilhpekknejaa
open Go
attribute [local irreducible] setL setB opA fineI idleI fineB evB okB markB markBs readyB readyBs chainB lk rho pickL dropSlot tailOK
set_option maxRecDepth 100000 in
set_option maxHeartbeats 4000000 in
theorem w_impl_transposed (h : Heap) (a_ : List (List Int)) (aa_ : Option Addr) (ca_ : Nat) (ra_ : Rd cd29 h (Lt h) aa_ ca_ a_) (n : Nat) (r : (List (List Int))) (hF : impl_transposed a_ n = some r) :
    Fn Try.prog 86 #[.slice aa_ a_.length ca_] h fun v h' => ∃ (a0 : Option Addr) (c0 : Nat), v = .slice a0 r.length c0 ∧ Hold h h' [own cd29 a0 r.length c0 r] := by
  unfold impl_transposed at hF
  refine Fn_enter (args := [.slice aa_ a_.length ca_]) Try.func86 rfl (by kernel_rfl) (by kernel_rfl) (fun w0 _ => ?_)
  have H0 := Hold.init h
  refine Run_seq ?_
  refine Run_ops ?_
  refine Run_E (by kernel_rfl) ?_
  refine E_box (ty := 22) (cs := [.slice aa_ a_.length ca_]) H0 (fun w => by kernel_rfl) (fun b1 h1 H1 => ?_)
  refine Run_b [.slice none 0 0] 1 _ (by kernel_rfl) (fun w => by kernel_rfl) ?_
  refine Run_nil (by kernel_rfl) ?_
  refine Run_keep [1] (L' := [(1, .pointer (some ⟨b1, 0, none⟩))]) (by kernel_rfl) ?_
  refine Run_seq ?_
  obtain ⟨x1, hx1, hF⟩ := M.bind_some hF
  obtain ⟨hx1l, hx1u, hx1⟩ := M.idx_some hx1
  obtain ⟨a1, c1, hc1, r1⟩ := ra_.row hx1
  refine Run_D (fun x => Hold h x [box b1 22 [.slice aa_ a_.length ca_]]) (fun x => Hold h x [box b1 22 [.slice aa_ a_.length ca_]]) mixed (by kernel_rfl) H1 Hold.stable (fun x Hy => (show Hold h x [box b1 22 [.slice aa_ a_.length ca_]] from Hy).pick [0] (by kernel_rfl)) ?_
  refine DR_y 8 (i := 0) (.slice aa_ a_.length ca_) (by kernel_rfl) (by kernel_rfl) (by kernel_rfl) (fun hx Hx => (YE.of (Y_load1 (t := 22) (p := ⟨b1, 0, none⟩) (v := .slice aa_ a_.length ca_) (by kernel_rfl) (fun w => by kernel_rfl) (Hx.cell 0 rfl rfl)))) ?_
  refine DR_y 7 (i := 1) (.pointer (some (adr aa_ (0 * 1)))) (by kernel_rfl) (by kernel_rfl) (by kernel_rfl) (fun hx Hx => (YE.of (Y_idx (t := 22) (e := 29) (sz := 1) (a := aa_) (n := a_.length) (cap := ca_) (kk := .i64) (i := 0) (by kernel_rfl) Try.underlying22 (by kernel_rfl) ((ra_.at H1.ext).cell hx1).1 hx1l hx1u))) ?_
  refine DR_y 6 (i := 2) (.slice a1 x1.length c1) (by kernel_rfl) (by kernel_rfl) (by kernel_rfl) (fun hx Hx => (YE.of (Y_load1 (t := 29) (p := adr aa_ (0 * 1)) (v := .slice a1 x1.length c1) (by kernel_rfl) (fun w => by kernel_rfl) (cell_at Hx.ext hc1)))) ?_
  refine DR_b 5 [.int .i64 (x1.length : Int)] 3 (by kernel_rfl) (by kernel_rfl) (by kernel_rfl) (fun w => by kernel_rfl) ?_
  refine DR_y 4 (i := 4) (.slice aa_ a_.length ca_) (by kernel_rfl) (by kernel_rfl) (by kernel_rfl) (fun hx Hx => (YE.of (Y_load1 (t := 22) (p := ⟨b1, 0, none⟩) (v := .slice aa_ a_.length ca_) (by kernel_rfl) (fun w => by kernel_rfl) (Hx.cell 0 rfl rfl)))) ?_
  refine DR_b 2 [.int .i64 (a_.length : Int), .func (.func 142) #[] #[.pointer (some ⟨b1, 0, none⟩)]] 5 (by kernel_rfl) (by kernel_rfl) (by kernel_rfl) (fun w => by kernel_rfl) ?_
  refine DR_tail (i := 7) (by kernel_rfl) (by kernel_rfl) (by kernel_rfl) (fun h2 H2 => ?_)
  have H3 : Hold h h2 [box b1 22 [.slice aa_ a_.length ca_]] := H2
  obtain ⟨x2, hx2, hF⟩ := M.bind_some hF
  refine Run_E (by kernel_rfl) ?_
  refine E_call (f := 141) (args := #[.int .i64 (x1.length : Int), .int .i64 (a_.length : Int), .func (.func 142) #[] #[.pointer (some ⟨b1, 0, none⟩)]]) (w_impl_matrixBy_F_impl_transposed_1 h2 (x1.length : Int) (a_.length : Int) a_ aa_ ca_ (ra_.at H3.ext) b1 (H3.var 0 rfl) _ _ hx2) (by kernel_rfl) (fun v1 h3 hp1 => ?_)
  obtain ⟨a2, c2, rfl, H4⟩ := hp1
  have H5 : Hold h h3 [own cd29 a2 x2.length c2 x2, box b1 22 [.slice aa_ a_.length ca_]] := H3.call H4 rfl
  refine Run_b [.slice a2 x2.length c2] 8 _ (by kernel_rfl) (fun w => by kernel_rfl) ?_
  refine Run_nil (by kernel_rfl) ?_
  refine Run_keep [2] (L' := [(2, .slice a2 x2.length c2)]) (by kernel_rfl) ?_
  have hF := M.ret_some hF
  subst hF
  have H6 : Hold h h3 [own cd29 a2 x2.length c2 x2] := H5.pick [0] (by kernel_rfl)
  exact Run_ret1 rfl (ResV_tmp (v := .slice a2 x2.length c2) (by kernel_rfl)) ⟨a2, c2, rfl, H6⟩

set_option maxRecDepth 100000 in
set_option maxHeartbeats 4000000 in
theorem w_impl_vectorOrbit (h : Heap) (a_ : List (List Int)) (aa_ : Option Addr) (ca_ : Nat) (ra_ : Rd cd29 h (Lt h) aa_ ca_ a_) (x_ : List Int) (ax_ : Option Addr) (cx_ : Nat) (rx_ : Rd cd2 h (Lt h) ax_ cx_ x_) (n : Nat) (r : TOrbit) (hF : impl_vectorOrbit a_ x_ n = some r) :
    Fn Try.prog 85 #[.slice aa_ a_.length ca_, .slice ax_ x_.length cx_] h fun v h' => ∃ (b0 : Nat), ∃ (a0 : Option Addr) (c0 : Nat), ∃ (a1 : Option Addr) (c1 : Nat), v = .pointer (some ⟨b0, 0, none⟩) ∧ Ali a0 aa_ c0 ca_ r.matrix a_ ∧ Hold h h' [box b0 88 [.slice a0 r.matrix.length c0, .slice a1 r.list.length c1], own cd22 a1 r.list.length c1 r.list] := by
  unfold impl_vectorOrbit at hF
  refine Fn_enter (args := [.slice aa_ a_.length ca_, .slice ax_ x_.length cx_]) Try.func85 rfl (by kernel_rfl) (by kernel_rfl) (fun w0 _ => ?_)
  have H0 := Hold.init h
  refine Run_seq ?_
  refine Run_reg 1 (by kernel_rfl) (L' := [(0, .slice aa_ a_.length ca_), (1, .slice ax_ x_.length cx_)]) ?_ ?_
  · refine QRun_b [.pointer none] 0 _ (by kernel_rfl) (fun w => by kernel_rfl) ?_
    exact QRun_done [0, 1] (by kernel_rfl) (by kernel_rfl)
  refine Run_seq ?_
  refine Run_ops ?_
  refine Run_b [.slice aa_ a_.length ca_, .slice ax_ x_.length cx_] 0 _ (by kernel_rfl) (fun w => by kernel_rfl) ?_
  refine Run_E (by kernel_rfl) ?_
  refine E_litV (ey := 29) (n := x_.length) H0 rx_ rfl (fun w => by kernel_rfl) rfl (fun a1 h1 H1 => ?_)
  obtain ⟨x1, hx1, hF⟩ := M.bind_some hF
  refine Run_E (by kernel_rfl) ?_
  refine E_call (f := 86) (args := #[.slice a1 1 1]) (Fn.arg (w_impl_transposed h1 [x_] a1 1 (H1.rdV 0 rfl) _ _ hx1) (by simp only [(H1.lenV 0 rfl)])) (by kernel_rfl) (fun v1 h2 hp1 => ?_)
  obtain ⟨a2, c1, rfl, H2⟩ := hp1
  have H3 : Hold h h2 [own cd29 a2 x1.length c1 x1, view h.size cd29 a1 1 1 [x_]] := H1.call H2 rfl
  refine Run_E (by kernel_rfl) ?_
  refine E_lit1 (ey := 22) (n := x1.length) H3 (fun w => by kernel_rfl) rfl (fun a3 h3 H4 => ?_)
  refine Run_b [.agg #[.slice aa_ a_.length ca_, .slice a3 1 1]] 5 _ (by kernel_rfl) (fun w => by kernel_rfl) ?_
  refine Run_E (by kernel_rfl) ?_
  refine E_box (ty := 88) (cs := [.slice aa_ a_.length ca_, .slice a3 1 1]) H4 (fun w => by kernel_rfl) (fun b1 h4 H5 => ?_)
  refine Run_b [.pointer (some ⟨b1, 0, none⟩)] 7 _ (by kernel_rfl) (fun w => by kernel_rfl) ?_
  refine Run_nil (by kernel_rfl) ?_
  refine Run_keep [4] (L' := [(4, .pointer (some ⟨b1, 0, none⟩))]) (by kernel_rfl) ?_
  have hF := M.ret_some hF
  subst hF
  have H6 : Hold h h4 [own cd22 a3 1 1 [x1], box b1 88 [.slice aa_ a_.length ca_, .slice a3 1 1], view h.size cd29 a1 1 1 [x_]] := H5.pick [1, 0, 2] (by kernel_rfl)
  have H7 := H6.norm
  have H8 : Hold h h4 [box b1 88 [.slice aa_ a_.length ca_, .slice a3 1 1], own cd22 a3 ([x1].length) 1 [x1]] := H7.pick [1, 0] (by kernel_rfl)
  exact Run_ret1 rfl (ResV_tmp (v := .pointer (some ⟨b1, 0, none⟩)) (by kernel_rfl)) ⟨b1, aa_, ca_, a3, 1, (by simp only [(H6.len 0 rfl)]), .inl ⟨rfl, rfl, rfl⟩, H8⟩

set_option maxRecDepth 100000 in
set_option maxHeartbeats 4000000 in
theorem w_impl_times (h : Heap) (a_ : Int) (b : Int) (n : Nat) (r : Int) (hF : impl_times a_ b n = some r) :
    Fn Try.prog 93 #[.int .i64 a_, .int .i64 b] h fun v h' => v = .int .i64 r ∧ h' = h := by
  unfold impl_times at hF
  refine Fn_enter (args := [.int .i64 a_, .int .i64 b]) Try.func93 rfl (by kernel_rfl) (by kernel_rfl) (fun w0 _ => ?_)
  refine Run_seq ?_
  refine Run_reg 1 (by kernel_rfl) (L' := [(0, .int .i64 a_), (1, .int .i64 b)]) ?_ ?_
  · refine QRun_b [.int .i64 0] 0 _ (by kernel_rfl) (fun w => by kernel_rfl) ?_
    exact QRun_done [0, 1] (by kernel_rfl) (by kernel_rfl)
  refine Run_seq ?_
  refine Run_seq ?_
  refine Run_reg 6 (by kernel_rfl) (L' := [(0, .int .i64 a_), (1, .int .i64 b), (10, .bool ((a_ == (-1000000000000000)) || (b == (-1000000000000000))))]) ?_ ?_
  · refine QRun_b [.int .i64 a_, .bool (a_ == (-1000000000000000))] 0 _ (by kernel_rfl) (fun w => by kernel_rfl) ?_
    refine QRun_seq 6 [(0, .int .i64 a_), (1, .int .i64 b), (10, .bool ((a_ == (-1000000000000000)) || (b == (-1000000000000000))))] ?_ ?_
    · rcases Bool.eq_false_or_eq_true (a_ == (-1000000000000000)) with hb1 | hb1
      · refine QRun_bool (a_ == (-1000000000000000)) true (by kernel_rfl) (fun w => by kernel_rfl) hb1 ?_
        refine QRun_n (by kernel_rfl) ?_
        refine QRun_n (by kernel_rfl) ?_
        refine QRun_bool true ((a_ == (-1000000000000000)) || (b == (-1000000000000000))) (by kernel_rfl) (fun w => by kernel_rfl) (by rw [hb1]; rfl) ?_
        exact QRun_done [0, 1, 10] (by kernel_rfl) (by kernel_rfl)
      · refine QRun_bool (a_ == (-1000000000000000)) false (by kernel_rfl) (fun w => by kernel_rfl) hb1 ?_
        refine QRun_b [.int .i64 b, .bool (b == (-1000000000000000))] 3 _ (by kernel_rfl) (fun w => by kernel_rfl) ?_
        refine QRun_bool (b == (-1000000000000000)) ((a_ == (-1000000000000000)) || (b == (-1000000000000000))) (by kernel_rfl) (fun w => by kernel_rfl) (by rw [hb1]; rfl) ?_
        exact QRun_done [0, 1, 10] (by kernel_rfl) (by kernel_rfl)
    exact QRun_done [0, 1, 10] (by kernel_rfl) (by kernel_rfl)
  refine Run_cond (b := (a_ == (-1000000000000000)) || (b == (-1000000000000000))) (by kernel_rfl) (fun hb2 => ?_) (fun hb2 => ?_)
  · have hF := (M.ite_some hF).1 hb2
    refine Run_seq ?_
    refine Run_reg 1 (by kernel_rfl) (L' := [(4, .int .i64 (-1000000000000000))]) ?_ ?_
    · refine QRun_b [.int .i64 (-1000000000000000)] 0 _ (by kernel_rfl) (fun w => by kernel_rfl) ?_
      exact QRun_done [4] (by kernel_rfl) (by kernel_rfl)
    have hF := M.ret_some hF
    subst hF
    exact Run_ret1 rfl (ResV_tmp (v := .int .i64 (-1000000000000000)) (by kernel_rfl)) ⟨rfl, rfl⟩
  · have hF := (M.ite_some hF).2 hb2
    refine Run_skip ?_
    refine Run_seq ?_
    refine Run_reg 4 (by kernel_rfl) (L' := [(4, .int .i64 (w64 (a_ + b)))]) ?_ ?_
    · refine QRun_b [.int .i64 a_, .int .i64 b, .int .i64 (w64 (a_ + b)), .int .i64 (w64 (a_ + b))] 0 _ (by kernel_rfl) (fun w => by kernel_rfl) ?_
      exact QRun_done [4] (by kernel_rfl) (by kernel_rfl)
    have hF := M.ret_some hF
    subst hF
    exact Run_ret1 rfl (ResV_tmp (v := .int .i64 (w64 (a_ + b))) (by kernel_rfl)) ⟨rfl, rfl⟩

set_option maxRecDepth 100000 in
set_option maxHeartbeats 4000000 in
theorem w_impl_multiply_1 (h : Heap) (i : Int) (j : Int) (z0 : List (List Int)) {Sz0 : Bs} (az0 : Option Addr) (cz0 : Nat) (rz0 : Rd cd29 h Sz0 az0 cz0 z0) (bz0 : Nat) (vz0 : VarAt h bz0 22 [.slice az0 z0.length cz0]) (z1 : List (List Int)) {Sz1 : Bs} (az1 : Option Addr) (cz1 : Nat) (rz1 : Rd cd29 h Sz1 az1 cz1 z1) (bz1 : Nat) (vz1 : VarAt h bz1 22 [.slice az1 z1.length cz1]) (n : Nat) (r : Int) (hF : impl_multiply_1 i j z0 z1 n = some r) :
    Fn Try.prog 155 #[.int .i64 i, .int .i64 j, .pointer (some ⟨bz0, 0, none⟩), .pointer (some ⟨bz1, 0, none⟩)] h fun v h' => v = .int .i64 r ∧ h' = h := by
  unfold impl_multiply_1 at hF
  refine Fn_enter (args := [.int .i64 i, .int .i64 j, .pointer (some ⟨bz0, 0, none⟩), .pointer (some ⟨bz1, 0, none⟩)]) Try.func155 rfl (by kernel_rfl) (by kernel_rfl) (fun w0 _ => ?_)
  refine Run_seq ?_
  refine Run_reg 1 (by kernel_rfl) (L' := [(0, .int .i64 i), (1, .int .i64 j), (2, .pointer (some ⟨bz0, 0, none⟩)), (3, .pointer (some ⟨bz1, 0, none⟩))]) ?_ ?_
  · refine QRun_b [.int .i64 0] 0 _ (by kernel_rfl) (fun w => by kernel_rfl) ?_
    exact QRun_done [0, 1, 2, 3] (by kernel_rfl) (by kernel_rfl)
  refine Run_seq ?_
  refine Run_reg 1 (by kernel_rfl) (L' := [(0, .int .i64 i), (1, .int .i64 j), (2, .pointer (some ⟨bz0, 0, none⟩)), (3, .pointer (some ⟨bz1, 0, none⟩)), (7, .int .i64 (-1000000000000000))]) ?_ ?_
  · refine QRun_b [.int .i64 (-1000000000000000)] 0 _ (by kernel_rfl) (fun w => by kernel_rfl) ?_
    exact QRun_done [0, 1, 2, 3, 7] (by kernel_rfl) (by kernel_rfl)
  refine Run_seq ?_
  refine Run_seq ?_
  obtain ⟨x1, hx1, hF⟩ := M.bind_some hF
  obtain ⟨hx1l, hx1u, hx1⟩ := M.idx_some hx1
  obtain ⟨a1, c1, hc1, r1⟩ := rz0.row hx1
  refine Run_reg 6 (by kernel_rfl) (L' := [(1, .int .i64 j), (3, .pointer (some ⟨bz1, 0, none⟩)), (7, .int .i64 (-1000000000000000)), (13, .slice a1 x1.length c1), (14, .int .i64 (x1.length : Int)), (15, .int .i64 0)]) ?_ ?_
  · refine QRun_y (.slice az0 z0.length cz0) (by kernel_rfl) (Y_load1 (t := 22) (p := ⟨bz0, 0, none⟩) (v := .slice az0 z0.length cz0) (by kernel_rfl) (fun w => by kernel_rfl) (VarAt.cell vz0 rfl)) ?_
    refine QRun_b [.int .i64 i] 1 _ (by kernel_rfl) (fun w => by kernel_rfl) ?_
    refine QRun_y (.pointer (some (adr az0 (i.toNat * 1)))) (by kernel_rfl) (Y_idx (t := 22) (e := 29) (sz := 1) (a := az0) (n := z0.length) (cap := cz0) (kk := .i64) (i := i) (by kernel_rfl) Try.underlying22 (by kernel_rfl) (rz0.cell hx1).1 hx1l hx1u) ?_
    refine QRun_y (.slice a1 x1.length c1) (by kernel_rfl) (Y_load1 (t := 29) (p := adr az0 (i.toNat * 1)) (v := .slice a1 x1.length c1) (by kernel_rfl) (fun w => by kernel_rfl) hc1) ?_
    refine QRun_b [.int .i64 (x1.length : Int), .int .i64 0] 4 _ (by kernel_rfl) (fun w => by kernel_rfl) ?_
    exact QRun_done [1, 3, 7, 13, 14, 15] (by kernel_rfl) (by kernel_rfl)
  obtain ⟨x2, gx2, hF⟩ := M.bind_some hF
  obtain ⟨hloy1, hhiy1, gx2⟩ := M.for_start gx2
  refine Run_join (fun L' h' => L' = [(7, .int .i64 x2)] ∧ h = h') ?_ ?_
  · rintro _ _ ⟨rfl, rfl⟩
    refine Run_seq ?_
    refine Run_reg 2 (by kernel_rfl) (L' := [(6, .int .i64 x2)]) ?_ ?_
    · refine QRun_b [.int .i64 x2, .int .i64 x2] 0 _ (by kernel_rfl) (fun w => by kernel_rfl) ?_
      exact QRun_done [6] (by kernel_rfl) (by kernel_rfl)
    have hF := M.ret_some hF
    subst hF
    exact Run_ret1 rfl (ResV_tmp (v := .int .i64 x2) (by kernel_rfl)) ⟨rfl, rfl⟩
  · refine Run_block ?_
    refine Run_keep [1, 3, 7, 13, 14, 15] (L' := [(1, .int .i64 j), (3, .pointer (some ⟨bz1, 0, none⟩)), (7, .int .i64 (-1000000000000000)), (13, .slice a1 x1.length c1), (14, .int .i64 (x1.length : Int)), (15, .int .i64 0)]) (by kernel_rfl) ?_
    refine Run_loop (fun m L' h' => ∃ (i1 : Int) (s1 : Int), 0 ≤ i1 ∧ M.forN (x1.length : Int) _ _ n m i1 s1 = some x2 ∧ L' = [(1, .int .i64 j), (3, .pointer (some ⟨bz1, 0, none⟩)), (7, .int .i64 s1), (13, .slice a1 x1.length c1), (14, .int .i64 (x1.length : Int)), (15, .int .i64 i1)] ∧ h = h') ((x1.length : Int) - 0 : Int).toNat ⟨0, (-1000000000000000), Int.le_refl _, gx2, rfl, rfl⟩ ?_
    rintro my1 _ _ ⟨i1, s1, hloy1', gx2, rfl, rfl⟩
    refine Run_seq ?_
    refine Run_reg 1 (by kernel_rfl) (L' := [(1, .int .i64 j), (3, .pointer (some ⟨bz1, 0, none⟩)), (7, .int .i64 s1), (13, .slice a1 x1.length c1), (14, .int .i64 (x1.length : Int)), (15, .int .i64 i1), (16, .bool (decide (i1 < (x1.length : Int))))]) ?_ ?_
    · refine QRun_b [.bool (decide (i1 < (x1.length : Int)))] 0 _ (by kernel_rfl) (fun w => by kernel_rfl) ?_
      exact QRun_done [1, 3, 7, 13, 14, 15, 16] (by kernel_rfl) (by kernel_rfl)
    refine Run_seq ?_
    refine Run_cond (b := decide (i1 < (x1.length : Int))) (by kernel_rfl) (fun hb1 => ?_) (fun hb1 => ?_)
    · obtain ⟨my1, y1, rfl, hB1, hgoy1, houty1⟩ := M.for_go gx2 hb1
      have hlty1 := of_decide_eq_true hb1
      refine Run_skip ?_
      refine Run_seq ?_
      refine Run_block ?_
      refine Run_seq ?_
      obtain ⟨x3, hx2, hB1⟩ := M.bind_some hB1
      obtain ⟨hx2l, hx2u, hx2⟩ := M.idx_some hx2
      refine Run_reg 5 (by kernel_rfl) (L' := [(1, .int .i64 j), (3, .pointer (some ⟨bz1, 0, none⟩)), (7, .int .i64 s1), (8, .int .i64 i1), (9, .int .i64 x3), (13, .slice a1 x1.length c1), (14, .int .i64 (x1.length : Int)), (15, .int .i64 i1)]) ?_ ?_
      · refine QRun_b [.int .i64 i1] 0 _ (by kernel_rfl) (fun w => by kernel_rfl) ?_
        refine QRun_y (.pointer (some (adr a1 (i1.toNat * 1)))) (by kernel_rfl) (Y_idx (t := 29) (e := 2) (sz := 1) (a := a1) (n := x1.length) (cap := c1) (kk := .i64) (i := i1) (by kernel_rfl) Try.underlying29 (by kernel_rfl) (r1.cell hx2).1 hx2l hx2u) ?_
        refine QRun_y (.int .i64 x3) (by kernel_rfl) (Y_load1 (t := 2) (p := adr a1 (i1.toNat * 1)) (v := .int .i64 x3) (by kernel_rfl) (fun w => by kernel_rfl) (cd2_cell r1 hx2)) ?_
        refine QRun_b [.int .i64 i1, .int .i64 x3] 3 _ (by kernel_rfl) (fun w => by kernel_rfl) ?_
        exact QRun_done [1, 3, 7, 8, 9, 13, 14, 15] (by kernel_rfl) (by kernel_rfl)
      obtain ⟨x4, hx3, hB1⟩ := M.bind_some hB1
      obtain ⟨hx3l, hx3u, hx3⟩ := M.idx_some hx3
      obtain ⟨a2, c2, hc2, r2⟩ := rz1.row hx3
      obtain ⟨x5, hx4, hB1⟩ := M.bind_some hB1
      obtain ⟨hx4l, hx4u, hx4⟩ := M.idx_some hx4
      obtain ⟨x6, hx5, hB1⟩ := M.bind_some hB1
      refine Run_reg 12 (by kernel_rfl) (L' := [(1, .int .i64 j), (3, .pointer (some ⟨bz1, 0, none⟩)), (7, .int .i64 (mx s1 x6)), (13, .slice a1 x1.length c1), (14, .int .i64 (x1.length : Int)), (15, .int .i64 i1)]) ?_ ?_
      · refine QRun_b [.int .i64 s1, .int .i64 x3] 0 _ (by kernel_rfl) (fun w => by kernel_rfl) ?_
        refine QRun_y (.slice az1 z1.length cz1) (by kernel_rfl) (Y_load1 (t := 22) (p := ⟨bz1, 0, none⟩) (v := .slice az1 z1.length cz1) (by kernel_rfl) (fun w => by kernel_rfl) (VarAt.cell vz1 rfl)) ?_
        refine QRun_b [.int .i64 i1] 3 _ (by kernel_rfl) (fun w => by kernel_rfl) ?_
        refine QRun_y (.pointer (some (adr az1 (i1.toNat * 1)))) (by kernel_rfl) (Y_idx (t := 22) (e := 29) (sz := 1) (a := az1) (n := z1.length) (cap := cz1) (kk := .i64) (i := i1) (by kernel_rfl) Try.underlying22 (by kernel_rfl) (rz1.cell hx3).1 hx3l hx3u) ?_
        refine QRun_y (.slice a2 x4.length c2) (by kernel_rfl) (Y_load1 (t := 29) (p := adr az1 (i1.toNat * 1)) (v := .slice a2 x4.length c2) (by kernel_rfl) (fun w => by kernel_rfl) hc2) ?_
        refine QRun_b [.int .i64 j] 6 _ (by kernel_rfl) (fun w => by kernel_rfl) ?_
        refine QRun_y (.pointer (some (adr a2 (j.toNat * 1)))) (by kernel_rfl) (Y_idx (t := 29) (e := 2) (sz := 1) (a := a2) (n := x4.length) (cap := c2) (kk := .i64) (i := j) (by kernel_rfl) Try.underlying29 (by kernel_rfl) (r2.cell hx4).1 hx4l hx4u) ?_
        refine QRun_y (.int .i64 x5) (by kernel_rfl) (Y_load1 (t := 2) (p := adr a2 (j.toNat * 1)) (v := .int .i64 x5) (by kernel_rfl) (fun w => by kernel_rfl) (cd2_cell r2 hx4)) ?_
        refine QRun_y (.int .i64 x6) (by kernel_rfl) (Y_callq (f := 93) (args := #[.int .i64 x3, .int .i64 x5]) (v := .int .i64 x6) (by kernel_rfl) (w_impl_times h x3 x5 _ _ hx5)) ?_
        refine QRun_b [.int .i64 (mx s1 x6), .int .i64 (mx s1 x6)] 10 _ (by kernel_rfl) (fun w => by kernel_rfl) ?_
        exact QRun_done [1, 3, 7, 13, 14, 15] (by kernel_rfl) (by kernel_rfl)
      refine Run_blk ?_
      refine Run_reg 2 (by kernel_rfl) (L' := [(1, .int .i64 j), (3, .pointer (some ⟨bz1, 0, none⟩)), (7, .int .i64 (mx s1 x6)), (13, .slice a1 x1.length c1), (14, .int .i64 (x1.length : Int)), (15, .int .i64 (i1 + 1))]) ?_ ?_
      · refine QRun_y (.int .i64 (i1 + 1)) (by kernel_rfl) (Y_eq (v := .int .i64 (w64 (i1 + 1))) (Y_pure (fun w => by kernel_rfl)) (by rw [w64_eq _ (by omega)])) ?_
        refine QRun_b [.int .i64 (i1 + 1)] 1 _ (by kernel_rfl) (fun w => by kernel_rfl) ?_
        exact QRun_done [1, 3, 7, 13, 14, 15] (by kernel_rfl) (by kernel_rfl)
      have hB1 := M.ret_some hB1
      have gx2 := hgoy1 _ hB1.symm
      exact Run_again [1, 3, 7, 13, 14, 15] (by kernel_rfl) my1 (Nat.lt_succ_self _) ⟨i1 + 1, (mx s1 x6), by omega, gx2, rfl, rfl⟩
    · have gx2 := M.for_end gx2 hb1
      subst gx2
      refine Run_exit (k' := _) rfl ?_
      exact Run_fall [7] (by kernel_rfl) ⟨rfl, rfl⟩

set_option maxRecDepth 100000 in
set_option maxHeartbeats 4000000 in
theorem w_impl_matrixBy_F_impl_multiply_1 (h : Heap) (m_ : Int) (n_ : Int) (entry0 : List (List Int)) (aentry0 : Option Addr) (centry0 : Nat) (rentry0 : Rd cd29 h (Lt h) aentry0 centry0 entry0) (bentry0 : Nat) (ventry0 : VarAt h bentry0 22 [.slice aentry0 entry0.length centry0]) (entry1 : List (List Int)) (aentry1 : Option Addr) (centry1 : Nat) (rentry1 : Rd cd29 h (Lt h) aentry1 centry1 entry1) (bentry1 : Nat) (ventry1 : VarAt h bentry1 22 [.slice aentry1 entry1.length centry1]) (n : Nat) (r : (List (List Int))) (hF : impl_matrixBy_F_impl_multiply_1 m_ n_ entry0 entry1 n = some r) :
    Fn Try.prog 141 #[.int .i64 m_, .int .i64 n_, .func (.func 155) #[] #[.pointer (some ⟨bentry0, 0, none⟩), .pointer (some ⟨bentry1, 0, none⟩)]] h fun v h' => ∃ (a0 : Option Addr) (c0 : Nat), v = .slice a0 r.length c0 ∧ Hold h h' [own cd29 a0 r.length c0 r] := by
  unfold impl_matrixBy_F_impl_multiply_1 at hF
  refine Fn_enter (args := [.int .i64 m_, .int .i64 n_, .func (.func 155) #[] #[.pointer (some ⟨bentry0, 0, none⟩), .pointer (some ⟨bentry1, 0, none⟩)]]) Try.func141 rfl (by kernel_rfl) (by kernel_rfl) (fun w0 _ => ?_)
  have H0 := Hold.init h
  refine Run_seq ?_
  refine Run_reg 1 (by kernel_rfl) (L' := [(0, .int .i64 m_), (1, .int .i64 n_), (2, .func (.func 155) #[] #[.pointer (some ⟨bentry0, 0, none⟩), .pointer (some ⟨bentry1, 0, none⟩)])]) ?_ ?_
  · refine QRun_b [.slice none 0 0] 0 _ (by kernel_rfl) (fun w => by kernel_rfl) ?_
    exact QRun_done [0, 1, 2] (by kernel_rfl) (by kernel_rfl)
  refine Run_seq ?_
  refine Run_ops ?_
  refine Run_b [.int .i64 m_] 0 _ (by kernel_rfl) (fun w => by kernel_rfl) ?_
  obtain ⟨l1, hl1, hF⟩ := M.bind_some hF
  have hl1 := M.make_some hl1
  refine Run_E (by kernel_rfl) ?_
  refine E_make cd29 [] (kl := .i64) (kc := .i64) H0 cd29_ti Try.underlying22 (by decide) cd29_zero (by kernel_rfl) hl1 (fun a1 h1 H1 => ?_)
  refine Run_b [.slice a1 l1.length l1.length] 2 _ (by kernel_rfl) (fun w => by kernel_rfl) ?_
  refine Run_nil (by kernel_rfl) ?_
  refine Run_keep [1, 2, 7] (L' := [(1, .int .i64 n_), (2, .func (.func 155) #[] #[.pointer (some ⟨bentry0, 0, none⟩), .pointer (some ⟨bentry1, 0, none⟩)]), (7, .slice a1 l1.length l1.length)]) (by kernel_rfl) ?_
  refine Run_seq ?_
  refine Run_seq ?_
  refine Run_reg 3 (by kernel_rfl) (L' := [(1, .int .i64 n_), (2, .func (.func 155) #[] #[.pointer (some ⟨bentry0, 0, none⟩), .pointer (some ⟨bentry1, 0, none⟩)]), (7, .slice a1 l1.length l1.length), (13, .int .i64 (l1.length : Int)), (14, .int .i64 0)]) ?_ ?_
  · refine QRun_b [.slice a1 l1.length l1.length, .int .i64 (l1.length : Int), .int .i64 0] 0 _ (by kernel_rfl) (fun w => by kernel_rfl) ?_
    exact QRun_done [1, 2, 7, 13, 14] (by kernel_rfl) (by kernel_rfl)
  obtain ⟨x1, gx1, hF⟩ := M.bind_some hF
  obtain ⟨hloy1, hhiy1, gx1⟩ := M.for_start gx1
  refine Run_join (fun L' h' => L' = [(7, .slice a1 l1.length l1.length)] ∧ Hold h h' [own cd29 a1 l1.length l1.length x1]) ?_ ?_
  · rintro _ h3 ⟨rfl, H3⟩
    refine Run_seq ?_
    refine Run_reg 2 (by kernel_rfl) (L' := [(6, .slice a1 l1.length l1.length)]) ?_ ?_
    · refine QRun_b [.slice a1 l1.length l1.length, .slice a1 l1.length l1.length] 0 _ (by kernel_rfl) (fun w => by kernel_rfl) ?_
      exact QRun_done [6] (by kernel_rfl) (by kernel_rfl)
    have hF := M.ret_some hF
    subst hF
    have H20 := H3.norm
    exact Run_ret1 rfl (ResV_tmp (v := .slice a1 l1.length l1.length) (by kernel_rfl)) ⟨a1, l1.length, (by simp only [(H3.len 0 rfl)]), H20⟩
  · refine Run_block ?_
    refine Run_keep [1, 2, 7, 13, 14] (L' := [(1, .int .i64 n_), (2, .func (.func 155) #[] #[.pointer (some ⟨bentry0, 0, none⟩), .pointer (some ⟨bentry1, 0, none⟩)]), (7, .slice a1 l1.length l1.length), (13, .int .i64 (l1.length : Int)), (14, .int .i64 0)]) (by kernel_rfl) ?_
    refine Run_loop (fun m L' h' => ∃ (i1 : Int) (s1 : (List (List Int))), 0 ≤ i1 ∧ M.forN (l1.length : Int) _ _ n m i1 s1 = some x1 ∧ L' = [(1, .int .i64 n_), (2, .func (.func 155) #[] #[.pointer (some ⟨bentry0, 0, none⟩), .pointer (some ⟨bentry1, 0, none⟩)]), (7, .slice a1 l1.length l1.length), (13, .int .i64 (l1.length : Int)), (14, .int .i64 i1)] ∧ Hold h h' [own cd29 a1 l1.length l1.length s1]) ((l1.length : Int) - 0 : Int).toNat ⟨0, l1, Int.le_refl _, gx1, rfl, H1⟩ ?_
    rintro my1 _ h2 ⟨i1, s1, hloy1', gx1, rfl, H2⟩
    refine Run_seq ?_
    refine Run_reg 1 (by kernel_rfl) (L' := [(1, .int .i64 n_), (2, .func (.func 155) #[] #[.pointer (some ⟨bentry0, 0, none⟩), .pointer (some ⟨bentry1, 0, none⟩)]), (7, .slice a1 l1.length l1.length), (13, .int .i64 (l1.length : Int)), (14, .int .i64 i1), (15, .bool (decide (i1 < (l1.length : Int))))]) ?_ ?_
    · refine QRun_b [.bool (decide (i1 < (l1.length : Int)))] 0 _ (by kernel_rfl) (fun w => by kernel_rfl) ?_
      exact QRun_done [1, 2, 7, 13, 14, 15] (by kernel_rfl) (by kernel_rfl)
    refine Run_seq ?_
    refine Run_cond (b := decide (i1 < (l1.length : Int))) (by kernel_rfl) (fun hb1 => ?_) (fun hb1 => ?_)
    · obtain ⟨my1, y1, rfl, hB1, hgoy1, houty1⟩ := M.for_go gx1 hb1
      have hlty1 := of_decide_eq_true hb1
      refine Run_skip ?_
      refine Run_seq ?_
      refine Run_block ?_
      refine Run_seq ?_
      refine Run_reg 2 (by kernel_rfl) (L' := [(1, .int .i64 n_), (2, .func (.func 155) #[] #[.pointer (some ⟨bentry0, 0, none⟩), .pointer (some ⟨bentry1, 0, none⟩)]), (7, .slice a1 l1.length l1.length), (8, .int .i64 i1), (13, .int .i64 (l1.length : Int)), (14, .int .i64 i1)]) ?_ ?_
      · refine QRun_b [.int .i64 i1, .int .i64 i1] 0 _ (by kernel_rfl) (fun w => by kernel_rfl) ?_
        exact QRun_done [1, 2, 7, 8, 13, 14] (by kernel_rfl) (by kernel_rfl)
      refine Run_seq ?_
      refine Run_ops ?_
      refine Run_b [.slice a1 l1.length l1.length, .int .i64 i1, .int .i64 n_] 0 _ (by kernel_rfl) (fun w => by kernel_rfl) ?_
      obtain ⟨l2, hl2, hB1⟩ := M.bind_some hB1
      have hl2 := M.make_some hl2
      refine Run_E (by kernel_rfl) ?_
      refine E_make cd2 0 (kl := .i64) (kc := .i64) H2 cd2_ti Try.underlying29 (by decide) cd2_zero (by kernel_rfl) hl2 (fun a2 h4 H4 => ?_)
      obtain ⟨x2, hx1, hB1⟩ := M.bind_some hB1
      obtain ⟨hx1l, hx1u, hx1⟩ := M.idx_some hx1
      refine Run_y (.pointer (some (adr a1 (i1.toNat * 1)))) (by kernel_rfl) (Y_idx (t := 22) (e := 29) (sz := 1) (a := a1) (n := l1.length) (cap := l1.length) (kk := .i64) (i := i1) (by kernel_rfl) Try.underlying22 (by kernel_rfl) ((H4.rd 1 rfl).cell hx1).1 hx1l (by rw [← (H4.len 1 rfl)]; exact hx1u)) ?_
      obtain ⟨l3, hu1, hB1⟩ := M.bind_some hB1
      have hu1 := M.upd_some hu1
      have H6 : Hold h h4 [own cd29 a1 l1.length l1.length s1, own cd2 a2 l2.length l2.length l2] := H4.pick [1, 0] (by kernel_rfl)
      have H7 : Hold h h4 [own cd2 a2 l2.length l2.length l2, own cd29 a1 l1.length l1.length s1] := H6.pick [1, 0] (by kernel_rfl)
      have H8 : Hold h h4 [own cd29 a1 l1.length l1.length s1, own cd2 a2 l2.length l2.length l2] := H7.pick [1, 0] (by kernel_rfl)
      refine Run_E (by kernel_rfl) ?_
      refine E_putRow (t := 29) (j := i1) H8 (by kernel_rfl) (by kernel_rfl) hu1 (fun h5 H5 => ?_)
      refine Run_nil (by kernel_rfl) ?_
      refine Run_keep [1, 2, 7, 8, 13, 14] (L' := [(1, .int .i64 n_), (2, .func (.func 155) #[] #[.pointer (some ⟨bentry0, 0, none⟩), .pointer (some ⟨bentry1, 0, none⟩)]), (7, .slice a1 l1.length l1.length), (8, .int .i64 i1), (13, .int .i64 (l1.length : Int)), (14, .int .i64 i1)]) (by kernel_rfl) ?_
      refine Run_seq ?_
      obtain ⟨x3, hx2, hB1⟩ := M.bind_some hB1
      obtain ⟨hx2l, hx2u, hx2⟩ := M.idx_some hx2
      have H9 := H5.toRows
      obtain ⟨a3, c1, H10⟩ := H9.pinRow hx2
      refine Run_reg 6 (by kernel_rfl) (L' := [(1, .int .i64 n_), (2, .func (.func 155) #[] #[.pointer (some ⟨bentry0, 0, none⟩), .pointer (some ⟨bentry1, 0, none⟩)]), (7, .slice a1 l1.length l1.length), (8, .int .i64 i1), (13, .int .i64 (l1.length : Int)), (14, .int .i64 i1), (26, .int .i64 (x3.length : Int)), (27, .int .i64 0)]) ?_ ?_
      · refine QRun_b [.slice a1 l1.length l1.length, .int .i64 i1] 0 _ (by kernel_rfl) (fun w => by kernel_rfl) ?_
        refine QRun_y (.pointer (some (adr a1 (i1.toNat * 1)))) (by kernel_rfl) (Y_idx (t := 22) (e := 29) (sz := 1) (a := a1) (n := l1.length) (cap := l1.length) (kk := .i64) (i := i1) (by kernel_rfl) Try.underlying22 (by kernel_rfl) ((H5.rd 0 rfl).cell hx2).1 hx2l (by rw [← (H5.len 0 rfl)]; exact hx2u)) ?_
        refine QRun_y (.slice a3 x3.length c1) (by kernel_rfl) (Y_load1 (t := 29) (p := adr a1 (i1.toNat * 1)) (v := .slice a3 x3.length c1) (by kernel_rfl) (fun w => by kernel_rfl) (H10.cellPin 0 rfl 0 rfl)) ?_
        refine QRun_b [.int .i64 (x3.length : Int), .int .i64 0] 4 _ (by kernel_rfl) (fun w => by kernel_rfl) ?_
        exact QRun_done [1, 2, 7, 8, 13, 14, 26, 27] (by kernel_rfl) (by kernel_rfl)
      obtain ⟨x4, gx4, hB1⟩ := M.bind_some hB1
      obtain ⟨hloy2, hhiy2, gx4⟩ := M.for_start gx4
      refine Run_join (fun L' h' => L' = [(1, .int .i64 n_), (2, .func (.func 155) #[] #[.pointer (some ⟨bentry0, 0, none⟩), .pointer (some ⟨bentry1, 0, none⟩)]), (7, .slice a1 l1.length l1.length), (13, .int .i64 (l1.length : Int)), (14, .int .i64 i1)] ∧ Hold h h' [own cd29 a1 l1.length l1.length x4]) ?_ ?_
      · rintro _ h7 ⟨rfl, H12⟩
        refine Run_blk ?_
        refine Run_reg 2 (by kernel_rfl) (L' := [(1, .int .i64 n_), (2, .func (.func 155) #[] #[.pointer (some ⟨bentry0, 0, none⟩), .pointer (some ⟨bentry1, 0, none⟩)]), (7, .slice a1 l1.length l1.length), (13, .int .i64 (l1.length : Int)), (14, .int .i64 (i1 + 1))]) ?_ ?_
        · refine QRun_y (.int .i64 (i1 + 1)) (by kernel_rfl) (Y_eq (v := .int .i64 (w64 (i1 + 1))) (Y_pure (fun w => by kernel_rfl)) (by rw [w64_eq _ (by omega)])) ?_
          refine QRun_b [.int .i64 (i1 + 1)] 1 _ (by kernel_rfl) (fun w => by kernel_rfl) ?_
          exact QRun_done [1, 2, 7, 13, 14] (by kernel_rfl) (by kernel_rfl)
        have hB1 := M.ret_some hB1
        have gx1 := hgoy1 _ hB1.symm
        exact Run_again [1, 2, 7, 13, 14] (by kernel_rfl) my1 (Nat.lt_succ_self _) ⟨i1 + 1, x4, by omega, gx1, rfl, H12⟩
      · refine Run_block ?_
        have H19 := H10.ofRows
        refine Run_keep [1, 2, 7, 8, 13, 14, 26, 27] (L' := [(1, .int .i64 n_), (2, .func (.func 155) #[] #[.pointer (some ⟨bentry0, 0, none⟩), .pointer (some ⟨bentry1, 0, none⟩)]), (7, .slice a1 l1.length l1.length), (8, .int .i64 i1), (13, .int .i64 (l1.length : Int)), (14, .int .i64 i1), (26, .int .i64 (x3.length : Int)), (27, .int .i64 0)]) (by kernel_rfl) ?_
        refine Run_loop (fun m L' h' => ∃ (i2 : Int) (s2 : (List (List Int))), 0 ≤ i2 ∧ M.forN (x3.length : Int) _ _ n m i2 s2 = some x4 ∧ L' = [(1, .int .i64 n_), (2, .func (.func 155) #[] #[.pointer (some ⟨bentry0, 0, none⟩), .pointer (some ⟨bentry1, 0, none⟩)]), (7, .slice a1 l1.length l1.length), (8, .int .i64 i1), (13, .int .i64 (l1.length : Int)), (14, .int .i64 i1), (26, .int .i64 (x3.length : Int)), (27, .int .i64 i2)] ∧ Hold h h' [own cd29 a1 l1.length l1.length s2]) ((x3.length : Int) - 0 : Int).toNat ⟨0, l3, Int.le_refl _, gx4, rfl, H19⟩ ?_
        rintro my2 _ h6 ⟨i2, s2, hloy2', gx4, rfl, H11⟩
        refine Run_seq ?_
        refine Run_reg 1 (by kernel_rfl) (L' := [(1, .int .i64 n_), (2, .func (.func 155) #[] #[.pointer (some ⟨bentry0, 0, none⟩), .pointer (some ⟨bentry1, 0, none⟩)]), (7, .slice a1 l1.length l1.length), (8, .int .i64 i1), (13, .int .i64 (l1.length : Int)), (14, .int .i64 i1), (26, .int .i64 (x3.length : Int)), (27, .int .i64 i2), (28, .bool (decide (i2 < (x3.length : Int))))]) ?_ ?_
        · refine QRun_b [.bool (decide (i2 < (x3.length : Int)))] 0 _ (by kernel_rfl) (fun w => by kernel_rfl) ?_
          exact QRun_done [1, 2, 7, 8, 13, 14, 26, 27, 28] (by kernel_rfl) (by kernel_rfl)
        refine Run_seq ?_
        refine Run_cond (b := decide (i2 < (x3.length : Int))) (by kernel_rfl) (fun hb2 => ?_) (fun hb2 => ?_)
        · obtain ⟨my2, y2, rfl, hB2, hgoy2, houty2⟩ := M.for_go gx4 hb2
          have hlty2 := of_decide_eq_true hb2
          refine Run_skip ?_
          refine Run_seq ?_
          refine Run_block ?_
          refine Run_seq ?_
          refine Run_reg 2 (by kernel_rfl) (L' := [(1, .int .i64 n_), (2, .func (.func 155) #[] #[.pointer (some ⟨bentry0, 0, none⟩), .pointer (some ⟨bentry1, 0, none⟩)]), (7, .slice a1 l1.length l1.length), (8, .int .i64 i1), (9, .int .i64 i2), (13, .int .i64 (l1.length : Int)), (14, .int .i64 i1), (26, .int .i64 (x3.length : Int)), (27, .int .i64 i2)]) ?_ ?_
          · refine QRun_b [.int .i64 i2, .int .i64 i2] 0 _ (by kernel_rfl) (fun w => by kernel_rfl) ?_
            exact QRun_done [1, 2, 7, 8, 9, 13, 14, 26, 27] (by kernel_rfl) (by kernel_rfl)
          obtain ⟨x5, hx3, hB2⟩ := M.bind_some hB2
          obtain ⟨hx3l, hx3u, hx3⟩ := M.idx_some hx3
          have H13 := H11.toRows
          obtain ⟨a4, c2, H14⟩ := H13.pinRow hx3
          obtain ⟨x6, hx4, hB2⟩ := M.bind_some hB2
          obtain ⟨x7, hx5, hB2⟩ := M.bind_some hB2
          obtain ⟨hx5l, hx5u, hx5⟩ := M.idx_some hx5
          refine Run_D (fun x => Hold h x [rowsP cd2 29 a1 l1.length l1.length s2 [(i1.toNat, a4, x5.length, c2, x5)]]) (fun x => Hold h x [rowsP cd2 29 a1 l1.length l1.length s2 [(i1.toNat, a4, x5.length, c2, x5)]]) mixed (by kernel_rfl) H14 Hold.stable (fun x Hy => (show Hold h x [rowsP cd2 29 a1 l1.length l1.length s2 [(i1.toNat, a4, x5.length, c2, x5)]] from Hy).pick [0] (by kernel_rfl)) ?_
          refine DR_b 9 [.slice a1 l1.length l1.length, .int .i64 i1] 0 (by kernel_rfl) (by kernel_rfl) (by kernel_rfl) (fun w => by kernel_rfl) ?_
          refine DR_y 8 (i := 2) (.pointer (some (adr a1 (i1.toNat * 1)))) (by kernel_rfl) (by kernel_rfl) (by kernel_rfl) (fun hx Hx => (YE.of (Y_idx (t := 22) (e := 29) (sz := 1) (a := a1) (n := l1.length) (cap := l1.length) (kk := .i64) (i := i1) (by kernel_rfl) Try.underlying22 (by kernel_rfl) ((H11.rd 0 rfl).cell hx3).1 hx3l (by rw [← (H11.len 0 rfl)]; exact hx3u)))) ?_
          refine DR_y 7 (i := 3) (.slice a4 x5.length c2) (by kernel_rfl) (by kernel_rfl) (by kernel_rfl) (fun hx Hx => (YE.of (Y_load1 (t := 29) (p := adr a1 (i1.toNat * 1)) (v := .slice a4 x5.length c2) (by kernel_rfl) (fun w => by kernel_rfl) (Hx.cellPin 0 rfl 0 rfl)))) ?_
          refine DR_b 3 [.int .i64 i2, .func (.func 155) #[] #[.pointer (some ⟨bentry0, 0, none⟩), .pointer (some ⟨bentry1, 0, none⟩)], .int .i64 i1, .int .i64 i2] 4 (by kernel_rfl) (by kernel_rfl) (by kernel_rfl) (fun w => by kernel_rfl) ?_
          refine DR_y 2 (i := 8) (.int .i64 x6) (by kernel_rfl) (by kernel_rfl) (by kernel_rfl) (fun hx Hx => (YE.of (Y_callq (f := 155) (args := #[.int .i64 i1, .int .i64 i2, .pointer (some ⟨bentry0, 0, none⟩), .pointer (some ⟨bentry1, 0, none⟩)]) (v := .int .i64 x6) (by kernel_rfl) (w_impl_multiply_1 hx i1 i2 entry0 aentry0 centry0 (rentry0.at Hx.ext) bentry0 (ventry0.at Hx.ext) entry1 aentry1 centry1 (rentry1.at Hx.ext) bentry1 (ventry1.at Hx.ext) _ _ hx4)))) ?_
          refine DR_y 1 (i := 9) (.pointer (some (adr a4 (i2.toNat * 1)))) (by kernel_rfl) (by kernel_rfl) (by kernel_rfl) (fun hx Hx => (YE.of (Y_idx (t := 29) (e := 2) (sz := 1) (a := a4) (n := x5.length) (cap := c2) (kk := .i64) (i := i2) (by kernel_rfl) Try.underlying29 (by kernel_rfl) ((H14.rdPin 0 rfl 0 rfl).cell hx5).1 hx5l hx5u))) ?_
          refine DR_tail (i := 10) (by kernel_rfl) (by kernel_rfl) (by kernel_rfl) (fun h8 H15 => ?_)
          have H16 : Hold h h8 [rowsP cd2 29 a1 l1.length l1.length s2 [(i1.toNat, a4, x5.length, c2, x5)]] := H15
          obtain ⟨l4, hu2, hB2⟩ := M.bind_some hB2
          have hu2 := M.upd_some hu2
          refine Run_E (by kernel_rfl) ?_
          refine E_put2 (C := cd2) (t := 2) (sz := 1) (j := i2) (x := x6) (v := .int .i64 x6) (m2 := s2.set i1.toNat l4) H16 cd2_flat 0 rfl (by kernel_rfl) rfl (cd2_own _) (by kernel_rfl) hu2 rfl (fun h9 H17 => ?_)
          refine Run_nil (by kernel_rfl) ?_
          refine Run_keep [1, 2, 7, 8, 13, 14, 26, 27] (L' := [(1, .int .i64 n_), (2, .func (.func 155) #[] #[.pointer (some ⟨bentry0, 0, none⟩), .pointer (some ⟨bentry1, 0, none⟩)]), (7, .slice a1 l1.length l1.length), (8, .int .i64 i1), (13, .int .i64 (l1.length : Int)), (14, .int .i64 i1), (26, .int .i64 (x3.length : Int)), (27, .int .i64 i2)]) (by kernel_rfl) ?_
          refine Run_blk ?_
          refine Run_reg 2 (by kernel_rfl) (L' := [(1, .int .i64 n_), (2, .func (.func 155) #[] #[.pointer (some ⟨bentry0, 0, none⟩), .pointer (some ⟨bentry1, 0, none⟩)]), (7, .slice a1 l1.length l1.length), (8, .int .i64 i1), (13, .int .i64 (l1.length : Int)), (14, .int .i64 i1), (26, .int .i64 (x3.length : Int)), (27, .int .i64 (i2 + 1))]) ?_ ?_
          · refine QRun_y (.int .i64 (i2 + 1)) (by kernel_rfl) (Y_eq (v := .int .i64 (w64 (i2 + 1))) (Y_pure (fun w => by kernel_rfl)) (by rw [w64_eq _ (by omega)])) ?_
            refine QRun_b [.int .i64 (i2 + 1)] 1 _ (by kernel_rfl) (fun w => by kernel_rfl) ?_
            exact QRun_done [1, 2, 7, 8, 13, 14, 26, 27] (by kernel_rfl) (by kernel_rfl)
          have H18 := H17.ofRows
          have hB2 := M.ret_some hB2
          have gx4 := hgoy2 _ hB2.symm
          exact Run_again [1, 2, 7, 8, 13, 14, 26, 27] (by kernel_rfl) my2 (Nat.lt_succ_self _) ⟨i2 + 1, (s2.set i1.toNat l4), by omega, gx4, rfl, H18⟩
        · have gx4 := M.for_end gx4 hb2
          subst gx4
          refine Run_exit (k' := _) rfl ?_
          exact Run_fall [1, 2, 7, 13, 14] (by kernel_rfl) ⟨rfl, H11⟩
    · have gx1 := M.for_end gx1 hb1
      subst gx1
      refine Run_exit (k' := _) rfl ?_
      exact Run_fall [7] (by kernel_rfl) ⟨rfl, H2⟩

set_option maxRecDepth 100000 in
set_option maxHeartbeats 4000000 in
theorem w_impl_multiply (h : Heap) (a_ : List (List Int)) (aa_ : Option Addr) (ca_ : Nat) (ra_ : Rd cd29 h (Lt h) aa_ ca_ a_) (b : List (List Int)) (ab : Option Addr) (cb : Nat) (rb : Rd cd29 h (Lt h) ab cb b) (n : Nat) (r : (List (List Int))) (hF : impl_multiply a_ b n = some r) :
    Fn Try.prog 111 #[.slice aa_ a_.length ca_, .slice ab b.length cb] h fun v h' => ∃ (a0 : Option Addr) (c0 : Nat), v = .slice a0 r.length c0 ∧ Hold h h' [own cd29 a0 r.length c0 r] := by
  unfold impl_multiply at hF
  refine Fn_enter (args := [.slice aa_ a_.length ca_, .slice ab b.length cb]) Try.func111 rfl (by kernel_rfl) (by kernel_rfl) (fun w0 _ => ?_)
  have H0 := Hold.init h
  refine Run_seq ?_
  refine Run_ops ?_
  refine Run_E (by kernel_rfl) ?_
  refine E_box (ty := 22) (cs := [.slice aa_ a_.length ca_]) H0 (fun w => by kernel_rfl) (fun b1 h1 H1 => ?_)
  refine Run_E (by kernel_rfl) ?_
  refine E_box (ty := 22) (cs := [.slice ab b.length cb]) H1 (fun w => by kernel_rfl) (fun b2 h2 H2 => ?_)
  refine Run_b [.slice none 0 0] 2 _ (by kernel_rfl) (fun w => by kernel_rfl) ?_
  refine Run_nil (by kernel_rfl) ?_
  refine Run_keep [2, 3] (L' := [(2, .pointer (some ⟨b1, 0, none⟩)), (3, .pointer (some ⟨b2, 0, none⟩))]) (by kernel_rfl) ?_
  refine Run_seq ?_
  obtain ⟨x1, hx1, hF⟩ := M.bind_some hF
  obtain ⟨hx1l, hx1u, hx1⟩ := M.idx_some hx1
  obtain ⟨a1, c1, hc1, r1⟩ := rb.row hx1
  refine Run_D (fun x => Hold h x [box b2 22 [.slice ab b.length cb], box b1 22 [.slice aa_ a_.length ca_]]) (fun x => Hold h x [box b2 22 [.slice ab b.length cb], box b1 22 [.slice aa_ a_.length ca_]]) mixed (by kernel_rfl) H2 Hold.stable (fun x Hy => (show Hold h x [box b2 22 [.slice ab b.length cb], box b1 22 [.slice aa_ a_.length ca_]] from Hy).pick [0, 1] (by kernel_rfl)) ?_
  refine DR_y 8 (i := 0) (.slice aa_ a_.length ca_) (by kernel_rfl) (by kernel_rfl) (by kernel_rfl) (fun hx Hx => (YE.of (Y_load1 (t := 22) (p := ⟨b1, 0, none⟩) (v := .slice aa_ a_.length ca_) (by kernel_rfl) (fun w => by kernel_rfl) (Hx.cell 1 rfl rfl)))) ?_
  refine DR_b 7 [.int .i64 (a_.length : Int)] 1 (by kernel_rfl) (by kernel_rfl) (by kernel_rfl) (fun w => by kernel_rfl) ?_
  refine DR_y 6 (i := 2) (.slice ab b.length cb) (by kernel_rfl) (by kernel_rfl) (by kernel_rfl) (fun hx Hx => (YE.of (Y_load1 (t := 22) (p := ⟨b2, 0, none⟩) (v := .slice ab b.length cb) (by kernel_rfl) (fun w => by kernel_rfl) (Hx.cell 0 rfl rfl)))) ?_
  refine DR_y 5 (i := 3) (.pointer (some (adr ab (0 * 1)))) (by kernel_rfl) (by kernel_rfl) (by kernel_rfl) (fun hx Hx => (YE.of (Y_idx (t := 22) (e := 29) (sz := 1) (a := ab) (n := b.length) (cap := cb) (kk := .i64) (i := 0) (by kernel_rfl) Try.underlying22 (by kernel_rfl) ((rb.at H2.ext).cell hx1).1 hx1l hx1u))) ?_
  refine DR_y 4 (i := 4) (.slice a1 x1.length c1) (by kernel_rfl) (by kernel_rfl) (by kernel_rfl) (fun hx Hx => (YE.of (Y_load1 (t := 29) (p := adr ab (0 * 1)) (v := .slice a1 x1.length c1) (by kernel_rfl) (fun w => by kernel_rfl) (cell_at Hx.ext hc1)))) ?_
  refine DR_b 2 [.int .i64 (x1.length : Int), .func (.func 155) #[] #[.pointer (some ⟨b1, 0, none⟩), .pointer (some ⟨b2, 0, none⟩)]] 5 (by kernel_rfl) (by kernel_rfl) (by kernel_rfl) (fun w => by kernel_rfl) ?_
  refine DR_tail (i := 7) (by kernel_rfl) (by kernel_rfl) (by kernel_rfl) (fun h3 H3 => ?_)
  have H4 : Hold h h3 [box b2 22 [.slice ab b.length cb], box b1 22 [.slice aa_ a_.length ca_]] := H3
  obtain ⟨x2, hx2, hF⟩ := M.bind_some hF
  refine Run_E (by kernel_rfl) ?_
  refine E_call (f := 141) (args := #[.int .i64 (a_.length : Int), .int .i64 (x1.length : Int), .func (.func 155) #[] #[.pointer (some ⟨b1, 0, none⟩), .pointer (some ⟨b2, 0, none⟩)]]) (w_impl_matrixBy_F_impl_multiply_1 h3 (a_.length : Int) (x1.length : Int) a_ aa_ ca_ (ra_.at H4.ext) b1 (H4.var 1 rfl) b ab cb (rb.at H4.ext) b2 (H4.var 0 rfl) _ _ hx2) (by kernel_rfl) (fun v1 h4 hp1 => ?_)
  obtain ⟨a2, c2, rfl, H5⟩ := hp1
  have H6 : Hold h h4 [own cd29 a2 x2.length c2 x2, box b2 22 [.slice ab b.length cb], box b1 22 [.slice aa_ a_.length ca_]] := H4.call H5 rfl
  refine Run_b [.slice a2 x2.length c2] 8 _ (by kernel_rfl) (fun w => by kernel_rfl) ?_
  refine Run_nil (by kernel_rfl) ?_
  refine Run_keep [4] (L' := [(4, .slice a2 x2.length c2)]) (by kernel_rfl) ?_
  have hF := M.ret_some hF
  subst hF
  have H7 : Hold h h4 [own cd29 a2 x2.length c2 x2] := H6.pick [0] (by kernel_rfl)
  exact Run_ret1 rfl (ResV_tmp (v := .slice a2 x2.length c2) (by kernel_rfl)) ⟨a2, c2, rfl, H7⟩

set_option maxRecDepth 100000 in
set_option maxHeartbeats 4000000 in
theorem w_impl_checkedMatrix_1 (h : Heap) (row : List Int) {Srow : Bs} (arow : Option Addr) (crow : Nat) (rrow : Rd cd2 h Srow arow crow row) (n : Nat) (r : Bool) (hF : impl_checkedMatrix_1 row n = some r) :
    Fn Try.prog 154 #[.slice arow row.length crow] h fun v h' => v = .bool r ∧ h' = h := by
  unfold impl_checkedMatrix_1 at hF
  refine Fn_enter (args := [.slice arow row.length crow]) Try.func154 rfl (by kernel_rfl) (by kernel_rfl) (fun w0 _ => ?_)
  refine Run_seq ?_
  refine Run_reg 1 (by kernel_rfl) (L' := [(0, .slice arow row.length crow)]) ?_ ?_
  · refine QRun_b [.bool false] 0 _ (by kernel_rfl) (fun w => by kernel_rfl) ?_
    exact QRun_done [0] (by kernel_rfl) (by kernel_rfl)
  refine Run_seq ?_
  obtain ⟨x1, hx1, hF⟩ := M.bind_some hF
  refine Run_reg 4 (by kernel_rfl) (L' := [(2, .bool (!x1))]) ?_ ?_
  · refine QRun_b [.slice arow row.length crow] 0 _ (by kernel_rfl) (fun w => by kernel_rfl) ?_
    refine QRun_y (.bool x1) (by kernel_rfl) (Y_callq (f := 115) (args := #[.slice arow row.length crow]) (v := .bool x1) (by kernel_rfl) (w_impl_areValues h row arow crow rrow _ _ hx1)) ?_
    refine QRun_b [.bool (!x1), .bool (!x1)] 2 _ (by kernel_rfl) (fun w => by kernel_rfl) ?_
    exact QRun_done [2] (by kernel_rfl) (by kernel_rfl)
  have hF := M.ret_some hF
  subst hF
  exact Run_ret1 rfl (ResV_tmp (v := .bool (!x1)) (by kernel_rfl)) ⟨rfl, rfl⟩

set_option maxRecDepth 100000 in
set_option maxHeartbeats 4000000 in
theorem w_slices_IndexFunc_row_F_impl_checkedMatrix_1 (h : Heap) (s_ : List (List Int)) {Ss_ : Bs} (as_ : Option Addr) (cs_ : Nat) (rs_ : Rd cd29 h Ss_ as_ cs_ s_) (n : Nat) (r : Int) (hF : slices_IndexFunc_row_F_impl_checkedMatrix_1 s_ n = some r) :
    Fn Try.prog 164 #[.slice as_ s_.length cs_, .func (.func 154) #[] #[]] h fun v h' => v = .int .i64 r ∧ h' = h := by
  unfold slices_IndexFunc_row_F_impl_checkedMatrix_1 at hF
  refine Fn_enter (args := [.slice as_ s_.length cs_, .func (.func 154) #[] #[]]) Try.func164 rfl (by kernel_rfl) (by kernel_rfl) (fun w0 _ => ?_)
  refine Run_seq ?_
  refine Run_reg 1 (by kernel_rfl) (L' := [(0, .slice as_ s_.length cs_), (1, .func (.func 154) #[] #[])]) ?_ ?_
  · refine QRun_b [.int .i64 0] 0 _ (by kernel_rfl) (fun w => by kernel_rfl) ?_
    exact QRun_done [0, 1] (by kernel_rfl) (by kernel_rfl)
  refine Run_seq ?_
  refine Run_seq ?_
  refine Run_reg 3 (by kernel_rfl) (L' := [(0, .slice as_ s_.length cs_), (1, .func (.func 154) #[] #[]), (7, .int .i64 (s_.length : Int)), (8, .int .i64 0)]) ?_ ?_
  · refine QRun_b [.slice as_ s_.length cs_, .int .i64 (s_.length : Int), .int .i64 0] 0 _ (by kernel_rfl) (fun w => by kernel_rfl) ?_
    exact QRun_done [0, 1, 7, 8] (by kernel_rfl) (by kernel_rfl)
  obtain ⟨x1, gx1, hF⟩ := M.bind_some hF
  obtain ⟨hloy1, hhiy1, gx1⟩ := M.for_start gx1
  refine Run_join (fun L' h' => ∃ (s2 : Unit), x1 = .inl s2 ∧ L' = [] ∧ h = h') ?_ ?_
  · rintro _ _ ⟨s2, es2, rfl, rfl⟩
    have hF := M.cont_inl' hF es2
    refine Run_seq ?_
    refine Run_reg 1 (by kernel_rfl) (L' := [(4, .int .i64 (-1))]) ?_ ?_
    · refine QRun_b [.int .i64 (-1)] 0 _ (by kernel_rfl) (fun w => by kernel_rfl) ?_
      exact QRun_done [4] (by kernel_rfl) (by kernel_rfl)
    have hF := M.ret_some hF
    subst hF
    exact Run_ret1 rfl (ResV_tmp (v := .int .i64 (-1)) (by kernel_rfl)) ⟨rfl, rfl⟩
  · refine Run_block ?_
    refine Run_keep [0, 1, 7, 8] (L' := [(0, .slice as_ s_.length cs_), (1, .func (.func 154) #[] #[]), (7, .int .i64 (s_.length : Int)), (8, .int .i64 0)]) (by kernel_rfl) ?_
    refine Run_loop (fun m L' h' => ∃ (i1 : Int) (s1 : Unit), 0 ≤ i1 ∧ M.forN (s_.length : Int) _ _ n m i1 s1 = some x1 ∧ L' = [(0, .slice as_ s_.length cs_), (1, .func (.func 154) #[] #[]), (7, .int .i64 (s_.length : Int)), (8, .int .i64 i1)] ∧ h = h') ((s_.length : Int) - 0 : Int).toNat ⟨0, (), Int.le_refl _, gx1, rfl, rfl⟩ ?_
    rintro my1 _ _ ⟨i1, s1, hloy1', gx1, rfl, rfl⟩
    refine Run_seq ?_
    refine Run_reg 1 (by kernel_rfl) (L' := [(0, .slice as_ s_.length cs_), (1, .func (.func 154) #[] #[]), (7, .int .i64 (s_.length : Int)), (8, .int .i64 i1), (9, .bool (decide (i1 < (s_.length : Int))))]) ?_ ?_
    · refine QRun_b [.bool (decide (i1 < (s_.length : Int)))] 0 _ (by kernel_rfl) (fun w => by kernel_rfl) ?_
      exact QRun_done [0, 1, 7, 8, 9] (by kernel_rfl) (by kernel_rfl)
    refine Run_seq ?_
    refine Run_cond (b := decide (i1 < (s_.length : Int))) (by kernel_rfl) (fun hb1 => ?_) (fun hb1 => ?_)
    · obtain ⟨my1, y1, rfl, hB1, hgoy1, houty1⟩ := M.for_go gx1 hb1
      have hlty1 := of_decide_eq_true hb1
      refine Run_skip ?_
      refine Run_seq ?_
      refine Run_block ?_
      refine Run_seq ?_
      refine Run_reg 2 (by kernel_rfl) (L' := [(0, .slice as_ s_.length cs_), (1, .func (.func 154) #[] #[]), (5, .int .i64 i1), (7, .int .i64 (s_.length : Int)), (8, .int .i64 i1)]) ?_ ?_
      · refine QRun_b [.int .i64 i1, .int .i64 i1] 0 _ (by kernel_rfl) (fun w => by kernel_rfl) ?_
        exact QRun_done [0, 1, 5, 7, 8] (by kernel_rfl) (by kernel_rfl)
      refine Run_seq ?_
      obtain ⟨x2, hx1, hB1⟩ := M.bind_some hB1
      obtain ⟨hx1l, hx1u, hx1⟩ := M.idx_some hx1
      obtain ⟨a1, c1, hc1, r1⟩ := rs_.row hx1
      obtain ⟨x3, hx2, hB1⟩ := M.bind_some hB1
      refine Run_reg 6 (by kernel_rfl) (L' := [(0, .slice as_ s_.length cs_), (1, .func (.func 154) #[] #[]), (5, .int .i64 i1), (7, .int .i64 (s_.length : Int)), (8, .int .i64 i1), (16, .bool x3)]) ?_ ?_
      · refine QRun_b [.func (.func 154) #[] #[], .slice as_ s_.length cs_, .int .i64 i1] 0 _ (by kernel_rfl) (fun w => by kernel_rfl) ?_
        refine QRun_y (.pointer (some (adr as_ (i1.toNat * 1)))) (by kernel_rfl) (Y_idx (t := 22) (e := 29) (sz := 1) (a := as_) (n := s_.length) (cap := cs_) (kk := .i64) (i := i1) (by kernel_rfl) Try.underlying22 (by kernel_rfl) (rs_.cell hx1).1 hx1l hx1u) ?_
        refine QRun_y (.slice a1 x2.length c1) (by kernel_rfl) (Y_load1 (t := 29) (p := adr as_ (i1.toNat * 1)) (v := .slice a1 x2.length c1) (by kernel_rfl) (fun w => by kernel_rfl) hc1) ?_
        refine QRun_y (.bool x3) (by kernel_rfl) (Y_callq (f := 154) (args := #[.slice a1 x2.length c1]) (v := .bool x3) (by kernel_rfl) (w_impl_checkedMatrix_1 h x2 a1 c1 r1 _ _ hx2)) ?_
        exact QRun_done [0, 1, 5, 7, 8, 16] (by kernel_rfl) (by kernel_rfl)
      refine Run_cond (b := x3) (by kernel_rfl) (fun hb2 => ?_) (fun hb2 => ?_)
      · have hB1 := (M.ite_some hB1).1 hb2
        refine Run_seq ?_
        refine Run_reg 2 (by kernel_rfl) (L' := [(4, .int .i64 i1)]) ?_ ?_
        · refine QRun_b [.int .i64 i1, .int .i64 i1] 0 _ (by kernel_rfl) (fun w => by kernel_rfl) ?_
          exact QRun_done [4] (by kernel_rfl) (by kernel_rfl)
        have hB1 := M.ret_some hB1
        have gx1 := houty1 _ hB1.symm
        have hF := M.cont_inr' hF gx1
        have hF := M.ret_some hF
        subst hF
        exact Run_ret1 rfl (ResV_tmp (v := .int .i64 i1) (by kernel_rfl)) ⟨rfl, rfl⟩
      · have hB1 := (M.ite_some hB1).2 hb2
        refine Run_skip ?_
        refine Run_blk ?_
        refine Run_reg 2 (by kernel_rfl) (L' := [(0, .slice as_ s_.length cs_), (1, .func (.func 154) #[] #[]), (7, .int .i64 (s_.length : Int)), (8, .int .i64 (i1 + 1))]) ?_ ?_
        · refine QRun_y (.int .i64 (i1 + 1)) (by kernel_rfl) (Y_eq (v := .int .i64 (w64 (i1 + 1))) (Y_pure (fun w => by kernel_rfl)) (by rw [w64_eq _ (by omega)])) ?_
          refine QRun_b [.int .i64 (i1 + 1)] 1 _ (by kernel_rfl) (fun w => by kernel_rfl) ?_
          exact QRun_done [0, 1, 7, 8] (by kernel_rfl) (by kernel_rfl)
        have hB1 := M.ret_some hB1
        have gx1 := hgoy1 _ hB1.symm
        exact Run_again [0, 1, 7, 8] (by kernel_rfl) my1 (Nat.lt_succ_self _) ⟨i1 + 1, (), by omega, gx1, rfl, rfl⟩
    · have gx1 := M.for_end gx1 hb1
      subst gx1
      refine Run_exit (k' := _) rfl ?_
      exact Run_fall [] (by kernel_rfl) ⟨(), rfl, rfl, rfl⟩

set_option maxRecDepth 100000 in
set_option maxHeartbeats 4000000 in
theorem w_slices_ContainsFunc_row_F_impl_checkedMatrix_1 (h : Heap) (s_ : List (List Int)) {Ss_ : Bs} (as_ : Option Addr) (cs_ : Nat) (rs_ : Rd cd29 h Ss_ as_ cs_ s_) (n : Nat) (r : Bool) (hF : slices_ContainsFunc_row_F_impl_checkedMatrix_1 s_ n = some r) :
    Fn Try.prog 138 #[.slice as_ s_.length cs_, .func (.func 154) #[] #[]] h fun v h' => v = .bool r ∧ h' = h := by
  unfold slices_ContainsFunc_row_F_impl_checkedMatrix_1 at hF
  refine Fn_enter (args := [.slice as_ s_.length cs_, .func (.func 154) #[] #[]]) Try.func138 rfl (by kernel_rfl) (by kernel_rfl) (fun w0 _ => ?_)
  refine Run_seq ?_
  refine Run_reg 1 (by kernel_rfl) (L' := [(0, .slice as_ s_.length cs_), (1, .func (.func 154) #[] #[])]) ?_ ?_
  · refine QRun_b [.bool false] 0 _ (by kernel_rfl) (fun w => by kernel_rfl) ?_
    exact QRun_done [0, 1] (by kernel_rfl) (by kernel_rfl)
  refine Run_seq ?_
  obtain ⟨x1, hx1, hF⟩ := M.bind_some hF
  refine Run_reg 5 (by kernel_rfl) (L' := [(4, .bool (decide (0 ≤ x1)))]) ?_ ?_
  · refine QRun_b [.slice as_ s_.length cs_, .func (.func 154) #[] #[]] 0 _ (by kernel_rfl) (fun w => by kernel_rfl) ?_
    refine QRun_y (.int .i64 x1) (by kernel_rfl) (Y_callq (f := 164) (args := #[.slice as_ s_.length cs_, .func (.func 154) #[] #[]]) (v := .int .i64 x1) (by kernel_rfl) (w_slices_IndexFunc_row_F_impl_checkedMatrix_1 h s_ as_ cs_ rs_ _ _ hx1)) ?_
    refine QRun_b [.bool (decide (0 ≤ x1)), .bool (decide (0 ≤ x1))] 3 _ (by kernel_rfl) (fun w => by kernel_rfl) ?_
    exact QRun_done [4] (by kernel_rfl) (by kernel_rfl)
  have hF := M.ret_some hF
  subst hF
  exact Run_ret1 rfl (ResV_tmp (v := .bool (decide (0 ≤ x1))) (by kernel_rfl)) ⟨rfl, rfl⟩

set_option maxRecDepth 100000 in
set_option maxHeartbeats 4000000 in
theorem w_impl_checkedMatrix (h : Heap) (a_ : List (List Int)) (aa_ : Option Addr) (ca_ : Nat) (ra_ : Rd cd29 h (Lt h) aa_ ca_ a_) (n : Nat) (r : (List (List Int)) × Int) (hF : impl_checkedMatrix a_ n = some r) :
    Fn Try.prog 110 #[.slice aa_ a_.length ca_] h fun v h' => ∃ (a0 : Option Addr) (c0 : Nat), v = .tuple #[.slice a0 r.1.length c0, .int .i64 r.2] ∧ Ali a0 aa_ c0 ca_ r.1 a_ ∧ Hold h h' [] := by
  unfold impl_checkedMatrix at hF
  refine Fn_enter (args := [.slice aa_ a_.length ca_]) Try.func110 rfl (by kernel_rfl) (by kernel_rfl) (fun w0 _ => ?_)
  have H0 := Hold.init h
  refine Run_seq ?_
  refine Run_reg 2 (by kernel_rfl) (L' := [(0, .slice aa_ a_.length ca_)]) ?_ ?_
  · refine QRun_b [.slice none 0 0, .int .i64 0] 0 _ (by kernel_rfl) (fun w => by kernel_rfl) ?_
    exact QRun_done [0] (by kernel_rfl) (by kernel_rfl)
  refine Run_seq ?_
  refine Run_seq ?_
  obtain ⟨x1, hx1, hF⟩ := M.bind_some hF
  refine Run_reg 2 (by kernel_rfl) (L' := [(0, .slice aa_ a_.length ca_), (5, .bool x1)]) ?_ ?_
  · refine QRun_b [.slice aa_ a_.length ca_] 0 _ (by kernel_rfl) (fun w => by kernel_rfl) ?_
    refine QRun_y (.bool x1) (by kernel_rfl) (Y_callq (f := 138) (args := #[.slice aa_ a_.length ca_, .func (.func 154) #[] #[]]) (v := .bool x1) (by kernel_rfl) (w_slices_ContainsFunc_row_F_impl_checkedMatrix_1 h a_ aa_ ca_ ra_ _ _ hx1)) ?_
    exact QRun_done [0, 5] (by kernel_rfl) (by kernel_rfl)
  refine Run_cond (b := x1) (by kernel_rfl) (fun hb1 => ?_) (fun hb1 => ?_)
  · have hF := (M.ite_some hF).1 hb1
    refine Run_seq ?_
    refine Run_reg 2 (by kernel_rfl) (L' := [(2, .slice none 0 0), (3, .int .i64 3)]) ?_ ?_
    · refine QRun_b [.slice none 0 0, .int .i64 3] 0 _ (by kernel_rfl) (fun w => by kernel_rfl) ?_
      exact QRun_done [2, 3] (by kernel_rfl) (by kernel_rfl)
    have hF := M.ret_some hF
    subst hF
    exact Run_ret2 rfl (ResV_tmp (v := .slice none 0 0) (by kernel_rfl)) (ResV_tmp (v := .int .i64 3) (by kernel_rfl)) ⟨none, 0, rfl, .inr ⟨rfl, rfl, rfl⟩, H0⟩
  · have hF := (M.ite_some hF).2 hb1
    refine Run_skip ?_
    refine Run_seq ?_
    refine Run_reg 3 (by kernel_rfl) (L' := [(2, .slice aa_ a_.length ca_), (3, .int .i64 0)]) ?_ ?_
    · refine QRun_b [.slice aa_ a_.length ca_, .slice aa_ a_.length ca_, .int .i64 0] 0 _ (by kernel_rfl) (fun w => by kernel_rfl) ?_
      exact QRun_done [2, 3] (by kernel_rfl) (by kernel_rfl)
    have hF := M.ret_some hF
    subst hF
    exact Run_ret2 rfl (ResV_tmp (v := .slice aa_ a_.length ca_) (by kernel_rfl)) (ResV_tmp (v := .int .i64 0) (by kernel_rfl)) ⟨aa_, ca_, rfl, .inl ⟨rfl, rfl, rfl⟩, H0⟩

set_option maxRecDepth 100000 in
set_option maxHeartbeats 4000000 in
theorem w_impl_orbit_grow_B (h hE : Heap) (it : Item) (o : TOrbit) (bo : Nat) (aomatrix : Option Addr) (comatrix : Nat) (romatrix : Rd cd29 h (Lt h) aomatrix comatrix o.matrix) (aolist : Option Addr) (colist : Nat) (index : Int) (HM : Hold h hE [box bo 88 [.slice aomatrix o.matrix.length comatrix, .slice aolist o.list.length colist], own cd22 aolist o.list.length colist o.list, it]) (n : Nat) (r : Bool × TOrbit) (hF : impl_orbit_grow_B o index n = some r) :
    Fn Try.prog 79 #[.pointer (some ⟨bo, 0, none⟩), .int .i64 index] hE fun v h' => ∃ (a0 : Option Addr) (c0 : Nat), v = .bool r.1 ∧ Hold h h' [box bo 88 [.slice aomatrix o.matrix.length comatrix, .slice a0 r.2.list.length c0], own cd22 a0 r.2.list.length c0 r.2.list, it] := by
  unfold impl_orbit_grow_B at hF
  refine Fn_enter (args := [.pointer (some ⟨bo, 0, none⟩), .int .i64 index]) Try.func79 rfl (by kernel_rfl) (by kernel_rfl) (fun w0 _ => ?_)
  refine Run_seq ?_
  refine Run_reg 1 (by kernel_rfl) (L' := [(0, .pointer (some ⟨bo, 0, none⟩)), (1, .int .i64 index)]) ?_ ?_
  · refine QRun_b [.bool false] 0 _ (by kernel_rfl) (fun w => by kernel_rfl) ?_
    exact QRun_done [0, 1] (by kernel_rfl) (by kernel_rfl)
  refine Run_seq ?_
  obtain ⟨x1, gx1, hF⟩ := M.bind_some hF
  refine Run_join (fun L' h' => ∃ (s2 : (List (List (List Int)))) (a2 : Option Addr) (c2 : Nat), x1 = .inl s2 ∧ L' = [] ∧ Hold h h' [box bo 88 [.slice aomatrix o.matrix.length comatrix, .slice a2 s2.length c2], own cd22 a2 s2.length c2 s2, it]) ?_ ?_
  · rintro _ h2 ⟨s2, a2, c2, es2, rfl, H2⟩
    have hF := M.cont_inl' hF es2
    refine Run_seq ?_
    refine Run_reg 1 (by kernel_rfl) (L' := [(4, .bool true)]) ?_ ?_
    · refine QRun_b [.bool true] 0 _ (by kernel_rfl) (fun w => by kernel_rfl) ?_
      exact QRun_done [4] (by kernel_rfl) (by kernel_rfl)
    have hF := M.ret_some hF
    subst hF
    have H33 : Hold h h2 [own cd22 a2 s2.length c2 s2, box bo 88 [.slice aomatrix o.matrix.length comatrix, .slice a2 s2.length c2], it] := H2.pick [1, 0, 2] (by kernel_rfl)
    have H34 : Hold h h2 [box bo 88 [.slice aomatrix o.matrix.length comatrix, .slice a2 s2.length c2], own cd22 a2 s2.length c2 s2, it] := H33.pick [1, 0, 2] (by kernel_rfl)
    exact Run_ret1 rfl (ResV_tmp (v := .bool true) (by kernel_rfl)) ⟨a2, c2, rfl, H34⟩
  · refine Run_block ?_
    have H35 : Hold h hE [own cd22 aolist o.list.length colist o.list, box bo 88 [.slice aomatrix o.matrix.length comatrix, .slice aolist o.list.length colist], it] := HM.pick [1, 0, 2] (by kernel_rfl)
    have H36 : Hold h hE [box bo 88 [.slice aomatrix o.matrix.length comatrix, .slice aolist o.list.length colist], own cd22 aolist o.list.length colist o.list, it] := H35.pick [1, 0, 2] (by kernel_rfl)
    refine Run_keep [0, 1] (L' := [(0, .pointer (some ⟨bo, 0, none⟩)), (1, .int .i64 index)]) (by kernel_rfl) ?_
    refine Run_loop (fun m L' h' => ∃ (s1 : (List (List (List Int)))) (a1 : Option Addr) (c1 : Nat), M.loopN _ n m s1 = some x1 ∧ L' = [(0, .pointer (some ⟨bo, 0, none⟩)), (1, .int .i64 index)] ∧ Hold h h' [box bo 88 [.slice aomatrix o.matrix.length comatrix, .slice a1 s1.length c1], own cd22 a1 s1.length c1 s1, it]) n ⟨o.list, aolist, colist, gx1, rfl, H36⟩ ?_
    rintro my1 _ h1 ⟨s1, a1, c1, gx1, rfl, H1⟩
    obtain ⟨my1, y1, rfl, hB1, hgoy1, houty1⟩ := M.loop_some gx1
    refine Run_seq ?_
    refine Run_seq ?_
    refine Run_reg 7 (by kernel_rfl) (L' := [(0, .pointer (some ⟨bo, 0, none⟩)), (1, .int .i64 index), (13, .bool (decide ((s1.length : Int) ≤ index)))]) ?_ ?_
    · refine QRun_b [.pointer (some ⟨bo, 0, none⟩), .pointer (some ⟨bo, 0, none⟩), .pointer (some ⟨bo, 1, none⟩)] 0 _ (by kernel_rfl) (fun w => by kernel_rfl) ?_
      refine QRun_y (.slice a1 s1.length c1) (by kernel_rfl) (Y_load1 (t := 86) (p := ⟨bo, 1, none⟩) (v := .slice a1 s1.length c1) (by kernel_rfl) (fun w => by kernel_rfl) (H1.cell 0 rfl rfl)) ?_
      refine QRun_b [.int .i64 (s1.length : Int), .int .i64 index, .bool (decide ((s1.length : Int) ≤ index))] 4 _ (by kernel_rfl) (fun w => by kernel_rfl) ?_
      exact QRun_done [0, 1, 13] (by kernel_rfl) (by kernel_rfl)
    refine Run_cond (b := decide ((s1.length : Int) ≤ index)) (by kernel_rfl) (fun hb1 => ?_) (fun hb1 => ?_)
    · have hB1 := (M.ite_some hB1).1 hb1
      refine Run_skip ?_
      refine Run_block ?_
      refine Run_seq ?_
      obtain ⟨x2, hx1, hB1⟩ := M.bind_some hB1
      obtain ⟨hx1l, hx1u, hx1⟩ := M.idx_some hx1
      have H3 : Hold h h1 [own cd22 a1 s1.length c1 s1, box bo 88 [.slice aomatrix o.matrix.length comatrix, .slice a1 s1.length c1], it] := H1.pick [1, 0, 2] (by kernel_rfl)
      have H4 := H3.toRows
      obtain ⟨a3, c3, H5⟩ := H4.pinRow hx1
      have H6 : Hold h h1 [box bo 88 [.slice aomatrix o.matrix.length comatrix, .slice a1 s1.length c1], rowsP cd29 22 a1 s1.length c1 s1 [((w64 ((s1.length : Int) - 1)).toNat, a3, x2.length, c3, x2)], it] := H5.pick [1, 0, 2] (by kernel_rfl)
      refine Run_D (fun x => Hold h x [box bo 88 [.slice aomatrix o.matrix.length comatrix, .slice a1 s1.length c1], rowsP cd29 22 a1 s1.length c1 s1 [((w64 ((s1.length : Int) - 1)).toNat, a3, x2.length, c3, x2)], it]) (fun x => Hold h x [box bo 88 [.slice aomatrix o.matrix.length comatrix, .slice a1 s1.length c1], rowsP cd29 22 a1 s1.length c1 s1 [((w64 ((s1.length : Int) - 1)).toNat, a3, x2.length, c3, x2)], it]) mixed (by kernel_rfl) H6 Hold.stable (fun x Hy => (show Hold h x [box bo 88 [.slice aomatrix o.matrix.length comatrix, .slice a1 s1.length c1], rowsP cd29 22 a1 s1.length c1 s1 [((w64 ((s1.length : Int) - 1)).toNat, a3, x2.length, c3, x2)], it] from Hy).pick [0, 1, 2] (by kernel_rfl)) ?_
      refine DR_b 20 [.pointer (some ⟨bo, 0, none⟩), .pointer (some ⟨bo, 0, none⟩), .pointer (some ⟨bo, 0, none⟩)] 0 (by kernel_rfl) (by kernel_rfl) (by kernel_rfl) (fun w => by kernel_rfl) ?_
      refine DR_y 19 (i := 3) (.slice aomatrix o.matrix.length comatrix) (by kernel_rfl) (by kernel_rfl) (by kernel_rfl) (fun hx Hx => (YE.of (Y_load1 (t := 22) (p := ⟨bo, 0, none⟩) (v := .slice aomatrix o.matrix.length comatrix) (by kernel_rfl) (fun w => by kernel_rfl) (Hx.cell 0 rfl rfl)))) ?_
      refine DR_b 16 [.pointer (some ⟨bo, 0, none⟩), .pointer (some ⟨bo, 0, none⟩), .pointer (some ⟨bo, 1, none⟩)] 4 (by kernel_rfl) (by kernel_rfl) (by kernel_rfl) (fun w => by kernel_rfl) ?_
      refine DR_y 15 (i := 7) (.slice a1 s1.length c1) (by kernel_rfl) (by kernel_rfl) (by kernel_rfl) (fun hx Hx => (YE.of (Y_load1 (t := 86) (p := ⟨bo, 1, none⟩) (v := .slice a1 s1.length c1) (by kernel_rfl) (fun w => by kernel_rfl) (Hx.cell 0 rfl rfl)))) ?_
      refine DR_b 12 [.pointer (some ⟨bo, 0, none⟩), .pointer (some ⟨bo, 0, none⟩), .pointer (some ⟨bo, 1, none⟩)] 8 (by kernel_rfl) (by kernel_rfl) (by kernel_rfl) (fun w => by kernel_rfl) ?_
      refine DR_y 11 (i := 11) (.slice a1 s1.length c1) (by kernel_rfl) (by kernel_rfl) (by kernel_rfl) (fun hx Hx => (YE.of (Y_load1 (t := 86) (p := ⟨bo, 1, none⟩) (v := .slice a1 s1.length c1) (by kernel_rfl) (fun w => by kernel_rfl) (Hx.cell 0 rfl rfl)))) ?_
      refine DR_b 9 [.int .i64 (s1.length : Int), .int .i64 (w64 ((s1.length : Int) - 1))] 12 (by kernel_rfl) (by kernel_rfl) (by kernel_rfl) (fun w => by kernel_rfl) ?_
      refine DR_y 8 (i := 14) (.pointer (some (adr a1 ((w64 ((s1.length : Int) - 1)).toNat * 1)))) (by kernel_rfl) (by kernel_rfl) (by kernel_rfl) (fun hx Hx => (YE.of (Y_idx (t := 86) (e := 22) (sz := 1) (a := a1) (n := s1.length) (cap := c1) (kk := .i64) (i := w64 ((s1.length : Int) - 1)) (by kernel_rfl) Try.underlying86 (by kernel_rfl) ((H1.rd 1 rfl).cell hx1).1 hx1l hx1u))) ?_
      refine DR_y 7 (i := 15) (.slice a3 x2.length c3) (by kernel_rfl) (by kernel_rfl) (by kernel_rfl) (fun hx Hx => (YE.of (Y_load1 (t := 22) (p := adr a1 ((w64 ((s1.length : Int) - 1)).toNat * 1)) (v := .slice a3 x2.length c3) (by kernel_rfl) (fun w => by kernel_rfl) (Hx.cellPin 1 rfl 0 rfl)))) ?_
      refine DR_e 6 16 (by kernel_rfl) (by kernel_rfl) (by kernel_rfl) (fun h3 H7 => ?_)
      have H8 : Hold h h3 [box bo 88 [.slice aomatrix o.matrix.length comatrix, .slice a1 s1.length c1], rowsP cd29 22 a1 s1.length c1 s1 [((w64 ((s1.length : Int) - 1)).toNat, a3, x2.length, c3, x2)], it] := H7
      obtain ⟨x3, hx2, hB1⟩ := M.bind_some hB1
      refine E_call (f := 111) (args := #[.slice aomatrix o.matrix.length comatrix, .slice a3 x2.length c3]) (w_impl_multiply h3 o.matrix aomatrix comatrix (romatrix.at H8.ext) x2 a3 c3 (H8.rdPin 1 rfl 0 rfl) _ _ hx2) (by kernel_rfl) (fun v1 h4 hp1 => ?_)
      obtain ⟨a4, c4, rfl, H9⟩ := hp1
      have H10 : Hold h h4 [own cd29 a4 x3.length c4 x3, box bo 88 [.slice aomatrix o.matrix.length comatrix, .slice a1 s1.length c1], rowsP cd29 22 a1 s1.length c1 s1 [((w64 ((s1.length : Int) - 1)).toNat, a3, x2.length, c3, x2)], it] := H8.call H9 rfl
      refine ⟨fun x => Hold h x [box bo 88 [.slice aomatrix o.matrix.length comatrix, .slice a1 s1.length c1], rowsP cd29 22 a1 s1.length c1 s1 [((w64 ((s1.length : Int) - 1)).toNat, a3, x2.length, c3, x2)], it], fun x => Hold h x [own cd29 a4 x3.length c4 x3, box bo 88 [.slice aomatrix o.matrix.length comatrix, .slice a1 s1.length c1], rowsP cd29 22 a1 s1.length c1 s1 [((w64 ((s1.length : Int) - 1)).toNat, a3, x2.length, c3, x2)], it], H10, Hold.stable, fun x Hy => (show Hold h x [own cd29 a4 x3.length c4 x3, box bo 88 [.slice aomatrix o.matrix.length comatrix, .slice a1 s1.length c1], rowsP cd29 22 a1 s1.length c1 s1 [((w64 ((s1.length : Int) - 1)).toNat, a3, x2.length, c3, x2)], it] from Hy).pick [1, 2, 3] (by kernel_rfl), fun x Hy => (show Hold h x [box bo 88 [.slice aomatrix o.matrix.length comatrix, .slice a1 s1.length c1], rowsP cd29 22 a1 s1.length c1 s1 [((w64 ((s1.length : Int) - 1)).toNat, a3, x2.length, c3, x2)], it] from Hy).pick [0, 1, 2] (by kernel_rfl), ?_⟩
      refine DR_e 5 17 (by kernel_rfl) (by kernel_rfl) (by kernel_rfl) (fun h5 H11 => ?_)
      have H12 : Hold h h5 [own cd29 a4 x3.length c4 x3, box bo 88 [.slice aomatrix o.matrix.length comatrix, .slice a1 s1.length c1], rowsP cd29 22 a1 s1.length c1 s1 [((w64 ((s1.length : Int) - 1)).toNat, a3, x2.length, c3, x2)], it] := H11
      obtain ⟨x4, hx3, hB1⟩ := M.bind_some hB1
      refine E_call (f := 110) (args := #[.slice a4 x3.length c4]) (w_impl_checkedMatrix h5 x3 a4 c4 (H12.rd 0 rfl) _ _ hx3) (by kernel_rfl) (fun v2 h6 hp2 => ?_)
      obtain ⟨a5, c5, rfl, hd1, H13⟩ := hp2
      have H14 : Hold h h6 [own cd29 a4 x3.length c4 x3, box bo 88 [.slice aomatrix o.matrix.length comatrix, .slice a1 s1.length c1], rowsP cd29 22 a1 s1.length c1 s1 [((w64 ((s1.length : Int) - 1)).toNat, a3, x2.length, c3, x2)], it] := H12.call H13 rfl
      have H15 := H14.alias hd1
      refine ⟨fun x => Hold h x [box bo 88 [.slice aomatrix o.matrix.length comatrix, .slice a1 s1.length c1], rowsP cd29 22 a1 s1.length c1 s1 [((w64 ((s1.length : Int) - 1)).toNat, a3, x2.length, c3, x2)], it], fun x => Hold h x [own cd29 a5 x4.1.length c5 x4.1, box bo 88 [.slice aomatrix o.matrix.length comatrix, .slice a1 s1.length c1], rowsP cd29 22 a1 s1.length c1 s1 [((w64 ((s1.length : Int) - 1)).toNat, a3, x2.length, c3, x2)], it], H15, Hold.stable, fun x Hy => (show Hold h x [own cd29 a5 x4.1.length c5 x4.1, box bo 88 [.slice aomatrix o.matrix.length comatrix, .slice a1 s1.length c1], rowsP cd29 22 a1 s1.length c1 s1 [((w64 ((s1.length : Int) - 1)).toNat, a3, x2.length, c3, x2)], it] from Hy).pick [1, 2, 3] (by kernel_rfl), fun x Hy => (show Hold h x [box bo 88 [.slice aomatrix o.matrix.length comatrix, .slice a1 s1.length c1], rowsP cd29 22 a1 s1.length c1 s1 [((w64 ((s1.length : Int) - 1)).toNat, a3, x2.length, c3, x2)], it] from Hy).pick [0, 1, 2] (by kernel_rfl), ?_⟩
      refine DR_b 0 [.tuple #[.slice a5 x4.1.length c5, .int .i64 x4.2], .slice a5 x4.1.length c5, .int .i64 x4.2, .slice a5 x4.1.length c5, .int .i64 x4.2] 18 (by kernel_rfl) (by kernel_rfl) (by kernel_rfl) (fun w => by kernel_rfl) ?_
      refine DR_tail (i := 23) (by kernel_rfl) (by kernel_rfl) (by kernel_rfl) (fun h7 H16 => ?_)
      have H17 : Hold h h7 [own cd29 a5 x4.1.length c5 x4.1, box bo 88 [.slice aomatrix o.matrix.length comatrix, .slice a1 s1.length c1], rowsP cd29 22 a1 s1.length c1 s1 [((w64 ((s1.length : Int) - 1)).toNat, a3, x2.length, c3, x2)], it] := H16
      refine Run_nil (by kernel_rfl) ?_
      refine Run_keep [0, 1, 5, 6] (L' := [(0, .pointer (some ⟨bo, 0, none⟩)), (1, .int .i64 index), (5, .slice a5 x4.1.length c5), (6, .int .i64 x4.2)]) (by kernel_rfl) ?_
      refine Run_seq ?_
      refine Run_seq ?_
      refine Run_reg 2 (by kernel_rfl) (L' := [(0, .pointer (some ⟨bo, 0, none⟩)), (1, .int .i64 index), (5, .slice a5 x4.1.length c5), (36, .bool (x4.2 != 0))]) ?_ ?_
      · refine QRun_b [.int .i64 x4.2, .bool (x4.2 != 0)] 0 _ (by kernel_rfl) (fun w => by kernel_rfl) ?_
        exact QRun_done [0, 1, 5, 36] (by kernel_rfl) (by kernel_rfl)
      refine Run_cond (b := x4.2 != 0) (by kernel_rfl) (fun hb2 => ?_) (fun hb2 => ?_)
      · have hB1 := (M.ite_some hB1).1 hb2
        refine Run_seq ?_
        refine Run_reg 1 (by kernel_rfl) (L' := [(4, .bool false)]) ?_ ?_
        · refine QRun_b [.bool false] 0 _ (by kernel_rfl) (fun w => by kernel_rfl) ?_
          exact QRun_done [4] (by kernel_rfl) (by kernel_rfl)
        have hB1 := M.ret_some hB1
        have gx1 := houty1 _ hB1.symm
        have hF := M.cont_inr' hF gx1
        have hF := M.ret_some hF
        subst hF
        have H18 : Hold h h7 [rowsP cd29 22 a1 s1.length c1 s1 [((w64 ((s1.length : Int) - 1)).toNat, a3, x2.length, c3, x2)], own cd29 a5 x4.1.length c5 x4.1, box bo 88 [.slice aomatrix o.matrix.length comatrix, .slice a1 s1.length c1], it] := H17.pick [2, 0, 1, 3] (by kernel_rfl)
        have H19 := H18.ofRows
        have H20 : Hold h h7 [box bo 88 [.slice aomatrix o.matrix.length comatrix, .slice a1 s1.length c1], own cd22 a1 s1.length c1 s1, it] := H19.pick [2, 0, 3] (by kernel_rfl)
        exact Run_ret1 rfl (ResV_tmp (v := .bool false) (by kernel_rfl)) ⟨a1, c1, rfl, H20⟩
      · have hB1 := (M.ite_some hB1).2 hb2
        refine Run_skip ?_
        refine Run_ops ?_
        refine Run_b [.pointer (some ⟨bo, 0, none⟩), .pointer (some ⟨bo, 0, none⟩), .pointer (some ⟨bo, 0, none⟩), .pointer (some ⟨bo, 1, none⟩)] 0 _ (by kernel_rfl) (fun w => by kernel_rfl) ?_
        refine Run_y (.slice a1 s1.length c1) (by kernel_rfl) (Y_load1 (t := 86) (p := ⟨bo, 1, none⟩) (v := .slice a1 s1.length c1) (by kernel_rfl) (fun w => by kernel_rfl) (H17.cell 1 rfl rfl)) ?_
        refine Run_b [.slice a5 x4.1.length c5] 5 _ (by kernel_rfl) (fun w => by kernel_rfl) ?_
        refine Run_E (by kernel_rfl) ?_
        refine E_lit1 (ey := 22) (n := x4.1.length) H17 (fun w => by kernel_rfl) rfl (fun a6 h8 H21 => ?_)
        obtain ⟨l1, hl1, hB1⟩ := M.bind_some hB1
        have hl1 := M.app_some hl1
        have H22 : Hold h h8 [rowsP cd29 22 a1 s1.length c1 s1 [((w64 ((s1.length : Int) - 1)).toNat, a3, x2.length, c3, x2)], own cd22 a6 1 1 [x4.1], box bo 88 [.slice aomatrix o.matrix.length comatrix, .slice a1 s1.length c1], it] := H21.pick [2, 0, 1, 3] (by kernel_rfl)
        have H23 := H22.ofRows
        have H24 : Hold h h8 [own cd22 a6 1 1 [x4.1], own cd22 a1 s1.length c1 s1, box bo 88 [.slice aomatrix o.matrix.length comatrix, .slice a1 s1.length c1], it] := H23.pick [1, 0, 2, 3] (by kernel_rfl)
        have H25 : Hold h h8 [own cd22 a1 s1.length c1 s1, own cd22 a6 1 1 [x4.1], box bo 88 [.slice aomatrix o.matrix.length comatrix, .slice a1 s1.length c1], it] := H24.pick [1, 0, 2, 3] (by kernel_rfl)
        refine Run_E (by kernel_rfl) ?_
        refine E_app (C := cd22) (t := 86) (ty := 86) (n := s1.length) (m := 1) H25 cd22_ti rfl Try.underlying86 (by decide) (by kernel_rfl) hl1 (fun a7 c6 h9 H26 => ?_)
        refine Run_b [.pointer (some ⟨bo, 0, none⟩), .pointer (some ⟨bo, 1, none⟩)] 8 _ (by kernel_rfl) (fun w => by kernel_rfl) ?_
        have H28 : Hold h h9 [box bo 88 [.slice aomatrix o.matrix.length comatrix, .slice a1 s1.length c1], own cd22 a7 l1.length c6 l1, it] := H26.pick [1, 0, 2] (by kernel_rfl)
        refine Run_E (by kernel_rfl) ?_
        refine E_bput (t := 86) (off := 1) (us := [.slice aomatrix o.matrix.length comatrix, .slice a7 l1.length c6]) (v := .slice a7 l1.length c6) H28 (by kernel_rfl) (by kernel_rfl) rfl (by kernel_rfl) rfl (fun h10 H27 => ?_)
        refine Run_nil (by kernel_rfl) ?_
        refine Run_keep [0, 1] (L' := [(0, .pointer (some ⟨bo, 0, none⟩)), (1, .int .i64 index)]) (by kernel_rfl) ?_
        refine Run_blk ?_
        have H29 : Hold h h10 [own cd22 a7 l1.length c6 l1, box bo 88 [.slice aomatrix o.matrix.length comatrix, .slice a7 l1.length c6], it] := H27.pick [1, 0, 2] (by kernel_rfl)
        have H30 : Hold h h10 [box bo 88 [.slice aomatrix o.matrix.length comatrix, .slice a7 l1.length c6], own cd22 a7 l1.length c6 l1, it] := H29.pick [1, 0, 2] (by kernel_rfl)
        have hB1 := M.ret_some hB1
        have gx1 := hgoy1 _ hB1.symm
        exact Run_again [0, 1] (by kernel_rfl) my1 (Nat.lt_succ_self _) ⟨l1, a7, c6, gx1, rfl, H30⟩
    · have hB1 := (M.ite_some hB1).2 hb1
      refine Run_exit (k' := _) rfl ?_
      have H31 : Hold h h1 [own cd22 a1 s1.length c1 s1, box bo 88 [.slice aomatrix o.matrix.length comatrix, .slice a1 s1.length c1], it] := H1.pick [1, 0, 2] (by kernel_rfl)
      have H32 : Hold h h1 [box bo 88 [.slice aomatrix o.matrix.length comatrix, .slice a1 s1.length c1], own cd22 a1 s1.length c1 s1, it] := H31.pick [1, 0, 2] (by kernel_rfl)
      have hB1 := M.ret_some hB1
      have gx1 := houty1 _ hB1.symm
      subst gx1
      exact Run_fall [] (by kernel_rfl) ⟨s1, a1, c1, rfl, rfl, H32⟩

set_option maxRecDepth 100000 in
set_option maxHeartbeats 4000000 in
theorem w_impl_OrbitOf (h : Heap) (a_ : List (List Int)) (aa_ : Option Addr) (ca_ : Nat) (ra_ : Rd cd29 h (Lt h) aa_ ca_ a_) (x_ : List Int) (ax_ : Option Addr) (cx_ : Nat) (rx_ : Rd cd2 h (Lt h) ax_ cx_ x_) (n_ : Int) (n : Nat) (r : (List (List Int)) × Int) (hF : impl_OrbitOf a_ x_ n_ n = some r) :
    Fn Try.prog 22 #[.slice aa_ a_.length ca_, .slice ax_ x_.length cx_, .int .i64 n_] h fun v h' => ∃ (a0 : Option Addr) (c0 : Nat), v = .tuple #[.slice a0 r.1.length c0, .int .i64 r.2] ∧ Hold h h' [own cd29 a0 r.1.length c0 r.1] := by
  unfold impl_OrbitOf at hF
  refine Fn_enter (args := [.slice aa_ a_.length ca_, .slice ax_ x_.length cx_, .int .i64 n_]) Try.func22 rfl (by kernel_rfl) (by kernel_rfl) (fun w0 _ => ?_)
  have H0 := Hold.init h
  refine Run_seq ?_
  refine Run_reg 2 (by kernel_rfl) (L' := [(0, .slice aa_ a_.length ca_), (1, .slice ax_ x_.length cx_), (2, .int .i64 n_)]) ?_ ?_
  · refine QRun_b [.slice none 0 0, .int .i64 0] 0 _ (by kernel_rfl) (fun w => by kernel_rfl) ?_
    exact QRun_done [0, 1, 2] (by kernel_rfl) (by kernel_rfl)
  refine Run_seq ?_
  refine Run_seq ?_
  obtain ⟨x1, hx1, hF⟩ := M.bind_some hF
  refine Run_regC (j := 4) (C := fun x => Hold h x []) (by kernel_rfl) H0 (L' := [(0, .slice aa_ a_.length ca_), (1, .slice ax_ x_.length cx_), (2, .int .i64 n_), (8, .int .i64 x1)]) ?_ (fun h1 H1 => ?_)
  · refine QRun_b [.slice aa_ a_.length ca_, .slice ax_ x_.length cx_] 0 _ (by kernel_rfl) (fun w => by kernel_rfl) ?_
    refine QRun_y (.int .i64 x1) (by kernel_rfl) (Y_call (f := 84) (args := #[.slice aa_ a_.length ca_, .slice ax_ x_.length cx_]) (v := .int .i64 x1) (by kernel_rfl) fun hx Hx => (w_impl_checkOrbit hx a_ aa_ ca_ (ra_.at Hx.ext) x_ ax_ cx_ (rx_.at Hx.ext) _ _ hx1).mono fun _ _ ⟨e, H'⟩ => ⟨e, Hx.call H' rfl⟩) ?_
    refine QRun_b [.int .i64 x1] 3 _ (by kernel_rfl) (fun w => by kernel_rfl) ?_
    exact QRun_done [0, 1, 2, 8] (by kernel_rfl) (by kernel_rfl)
  have H2 : Hold h h1 [] := H1
  refine Run_seq ?_
  refine Run_reg 2 (by kernel_rfl) (L' := [(0, .slice aa_ a_.length ca_), (1, .slice ax_ x_.length cx_), (2, .int .i64 n_), (8, .int .i64 x1), (17, .bool (x1 != 0))]) ?_ ?_
  · refine QRun_b [.int .i64 x1, .bool (x1 != 0)] 0 _ (by kernel_rfl) (fun w => by kernel_rfl) ?_
    exact QRun_done [0, 1, 2, 8, 17] (by kernel_rfl) (by kernel_rfl)
  refine Run_cond (b := x1 != 0) (by kernel_rfl) (fun hb1 => ?_) (fun hb1 => ?_)
  · have hF := (M.ite_some hF).1 hb1
    refine Run_seq ?_
    refine Run_reg 3 (by kernel_rfl) (L' := [(6, .slice none 0 0), (7, .int .i64 x1)]) ?_ ?_
    · refine QRun_b [.int .i64 x1, .slice none 0 0, .int .i64 x1] 0 _ (by kernel_rfl) (fun w => by kernel_rfl) ?_
      exact QRun_done [6, 7] (by kernel_rfl) (by kernel_rfl)
    have hF := M.ret_some hF
    subst hF
    have H3 := H2.empty cd29
    exact Run_ret2 rfl (ResV_tmp (v := .slice none 0 0) (by kernel_rfl)) (ResV_tmp (v := .int .i64 x1) (by kernel_rfl)) ⟨none, 0, rfl, H3⟩
  · have hF := (M.ite_some hF).2 hb1
    refine Run_skip ?_
    refine Run_seq ?_
    refine Run_seq ?_
    obtain ⟨x2, hx2, hF⟩ := M.bind_some hF
    refine Run_reg 3 (by kernel_rfl) (L' := [(0, .slice aa_ a_.length ca_), (1, .slice ax_ x_.length cx_), (2, .int .i64 n_), (21, .bool (!x2))]) ?_ ?_
    · refine QRun_b [.int .i64 n_] 0 _ (by kernel_rfl) (fun w => by kernel_rfl) ?_
      refine QRun_y (.bool x2) (by kernel_rfl) (Y_callq (f := 76) (args := #[.int .i64 n_, .int .i64 0, .int .i64 100]) (v := .bool x2) (by kernel_rfl) (w_impl_within h1 n_ 0 100 _ _ hx2)) ?_
      refine QRun_b [.bool (!x2)] 2 _ (by kernel_rfl) (fun w => by kernel_rfl) ?_
      exact QRun_done [0, 1, 2, 21] (by kernel_rfl) (by kernel_rfl)
    refine Run_cond (b := !x2) (by kernel_rfl) (fun hb2 => ?_) (fun hb2 => ?_)
    · have hF := (M.ite_some hF).1 hb2
      refine Run_seq ?_
      refine Run_reg 2 (by kernel_rfl) (L' := [(6, .slice none 0 0), (7, .int .i64 2)]) ?_ ?_
      · refine QRun_b [.slice none 0 0, .int .i64 2] 0 _ (by kernel_rfl) (fun w => by kernel_rfl) ?_
        exact QRun_done [6, 7] (by kernel_rfl) (by kernel_rfl)
      have hF := M.ret_some hF
      subst hF
      have H4 := H2.empty cd29
      exact Run_ret2 rfl (ResV_tmp (v := .slice none 0 0) (by kernel_rfl)) (ResV_tmp (v := .int .i64 2) (by kernel_rfl)) ⟨none, 0, rfl, H4⟩
    · have hF := (M.ite_some hF).2 hb2
      refine Run_skip ?_
      refine Run_seq ?_
      refine Run_ops ?_
      refine Run_b [.slice aa_ a_.length ca_, .slice ax_ x_.length cx_] 0 _ (by kernel_rfl) (fun w => by kernel_rfl) ?_
      obtain ⟨x3, hx3, hF⟩ := M.bind_some hF
      refine Run_E (by kernel_rfl) ?_
      refine E_call (f := 85) (args := #[.slice aa_ a_.length ca_, .slice ax_ x_.length cx_]) (w_impl_vectorOrbit h1 a_ aa_ ca_ (ra_.at H2.ext) x_ ax_ cx_ (rx_.at H2.ext) _ _ hx3) (by kernel_rfl) (fun v1 h2 hp1 => ?_)
      obtain ⟨b1, a1, c1, a2, c2, rfl, hd1, H5⟩ := hp1
      have H6 : Hold h h2 [box b1 88 [.slice a1 x3.matrix.length c1, .slice a2 x3.list.length c2], own cd22 a2 x3.list.length c2 x3.list] := H2.call H5 rfl
      have r1 := ra_.alias hd1
      refine Run_b [.pointer (some ⟨b1, 0, none⟩)] 3 _ (by kernel_rfl) (fun w => by kernel_rfl) ?_
      refine Run_nil (by kernel_rfl) ?_
      refine Run_keep [2, 9] (L' := [(2, .int .i64 n_), (9, .pointer (some ⟨b1, 0, none⟩))]) (by kernel_rfl) ?_
      refine Run_seq ?_
      refine Run_seq ?_
      refine Run_ops ?_
      refine Run_b [.pointer (some ⟨b1, 0, none⟩), .int .i64 n_] 0 _ (by kernel_rfl) (fun w => by kernel_rfl) ?_
      obtain ⟨x4, hx4, hF⟩ := M.bind_some hF
      have H7 : Hold h h2 [own cd22 a2 x3.list.length c2 x3.list, box b1 88 [.slice a1 x3.matrix.length c1, .slice a2 x3.list.length c2]] := H6.pick [1, 0] (by kernel_rfl)
      have H8 : Hold h h2 [box b1 88 [.slice a1 x3.matrix.length c1, .slice a2 x3.list.length c2], own cd22 a2 x3.list.length c2 x3.list] := H7.pick [1, 0] (by kernel_rfl)
      have H9 : Hold h h2 [box b1 88 [.slice a1 x3.matrix.length c1, .slice a2 x3.list.length c2], own cd22 a2 x3.list.length c2 x3.list, bun []] := Hold.bundle (S := [box b1 88 [.slice a1 x3.matrix.length c1, .slice a2 x3.list.length c2], own cd22 a2 x3.list.length c2 x3.list]) (R := []) H8
      refine Run_E (by kernel_rfl) ?_
      refine E_call (f := 79) (args := #[.pointer (some ⟨b1, 0, none⟩), .int .i64 n_]) (w_impl_orbit_grow_B h h2 _ x3 b1 a1 c1 r1 a2 c2 n_ H9 _ _ hx4) (by kernel_rfl) (fun v2 h3 hp2 => ?_)
      obtain ⟨a3, c3, rfl, H10⟩ := hp2
      have H11 : Hold h h3 [box b1 88 [.slice a1 x3.matrix.length c1, .slice a3 x4.2.list.length c3], own cd22 a3 x4.2.list.length c3 x4.2.list] := Hold.unbundle (S := [box b1 88 [.slice a1 x3.matrix.length c1, .slice a3 x4.2.list.length c3], own cd22 a3 x4.2.list.length c3 x4.2.list]) (R := []) H10 (Hold.tailBase (S := [box b1 88 [.slice a1 x3.matrix.length c1, .slice a2 x3.list.length c2], own cd22 a2 x3.list.length c2 x3.list]) (R := []) H8)
      refine Run_b [.bool (!x4.1)] 3 _ (by kernel_rfl) (fun w => by kernel_rfl) ?_
      refine Run_nil (by kernel_rfl) ?_
      refine Run_keep [2, 9, 28] (L' := [(2, .int .i64 n_), (9, .pointer (some ⟨b1, 0, none⟩)), (28, .bool (!x4.1))]) (by kernel_rfl) ?_
      refine Run_cond (b := !x4.1) (by kernel_rfl) (fun hb3 => ?_) (fun hb3 => ?_)
      · have hF := (M.ite_some hF).1 hb3
        refine Run_seq ?_
        refine Run_reg 2 (by kernel_rfl) (L' := [(6, .slice none 0 0), (7, .int .i64 3)]) ?_ ?_
        · refine QRun_b [.slice none 0 0, .int .i64 3] 0 _ (by kernel_rfl) (fun w => by kernel_rfl) ?_
          exact QRun_done [6, 7] (by kernel_rfl) (by kernel_rfl)
        have hF := M.ret_some hF
        subst hF
        have H12 := H11.empty cd29
        have H13 : Hold h h3 [own cd29 none 0 0 []] := H12.pick [0] (by kernel_rfl)
        exact Run_ret2 rfl (ResV_tmp (v := .slice none 0 0) (by kernel_rfl)) (ResV_tmp (v := .int .i64 3) (by kernel_rfl)) ⟨none, 0, rfl, H13⟩
      · have hF := (M.ite_some hF).2 hb3
        refine Run_skip ?_
        refine Run_seq ?_
        refine Run_reg 1 (by kernel_rfl) (L' := [(2, .int .i64 n_), (9, .pointer (some ⟨b1, 0, none⟩)), (10, .slice none 0 0)]) ?_ ?_
        · refine QRun_b [.slice none 0 0] 0 _ (by kernel_rfl) (fun w => by kernel_rfl) ?_
          exact QRun_done [2, 9, 10] (by kernel_rfl) (by kernel_rfl)
        refine Run_seq ?_
        refine Run_seq ?_
        obtain ⟨x5, hx5, hF⟩ := M.bind_some hF
        obtain ⟨hx5a, hx5b, hx5c, hx5d⟩ := M.sub_some hx5
        have hn1 : x5.length = (w64 (n_ + 1)).toNat - (0 : Int).toNat := by rw [hx5d, List.length_take, List.length_drop]; omega
        refine Run_reg 9 (by kernel_rfl) (L' := [(10, .slice none 0 0), (35, .slice (sliceA a3 c3 0 1) ((w64 (n_ + 1)).toNat - (0 : Int).toNat) (c3 - 0)), (36, .int .i64 (((w64 (n_ + 1)).toNat - (0 : Int).toNat : Nat) : Int)), (37, .int .i64 0)]) ?_ ?_
        · refine QRun_b [.pointer (some ⟨b1, 0, none⟩), .pointer (some ⟨b1, 0, none⟩), .pointer (some ⟨b1, 1, none⟩)] 0 _ (by kernel_rfl) (fun w => by kernel_rfl) ?_
          refine QRun_y (.slice a3 x4.2.list.length c3) (by kernel_rfl) (Y_load1 (t := 86) (p := ⟨b1, 1, none⟩) (v := .slice a3 x4.2.list.length c3) (by kernel_rfl) (fun w => by kernel_rfl) (H11.cell 0 rfl rfl)) ?_
          refine QRun_b [.int .i64 n_, .int .i64 (w64 (n_ + 1))] 4 _ (by kernel_rfl) (fun w => by kernel_rfl) ?_
          refine QRun_y (.slice (sliceA a3 c3 0 1) ((w64 (n_ + 1)).toNat - (0 : Int).toNat) (c3 - 0)) (by kernel_rfl) (Y_slice (t := 86) (e := 22) (sz := 1) (a := a3) (n := x4.2.list.length) (cap := c3) (lo := none) (hi := (some (.i64, w64 (n_ + 1)))) (x := 0) (y := w64 (n_ + 1)) (by kernel_rfl) Try.underlying86 (by kernel_rfl) (H11.rd 1 rfl).fits rfl rfl hx5a hx5b hx5c) ?_
          refine QRun_b [.int .i64 (((w64 (n_ + 1)).toNat - (0 : Int).toNat : Nat) : Int), .int .i64 0] 7 _ (by kernel_rfl) (fun w => by kernel_rfl) ?_
          exact QRun_done [10, 35, 36, 37] (by kernel_rfl) (by kernel_rfl)
        obtain ⟨x6, gx6, hF⟩ := M.bind_some hF
        obtain ⟨hloy1, hhiy1, gx6⟩ := M.for_start gx6
        refine Run_join (fun L' h' => ∃ (a5 : Option Addr) (c5 : Nat), L' = [(10, .slice a5 x6.length c5)] ∧ Hold h h' [own cd29 a5 x6.length c5 x6]) ?_ ?_
        · rintro _ h5 ⟨a5, c5, rfl, H15⟩
          refine Run_seq ?_
          refine Run_reg 3 (by kernel_rfl) (L' := [(6, .slice a5 x6.length c5), (7, .int .i64 0)]) ?_ ?_
          · refine QRun_b [.slice a5 x6.length c5, .slice a5 x6.length c5, .int .i64 0] 0 _ (by kernel_rfl) (fun w => by kernel_rfl) ?_
            exact QRun_done [6, 7] (by kernel_rfl) (by kernel_rfl)
          have hF := M.ret_some hF
          subst hF
          exact Run_ret2 rfl (ResV_tmp (v := .slice a5 x6.length c5) (by kernel_rfl)) (ResV_tmp (v := .int .i64 0) (by kernel_rfl)) ⟨a5, c5, rfl, H15⟩
        · refine Run_block ?_
          have H26 := H11.empty cd29
          have H27 : Hold h h3 [own cd29 none 0 0 [], own cd22 a3 x4.2.list.length c3 x4.2.list] := H26.pick [0, 2] (by kernel_rfl)
          refine Run_keep [10, 35, 36, 37] (L' := [(10, .slice none 0 0), (35, .slice (sliceA a3 c3 0 1) ((w64 (n_ + 1)).toNat - (0 : Int).toNat) (c3 - 0)), (36, .int .i64 (((w64 (n_ + 1)).toNat - (0 : Int).toNat : Nat) : Int)), (37, .int .i64 0)]) (by kernel_rfl) ?_
          refine Run_loop (fun m L' h' => ∃ (i1 : Int) (s1 : (List (List Int))) (a4 : Option Addr) (c4 : Nat), 0 ≤ i1 ∧ M.forN (((w64 (n_ + 1)).toNat - (0 : Int).toNat : Nat) : Int) _ _ n m i1 s1 = some x6 ∧ L' = [(10, .slice a4 s1.length c4), (35, .slice (sliceA a3 c3 0 1) ((w64 (n_ + 1)).toNat - (0 : Int).toNat) (c3 - 0)), (36, .int .i64 (((w64 (n_ + 1)).toNat - (0 : Int).toNat : Nat) : Int)), (37, .int .i64 i1)] ∧ Hold h h' [own cd29 a4 s1.length c4 s1, own cd22 a3 x4.2.list.length c3 x4.2.list]) ((((w64 (n_ + 1)).toNat - (0 : Int).toNat : Nat) : Int) - 0 : Int).toNat ⟨0, [], none, 0, Int.le_refl _, gx6, rfl, H27⟩ ?_
          rintro my1 _ h4 ⟨i1, s1, a4, c4, hloy1', gx6, rfl, H14⟩
          refine Run_seq ?_
          refine Run_reg 1 (by kernel_rfl) (L' := [(10, .slice a4 s1.length c4), (35, .slice (sliceA a3 c3 0 1) ((w64 (n_ + 1)).toNat - (0 : Int).toNat) (c3 - 0)), (36, .int .i64 (((w64 (n_ + 1)).toNat - (0 : Int).toNat : Nat) : Int)), (37, .int .i64 i1), (38, .bool (decide (i1 < (((w64 (n_ + 1)).toNat - (0 : Int).toNat : Nat) : Int))))]) ?_ ?_
          · refine QRun_b [.bool (decide (i1 < (((w64 (n_ + 1)).toNat - (0 : Int).toNat : Nat) : Int)))] 0 _ (by kernel_rfl) (fun w => by kernel_rfl) ?_
            exact QRun_done [10, 35, 36, 37, 38] (by kernel_rfl) (by kernel_rfl)
          refine Run_seq ?_
          refine Run_cond (b := decide (i1 < (((w64 (n_ + 1)).toNat - (0 : Int).toNat : Nat) : Int))) (by kernel_rfl) (fun hb4 => ?_) (fun hb4 => ?_)
          · obtain ⟨my1, y1, rfl, hB1, hgoy1, houty1⟩ := M.for_go gx6 hb4
            have hlty1 := of_decide_eq_true hb4
            refine Run_skip ?_
            refine Run_seq ?_
            refine Run_block ?_
            refine Run_seq ?_
            obtain ⟨x7, hx6, hB1⟩ := M.bind_some hB1
            obtain ⟨hx6l, hx6u, hx6⟩ := M.idx_some hx6
            obtain ⟨a6, c6, hc1, r2⟩ := (show Rd _ _ _ _ _ x5 from hx5d ▸ ((H14.rd 1 rfl)).sub (by omega) (by omega)).row hx6
            refine Run_reg 3 (by kernel_rfl) (L' := [(10, .slice a4 s1.length c4), (12, .slice a6 x7.length c6), (35, .slice (sliceA a3 c3 0 1) ((w64 (n_ + 1)).toNat - (0 : Int).toNat) (c3 - 0)), (36, .int .i64 (((w64 (n_ + 1)).toNat - (0 : Int).toNat : Nat) : Int)), (37, .int .i64 i1)]) ?_ ?_
            · refine QRun_y (.pointer (some (adr (sliceA a3 c3 0 1) (i1.toNat * 1)))) (by kernel_rfl) (Y_idx (t := 86) (e := 22) (sz := 1) (a := sliceA a3 c3 0 1) (n := (w64 (n_ + 1)).toNat - (0 : Int).toNat) (cap := c3 - 0) (kk := .i64) (i := i1) (by kernel_rfl) Try.underlying86 (by kernel_rfl) ((show Rd _ _ _ _ _ x5 from hx5d ▸ ((H14.rd 1 rfl)).sub (by omega) (by omega)).cell hx6).1 hx6l (by rw [← hn1]; exact hx6u)) ?_
              refine QRun_y (.slice a6 x7.length c6) (by kernel_rfl) (Y_load1 (t := 22) (p := adr (sliceA a3 c3 0 1) (i1.toNat * 1)) (v := .slice a6 x7.length c6) (by kernel_rfl) (fun w => by kernel_rfl) hc1) ?_
              refine QRun_b [.slice a6 x7.length c6] 2 _ (by kernel_rfl) (fun w => by kernel_rfl) ?_
              exact QRun_done [10, 12, 35, 36, 37] (by kernel_rfl) (by kernel_rfl)
            refine Run_ops ?_
            refine Run_b [.slice a4 s1.length c4, .slice a6 x7.length c6] 0 _ (by kernel_rfl) (fun w => by kernel_rfl) ?_
            obtain ⟨x8, hx7, hB1⟩ := M.bind_some hB1
            refine Run_E (by kernel_rfl) ?_
            refine E_call (f := 86) (args := #[.slice a6 x7.length c6]) (w_impl_transposed h4 x7 a6 c6 r2 _ _ hx7) (by kernel_rfl) (fun v3 h6 hp3 => ?_)
            obtain ⟨a7, c7, rfl, H16⟩ := hp3
            have H17 : Hold h h6 [own cd29 a7 x8.length c7 x8, own cd29 a4 s1.length c4 s1, own cd22 a3 x4.2.list.length c3 x4.2.list] := H14.call H16 rfl
            obtain ⟨x9, hx8, hB1⟩ := M.bind_some hB1
            obtain ⟨hx8l, hx8u, hx8⟩ := M.idx_some hx8
            obtain ⟨a8, c8, hc2, H18⟩ := H17.takeRow hx8
            refine Run_y (.pointer (some (adr a7 (0 * 1)))) (by kernel_rfl) (Y_idx (t := 22) (e := 29) (sz := 1) (a := a7) (n := x8.length) (cap := c7) (kk := .i64) (i := 0) (by kernel_rfl) Try.underlying22 (by kernel_rfl) ((H17.rd 0 rfl).cell hx8).1 hx8l hx8u) ?_
            refine Run_y (.slice a8 x9.length c8) (by kernel_rfl) (Y_load1 (t := 29) (p := adr a7 (0 * 1)) (v := .slice a8 x9.length c8) (by kernel_rfl) (fun w => by kernel_rfl) hc2) ?_
            refine Run_E (by kernel_rfl) ?_
            refine E_lit1 (ey := 29) (n := x9.length) H18 (fun w => by kernel_rfl) rfl (fun a9 h7 H19 => ?_)
            obtain ⟨l1, hl1, hB1⟩ := M.bind_some hB1
            have hl1 := M.app_some hl1
            have H20 : Hold h h7 [own cd29 a4 s1.length c4 s1, own cd29 a9 1 1 [x9], rest cd2 29 a7 x8.length c7 x8 0 a8 x9.length c8, own cd22 a3 x4.2.list.length c3 x4.2.list] := H19.pick [2, 0, 1, 3] (by kernel_rfl)
            have H21 : Hold h h7 [own cd29 a9 1 1 [x9], own cd29 a4 s1.length c4 s1, rest cd2 29 a7 x8.length c7 x8 0 a8 x9.length c8, own cd22 a3 x4.2.list.length c3 x4.2.list] := H20.pick [1, 0, 2, 3] (by kernel_rfl)
            have H22 : Hold h h7 [own cd29 a4 s1.length c4 s1, own cd29 a9 1 1 [x9], rest cd2 29 a7 x8.length c7 x8 0 a8 x9.length c8, own cd22 a3 x4.2.list.length c3 x4.2.list] := H21.pick [1, 0, 2, 3] (by kernel_rfl)
            refine Run_E (by kernel_rfl) ?_
            refine E_app (C := cd29) (t := 22) (ty := 22) (n := s1.length) (m := 1) H22 cd29_ti rfl Try.underlying22 (by decide) (by kernel_rfl) hl1 (fun a10 c9 h8 H23 => ?_)
            refine Run_b [.slice a10 l1.length c9] 7 _ (by kernel_rfl) (fun w => by kernel_rfl) ?_
            refine Run_nil (by kernel_rfl) ?_
            refine Run_keep [10, 35, 36, 37] (L' := [(10, .slice a10 l1.length c9), (35, .slice (sliceA a3 c3 0 1) ((w64 (n_ + 1)).toNat - (0 : Int).toNat) (c3 - 0)), (36, .int .i64 (((w64 (n_ + 1)).toNat - (0 : Int).toNat : Nat) : Int)), (37, .int .i64 i1)]) (by kernel_rfl) ?_
            refine Run_blk ?_
            refine Run_reg 2 (by kernel_rfl) (L' := [(10, .slice a10 l1.length c9), (35, .slice (sliceA a3 c3 0 1) ((w64 (n_ + 1)).toNat - (0 : Int).toNat) (c3 - 0)), (36, .int .i64 (((w64 (n_ + 1)).toNat - (0 : Int).toNat : Nat) : Int)), (37, .int .i64 (i1 + 1))]) ?_ ?_
            · refine QRun_y (.int .i64 (i1 + 1)) (by kernel_rfl) (Y_eq (v := .int .i64 (w64 (i1 + 1))) (Y_pure (fun w => by kernel_rfl)) (by rw [w64_eq _ (by omega)])) ?_
              refine QRun_b [.int .i64 (i1 + 1)] 1 _ (by kernel_rfl) (fun w => by kernel_rfl) ?_
              exact QRun_done [10, 35, 36, 37] (by kernel_rfl) (by kernel_rfl)
            have H24 : Hold h h8 [own cd29 a10 l1.length c9 l1, own cd22 a3 x4.2.list.length c3 x4.2.list] := H23.pick [0, 2] (by kernel_rfl)
            have hB1 := M.ret_some hB1
            have gx6 := hgoy1 _ hB1.symm
            exact Run_again [10, 35, 36, 37] (by kernel_rfl) my1 (Nat.lt_succ_self _) ⟨i1 + 1, l1, a10, c9, by omega, gx6, rfl, H24⟩
          · have gx6 := M.for_end gx6 hb4
            subst gx6
            refine Run_exit (k' := _) rfl ?_
            have H25 : Hold h h4 [own cd29 a4 s1.length c4 s1] := H14.pick [0] (by kernel_rfl)
            exact Run_fall [10] (by kernel_rfl) ⟨a4, c4, rfl, H25⟩

set_option maxRecDepth 100000 in
set_option maxHeartbeats 4000000 in
theorem w_laws_eqInt64S (h : Heap) (a_ : List Int) {Sa_ : Bs} (aa_ : Option Addr) (ca_ : Nat) (ra_ : Rd cd2 h Sa_ aa_ ca_ a_) (b : List Int) {Sb : Bs} (ab : Option Addr) (cb : Nat) (rb : Rd cd2 h Sb ab cb b) (n : Nat) (r : Bool) (hF : laws_eqInt64S a_ b n = some r) :
    Fn Try.prog 23 #[.slice aa_ a_.length ca_, .slice ab b.length cb] h fun v h' => v = .bool r ∧ h' = h := by
  unfold laws_eqInt64S at hF
  refine Fn_enter (args := [.slice aa_ a_.length ca_, .slice ab b.length cb]) Try.func23 rfl (by kernel_rfl) (by kernel_rfl) (fun w0 _ => ?_)
  refine Run_seq ?_
  refine Run_reg 1 (by kernel_rfl) (L' := [(0, .slice aa_ a_.length ca_), (1, .slice ab b.length cb)]) ?_ ?_
  · refine QRun_b [.bool false] 0 _ (by kernel_rfl) (fun w => by kernel_rfl) ?_
    exact QRun_done [0, 1] (by kernel_rfl) (by kernel_rfl)
  refine Run_seq ?_
  refine Run_seq ?_
  refine Run_reg 5 (by kernel_rfl) (L' := [(0, .slice aa_ a_.length ca_), (1, .slice ab b.length cb), (10, .bool ((a_.length : Int) != (b.length : Int)))]) ?_ ?_
  · refine QRun_b [.slice aa_ a_.length ca_, .int .i64 (a_.length : Int), .slice ab b.length cb, .int .i64 (b.length : Int), .bool ((a_.length : Int) != (b.length : Int))] 0 _ (by kernel_rfl) (fun w => by kernel_rfl) ?_
    exact QRun_done [0, 1, 10] (by kernel_rfl) (by kernel_rfl)
  refine Run_cond (b := (a_.length : Int) != (b.length : Int)) (by kernel_rfl) (fun hb1 => ?_) (fun hb1 => ?_)
  · have hF := (M.ite_some hF).1 hb1
    refine Run_seq ?_
    refine Run_reg 1 (by kernel_rfl) (L' := [(4, .bool false)]) ?_ ?_
    · refine QRun_b [.bool false] 0 _ (by kernel_rfl) (fun w => by kernel_rfl) ?_
      exact QRun_done [4] (by kernel_rfl) (by kernel_rfl)
    have hF := M.ret_some hF
    subst hF
    exact Run_ret1 rfl (ResV_tmp (v := .bool false) (by kernel_rfl)) ⟨rfl, rfl⟩
  · have hF := (M.ite_some hF).2 hb1
    refine Run_skip ?_
    refine Run_seq ?_
    refine Run_seq ?_
    refine Run_reg 1 (by kernel_rfl) (L' := [(0, .slice aa_ a_.length ca_), (1, .slice ab b.length cb), (5, .int .i64 0)]) ?_ ?_
    · refine QRun_b [.int .i64 0] 0 _ (by kernel_rfl) (fun w => by kernel_rfl) ?_
      exact QRun_done [0, 1, 5] (by kernel_rfl) (by kernel_rfl)
    obtain ⟨x1, gx1, hF⟩ := M.bind_some hF
    obtain ⟨hloy1, hhiy1, gx1⟩ := M.for_start gx1
    refine Run_join (fun L' h' => ∃ (s2 : Unit), x1 = .inl s2 ∧ L' = [] ∧ h = h') ?_ ?_
    · rintro _ _ ⟨s2, es2, rfl, rfl⟩
      have hF := M.cont_inl' hF es2
      refine Run_seq ?_
      refine Run_reg 1 (by kernel_rfl) (L' := [(4, .bool true)]) ?_ ?_
      · refine QRun_b [.bool true] 0 _ (by kernel_rfl) (fun w => by kernel_rfl) ?_
        exact QRun_done [4] (by kernel_rfl) (by kernel_rfl)
      have hF := M.ret_some hF
      subst hF
      exact Run_ret1 rfl (ResV_tmp (v := .bool true) (by kernel_rfl)) ⟨rfl, rfl⟩
    · refine Run_block ?_
      refine Run_keep [0, 1, 5] (L' := [(0, .slice aa_ a_.length ca_), (1, .slice ab b.length cb), (5, .int .i64 0)]) (by kernel_rfl) ?_
      refine Run_loop (fun m L' h' => ∃ (i1 : Int) (s1 : Unit), 0 ≤ i1 ∧ M.forN (a_.length : Int) _ _ n m i1 s1 = some x1 ∧ L' = [(0, .slice aa_ a_.length ca_), (1, .slice ab b.length cb), (5, .int .i64 i1)] ∧ h = h') ((a_.length : Int) - 0 : Int).toNat ⟨0, (), Int.le_refl _, gx1, rfl, rfl⟩ ?_
      rintro my1 _ _ ⟨i1, s1, hloy1', gx1, rfl, rfl⟩
      refine Run_seq ?_
      refine Run_seq ?_
      refine Run_reg 4 (by kernel_rfl) (L' := [(0, .slice aa_ a_.length ca_), (1, .slice ab b.length cb), (5, .int .i64 i1), (14, .bool (decide (i1 < (a_.length : Int))))]) ?_ ?_
      · refine QRun_b [.int .i64 i1, .slice aa_ a_.length ca_, .int .i64 (a_.length : Int), .bool (decide (i1 < (a_.length : Int)))] 0 _ (by kernel_rfl) (fun w => by kernel_rfl) ?_
        exact QRun_done [0, 1, 5, 14] (by kernel_rfl) (by kernel_rfl)
      refine Run_cond (b := decide (i1 < (a_.length : Int))) (by kernel_rfl) (fun hb2 => ?_) (fun hb2 => ?_)
      · obtain ⟨my1, y1, rfl, hB1, hgoy1, houty1⟩ := M.for_go gx1 hb2
        have hlty1 := of_decide_eq_true hb2
        refine Run_skip ?_
        refine Run_seq ?_
        refine Run_block ?_
        refine Run_seq ?_
        obtain ⟨x2, hx1, hB1⟩ := M.bind_some hB1
        obtain ⟨hx1l, hx1u, hx1⟩ := M.idx_some hx1
        obtain ⟨x3, hx2, hB1⟩ := M.bind_some hB1
        obtain ⟨hx2l, hx2u, hx2⟩ := M.idx_some hx2
        refine Run_draw 9 mixed (by kernel_rfl) (by kernel_rfl) (L' := [(0, .slice aa_ a_.length ca_), (1, .slice ab b.length cb), (5, .int .i64 i1), (25, .bool (x2 != x3))]) ?_ ?_
        · refine QRun_b [.slice aa_ a_.length ca_, .int .i64 i1] 0 _ (by kernel_rfl) (fun w => by kernel_rfl) ?_
          refine QRun_y (.pointer (some (adr aa_ (i1.toNat * 1)))) (by kernel_rfl) (Y_idx (t := 29) (e := 2) (sz := 1) (a := aa_) (n := a_.length) (cap := ca_) (kk := .i64) (i := i1) (by kernel_rfl) Try.underlying29 (by kernel_rfl) (ra_.cell hx1).1 hx1l hx1u) ?_
          refine QRun_y (.int .i64 x2) (by kernel_rfl) (Y_load1 (t := 2) (p := adr aa_ (i1.toNat * 1)) (v := .int .i64 x2) (by kernel_rfl) (fun w => by kernel_rfl) (cd2_cell ra_ hx1)) ?_
          refine QRun_b [.slice ab b.length cb, .int .i64 i1] 4 _ (by kernel_rfl) (fun w => by kernel_rfl) ?_
          refine QRun_y (.pointer (some (adr ab (i1.toNat * 1)))) (by kernel_rfl) (Y_idx (t := 29) (e := 2) (sz := 1) (a := ab) (n := b.length) (cap := cb) (kk := .i64) (i := i1) (by kernel_rfl) Try.underlying29 (by kernel_rfl) (rb.cell hx2).1 hx2l hx2u) ?_
          refine QRun_y (.int .i64 x3) (by kernel_rfl) (Y_load1 (t := 2) (p := adr ab (i1.toNat * 1)) (v := .int .i64 x3) (by kernel_rfl) (fun w => by kernel_rfl) (cd2_cell rb hx2)) ?_
          refine QRun_b [.bool (x2 != x3)] 8 _ (by kernel_rfl) (fun w => by kernel_rfl) ?_
          exact QRun_done [0, 1, 5, 25] (by kernel_rfl) (by kernel_rfl)
        refine Run_cond (b := x2 != x3) (by kernel_rfl) (fun hb3 => ?_) (fun hb3 => ?_)
        · have hB1 := (M.ite_some hB1).1 hb3
          refine Run_seq ?_
          refine Run_reg 1 (by kernel_rfl) (L' := [(4, .bool false)]) ?_ ?_
          · refine QRun_b [.bool false] 0 _ (by kernel_rfl) (fun w => by kernel_rfl) ?_
            exact QRun_done [4] (by kernel_rfl) (by kernel_rfl)
          have hB1 := M.ret_some hB1
          have gx1 := houty1 _ hB1.symm
          have hF := M.cont_inr' hF gx1
          have hF := M.ret_some hF
          subst hF
          exact Run_ret1 rfl (ResV_tmp (v := .bool false) (by kernel_rfl)) ⟨rfl, rfl⟩
        · have hB1 := (M.ite_some hB1).2 hb3
          refine Run_skip ?_
          refine Run_blk ?_
          refine Run_reg 3 (by kernel_rfl) (L' := [(0, .slice aa_ a_.length ca_), (1, .slice ab b.length cb), (5, .int .i64 (i1 + 1))]) ?_ ?_
          · refine QRun_b [.int .i64 i1] 0 _ (by kernel_rfl) (fun w => by kernel_rfl) ?_
            refine QRun_y (.int .i64 (i1 + 1)) (by kernel_rfl) (Y_eq (v := .int .i64 (w64 (i1 + 1))) (Y_pure (fun w => by kernel_rfl)) (by rw [w64_eq _ (by omega)])) ?_
            refine QRun_b [.int .i64 (i1 + 1)] 2 _ (by kernel_rfl) (fun w => by kernel_rfl) ?_
            exact QRun_done [0, 1, 5] (by kernel_rfl) (by kernel_rfl)
          have hB1 := M.ret_some hB1
          have gx1 := hgoy1 _ hB1.symm
          exact Run_again [0, 1, 5] (by kernel_rfl) my1 (Nat.lt_succ_self _) ⟨i1 + 1, (), by omega, gx1, rfl, rfl⟩
      · have gx1 := M.for_end gx1 hb2
        subst gx1
        refine Run_exit (k' := _) rfl ?_
        exact Run_fall [] (by kernel_rfl) ⟨(), rfl, rfl, rfl⟩

set_option maxRecDepth 100000 in
set_option maxHeartbeats 4000000 in
theorem w_laws_eqInt64SS (h : Heap) (a_ : List (List Int)) {Sa_ : Bs} (aa_ : Option Addr) (ca_ : Nat) (ra_ : Rd cd29 h Sa_ aa_ ca_ a_) (b : List (List Int)) {Sb : Bs} (ab : Option Addr) (cb : Nat) (rb : Rd cd29 h Sb ab cb b) (n : Nat) (r : Bool) (hF : laws_eqInt64SS a_ b n = some r) :
    Fn Try.prog 19 #[.slice aa_ a_.length ca_, .slice ab b.length cb] h fun v h' => v = .bool r ∧ h' = h := by
  unfold laws_eqInt64SS at hF
  refine Fn_enter (args := [.slice aa_ a_.length ca_, .slice ab b.length cb]) Try.func19 rfl (by kernel_rfl) (by kernel_rfl) (fun w0 _ => ?_)
  refine Run_seq ?_
  refine Run_reg 1 (by kernel_rfl) (L' := [(0, .slice aa_ a_.length ca_), (1, .slice ab b.length cb)]) ?_ ?_
  · refine QRun_b [.bool false] 0 _ (by kernel_rfl) (fun w => by kernel_rfl) ?_
    exact QRun_done [0, 1] (by kernel_rfl) (by kernel_rfl)
  refine Run_seq ?_
  refine Run_seq ?_
  refine Run_reg 5 (by kernel_rfl) (L' := [(0, .slice aa_ a_.length ca_), (1, .slice ab b.length cb), (10, .bool ((a_.length : Int) != (b.length : Int)))]) ?_ ?_
  · refine QRun_b [.slice aa_ a_.length ca_, .int .i64 (a_.length : Int), .slice ab b.length cb, .int .i64 (b.length : Int), .bool ((a_.length : Int) != (b.length : Int))] 0 _ (by kernel_rfl) (fun w => by kernel_rfl) ?_
    exact QRun_done [0, 1, 10] (by kernel_rfl) (by kernel_rfl)
  refine Run_cond (b := (a_.length : Int) != (b.length : Int)) (by kernel_rfl) (fun hb1 => ?_) (fun hb1 => ?_)
  · have hF := (M.ite_some hF).1 hb1
    refine Run_seq ?_
    refine Run_reg 1 (by kernel_rfl) (L' := [(4, .bool false)]) ?_ ?_
    · refine QRun_b [.bool false] 0 _ (by kernel_rfl) (fun w => by kernel_rfl) ?_
      exact QRun_done [4] (by kernel_rfl) (by kernel_rfl)
    have hF := M.ret_some hF
    subst hF
    exact Run_ret1 rfl (ResV_tmp (v := .bool false) (by kernel_rfl)) ⟨rfl, rfl⟩
  · have hF := (M.ite_some hF).2 hb1
    refine Run_skip ?_
    refine Run_seq ?_
    refine Run_seq ?_
    refine Run_reg 1 (by kernel_rfl) (L' := [(0, .slice aa_ a_.length ca_), (1, .slice ab b.length cb), (5, .int .i64 0)]) ?_ ?_
    · refine QRun_b [.int .i64 0] 0 _ (by kernel_rfl) (fun w => by kernel_rfl) ?_
      exact QRun_done [0, 1, 5] (by kernel_rfl) (by kernel_rfl)
    obtain ⟨x1, gx1, hF⟩ := M.bind_some hF
    obtain ⟨hloy1, hhiy1, gx1⟩ := M.for_start gx1
    refine Run_join (fun L' h' => ∃ (s2 : Unit), x1 = .inl s2 ∧ L' = [] ∧ h = h') ?_ ?_
    · rintro _ _ ⟨s2, es2, rfl, rfl⟩
      have hF := M.cont_inl' hF es2
      refine Run_seq ?_
      refine Run_reg 1 (by kernel_rfl) (L' := [(4, .bool true)]) ?_ ?_
      · refine QRun_b [.bool true] 0 _ (by kernel_rfl) (fun w => by kernel_rfl) ?_
        exact QRun_done [4] (by kernel_rfl) (by kernel_rfl)
      have hF := M.ret_some hF
      subst hF
      exact Run_ret1 rfl (ResV_tmp (v := .bool true) (by kernel_rfl)) ⟨rfl, rfl⟩
    · refine Run_block ?_
      refine Run_keep [0, 1, 5] (L' := [(0, .slice aa_ a_.length ca_), (1, .slice ab b.length cb), (5, .int .i64 0)]) (by kernel_rfl) ?_
      refine Run_loop (fun m L' h' => ∃ (i1 : Int) (s1 : Unit), 0 ≤ i1 ∧ M.forN (a_.length : Int) _ _ n m i1 s1 = some x1 ∧ L' = [(0, .slice aa_ a_.length ca_), (1, .slice ab b.length cb), (5, .int .i64 i1)] ∧ h = h') ((a_.length : Int) - 0 : Int).toNat ⟨0, (), Int.le_refl _, gx1, rfl, rfl⟩ ?_
      rintro my1 _ _ ⟨i1, s1, hloy1', gx1, rfl, rfl⟩
      refine Run_seq ?_
      refine Run_seq ?_
      refine Run_reg 4 (by kernel_rfl) (L' := [(0, .slice aa_ a_.length ca_), (1, .slice ab b.length cb), (5, .int .i64 i1), (14, .bool (decide (i1 < (a_.length : Int))))]) ?_ ?_
      · refine QRun_b [.int .i64 i1, .slice aa_ a_.length ca_, .int .i64 (a_.length : Int), .bool (decide (i1 < (a_.length : Int)))] 0 _ (by kernel_rfl) (fun w => by kernel_rfl) ?_
        exact QRun_done [0, 1, 5, 14] (by kernel_rfl) (by kernel_rfl)
      refine Run_cond (b := decide (i1 < (a_.length : Int))) (by kernel_rfl) (fun hb2 => ?_) (fun hb2 => ?_)
      · obtain ⟨my1, y1, rfl, hB1, hgoy1, houty1⟩ := M.for_go gx1 hb2
        have hlty1 := of_decide_eq_true hb2
        refine Run_skip ?_
        refine Run_seq ?_
        refine Run_block ?_
        refine Run_seq ?_
        obtain ⟨x2, hx1, hB1⟩ := M.bind_some hB1
        obtain ⟨hx1l, hx1u, hx1⟩ := M.idx_some hx1
        obtain ⟨a1, c1, hc1, r1⟩ := ra_.row hx1
        obtain ⟨x3, hx2, hB1⟩ := M.bind_some hB1
        obtain ⟨hx2l, hx2u, hx2⟩ := M.idx_some hx2
        obtain ⟨a2, c2, hc2, r2⟩ := rb.row hx2
        obtain ⟨x4, hx3, hB1⟩ := M.bind_some hB1
        refine Run_draw 10 mixed (by kernel_rfl) (by kernel_rfl) (L' := [(0, .slice aa_ a_.length ca_), (1, .slice ab b.length cb), (5, .int .i64 i1), (26, .bool (!x4))]) ?_ ?_
        · refine QRun_b [.slice aa_ a_.length ca_, .int .i64 i1] 0 _ (by kernel_rfl) (fun w => by kernel_rfl) ?_
          refine QRun_y (.pointer (some (adr aa_ (i1.toNat * 1)))) (by kernel_rfl) (Y_idx (t := 22) (e := 29) (sz := 1) (a := aa_) (n := a_.length) (cap := ca_) (kk := .i64) (i := i1) (by kernel_rfl) Try.underlying22 (by kernel_rfl) (ra_.cell hx1).1 hx1l hx1u) ?_
          refine QRun_y (.slice a1 x2.length c1) (by kernel_rfl) (Y_load1 (t := 29) (p := adr aa_ (i1.toNat * 1)) (v := .slice a1 x2.length c1) (by kernel_rfl) (fun w => by kernel_rfl) hc1) ?_
          refine QRun_b [.slice ab b.length cb, .int .i64 i1] 4 _ (by kernel_rfl) (fun w => by kernel_rfl) ?_
          refine QRun_y (.pointer (some (adr ab (i1.toNat * 1)))) (by kernel_rfl) (Y_idx (t := 22) (e := 29) (sz := 1) (a := ab) (n := b.length) (cap := cb) (kk := .i64) (i := i1) (by kernel_rfl) Try.underlying22 (by kernel_rfl) (rb.cell hx2).1 hx2l hx2u) ?_
          refine QRun_y (.slice a2 x3.length c2) (by kernel_rfl) (Y_load1 (t := 29) (p := adr ab (i1.toNat * 1)) (v := .slice a2 x3.length c2) (by kernel_rfl) (fun w => by kernel_rfl) hc2) ?_
          refine QRun_y (.bool x4) (by kernel_rfl) (Y_callq (f := 23) (args := #[.slice a1 x2.length c1, .slice a2 x3.length c2]) (v := .bool x4) (by kernel_rfl) (w_laws_eqInt64S h x2 a1 c1 r1 x3 a2 c2 r2 _ _ hx3)) ?_
          refine QRun_b [.bool (!x4)] 9 _ (by kernel_rfl) (fun w => by kernel_rfl) ?_
          exact QRun_done [0, 1, 5, 26] (by kernel_rfl) (by kernel_rfl)
        refine Run_cond (b := !x4) (by kernel_rfl) (fun hb3 => ?_) (fun hb3 => ?_)
        · have hB1 := (M.ite_some hB1).1 hb3
          refine Run_seq ?_
          refine Run_reg 1 (by kernel_rfl) (L' := [(4, .bool false)]) ?_ ?_
          · refine QRun_b [.bool false] 0 _ (by kernel_rfl) (fun w => by kernel_rfl) ?_
            exact QRun_done [4] (by kernel_rfl) (by kernel_rfl)
          have hB1 := M.ret_some hB1
          have gx1 := houty1 _ hB1.symm
          have hF := M.cont_inr' hF gx1
          have hF := M.ret_some hF
          subst hF
          exact Run_ret1 rfl (ResV_tmp (v := .bool false) (by kernel_rfl)) ⟨rfl, rfl⟩
        · have hB1 := (M.ite_some hB1).2 hb3
          refine Run_skip ?_
          refine Run_blk ?_
          refine Run_reg 3 (by kernel_rfl) (L' := [(0, .slice aa_ a_.length ca_), (1, .slice ab b.length cb), (5, .int .i64 (i1 + 1))]) ?_ ?_
          · refine QRun_b [.int .i64 i1] 0 _ (by kernel_rfl) (fun w => by kernel_rfl) ?_
            refine QRun_y (.int .i64 (i1 + 1)) (by kernel_rfl) (Y_eq (v := .int .i64 (w64 (i1 + 1))) (Y_pure (fun w => by kernel_rfl)) (by rw [w64_eq _ (by omega)])) ?_
            refine QRun_b [.int .i64 (i1 + 1)] 2 _ (by kernel_rfl) (fun w => by kernel_rfl) ?_
            exact QRun_done [0, 1, 5] (by kernel_rfl) (by kernel_rfl)
          have hB1 := M.ret_some hB1
          have gx1 := hgoy1 _ hB1.symm
          exact Run_again [0, 1, 5] (by kernel_rfl) my1 (Nat.lt_succ_self _) ⟨i1 + 1, (), by omega, gx1, rfl, rfl⟩
      · have gx1 := M.for_end gx1 hb2
        subst gx1
        refine Run_exit (k' := _) rfl ?_
        exact Run_fall [] (by kernel_rfl) ⟨(), rfl, rfl, rfl⟩

set_option maxRecDepth 100000 in
set_option maxHeartbeats 4000000 in
theorem w_laws_heldInt64S (h : Heap) (a_ : List Int) {Sa_ : Bs} (aa_ : Option Addr) (ca_ : Nat) (ra_ : Rd cd2 h Sa_ aa_ ca_ a_) (k_ : Int) (n : Nat) (r : Int) (hF : laws_heldInt64S a_ k_ n = some r) :
    Fn Try.prog 35 #[.slice aa_ a_.length ca_, .int .i64 k_] h fun v h' => v = .int .i64 r ∧ h' = h := by
  unfold laws_heldInt64S at hF
  refine Fn_enter (args := [.slice aa_ a_.length ca_, .int .i64 k_]) Try.func35 rfl (by kernel_rfl) (by kernel_rfl) (fun w0 _ => ?_)
  refine Run_seq ?_
  refine Run_reg 1 (by kernel_rfl) (L' := [(0, .slice aa_ a_.length ca_), (1, .int .i64 k_)]) ?_ ?_
  · refine QRun_b [.int .i64 0] 0 _ (by kernel_rfl) (fun w => by kernel_rfl) ?_
    exact QRun_done [0, 1] (by kernel_rfl) (by kernel_rfl)
  refine Run_seq ?_
  refine Run_seq ?_
  refine Run_reg 1 (by kernel_rfl) (L' := [(0, .slice aa_ a_.length ca_), (1, .int .i64 k_), (5, .int .i64 0)]) ?_ ?_
  · refine QRun_b [.int .i64 0] 0 _ (by kernel_rfl) (fun w => by kernel_rfl) ?_
    exact QRun_done [0, 1, 5] (by kernel_rfl) (by kernel_rfl)
  obtain ⟨x1, gx1, hF⟩ := M.bind_some hF
  obtain ⟨hloy1, hhiy1, gx1⟩ := M.for_start gx1
  refine Run_join (fun L' h' => ∃ (s2 : Int), x1 = .inl s2 ∧ L' = [(1, .int .i64 s2)] ∧ h = h') ?_ ?_
  · rintro _ _ ⟨s2, es2, rfl, rfl⟩
    have hF := M.cont_inl' hF es2
    refine Run_seq ?_
    refine Run_reg 2 (by kernel_rfl) (L' := [(4, .int .i64 s2)]) ?_ ?_
    · refine QRun_b [.int .i64 s2, .int .i64 s2] 0 _ (by kernel_rfl) (fun w => by kernel_rfl) ?_
      exact QRun_done [4] (by kernel_rfl) (by kernel_rfl)
    have hF := M.ret_some hF
    subst hF
    exact Run_ret1 rfl (ResV_tmp (v := .int .i64 s2) (by kernel_rfl)) ⟨rfl, rfl⟩
  · refine Run_block ?_
    refine Run_keep [0, 1, 5] (L' := [(0, .slice aa_ a_.length ca_), (1, .int .i64 k_), (5, .int .i64 0)]) (by kernel_rfl) ?_
    refine Run_loop (fun m L' h' => ∃ (i1 : Int) (s1 : Int), 0 ≤ i1 ∧ M.forN (a_.length : Int) _ _ n m i1 s1 = some x1 ∧ L' = [(0, .slice aa_ a_.length ca_), (1, .int .i64 s1), (5, .int .i64 i1)] ∧ h = h') ((a_.length : Int) - 0 : Int).toNat ⟨0, k_, Int.le_refl _, gx1, rfl, rfl⟩ ?_
    rintro my1 _ _ ⟨i1, s1, hloy1', gx1, rfl, rfl⟩
    refine Run_seq ?_
    refine Run_seq ?_
    refine Run_reg 4 (by kernel_rfl) (L' := [(0, .slice aa_ a_.length ca_), (1, .int .i64 s1), (5, .int .i64 i1), (9, .bool (decide (i1 < (a_.length : Int))))]) ?_ ?_
    · refine QRun_b [.int .i64 i1, .slice aa_ a_.length ca_, .int .i64 (a_.length : Int), .bool (decide (i1 < (a_.length : Int)))] 0 _ (by kernel_rfl) (fun w => by kernel_rfl) ?_
      exact QRun_done [0, 1, 5, 9] (by kernel_rfl) (by kernel_rfl)
    refine Run_cond (b := decide (i1 < (a_.length : Int))) (by kernel_rfl) (fun hb1 => ?_) (fun hb1 => ?_)
    · obtain ⟨my1, y1, rfl, hB1, hgoy1, houty1⟩ := M.for_go gx1 hb1
      have hlty1 := of_decide_eq_true hb1
      refine Run_skip ?_
      refine Run_seq ?_
      refine Run_block ?_
      refine Run_seq ?_
      refine Run_seq ?_
      obtain ⟨x2, hx1, hB1⟩ := M.bind_some hB1
      obtain ⟨hx1l, hx1u, hx1⟩ := M.idx_some hx1
      refine Run_reg 6 (by kernel_rfl) (L' := [(0, .slice aa_ a_.length ca_), (1, .int .i64 s1), (5, .int .i64 i1), (17, .bool (x2 != s1))]) ?_ ?_
      · refine QRun_b [.slice aa_ a_.length ca_, .int .i64 i1] 0 _ (by kernel_rfl) (fun w => by kernel_rfl) ?_
        refine QRun_y (.pointer (some (adr aa_ (i1.toNat * 1)))) (by kernel_rfl) (Y_idx (t := 29) (e := 2) (sz := 1) (a := aa_) (n := a_.length) (cap := ca_) (kk := .i64) (i := i1) (by kernel_rfl) Try.underlying29 (by kernel_rfl) (ra_.cell hx1).1 hx1l hx1u) ?_
        refine QRun_y (.int .i64 x2) (by kernel_rfl) (Y_load1 (t := 2) (p := adr aa_ (i1.toNat * 1)) (v := .int .i64 x2) (by kernel_rfl) (fun w => by kernel_rfl) (cd2_cell ra_ hx1)) ?_
        refine QRun_b [.int .i64 s1, .bool (x2 != s1)] 4 _ (by kernel_rfl) (fun w => by kernel_rfl) ?_
        exact QRun_done [0, 1, 5, 17] (by kernel_rfl) (by kernel_rfl)
      refine Run_cond (b := x2 != s1) (by kernel_rfl) (fun hb2 => ?_) (fun hb2 => ?_)
      · have hB1 := (M.ite_some hB1).1 hb2
        refine Run_seq ?_
        refine Run_reg 1 (by kernel_rfl) (L' := [(4, .int .i64 (-1))]) ?_ ?_
        · refine QRun_b [.int .i64 (-1)] 0 _ (by kernel_rfl) (fun w => by kernel_rfl) ?_
          exact QRun_done [4] (by kernel_rfl) (by kernel_rfl)
        have hB1 := M.ret_some hB1
        have gx1 := houty1 _ hB1.symm
        have hF := M.cont_inr' hF gx1
        have hF := M.ret_some hF
        subst hF
        exact Run_ret1 rfl (ResV_tmp (v := .int .i64 (-1)) (by kernel_rfl)) ⟨rfl, rfl⟩
      · have hB1 := (M.ite_some hB1).2 hb2
        refine Run_skip ?_
        refine Run_reg 3 (by kernel_rfl) (L' := [(0, .slice aa_ a_.length ca_), (1, .int .i64 (w64 (s1 + 1))), (5, .int .i64 i1)]) ?_ ?_
        · refine QRun_b [.int .i64 s1, .int .i64 (w64 (s1 + 1)), .int .i64 (w64 (s1 + 1))] 0 _ (by kernel_rfl) (fun w => by kernel_rfl) ?_
          exact QRun_done [0, 1, 5] (by kernel_rfl) (by kernel_rfl)
        refine Run_blk ?_
        refine Run_reg 3 (by kernel_rfl) (L' := [(0, .slice aa_ a_.length ca_), (1, .int .i64 (w64 (s1 + 1))), (5, .int .i64 (i1 + 1))]) ?_ ?_
        · refine QRun_b [.int .i64 i1] 0 _ (by kernel_rfl) (fun w => by kernel_rfl) ?_
          refine QRun_y (.int .i64 (i1 + 1)) (by kernel_rfl) (Y_eq (v := .int .i64 (w64 (i1 + 1))) (Y_pure (fun w => by kernel_rfl)) (by rw [w64_eq _ (by omega)])) ?_
          refine QRun_b [.int .i64 (i1 + 1)] 2 _ (by kernel_rfl) (fun w => by kernel_rfl) ?_
          exact QRun_done [0, 1, 5] (by kernel_rfl) (by kernel_rfl)
        have hB1 := M.ret_some hB1
        have gx1 := hgoy1 _ hB1.symm
        exact Run_again [0, 1, 5] (by kernel_rfl) my1 (Nat.lt_succ_self _) ⟨i1 + 1, (w64 (s1 + 1)), by omega, gx1, rfl, rfl⟩
    · have gx1 := M.for_end gx1 hb1
      subst gx1
      refine Run_exit (k' := _) rfl ?_
      exact Run_fall [1] (by kernel_rfl) ⟨s1, rfl, rfl, rfl⟩

set_option maxRecDepth 100000 in
set_option maxHeartbeats 4000000 in
theorem w_laws_heldInt64SS (h : Heap) (a_ : List (List Int)) {Sa_ : Bs} (aa_ : Option Addr) (ca_ : Nat) (ra_ : Rd cd29 h Sa_ aa_ ca_ a_) (k_ : Int) (n : Nat) (r : Int) (hF : laws_heldInt64SS a_ k_ n = some r) :
    Fn Try.prog 26 #[.slice aa_ a_.length ca_, .int .i64 k_] h fun v h' => v = .int .i64 r ∧ h' = h := by
  unfold laws_heldInt64SS at hF
  refine Fn_enter (args := [.slice aa_ a_.length ca_, .int .i64 k_]) Try.func26 rfl (by kernel_rfl) (by kernel_rfl) (fun w0 _ => ?_)
  refine Run_seq ?_
  refine Run_reg 1 (by kernel_rfl) (L' := [(0, .slice aa_ a_.length ca_), (1, .int .i64 k_)]) ?_ ?_
  · refine QRun_b [.int .i64 0] 0 _ (by kernel_rfl) (fun w => by kernel_rfl) ?_
    exact QRun_done [0, 1] (by kernel_rfl) (by kernel_rfl)
  refine Run_seq ?_
  refine Run_seq ?_
  refine Run_reg 1 (by kernel_rfl) (L' := [(0, .slice aa_ a_.length ca_), (1, .int .i64 k_), (5, .int .i64 0)]) ?_ ?_
  · refine QRun_b [.int .i64 0] 0 _ (by kernel_rfl) (fun w => by kernel_rfl) ?_
    exact QRun_done [0, 1, 5] (by kernel_rfl) (by kernel_rfl)
  obtain ⟨x1, gx1, hF⟩ := M.bind_some hF
  obtain ⟨hloy1, hhiy1, gx1⟩ := M.for_start gx1
  refine Run_join (fun L' h' => ∃ (s2 : Int), x1 = .inl s2 ∧ L' = [(1, .int .i64 s2)] ∧ h = h') ?_ ?_
  · rintro _ _ ⟨s2, es2, rfl, rfl⟩
    have hF := M.cont_inl' hF es2
    refine Run_seq ?_
    refine Run_reg 2 (by kernel_rfl) (L' := [(4, .int .i64 s2)]) ?_ ?_
    · refine QRun_b [.int .i64 s2, .int .i64 s2] 0 _ (by kernel_rfl) (fun w => by kernel_rfl) ?_
      exact QRun_done [4] (by kernel_rfl) (by kernel_rfl)
    have hF := M.ret_some hF
    subst hF
    exact Run_ret1 rfl (ResV_tmp (v := .int .i64 s2) (by kernel_rfl)) ⟨rfl, rfl⟩
  · refine Run_block ?_
    refine Run_keep [0, 1, 5] (L' := [(0, .slice aa_ a_.length ca_), (1, .int .i64 k_), (5, .int .i64 0)]) (by kernel_rfl) ?_
    refine Run_loop (fun m L' h' => ∃ (i1 : Int) (s1 : Int), 0 ≤ i1 ∧ M.forN (a_.length : Int) _ _ n m i1 s1 = some x1 ∧ L' = [(0, .slice aa_ a_.length ca_), (1, .int .i64 s1), (5, .int .i64 i1)] ∧ h = h') ((a_.length : Int) - 0 : Int).toNat ⟨0, k_, Int.le_refl _, gx1, rfl, rfl⟩ ?_
    rintro my1 _ _ ⟨i1, s1, hloy1', gx1, rfl, rfl⟩
    refine Run_seq ?_
    refine Run_seq ?_
    refine Run_reg 4 (by kernel_rfl) (L' := [(0, .slice aa_ a_.length ca_), (1, .int .i64 s1), (5, .int .i64 i1), (9, .bool (decide (i1 < (a_.length : Int))))]) ?_ ?_
    · refine QRun_b [.int .i64 i1, .slice aa_ a_.length ca_, .int .i64 (a_.length : Int), .bool (decide (i1 < (a_.length : Int)))] 0 _ (by kernel_rfl) (fun w => by kernel_rfl) ?_
      exact QRun_done [0, 1, 5, 9] (by kernel_rfl) (by kernel_rfl)
    refine Run_cond (b := decide (i1 < (a_.length : Int))) (by kernel_rfl) (fun hb1 => ?_) (fun hb1 => ?_)
    · obtain ⟨my1, y1, rfl, hB1, hgoy1, houty1⟩ := M.for_go gx1 hb1
      have hlty1 := of_decide_eq_true hb1
      refine Run_skip ?_
      refine Run_seq ?_
      refine Run_block ?_
      refine Run_seq ?_
      obtain ⟨x2, hx1, hB1⟩ := M.bind_some hB1
      obtain ⟨hx1l, hx1u, hx1⟩ := M.idx_some hx1
      obtain ⟨a1, c1, hc1, r1⟩ := ra_.row hx1
      obtain ⟨x3, hx2, hB1⟩ := M.bind_some hB1
      refine Run_reg 7 (by kernel_rfl) (L' := [(0, .slice aa_ a_.length ca_), (1, .int .i64 x3), (5, .int .i64 i1)]) ?_ ?_
      · refine QRun_b [.slice aa_ a_.length ca_, .int .i64 i1] 0 _ (by kernel_rfl) (fun w => by kernel_rfl) ?_
        refine QRun_y (.pointer (some (adr aa_ (i1.toNat * 1)))) (by kernel_rfl) (Y_idx (t := 22) (e := 29) (sz := 1) (a := aa_) (n := a_.length) (cap := ca_) (kk := .i64) (i := i1) (by kernel_rfl) Try.underlying22 (by kernel_rfl) (ra_.cell hx1).1 hx1l hx1u) ?_
        refine QRun_y (.slice a1 x2.length c1) (by kernel_rfl) (Y_load1 (t := 29) (p := adr aa_ (i1.toNat * 1)) (v := .slice a1 x2.length c1) (by kernel_rfl) (fun w => by kernel_rfl) hc1) ?_
        refine QRun_b [.int .i64 s1] 4 _ (by kernel_rfl) (fun w => by kernel_rfl) ?_
        refine QRun_y (.int .i64 x3) (by kernel_rfl) (Y_callq (f := 35) (args := #[.slice a1 x2.length c1, .int .i64 s1]) (v := .int .i64 x3) (by kernel_rfl) (w_laws_heldInt64S h x2 a1 c1 r1 s1 _ _ hx2)) ?_
        refine QRun_b [.int .i64 x3] 6 _ (by kernel_rfl) (fun w => by kernel_rfl) ?_
        exact QRun_done [0, 1, 5] (by kernel_rfl) (by kernel_rfl)
      refine Run_seq ?_
      refine Run_reg 2 (by kernel_rfl) (L' := [(0, .slice aa_ a_.length ca_), (1, .int .i64 x3), (5, .int .i64 i1), (19, .bool (decide (x3 < 0)))]) ?_ ?_
      · refine QRun_b [.int .i64 x3, .bool (decide (x3 < 0))] 0 _ (by kernel_rfl) (fun w => by kernel_rfl) ?_
        exact QRun_done [0, 1, 5, 19] (by kernel_rfl) (by kernel_rfl)
      refine Run_cond (b := decide (x3 < 0)) (by kernel_rfl) (fun hb2 => ?_) (fun hb2 => ?_)
      · have hB1 := (M.ite_some hB1).1 hb2
        refine Run_seq ?_
        refine Run_reg 1 (by kernel_rfl) (L' := [(4, .int .i64 (-1))]) ?_ ?_
        · refine QRun_b [.int .i64 (-1)] 0 _ (by kernel_rfl) (fun w => by kernel_rfl) ?_
          exact QRun_done [4] (by kernel_rfl) (by kernel_rfl)
        have hB1 := M.ret_some hB1
        have gx1 := houty1 _ hB1.symm
        have hF := M.cont_inr' hF gx1
        have hF := M.ret_some hF
        subst hF
        exact Run_ret1 rfl (ResV_tmp (v := .int .i64 (-1)) (by kernel_rfl)) ⟨rfl, rfl⟩
      · have hB1 := (M.ite_some hB1).2 hb2
        refine Run_skip ?_
        refine Run_blk ?_
        refine Run_reg 3 (by kernel_rfl) (L' := [(0, .slice aa_ a_.length ca_), (1, .int .i64 x3), (5, .int .i64 (i1 + 1))]) ?_ ?_
        · refine QRun_b [.int .i64 i1] 0 _ (by kernel_rfl) (fun w => by kernel_rfl) ?_
          refine QRun_y (.int .i64 (i1 + 1)) (by kernel_rfl) (Y_eq (v := .int .i64 (w64 (i1 + 1))) (Y_pure (fun w => by kernel_rfl)) (by rw [w64_eq _ (by omega)])) ?_
          refine QRun_b [.int .i64 (i1 + 1)] 2 _ (by kernel_rfl) (fun w => by kernel_rfl) ?_
          exact QRun_done [0, 1, 5] (by kernel_rfl) (by kernel_rfl)
        have hB1 := M.ret_some hB1
        have gx1 := hgoy1 _ hB1.symm
        exact Run_again [0, 1, 5] (by kernel_rfl) my1 (Nat.lt_succ_self _) ⟨i1 + 1, x3, by omega, gx1, rfl, rfl⟩
    · have gx1 := M.for_end gx1 hb1
      subst gx1
      refine Run_exit (k' := _) rfl ?_
      exact Run_fall [1] (by kernel_rfl) ⟨s1, rfl, rfl, rfl⟩

set_option maxRecDepth 100000 in
set_option maxHeartbeats 4000000 in
theorem w_laws_markInt64S (h hE : Heap) (it : Item) (a_ : List Int) (aa_ : Option Addr) (ca_ : Nat) (k_ : Int) (HM : Hold h hE [own cd2 aa_ a_.length ca_ a_, it]) (n : Nat) (r : Int × (List Int)) (hF : laws_markInt64S a_ k_ n = some r) :
    Fn Try.prog 25 #[.slice aa_ a_.length ca_, .int .i64 k_] hE fun v h' => v = .int .i64 r.1 ∧ Hold h h' [own cd2 aa_ a_.length ca_ r.2, it] := by
  unfold laws_markInt64S at hF
  refine Fn_enter (args := [.slice aa_ a_.length ca_, .int .i64 k_]) Try.func25 rfl (by kernel_rfl) (by kernel_rfl) (fun w0 _ => ?_)
  refine Run_seq ?_
  refine Run_reg 1 (by kernel_rfl) (L' := [(0, .slice aa_ a_.length ca_), (1, .int .i64 k_)]) ?_ ?_
  · refine QRun_b [.int .i64 0] 0 _ (by kernel_rfl) (fun w => by kernel_rfl) ?_
    exact QRun_done [0, 1] (by kernel_rfl) (by kernel_rfl)
  refine Run_seq ?_
  refine Run_seq ?_
  refine Run_reg 1 (by kernel_rfl) (L' := [(0, .slice aa_ a_.length ca_), (1, .int .i64 k_), (5, .int .i64 0)]) ?_ ?_
  · refine QRun_b [.int .i64 0] 0 _ (by kernel_rfl) (fun w => by kernel_rfl) ?_
    exact QRun_done [0, 1, 5] (by kernel_rfl) (by kernel_rfl)
  obtain ⟨x1, gx1, hF⟩ := M.bind_some hF
  obtain ⟨hloy1, hhiy1, gx1⟩ := M.for_start gx1
  refine Run_join (fun L' h' => L' = [(1, .int .i64 x1.2)] ∧ Hold h h' [own cd2 aa_ a_.length ca_ x1.1, it]) ?_ ?_
  · rintro _ h2 ⟨rfl, H2⟩
    refine Run_seq ?_
    refine Run_reg 2 (by kernel_rfl) (L' := [(4, .int .i64 x1.2)]) ?_ ?_
    · refine QRun_b [.int .i64 x1.2, .int .i64 x1.2] 0 _ (by kernel_rfl) (fun w => by kernel_rfl) ?_
      exact QRun_done [4] (by kernel_rfl) (by kernel_rfl)
    have hF := M.ret_some hF
    subst hF
    exact Run_ret1 rfl (ResV_tmp (v := .int .i64 x1.2) (by kernel_rfl)) ⟨rfl, H2⟩
  · refine Run_block ?_
    refine Run_keep [0, 1, 5] (L' := [(0, .slice aa_ a_.length ca_), (1, .int .i64 k_), (5, .int .i64 0)]) (by kernel_rfl) ?_
    refine Run_loop (fun m L' h' => ∃ (i1 : Int) (s1 : (List Int) × Int), 0 ≤ i1 ∧ M.forN (a_.length : Int) _ _ n m i1 s1 = some x1 ∧ L' = [(0, .slice aa_ a_.length ca_), (1, .int .i64 s1.2), (5, .int .i64 i1)] ∧ Hold h h' [own cd2 aa_ a_.length ca_ s1.1, it]) ((a_.length : Int) - 0 : Int).toNat ⟨0, (a_, k_), Int.le_refl _, gx1, rfl, HM⟩ ?_
    rintro my1 _ h1 ⟨i1, s1, hloy1', gx1, rfl, H1⟩
    refine Run_seq ?_
    refine Run_seq ?_
    refine Run_reg 4 (by kernel_rfl) (L' := [(0, .slice aa_ a_.length ca_), (1, .int .i64 s1.2), (5, .int .i64 i1), (9, .bool (decide (i1 < (a_.length : Int))))]) ?_ ?_
    · refine QRun_b [.int .i64 i1, .slice aa_ a_.length ca_, .int .i64 (a_.length : Int), .bool (decide (i1 < (a_.length : Int)))] 0 _ (by kernel_rfl) (fun w => by kernel_rfl) ?_
      exact QRun_done [0, 1, 5, 9] (by kernel_rfl) (by kernel_rfl)
    refine Run_cond (b := decide (i1 < (a_.length : Int))) (by kernel_rfl) (fun hb1 => ?_) (fun hb1 => ?_)
    · obtain ⟨my1, y1, rfl, hB1, hgoy1, houty1⟩ := M.for_go gx1 hb1
      have hlty1 := of_decide_eq_true hb1
      refine Run_skip ?_
      refine Run_seq ?_
      refine Run_block ?_
      refine Run_seq ?_
      refine Run_ops ?_
      obtain ⟨x2, hx1, hB1⟩ := M.bind_some hB1
      obtain ⟨hx1l, hx1u, hx1⟩ := M.idx_some hx1
      refine Run_b [.slice aa_ a_.length ca_, .int .i64 i1, .int .i64 s1.2] 0 _ (by kernel_rfl) (fun w => by kernel_rfl) ?_
      refine Run_y (.pointer (some (adr aa_ (i1.toNat * 1)))) (by kernel_rfl) (Y_idx (t := 29) (e := 2) (sz := 1) (a := aa_) (n := a_.length) (cap := ca_) (kk := .i64) (i := i1) (by kernel_rfl) Try.underlying29 (by kernel_rfl) ((H1.rd 0 rfl).cell hx1).1 hx1l (by rw [← (H1.len 0 rfl)]; exact hx1u)) ?_
      obtain ⟨l1, hu1, hB1⟩ := M.bind_some hB1
      have hu1 := M.upd_some hu1
      refine Run_E (by kernel_rfl) ?_
      refine E_put (C := cd2) (t := 2) (sz := 1) (j := i1) (x := s1.2) (v := .int .i64 s1.2) H1 cd2_flat (by kernel_rfl) rfl (cd2_own _) (by kernel_rfl) hu1 (fun h3 H3 => ?_)
      refine Run_nil (by kernel_rfl) ?_
      refine Run_keep [0, 1, 5] (L' := [(0, .slice aa_ a_.length ca_), (1, .int .i64 s1.2), (5, .int .i64 i1)]) (by kernel_rfl) ?_
      refine Run_reg 3 (by kernel_rfl) (L' := [(0, .slice aa_ a_.length ca_), (1, .int .i64 (w64 (s1.2 + 1))), (5, .int .i64 i1)]) ?_ ?_
      · refine QRun_b [.int .i64 s1.2, .int .i64 (w64 (s1.2 + 1)), .int .i64 (w64 (s1.2 + 1))] 0 _ (by kernel_rfl) (fun w => by kernel_rfl) ?_
        exact QRun_done [0, 1, 5] (by kernel_rfl) (by kernel_rfl)
      refine Run_blk ?_
      refine Run_reg 3 (by kernel_rfl) (L' := [(0, .slice aa_ a_.length ca_), (1, .int .i64 (w64 (s1.2 + 1))), (5, .int .i64 (i1 + 1))]) ?_ ?_
      · refine QRun_b [.int .i64 i1] 0 _ (by kernel_rfl) (fun w => by kernel_rfl) ?_
        refine QRun_y (.int .i64 (i1 + 1)) (by kernel_rfl) (Y_eq (v := .int .i64 (w64 (i1 + 1))) (Y_pure (fun w => by kernel_rfl)) (by rw [w64_eq _ (by omega)])) ?_
        refine QRun_b [.int .i64 (i1 + 1)] 2 _ (by kernel_rfl) (fun w => by kernel_rfl) ?_
        exact QRun_done [0, 1, 5] (by kernel_rfl) (by kernel_rfl)
      have hB1 := M.ret_some hB1
      have gx1 := hgoy1 _ hB1.symm
      exact Run_again [0, 1, 5] (by kernel_rfl) my1 (Nat.lt_succ_self _) ⟨i1 + 1, (l1, (w64 (s1.2 + 1))), by omega, gx1, rfl, H3⟩
    · have gx1 := M.for_end gx1 hb1
      subst gx1
      refine Run_exit (k' := _) rfl ?_
      exact Run_fall [1] (by kernel_rfl) ⟨rfl, H1⟩

set_option maxRecDepth 100000 in
set_option maxHeartbeats 4000000 in
theorem w_laws_markInt64SS (h hE : Heap) (it : Item) (a_ : List (List Int)) (aa_ : Option Addr) (ca_ : Nat) (k_ : Int) (HM : Hold h hE [own cd29 aa_ a_.length ca_ a_, it]) (n : Nat) (r : Int × (List (List Int))) (hF : laws_markInt64SS a_ k_ n = some r) :
    Fn Try.prog 24 #[.slice aa_ a_.length ca_, .int .i64 k_] hE fun v h' => v = .int .i64 r.1 ∧ Hold h h' [own cd29 aa_ a_.length ca_ r.2, it] := by
  unfold laws_markInt64SS at hF
  refine Fn_enter (args := [.slice aa_ a_.length ca_, .int .i64 k_]) Try.func24 rfl (by kernel_rfl) (by kernel_rfl) (fun w0 _ => ?_)
  refine Run_seq ?_
  refine Run_reg 1 (by kernel_rfl) (L' := [(0, .slice aa_ a_.length ca_), (1, .int .i64 k_)]) ?_ ?_
  · refine QRun_b [.int .i64 0] 0 _ (by kernel_rfl) (fun w => by kernel_rfl) ?_
    exact QRun_done [0, 1] (by kernel_rfl) (by kernel_rfl)
  refine Run_seq ?_
  refine Run_seq ?_
  refine Run_reg 1 (by kernel_rfl) (L' := [(0, .slice aa_ a_.length ca_), (1, .int .i64 k_), (5, .int .i64 0)]) ?_ ?_
  · refine QRun_b [.int .i64 0] 0 _ (by kernel_rfl) (fun w => by kernel_rfl) ?_
    exact QRun_done [0, 1, 5] (by kernel_rfl) (by kernel_rfl)
  obtain ⟨x1, gx1, hF⟩ := M.bind_some hF
  obtain ⟨hloy1, hhiy1, gx1⟩ := M.for_start gx1
  refine Run_join (fun L' h' => L' = [(1, .int .i64 x1.2)] ∧ Hold h h' [own cd29 aa_ a_.length ca_ x1.1, it]) ?_ ?_
  · rintro _ h2 ⟨rfl, H2⟩
    refine Run_seq ?_
    refine Run_reg 2 (by kernel_rfl) (L' := [(4, .int .i64 x1.2)]) ?_ ?_
    · refine QRun_b [.int .i64 x1.2, .int .i64 x1.2] 0 _ (by kernel_rfl) (fun w => by kernel_rfl) ?_
      exact QRun_done [4] (by kernel_rfl) (by kernel_rfl)
    have hF := M.ret_some hF
    subst hF
    exact Run_ret1 rfl (ResV_tmp (v := .int .i64 x1.2) (by kernel_rfl)) ⟨rfl, H2⟩
  · refine Run_block ?_
    refine Run_keep [0, 1, 5] (L' := [(0, .slice aa_ a_.length ca_), (1, .int .i64 k_), (5, .int .i64 0)]) (by kernel_rfl) ?_
    refine Run_loop (fun m L' h' => ∃ (i1 : Int) (s1 : (List (List Int)) × Int), 0 ≤ i1 ∧ M.forN (a_.length : Int) _ _ n m i1 s1 = some x1 ∧ L' = [(0, .slice aa_ a_.length ca_), (1, .int .i64 s1.2), (5, .int .i64 i1)] ∧ Hold h h' [own cd29 aa_ a_.length ca_ s1.1, it]) ((a_.length : Int) - 0 : Int).toNat ⟨0, (a_, k_), Int.le_refl _, gx1, rfl, HM⟩ ?_
    rintro my1 _ h1 ⟨i1, s1, hloy1', gx1, rfl, H1⟩
    refine Run_seq ?_
    refine Run_seq ?_
    refine Run_reg 4 (by kernel_rfl) (L' := [(0, .slice aa_ a_.length ca_), (1, .int .i64 s1.2), (5, .int .i64 i1), (9, .bool (decide (i1 < (a_.length : Int))))]) ?_ ?_
    · refine QRun_b [.int .i64 i1, .slice aa_ a_.length ca_, .int .i64 (a_.length : Int), .bool (decide (i1 < (a_.length : Int)))] 0 _ (by kernel_rfl) (fun w => by kernel_rfl) ?_
      exact QRun_done [0, 1, 5, 9] (by kernel_rfl) (by kernel_rfl)
    refine Run_cond (b := decide (i1 < (a_.length : Int))) (by kernel_rfl) (fun hb1 => ?_) (fun hb1 => ?_)
    · obtain ⟨my1, y1, rfl, hB1, hgoy1, houty1⟩ := M.for_go gx1 hb1
      have hlty1 := of_decide_eq_true hb1
      refine Run_skip ?_
      refine Run_seq ?_
      refine Run_block ?_
      refine Run_ops ?_
      obtain ⟨x2, hx1, hB1⟩ := M.bind_some hB1
      obtain ⟨hx1l, hx1u, hx1⟩ := M.idx_some hx1
      have H3 := H1.toRows
      obtain ⟨a1, c1, H4⟩ := H3.pinRow hx1
      refine Run_b [.slice aa_ a_.length ca_, .int .i64 i1] 0 _ (by kernel_rfl) (fun w => by kernel_rfl) ?_
      refine Run_y (.pointer (some (adr aa_ (i1.toNat * 1)))) (by kernel_rfl) (Y_idx (t := 22) (e := 29) (sz := 1) (a := aa_) (n := a_.length) (cap := ca_) (kk := .i64) (i := i1) (by kernel_rfl) Try.underlying22 (by kernel_rfl) ((H1.rd 0 rfl).cell hx1).1 hx1l (by rw [← (H1.len 0 rfl)]; exact hx1u)) ?_
      refine Run_y (.slice a1 x2.length c1) (by kernel_rfl) (Y_load1 (t := 29) (p := adr aa_ (i1.toNat * 1)) (v := .slice a1 x2.length c1) (by kernel_rfl) (fun w => by kernel_rfl) (H4.cellPin 0 rfl 0 rfl)) ?_
      refine Run_b [.int .i64 s1.2] 4 _ (by kernel_rfl) (fun w => by kernel_rfl) ?_
      obtain ⟨x3, hx2, hB1⟩ := M.bind_some hB1
      have hc1 := H4.cellPin 0 rfl 0 rfl
      have hr1 := H4.getPin 0 rfl 0 rfl
      have H6 := H4.ofRows
      obtain ⟨a2, c2, hc2, H5⟩ := H6.takeRow hr1
      have ha1 := hc2.symm.trans hc1
      simp only [Option.some.injEq, Value.slice.injEq, true_and] at ha1
      obtain ⟨rfl, rfl⟩ := ha1
      have H7 : Hold h h1 [own cd2 a2 x2.length c2 x2, bun [rest cd2 29 aa_ a_.length ca_ s1.1 i1.toNat a2 x2.length c2, it]] := Hold.bundle (S := [own cd2 a2 x2.length c2 x2]) (R := [rest cd2 29 aa_ a_.length ca_ s1.1 i1.toNat a2 x2.length c2, it]) H5
      refine Run_E (by kernel_rfl) ?_
      refine E_call (f := 25) (args := #[.slice a2 x2.length c2, .int .i64 s1.2]) (w_laws_markInt64S h h1 _ x2 a2 c2 s1.2 H7 _ _ hx2) (by kernel_rfl) (fun v1 h3 hp1 => ?_)
      obtain ⟨rfl, H8⟩ := hp1
      have H9 : Hold h h3 [own cd2 a2 x2.length c2 x3.2, rest cd2 29 aa_ a_.length ca_ s1.1 i1.toNat a2 x2.length c2, it] := Hold.unbundle (S := [own cd2 a2 x2.length c2 x3.2]) (R := [rest cd2 29 aa_ a_.length ca_ s1.1 i1.toNat a2 x2.length c2, it]) H8 (Hold.tailBase (S := [own cd2 a2 x2.length c2 x2]) (R := [rest cd2 29 aa_ a_.length ca_ s1.1 i1.toNat a2 x2.length c2, it]) H5)
      have H10 : Hold h h3 [own cd29 aa_ a_.length ca_ (s1.1.set i1.toNat x3.2), it] := Hold.putRow H9
      refine Run_b [.int .i64 x3.1] 6 _ (by kernel_rfl) (fun w => by kernel_rfl) ?_
      refine Run_nil (by kernel_rfl) ?_
      refine Run_keep [0, 1, 5] (L' := [(0, .slice aa_ a_.length ca_), (1, .int .i64 x3.1), (5, .int .i64 i1)]) (by kernel_rfl) ?_
      refine Run_blk ?_
      refine Run_reg 3 (by kernel_rfl) (L' := [(0, .slice aa_ a_.length ca_), (1, .int .i64 x3.1), (5, .int .i64 (i1 + 1))]) ?_ ?_
      · refine QRun_b [.int .i64 i1] 0 _ (by kernel_rfl) (fun w => by kernel_rfl) ?_
        refine QRun_y (.int .i64 (i1 + 1)) (by kernel_rfl) (Y_eq (v := .int .i64 (w64 (i1 + 1))) (Y_pure (fun w => by kernel_rfl)) (by rw [w64_eq _ (by omega)])) ?_
        refine QRun_b [.int .i64 (i1 + 1)] 2 _ (by kernel_rfl) (fun w => by kernel_rfl) ?_
        exact QRun_done [0, 1, 5] (by kernel_rfl) (by kernel_rfl)
      have hB1 := M.ret_some hB1
      have gx1 := hgoy1 _ hB1.symm
      exact Run_again [0, 1, 5] (by kernel_rfl) my1 (Nat.lt_succ_self _) ⟨i1 + 1, ((s1.1.set i1.toNat x3.2), x3.1), by omega, gx1, rfl, H10⟩
    · have gx1 := M.for_end gx1 hb1
      subst gx1
      refine Run_exit (k' := _) rfl ?_
      exact Run_fall [1] (by kernel_rfl) ⟨rfl, H1⟩

set_option maxRecDepth 100000 in
set_option maxHeartbeats 4000000 in
theorem w_laws_FnExactOrbitOf (h : Heap) (aA : List (List Int)) (aaA : Option Addr) (caA : Nat) (raA : Rd cd29 h (Lt h) aaA caA aA) (aX : List Int) (aaX : Option Addr) (caX : Nat) (raX : Rd cd2 h (Lt h) aaX caX aX) (aN : Int) (n : Nat) (r : Bool) (hF : laws_FnExactOrbitOf aA aX aN n = some r) :
    Fn Try.prog 4 #[.slice aaA aA.length caA, .slice aaX aX.length caX, .int .i64 aN] h fun v h' => v = .bool r ∧ Hold h h' [] := by
  unfold laws_FnExactOrbitOf at hF
  refine Fn_enter (args := [.slice aaA aA.length caA, .slice aaX aX.length caX, .int .i64 aN]) Try.func4 rfl (by kernel_rfl) (by kernel_rfl) (fun w0 _ => ?_)
  have H0 := Hold.init h
  refine Run_seq ?_
  refine Run_reg 1 (by kernel_rfl) (L' := [(0, .slice aaA aA.length caA), (1, .slice aaX aX.length caX), (2, .int .i64 aN)]) ?_ ?_
  · refine QRun_b [.bool false] 0 _ (by kernel_rfl) (fun w => by kernel_rfl) ?_
    exact QRun_done [0, 1, 2] (by kernel_rfl) (by kernel_rfl)
  refine Run_seq ?_
  refine Run_seq ?_
  refine Run_reg 3 (by kernel_rfl) (L' := [(0, .slice aaA aA.length caA), (1, .slice aaX aX.length caX), (2, .int .i64 aN), (21, .bool (decide (1048576 < (aX.length : Int))))]) ?_ ?_
  · refine QRun_b [.slice aaX aX.length caX, .int .i64 (aX.length : Int), .bool (decide (1048576 < (aX.length : Int)))] 0 _ (by kernel_rfl) (fun w => by kernel_rfl) ?_
    exact QRun_done [0, 1, 2, 21] (by kernel_rfl) (by kernel_rfl)
  refine Run_cond (b := decide (1048576 < (aX.length : Int))) (by kernel_rfl) (fun hb1 => ?_) (fun hb1 => ?_)
  · have hF := (M.ite_some hF).1 hb1
    refine Run_seq ?_
    refine Run_reg 1 (by kernel_rfl) (L' := [(6, .bool true)]) ?_ ?_
    · refine QRun_b [.bool true] 0 _ (by kernel_rfl) (fun w => by kernel_rfl) ?_
      exact QRun_done [6] (by kernel_rfl) (by kernel_rfl)
    have hF := M.ret_some hF
    subst hF
    exact Run_ret1 rfl (ResV_tmp (v := .bool true) (by kernel_rfl)) ⟨rfl, H0⟩
  · have hF := (M.ite_some hF).2 hb1
    refine Run_skip ?_
    refine Run_seq ?_
    refine Run_reg 1 (by kernel_rfl) (L' := [(0, .slice aaA aA.length caA), (1, .slice aaX aX.length caX), (2, .int .i64 aN), (7, .int .i64 1048576)]) ?_ ?_
    · refine QRun_b [.int .i64 1048576] 0 _ (by kernel_rfl) (fun w => by kernel_rfl) ?_
      exact QRun_done [0, 1, 2, 7] (by kernel_rfl) (by kernel_rfl)
    refine Run_seq ?_
    obtain ⟨x1, hx1, hF⟩ := M.bind_some hF
    refine Run_reg 4 (by kernel_rfl) (L' := [(0, .slice aaA aA.length caA), (1, .slice aaX aX.length caX), (2, .int .i64 aN), (7, .int .i64 x1)]) ?_ ?_
    · refine QRun_b [.slice aaA aA.length caA, .int .i64 1048576] 0 _ (by kernel_rfl) (fun w => by kernel_rfl) ?_
      refine QRun_y (.int .i64 x1) (by kernel_rfl) (Y_callq (f := 15) (args := #[.slice aaA aA.length caA, .int .i64 1048576]) (v := .int .i64 x1) (by kernel_rfl) (w_laws_szInt64SS h aA aaA caA raA 1048576 _ _ hx1)) ?_
      refine QRun_b [.int .i64 x1] 3 _ (by kernel_rfl) (fun w => by kernel_rfl) ?_
      exact QRun_done [0, 1, 2, 7] (by kernel_rfl) (by kernel_rfl)
    refine Run_seq ?_
    refine Run_seq ?_
    refine Run_reg 2 (by kernel_rfl) (L' := [(0, .slice aaA aA.length caA), (1, .slice aaX aX.length caX), (2, .int .i64 aN), (26, .bool (decide (x1 < 0)))]) ?_ ?_
    · refine QRun_b [.int .i64 x1, .bool (decide (x1 < 0))] 0 _ (by kernel_rfl) (fun w => by kernel_rfl) ?_
      exact QRun_done [0, 1, 2, 26] (by kernel_rfl) (by kernel_rfl)
    refine Run_cond (b := decide (x1 < 0)) (by kernel_rfl) (fun hb2 => ?_) (fun hb2 => ?_)
    · have hF := (M.ite_some hF).1 hb2
      refine Run_seq ?_
      refine Run_reg 1 (by kernel_rfl) (L' := [(6, .bool true)]) ?_ ?_
      · refine QRun_b [.bool true] 0 _ (by kernel_rfl) (fun w => by kernel_rfl) ?_
        exact QRun_done [6] (by kernel_rfl) (by kernel_rfl)
      have hF := M.ret_some hF
      subst hF
      exact Run_ret1 rfl (ResV_tmp (v := .bool true) (by kernel_rfl)) ⟨rfl, H0⟩
    · have hF := (M.ite_some hF).2 hb2
      refine Run_skip ?_
      refine Run_seq ?_
      refine Run_ops ?_
      refine Run_b [.slice aaA aA.length caA] 0 _ (by kernel_rfl) (fun w => by kernel_rfl) ?_
      obtain ⟨x2, hx2, hF⟩ := M.bind_some hF
      refine Run_E (by kernel_rfl) ?_
      refine E_call (f := 17) (args := #[.slice aaA aA.length caA]) (w_laws_toInt64SS h aA aaA caA raA _ _ hx2) (by kernel_rfl) (fun v1 h1 hp1 => ?_)
      obtain ⟨a1, c1, rfl, H1⟩ := hp1
      have H2 : Hold h h1 [own cd29 a1 x2.length c1 x2] := H0.call H1 rfl
      refine Run_b [.slice aaX aX.length caX] 2 _ (by kernel_rfl) (fun w => by kernel_rfl) ?_
      obtain ⟨x3, hx3, hF⟩ := M.bind_some hF
      refine Run_E (by kernel_rfl) ?_
      refine E_call (f := 21) (args := #[.slice aaX aX.length caX]) (w_laws_toInt64S h1 aX aaX caX (raX.at H2.ext) _ _ hx3) (by kernel_rfl) (fun v2 h2 hp2 => ?_)
      obtain ⟨a2, c2, rfl, H3⟩ := hp2
      have H4 : Hold h h2 [own cd2 a2 x3.length c2 x3, own cd29 a1 x2.length c1 x2] := H2.call H3 rfl
      refine Run_b [.int .i64 aN] 4 _ (by kernel_rfl) (fun w => by kernel_rfl) ?_
      obtain ⟨x4, hx4, hF⟩ := M.bind_some hF
      refine Run_E (by kernel_rfl) ?_
      refine E_call (f := 20) (args := #[.slice a1 x2.length c1, .slice a2 x3.length c2, .int .i64 aN]) (w_spec_OrbitOf h2 x2 a1 c1 (H4.rd 1 rfl) x3 a2 c2 (H4.rd 0 rfl) aN _ _ hx4) (by kernel_rfl) (fun v3 h3 hp3 => ?_)
      obtain ⟨a3, c3, rfl, H5⟩ := hp3
      have H6 : Hold h h3 [own cd29 a3 x4.1.length c3 x4.1, own cd2 a2 x3.length c2 x3, own cd29 a1 x2.length c1 x2] := H4.call H5 rfl
      refine Run_b [.tuple #[.slice a3 x4.1.length c3, .int .i64 x4.2], .slice a3 x4.1.length c3, .int .i64 x4.2, .slice a3 x4.1.length c3, .int .i64 x4.2] 6 _ (by kernel_rfl) (fun w => by kernel_rfl) ?_
      refine Run_nil (by kernel_rfl) ?_
      refine Run_keep [0, 1, 2, 8, 9] (L' := [(0, .slice aaA aA.length caA), (1, .slice aaX aX.length caX), (2, .int .i64 aN), (8, .slice a3 x4.1.length c3), (9, .int .i64 x4.2)]) (by kernel_rfl) ?_
      refine Run_seq ?_
      refine Run_ops ?_
      refine Run_b [.slice aaA aA.length caA] 0 _ (by kernel_rfl) (fun w => by kernel_rfl) ?_
      obtain ⟨x5, hx5, hF⟩ := M.bind_some hF
      refine Run_E (by kernel_rfl) ?_
      refine E_call (f := 17) (args := #[.slice aaA aA.length caA]) (w_laws_toInt64SS h3 aA aaA caA (raA.at H6.ext) _ _ hx5) (by kernel_rfl) (fun v4 h4 hp4 => ?_)
      obtain ⟨a4, c4, rfl, H7⟩ := hp4
      have H8 : Hold h h4 [own cd29 a4 x5.length c4 x5, own cd29 a3 x4.1.length c3 x4.1, own cd2 a2 x3.length c2 x3, own cd29 a1 x2.length c1 x2] := H6.call H7 rfl
      refine Run_b [.slice a4 x5.length c4] 2 _ (by kernel_rfl) (fun w => by kernel_rfl) ?_
      refine Run_nil (by kernel_rfl) ?_
      refine Run_keep [0, 1, 2, 8, 9, 10] (L' := [(0, .slice aaA aA.length caA), (1, .slice aaX aX.length caX), (2, .int .i64 aN), (8, .slice a3 x4.1.length c3), (9, .int .i64 x4.2), (10, .slice a4 x5.length c4)]) (by kernel_rfl) ?_
      refine Run_seq ?_
      refine Run_ops ?_
      refine Run_b [.slice aaX aX.length caX] 0 _ (by kernel_rfl) (fun w => by kernel_rfl) ?_
      obtain ⟨x6, hx6, hF⟩ := M.bind_some hF
      refine Run_E (by kernel_rfl) ?_
      refine E_call (f := 21) (args := #[.slice aaX aX.length caX]) (w_laws_toInt64S h4 aX aaX caX (raX.at H8.ext) _ _ hx6) (by kernel_rfl) (fun v5 h5 hp5 => ?_)
      obtain ⟨a5, c5, rfl, H9⟩ := hp5
      have H10 : Hold h h5 [own cd2 a5 x6.length c5 x6, own cd29 a4 x5.length c4 x5, own cd29 a3 x4.1.length c3 x4.1, own cd2 a2 x3.length c2 x3, own cd29 a1 x2.length c1 x2] := H8.call H9 rfl
      refine Run_b [.slice a5 x6.length c5] 2 _ (by kernel_rfl) (fun w => by kernel_rfl) ?_
      refine Run_nil (by kernel_rfl) ?_
      refine Run_keep [0, 1, 2, 8, 9, 10, 11] (L' := [(0, .slice aaA aA.length caA), (1, .slice aaX aX.length caX), (2, .int .i64 aN), (8, .slice a3 x4.1.length c3), (9, .int .i64 x4.2), (10, .slice a4 x5.length c4), (11, .slice a5 x6.length c5)]) (by kernel_rfl) ?_
      refine Run_seq ?_
      refine Run_ops ?_
      refine Run_b [.slice a4 x5.length c4, .slice a5 x6.length c5, .int .i64 aN] 0 _ (by kernel_rfl) (fun w => by kernel_rfl) ?_
      obtain ⟨x7, hx7, hF⟩ := M.bind_some hF
      refine Run_E (by kernel_rfl) ?_
      refine E_call (f := 22) (args := #[.slice a4 x5.length c4, .slice a5 x6.length c5, .int .i64 aN]) (w_impl_OrbitOf h5 x5 a4 c4 (H10.rd 1 rfl) x6 a5 c5 (H10.rd 0 rfl) aN _ _ hx7) (by kernel_rfl) (fun v6 h6 hp6 => ?_)
      obtain ⟨a6, c6, rfl, H11⟩ := hp6
      have H12 : Hold h h6 [own cd29 a6 x7.1.length c6 x7.1, own cd2 a5 x6.length c5 x6, own cd29 a4 x5.length c4 x5, own cd29 a3 x4.1.length c3 x4.1, own cd2 a2 x3.length c2 x3, own cd29 a1 x2.length c1 x2] := H10.call H11 rfl
      refine Run_b [.tuple #[.slice a6 x7.1.length c6, .int .i64 x7.2], .slice a6 x7.1.length c6, .int .i64 x7.2, .slice a6 x7.1.length c6, .int .i64 x7.2] 4 _ (by kernel_rfl) (fun w => by kernel_rfl) ?_
      refine Run_nil (by kernel_rfl) ?_
      refine Run_keep [0, 1, 2, 8, 9, 10, 11, 12, 13] (L' := [(0, .slice aaA aA.length caA), (1, .slice aaX aX.length caX), (2, .int .i64 aN), (8, .slice a3 x4.1.length c3), (9, .int .i64 x4.2), (10, .slice a4 x5.length c4), (11, .slice a5 x6.length c5), (12, .slice a6 x7.1.length c6), (13, .int .i64 x7.2)]) (by kernel_rfl) ?_
      refine Run_seq ?_
      refine Run_seq ?_
      obtain ⟨x8, hx8, hF⟩ := M.bind_some hF
      refine Run_reg 9 (by kernel_rfl) (L' := [(0, .slice aaA aA.length caA), (1, .slice aaX aX.length caX), (2, .int .i64 aN), (8, .slice a3 x4.1.length c3), (9, .int .i64 x4.2), (10, .slice a4 x5.length c4), (11, .slice a5 x6.length c5), (12, .slice a6 x7.1.length c6), (13, .int .i64 x7.2), (55, .bool ((!x8) || (x7.2 != x4.2)))]) ?_ ?_
      · refine QRun_b [.slice a6 x7.1.length c6, .slice a3 x4.1.length c3] 0 _ (by kernel_rfl) (fun w => by kernel_rfl) ?_
        refine QRun_y (.bool x8) (by kernel_rfl) (Y_callq (f := 19) (args := #[.slice a6 x7.1.length c6, .slice a3 x4.1.length c3]) (v := .bool x8) (by kernel_rfl) (w_laws_eqInt64SS h6 x7.1 a6 c6 (H12.rd 0 rfl) x4.1 a3 c3 (H12.rd 3 rfl) _ _ hx8)) ?_
        refine QRun_b [.bool (!x8)] 3 _ (by kernel_rfl) (fun w => by kernel_rfl) ?_
        refine QRun_seq 9 [(0, .slice aaA aA.length caA), (1, .slice aaX aX.length caX), (2, .int .i64 aN), (8, .slice a3 x4.1.length c3), (9, .int .i64 x4.2), (10, .slice a4 x5.length c4), (11, .slice a5 x6.length c5), (12, .slice a6 x7.1.length c6), (13, .int .i64 x7.2), (55, .bool ((!x8) || (x7.2 != x4.2)))] ?_ ?_
        · rcases Bool.eq_false_or_eq_true (!x8) with hb3 | hb3
          · refine QRun_bool (!x8) true (by kernel_rfl) (fun w => by kernel_rfl) hb3 ?_
            refine QRun_n (by kernel_rfl) ?_
            refine QRun_n (by kernel_rfl) ?_
            refine QRun_n (by kernel_rfl) ?_
            refine QRun_bool true ((!x8) || (x7.2 != x4.2)) (by kernel_rfl) (fun w => by kernel_rfl) (by rw [hb3]; rfl) ?_
            exact QRun_done [0, 1, 2, 8, 9, 10, 11, 12, 13, 55] (by kernel_rfl) (by kernel_rfl)
          · refine QRun_bool (!x8) false (by kernel_rfl) (fun w => by kernel_rfl) hb3 ?_
            refine QRun_b [.int .i64 x7.2, .int .i64 x4.2, .bool (x7.2 != x4.2)] 5 _ (by kernel_rfl) (fun w => by kernel_rfl) ?_
            refine QRun_bool (x7.2 != x4.2) ((!x8) || (x7.2 != x4.2)) (by kernel_rfl) (fun w => by kernel_rfl) (by rw [hb3]; rfl) ?_
            exact QRun_done [0, 1, 2, 8, 9, 10, 11, 12, 13, 55] (by kernel_rfl) (by kernel_rfl)
        exact QRun_done [0, 1, 2, 8, 9, 10, 11, 12, 13, 55] (by kernel_rfl) (by kernel_rfl)
      refine Run_cond (b := (!x8) || (x7.2 != x4.2)) (by kernel_rfl) (fun hb4 => ?_) (fun hb4 => ?_)
      · have hF := (M.ite_some hF).1 hb4
        refine Run_seq ?_
        refine Run_reg 1 (by kernel_rfl) (L' := [(6, .bool false)]) ?_ ?_
        · refine QRun_b [.bool false] 0 _ (by kernel_rfl) (fun w => by kernel_rfl) ?_
          exact QRun_done [6] (by kernel_rfl) (by kernel_rfl)
        have hF := M.ret_some hF
        subst hF
        have H13 : Hold h h6 [] := H12.pick [] (by kernel_rfl)
        exact Run_ret1 rfl (ResV_tmp (v := .bool false) (by kernel_rfl)) ⟨rfl, H13⟩
      · have hF := (M.ite_some hF).2 hb4
        refine Run_skip ?_
        refine Run_seq ?_
        refine Run_seq ?_
        refine Run_ops ?_
        refine Run_b [.slice a4 x5.length c4, .slice aaA aA.length caA] 0 _ (by kernel_rfl) (fun w => by kernel_rfl) ?_
        obtain ⟨x10, hx9, hF⟩ := M.bind_some hF
        refine Run_E (by kernel_rfl) ?_
        refine E_call (f := 17) (args := #[.slice aaA aA.length caA]) (w_laws_toInt64SS h6 aA aaA caA (raA.at H12.ext) _ _ hx9) (by kernel_rfl) (fun v7 h7 hp7 => ?_)
        obtain ⟨a7, c7, rfl, H14⟩ := hp7
        have H15 : Hold h h7 [own cd29 a7 x10.length c7 x10, own cd29 a6 x7.1.length c6 x7.1, own cd2 a5 x6.length c5 x6, own cd29 a4 x5.length c4 x5, own cd29 a3 x4.1.length c3 x4.1, own cd2 a2 x3.length c2 x3, own cd29 a1 x2.length c1 x2] := H12.call H14 rfl
        obtain ⟨x11, hx10, hF⟩ := M.bind_some hF
        refine Run_y (.bool x11) (by kernel_rfl) (Y_callq (f := 19) (args := #[.slice a4 x5.length c4, .slice a7 x10.length c7]) (v := .bool x11) (by kernel_rfl) (w_laws_eqInt64SS h7 x5 a4 c4 (H15.rd 3 rfl) x10 a7 c7 (H15.rd 0 rfl) _ _ hx10)) ?_
        refine Run_b [.bool (!x11)] 4 _ (by kernel_rfl) (fun w => by kernel_rfl) ?_
        refine Run_nil (by kernel_rfl) ?_
        refine Run_keep [0, 1, 2, 8, 9, 10, 11, 12, 13, 60] (L' := [(0, .slice aaA aA.length caA), (1, .slice aaX aX.length caX), (2, .int .i64 aN), (8, .slice a3 x4.1.length c3), (9, .int .i64 x4.2), (10, .slice a4 x5.length c4), (11, .slice a5 x6.length c5), (12, .slice a6 x7.1.length c6), (13, .int .i64 x7.2), (60, .bool (!x11))]) (by kernel_rfl) ?_
        refine Run_cond (b := !x11) (by kernel_rfl) (fun hb5 => ?_) (fun hb5 => ?_)
        · have hF := (M.ite_some hF).1 hb5
          refine Run_seq ?_
          refine Run_reg 1 (by kernel_rfl) (L' := [(6, .bool false)]) ?_ ?_
          · refine QRun_b [.bool false] 0 _ (by kernel_rfl) (fun w => by kernel_rfl) ?_
            exact QRun_done [6] (by kernel_rfl) (by kernel_rfl)
          have hF := M.ret_some hF
          subst hF
          have H16 : Hold h h7 [] := H15.pick [] (by kernel_rfl)
          exact Run_ret1 rfl (ResV_tmp (v := .bool false) (by kernel_rfl)) ⟨rfl, H16⟩
        · have hF := (M.ite_some hF).2 hb5
          refine Run_skip ?_
          refine Run_seq ?_
          refine Run_seq ?_
          refine Run_ops ?_
          refine Run_b [.slice a5 x6.length c5, .slice aaX aX.length caX] 0 _ (by kernel_rfl) (fun w => by kernel_rfl) ?_
          obtain ⟨x12, hx11, hF⟩ := M.bind_some hF
          refine Run_E (by kernel_rfl) ?_
          refine E_call (f := 21) (args := #[.slice aaX aX.length caX]) (w_laws_toInt64S h7 aX aaX caX (raX.at H15.ext) _ _ hx11) (by kernel_rfl) (fun v8 h8 hp8 => ?_)
          obtain ⟨a8, c8, rfl, H17⟩ := hp8
          have H18 : Hold h h8 [own cd2 a8 x12.length c8 x12, own cd29 a7 x10.length c7 x10, own cd29 a6 x7.1.length c6 x7.1, own cd2 a5 x6.length c5 x6, own cd29 a4 x5.length c4 x5, own cd29 a3 x4.1.length c3 x4.1, own cd2 a2 x3.length c2 x3, own cd29 a1 x2.length c1 x2] := H15.call H17 rfl
          obtain ⟨x13, hx12, hF⟩ := M.bind_some hF
          refine Run_y (.bool x13) (by kernel_rfl) (Y_callq (f := 23) (args := #[.slice a5 x6.length c5, .slice a8 x12.length c8]) (v := .bool x13) (by kernel_rfl) (w_laws_eqInt64S h8 x6 a5 c5 (H18.rd 3 rfl) x12 a8 c8 (H18.rd 0 rfl) _ _ hx12)) ?_
          refine Run_b [.bool (!x13)] 4 _ (by kernel_rfl) (fun w => by kernel_rfl) ?_
          refine Run_nil (by kernel_rfl) ?_
          refine Run_keep [0, 1, 2, 8, 9, 10, 11, 12, 13, 65] (L' := [(0, .slice aaA aA.length caA), (1, .slice aaX aX.length caX), (2, .int .i64 aN), (8, .slice a3 x4.1.length c3), (9, .int .i64 x4.2), (10, .slice a4 x5.length c4), (11, .slice a5 x6.length c5), (12, .slice a6 x7.1.length c6), (13, .int .i64 x7.2), (65, .bool (!x13))]) (by kernel_rfl) ?_
          refine Run_cond (b := !x13) (by kernel_rfl) (fun hb6 => ?_) (fun hb6 => ?_)
          · have hF := (M.ite_some hF).1 hb6
            refine Run_seq ?_
            refine Run_reg 1 (by kernel_rfl) (L' := [(6, .bool false)]) ?_ ?_
            · refine QRun_b [.bool false] 0 _ (by kernel_rfl) (fun w => by kernel_rfl) ?_
              exact QRun_done [6] (by kernel_rfl) (by kernel_rfl)
            have hF := M.ret_some hF
            subst hF
            have H19 : Hold h h8 [] := H18.pick [] (by kernel_rfl)
            exact Run_ret1 rfl (ResV_tmp (v := .bool false) (by kernel_rfl)) ⟨rfl, H19⟩
          · have hF := (M.ite_some hF).2 hb6
            refine Run_skip ?_
            refine Run_seq ?_
            refine Run_reg 1 (by kernel_rfl) (L' := [(0, .slice aaA aA.length caA), (1, .slice aaX aX.length caX), (2, .int .i64 aN), (8, .slice a3 x4.1.length c3), (9, .int .i64 x4.2), (10, .slice a4 x5.length c4), (11, .slice a5 x6.length c5), (12, .slice a6 x7.1.length c6), (13, .int .i64 x7.2), (14, .int .i64 1)]) ?_ ?_
            · refine QRun_b [.int .i64 1] 0 _ (by kernel_rfl) (fun w => by kernel_rfl) ?_
              exact QRun_done [0, 1, 2, 8, 9, 10, 11, 12, 13, 14] (by kernel_rfl) (by kernel_rfl)
            refine Run_seq ?_
            refine Run_ops ?_
            refine Run_b [.slice a4 x5.length c4, .int .i64 1] 0 _ (by kernel_rfl) (fun w => by kernel_rfl) ?_
            obtain ⟨x14, hx13, hF⟩ := M.bind_some hF
            have H20 : Hold h h8 [own cd29 a4 x5.length c4 x5, own cd2 a8 x12.length c8 x12, own cd29 a7 x10.length c7 x10, own cd29 a6 x7.1.length c6 x7.1, own cd2 a5 x6.length c5 x6, own cd29 a3 x4.1.length c3 x4.1, own cd2 a2 x3.length c2 x3, own cd29 a1 x2.length c1 x2] := H18.pick [4, 0, 1, 2, 3, 5, 6, 7] (by kernel_rfl)
            have H21 : Hold h h8 [own cd29 a4 x5.length c4 x5, bun [own cd2 a8 x12.length c8 x12, own cd29 a7 x10.length c7 x10, own cd29 a6 x7.1.length c6 x7.1, own cd2 a5 x6.length c5 x6, own cd29 a3 x4.1.length c3 x4.1, own cd2 a2 x3.length c2 x3, own cd29 a1 x2.length c1 x2]] := Hold.bundle (S := [own cd29 a4 x5.length c4 x5]) (R := [own cd2 a8 x12.length c8 x12, own cd29 a7 x10.length c7 x10, own cd29 a6 x7.1.length c6 x7.1, own cd2 a5 x6.length c5 x6, own cd29 a3 x4.1.length c3 x4.1, own cd2 a2 x3.length c2 x3, own cd29 a1 x2.length c1 x2]) H20
            refine Run_E (by kernel_rfl) ?_
            refine E_call (f := 24) (args := #[.slice a4 x5.length c4, .int .i64 1]) (w_laws_markInt64SS h h8 _ x5 a4 c4 1 H21 _ _ hx13) (by kernel_rfl) (fun v9 h9 hp9 => ?_)
            obtain ⟨rfl, H22⟩ := hp9
            have H23 : Hold h h9 [own cd29 a4 x5.length c4 x14.2, own cd2 a8 x12.length c8 x12, own cd29 a7 x10.length c7 x10, own cd29 a6 x7.1.length c6 x7.1, own cd2 a5 x6.length c5 x6, own cd29 a3 x4.1.length c3 x4.1, own cd2 a2 x3.length c2 x3, own cd29 a1 x2.length c1 x2] := Hold.unbundle (S := [own cd29 a4 x5.length c4 x14.2]) (R := [own cd2 a8 x12.length c8 x12, own cd29 a7 x10.length c7 x10, own cd29 a6 x7.1.length c6 x7.1, own cd2 a5 x6.length c5 x6, own cd29 a3 x4.1.length c3 x4.1, own cd2 a2 x3.length c2 x3, own cd29 a1 x2.length c1 x2]) H22 (Hold.tailBase (S := [own cd29 a4 x5.length c4 x5]) (R := [own cd2 a8 x12.length c8 x12, own cd29 a7 x10.length c7 x10, own cd29 a6 x7.1.length c6 x7.1, own cd2 a5 x6.length c5 x6, own cd29 a3 x4.1.length c3 x4.1, own cd2 a2 x3.length c2 x3, own cd29 a1 x2.length c1 x2]) H20)
            refine Run_b [.int .i64 x14.1] 3 _ (by kernel_rfl) (fun w => by kernel_rfl) ?_
            refine Run_nil (by kernel_rfl) ?_
            refine Run_keep [0, 1, 2, 8, 9, 11, 12, 13, 14] (L' := [(0, .slice aaA aA.length caA), (1, .slice aaX aX.length caX), (2, .int .i64 aN), (8, .slice a3 x4.1.length c3), (9, .int .i64 x4.2), (11, .slice a5 x6.length c5), (12, .slice a6 x7.1.length c6), (13, .int .i64 x7.2), (14, .int .i64 x14.1)]) (by kernel_rfl) ?_
            refine Run_seq ?_
            refine Run_ops ?_
            refine Run_b [.slice a5 x6.length c5, .int .i64 x14.1] 0 _ (by kernel_rfl) (fun w => by kernel_rfl) ?_
            obtain ⟨x15, hx14, hF⟩ := M.bind_some hF
            have H24 : Hold h h9 [own cd2 a5 x6.length c5 x6, own cd29 a4 x5.length c4 x14.2, own cd2 a8 x12.length c8 x12, own cd29 a7 x10.length c7 x10, own cd29 a6 x7.1.length c6 x7.1, own cd29 a3 x4.1.length c3 x4.1, own cd2 a2 x3.length c2 x3, own cd29 a1 x2.length c1 x2] := H23.pick [4, 0, 1, 2, 3, 5, 6, 7] (by kernel_rfl)
            have H25 : Hold h h9 [own cd2 a5 x6.length c5 x6, bun [own cd29 a4 x5.length c4 x14.2, own cd2 a8 x12.length c8 x12, own cd29 a7 x10.length c7 x10, own cd29 a6 x7.1.length c6 x7.1, own cd29 a3 x4.1.length c3 x4.1, own cd2 a2 x3.length c2 x3, own cd29 a1 x2.length c1 x2]] := Hold.bundle (S := [own cd2 a5 x6.length c5 x6]) (R := [own cd29 a4 x5.length c4 x14.2, own cd2 a8 x12.length c8 x12, own cd29 a7 x10.length c7 x10, own cd29 a6 x7.1.length c6 x7.1, own cd29 a3 x4.1.length c3 x4.1, own cd2 a2 x3.length c2 x3, own cd29 a1 x2.length c1 x2]) H24
            refine Run_E (by kernel_rfl) ?_
            refine E_call (f := 25) (args := #[.slice a5 x6.length c5, .int .i64 x14.1]) (w_laws_markInt64S h h9 _ x6 a5 c5 x14.1 H25 _ _ hx14) (by kernel_rfl) (fun v10 h10 hp10 => ?_)
            obtain ⟨rfl, H26⟩ := hp10
            have H27 : Hold h h10 [own cd2 a5 x6.length c5 x15.2, own cd29 a4 x5.length c4 x14.2, own cd2 a8 x12.length c8 x12, own cd29 a7 x10.length c7 x10, own cd29 a6 x7.1.length c6 x7.1, own cd29 a3 x4.1.length c3 x4.1, own cd2 a2 x3.length c2 x3, own cd29 a1 x2.length c1 x2] := Hold.unbundle (S := [own cd2 a5 x6.length c5 x15.2]) (R := [own cd29 a4 x5.length c4 x14.2, own cd2 a8 x12.length c8 x12, own cd29 a7 x10.length c7 x10, own cd29 a6 x7.1.length c6 x7.1, own cd29 a3 x4.1.length c3 x4.1, own cd2 a2 x3.length c2 x3, own cd29 a1 x2.length c1 x2]) H26 (Hold.tailBase (S := [own cd2 a5 x6.length c5 x6]) (R := [own cd29 a4 x5.length c4 x14.2, own cd2 a8 x12.length c8 x12, own cd29 a7 x10.length c7 x10, own cd29 a6 x7.1.length c6 x7.1, own cd29 a3 x4.1.length c3 x4.1, own cd2 a2 x3.length c2 x3, own cd29 a1 x2.length c1 x2]) H24)
            refine Run_b [.int .i64 x15.1] 3 _ (by kernel_rfl) (fun w => by kernel_rfl) ?_
            refine Run_nil (by kernel_rfl) ?_
            refine Run_keep [0, 1, 2, 8, 9, 12, 13, 14] (L' := [(0, .slice aaA aA.length caA), (1, .slice aaX aX.length caX), (2, .int .i64 aN), (8, .slice a3 x4.1.length c3), (9, .int .i64 x4.2), (12, .slice a6 x7.1.length c6), (13, .int .i64 x7.2), (14, .int .i64 x15.1)]) (by kernel_rfl) ?_
            refine Run_seq ?_
            refine Run_seq ?_
            obtain ⟨x16, gx16, hF⟩ := M.bind_some hF
            refine Run_reg 13 (by kernel_rfl) (L' := [(0, .slice aaA aA.length caA), (1, .slice aaX aX.length caX), (2, .int .i64 aN), (8, .slice a3 x4.1.length c3), (9, .int .i64 x4.2), (12, .slice a6 x7.1.length c6), (84, .bool (x16 || (x7.2 != x4.2)))]) ?_ ?_
            · refine QRun_b [.int .i64 x15.1, .bool (decide (x15.1 < 0))] 0 _ (by kernel_rfl) (fun w => by kernel_rfl) ?_
              refine QRun_seq 8 [(0, .slice aaA aA.length caA), (1, .slice aaX aX.length caX), (2, .int .i64 aN), (8, .slice a3 x4.1.length c3), (9, .int .i64 x4.2), (12, .slice a6 x7.1.length c6), (13, .int .i64 x7.2), (79, .bool x16)] ?_ ?_
              · rcases Bool.eq_false_or_eq_true (decide (x15.1 < 0)) with hb7 | hb7
                · refine QRun_bool (decide (x15.1 < 0)) true (by kernel_rfl) (fun w => by kernel_rfl) hb7 ?_
                  have gx16 := M.ret_some ((M.ite_some gx16).1 hb7)
                  refine QRun_n (by kernel_rfl) ?_
                  refine QRun_n (by kernel_rfl) ?_
                  refine QRun_n (by kernel_rfl) ?_
                  refine QRun_n (by kernel_rfl) ?_
                  refine QRun_bool true x16 (by kernel_rfl) (fun w => by kernel_rfl) gx16 ?_
                  exact QRun_done [0, 1, 2, 8, 9, 12, 13, 79] (by kernel_rfl) (by kernel_rfl)
                · refine QRun_bool (decide (x15.1 < 0)) false (by kernel_rfl) (fun w => by kernel_rfl) hb7 ?_
                  have gx16 := (M.ite_some gx16).2 hb7
                  obtain ⟨x17, hx15, gx16⟩ := M.bind_some gx16
                  have gx16 := M.ret_some gx16
                  refine QRun_b [.slice a6 x7.1.length c6, .slice a3 x4.1.length c3] 3 _ (by kernel_rfl) (fun w => by kernel_rfl) ?_
                  refine QRun_y (.bool x17) (by kernel_rfl) (Y_callq (f := 19) (args := #[.slice a6 x7.1.length c6, .slice a3 x4.1.length c3]) (v := .bool x17) (by kernel_rfl) (w_laws_eqInt64SS h10 x7.1 a6 c6 (H27.rd 4 rfl) x4.1 a3 c3 (H27.rd 5 rfl) _ _ hx15)) ?_
                  refine QRun_b [.bool (!x17)] 6 _ (by kernel_rfl) (fun w => by kernel_rfl) ?_
                  refine QRun_bool (!x17) x16 (by kernel_rfl) (fun w => by kernel_rfl) gx16 ?_
                  exact QRun_done [0, 1, 2, 8, 9, 12, 13, 79] (by kernel_rfl) (by kernel_rfl)
              refine QRun_seq 13 [(0, .slice aaA aA.length caA), (1, .slice aaX aX.length caX), (2, .int .i64 aN), (8, .slice a3 x4.1.length c3), (9, .int .i64 x4.2), (12, .slice a6 x7.1.length c6), (84, .bool (x16 || (x7.2 != x4.2)))] ?_ ?_
              · rcases Bool.eq_false_or_eq_true x16 with hb8 | hb8
                · refine QRun_bool x16 true (by kernel_rfl) (fun w => by kernel_rfl) hb8 ?_
                  refine QRun_n (by kernel_rfl) ?_
                  refine QRun_n (by kernel_rfl) ?_
                  refine QRun_n (by kernel_rfl) ?_
                  refine QRun_bool true (x16 || (x7.2 != x4.2)) (by kernel_rfl) (fun w => by kernel_rfl) (by rw [hb8]; rfl) ?_
                  exact QRun_done [0, 1, 2, 8, 9, 12, 84] (by kernel_rfl) (by kernel_rfl)
                · refine QRun_bool x16 false (by kernel_rfl) (fun w => by kernel_rfl) hb8 ?_
                  refine QRun_b [.int .i64 x7.2, .int .i64 x4.2, .bool (x7.2 != x4.2)] 9 _ (by kernel_rfl) (fun w => by kernel_rfl) ?_
                  refine QRun_bool (x7.2 != x4.2) (x16 || (x7.2 != x4.2)) (by kernel_rfl) (fun w => by kernel_rfl) (by rw [hb8]; rfl) ?_
                  exact QRun_done [0, 1, 2, 8, 9, 12, 84] (by kernel_rfl) (by kernel_rfl)
              exact QRun_done [0, 1, 2, 8, 9, 12, 84] (by kernel_rfl) (by kernel_rfl)
            refine Run_cond (b := x16 || (x7.2 != x4.2)) (by kernel_rfl) (fun hb9 => ?_) (fun hb9 => ?_)
            · have hF := (M.ite_some hF).1 hb9
              refine Run_seq ?_
              refine Run_reg 1 (by kernel_rfl) (L' := [(6, .bool false)]) ?_ ?_
              · refine QRun_b [.bool false] 0 _ (by kernel_rfl) (fun w => by kernel_rfl) ?_
                exact QRun_done [6] (by kernel_rfl) (by kernel_rfl)
              have hF := M.ret_some hF
              subst hF
              have H28 : Hold h h10 [] := H27.pick [] (by kernel_rfl)
              exact Run_ret1 rfl (ResV_tmp (v := .bool false) (by kernel_rfl)) ⟨rfl, H28⟩
            · have hF := (M.ite_some hF).2 hb9
              refine Run_skip ?_
              refine Run_seq ?_
              refine Run_reg 1 (by kernel_rfl) (L' := [(0, .slice aaA aA.length caA), (1, .slice aaX aX.length caX), (2, .int .i64 aN), (8, .slice a3 x4.1.length c3), (9, .int .i64 x4.2), (12, .slice a6 x7.1.length c6), (15, .int .i64 1)]) ?_ ?_
              · refine QRun_b [.int .i64 1] 0 _ (by kernel_rfl) (fun w => by kernel_rfl) ?_
                exact QRun_done [0, 1, 2, 8, 9, 12, 15] (by kernel_rfl) (by kernel_rfl)
              refine Run_seq ?_
              refine Run_ops ?_
              refine Run_b [.slice a6 x7.1.length c6, .int .i64 1] 0 _ (by kernel_rfl) (fun w => by kernel_rfl) ?_
              obtain ⟨x19, hx16, hF⟩ := M.bind_some hF
              have H29 : Hold h h10 [own cd29 a6 x7.1.length c6 x7.1, own cd2 a5 x6.length c5 x15.2, own cd29 a4 x5.length c4 x14.2, own cd2 a8 x12.length c8 x12, own cd29 a7 x10.length c7 x10, own cd29 a3 x4.1.length c3 x4.1, own cd2 a2 x3.length c2 x3, own cd29 a1 x2.length c1 x2] := H27.pick [4, 0, 1, 2, 3, 5, 6, 7] (by kernel_rfl)
              have H30 : Hold h h10 [own cd29 a6 x7.1.length c6 x7.1, bun [own cd2 a5 x6.length c5 x15.2, own cd29 a4 x5.length c4 x14.2, own cd2 a8 x12.length c8 x12, own cd29 a7 x10.length c7 x10, own cd29 a3 x4.1.length c3 x4.1, own cd2 a2 x3.length c2 x3, own cd29 a1 x2.length c1 x2]] := Hold.bundle (S := [own cd29 a6 x7.1.length c6 x7.1]) (R := [own cd2 a5 x6.length c5 x15.2, own cd29 a4 x5.length c4 x14.2, own cd2 a8 x12.length c8 x12, own cd29 a7 x10.length c7 x10, own cd29 a3 x4.1.length c3 x4.1, own cd2 a2 x3.length c2 x3, own cd29 a1 x2.length c1 x2]) H29
              refine Run_E (by kernel_rfl) ?_
              refine E_call (f := 24) (args := #[.slice a6 x7.1.length c6, .int .i64 1]) (w_laws_markInt64SS h h10 _ x7.1 a6 c6 1 H30 _ _ hx16) (by kernel_rfl) (fun v11 h11 hp11 => ?_)
              obtain ⟨rfl, H31⟩ := hp11
              have H32 : Hold h h11 [own cd29 a6 x7.1.length c6 x19.2, own cd2 a5 x6.length c5 x15.2, own cd29 a4 x5.length c4 x14.2, own cd2 a8 x12.length c8 x12, own cd29 a7 x10.length c7 x10, own cd29 a3 x4.1.length c3 x4.1, own cd2 a2 x3.length c2 x3, own cd29 a1 x2.length c1 x2] := Hold.unbundle (S := [own cd29 a6 x7.1.length c6 x19.2]) (R := [own cd2 a5 x6.length c5 x15.2, own cd29 a4 x5.length c4 x14.2, own cd2 a8 x12.length c8 x12, own cd29 a7 x10.length c7 x10, own cd29 a3 x4.1.length c3 x4.1, own cd2 a2 x3.length c2 x3, own cd29 a1 x2.length c1 x2]) H31 (Hold.tailBase (S := [own cd29 a6 x7.1.length c6 x7.1]) (R := [own cd2 a5 x6.length c5 x15.2, own cd29 a4 x5.length c4 x14.2, own cd2 a8 x12.length c8 x12, own cd29 a7 x10.length c7 x10, own cd29 a3 x4.1.length c3 x4.1, own cd2 a2 x3.length c2 x3, own cd29 a1 x2.length c1 x2]) H29)
              refine Run_b [.int .i64 x19.1] 3 _ (by kernel_rfl) (fun w => by kernel_rfl) ?_
              refine Run_nil (by kernel_rfl) ?_
              refine Run_keep [0, 1, 2, 8, 9, 12, 15] (L' := [(0, .slice aaA aA.length caA), (1, .slice aaX aX.length caX), (2, .int .i64 aN), (8, .slice a3 x4.1.length c3), (9, .int .i64 x4.2), (12, .slice a6 x7.1.length c6), (15, .int .i64 x19.1)]) (by kernel_rfl) ?_
              refine Run_seq ?_
              refine Run_reg 1 (by kernel_rfl) (L' := [(0, .slice aaA aA.length caA), (1, .slice aaX aX.length caX), (2, .int .i64 aN), (8, .slice a3 x4.1.length c3), (9, .int .i64 x4.2), (12, .slice a6 x7.1.length c6), (15, .int .i64 x19.1), (16, .int .i64 1)]) ?_ ?_
              · refine QRun_b [.int .i64 1] 0 _ (by kernel_rfl) (fun w => by kernel_rfl) ?_
                exact QRun_done [0, 1, 2, 8, 9, 12, 15, 16] (by kernel_rfl) (by kernel_rfl)
              refine Run_seq ?_
              obtain ⟨x20, hx17, hF⟩ := M.bind_some hF
              refine Run_reg 4 (by kernel_rfl) (L' := [(0, .slice aaA aA.length caA), (1, .slice aaX aX.length caX), (2, .int .i64 aN), (8, .slice a3 x4.1.length c3), (9, .int .i64 x4.2), (12, .slice a6 x7.1.length c6), (15, .int .i64 x19.1), (16, .int .i64 x20)]) ?_ ?_
              · refine QRun_b [.slice a6 x7.1.length c6, .int .i64 1] 0 _ (by kernel_rfl) (fun w => by kernel_rfl) ?_
                refine QRun_y (.int .i64 x20) (by kernel_rfl) (Y_callq (f := 26) (args := #[.slice a6 x7.1.length c6, .int .i64 1]) (v := .int .i64 x20) (by kernel_rfl) (Fn.arg (w_laws_heldInt64SS h11 x19.2 a6 c6 (H32.rd 0 rfl) 1 _ _ hx17) (by simp only [(H32.len 0 rfl)]))) ?_
                refine QRun_b [.int .i64 x20] 3 _ (by kernel_rfl) (fun w => by kernel_rfl) ?_
                exact QRun_done [0, 1, 2, 8, 9, 12, 15, 16] (by kernel_rfl) (by kernel_rfl)
              refine Run_seq ?_
              refine Run_seq ?_
              refine Run_reg 2 (by kernel_rfl) (L' := [(0, .slice aaA aA.length caA), (1, .slice aaX aX.length caX), (2, .int .i64 aN), (8, .slice a3 x4.1.length c3), (9, .int .i64 x4.2), (12, .slice a6 x7.1.length c6), (15, .int .i64 x19.1), (16, .int .i64 x20), (92, .bool (decide (x20 < 0)))]) ?_ ?_
              · refine QRun_b [.int .i64 x20, .bool (decide (x20 < 0))] 0 _ (by kernel_rfl) (fun w => by kernel_rfl) ?_
                exact QRun_done [0, 1, 2, 8, 9, 12, 15, 16, 92] (by kernel_rfl) (by kernel_rfl)
              refine Run_cond (b := decide (x20 < 0)) (by kernel_rfl) (fun hb10 => ?_) (fun hb10 => ?_)
              · have hF := (M.ite_some hF).1 hb10
                refine Run_seq ?_
                refine Run_reg 1 (by kernel_rfl) (L' := [(6, .bool false)]) ?_ ?_
                · refine QRun_b [.bool false] 0 _ (by kernel_rfl) (fun w => by kernel_rfl) ?_
                  exact QRun_done [6] (by kernel_rfl) (by kernel_rfl)
                have hF := M.ret_some hF
                subst hF
                have H33 : Hold h h11 [] := H32.pick [] (by kernel_rfl)
                exact Run_ret1 rfl (ResV_tmp (v := .bool false) (by kernel_rfl)) ⟨rfl, H33⟩
              · have hF := (M.ite_some hF).2 hb10
                refine Run_skip ?_
                refine Run_seq ?_
                refine Run_seq ?_
                refine Run_reg 3 (by kernel_rfl) (L' := [(0, .slice aaA aA.length caA), (1, .slice aaX aX.length caX), (2, .int .i64 aN), (8, .slice a3 x4.1.length c3), (9, .int .i64 x4.2), (12, .slice a6 x7.1.length c6), (15, .int .i64 x19.1), (95, .bool (x20 != x19.1))]) ?_ ?_
                · refine QRun_b [.int .i64 x20, .int .i64 x19.1, .bool (x20 != x19.1)] 0 _ (by kernel_rfl) (fun w => by kernel_rfl) ?_
                  exact QRun_done [0, 1, 2, 8, 9, 12, 15, 95] (by kernel_rfl) (by kernel_rfl)
                refine Run_cond (b := x20 != x19.1) (by kernel_rfl) (fun hb11 => ?_) (fun hb11 => ?_)
                · have hF := (M.ite_some hF).1 hb11
                  refine Run_seq ?_
                  refine Run_reg 1 (by kernel_rfl) (L' := [(6, .bool false)]) ?_ ?_
                  · refine QRun_b [.bool false] 0 _ (by kernel_rfl) (fun w => by kernel_rfl) ?_
                    exact QRun_done [6] (by kernel_rfl) (by kernel_rfl)
                  have hF := M.ret_some hF
                  subst hF
                  have H34 : Hold h h11 [] := H32.pick [] (by kernel_rfl)
                  exact Run_ret1 rfl (ResV_tmp (v := .bool false) (by kernel_rfl)) ⟨rfl, H34⟩
                · have hF := (M.ite_some hF).2 hb11
                  refine Run_skip ?_
                  refine Run_seq ?_
                  refine Run_ops ?_
                  refine Run_b [.slice aaA aA.length caA] 0 _ (by kernel_rfl) (fun w => by kernel_rfl) ?_
                  obtain ⟨x21, hx18, hF⟩ := M.bind_some hF
                  refine Run_E (by kernel_rfl) ?_
                  refine E_call (f := 17) (args := #[.slice aaA aA.length caA]) (w_laws_toInt64SS h11 aA aaA caA (raA.at H32.ext) _ _ hx18) (by kernel_rfl) (fun v12 h12 hp12 => ?_)
                  obtain ⟨a9, c9, rfl, H35⟩ := hp12
                  have H36 : Hold h h12 [own cd29 a9 x21.length c9 x21, own cd29 a6 x7.1.length c6 x19.2, own cd2 a5 x6.length c5 x15.2, own cd29 a4 x5.length c4 x14.2, own cd2 a8 x12.length c8 x12, own cd29 a7 x10.length c7 x10, own cd29 a3 x4.1.length c3 x4.1, own cd2 a2 x3.length c2 x3, own cd29 a1 x2.length c1 x2] := H32.call H35 rfl
                  refine Run_b [.slice aaX aX.length caX] 2 _ (by kernel_rfl) (fun w => by kernel_rfl) ?_
                  obtain ⟨x22, hx19, hF⟩ := M.bind_some hF
                  refine Run_E (by kernel_rfl) ?_
                  refine E_call (f := 21) (args := #[.slice aaX aX.length caX]) (w_laws_toInt64S h12 aX aaX caX (raX.at H36.ext) _ _ hx19) (by kernel_rfl) (fun v13 h13 hp13 => ?_)
                  obtain ⟨a10, c10, rfl, H37⟩ := hp13
                  have H38 : Hold h h13 [own cd2 a10 x22.length c10 x22, own cd29 a9 x21.length c9 x21, own cd29 a6 x7.1.length c6 x19.2, own cd2 a5 x6.length c5 x15.2, own cd29 a4 x5.length c4 x14.2, own cd2 a8 x12.length c8 x12, own cd29 a7 x10.length c7 x10, own cd29 a3 x4.1.length c3 x4.1, own cd2 a2 x3.length c2 x3, own cd29 a1 x2.length c1 x2] := H36.call H37 rfl
                  refine Run_b [.int .i64 aN] 4 _ (by kernel_rfl) (fun w => by kernel_rfl) ?_
                  obtain ⟨x23, hx20, hF⟩ := M.bind_some hF
                  refine Run_E (by kernel_rfl) ?_
                  refine E_call (f := 22) (args := #[.slice a9 x21.length c9, .slice a10 x22.length c10, .int .i64 aN]) (w_impl_OrbitOf h13 x21 a9 c9 (H38.rd 1 rfl) x22 a10 c10 (H38.rd 0 rfl) aN _ _ hx20) (by kernel_rfl) (fun v14 h14 hp14 => ?_)
                  obtain ⟨a11, c11, rfl, H39⟩ := hp14
                  have H40 : Hold h h14 [own cd29 a11 x23.1.length c11 x23.1, own cd2 a10 x22.length c10 x22, own cd29 a9 x21.length c9 x21, own cd29 a6 x7.1.length c6 x19.2, own cd2 a5 x6.length c5 x15.2, own cd29 a4 x5.length c4 x14.2, own cd2 a8 x12.length c8 x12, own cd29 a7 x10.length c7 x10, own cd29 a3 x4.1.length c3 x4.1, own cd2 a2 x3.length c2 x3, own cd29 a1 x2.length c1 x2] := H38.call H39 rfl
                  refine Run_b [.tuple #[.slice a11 x23.1.length c11, .int .i64 x23.2], .slice a11 x23.1.length c11, .int .i64 x23.2, .slice a11 x23.1.length c11, .int .i64 x23.2] 6 _ (by kernel_rfl) (fun w => by kernel_rfl) ?_
                  refine Run_nil (by kernel_rfl) ?_
                  refine Run_keep [8, 9, 12, 15, 17, 18] (L' := [(8, .slice a3 x4.1.length c3), (9, .int .i64 x4.2), (12, .slice a6 x7.1.length c6), (15, .int .i64 x19.1), (17, .slice a11 x23.1.length c11), (18, .int .i64 x23.2)]) (by kernel_rfl) ?_
                  refine Run_seq ?_
                  refine Run_seq ?_
                  obtain ⟨x24, hx21, hF⟩ := M.bind_some hF
                  refine Run_reg 9 (by kernel_rfl) (L' := [(12, .slice a6 x7.1.length c6), (15, .int .i64 x19.1), (113, .bool ((!x24) || (x23.2 != x4.2)))]) ?_ ?_
                  · refine QRun_b [.slice a11 x23.1.length c11, .slice a3 x4.1.length c3] 0 _ (by kernel_rfl) (fun w => by kernel_rfl) ?_
                    refine QRun_y (.bool x24) (by kernel_rfl) (Y_callq (f := 19) (args := #[.slice a11 x23.1.length c11, .slice a3 x4.1.length c3]) (v := .bool x24) (by kernel_rfl) (w_laws_eqInt64SS h14 x23.1 a11 c11 (H40.rd 0 rfl) x4.1 a3 c3 (H40.rd 8 rfl) _ _ hx21)) ?_
                    refine QRun_b [.bool (!x24)] 3 _ (by kernel_rfl) (fun w => by kernel_rfl) ?_
                    refine QRun_seq 9 [(12, .slice a6 x7.1.length c6), (15, .int .i64 x19.1), (113, .bool ((!x24) || (x23.2 != x4.2)))] ?_ ?_
                    · rcases Bool.eq_false_or_eq_true (!x24) with hb12 | hb12
                      · refine QRun_bool (!x24) true (by kernel_rfl) (fun w => by kernel_rfl) hb12 ?_
                        refine QRun_n (by kernel_rfl) ?_
                        refine QRun_n (by kernel_rfl) ?_
                        refine QRun_n (by kernel_rfl) ?_
                        refine QRun_bool true ((!x24) || (x23.2 != x4.2)) (by kernel_rfl) (fun w => by kernel_rfl) (by rw [hb12]; rfl) ?_
                        exact QRun_done [12, 15, 113] (by kernel_rfl) (by kernel_rfl)
                      · refine QRun_bool (!x24) false (by kernel_rfl) (fun w => by kernel_rfl) hb12 ?_
                        refine QRun_b [.int .i64 x23.2, .int .i64 x4.2, .bool (x23.2 != x4.2)] 5 _ (by kernel_rfl) (fun w => by kernel_rfl) ?_
                        refine QRun_bool (x23.2 != x4.2) ((!x24) || (x23.2 != x4.2)) (by kernel_rfl) (fun w => by kernel_rfl) (by rw [hb12]; rfl) ?_
                        exact QRun_done [12, 15, 113] (by kernel_rfl) (by kernel_rfl)
                    exact QRun_done [12, 15, 113] (by kernel_rfl) (by kernel_rfl)
                  refine Run_cond (b := (!x24) || (x23.2 != x4.2)) (by kernel_rfl) (fun hb13 => ?_) (fun hb13 => ?_)
                  · have hF := (M.ite_some hF).1 hb13
                    refine Run_seq ?_
                    refine Run_reg 1 (by kernel_rfl) (L' := [(6, .bool false)]) ?_ ?_
                    · refine QRun_b [.bool false] 0 _ (by kernel_rfl) (fun w => by kernel_rfl) ?_
                      exact QRun_done [6] (by kernel_rfl) (by kernel_rfl)
                    have hF := M.ret_some hF
                    subst hF
                    have H41 : Hold h h14 [] := H40.pick [] (by kernel_rfl)
                    exact Run_ret1 rfl (ResV_tmp (v := .bool false) (by kernel_rfl)) ⟨rfl, H41⟩
                  · have hF := (M.ite_some hF).2 hb13
                    refine Run_skip ?_
                    refine Run_seq ?_
                    refine Run_reg 1 (by kernel_rfl) (L' := [(12, .slice a6 x7.1.length c6), (15, .int .i64 x19.1), (16, .int .i64 1)]) ?_ ?_
                    · refine QRun_b [.int .i64 1] 0 _ (by kernel_rfl) (fun w => by kernel_rfl) ?_
                      exact QRun_done [12, 15, 16] (by kernel_rfl) (by kernel_rfl)
                    refine Run_seq ?_
                    obtain ⟨x26, hx22, hF⟩ := M.bind_some hF
                    refine Run_reg 4 (by kernel_rfl) (L' := [(15, .int .i64 x19.1), (16, .int .i64 x26)]) ?_ ?_
                    · refine QRun_b [.slice a6 x7.1.length c6, .int .i64 1] 0 _ (by kernel_rfl) (fun w => by kernel_rfl) ?_
                      refine QRun_y (.int .i64 x26) (by kernel_rfl) (Y_callq (f := 26) (args := #[.slice a6 x7.1.length c6, .int .i64 1]) (v := .int .i64 x26) (by kernel_rfl) (Fn.arg (w_laws_heldInt64SS h14 x19.2 a6 c6 (H40.rd 3 rfl) 1 _ _ hx22) (by simp only [(H40.len 3 rfl)]))) ?_
                      refine QRun_b [.int .i64 x26] 3 _ (by kernel_rfl) (fun w => by kernel_rfl) ?_
                      exact QRun_done [15, 16] (by kernel_rfl) (by kernel_rfl)
                    refine Run_seq ?_
                    refine Run_seq ?_
                    refine Run_reg 2 (by kernel_rfl) (L' := [(15, .int .i64 x19.1), (16, .int .i64 x26), (118, .bool (decide (x26 < 0)))]) ?_ ?_
                    · refine QRun_b [.int .i64 x26, .bool (decide (x26 < 0))] 0 _ (by kernel_rfl) (fun w => by kernel_rfl) ?_
                      exact QRun_done [15, 16, 118] (by kernel_rfl) (by kernel_rfl)
                    refine Run_cond (b := decide (x26 < 0)) (by kernel_rfl) (fun hb14 => ?_) (fun hb14 => ?_)
                    · have hF := (M.ite_some hF).1 hb14
                      refine Run_seq ?_
                      refine Run_reg 1 (by kernel_rfl) (L' := [(6, .bool false)]) ?_ ?_
                      · refine QRun_b [.bool false] 0 _ (by kernel_rfl) (fun w => by kernel_rfl) ?_
                        exact QRun_done [6] (by kernel_rfl) (by kernel_rfl)
                      have hF := M.ret_some hF
                      subst hF
                      have H42 : Hold h h14 [] := H40.pick [] (by kernel_rfl)
                      exact Run_ret1 rfl (ResV_tmp (v := .bool false) (by kernel_rfl)) ⟨rfl, H42⟩
                    · have hF := (M.ite_some hF).2 hb14
                      refine Run_skip ?_
                      refine Run_seq ?_
                      refine Run_seq ?_
                      refine Run_reg 3 (by kernel_rfl) (L' := [(121, .bool (x26 != x19.1))]) ?_ ?_
                      · refine QRun_b [.int .i64 x26, .int .i64 x19.1, .bool (x26 != x19.1)] 0 _ (by kernel_rfl) (fun w => by kernel_rfl) ?_
                        exact QRun_done [121] (by kernel_rfl) (by kernel_rfl)
                      refine Run_cond (b := x26 != x19.1) (by kernel_rfl) (fun hb15 => ?_) (fun hb15 => ?_)
                      · have hF := (M.ite_some hF).1 hb15
                        refine Run_seq ?_
                        refine Run_reg 1 (by kernel_rfl) (L' := [(6, .bool false)]) ?_ ?_
                        · refine QRun_b [.bool false] 0 _ (by kernel_rfl) (fun w => by kernel_rfl) ?_
                          exact QRun_done [6] (by kernel_rfl) (by kernel_rfl)
                        have hF := M.ret_some hF
                        subst hF
                        have H43 : Hold h h14 [] := H40.pick [] (by kernel_rfl)
                        exact Run_ret1 rfl (ResV_tmp (v := .bool false) (by kernel_rfl)) ⟨rfl, H43⟩
                      · have hF := (M.ite_some hF).2 hb15
                        refine Run_skip ?_
                        refine Run_seq ?_
                        refine Run_reg 1 (by kernel_rfl) (L' := [(6, .bool true)]) ?_ ?_
                        · refine QRun_b [.bool true] 0 _ (by kernel_rfl) (fun w => by kernel_rfl) ?_
                          exact QRun_done [6] (by kernel_rfl) (by kernel_rfl)
                        have hF := M.ret_some hF
                        subst hF
                        have H44 : Hold h h14 [] := H40.pick [] (by kernel_rfl)
                        exact Run_ret1 rfl (ResV_tmp (v := .bool true) (by kernel_rfl)) ⟨rfl, H44⟩

end Go.Proofs.Ytjdilhpekknejaa
