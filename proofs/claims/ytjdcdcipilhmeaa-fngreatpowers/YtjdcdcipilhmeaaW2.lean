/-
  Walks: each Go function, called with what reads as plain data, returns what its plain program computes.
  Conditions: None beyond the given statement.
-/
import Derived.Test.YtjdcdcipilhmeaaW1
namespace Go.Proofs.Ytjdcdcipilhmeaa
open Go
attribute [local irreducible] setL setB opA fineI idleI fineB evB okB markB markBs readyB readyBs chainB lk rho pickL dropSlot tailOK
set_option maxRecDepth 100000 in
set_option maxHeartbeats 4000000 in
theorem w_spec_l07At_BQ0 (h hE : Heap) (it : Item) (s_ : TL07series) (bs_ : Nat) (as_a : Option Addr) (cs_a : Nat) (rs_a : Rd cd23 h (Lt h) as_a cs_a s_.a) (as_last : Option Addr) (cs_last : Nat) (as_lists : Option Addr) (cs_lists : Nat) (k_ : Int) (HM : Hold h hE [box bs_ 96 [.slice as_a s_.a.length cs_a, .slice as_last s_.last.length cs_last, .slice as_lists s_.lists.length cs_lists], own cd23 as_last s_.last.length cs_last s_.last, rowsQ cd2 23 as_lists s_.lists.length cs_lists s_.lists [], it]) (n : Nat) (r : (List Int) × Bool × TL07series) (hF : spec_l07At_BQ0 s_ k_ n = some r) :
    Fn Try.prog 95 #[.pointer (some ⟨bs_, 0, none⟩), .int .i64 k_] hE fun v h' => ∃ (a0 : Option Addr) (c0 : Nat), ∃ (a1 : Option Addr) (c1 : Nat), ∃ (a2 : Option Addr) (c2 : Nat), v = .tuple #[.slice a0 r.1.length c0, .bool r.2.1] ∧ Hold h h' [box bs_ 96 [.slice as_a s_.a.length cs_a, .slice a1 r.2.2.last.length c1, .slice a2 r.2.2.lists.length c2], own cd23 a1 r.2.2.last.length c1 r.2.2.last, rowsQ cd2 23 a2 r.2.2.lists.length c2 r.2.2.lists [(a0, c0, r.1)], it] := by
  unfold spec_l07At_BQ0 at hF
  refine Fn_enter (args := [.pointer (some ⟨bs_, 0, none⟩), .int .i64 k_]) Try.func95 rfl (by kernel_rfl) (by kernel_rfl) (fun w0 _ => ?_)
  refine Run_seq ?_
  refine Run_reg 2 (by kernel_rfl) (L' := [(0, .pointer (some ⟨bs_, 0, none⟩)), (1, .int .i64 k_)]) ?_ ?_
  · refine QRun_b [.slice none 0 0, .bool false] 0 _ (by kernel_rfl) (fun w => by kernel_rfl) ?_
    exact QRun_done [0, 1] (by kernel_rfl) (by kernel_rfl)
  refine Run_seq ?_
  obtain ⟨x1, gx1, hF⟩ := M.bind_some hF
  refine Run_join (fun L' h' => ∃ (s2 : (List (List Int)) × (List (List Int))) (a3 : Option Addr) (c3 : Nat) (a4 : Option Addr) (c4 : Nat), x1 = .inl s2 ∧ L' = [(0, .pointer (some ⟨bs_, 0, none⟩)), (1, .int .i64 k_)] ∧ Hold h h' [box bs_ 96 [.slice as_a s_.a.length cs_a, .slice a3 s2.1.length c3, .slice a4 s2.2.length c4], own cd23 a3 s2.1.length c3 s2.1, rowsQ cd2 23 a4 s2.2.length c4 s2.2 [], it]) ?_ ?_
  · rintro _ h2 ⟨s2, a3, c3, a4, c4, es2, rfl, H2⟩
    have hF := M.cont_inl' hF es2
    refine Run_seq ?_
    obtain ⟨x5, hx4, hF⟩ := M.bind_some hF
    obtain ⟨hx4l, hx4u, hx4⟩ := M.idx_some hx4
    have H37 : Hold h h2 [rowsQ cd2 23 a4 s2.2.length c4 s2.2 [], box bs_ 96 [.slice as_a s_.a.length cs_a, .slice a3 s2.1.length c3, .slice a4 s2.2.length c4], own cd23 a3 s2.1.length c3 s2.1, it] := H2.pick [2, 0, 1, 3] (by kernel_rfl)
    obtain ⟨a9, c8, hc1, H38⟩ := H37.peekRow hx4
    have H39 : Hold h h2 [box bs_ 96 [.slice as_a s_.a.length cs_a, .slice a3 s2.1.length c3, .slice a4 s2.2.length c4], own cd23 a3 s2.1.length c3 s2.1, rowsQ cd2 23 a4 s2.2.length c4 s2.2 [(a9, c8, x5)], it] := H38.pick [1, 2, 0, 3] (by kernel_rfl)
    refine Run_reg 9 (by kernel_rfl) (L' := [(4, .slice a9 x5.length c8), (5, .bool true)]) ?_ ?_
    · refine QRun_b [.pointer (some ⟨bs_, 0, none⟩), .pointer (some ⟨bs_, 0, none⟩), .pointer (some ⟨bs_, 2, none⟩)] 0 _ (by kernel_rfl) (fun w => by kernel_rfl) ?_
      refine QRun_y (.slice a4 s2.2.length c4) (by kernel_rfl) (Y_load1 (t := 22) (p := ⟨bs_, 2, none⟩) (v := .slice a4 s2.2.length c4) (by kernel_rfl) (fun w => by kernel_rfl) (H2.cell 0 rfl rfl)) ?_
      refine QRun_b [.int .i64 k_] 4 _ (by kernel_rfl) (fun w => by kernel_rfl) ?_
      refine QRun_y (.pointer (some (adr a4 (k_.toNat * 1)))) (by kernel_rfl) (Y_idx (t := 22) (e := 23) (sz := 1) (a := a4) (n := s2.2.length) (cap := c4) (kk := .i64) (i := k_) (by kernel_rfl) Try.underlying22 (by kernel_rfl) ((H2.rdQ 2 rfl).cell hx4).1 hx4l hx4u) ?_
      refine QRun_y (.slice a9 x5.length c8) (by kernel_rfl) (Y_load1 (t := 23) (p := adr a4 (k_.toNat * 1)) (v := .slice a9 x5.length c8) (by kernel_rfl) (fun w => by kernel_rfl) hc1) ?_
      refine QRun_b [.slice a9 x5.length c8, .bool true] 7 _ (by kernel_rfl) (fun w => by kernel_rfl) ?_
      exact QRun_done [4, 5] (by kernel_rfl) (by kernel_rfl)
    have hF := M.ret_some hF
    subst hF
    have H40 : Hold h h2 [rowsQ cd2 23 a4 s2.2.length c4 s2.2 [(a9, c8, x5)], box bs_ 96 [.slice as_a s_.a.length cs_a, .slice a3 s2.1.length c3, .slice a4 s2.2.length c4], own cd23 a3 s2.1.length c3 s2.1, it] := H39.pick [2, 0, 1, 3] (by kernel_rfl)
    have H41 : Hold h h2 [own cd23 a3 s2.1.length c3 s2.1, rowsQ cd2 23 a4 s2.2.length c4 s2.2 [(a9, c8, x5)], box bs_ 96 [.slice as_a s_.a.length cs_a, .slice a3 s2.1.length c3, .slice a4 s2.2.length c4], it] := H40.pick [2, 0, 1, 3] (by kernel_rfl)
    have H42 : Hold h h2 [rowsQ cd2 23 a4 s2.2.length c4 s2.2 [(a9, c8, x5)], own cd23 a3 s2.1.length c3 s2.1, box bs_ 96 [.slice as_a s_.a.length cs_a, .slice a3 s2.1.length c3, .slice a4 s2.2.length c4], it] := H41.pick [1, 0, 2, 3] (by kernel_rfl)
    have H43 : Hold h h2 [box bs_ 96 [.slice as_a s_.a.length cs_a, .slice a3 s2.1.length c3, .slice a4 s2.2.length c4], own cd23 a3 s2.1.length c3 s2.1, rowsQ cd2 23 a4 s2.2.length c4 s2.2 [(a9, c8, x5)], it] := H42.pick [2, 1, 0, 3] (by kernel_rfl)
    exact Run_ret2 rfl (ResV_tmp (v := .slice a9 x5.length c8) (by kernel_rfl)) (ResV_tmp (v := .bool true) (by kernel_rfl)) ⟨a9, c8, a3, c3, a4, c4, rfl, H43⟩
  · refine Run_block ?_
    have H44 : Hold h hE [own cd23 as_last s_.last.length cs_last s_.last, box bs_ 96 [.slice as_a s_.a.length cs_a, .slice as_last s_.last.length cs_last, .slice as_lists s_.lists.length cs_lists], rowsQ cd2 23 as_lists s_.lists.length cs_lists s_.lists [], it] := HM.pick [1, 0, 2, 3] (by kernel_rfl)
    have H45 : Hold h hE [rowsQ cd2 23 as_lists s_.lists.length cs_lists s_.lists [], own cd23 as_last s_.last.length cs_last s_.last, box bs_ 96 [.slice as_a s_.a.length cs_a, .slice as_last s_.last.length cs_last, .slice as_lists s_.lists.length cs_lists], it] := H44.pick [2, 0, 1, 3] (by kernel_rfl)
    have H46 : Hold h hE [box bs_ 96 [.slice as_a s_.a.length cs_a, .slice as_last s_.last.length cs_last, .slice as_lists s_.lists.length cs_lists], own cd23 as_last s_.last.length cs_last s_.last, rowsQ cd2 23 as_lists s_.lists.length cs_lists s_.lists [], it] := H45.pick [2, 1, 0, 3] (by kernel_rfl)
    refine Run_keep [0, 1] (L' := [(0, .pointer (some ⟨bs_, 0, none⟩)), (1, .int .i64 k_)]) (by kernel_rfl) ?_
    refine Run_loop (fun m L' h' => ∃ (s1 : (List (List Int)) × (List (List Int))) (a1 : Option Addr) (c1 : Nat) (a2 : Option Addr) (c2 : Nat), M.loopN _ n m s1 = some x1 ∧ L' = [(0, .pointer (some ⟨bs_, 0, none⟩)), (1, .int .i64 k_)] ∧ Hold h h' [box bs_ 96 [.slice as_a s_.a.length cs_a, .slice a1 s1.1.length c1, .slice a2 s1.2.length c2], own cd23 a1 s1.1.length c1 s1.1, rowsQ cd2 23 a2 s1.2.length c2 s1.2 [], it]) n ⟨(s_.last, s_.lists), as_last, cs_last, as_lists, cs_lists, gx1, rfl, H46⟩ ?_
    rintro my1 _ h1 ⟨s1, a1, c1, a2, c2, gx1, rfl, H1⟩
    obtain ⟨my1, y1, rfl, hB1, hgoy1, houty1⟩ := M.loop_some gx1
    refine Run_seq ?_
    refine Run_seq ?_
    refine Run_reg 7 (by kernel_rfl) (L' := [(0, .pointer (some ⟨bs_, 0, none⟩)), (1, .int .i64 k_), (12, .bool (decide ((s1.2.length : Int) ≤ k_)))]) ?_ ?_
    · refine QRun_b [.pointer (some ⟨bs_, 0, none⟩), .pointer (some ⟨bs_, 0, none⟩), .pointer (some ⟨bs_, 2, none⟩)] 0 _ (by kernel_rfl) (fun w => by kernel_rfl) ?_
      refine QRun_y (.slice a2 s1.2.length c2) (by kernel_rfl) (Y_load1 (t := 22) (p := ⟨bs_, 2, none⟩) (v := .slice a2 s1.2.length c2) (by kernel_rfl) (fun w => by kernel_rfl) (H1.cell 0 rfl rfl)) ?_
      refine QRun_b [.int .i64 (s1.2.length : Int), .int .i64 k_, .bool (decide ((s1.2.length : Int) ≤ k_))] 4 _ (by kernel_rfl) (fun w => by kernel_rfl) ?_
      exact QRun_done [0, 1, 12] (by kernel_rfl) (by kernel_rfl)
    refine Run_cond (b := decide ((s1.2.length : Int) ≤ k_)) (by kernel_rfl) (fun hb1 => ?_) (fun hb1 => ?_)
    · have hB1 := (M.ite_some hB1).1 hb1
      refine Run_skip ?_
      refine Run_block ?_
      refine Run_seq ?_
      refine Run_D (fun x => Hold h x [box bs_ 96 [.slice as_a s_.a.length cs_a, .slice a1 s1.1.length c1, .slice a2 s1.2.length c2], own cd23 a1 s1.1.length c1 s1.1, rowsQ cd2 23 a2 s1.2.length c2 s1.2 [], it]) (fun x => Hold h x [box bs_ 96 [.slice as_a s_.a.length cs_a, .slice a1 s1.1.length c1, .slice a2 s1.2.length c2], own cd23 a1 s1.1.length c1 s1.1, rowsQ cd2 23 a2 s1.2.length c2 s1.2 [], it]) mixed (by kernel_rfl) H1 Hold.stable (fun x Hy => (show Hold h x [box bs_ 96 [.slice as_a s_.a.length cs_a, .slice a1 s1.1.length c1, .slice a2 s1.2.length c2], own cd23 a1 s1.1.length c1 s1.1, rowsQ cd2 23 a2 s1.2.length c2 s1.2 [], it] from Hy).pick [0, 1, 2, 3] (by kernel_rfl)) ?_
      refine DR_b 9 [.pointer (some ⟨bs_, 0, none⟩), .pointer (some ⟨bs_, 0, none⟩), .pointer (some ⟨bs_, 0, none⟩), .pointer (some ⟨bs_, 0, none⟩)] 0 (by kernel_rfl) (by kernel_rfl) (by kernel_rfl) (fun w => by kernel_rfl) ?_
      refine DR_y 8 (i := 4) (.slice as_a s_.a.length cs_a) (by kernel_rfl) (by kernel_rfl) (by kernel_rfl) (fun hx Hx => (YE.of (Y_load1 (t := 22) (p := ⟨bs_, 0, none⟩) (v := .slice as_a s_.a.length cs_a) (by kernel_rfl) (fun w => by kernel_rfl) (Hx.cell 0 rfl rfl)))) ?_
      refine DR_b 5 [.pointer (some ⟨bs_, 0, none⟩), .pointer (some ⟨bs_, 0, none⟩), .pointer (some ⟨bs_, 1, none⟩)] 5 (by kernel_rfl) (by kernel_rfl) (by kernel_rfl) (fun w => by kernel_rfl) ?_
      refine DR_y 4 (i := 8) (.slice a1 s1.1.length c1) (by kernel_rfl) (by kernel_rfl) (by kernel_rfl) (fun hx Hx => (YE.of (Y_load1 (t := 22) (p := ⟨bs_, 1, none⟩) (v := .slice a1 s1.1.length c1) (by kernel_rfl) (fun w => by kernel_rfl) (Hx.cell 0 rfl rfl)))) ?_
      refine DR_e 3 9 (by kernel_rfl) (by kernel_rfl) (by kernel_rfl) (fun h3 H3 => ?_)
      have H4 : Hold h h3 [box bs_ 96 [.slice as_a s_.a.length cs_a, .slice a1 s1.1.length c1, .slice a2 s1.2.length c2], own cd23 a1 s1.1.length c1 s1.1, rowsQ cd2 23 a2 s1.2.length c2 s1.2 [], it] := H3
      obtain ⟨x2, hx1, hB1⟩ := M.bind_some hB1
      refine E_call (f := 143) (args := #[.slice as_a s_.a.length cs_a, .slice a1 s1.1.length c1]) (w_spec_l02Multiply h3 s_.a as_a cs_a (rs_a.at H4.ext) s1.1 a1 c1 (H4.rd 1 rfl) _ _ hx1) (by kernel_rfl) (fun v1 h4 hp1 => ?_)
      obtain ⟨a5, c5, rfl, H5⟩ := hp1
      have H6 : Hold h h4 [own cd23 a5 x2.length c5 x2, box bs_ 96 [.slice as_a s_.a.length cs_a, .slice a1 s1.1.length c1, .slice a2 s1.2.length c2], own cd23 a1 s1.1.length c1 s1.1, rowsQ cd2 23 a2 s1.2.length c2 s1.2 [], it] := H4.call H5 rfl
      refine ⟨fun x => Hold h x [box bs_ 96 [.slice as_a s_.a.length cs_a, .slice a1 s1.1.length c1, .slice a2 s1.2.length c2], own cd23 a1 s1.1.length c1 s1.1, rowsQ cd2 23 a2 s1.2.length c2 s1.2 [], it, own cd23 a5 x2.length c5 x2], fun x => Hold h x [own cd23 a5 x2.length c5 x2, box bs_ 96 [.slice as_a s_.a.length cs_a, .slice a1 s1.1.length c1, .slice a2 s1.2.length c2], own cd23 a1 s1.1.length c1 s1.1, rowsQ cd2 23 a2 s1.2.length c2 s1.2 [], it], H6, Hold.stable, fun x Hy => (show Hold h x [own cd23 a5 x2.length c5 x2, box bs_ 96 [.slice as_a s_.a.length cs_a, .slice a1 s1.1.length c1, .slice a2 s1.2.length c2], own cd23 a1 s1.1.length c1 s1.1, rowsQ cd2 23 a2 s1.2.length c2 s1.2 [], it] from Hy).pick [1, 2, 3, 4, 0] (by kernel_rfl), fun x Hy => (show Hold h x [box bs_ 96 [.slice as_a s_.a.length cs_a, .slice a1 s1.1.length c1, .slice a2 s1.2.length c2], own cd23 a1 s1.1.length c1 s1.1, rowsQ cd2 23 a2 s1.2.length c2 s1.2 [], it, own cd23 a5 x2.length c5 x2] from Hy).pick [0, 1, 2, 3] (by kernel_rfl), ?_⟩
      refine DR_b 1 [.pointer (some ⟨bs_, 0, none⟩), .pointer (some ⟨bs_, 1, none⟩)] 10 (by kernel_rfl) (by kernel_rfl) (by kernel_rfl) (fun w => by kernel_rfl) ?_
      refine DR_tail (i := 12) (by kernel_rfl) (by kernel_rfl) (by kernel_rfl) (fun h5 H7 => ?_)
      have H8 : Hold h h5 [own cd23 a5 x2.length c5 x2, box bs_ 96 [.slice as_a s_.a.length cs_a, .slice a1 s1.1.length c1, .slice a2 s1.2.length c2], own cd23 a1 s1.1.length c1 s1.1, rowsQ cd2 23 a2 s1.2.length c2 s1.2 [], it] := H7
      have H10 : Hold h h5 [box bs_ 96 [.slice as_a s_.a.length cs_a, .slice a1 s1.1.length c1, .slice a2 s1.2.length c2], own cd23 a5 x2.length c5 x2, own cd23 a1 s1.1.length c1 s1.1, rowsQ cd2 23 a2 s1.2.length c2 s1.2 [], it] := H8.pick [1, 0, 2, 3, 4] (by kernel_rfl)
      refine Run_E (by kernel_rfl) ?_
      refine E_bput (t := 22) (off := 1) (us := [.slice as_a s_.a.length cs_a, .slice a5 x2.length c5, .slice a2 s1.2.length c2]) (v := .slice a5 x2.length c5) H10 (by kernel_rfl) (by kernel_rfl) rfl (by kernel_rfl) rfl (fun h6 H9 => ?_)
      refine Run_nil (by kernel_rfl) ?_
      refine Run_keep [0, 1] (L' := [(0, .pointer (some ⟨bs_, 0, none⟩)), (1, .int .i64 k_)]) (by kernel_rfl) ?_
      refine Run_seq ?_
      refine Run_seq ?_
      obtain ⟨x3, hx2, hB1⟩ := M.bind_some hB1
      refine Run_reg 6 (by kernel_rfl) (L' := [(0, .pointer (some ⟨bs_, 0, none⟩)), (1, .int .i64 k_), (30, .bool (!x3))]) ?_ ?_
      · refine QRun_b [.pointer (some ⟨bs_, 0, none⟩), .pointer (some ⟨bs_, 0, none⟩), .pointer (some ⟨bs_, 1, none⟩)] 0 _ (by kernel_rfl) (fun w => by kernel_rfl) ?_
        refine QRun_y (.slice a5 x2.length c5) (by kernel_rfl) (Y_load1 (t := 22) (p := ⟨bs_, 1, none⟩) (v := .slice a5 x2.length c5) (by kernel_rfl) (fun w => by kernel_rfl) (H9.cell 0 rfl rfl)) ?_
        refine QRun_y (.bool x3) (by kernel_rfl) (Y_callq (f := 131) (args := #[.slice a5 x2.length c5]) (v := .bool x3) (by kernel_rfl) (w_spec_IsMatrix h6 x2 a5 c5 (H9.rd 1 rfl) _ _ hx2)) ?_
        refine QRun_b [.bool (!x3)] 5 _ (by kernel_rfl) (fun w => by kernel_rfl) ?_
        exact QRun_done [0, 1, 30] (by kernel_rfl) (by kernel_rfl)
      refine Run_cond (b := !x3) (by kernel_rfl) (fun hb2 => ?_) (fun hb2 => ?_)
      · have hB1 := (M.ite_some hB1).1 hb2
        refine Run_seq ?_
        refine Run_reg 2 (by kernel_rfl) (L' := [(4, .slice none 0 0), (5, .bool false)]) ?_ ?_
        · refine QRun_b [.slice none 0 0, .bool false] 0 _ (by kernel_rfl) (fun w => by kernel_rfl) ?_
          exact QRun_done [4, 5] (by kernel_rfl) (by kernel_rfl)
        have hB1 := M.ret_some hB1
        have gx1 := houty1 _ hB1.symm
        have hF := M.cont_inr' hF gx1
        have hF := M.ret_some hF
        subst hF
        have H11 : Hold h h6 [rowsQ cd2 23 a2 s1.2.length c2 s1.2 [], box bs_ 96 [.slice as_a s_.a.length cs_a, .slice a5 x2.length c5, .slice a2 s1.2.length c2], own cd23 a5 x2.length c5 x2, own cd23 a1 s1.1.length c1 s1.1, it] := H9.pick [3, 0, 1, 2, 4] (by kernel_rfl)
        have H12 := H11.nilPeek
        have H13 : Hold h h6 [own cd23 a5 x2.length c5 x2, rowsQ cd2 23 a2 s1.2.length c2 s1.2 [(none, 0, [])], box bs_ 96 [.slice as_a s_.a.length cs_a, .slice a5 x2.length c5, .slice a2 s1.2.length c2], own cd23 a1 s1.1.length c1 s1.1, it] := H12.pick [2, 0, 1, 3, 4] (by kernel_rfl)
        have H14 : Hold h h6 [rowsQ cd2 23 a2 s1.2.length c2 s1.2 [(none, 0, [])], own cd23 a5 x2.length c5 x2, box bs_ 96 [.slice as_a s_.a.length cs_a, .slice a5 x2.length c5, .slice a2 s1.2.length c2], own cd23 a1 s1.1.length c1 s1.1, it] := H13.pick [1, 0, 2, 3, 4] (by kernel_rfl)
        have H15 : Hold h h6 [box bs_ 96 [.slice as_a s_.a.length cs_a, .slice a5 x2.length c5, .slice a2 s1.2.length c2], own cd23 a5 x2.length c5 x2, rowsQ cd2 23 a2 s1.2.length c2 s1.2 [(none, 0, [])], it] := H14.pick [2, 1, 0, 4] (by kernel_rfl)
        exact Run_ret2 rfl (ResV_tmp (v := .slice none 0 0) (by kernel_rfl)) (ResV_tmp (v := .bool false) (by kernel_rfl)) ⟨none, 0, a5, c5, a2, c2, rfl, H15⟩
      · have hB1 := (M.ite_some hB1).2 hb2
        refine Run_skip ?_
        refine Run_D (fun x => Hold h x [box bs_ 96 [.slice as_a s_.a.length cs_a, .slice a5 x2.length c5, .slice a2 s1.2.length c2], own cd23 a5 x2.length c5 x2, own cd23 a1 s1.1.length c1 s1.1, it]) (fun x => Hold h x [box bs_ 96 [.slice as_a s_.a.length cs_a, .slice a5 x2.length c5, .slice a2 s1.2.length c2], own cd23 a5 x2.length c5 x2, own cd23 a1 s1.1.length c1 s1.1, rowsQ cd2 23 a2 s1.2.length c2 s1.2 [], it]) mixed (by kernel_rfl) H9 Hold.stable (fun x Hy => (show Hold h x [box bs_ 96 [.slice as_a s_.a.length cs_a, .slice a5 x2.length c5, .slice a2 s1.2.length c2], own cd23 a5 x2.length c5 x2, own cd23 a1 s1.1.length c1 s1.1, rowsQ cd2 23 a2 s1.2.length c2 s1.2 [], it] from Hy).pick [0, 1, 2, 4] (by kernel_rfl)) ?_
        refine DR_b 11 [.pointer (some ⟨bs_, 0, none⟩), .pointer (some ⟨bs_, 0, none⟩), .pointer (some ⟨bs_, 0, none⟩), .pointer (some ⟨bs_, 2, none⟩)] 0 (by kernel_rfl) (by kernel_rfl) (by kernel_rfl) (fun w => by kernel_rfl) ?_
        refine DR_y 10 (i := 4) (.slice a2 s1.2.length c2) (by kernel_rfl) (by kernel_rfl) (by kernel_rfl) (fun hx Hx => (YE.of (Y_load1 (t := 22) (p := ⟨bs_, 2, none⟩) (v := .slice a2 s1.2.length c2) (by kernel_rfl) (fun w => by kernel_rfl) (Hx.cell 0 rfl rfl)))) ?_
        refine DR_b 7 [.pointer (some ⟨bs_, 0, none⟩), .pointer (some ⟨bs_, 0, none⟩), .pointer (some ⟨bs_, 1, none⟩)] 5 (by kernel_rfl) (by kernel_rfl) (by kernel_rfl) (fun w => by kernel_rfl) ?_
        refine DR_y 6 (i := 8) (.slice a5 x2.length c5) (by kernel_rfl) (by kernel_rfl) (by kernel_rfl) (fun hx Hx => (YE.of (Y_load1 (t := 22) (p := ⟨bs_, 1, none⟩) (v := .slice a5 x2.length c5) (by kernel_rfl) (fun w => by kernel_rfl) (Hx.cell 0 rfl rfl)))) ?_
        refine DR_e 5 9 (by kernel_rfl) (by kernel_rfl) (by kernel_rfl) (fun h7 H16 => ?_)
        have H17 : Hold h h7 [box bs_ 96 [.slice as_a s_.a.length cs_a, .slice a5 x2.length c5, .slice a2 s1.2.length c2], own cd23 a5 x2.length c5 x2, own cd23 a1 s1.1.length c1 s1.1, rowsQ cd2 23 a2 s1.2.length c2 s1.2 [], it] := H16
        obtain ⟨x4, hx3, hB1⟩ := M.bind_some hB1
        refine E_call (f := 132) (args := #[.slice a5 x2.length c5]) (w_spec_l07Flat h7 x2 a5 c5 (H17.rd 1 rfl) _ _ hx3) (by kernel_rfl) (fun v2 h8 hp2 => ?_)
        obtain ⟨a6, c6, rfl, H18⟩ := hp2
        have H19 : Hold h h8 [own cd2 a6 x4.length c6 x4, box bs_ 96 [.slice as_a s_.a.length cs_a, .slice a5 x2.length c5, .slice a2 s1.2.length c2], own cd23 a5 x2.length c5 x2, own cd23 a1 s1.1.length c1 s1.1, rowsQ cd2 23 a2 s1.2.length c2 s1.2 [], it] := H17.call H18 rfl
        refine ⟨fun x => Hold h x [box bs_ 96 [.slice as_a s_.a.length cs_a, .slice a5 x2.length c5, .slice a2 s1.2.length c2], own cd23 a5 x2.length c5 x2, own cd23 a1 s1.1.length c1 s1.1, it], fun x => Hold h x [own cd2 a6 x4.length c6 x4, box bs_ 96 [.slice as_a s_.a.length cs_a, .slice a5 x2.length c5, .slice a2 s1.2.length c2], own cd23 a5 x2.length c5 x2, own cd23 a1 s1.1.length c1 s1.1, rowsQ cd2 23 a2 s1.2.length c2 s1.2 [], it], H19, Hold.stable, fun x Hy => (show Hold h x [own cd2 a6 x4.length c6 x4, box bs_ 96 [.slice as_a s_.a.length cs_a, .slice a5 x2.length c5, .slice a2 s1.2.length c2], own cd23 a5 x2.length c5 x2, own cd23 a1 s1.1.length c1 s1.1, rowsQ cd2 23 a2 s1.2.length c2 s1.2 [], it] from Hy).pick [1, 2, 3, 5] (by kernel_rfl), fun x Hy => (show Hold h x [box bs_ 96 [.slice as_a s_.a.length cs_a, .slice a5 x2.length c5, .slice a2 s1.2.length c2], own cd23 a5 x2.length c5 x2, own cd23 a1 s1.1.length c1 s1.1, it] from Hy).pick [0, 1, 2, 3] (by kernel_rfl), ?_⟩
        refine DR_e 4 10 (by kernel_rfl) (by kernel_rfl) (by kernel_rfl) (fun h9 H20 => ?_)
        have H21 : Hold h h9 [own cd2 a6 x4.length c6 x4, box bs_ 96 [.slice as_a s_.a.length cs_a, .slice a5 x2.length c5, .slice a2 s1.2.length c2], own cd23 a5 x2.length c5 x2, own cd23 a1 s1.1.length c1 s1.1, rowsQ cd2 23 a2 s1.2.length c2 s1.2 [], it] := H20
        refine E_lit1 (ey := 23) (n := x4.length) H21 (fun w => by kernel_rfl) rfl (fun a7 h10 H22 => ?_)
        refine ⟨fun x => Hold h x [box bs_ 96 [.slice as_a s_.a.length cs_a, .slice a5 x2.length c5, .slice a2 s1.2.length c2], own cd23 a5 x2.length c5 x2, own cd23 a1 s1.1.length c1 s1.1, it], fun x => Hold h x [own cd23 a7 1 1 [x4], box bs_ 96 [.slice as_a s_.a.length cs_a, .slice a5 x2.length c5, .slice a2 s1.2.length c2], own cd23 a5 x2.length c5 x2, own cd23 a1 s1.1.length c1 s1.1, rowsQ cd2 23 a2 s1.2.length c2 s1.2 [], it], H22, Hold.stable, fun x Hy => (show Hold h x [own cd23 a7 1 1 [x4], box bs_ 96 [.slice as_a s_.a.length cs_a, .slice a5 x2.length c5, .slice a2 s1.2.length c2], own cd23 a5 x2.length c5 x2, own cd23 a1 s1.1.length c1 s1.1, rowsQ cd2 23 a2 s1.2.length c2 s1.2 [], it] from Hy).pick [1, 2, 3, 5] (by kernel_rfl), fun x Hy => (show Hold h x [box bs_ 96 [.slice as_a s_.a.length cs_a, .slice a5 x2.length c5, .slice a2 s1.2.length c2], own cd23 a5 x2.length c5 x2, own cd23 a1 s1.1.length c1 s1.1, it] from Hy).pick [0, 1, 2, 3] (by kernel_rfl), ?_⟩
        refine DR_e 3 11 (by kernel_rfl) (by kernel_rfl) (by kernel_rfl) (fun h11 H23 => ?_)
        have H24 : Hold h h11 [own cd23 a7 1 1 [x4], box bs_ 96 [.slice as_a s_.a.length cs_a, .slice a5 x2.length c5, .slice a2 s1.2.length c2], own cd23 a5 x2.length c5 x2, own cd23 a1 s1.1.length c1 s1.1, rowsQ cd2 23 a2 s1.2.length c2 s1.2 [], it] := H23
        obtain ⟨l1, hl1, hB1⟩ := M.bind_some hB1
        have hl1 := M.app_some hl1
        have H25 : Hold h h11 [rowsQ cd2 23 a2 s1.2.length c2 s1.2 [], own cd23 a7 1 1 [x4], box bs_ 96 [.slice as_a s_.a.length cs_a, .slice a5 x2.length c5, .slice a2 s1.2.length c2], own cd23 a5 x2.length c5 x2, own cd23 a1 s1.1.length c1 s1.1, it] := H24.pick [4, 0, 1, 2, 3, 5] (by kernel_rfl)
        refine E_appQ (C := cd2) (t := 22) (ty := 22) (tr := 23) (n := s1.2.length) (m := 1) H25 cd23_ti rfl Try.underlying22 (by decide) (by kernel_rfl) hl1 (fun a8 c7 h12 H26 => ?_)
        refine ⟨fun x => Hold h x [box bs_ 96 [.slice as_a s_.a.length cs_a, .slice a5 x2.length c5, .slice a2 s1.2.length c2], own cd23 a5 x2.length c5 x2, own cd23 a1 s1.1.length c1 s1.1, it, rowsQ cd2 23 a8 l1.length c7 l1 []], fun x => Hold h x [rowsQ cd2 23 a8 l1.length c7 l1 [], box bs_ 96 [.slice as_a s_.a.length cs_a, .slice a5 x2.length c5, .slice a2 s1.2.length c2], own cd23 a5 x2.length c5 x2, own cd23 a1 s1.1.length c1 s1.1, it], H26, Hold.stable, fun x Hy => (show Hold h x [rowsQ cd2 23 a8 l1.length c7 l1 [], box bs_ 96 [.slice as_a s_.a.length cs_a, .slice a5 x2.length c5, .slice a2 s1.2.length c2], own cd23 a5 x2.length c5 x2, own cd23 a1 s1.1.length c1 s1.1, it] from Hy).pick [1, 2, 3, 4, 0] (by kernel_rfl), fun x Hy => (show Hold h x [box bs_ 96 [.slice as_a s_.a.length cs_a, .slice a5 x2.length c5, .slice a2 s1.2.length c2], own cd23 a5 x2.length c5 x2, own cd23 a1 s1.1.length c1 s1.1, it, rowsQ cd2 23 a8 l1.length c7 l1 []] from Hy).pick [0, 1, 2, 3] (by kernel_rfl), ?_⟩
        refine DR_b 1 [.pointer (some ⟨bs_, 0, none⟩), .pointer (some ⟨bs_, 2, none⟩)] 12 (by kernel_rfl) (by kernel_rfl) (by kernel_rfl) (fun w => by kernel_rfl) ?_
        refine DR_tail (i := 14) (by kernel_rfl) (by kernel_rfl) (by kernel_rfl) (fun h13 H27 => ?_)
        have H28 : Hold h h13 [rowsQ cd2 23 a8 l1.length c7 l1 [], box bs_ 96 [.slice as_a s_.a.length cs_a, .slice a5 x2.length c5, .slice a2 s1.2.length c2], own cd23 a5 x2.length c5 x2, own cd23 a1 s1.1.length c1 s1.1, it] := H27
        have H30 : Hold h h13 [box bs_ 96 [.slice as_a s_.a.length cs_a, .slice a5 x2.length c5, .slice a2 s1.2.length c2], rowsQ cd2 23 a8 l1.length c7 l1 [], own cd23 a5 x2.length c5 x2, own cd23 a1 s1.1.length c1 s1.1, it] := H28.pick [1, 0, 2, 3, 4] (by kernel_rfl)
        refine Run_E (by kernel_rfl) ?_
        refine E_bput (t := 22) (off := 2) (us := [.slice as_a s_.a.length cs_a, .slice a5 x2.length c5, .slice a8 l1.length c7]) (v := .slice a8 l1.length c7) H30 (by kernel_rfl) (by kernel_rfl) rfl (by kernel_rfl) rfl (fun h14 H29 => ?_)
        refine Run_nil (by kernel_rfl) ?_
        refine Run_keep [0, 1] (L' := [(0, .pointer (some ⟨bs_, 0, none⟩)), (1, .int .i64 k_)]) (by kernel_rfl) ?_
        refine Run_blk ?_
        have H31 : Hold h h14 [own cd23 a5 x2.length c5 x2, box bs_ 96 [.slice as_a s_.a.length cs_a, .slice a5 x2.length c5, .slice a8 l1.length c7], rowsQ cd2 23 a8 l1.length c7 l1 [], own cd23 a1 s1.1.length c1 s1.1, it] := H29.pick [2, 0, 1, 3, 4] (by kernel_rfl)
        have H32 : Hold h h14 [rowsQ cd2 23 a8 l1.length c7 l1 [], own cd23 a5 x2.length c5 x2, box bs_ 96 [.slice as_a s_.a.length cs_a, .slice a5 x2.length c5, .slice a8 l1.length c7], own cd23 a1 s1.1.length c1 s1.1, it] := H31.pick [2, 0, 1, 3, 4] (by kernel_rfl)
        have H33 : Hold h h14 [box bs_ 96 [.slice as_a s_.a.length cs_a, .slice a5 x2.length c5, .slice a8 l1.length c7], own cd23 a5 x2.length c5 x2, rowsQ cd2 23 a8 l1.length c7 l1 [], it] := H32.pick [2, 1, 0, 4] (by kernel_rfl)
        have hB1 := M.ret_some hB1
        have gx1 := hgoy1 _ hB1.symm
        exact Run_again [0, 1] (by kernel_rfl) my1 (Nat.lt_succ_self _) ⟨(x2, l1), a5, c5, a8, c7, gx1, rfl, H33⟩
    · have hB1 := (M.ite_some hB1).2 hb1
      refine Run_exit (k' := _) rfl ?_
      have H34 : Hold h h1 [own cd23 a1 s1.1.length c1 s1.1, box bs_ 96 [.slice as_a s_.a.length cs_a, .slice a1 s1.1.length c1, .slice a2 s1.2.length c2], rowsQ cd2 23 a2 s1.2.length c2 s1.2 [], it] := H1.pick [1, 0, 2, 3] (by kernel_rfl)
      have H35 : Hold h h1 [rowsQ cd2 23 a2 s1.2.length c2 s1.2 [], own cd23 a1 s1.1.length c1 s1.1, box bs_ 96 [.slice as_a s_.a.length cs_a, .slice a1 s1.1.length c1, .slice a2 s1.2.length c2], it] := H34.pick [2, 0, 1, 3] (by kernel_rfl)
      have H36 : Hold h h1 [box bs_ 96 [.slice as_a s_.a.length cs_a, .slice a1 s1.1.length c1, .slice a2 s1.2.length c2], own cd23 a1 s1.1.length c1 s1.1, rowsQ cd2 23 a2 s1.2.length c2 s1.2 [], it] := H35.pick [2, 1, 0, 3] (by kernel_rfl)
      have hB1 := M.ret_some hB1
      have gx1 := houty1 _ hB1.symm
      subst gx1
      exact Run_fall [0, 1] (by kernel_rfl) ⟨(s1.1, s1.2), a1, c1, a2, c2, rfl, rfl, H36⟩

set_option maxRecDepth 100000 in
set_option maxHeartbeats 4000000 in
theorem w_spec_l07At_BQ1 (h hE : Heap) (it : Item) (s_ : TL07series) (bs_ : Nat) (as_a : Option Addr) (cs_a : Nat) (rs_a : Rd cd23 h (Lt h) as_a cs_a s_.a) (as_last : Option Addr) (cs_last : Nat) (as_lists : Option Addr) (cs_lists : Nat) (qas_lists0 : Option Addr) (qcs_lists0 : Nat) (qls_lists0 : List Int) (k_ : Int) (HM : Hold h hE [box bs_ 96 [.slice as_a s_.a.length cs_a, .slice as_last s_.last.length cs_last, .slice as_lists s_.lists.length cs_lists], own cd23 as_last s_.last.length cs_last s_.last, rowsQ cd2 23 as_lists s_.lists.length cs_lists s_.lists [(qas_lists0, qcs_lists0, qls_lists0)], it]) (n : Nat) (r : (List Int) × Bool × TL07series) (hF : spec_l07At_BQ1 s_ k_ n = some r) :
    Fn Try.prog 95 #[.pointer (some ⟨bs_, 0, none⟩), .int .i64 k_] hE fun v h' => ∃ (a0 : Option Addr) (c0 : Nat), ∃ (a1 : Option Addr) (c1 : Nat), ∃ (a2 : Option Addr) (c2 : Nat), v = .tuple #[.slice a0 r.1.length c0, .bool r.2.1] ∧ Hold h h' [box bs_ 96 [.slice as_a s_.a.length cs_a, .slice a1 r.2.2.last.length c1, .slice a2 r.2.2.lists.length c2], own cd23 a1 r.2.2.last.length c1 r.2.2.last, rowsQ cd2 23 a2 r.2.2.lists.length c2 r.2.2.lists [(a0, c0, r.1), (qas_lists0, qcs_lists0, qls_lists0)], it] := by
  unfold spec_l07At_BQ1 at hF
  refine Fn_enter (args := [.pointer (some ⟨bs_, 0, none⟩), .int .i64 k_]) Try.func95 rfl (by kernel_rfl) (by kernel_rfl) (fun w0 _ => ?_)
  refine Run_seq ?_
  refine Run_reg 2 (by kernel_rfl) (L' := [(0, .pointer (some ⟨bs_, 0, none⟩)), (1, .int .i64 k_)]) ?_ ?_
  · refine QRun_b [.slice none 0 0, .bool false] 0 _ (by kernel_rfl) (fun w => by kernel_rfl) ?_
    exact QRun_done [0, 1] (by kernel_rfl) (by kernel_rfl)
  refine Run_seq ?_
  obtain ⟨x1, gx1, hF⟩ := M.bind_some hF
  refine Run_join (fun L' h' => ∃ (s2 : (List (List Int)) × (List (List Int))) (a3 : Option Addr) (c3 : Nat) (a4 : Option Addr) (c4 : Nat), x1 = .inl s2 ∧ L' = [(0, .pointer (some ⟨bs_, 0, none⟩)), (1, .int .i64 k_)] ∧ Hold h h' [box bs_ 96 [.slice as_a s_.a.length cs_a, .slice a3 s2.1.length c3, .slice a4 s2.2.length c4], own cd23 a3 s2.1.length c3 s2.1, rowsQ cd2 23 a4 s2.2.length c4 s2.2 [(qas_lists0, qcs_lists0, qls_lists0)], it]) ?_ ?_
  · rintro _ h2 ⟨s2, a3, c3, a4, c4, es2, rfl, H2⟩
    have hF := M.cont_inl' hF es2
    refine Run_seq ?_
    obtain ⟨x5, hx4, hF⟩ := M.bind_some hF
    obtain ⟨hx4l, hx4u, hx4⟩ := M.idx_some hx4
    have H37 : Hold h h2 [rowsQ cd2 23 a4 s2.2.length c4 s2.2 [(qas_lists0, qcs_lists0, qls_lists0)], box bs_ 96 [.slice as_a s_.a.length cs_a, .slice a3 s2.1.length c3, .slice a4 s2.2.length c4], own cd23 a3 s2.1.length c3 s2.1, it] := H2.pick [2, 0, 1, 3] (by kernel_rfl)
    obtain ⟨a9, c8, hc1, H38⟩ := H37.peekRow hx4
    have H39 : Hold h h2 [box bs_ 96 [.slice as_a s_.a.length cs_a, .slice a3 s2.1.length c3, .slice a4 s2.2.length c4], own cd23 a3 s2.1.length c3 s2.1, rowsQ cd2 23 a4 s2.2.length c4 s2.2 [(a9, c8, x5), (qas_lists0, qcs_lists0, qls_lists0)], it] := H38.pick [1, 2, 0, 3] (by kernel_rfl)
    refine Run_reg 9 (by kernel_rfl) (L' := [(4, .slice a9 x5.length c8), (5, .bool true)]) ?_ ?_
    · refine QRun_b [.pointer (some ⟨bs_, 0, none⟩), .pointer (some ⟨bs_, 0, none⟩), .pointer (some ⟨bs_, 2, none⟩)] 0 _ (by kernel_rfl) (fun w => by kernel_rfl) ?_
      refine QRun_y (.slice a4 s2.2.length c4) (by kernel_rfl) (Y_load1 (t := 22) (p := ⟨bs_, 2, none⟩) (v := .slice a4 s2.2.length c4) (by kernel_rfl) (fun w => by kernel_rfl) (H2.cell 0 rfl rfl)) ?_
      refine QRun_b [.int .i64 k_] 4 _ (by kernel_rfl) (fun w => by kernel_rfl) ?_
      refine QRun_y (.pointer (some (adr a4 (k_.toNat * 1)))) (by kernel_rfl) (Y_idx (t := 22) (e := 23) (sz := 1) (a := a4) (n := s2.2.length) (cap := c4) (kk := .i64) (i := k_) (by kernel_rfl) Try.underlying22 (by kernel_rfl) ((H2.rdQ 2 rfl).cell hx4).1 hx4l hx4u) ?_
      refine QRun_y (.slice a9 x5.length c8) (by kernel_rfl) (Y_load1 (t := 23) (p := adr a4 (k_.toNat * 1)) (v := .slice a9 x5.length c8) (by kernel_rfl) (fun w => by kernel_rfl) hc1) ?_
      refine QRun_b [.slice a9 x5.length c8, .bool true] 7 _ (by kernel_rfl) (fun w => by kernel_rfl) ?_
      exact QRun_done [4, 5] (by kernel_rfl) (by kernel_rfl)
    have hF := M.ret_some hF
    subst hF
    have H40 : Hold h h2 [rowsQ cd2 23 a4 s2.2.length c4 s2.2 [(a9, c8, x5), (qas_lists0, qcs_lists0, qls_lists0)], box bs_ 96 [.slice as_a s_.a.length cs_a, .slice a3 s2.1.length c3, .slice a4 s2.2.length c4], own cd23 a3 s2.1.length c3 s2.1, it] := H39.pick [2, 0, 1, 3] (by kernel_rfl)
    have H41 : Hold h h2 [own cd23 a3 s2.1.length c3 s2.1, rowsQ cd2 23 a4 s2.2.length c4 s2.2 [(a9, c8, x5), (qas_lists0, qcs_lists0, qls_lists0)], box bs_ 96 [.slice as_a s_.a.length cs_a, .slice a3 s2.1.length c3, .slice a4 s2.2.length c4], it] := H40.pick [2, 0, 1, 3] (by kernel_rfl)
    have H42 : Hold h h2 [rowsQ cd2 23 a4 s2.2.length c4 s2.2 [(a9, c8, x5), (qas_lists0, qcs_lists0, qls_lists0)], own cd23 a3 s2.1.length c3 s2.1, box bs_ 96 [.slice as_a s_.a.length cs_a, .slice a3 s2.1.length c3, .slice a4 s2.2.length c4], it] := H41.pick [1, 0, 2, 3] (by kernel_rfl)
    have H43 : Hold h h2 [box bs_ 96 [.slice as_a s_.a.length cs_a, .slice a3 s2.1.length c3, .slice a4 s2.2.length c4], own cd23 a3 s2.1.length c3 s2.1, rowsQ cd2 23 a4 s2.2.length c4 s2.2 [(a9, c8, x5), (qas_lists0, qcs_lists0, qls_lists0)], it] := H42.pick [2, 1, 0, 3] (by kernel_rfl)
    exact Run_ret2 rfl (ResV_tmp (v := .slice a9 x5.length c8) (by kernel_rfl)) (ResV_tmp (v := .bool true) (by kernel_rfl)) ⟨a9, c8, a3, c3, a4, c4, rfl, H43⟩
  · refine Run_block ?_
    have H44 : Hold h hE [own cd23 as_last s_.last.length cs_last s_.last, box bs_ 96 [.slice as_a s_.a.length cs_a, .slice as_last s_.last.length cs_last, .slice as_lists s_.lists.length cs_lists], rowsQ cd2 23 as_lists s_.lists.length cs_lists s_.lists [(qas_lists0, qcs_lists0, qls_lists0)], it] := HM.pick [1, 0, 2, 3] (by kernel_rfl)
    have H45 : Hold h hE [rowsQ cd2 23 as_lists s_.lists.length cs_lists s_.lists [(qas_lists0, qcs_lists0, qls_lists0)], own cd23 as_last s_.last.length cs_last s_.last, box bs_ 96 [.slice as_a s_.a.length cs_a, .slice as_last s_.last.length cs_last, .slice as_lists s_.lists.length cs_lists], it] := H44.pick [2, 0, 1, 3] (by kernel_rfl)
    have H46 : Hold h hE [box bs_ 96 [.slice as_a s_.a.length cs_a, .slice as_last s_.last.length cs_last, .slice as_lists s_.lists.length cs_lists], own cd23 as_last s_.last.length cs_last s_.last, rowsQ cd2 23 as_lists s_.lists.length cs_lists s_.lists [(qas_lists0, qcs_lists0, qls_lists0)], it] := H45.pick [2, 1, 0, 3] (by kernel_rfl)
    refine Run_keep [0, 1] (L' := [(0, .pointer (some ⟨bs_, 0, none⟩)), (1, .int .i64 k_)]) (by kernel_rfl) ?_
    refine Run_loop (fun m L' h' => ∃ (s1 : (List (List Int)) × (List (List Int))) (a1 : Option Addr) (c1 : Nat) (a2 : Option Addr) (c2 : Nat), M.loopN _ n m s1 = some x1 ∧ L' = [(0, .pointer (some ⟨bs_, 0, none⟩)), (1, .int .i64 k_)] ∧ Hold h h' [box bs_ 96 [.slice as_a s_.a.length cs_a, .slice a1 s1.1.length c1, .slice a2 s1.2.length c2], own cd23 a1 s1.1.length c1 s1.1, rowsQ cd2 23 a2 s1.2.length c2 s1.2 [(qas_lists0, qcs_lists0, qls_lists0)], it]) n ⟨(s_.last, s_.lists), as_last, cs_last, as_lists, cs_lists, gx1, rfl, H46⟩ ?_
    rintro my1 _ h1 ⟨s1, a1, c1, a2, c2, gx1, rfl, H1⟩
    obtain ⟨my1, y1, rfl, hB1, hgoy1, houty1⟩ := M.loop_some gx1
    refine Run_seq ?_
    refine Run_seq ?_
    refine Run_reg 7 (by kernel_rfl) (L' := [(0, .pointer (some ⟨bs_, 0, none⟩)), (1, .int .i64 k_), (12, .bool (decide ((s1.2.length : Int) ≤ k_)))]) ?_ ?_
    · refine QRun_b [.pointer (some ⟨bs_, 0, none⟩), .pointer (some ⟨bs_, 0, none⟩), .pointer (some ⟨bs_, 2, none⟩)] 0 _ (by kernel_rfl) (fun w => by kernel_rfl) ?_
      refine QRun_y (.slice a2 s1.2.length c2) (by kernel_rfl) (Y_load1 (t := 22) (p := ⟨bs_, 2, none⟩) (v := .slice a2 s1.2.length c2) (by kernel_rfl) (fun w => by kernel_rfl) (H1.cell 0 rfl rfl)) ?_
      refine QRun_b [.int .i64 (s1.2.length : Int), .int .i64 k_, .bool (decide ((s1.2.length : Int) ≤ k_))] 4 _ (by kernel_rfl) (fun w => by kernel_rfl) ?_
      exact QRun_done [0, 1, 12] (by kernel_rfl) (by kernel_rfl)
    refine Run_cond (b := decide ((s1.2.length : Int) ≤ k_)) (by kernel_rfl) (fun hb1 => ?_) (fun hb1 => ?_)
    · have hB1 := (M.ite_some hB1).1 hb1
      refine Run_skip ?_
      refine Run_block ?_
      refine Run_seq ?_
      refine Run_D (fun x => Hold h x [box bs_ 96 [.slice as_a s_.a.length cs_a, .slice a1 s1.1.length c1, .slice a2 s1.2.length c2], own cd23 a1 s1.1.length c1 s1.1, rowsQ cd2 23 a2 s1.2.length c2 s1.2 [(qas_lists0, qcs_lists0, qls_lists0)], it]) (fun x => Hold h x [box bs_ 96 [.slice as_a s_.a.length cs_a, .slice a1 s1.1.length c1, .slice a2 s1.2.length c2], own cd23 a1 s1.1.length c1 s1.1, rowsQ cd2 23 a2 s1.2.length c2 s1.2 [(qas_lists0, qcs_lists0, qls_lists0)], it]) mixed (by kernel_rfl) H1 Hold.stable (fun x Hy => (show Hold h x [box bs_ 96 [.slice as_a s_.a.length cs_a, .slice a1 s1.1.length c1, .slice a2 s1.2.length c2], own cd23 a1 s1.1.length c1 s1.1, rowsQ cd2 23 a2 s1.2.length c2 s1.2 [(qas_lists0, qcs_lists0, qls_lists0)], it] from Hy).pick [0, 1, 2, 3] (by kernel_rfl)) ?_
      refine DR_b 9 [.pointer (some ⟨bs_, 0, none⟩), .pointer (some ⟨bs_, 0, none⟩), .pointer (some ⟨bs_, 0, none⟩), .pointer (some ⟨bs_, 0, none⟩)] 0 (by kernel_rfl) (by kernel_rfl) (by kernel_rfl) (fun w => by kernel_rfl) ?_
      refine DR_y 8 (i := 4) (.slice as_a s_.a.length cs_a) (by kernel_rfl) (by kernel_rfl) (by kernel_rfl) (fun hx Hx => (YE.of (Y_load1 (t := 22) (p := ⟨bs_, 0, none⟩) (v := .slice as_a s_.a.length cs_a) (by kernel_rfl) (fun w => by kernel_rfl) (Hx.cell 0 rfl rfl)))) ?_
      refine DR_b 5 [.pointer (some ⟨bs_, 0, none⟩), .pointer (some ⟨bs_, 0, none⟩), .pointer (some ⟨bs_, 1, none⟩)] 5 (by kernel_rfl) (by kernel_rfl) (by kernel_rfl) (fun w => by kernel_rfl) ?_
      refine DR_y 4 (i := 8) (.slice a1 s1.1.length c1) (by kernel_rfl) (by kernel_rfl) (by kernel_rfl) (fun hx Hx => (YE.of (Y_load1 (t := 22) (p := ⟨bs_, 1, none⟩) (v := .slice a1 s1.1.length c1) (by kernel_rfl) (fun w => by kernel_rfl) (Hx.cell 0 rfl rfl)))) ?_
      refine DR_e 3 9 (by kernel_rfl) (by kernel_rfl) (by kernel_rfl) (fun h3 H3 => ?_)
      have H4 : Hold h h3 [box bs_ 96 [.slice as_a s_.a.length cs_a, .slice a1 s1.1.length c1, .slice a2 s1.2.length c2], own cd23 a1 s1.1.length c1 s1.1, rowsQ cd2 23 a2 s1.2.length c2 s1.2 [(qas_lists0, qcs_lists0, qls_lists0)], it] := H3
      obtain ⟨x2, hx1, hB1⟩ := M.bind_some hB1
      refine E_call (f := 143) (args := #[.slice as_a s_.a.length cs_a, .slice a1 s1.1.length c1]) (w_spec_l02Multiply h3 s_.a as_a cs_a (rs_a.at H4.ext) s1.1 a1 c1 (H4.rd 1 rfl) _ _ hx1) (by kernel_rfl) (fun v1 h4 hp1 => ?_)
      obtain ⟨a5, c5, rfl, H5⟩ := hp1
      have H6 : Hold h h4 [own cd23 a5 x2.length c5 x2, box bs_ 96 [.slice as_a s_.a.length cs_a, .slice a1 s1.1.length c1, .slice a2 s1.2.length c2], own cd23 a1 s1.1.length c1 s1.1, rowsQ cd2 23 a2 s1.2.length c2 s1.2 [(qas_lists0, qcs_lists0, qls_lists0)], it] := H4.call H5 rfl
      refine ⟨fun x => Hold h x [box bs_ 96 [.slice as_a s_.a.length cs_a, .slice a1 s1.1.length c1, .slice a2 s1.2.length c2], own cd23 a1 s1.1.length c1 s1.1, rowsQ cd2 23 a2 s1.2.length c2 s1.2 [(qas_lists0, qcs_lists0, qls_lists0)], it, own cd23 a5 x2.length c5 x2], fun x => Hold h x [own cd23 a5 x2.length c5 x2, box bs_ 96 [.slice as_a s_.a.length cs_a, .slice a1 s1.1.length c1, .slice a2 s1.2.length c2], own cd23 a1 s1.1.length c1 s1.1, rowsQ cd2 23 a2 s1.2.length c2 s1.2 [(qas_lists0, qcs_lists0, qls_lists0)], it], H6, Hold.stable, fun x Hy => (show Hold h x [own cd23 a5 x2.length c5 x2, box bs_ 96 [.slice as_a s_.a.length cs_a, .slice a1 s1.1.length c1, .slice a2 s1.2.length c2], own cd23 a1 s1.1.length c1 s1.1, rowsQ cd2 23 a2 s1.2.length c2 s1.2 [(qas_lists0, qcs_lists0, qls_lists0)], it] from Hy).pick [1, 2, 3, 4, 0] (by kernel_rfl), fun x Hy => (show Hold h x [box bs_ 96 [.slice as_a s_.a.length cs_a, .slice a1 s1.1.length c1, .slice a2 s1.2.length c2], own cd23 a1 s1.1.length c1 s1.1, rowsQ cd2 23 a2 s1.2.length c2 s1.2 [(qas_lists0, qcs_lists0, qls_lists0)], it, own cd23 a5 x2.length c5 x2] from Hy).pick [0, 1, 2, 3] (by kernel_rfl), ?_⟩
      refine DR_b 1 [.pointer (some ⟨bs_, 0, none⟩), .pointer (some ⟨bs_, 1, none⟩)] 10 (by kernel_rfl) (by kernel_rfl) (by kernel_rfl) (fun w => by kernel_rfl) ?_
      refine DR_tail (i := 12) (by kernel_rfl) (by kernel_rfl) (by kernel_rfl) (fun h5 H7 => ?_)
      have H8 : Hold h h5 [own cd23 a5 x2.length c5 x2, box bs_ 96 [.slice as_a s_.a.length cs_a, .slice a1 s1.1.length c1, .slice a2 s1.2.length c2], own cd23 a1 s1.1.length c1 s1.1, rowsQ cd2 23 a2 s1.2.length c2 s1.2 [(qas_lists0, qcs_lists0, qls_lists0)], it] := H7
      have H10 : Hold h h5 [box bs_ 96 [.slice as_a s_.a.length cs_a, .slice a1 s1.1.length c1, .slice a2 s1.2.length c2], own cd23 a5 x2.length c5 x2, own cd23 a1 s1.1.length c1 s1.1, rowsQ cd2 23 a2 s1.2.length c2 s1.2 [(qas_lists0, qcs_lists0, qls_lists0)], it] := H8.pick [1, 0, 2, 3, 4] (by kernel_rfl)
      refine Run_E (by kernel_rfl) ?_
      refine E_bput (t := 22) (off := 1) (us := [.slice as_a s_.a.length cs_a, .slice a5 x2.length c5, .slice a2 s1.2.length c2]) (v := .slice a5 x2.length c5) H10 (by kernel_rfl) (by kernel_rfl) rfl (by kernel_rfl) rfl (fun h6 H9 => ?_)
      refine Run_nil (by kernel_rfl) ?_
      refine Run_keep [0, 1] (L' := [(0, .pointer (some ⟨bs_, 0, none⟩)), (1, .int .i64 k_)]) (by kernel_rfl) ?_
      refine Run_seq ?_
      refine Run_seq ?_
      obtain ⟨x3, hx2, hB1⟩ := M.bind_some hB1
      refine Run_reg 6 (by kernel_rfl) (L' := [(0, .pointer (some ⟨bs_, 0, none⟩)), (1, .int .i64 k_), (30, .bool (!x3))]) ?_ ?_
      · refine QRun_b [.pointer (some ⟨bs_, 0, none⟩), .pointer (some ⟨bs_, 0, none⟩), .pointer (some ⟨bs_, 1, none⟩)] 0 _ (by kernel_rfl) (fun w => by kernel_rfl) ?_
        refine QRun_y (.slice a5 x2.length c5) (by kernel_rfl) (Y_load1 (t := 22) (p := ⟨bs_, 1, none⟩) (v := .slice a5 x2.length c5) (by kernel_rfl) (fun w => by kernel_rfl) (H9.cell 0 rfl rfl)) ?_
        refine QRun_y (.bool x3) (by kernel_rfl) (Y_callq (f := 131) (args := #[.slice a5 x2.length c5]) (v := .bool x3) (by kernel_rfl) (w_spec_IsMatrix h6 x2 a5 c5 (H9.rd 1 rfl) _ _ hx2)) ?_
        refine QRun_b [.bool (!x3)] 5 _ (by kernel_rfl) (fun w => by kernel_rfl) ?_
        exact QRun_done [0, 1, 30] (by kernel_rfl) (by kernel_rfl)
      refine Run_cond (b := !x3) (by kernel_rfl) (fun hb2 => ?_) (fun hb2 => ?_)
      · have hB1 := (M.ite_some hB1).1 hb2
        refine Run_seq ?_
        refine Run_reg 2 (by kernel_rfl) (L' := [(4, .slice none 0 0), (5, .bool false)]) ?_ ?_
        · refine QRun_b [.slice none 0 0, .bool false] 0 _ (by kernel_rfl) (fun w => by kernel_rfl) ?_
          exact QRun_done [4, 5] (by kernel_rfl) (by kernel_rfl)
        have hB1 := M.ret_some hB1
        have gx1 := houty1 _ hB1.symm
        have hF := M.cont_inr' hF gx1
        have hF := M.ret_some hF
        subst hF
        have H11 : Hold h h6 [rowsQ cd2 23 a2 s1.2.length c2 s1.2 [(qas_lists0, qcs_lists0, qls_lists0)], box bs_ 96 [.slice as_a s_.a.length cs_a, .slice a5 x2.length c5, .slice a2 s1.2.length c2], own cd23 a5 x2.length c5 x2, own cd23 a1 s1.1.length c1 s1.1, it] := H9.pick [3, 0, 1, 2, 4] (by kernel_rfl)
        have H12 := H11.nilPeek
        have H13 : Hold h h6 [own cd23 a5 x2.length c5 x2, rowsQ cd2 23 a2 s1.2.length c2 s1.2 [(none, 0, []), (qas_lists0, qcs_lists0, qls_lists0)], box bs_ 96 [.slice as_a s_.a.length cs_a, .slice a5 x2.length c5, .slice a2 s1.2.length c2], own cd23 a1 s1.1.length c1 s1.1, it] := H12.pick [2, 0, 1, 3, 4] (by kernel_rfl)
        have H14 : Hold h h6 [rowsQ cd2 23 a2 s1.2.length c2 s1.2 [(none, 0, []), (qas_lists0, qcs_lists0, qls_lists0)], own cd23 a5 x2.length c5 x2, box bs_ 96 [.slice as_a s_.a.length cs_a, .slice a5 x2.length c5, .slice a2 s1.2.length c2], own cd23 a1 s1.1.length c1 s1.1, it] := H13.pick [1, 0, 2, 3, 4] (by kernel_rfl)
        have H15 : Hold h h6 [box bs_ 96 [.slice as_a s_.a.length cs_a, .slice a5 x2.length c5, .slice a2 s1.2.length c2], own cd23 a5 x2.length c5 x2, rowsQ cd2 23 a2 s1.2.length c2 s1.2 [(none, 0, []), (qas_lists0, qcs_lists0, qls_lists0)], it] := H14.pick [2, 1, 0, 4] (by kernel_rfl)
        exact Run_ret2 rfl (ResV_tmp (v := .slice none 0 0) (by kernel_rfl)) (ResV_tmp (v := .bool false) (by kernel_rfl)) ⟨none, 0, a5, c5, a2, c2, rfl, H15⟩
      · have hB1 := (M.ite_some hB1).2 hb2
        refine Run_skip ?_
        refine Run_D (fun x => Hold h x [box bs_ 96 [.slice as_a s_.a.length cs_a, .slice a5 x2.length c5, .slice a2 s1.2.length c2], own cd23 a5 x2.length c5 x2, own cd23 a1 s1.1.length c1 s1.1, it]) (fun x => Hold h x [box bs_ 96 [.slice as_a s_.a.length cs_a, .slice a5 x2.length c5, .slice a2 s1.2.length c2], own cd23 a5 x2.length c5 x2, own cd23 a1 s1.1.length c1 s1.1, rowsQ cd2 23 a2 s1.2.length c2 s1.2 [(qas_lists0, qcs_lists0, qls_lists0)], it]) mixed (by kernel_rfl) H9 Hold.stable (fun x Hy => (show Hold h x [box bs_ 96 [.slice as_a s_.a.length cs_a, .slice a5 x2.length c5, .slice a2 s1.2.length c2], own cd23 a5 x2.length c5 x2, own cd23 a1 s1.1.length c1 s1.1, rowsQ cd2 23 a2 s1.2.length c2 s1.2 [(qas_lists0, qcs_lists0, qls_lists0)], it] from Hy).pick [0, 1, 2, 4] (by kernel_rfl)) ?_
        refine DR_b 11 [.pointer (some ⟨bs_, 0, none⟩), .pointer (some ⟨bs_, 0, none⟩), .pointer (some ⟨bs_, 0, none⟩), .pointer (some ⟨bs_, 2, none⟩)] 0 (by kernel_rfl) (by kernel_rfl) (by kernel_rfl) (fun w => by kernel_rfl) ?_
        refine DR_y 10 (i := 4) (.slice a2 s1.2.length c2) (by kernel_rfl) (by kernel_rfl) (by kernel_rfl) (fun hx Hx => (YE.of (Y_load1 (t := 22) (p := ⟨bs_, 2, none⟩) (v := .slice a2 s1.2.length c2) (by kernel_rfl) (fun w => by kernel_rfl) (Hx.cell 0 rfl rfl)))) ?_
        refine DR_b 7 [.pointer (some ⟨bs_, 0, none⟩), .pointer (some ⟨bs_, 0, none⟩), .pointer (some ⟨bs_, 1, none⟩)] 5 (by kernel_rfl) (by kernel_rfl) (by kernel_rfl) (fun w => by kernel_rfl) ?_
        refine DR_y 6 (i := 8) (.slice a5 x2.length c5) (by kernel_rfl) (by kernel_rfl) (by kernel_rfl) (fun hx Hx => (YE.of (Y_load1 (t := 22) (p := ⟨bs_, 1, none⟩) (v := .slice a5 x2.length c5) (by kernel_rfl) (fun w => by kernel_rfl) (Hx.cell 0 rfl rfl)))) ?_
        refine DR_e 5 9 (by kernel_rfl) (by kernel_rfl) (by kernel_rfl) (fun h7 H16 => ?_)
        have H17 : Hold h h7 [box bs_ 96 [.slice as_a s_.a.length cs_a, .slice a5 x2.length c5, .slice a2 s1.2.length c2], own cd23 a5 x2.length c5 x2, own cd23 a1 s1.1.length c1 s1.1, rowsQ cd2 23 a2 s1.2.length c2 s1.2 [(qas_lists0, qcs_lists0, qls_lists0)], it] := H16
        obtain ⟨x4, hx3, hB1⟩ := M.bind_some hB1
        refine E_call (f := 132) (args := #[.slice a5 x2.length c5]) (w_spec_l07Flat h7 x2 a5 c5 (H17.rd 1 rfl) _ _ hx3) (by kernel_rfl) (fun v2 h8 hp2 => ?_)
        obtain ⟨a6, c6, rfl, H18⟩ := hp2
        have H19 : Hold h h8 [own cd2 a6 x4.length c6 x4, box bs_ 96 [.slice as_a s_.a.length cs_a, .slice a5 x2.length c5, .slice a2 s1.2.length c2], own cd23 a5 x2.length c5 x2, own cd23 a1 s1.1.length c1 s1.1, rowsQ cd2 23 a2 s1.2.length c2 s1.2 [(qas_lists0, qcs_lists0, qls_lists0)], it] := H17.call H18 rfl
        refine ⟨fun x => Hold h x [box bs_ 96 [.slice as_a s_.a.length cs_a, .slice a5 x2.length c5, .slice a2 s1.2.length c2], own cd23 a5 x2.length c5 x2, own cd23 a1 s1.1.length c1 s1.1, it], fun x => Hold h x [own cd2 a6 x4.length c6 x4, box bs_ 96 [.slice as_a s_.a.length cs_a, .slice a5 x2.length c5, .slice a2 s1.2.length c2], own cd23 a5 x2.length c5 x2, own cd23 a1 s1.1.length c1 s1.1, rowsQ cd2 23 a2 s1.2.length c2 s1.2 [(qas_lists0, qcs_lists0, qls_lists0)], it], H19, Hold.stable, fun x Hy => (show Hold h x [own cd2 a6 x4.length c6 x4, box bs_ 96 [.slice as_a s_.a.length cs_a, .slice a5 x2.length c5, .slice a2 s1.2.length c2], own cd23 a5 x2.length c5 x2, own cd23 a1 s1.1.length c1 s1.1, rowsQ cd2 23 a2 s1.2.length c2 s1.2 [(qas_lists0, qcs_lists0, qls_lists0)], it] from Hy).pick [1, 2, 3, 5] (by kernel_rfl), fun x Hy => (show Hold h x [box bs_ 96 [.slice as_a s_.a.length cs_a, .slice a5 x2.length c5, .slice a2 s1.2.length c2], own cd23 a5 x2.length c5 x2, own cd23 a1 s1.1.length c1 s1.1, it] from Hy).pick [0, 1, 2, 3] (by kernel_rfl), ?_⟩
        refine DR_e 4 10 (by kernel_rfl) (by kernel_rfl) (by kernel_rfl) (fun h9 H20 => ?_)
        have H21 : Hold h h9 [own cd2 a6 x4.length c6 x4, box bs_ 96 [.slice as_a s_.a.length cs_a, .slice a5 x2.length c5, .slice a2 s1.2.length c2], own cd23 a5 x2.length c5 x2, own cd23 a1 s1.1.length c1 s1.1, rowsQ cd2 23 a2 s1.2.length c2 s1.2 [(qas_lists0, qcs_lists0, qls_lists0)], it] := H20
        refine E_lit1 (ey := 23) (n := x4.length) H21 (fun w => by kernel_rfl) rfl (fun a7 h10 H22 => ?_)
        refine ⟨fun x => Hold h x [box bs_ 96 [.slice as_a s_.a.length cs_a, .slice a5 x2.length c5, .slice a2 s1.2.length c2], own cd23 a5 x2.length c5 x2, own cd23 a1 s1.1.length c1 s1.1, it], fun x => Hold h x [own cd23 a7 1 1 [x4], box bs_ 96 [.slice as_a s_.a.length cs_a, .slice a5 x2.length c5, .slice a2 s1.2.length c2], own cd23 a5 x2.length c5 x2, own cd23 a1 s1.1.length c1 s1.1, rowsQ cd2 23 a2 s1.2.length c2 s1.2 [(qas_lists0, qcs_lists0, qls_lists0)], it], H22, Hold.stable, fun x Hy => (show Hold h x [own cd23 a7 1 1 [x4], box bs_ 96 [.slice as_a s_.a.length cs_a, .slice a5 x2.length c5, .slice a2 s1.2.length c2], own cd23 a5 x2.length c5 x2, own cd23 a1 s1.1.length c1 s1.1, rowsQ cd2 23 a2 s1.2.length c2 s1.2 [(qas_lists0, qcs_lists0, qls_lists0)], it] from Hy).pick [1, 2, 3, 5] (by kernel_rfl), fun x Hy => (show Hold h x [box bs_ 96 [.slice as_a s_.a.length cs_a, .slice a5 x2.length c5, .slice a2 s1.2.length c2], own cd23 a5 x2.length c5 x2, own cd23 a1 s1.1.length c1 s1.1, it] from Hy).pick [0, 1, 2, 3] (by kernel_rfl), ?_⟩
        refine DR_e 3 11 (by kernel_rfl) (by kernel_rfl) (by kernel_rfl) (fun h11 H23 => ?_)
        have H24 : Hold h h11 [own cd23 a7 1 1 [x4], box bs_ 96 [.slice as_a s_.a.length cs_a, .slice a5 x2.length c5, .slice a2 s1.2.length c2], own cd23 a5 x2.length c5 x2, own cd23 a1 s1.1.length c1 s1.1, rowsQ cd2 23 a2 s1.2.length c2 s1.2 [(qas_lists0, qcs_lists0, qls_lists0)], it] := H23
        obtain ⟨l1, hl1, hB1⟩ := M.bind_some hB1
        have hl1 := M.app_some hl1
        have H25 : Hold h h11 [rowsQ cd2 23 a2 s1.2.length c2 s1.2 [(qas_lists0, qcs_lists0, qls_lists0)], own cd23 a7 1 1 [x4], box bs_ 96 [.slice as_a s_.a.length cs_a, .slice a5 x2.length c5, .slice a2 s1.2.length c2], own cd23 a5 x2.length c5 x2, own cd23 a1 s1.1.length c1 s1.1, it] := H24.pick [4, 0, 1, 2, 3, 5] (by kernel_rfl)
        refine E_appQ (C := cd2) (t := 22) (ty := 22) (tr := 23) (n := s1.2.length) (m := 1) H25 cd23_ti rfl Try.underlying22 (by decide) (by kernel_rfl) hl1 (fun a8 c7 h12 H26 => ?_)
        refine ⟨fun x => Hold h x [box bs_ 96 [.slice as_a s_.a.length cs_a, .slice a5 x2.length c5, .slice a2 s1.2.length c2], own cd23 a5 x2.length c5 x2, own cd23 a1 s1.1.length c1 s1.1, it, rowsQ cd2 23 a8 l1.length c7 l1 [(qas_lists0, qcs_lists0, qls_lists0)]], fun x => Hold h x [rowsQ cd2 23 a8 l1.length c7 l1 [(qas_lists0, qcs_lists0, qls_lists0)], box bs_ 96 [.slice as_a s_.a.length cs_a, .slice a5 x2.length c5, .slice a2 s1.2.length c2], own cd23 a5 x2.length c5 x2, own cd23 a1 s1.1.length c1 s1.1, it], H26, Hold.stable, fun x Hy => (show Hold h x [rowsQ cd2 23 a8 l1.length c7 l1 [(qas_lists0, qcs_lists0, qls_lists0)], box bs_ 96 [.slice as_a s_.a.length cs_a, .slice a5 x2.length c5, .slice a2 s1.2.length c2], own cd23 a5 x2.length c5 x2, own cd23 a1 s1.1.length c1 s1.1, it] from Hy).pick [1, 2, 3, 4, 0] (by kernel_rfl), fun x Hy => (show Hold h x [box bs_ 96 [.slice as_a s_.a.length cs_a, .slice a5 x2.length c5, .slice a2 s1.2.length c2], own cd23 a5 x2.length c5 x2, own cd23 a1 s1.1.length c1 s1.1, it, rowsQ cd2 23 a8 l1.length c7 l1 [(qas_lists0, qcs_lists0, qls_lists0)]] from Hy).pick [0, 1, 2, 3] (by kernel_rfl), ?_⟩
        refine DR_b 1 [.pointer (some ⟨bs_, 0, none⟩), .pointer (some ⟨bs_, 2, none⟩)] 12 (by kernel_rfl) (by kernel_rfl) (by kernel_rfl) (fun w => by kernel_rfl) ?_
        refine DR_tail (i := 14) (by kernel_rfl) (by kernel_rfl) (by kernel_rfl) (fun h13 H27 => ?_)
        have H28 : Hold h h13 [rowsQ cd2 23 a8 l1.length c7 l1 [(qas_lists0, qcs_lists0, qls_lists0)], box bs_ 96 [.slice as_a s_.a.length cs_a, .slice a5 x2.length c5, .slice a2 s1.2.length c2], own cd23 a5 x2.length c5 x2, own cd23 a1 s1.1.length c1 s1.1, it] := H27
        have H30 : Hold h h13 [box bs_ 96 [.slice as_a s_.a.length cs_a, .slice a5 x2.length c5, .slice a2 s1.2.length c2], rowsQ cd2 23 a8 l1.length c7 l1 [(qas_lists0, qcs_lists0, qls_lists0)], own cd23 a5 x2.length c5 x2, own cd23 a1 s1.1.length c1 s1.1, it] := H28.pick [1, 0, 2, 3, 4] (by kernel_rfl)
        refine Run_E (by kernel_rfl) ?_
        refine E_bput (t := 22) (off := 2) (us := [.slice as_a s_.a.length cs_a, .slice a5 x2.length c5, .slice a8 l1.length c7]) (v := .slice a8 l1.length c7) H30 (by kernel_rfl) (by kernel_rfl) rfl (by kernel_rfl) rfl (fun h14 H29 => ?_)
        refine Run_nil (by kernel_rfl) ?_
        refine Run_keep [0, 1] (L' := [(0, .pointer (some ⟨bs_, 0, none⟩)), (1, .int .i64 k_)]) (by kernel_rfl) ?_
        refine Run_blk ?_
        have H31 : Hold h h14 [own cd23 a5 x2.length c5 x2, box bs_ 96 [.slice as_a s_.a.length cs_a, .slice a5 x2.length c5, .slice a8 l1.length c7], rowsQ cd2 23 a8 l1.length c7 l1 [(qas_lists0, qcs_lists0, qls_lists0)], own cd23 a1 s1.1.length c1 s1.1, it] := H29.pick [2, 0, 1, 3, 4] (by kernel_rfl)
        have H32 : Hold h h14 [rowsQ cd2 23 a8 l1.length c7 l1 [(qas_lists0, qcs_lists0, qls_lists0)], own cd23 a5 x2.length c5 x2, box bs_ 96 [.slice as_a s_.a.length cs_a, .slice a5 x2.length c5, .slice a8 l1.length c7], own cd23 a1 s1.1.length c1 s1.1, it] := H31.pick [2, 0, 1, 3, 4] (by kernel_rfl)
        have H33 : Hold h h14 [box bs_ 96 [.slice as_a s_.a.length cs_a, .slice a5 x2.length c5, .slice a8 l1.length c7], own cd23 a5 x2.length c5 x2, rowsQ cd2 23 a8 l1.length c7 l1 [(qas_lists0, qcs_lists0, qls_lists0)], it] := H32.pick [2, 1, 0, 4] (by kernel_rfl)
        have hB1 := M.ret_some hB1
        have gx1 := hgoy1 _ hB1.symm
        exact Run_again [0, 1] (by kernel_rfl) my1 (Nat.lt_succ_self _) ⟨(x2, l1), a5, c5, a8, c7, gx1, rfl, H33⟩
    · have hB1 := (M.ite_some hB1).2 hb1
      refine Run_exit (k' := _) rfl ?_
      have H34 : Hold h h1 [own cd23 a1 s1.1.length c1 s1.1, box bs_ 96 [.slice as_a s_.a.length cs_a, .slice a1 s1.1.length c1, .slice a2 s1.2.length c2], rowsQ cd2 23 a2 s1.2.length c2 s1.2 [(qas_lists0, qcs_lists0, qls_lists0)], it] := H1.pick [1, 0, 2, 3] (by kernel_rfl)
      have H35 : Hold h h1 [rowsQ cd2 23 a2 s1.2.length c2 s1.2 [(qas_lists0, qcs_lists0, qls_lists0)], own cd23 a1 s1.1.length c1 s1.1, box bs_ 96 [.slice as_a s_.a.length cs_a, .slice a1 s1.1.length c1, .slice a2 s1.2.length c2], it] := H34.pick [2, 0, 1, 3] (by kernel_rfl)
      have H36 : Hold h h1 [box bs_ 96 [.slice as_a s_.a.length cs_a, .slice a1 s1.1.length c1, .slice a2 s1.2.length c2], own cd23 a1 s1.1.length c1 s1.1, rowsQ cd2 23 a2 s1.2.length c2 s1.2 [(qas_lists0, qcs_lists0, qls_lists0)], it] := H35.pick [2, 1, 0, 3] (by kernel_rfl)
      have hB1 := M.ret_some hB1
      have gx1 := houty1 _ hB1.symm
      subst gx1
      exact Run_fall [0, 1] (by kernel_rfl) ⟨(s1.1, s1.2), a1, c1, a2, c2, rfl, rfl, H36⟩

set_option maxRecDepth 100000 in
set_option maxHeartbeats 4000000 in
theorem w_spec_l07Find_B (h hE : Heap) (it : Item) (s_ : TL07series) (bs_ : Nat) (as_a : Option Addr) (cs_a : Nat) (rs_a : Rd cd23 h (Lt h) as_a cs_a s_.a) (as_last : Option Addr) (cs_last : Nat) (as_lists : Option Addr) (cs_lists : Nat) (HM : Hold h hE [box bs_ 96 [.slice as_a s_.a.length cs_a, .slice as_last s_.last.length cs_last, .slice as_lists s_.lists.length cs_lists], own cd23 as_last s_.last.length cs_last s_.last, own cd23 as_lists s_.lists.length cs_lists s_.lists, it]) (n : Nat) (r : Int × Int × Int × Int × TL07series) (hF : spec_l07Find_B s_ n = some r) :
    Fn Try.prog 79 #[.pointer (some ⟨bs_, 0, none⟩)] hE fun v h' => ∃ (a0 : Option Addr) (c0 : Nat), ∃ (a1 : Option Addr) (c1 : Nat), v = .tuple #[.int .i64 r.1, .int .i64 r.2.1, .int .i64 r.2.2.1, .int .i64 r.2.2.2.1] ∧ Hold h h' [box bs_ 96 [.slice as_a s_.a.length cs_a, .slice a0 r.2.2.2.2.last.length c0, .slice a1 r.2.2.2.2.lists.length c1], own cd23 a0 r.2.2.2.2.last.length c0 r.2.2.2.2.last, own cd23 a1 r.2.2.2.2.lists.length c1 r.2.2.2.2.lists, it] := by
  unfold spec_l07Find_B at hF
  refine Fn_enter (args := [.pointer (some ⟨bs_, 0, none⟩)]) Try.func79 rfl (by kernel_rfl) (by kernel_rfl) (fun w0 _ => ?_)
  refine Run_seq ?_
  refine Run_reg 4 (by kernel_rfl) (L' := [(0, .pointer (some ⟨bs_, 0, none⟩))]) ?_ ?_
  · refine QRun_b [.int .i64 0, .int .i64 0, .int .i64 0, .int .i64 0] 0 _ (by kernel_rfl) (fun w => by kernel_rfl) ?_
    exact QRun_done [0] (by kernel_rfl) (by kernel_rfl)
  refine Run_seq ?_
  refine Run_seq ?_
  refine Run_reg 1 (by kernel_rfl) (L' := [(0, .pointer (some ⟨bs_, 0, none⟩)), (6, .int .i64 0)]) ?_ ?_
  · refine QRun_b [.int .i64 0] 0 _ (by kernel_rfl) (fun w => by kernel_rfl) ?_
    exact QRun_done [0, 6] (by kernel_rfl) (by kernel_rfl)
  obtain ⟨x1, gx1, hF⟩ := M.bind_some hF
  obtain ⟨hloy1, hhiy1, gx1⟩ := M.for_start gx1
  refine Run_join (fun L' h' => ∃ (s2 : (List (List Int)) × (List (List Int))) (a3 : Option Addr) (c3 : Nat) (a4 : Option Addr) (c4 : Nat), x1 = .inl s2 ∧ L' = [] ∧ Hold h h' [box bs_ 96 [.slice as_a s_.a.length cs_a, .slice a3 s2.1.length c3, .slice a4 s2.2.length c4], own cd23 a3 s2.1.length c3 s2.1, own cd23 a4 s2.2.length c4 s2.2, it]) ?_ ?_
  · rintro _ h2 ⟨s2, a3, c3, a4, c4, es2, rfl, H2⟩
    have hF := M.cont_inl' hF es2
    refine Run_seq ?_
    refine Run_reg 4 (by kernel_rfl) (L' := [(2, .int .i64 0), (3, .int .i64 0), (4, .int .i64 0), (5, .int .i64 4)]) ?_ ?_
    · refine QRun_b [.int .i64 0, .int .i64 0, .int .i64 0, .int .i64 4] 0 _ (by kernel_rfl) (fun w => by kernel_rfl) ?_
      exact QRun_done [2, 3, 4, 5] (by kernel_rfl) (by kernel_rfl)
    have hF := M.ret_some hF
    subst hF
    have H45 : Hold h h2 [own cd23 a3 s2.1.length c3 s2.1, box bs_ 96 [.slice as_a s_.a.length cs_a, .slice a3 s2.1.length c3, .slice a4 s2.2.length c4], own cd23 a4 s2.2.length c4 s2.2, it] := H2.pick [1, 0, 2, 3] (by kernel_rfl)
    have H46 : Hold h h2 [own cd23 a4 s2.2.length c4 s2.2, own cd23 a3 s2.1.length c3 s2.1, box bs_ 96 [.slice as_a s_.a.length cs_a, .slice a3 s2.1.length c3, .slice a4 s2.2.length c4], it] := H45.pick [2, 0, 1, 3] (by kernel_rfl)
    have H47 : Hold h h2 [box bs_ 96 [.slice as_a s_.a.length cs_a, .slice a3 s2.1.length c3, .slice a4 s2.2.length c4], own cd23 a3 s2.1.length c3 s2.1, own cd23 a4 s2.2.length c4 s2.2, it] := H46.pick [2, 1, 0, 3] (by kernel_rfl)
    exact Run_ret4 rfl (ResV_tmp (v := .int .i64 0) (by kernel_rfl)) (ResV_tmp (v := .int .i64 0) (by kernel_rfl)) (ResV_tmp (v := .int .i64 0) (by kernel_rfl)) (ResV_tmp (v := .int .i64 4) (by kernel_rfl)) ⟨a3, c3, a4, c4, rfl, H47⟩
  · refine Run_block ?_
    have H48 : Hold h hE [own cd23 as_last s_.last.length cs_last s_.last, box bs_ 96 [.slice as_a s_.a.length cs_a, .slice as_last s_.last.length cs_last, .slice as_lists s_.lists.length cs_lists], own cd23 as_lists s_.lists.length cs_lists s_.lists, it] := HM.pick [1, 0, 2, 3] (by kernel_rfl)
    have H49 : Hold h hE [own cd23 as_lists s_.lists.length cs_lists s_.lists, own cd23 as_last s_.last.length cs_last s_.last, box bs_ 96 [.slice as_a s_.a.length cs_a, .slice as_last s_.last.length cs_last, .slice as_lists s_.lists.length cs_lists], it] := H48.pick [2, 0, 1, 3] (by kernel_rfl)
    have H50 : Hold h hE [box bs_ 96 [.slice as_a s_.a.length cs_a, .slice as_last s_.last.length cs_last, .slice as_lists s_.lists.length cs_lists], own cd23 as_last s_.last.length cs_last s_.last, own cd23 as_lists s_.lists.length cs_lists s_.lists, it] := H49.pick [2, 1, 0, 3] (by kernel_rfl)
    refine Run_keep [0, 6] (L' := [(0, .pointer (some ⟨bs_, 0, none⟩)), (6, .int .i64 0)]) (by kernel_rfl) ?_
    refine Run_loop (fun m L' h' => ∃ (i1 : Int) (s1 : (List (List Int)) × (List (List Int))) (a1 : Option Addr) (c1 : Nat) (a2 : Option Addr) (c2 : Nat), 0 ≤ i1 ∧ M.forN 100 _ _ n m i1 s1 = some x1 ∧ L' = [(0, .pointer (some ⟨bs_, 0, none⟩)), (6, .int .i64 i1)] ∧ Hold h h' [box bs_ 96 [.slice as_a s_.a.length cs_a, .slice a1 s1.1.length c1, .slice a2 s1.2.length c2], own cd23 a1 s1.1.length c1 s1.1, own cd23 a2 s1.2.length c2 s1.2, it]) (100 - 0 : Int).toNat ⟨0, (s_.last, s_.lists), as_last, cs_last, as_lists, cs_lists, Int.le_refl _, gx1, rfl, H50⟩ ?_
    rintro my1 _ h1 ⟨i1, s1, a1, c1, a2, c2, hloy1', gx1, rfl, H1⟩
    refine Run_seq ?_
    refine Run_seq ?_
    refine Run_reg 2 (by kernel_rfl) (L' := [(0, .pointer (some ⟨bs_, 0, none⟩)), (6, .int .i64 i1), (15, .bool (decide (i1 < 100)))]) ?_ ?_
    · refine QRun_b [.int .i64 i1, .bool (decide (i1 < 100))] 0 _ (by kernel_rfl) (fun w => by kernel_rfl) ?_
      exact QRun_done [0, 6, 15] (by kernel_rfl) (by kernel_rfl)
    refine Run_cond (b := decide (i1 < 100)) (by kernel_rfl) (fun hb1 => ?_) (fun hb1 => ?_)
    · obtain ⟨my1, y1, rfl, hB1, hgoy1, houty1⟩ := M.for_go gx1 hb1
      have hlty1 := of_decide_eq_true hb1
      refine Run_skip ?_
      refine Run_seq ?_
      refine Run_block ?_
      refine Run_seq ?_
      refine Run_ops ?_
      refine Run_b [.pointer (some ⟨bs_, 0, none⟩), .int .i64 i1] 0 _ (by kernel_rfl) (fun w => by kernel_rfl) ?_
      obtain ⟨x2, hx1, hB1⟩ := M.bind_some hB1
      have H3 : Hold h h1 [own cd23 a1 s1.1.length c1 s1.1, box bs_ 96 [.slice as_a s_.a.length cs_a, .slice a1 s1.1.length c1, .slice a2 s1.2.length c2], own cd23 a2 s1.2.length c2 s1.2, it] := H1.pick [1, 0, 2, 3] (by kernel_rfl)
      have H4 : Hold h h1 [own cd23 a2 s1.2.length c2 s1.2, own cd23 a1 s1.1.length c1 s1.1, box bs_ 96 [.slice as_a s_.a.length cs_a, .slice a1 s1.1.length c1, .slice a2 s1.2.length c2], it] := H3.pick [2, 0, 1, 3] (by kernel_rfl)
      have H5 := H4.toQ
      have H6 : Hold h h1 [box bs_ 96 [.slice as_a s_.a.length cs_a, .slice a1 s1.1.length c1, .slice a2 s1.2.length c2], own cd23 a1 s1.1.length c1 s1.1, rowsQ cd2 23 a2 s1.2.length c2 s1.2 [], it] := H5.pick [2, 1, 0, 3] (by kernel_rfl)
      have H7 : Hold h h1 [box bs_ 96 [.slice as_a s_.a.length cs_a, .slice a1 s1.1.length c1, .slice a2 s1.2.length c2], own cd23 a1 s1.1.length c1 s1.1, rowsQ cd2 23 a2 s1.2.length c2 s1.2 [], bun [it]] := Hold.bundle (S := [box bs_ 96 [.slice as_a s_.a.length cs_a, .slice a1 s1.1.length c1, .slice a2 s1.2.length c2], own cd23 a1 s1.1.length c1 s1.1, rowsQ cd2 23 a2 s1.2.length c2 s1.2 []]) (R := [it]) H6
      refine Run_E (by kernel_rfl) ?_
      refine E_call (f := 95) (args := #[.pointer (some ⟨bs_, 0, none⟩), .int .i64 i1]) (w_spec_l07At_BQ0 h h1 _ (⟨s_.a, s1.1, s1.2⟩ : TL07series) bs_ as_a cs_a rs_a a1 c1 a2 c2 i1 H7 _ _ hx1) (by kernel_rfl) (fun v1 h3 hp1 => ?_)
      obtain ⟨a5, c5, a6, c6, a7, c7, rfl, H8⟩ := hp1
      have H9 : Hold h h3 [box bs_ 96 [.slice as_a s_.a.length cs_a, .slice a6 x2.2.2.last.length c6, .slice a7 x2.2.2.lists.length c7], own cd23 a6 x2.2.2.last.length c6 x2.2.2.last, rowsQ cd2 23 a7 x2.2.2.lists.length c7 x2.2.2.lists [(a5, c5, x2.1)], it] := Hold.unbundle (S := [box bs_ 96 [.slice as_a s_.a.length cs_a, .slice a6 x2.2.2.last.length c6, .slice a7 x2.2.2.lists.length c7], own cd23 a6 x2.2.2.last.length c6 x2.2.2.last, rowsQ cd2 23 a7 x2.2.2.lists.length c7 x2.2.2.lists [(a5, c5, x2.1)]]) (R := [it]) H8 (Hold.tailBase (S := [box bs_ 96 [.slice as_a s_.a.length cs_a, .slice a1 s1.1.length c1, .slice a2 s1.2.length c2], own cd23 a1 s1.1.length c1 s1.1, rowsQ cd2 23 a2 s1.2.length c2 s1.2 []]) (R := [it]) H6)
      refine Run_b [.tuple #[.slice a5 x2.1.length c5, .bool x2.2.1], .slice a5 x2.1.length c5, .bool x2.2.1, .slice a5 x2.1.length c5, .bool x2.2.1] 3 _ (by kernel_rfl) (fun w => by kernel_rfl) ?_
      refine Run_nil (by kernel_rfl) ?_
      refine Run_keep [0, 6, 7] (L' := [(0, .pointer (some ⟨bs_, 0, none⟩)), (6, .int .i64 i1), (7, .slice a5 x2.1.length c5)]) (by kernel_rfl) ?_
      refine Run_seq ?_
      refine Run_reg 1 (by kernel_rfl) (L' := [(0, .pointer (some ⟨bs_, 0, none⟩)), (6, .int .i64 i1), (7, .slice a5 x2.1.length c5), (9, .int .i64 1)]) ?_ ?_
      · refine QRun_b [.int .i64 1] 0 _ (by kernel_rfl) (fun w => by kernel_rfl) ?_
        exact QRun_done [0, 6, 7, 9] (by kernel_rfl) (by kernel_rfl)
      obtain ⟨x3, gx3, hB1⟩ := M.bind_some hB1
      refine Run_join (fun L' h' => ∃ (s4 : (List (List Int)) × (List (List Int)) × Int) (a10 : Option Addr) (c10 : Nat) (a11 : Option Addr) (c11 : Nat), x3 = .inl s4 ∧ L' = [(0, .pointer (some ⟨bs_, 0, none⟩)), (6, .int .i64 i1)] ∧ Hold h h' [box bs_ 96 [.slice as_a s_.a.length cs_a, .slice a10 s4.1.length c10, .slice a11 s4.2.1.length c11], own cd23 a10 s4.1.length c10 s4.1, rowsQ cd2 23 a11 s4.2.1.length c11 s4.2.1 [(a5, c5, x2.1)], it]) ?_ ?_
      · rintro _ h5 ⟨s4, a10, c10, a11, c11, es4, rfl, H11⟩
        have hB1 := M.cont_inl' hB1 es4
        refine Run_blk ?_
        refine Run_reg 3 (by kernel_rfl) (L' := [(0, .pointer (some ⟨bs_, 0, none⟩)), (6, .int .i64 (i1 + 1))]) ?_ ?_
        · refine QRun_b [.int .i64 i1] 0 _ (by kernel_rfl) (fun w => by kernel_rfl) ?_
          refine QRun_y (.int .i64 (i1 + 1)) (by kernel_rfl) (Y_eq (v := .int .i64 (w64 (i1 + 1))) (Y_pure (fun w => by kernel_rfl)) (by rw [w64_eq _ (by omega)])) ?_
          refine QRun_b [.int .i64 (i1 + 1)] 2 _ (by kernel_rfl) (fun w => by kernel_rfl) ?_
          exact QRun_done [0, 6] (by kernel_rfl) (by kernel_rfl)
        have H35 : Hold h h5 [own cd23 a10 s4.1.length c10 s4.1, box bs_ 96 [.slice as_a s_.a.length cs_a, .slice a10 s4.1.length c10, .slice a11 s4.2.1.length c11], rowsQ cd2 23 a11 s4.2.1.length c11 s4.2.1 [(a5, c5, x2.1)], it] := H11.pick [1, 0, 2, 3] (by kernel_rfl)
        have H36 : Hold h h5 [rowsQ cd2 23 a11 s4.2.1.length c11 s4.2.1 [(a5, c5, x2.1)], own cd23 a10 s4.1.length c10 s4.1, box bs_ 96 [.slice as_a s_.a.length cs_a, .slice a10 s4.1.length c10, .slice a11 s4.2.1.length c11], it] := H35.pick [2, 0, 1, 3] (by kernel_rfl)
        have H37 := H36.ofQ
        have H38 : Hold h h5 [box bs_ 96 [.slice as_a s_.a.length cs_a, .slice a10 s4.1.length c10, .slice a11 s4.2.1.length c11], own cd23 a10 s4.1.length c10 s4.1, own cd23 a11 s4.2.1.length c11 s4.2.1, it] := H37.pick [2, 1, 0, 3] (by kernel_rfl)
        have hB1 := M.ret_some hB1
        have gx1 := hgoy1 _ hB1.symm
        exact Run_again [0, 6] (by kernel_rfl) my1 (Nat.lt_succ_self _) ⟨i1 + 1, (s4.1, s4.2.1), a10, c10, a11, c11, by omega, gx1, rfl, H38⟩
      · refine Run_block ?_
        have H39 : Hold h h3 [own cd23 a6 x2.2.2.last.length c6 x2.2.2.last, box bs_ 96 [.slice as_a s_.a.length cs_a, .slice a6 x2.2.2.last.length c6, .slice a7 x2.2.2.lists.length c7], rowsQ cd2 23 a7 x2.2.2.lists.length c7 x2.2.2.lists [(a5, c5, x2.1)], it] := H9.pick [1, 0, 2, 3] (by kernel_rfl)
        have H40 : Hold h h3 [rowsQ cd2 23 a7 x2.2.2.lists.length c7 x2.2.2.lists [(a5, c5, x2.1)], own cd23 a6 x2.2.2.last.length c6 x2.2.2.last, box bs_ 96 [.slice as_a s_.a.length cs_a, .slice a6 x2.2.2.last.length c6, .slice a7 x2.2.2.lists.length c7], it] := H39.pick [2, 0, 1, 3] (by kernel_rfl)
        have H41 : Hold h h3 [box bs_ 96 [.slice as_a s_.a.length cs_a, .slice a6 x2.2.2.last.length c6, .slice a7 x2.2.2.lists.length c7], own cd23 a6 x2.2.2.last.length c6 x2.2.2.last, rowsQ cd2 23 a7 x2.2.2.lists.length c7 x2.2.2.lists [(a5, c5, x2.1)], it] := H40.pick [2, 1, 0, 3] (by kernel_rfl)
        refine Run_keep [0, 6, 7, 9] (L' := [(0, .pointer (some ⟨bs_, 0, none⟩)), (6, .int .i64 i1), (7, .slice a5 x2.1.length c5), (9, .int .i64 1)]) (by kernel_rfl) ?_
        refine Run_loop (fun m L' h' => ∃ (s3 : (List (List Int)) × (List (List Int)) × Int) (a8 : Option Addr) (c8 : Nat) (a9 : Option Addr) (c9 : Nat), M.loopN _ n m s3 = some x3 ∧ L' = [(0, .pointer (some ⟨bs_, 0, none⟩)), (6, .int .i64 i1), (7, .slice a5 x2.1.length c5), (9, .int .i64 s3.2.2)] ∧ Hold h h' [box bs_ 96 [.slice as_a s_.a.length cs_a, .slice a8 s3.1.length c8, .slice a9 s3.2.1.length c9], own cd23 a8 s3.1.length c8 s3.1, rowsQ cd2 23 a9 s3.2.1.length c9 s3.2.1 [(a5, c5, x2.1)], it]) n ⟨(x2.2.2.last, x2.2.2.lists, 1), a6, c6, a7, c7, gx3, rfl, H41⟩ ?_
        rintro my2 _ h4 ⟨s3, a8, c8, a9, c9, gx3, rfl, H10⟩
        obtain ⟨my2, y2, rfl, hB2, hgoy2, houty2⟩ := M.loop_some gx3
        refine Run_seq ?_
        refine Run_seq ?_
        refine Run_reg 4 (by kernel_rfl) (L' := [(0, .pointer (some ⟨bs_, 0, none⟩)), (6, .int .i64 i1), (7, .slice a5 x2.1.length c5), (9, .int .i64 s3.2.2), (27, .bool (decide ((w64 (i1 + s3.2.2)) ≤ 100)))]) ?_ ?_
        · refine QRun_b [.int .i64 i1, .int .i64 s3.2.2, .int .i64 (w64 (i1 + s3.2.2)), .bool (decide ((w64 (i1 + s3.2.2)) ≤ 100))] 0 _ (by kernel_rfl) (fun w => by kernel_rfl) ?_
          exact QRun_done [0, 6, 7, 9, 27] (by kernel_rfl) (by kernel_rfl)
        refine Run_cond (b := decide ((w64 (i1 + s3.2.2)) ≤ 100)) (by kernel_rfl) (fun hb2 => ?_) (fun hb2 => ?_)
        · have hB2 := (M.ite_some hB2).1 hb2
          refine Run_skip ?_
          refine Run_seq ?_
          refine Run_block ?_
          refine Run_seq ?_
          refine Run_ops ?_
          refine Run_b [.pointer (some ⟨bs_, 0, none⟩), .int .i64 i1, .int .i64 s3.2.2, .int .i64 (w64 (i1 + s3.2.2))] 0 _ (by kernel_rfl) (fun w => by kernel_rfl) ?_
          obtain ⟨x4, hx2, hB2⟩ := M.bind_some hB2
          have H12 : Hold h h4 [own cd23 a8 s3.1.length c8 s3.1, box bs_ 96 [.slice as_a s_.a.length cs_a, .slice a8 s3.1.length c8, .slice a9 s3.2.1.length c9], rowsQ cd2 23 a9 s3.2.1.length c9 s3.2.1 [(a5, c5, x2.1)], it] := H10.pick [1, 0, 2, 3] (by kernel_rfl)
          have H13 : Hold h h4 [rowsQ cd2 23 a9 s3.2.1.length c9 s3.2.1 [(a5, c5, x2.1)], own cd23 a8 s3.1.length c8 s3.1, box bs_ 96 [.slice as_a s_.a.length cs_a, .slice a8 s3.1.length c8, .slice a9 s3.2.1.length c9], it] := H12.pick [2, 0, 1, 3] (by kernel_rfl)
          have H14 : Hold h h4 [box bs_ 96 [.slice as_a s_.a.length cs_a, .slice a8 s3.1.length c8, .slice a9 s3.2.1.length c9], own cd23 a8 s3.1.length c8 s3.1, rowsQ cd2 23 a9 s3.2.1.length c9 s3.2.1 [(a5, c5, x2.1)], it] := H13.pick [2, 1, 0, 3] (by kernel_rfl)
          have H15 : Hold h h4 [box bs_ 96 [.slice as_a s_.a.length cs_a, .slice a8 s3.1.length c8, .slice a9 s3.2.1.length c9], own cd23 a8 s3.1.length c8 s3.1, rowsQ cd2 23 a9 s3.2.1.length c9 s3.2.1 [(a5, c5, x2.1)], bun [it]] := Hold.bundle (S := [box bs_ 96 [.slice as_a s_.a.length cs_a, .slice a8 s3.1.length c8, .slice a9 s3.2.1.length c9], own cd23 a8 s3.1.length c8 s3.1, rowsQ cd2 23 a9 s3.2.1.length c9 s3.2.1 [(a5, c5, x2.1)]]) (R := [it]) H14
          refine Run_E (by kernel_rfl) ?_
          refine E_call (f := 95) (args := #[.pointer (some ⟨bs_, 0, none⟩), .int .i64 (w64 (i1 + s3.2.2))]) (w_spec_l07At_BQ1 h h4 _ (⟨s_.a, s3.1, s3.2.1⟩ : TL07series) bs_ as_a cs_a rs_a a8 c8 a9 c9 a5 c5 x2.1 (w64 (i1 + s3.2.2)) H15 _ _ hx2) (by kernel_rfl) (fun v2 h6 hp2 => ?_)
          obtain ⟨a12, c12, a13, c13, a14, c14, rfl, H16⟩ := hp2
          have H17 : Hold h h6 [box bs_ 96 [.slice as_a s_.a.length cs_a, .slice a13 x4.2.2.last.length c13, .slice a14 x4.2.2.lists.length c14], own cd23 a13 x4.2.2.last.length c13 x4.2.2.last, rowsQ cd2 23 a14 x4.2.2.lists.length c14 x4.2.2.lists [(a12, c12, x4.1), (a5, c5, x2.1)], it] := Hold.unbundle (S := [box bs_ 96 [.slice as_a s_.a.length cs_a, .slice a13 x4.2.2.last.length c13, .slice a14 x4.2.2.lists.length c14], own cd23 a13 x4.2.2.last.length c13 x4.2.2.last, rowsQ cd2 23 a14 x4.2.2.lists.length c14 x4.2.2.lists [(a12, c12, x4.1), (a5, c5, x2.1)]]) (R := [it]) H16 (Hold.tailBase (S := [box bs_ 96 [.slice as_a s_.a.length cs_a, .slice a8 s3.1.length c8, .slice a9 s3.2.1.length c9], own cd23 a8 s3.1.length c8 s3.1, rowsQ cd2 23 a9 s3.2.1.length c9 s3.2.1 [(a5, c5, x2.1)]]) (R := [it]) H14)
          refine Run_b [.tuple #[.slice a12 x4.1.length c12, .bool x4.2.1], .slice a12 x4.1.length c12, .bool x4.2.1, .slice a12 x4.1.length c12, .bool x4.2.1] 5 _ (by kernel_rfl) (fun w => by kernel_rfl) ?_
          refine Run_nil (by kernel_rfl) ?_
          refine Run_keep [0, 6, 7, 9, 10, 11] (L' := [(0, .pointer (some ⟨bs_, 0, none⟩)), (6, .int .i64 i1), (7, .slice a5 x2.1.length c5), (9, .int .i64 s3.2.2), (10, .slice a12 x4.1.length c12), (11, .bool x4.2.1)]) (by kernel_rfl) ?_
          refine Run_seq ?_
          refine Run_seq ?_
          refine Run_reg 2 (by kernel_rfl) (L' := [(0, .pointer (some ⟨bs_, 0, none⟩)), (6, .int .i64 i1), (7, .slice a5 x2.1.length c5), (9, .int .i64 s3.2.2), (10, .slice a12 x4.1.length c12), (39, .bool (!x4.2.1))]) ?_ ?_
          · refine QRun_b [.bool x4.2.1, .bool (!x4.2.1)] 0 _ (by kernel_rfl) (fun w => by kernel_rfl) ?_
            exact QRun_done [0, 6, 7, 9, 10, 39] (by kernel_rfl) (by kernel_rfl)
          refine Run_cond (b := !x4.2.1) (by kernel_rfl) (fun hb3 => ?_) (fun hb3 => ?_)
          · have hB2 := (M.ite_some hB2).1 hb3
            refine Run_seq ?_
            refine Run_reg 4 (by kernel_rfl) (L' := [(2, .int .i64 0), (3, .int .i64 0), (4, .int .i64 0), (5, .int .i64 3)]) ?_ ?_
            · refine QRun_b [.int .i64 0, .int .i64 0, .int .i64 0, .int .i64 3] 0 _ (by kernel_rfl) (fun w => by kernel_rfl) ?_
              exact QRun_done [2, 3, 4, 5] (by kernel_rfl) (by kernel_rfl)
            have hB2 := M.ret_some hB2
            have gx3 := houty2 _ hB2.symm
            have hB1 := M.cont_inr' hB1 gx3
            have hB1 := M.ret_some hB1
            have gx1 := houty1 _ hB1.symm
            have hF := M.cont_inr' hF gx1
            have hF := M.ret_some hF
            subst hF
            have H18 : Hold h h6 [own cd23 a13 x4.2.2.last.length c13 x4.2.2.last, box bs_ 96 [.slice as_a s_.a.length cs_a, .slice a13 x4.2.2.last.length c13, .slice a14 x4.2.2.lists.length c14], rowsQ cd2 23 a14 x4.2.2.lists.length c14 x4.2.2.lists [(a12, c12, x4.1), (a5, c5, x2.1)], it] := H17.pick [1, 0, 2, 3] (by kernel_rfl)
            have H19 : Hold h h6 [rowsQ cd2 23 a14 x4.2.2.lists.length c14 x4.2.2.lists [(a12, c12, x4.1), (a5, c5, x2.1)], own cd23 a13 x4.2.2.last.length c13 x4.2.2.last, box bs_ 96 [.slice as_a s_.a.length cs_a, .slice a13 x4.2.2.last.length c13, .slice a14 x4.2.2.lists.length c14], it] := H18.pick [2, 0, 1, 3] (by kernel_rfl)
            have H20 := H19.ofQ
            have H21 : Hold h h6 [box bs_ 96 [.slice as_a s_.a.length cs_a, .slice a13 x4.2.2.last.length c13, .slice a14 x4.2.2.lists.length c14], own cd23 a13 x4.2.2.last.length c13 x4.2.2.last, own cd23 a14 x4.2.2.lists.length c14 x4.2.2.lists, it] := H20.pick [2, 1, 0, 3] (by kernel_rfl)
            exact Run_ret4 rfl (ResV_tmp (v := .int .i64 0) (by kernel_rfl)) (ResV_tmp (v := .int .i64 0) (by kernel_rfl)) (ResV_tmp (v := .int .i64 0) (by kernel_rfl)) (ResV_tmp (v := .int .i64 3) (by kernel_rfl)) ⟨a13, c13, a14, c14, rfl, H21⟩
          · have hB2 := (M.ite_some hB2).2 hb3
            refine Run_skip ?_
            refine Run_seq ?_
            obtain ⟨x5, hx3, hB2⟩ := M.bind_some hB2
            refine Run_regC (j := 8) (C := fun x => Hold h x [box bs_ 96 [.slice as_a s_.a.length cs_a, .slice a13 x4.2.2.last.length c13, .slice a14 x4.2.2.lists.length c14], own cd23 a13 x4.2.2.last.length c13 x4.2.2.last, rowsQ cd2 23 a14 x4.2.2.lists.length c14 x4.2.2.lists [(a12, c12, x4.1), (a5, c5, x2.1)], it]) (by kernel_rfl) H17 (L' := [(0, .pointer (some ⟨bs_, 0, none⟩)), (6, .int .i64 i1), (7, .slice a5 x2.1.length c5), (9, .int .i64 s3.2.2), (12, .int .i64 x5.1), (13, .bool x5.2)]) ?_ (fun h7 H22 => ?_)
            · refine QRun_b [.slice a5 x2.1.length c5, .slice a12 x4.1.length c12] 0 _ (by kernel_rfl) (fun w => by kernel_rfl) ?_
              refine QRun_y (.tuple #[.int .i64 x5.1, .bool x5.2]) (by kernel_rfl) (Y_call (f := 133) (args := #[.slice a5 x2.1.length c5, .slice a12 x4.1.length c12]) (v := .tuple #[.int .i64 x5.1, .bool x5.2]) (by kernel_rfl) fun hx Hx => (w_spec_l07Gap hx x2.1 a5 c5 (Hx.rdPeek 2 rfl 1 rfl) x4.1 a12 c12 (Hx.rdPeek 2 rfl 0 rfl) _ _ hx3).mono fun _ _ ⟨e, H'⟩ => ⟨e, Hx.call H' rfl⟩) ?_
              refine QRun_b [.tuple #[.int .i64 x5.1, .bool x5.2], .int .i64 x5.1, .bool x5.2, .int .i64 x5.1, .bool x5.2] 3 _ (by kernel_rfl) (fun w => by kernel_rfl) ?_
              exact QRun_done [0, 6, 7, 9, 12, 13] (by kernel_rfl) (by kernel_rfl)
            have H23 : Hold h h7 [box bs_ 96 [.slice as_a s_.a.length cs_a, .slice a13 x4.2.2.last.length c13, .slice a14 x4.2.2.lists.length c14], own cd23 a13 x4.2.2.last.length c13 x4.2.2.last, rowsQ cd2 23 a14 x4.2.2.lists.length c14 x4.2.2.lists [(a12, c12, x4.1), (a5, c5, x2.1)], it] := H22
            refine Run_seq ?_
            refine Run_reg 1 (by kernel_rfl) (L' := [(0, .pointer (some ⟨bs_, 0, none⟩)), (6, .int .i64 i1), (7, .slice a5 x2.1.length c5), (9, .int .i64 s3.2.2), (12, .int .i64 x5.1), (46, .bool x5.2)]) ?_ ?_
            · refine QRun_b [.bool x5.2] 0 _ (by kernel_rfl) (fun w => by kernel_rfl) ?_
              exact QRun_done [0, 6, 7, 9, 12, 46] (by kernel_rfl) (by kernel_rfl)
            refine Run_cond (b := x5.2) (by kernel_rfl) (fun hb4 => ?_) (fun hb4 => ?_)
            · have hB2 := (M.ite_some hB2).1 hb4
              refine Run_seq ?_
              refine Run_reg 7 (by kernel_rfl) (L' := [(2, .int .i64 i1), (3, .int .i64 s3.2.2), (4, .int .i64 x5.1), (5, .int .i64 0)]) ?_ ?_
              · refine QRun_b [.int .i64 i1, .int .i64 s3.2.2, .int .i64 x5.1, .int .i64 i1, .int .i64 s3.2.2, .int .i64 x5.1, .int .i64 0] 0 _ (by kernel_rfl) (fun w => by kernel_rfl) ?_
                exact QRun_done [2, 3, 4, 5] (by kernel_rfl) (by kernel_rfl)
              have hB2 := M.ret_some hB2
              have gx3 := houty2 _ hB2.symm
              have hB1 := M.cont_inr' hB1 gx3
              have hB1 := M.ret_some hB1
              have gx1 := houty1 _ hB1.symm
              have hF := M.cont_inr' hF gx1
              have hF := M.ret_some hF
              subst hF
              have H24 : Hold h h7 [own cd23 a13 x4.2.2.last.length c13 x4.2.2.last, box bs_ 96 [.slice as_a s_.a.length cs_a, .slice a13 x4.2.2.last.length c13, .slice a14 x4.2.2.lists.length c14], rowsQ cd2 23 a14 x4.2.2.lists.length c14 x4.2.2.lists [(a12, c12, x4.1), (a5, c5, x2.1)], it] := H23.pick [1, 0, 2, 3] (by kernel_rfl)
              have H25 : Hold h h7 [rowsQ cd2 23 a14 x4.2.2.lists.length c14 x4.2.2.lists [(a12, c12, x4.1), (a5, c5, x2.1)], own cd23 a13 x4.2.2.last.length c13 x4.2.2.last, box bs_ 96 [.slice as_a s_.a.length cs_a, .slice a13 x4.2.2.last.length c13, .slice a14 x4.2.2.lists.length c14], it] := H24.pick [2, 0, 1, 3] (by kernel_rfl)
              have H26 := H25.ofQ
              have H27 : Hold h h7 [box bs_ 96 [.slice as_a s_.a.length cs_a, .slice a13 x4.2.2.last.length c13, .slice a14 x4.2.2.lists.length c14], own cd23 a13 x4.2.2.last.length c13 x4.2.2.last, own cd23 a14 x4.2.2.lists.length c14 x4.2.2.lists, it] := H26.pick [2, 1, 0, 3] (by kernel_rfl)
              exact Run_ret4 rfl (ResV_tmp (v := .int .i64 i1) (by kernel_rfl)) (ResV_tmp (v := .int .i64 s3.2.2) (by kernel_rfl)) (ResV_tmp (v := .int .i64 x5.1) (by kernel_rfl)) (ResV_tmp (v := .int .i64 0) (by kernel_rfl)) ⟨a13, c13, a14, c14, rfl, H27⟩
            · have hB2 := (M.ite_some hB2).2 hb4
              refine Run_skip ?_
              refine Run_blk ?_
              refine Run_reg 3 (by kernel_rfl) (L' := [(0, .pointer (some ⟨bs_, 0, none⟩)), (6, .int .i64 i1), (7, .slice a5 x2.1.length c5), (9, .int .i64 (w64 (s3.2.2 + 1)))]) ?_ ?_
              · refine QRun_b [.int .i64 s3.2.2, .int .i64 (w64 (s3.2.2 + 1)), .int .i64 (w64 (s3.2.2 + 1))] 0 _ (by kernel_rfl) (fun w => by kernel_rfl) ?_
                exact QRun_done [0, 6, 7, 9] (by kernel_rfl) (by kernel_rfl)
              have H28 : Hold h h7 [own cd23 a13 x4.2.2.last.length c13 x4.2.2.last, box bs_ 96 [.slice as_a s_.a.length cs_a, .slice a13 x4.2.2.last.length c13, .slice a14 x4.2.2.lists.length c14], rowsQ cd2 23 a14 x4.2.2.lists.length c14 x4.2.2.lists [(a12, c12, x4.1), (a5, c5, x2.1)], it] := H23.pick [1, 0, 2, 3] (by kernel_rfl)
              have H29 : Hold h h7 [rowsQ cd2 23 a14 x4.2.2.lists.length c14 x4.2.2.lists [(a12, c12, x4.1), (a5, c5, x2.1)], own cd23 a13 x4.2.2.last.length c13 x4.2.2.last, box bs_ 96 [.slice as_a s_.a.length cs_a, .slice a13 x4.2.2.last.length c13, .slice a14 x4.2.2.lists.length c14], it] := H28.pick [2, 0, 1, 3] (by kernel_rfl)
              have H30 := H29.pickQ [(a5, c5, x2.1)] (by simp)
              have H31 : Hold h h7 [box bs_ 96 [.slice as_a s_.a.length cs_a, .slice a13 x4.2.2.last.length c13, .slice a14 x4.2.2.lists.length c14], own cd23 a13 x4.2.2.last.length c13 x4.2.2.last, rowsQ cd2 23 a14 x4.2.2.lists.length c14 x4.2.2.lists [(a5, c5, x2.1)], it] := H30.pick [2, 1, 0, 3] (by kernel_rfl)
              have hB2 := M.ret_some hB2
              have gx3 := hgoy2 _ hB2.symm
              exact Run_again [0, 6, 7, 9] (by kernel_rfl) my2 (Nat.lt_succ_self _) ⟨(x4.2.2.last, x4.2.2.lists, (w64 (s3.2.2 + 1))), a13, c13, a14, c14, gx3, rfl, H31⟩
        · have hB2 := (M.ite_some hB2).2 hb2
          refine Run_exit (k' := _) rfl ?_
          have H32 : Hold h h4 [own cd23 a8 s3.1.length c8 s3.1, box bs_ 96 [.slice as_a s_.a.length cs_a, .slice a8 s3.1.length c8, .slice a9 s3.2.1.length c9], rowsQ cd2 23 a9 s3.2.1.length c9 s3.2.1 [(a5, c5, x2.1)], it] := H10.pick [1, 0, 2, 3] (by kernel_rfl)
          have H33 : Hold h h4 [rowsQ cd2 23 a9 s3.2.1.length c9 s3.2.1 [(a5, c5, x2.1)], own cd23 a8 s3.1.length c8 s3.1, box bs_ 96 [.slice as_a s_.a.length cs_a, .slice a8 s3.1.length c8, .slice a9 s3.2.1.length c9], it] := H32.pick [2, 0, 1, 3] (by kernel_rfl)
          have H34 : Hold h h4 [box bs_ 96 [.slice as_a s_.a.length cs_a, .slice a8 s3.1.length c8, .slice a9 s3.2.1.length c9], own cd23 a8 s3.1.length c8 s3.1, rowsQ cd2 23 a9 s3.2.1.length c9 s3.2.1 [(a5, c5, x2.1)], it] := H33.pick [2, 1, 0, 3] (by kernel_rfl)
          have hB2 := M.ret_some hB2
          have gx3 := houty2 _ hB2.symm
          subst gx3
          exact Run_fall [0, 6] (by kernel_rfl) ⟨(s3.1, s3.2.1, s3.2.2), a8, c8, a9, c9, rfl, rfl, H34⟩
    · have gx1 := M.for_end gx1 hb1
      subst gx1
      refine Run_exit (k' := _) rfl ?_
      have H42 : Hold h h1 [own cd23 a1 s1.1.length c1 s1.1, box bs_ 96 [.slice as_a s_.a.length cs_a, .slice a1 s1.1.length c1, .slice a2 s1.2.length c2], own cd23 a2 s1.2.length c2 s1.2, it] := H1.pick [1, 0, 2, 3] (by kernel_rfl)
      have H43 : Hold h h1 [own cd23 a2 s1.2.length c2 s1.2, own cd23 a1 s1.1.length c1 s1.1, box bs_ 96 [.slice as_a s_.a.length cs_a, .slice a1 s1.1.length c1, .slice a2 s1.2.length c2], it] := H42.pick [2, 0, 1, 3] (by kernel_rfl)
      have H44 : Hold h h1 [box bs_ 96 [.slice as_a s_.a.length cs_a, .slice a1 s1.1.length c1, .slice a2 s1.2.length c2], own cd23 a1 s1.1.length c1 s1.1, own cd23 a2 s1.2.length c2 s1.2, it] := H43.pick [2, 1, 0, 3] (by kernel_rfl)
      exact Run_fall [] (by kernel_rfl) ⟨(s1.1, s1.2), a1, c1, a2, c2, rfl, rfl, H44⟩

set_option maxRecDepth 100000 in
set_option maxHeartbeats 4000000 in
theorem w_spec_PowerEntry (h : Heap) (a_ : List (List Int)) (aa_ : Option Addr) (ca_ : Nat) (ra_ : Rd cd23 h (Lt h) aa_ ca_ a_) (n_ : Int) (i : Int) (j : Int) (n : Nat) (r : Int × Int) (hF : spec_PowerEntry a_ n_ i j n = some r) :
    Fn Try.prog 20 #[.slice aa_ a_.length ca_, .int .i64 n_, .int .i64 i, .int .i64 j] h fun v h' => v = .tuple #[.int .i64 r.1, .int .i64 r.2] ∧ Hold h h' [] := by
  unfold spec_PowerEntry at hF
  refine Fn_enter (args := [.slice aa_ a_.length ca_, .int .i64 n_, .int .i64 i, .int .i64 j]) Try.func20 rfl (by kernel_rfl) (by kernel_rfl) (fun w0 _ => ?_)
  have H0 := Hold.init h
  refine Run_seq ?_
  refine Run_reg 2 (by kernel_rfl) (L' := [(0, .slice aa_ a_.length ca_), (1, .int .i64 n_), (2, .int .i64 i), (3, .int .i64 j)]) ?_ ?_
  · refine QRun_b [.int .i64 0, .int .i64 0] 0 _ (by kernel_rfl) (fun w => by kernel_rfl) ?_
    exact QRun_done [0, 1, 2, 3] (by kernel_rfl) (by kernel_rfl)
  refine Run_seq ?_
  refine Run_block ?_
  refine Run_seq ?_
  obtain ⟨x1, hx1, hF⟩ := M.bind_some hF
  refine Run_reg 4 (by kernel_rfl) (L' := [(0, .slice aa_ a_.length ca_), (1, .int .i64 n_), (2, .int .i64 i), (3, .int .i64 j), (17, .bool (!x1))]) ?_ ?_
  · refine QRun_b [.slice aa_ a_.length ca_] 0 _ (by kernel_rfl) (fun w => by kernel_rfl) ?_
    refine QRun_y (.bool x1) (by kernel_rfl) (Y_callq (f := 74) (args := #[.slice aa_ a_.length ca_]) (v := .bool x1) (by kernel_rfl) (w_spec_l02Square h a_ aa_ ca_ ra_ _ _ hx1)) ?_
    refine QRun_b [.bool (!x1), .bool (!x1)] 2 _ (by kernel_rfl) (fun w => by kernel_rfl) ?_
    exact QRun_done [0, 1, 2, 3, 17] (by kernel_rfl) (by kernel_rfl)
  refine Run_cond (b := !x1) (by kernel_rfl) (fun hb1 => ?_) (fun hb1 => ?_)
  · have hF := (M.ite_some hF).1 hb1
    refine Run_seq ?_
    refine Run_reg 2 (by kernel_rfl) (L' := [(8, .int .i64 0), (9, .int .i64 1)]) ?_ ?_
    · refine QRun_b [.int .i64 0, .int .i64 1] 0 _ (by kernel_rfl) (fun w => by kernel_rfl) ?_
      exact QRun_done [8, 9] (by kernel_rfl) (by kernel_rfl)
    have hF := M.ret_some hF
    subst hF
    exact Run_ret2 rfl (ResV_tmp (v := .int .i64 0) (by kernel_rfl)) (ResV_tmp (v := .int .i64 1) (by kernel_rfl)) ⟨rfl, H0⟩
  · have hF := (M.ite_some hF).2 hb1
    refine Run_seq ?_
    obtain ⟨x2, hx2, hF⟩ := M.bind_some hF
    obtain ⟨x3, gx3, hF⟩ := M.bind_some hF
    obtain ⟨x5, gx5, hF⟩ := M.bind_some hF
    refine Run_reg 16 (by kernel_rfl) (L' := [(0, .slice aa_ a_.length ca_), (1, .int .i64 n_), (2, .int .i64 i), (3, .int .i64 j), (21, .bool x5)]) ?_ ?_
    · refine QRun_b [.int .i64 n_] 0 _ (by kernel_rfl) (fun w => by kernel_rfl) ?_
      refine QRun_y (.bool x2) (by kernel_rfl) (Y_callq (f := 75) (args := #[.int .i64 n_, .int .i64 0, .int .i64 100000]) (v := .bool x2) (by kernel_rfl) (w_spec_l01In h n_ 0 100000 _ _ hx2)) ?_
      refine QRun_b [.bool (!x2)] 2 _ (by kernel_rfl) (fun w => by kernel_rfl) ?_
      refine QRun_seq 9 [(0, .slice aa_ a_.length ca_), (1, .int .i64 n_), (2, .int .i64 i), (3, .int .i64 j), (30, .bool x3)] ?_ ?_
      · rcases Bool.eq_false_or_eq_true (!x2) with hb2 | hb2
        · refine QRun_bool (!x2) true (by kernel_rfl) (fun w => by kernel_rfl) hb2 ?_
          have gx3 := M.ret_some ((M.ite_some gx3).1 hb2)
          refine QRun_n (by kernel_rfl) ?_
          refine QRun_n (by kernel_rfl) ?_
          refine QRun_n (by kernel_rfl) ?_
          refine QRun_n (by kernel_rfl) ?_
          refine QRun_bool true x3 (by kernel_rfl) (fun w => by kernel_rfl) gx3 ?_
          exact QRun_done [0, 1, 2, 3, 30] (by kernel_rfl) (by kernel_rfl)
        · refine QRun_bool (!x2) false (by kernel_rfl) (fun w => by kernel_rfl) hb2 ?_
          have gx3 := (M.ite_some gx3).2 hb2
          obtain ⟨x4, hx3, gx3⟩ := M.bind_some gx3
          have gx3 := M.ret_some gx3
          refine QRun_b [.slice aa_ a_.length ca_, .int .i64 i] 4 _ (by kernel_rfl) (fun w => by kernel_rfl) ?_
          refine QRun_y (.bool x4) (by kernel_rfl) (Y_callq (f := 76) (args := #[.slice aa_ a_.length ca_, .int .i64 i]) (v := .bool x4) (by kernel_rfl) (w_spec_l03Node h a_ aa_ ca_ ra_ i _ _ hx3)) ?_
          refine QRun_b [.bool (!x4)] 7 _ (by kernel_rfl) (fun w => by kernel_rfl) ?_
          refine QRun_bool (!x4) x3 (by kernel_rfl) (fun w => by kernel_rfl) gx3 ?_
          exact QRun_done [0, 1, 2, 3, 30] (by kernel_rfl) (by kernel_rfl)
      refine QRun_seq 15 [(0, .slice aa_ a_.length ca_), (1, .int .i64 n_), (2, .int .i64 i), (3, .int .i64 j), (36, .bool x5)] ?_ ?_
      · rcases Bool.eq_false_or_eq_true x3 with hb3 | hb3
        · refine QRun_bool x3 true (by kernel_rfl) (fun w => by kernel_rfl) hb3 ?_
          have gx5 := M.ret_some ((M.ite_some gx5).1 hb3)
          refine QRun_n (by kernel_rfl) ?_
          refine QRun_n (by kernel_rfl) ?_
          refine QRun_n (by kernel_rfl) ?_
          refine QRun_n (by kernel_rfl) ?_
          refine QRun_bool true x5 (by kernel_rfl) (fun w => by kernel_rfl) gx5 ?_
          exact QRun_done [0, 1, 2, 3, 36] (by kernel_rfl) (by kernel_rfl)
        · refine QRun_bool x3 false (by kernel_rfl) (fun w => by kernel_rfl) hb3 ?_
          have gx5 := (M.ite_some gx5).2 hb3
          obtain ⟨x6, hx4, gx5⟩ := M.bind_some gx5
          have gx5 := M.ret_some gx5
          refine QRun_b [.slice aa_ a_.length ca_, .int .i64 j] 10 _ (by kernel_rfl) (fun w => by kernel_rfl) ?_
          refine QRun_y (.bool x6) (by kernel_rfl) (Y_callq (f := 76) (args := #[.slice aa_ a_.length ca_, .int .i64 j]) (v := .bool x6) (by kernel_rfl) (w_spec_l03Node h a_ aa_ ca_ ra_ j _ _ hx4)) ?_
          refine QRun_b [.bool (!x6)] 13 _ (by kernel_rfl) (fun w => by kernel_rfl) ?_
          refine QRun_bool (!x6) x5 (by kernel_rfl) (fun w => by kernel_rfl) gx5 ?_
          exact QRun_done [0, 1, 2, 3, 36] (by kernel_rfl) (by kernel_rfl)
      refine QRun_b [.bool x5] 15 _ (by kernel_rfl) (fun w => by kernel_rfl) ?_
      exact QRun_done [0, 1, 2, 3, 21] (by kernel_rfl) (by kernel_rfl)
    refine Run_cond (b := x5) (by kernel_rfl) (fun hb4 => ?_) (fun hb4 => ?_)
    · have hF := (M.ite_some hF).1 hb4
      refine Run_seq ?_
      refine Run_reg 2 (by kernel_rfl) (L' := [(8, .int .i64 0), (9, .int .i64 2)]) ?_ ?_
      · refine QRun_b [.int .i64 0, .int .i64 2] 0 _ (by kernel_rfl) (fun w => by kernel_rfl) ?_
        exact QRun_done [8, 9] (by kernel_rfl) (by kernel_rfl)
      have hF := M.ret_some hF
      subst hF
      exact Run_ret2 rfl (ResV_tmp (v := .int .i64 0) (by kernel_rfl)) (ResV_tmp (v := .int .i64 2) (by kernel_rfl)) ⟨rfl, H0⟩
    · have hF := (M.ite_some hF).2 hb4
      refine Run_skip ?_
      refine Run_blk ?_
      refine Run_seq ?_
      refine Run_ops ?_
      refine Run_b [.slice aa_ a_.length ca_, .slice aa_ a_.length ca_, .int .i64 (a_.length : Int)] 0 _ (by kernel_rfl) (fun w => by kernel_rfl) ?_
      obtain ⟨x7, hx5, hF⟩ := M.bind_some hF
      refine Run_E (by kernel_rfl) ?_
      refine E_call (f := 78) (args := #[.int .i64 (a_.length : Int)]) (w_spec_l02Unit h (a_.length : Int) _ _ hx5) (by kernel_rfl) (fun v1 h1 hp1 => ?_)
      obtain ⟨a1, c1, rfl, H1⟩ := hp1
      have H2 : Hold h h1 [own cd23 a1 x7.length c1 x7] := H0.call H1 rfl
      obtain ⟨x8, hx6, hF⟩ := M.bind_some hF
      refine Run_E (by kernel_rfl) ?_
      refine E_call (f := 77) (args := #[.slice aa_ a_.length ca_, .slice a1 x7.length c1]) (w_spec_l07Start h1 a_ aa_ ca_ (ra_.at H2.ext) x7 a1 c1 (H2.rd 0 rfl) _ _ hx6) (by kernel_rfl) (fun v2 h2 hp2 => ?_)
      obtain ⟨b1, a2, c2, a3, c3, a4, c4, rfl, hd1, hd2, H3⟩ := hp2
      have H4 : Hold h h2 [box b1 96 [.slice a2 x8.a.length c2, .slice a3 x8.last.length c3, .slice a4 x8.lists.length c4], own cd23 a4 x8.lists.length c4 x8.lists, own cd23 a1 x7.length c1 x7] := H2.call H3 rfl
      have r1 := ra_.alias hd1
      have H5 : Hold h h2 [own cd23 a1 x7.length c1 x7, box b1 96 [.slice a2 x8.a.length c2, .slice a3 x8.last.length c3, .slice a4 x8.lists.length c4], own cd23 a4 x8.lists.length c4 x8.lists] := H4.pick [2, 0, 1] (by kernel_rfl)
      have H6 := H5.alias hd2
      refine Run_b [.pointer (some ⟨b1, 0, none⟩)] 5 _ (by kernel_rfl) (fun w => by kernel_rfl) ?_
      refine Run_nil (by kernel_rfl) ?_
      refine Run_keep [0, 1, 2, 3, 10] (L' := [(0, .slice aa_ a_.length ca_), (1, .int .i64 n_), (2, .int .i64 i), (3, .int .i64 j), (10, .pointer (some ⟨b1, 0, none⟩))]) (by kernel_rfl) ?_
      refine Run_seq ?_
      refine Run_ops ?_
      refine Run_b [.pointer (some ⟨b1, 0, none⟩)] 0 _ (by kernel_rfl) (fun w => by kernel_rfl) ?_
      obtain ⟨x9, hx7, hF⟩ := M.bind_some hF
      have H7 : Hold h h2 [own cd23 a4 x8.lists.length c4 x8.lists, own cd23 a3 x8.last.length c3 x8.last, box b1 96 [.slice a2 x8.a.length c2, .slice a3 x8.last.length c3, .slice a4 x8.lists.length c4]] := H6.pick [2, 0, 1] (by kernel_rfl)
      have H8 : Hold h h2 [box b1 96 [.slice a2 x8.a.length c2, .slice a3 x8.last.length c3, .slice a4 x8.lists.length c4], own cd23 a3 x8.last.length c3 x8.last, own cd23 a4 x8.lists.length c4 x8.lists] := H7.pick [2, 1, 0] (by kernel_rfl)
      have H9 : Hold h h2 [box b1 96 [.slice a2 x8.a.length c2, .slice a3 x8.last.length c3, .slice a4 x8.lists.length c4], own cd23 a3 x8.last.length c3 x8.last, own cd23 a4 x8.lists.length c4 x8.lists, bun []] := Hold.bundle (S := [box b1 96 [.slice a2 x8.a.length c2, .slice a3 x8.last.length c3, .slice a4 x8.lists.length c4], own cd23 a3 x8.last.length c3 x8.last, own cd23 a4 x8.lists.length c4 x8.lists]) (R := []) H8
      refine Run_E (by kernel_rfl) ?_
      refine E_call (f := 79) (args := #[.pointer (some ⟨b1, 0, none⟩)]) (w_spec_l07Find_B h h2 _ x8 b1 a2 c2 r1 a3 c3 a4 c4 H9 _ _ hx7) (by kernel_rfl) (fun v3 h3 hp3 => ?_)
      obtain ⟨a5, c5, a6, c6, rfl, H10⟩ := hp3
      have H11 : Hold h h3 [box b1 96 [.slice a2 x8.a.length c2, .slice a5 x9.2.2.2.2.last.length c5, .slice a6 x9.2.2.2.2.lists.length c6], own cd23 a5 x9.2.2.2.2.last.length c5 x9.2.2.2.2.last, own cd23 a6 x9.2.2.2.2.lists.length c6 x9.2.2.2.2.lists] := Hold.unbundle (S := [box b1 96 [.slice a2 x8.a.length c2, .slice a5 x9.2.2.2.2.last.length c5, .slice a6 x9.2.2.2.2.lists.length c6], own cd23 a5 x9.2.2.2.2.last.length c5 x9.2.2.2.2.last, own cd23 a6 x9.2.2.2.2.lists.length c6 x9.2.2.2.2.lists]) (R := []) H10 (Hold.tailBase (S := [box b1 96 [.slice a2 x8.a.length c2, .slice a3 x8.last.length c3, .slice a4 x8.lists.length c4], own cd23 a3 x8.last.length c3 x8.last, own cd23 a4 x8.lists.length c4 x8.lists]) (R := []) H8)
      refine Run_b [.tuple #[.int .i64 x9.1, .int .i64 x9.2.1, .int .i64 x9.2.2.1, .int .i64 x9.2.2.2.1], .int .i64 x9.1, .int .i64 x9.2.1, .int .i64 x9.2.2.1, .int .i64 x9.2.2.2.1, .int .i64 x9.1, .int .i64 x9.2.1, .int .i64 x9.2.2.1, .int .i64 x9.2.2.2.1] 2 _ (by kernel_rfl) (fun w => by kernel_rfl) ?_
      refine Run_nil (by kernel_rfl) ?_
      refine Run_keep [0, 1, 2, 3, 10, 11, 12, 13, 14] (L' := [(0, .slice aa_ a_.length ca_), (1, .int .i64 n_), (2, .int .i64 i), (3, .int .i64 j), (10, .pointer (some ⟨b1, 0, none⟩)), (11, .int .i64 x9.1), (12, .int .i64 x9.2.1), (13, .int .i64 x9.2.2.1), (14, .int .i64 x9.2.2.2.1)]) (by kernel_rfl) ?_
      refine Run_seq ?_
      refine Run_seq ?_
      refine Run_reg 2 (by kernel_rfl) (L' := [(0, .slice aa_ a_.length ca_), (1, .int .i64 n_), (2, .int .i64 i), (3, .int .i64 j), (10, .pointer (some ⟨b1, 0, none⟩)), (11, .int .i64 x9.1), (12, .int .i64 x9.2.1), (13, .int .i64 x9.2.2.1), (14, .int .i64 x9.2.2.2.1), (50, .bool (x9.2.2.2.1 != 0))]) ?_ ?_
      · refine QRun_b [.int .i64 x9.2.2.2.1, .bool (x9.2.2.2.1 != 0)] 0 _ (by kernel_rfl) (fun w => by kernel_rfl) ?_
        exact QRun_done [0, 1, 2, 3, 10, 11, 12, 13, 14, 50] (by kernel_rfl) (by kernel_rfl)
      refine Run_cond (b := x9.2.2.2.1 != 0) (by kernel_rfl) (fun hb5 => ?_) (fun hb5 => ?_)
      · have hF := (M.ite_some hF).1 hb5
        refine Run_seq ?_
        refine Run_reg 3 (by kernel_rfl) (L' := [(8, .int .i64 0), (9, .int .i64 x9.2.2.2.1)]) ?_ ?_
        · refine QRun_b [.int .i64 x9.2.2.2.1, .int .i64 0, .int .i64 x9.2.2.2.1] 0 _ (by kernel_rfl) (fun w => by kernel_rfl) ?_
          exact QRun_done [8, 9] (by kernel_rfl) (by kernel_rfl)
        have hF := M.ret_some hF
        subst hF
        have H12 : Hold h h3 [] := H11.pick [] (by kernel_rfl)
        exact Run_ret2 rfl (ResV_tmp (v := .int .i64 0) (by kernel_rfl)) (ResV_tmp (v := .int .i64 x9.2.2.2.1) (by kernel_rfl)) ⟨rfl, H12⟩
      · have hF := (M.ite_some hF).2 hb5
        refine Run_skip ?_
        refine Run_seq ?_
        refine Run_reg 3 (by kernel_rfl) (L' := [(0, .slice aa_ a_.length ca_), (1, .int .i64 n_), (2, .int .i64 i), (3, .int .i64 j), (10, .pointer (some ⟨b1, 0, none⟩)), (11, .int .i64 x9.1), (12, .int .i64 x9.2.1), (13, .int .i64 x9.2.2.1), (15, .int .i64 n_), (16, .int .i64 0)]) ?_ ?_
        · refine QRun_b [.int .i64 n_, .int .i64 n_, .int .i64 0] 0 _ (by kernel_rfl) (fun w => by kernel_rfl) ?_
          exact QRun_done [0, 1, 2, 3, 10, 11, 12, 13, 15, 16] (by kernel_rfl) (by kernel_rfl)
        refine Run_seq ?_
        refine Run_seq ?_
        refine Run_reg 3 (by kernel_rfl) (L' := [(0, .slice aa_ a_.length ca_), (1, .int .i64 n_), (2, .int .i64 i), (3, .int .i64 j), (10, .pointer (some ⟨b1, 0, none⟩)), (11, .int .i64 x9.1), (12, .int .i64 x9.2.1), (13, .int .i64 x9.2.2.1), (15, .int .i64 n_), (16, .int .i64 0), (55, .bool (decide (x9.1 < n_)))]) ?_ ?_
        · refine QRun_b [.int .i64 n_, .int .i64 x9.1, .bool (decide (x9.1 < n_))] 0 _ (by kernel_rfl) (fun w => by kernel_rfl) ?_
          exact QRun_done [0, 1, 2, 3, 10, 11, 12, 13, 15, 16, 55] (by kernel_rfl) (by kernel_rfl)
        obtain ⟨s1, gs1, hF⟩ := M.bind_some hF
        refine Run_join (fun L' h' => L' = [(0, .slice aa_ a_.length ca_), (2, .int .i64 i), (3, .int .i64 j), (10, .pointer (some ⟨b1, 0, none⟩)), (13, .int .i64 x9.2.2.1), (15, .int .i64 s1.1), (16, .int .i64 s1.2)] ∧ Hold h h' [box b1 96 [.slice a2 x8.a.length c2, .slice a5 x9.2.2.2.2.last.length c5, .slice a6 x9.2.2.2.2.lists.length c6], own cd23 a5 x9.2.2.2.2.last.length c5 x9.2.2.2.2.last, own cd23 a6 x9.2.2.2.2.lists.length c6 x9.2.2.2.2.lists]) ?_ ?_
        · rintro _ h4 ⟨rfl, H13⟩
          refine Run_seq ?_
          obtain ⟨x10, hx8, hF⟩ := M.bind_some hF
          obtain ⟨hx8l, hx8u, hx8⟩ := M.idx_some hx8
          have H14 : Hold h h4 [own cd23 a6 x9.2.2.2.2.lists.length c6 x9.2.2.2.2.lists, box b1 96 [.slice a2 x8.a.length c2, .slice a5 x9.2.2.2.2.last.length c5, .slice a6 x9.2.2.2.2.lists.length c6], own cd23 a5 x9.2.2.2.2.last.length c5 x9.2.2.2.2.last] := H13.pick [2, 0, 1] (by kernel_rfl)
          have H15 := H14.toRows
          obtain ⟨a7, c7, H16⟩ := H15.pinRow hx8
          have H17 : Hold h h4 [box b1 96 [.slice a2 x8.a.length c2, .slice a5 x9.2.2.2.2.last.length c5, .slice a6 x9.2.2.2.2.lists.length c6], own cd23 a5 x9.2.2.2.2.last.length c5 x9.2.2.2.2.last, rowsP cd2 23 a6 x9.2.2.2.2.lists.length c6 x9.2.2.2.2.lists [(s1.1.toNat, a7, x10.length, c7, x10)]] := H16.pick [1, 2, 0] (by kernel_rfl)
          obtain ⟨x11, hx9, hF⟩ := M.bind_some hF
          obtain ⟨hx9l, hx9u, hx9⟩ := M.idx_some hx9
          obtain ⟨x12, hx10, hF⟩ := M.bind_some hF
          obtain ⟨x13, hx11, hF⟩ := M.bind_some hF
          refine Run_reg 24 (by kernel_rfl) (L' := [(8, .int .i64 x13.1), (9, .int .i64 x13.2)]) ?_ ?_
          · refine QRun_b [.pointer (some ⟨b1, 0, none⟩), .pointer (some ⟨b1, 0, none⟩), .pointer (some ⟨b1, 2, none⟩)] 0 _ (by kernel_rfl) (fun w => by kernel_rfl) ?_
            refine QRun_y (.slice a6 x9.2.2.2.2.lists.length c6) (by kernel_rfl) (Y_load1 (t := 22) (p := ⟨b1, 2, none⟩) (v := .slice a6 x9.2.2.2.2.lists.length c6) (by kernel_rfl) (fun w => by kernel_rfl) (H13.cell 0 rfl rfl)) ?_
            refine QRun_b [.int .i64 s1.1] 4 _ (by kernel_rfl) (fun w => by kernel_rfl) ?_
            refine QRun_y (.pointer (some (adr a6 (s1.1.toNat * 1)))) (by kernel_rfl) (Y_idx (t := 22) (e := 23) (sz := 1) (a := a6) (n := x9.2.2.2.2.lists.length) (cap := c6) (kk := .i64) (i := s1.1) (by kernel_rfl) Try.underlying22 (by kernel_rfl) ((H13.rd 2 rfl).cell hx8).1 hx8l hx8u) ?_
            refine QRun_y (.slice a7 x10.length c7) (by kernel_rfl) (Y_load1 (t := 23) (p := adr a6 (s1.1.toNat * 1)) (v := .slice a7 x10.length c7) (by kernel_rfl) (fun w => by kernel_rfl) (H17.cellPin 2 rfl 0 rfl)) ?_
            refine QRun_b [.int .i64 i, .slice aa_ a_.length ca_, .int .i64 (a_.length : Int), .int .i64 (w64 (i * (a_.length : Int))), .int .i64 j, .int .i64 (w64 ((w64 (i * (a_.length : Int))) + j))] 7 _ (by kernel_rfl) (fun w => by kernel_rfl) ?_
            refine QRun_y (.pointer (some (adr a7 ((w64 ((w64 (i * (a_.length : Int))) + j)).toNat * 1)))) (by kernel_rfl) (Y_idx (t := 23) (e := 2) (sz := 1) (a := a7) (n := x10.length) (cap := c7) (kk := .i64) (i := w64 ((w64 (i * (a_.length : Int))) + j)) (by kernel_rfl) Try.underlying23 (by kernel_rfl) ((H17.rdPin 2 rfl 0 rfl).cell hx9).1 hx9l hx9u) ?_
            refine QRun_y (.int .i64 x11) (by kernel_rfl) (Y_load1 (t := 2) (p := adr a7 ((w64 ((w64 (i * (a_.length : Int))) + j)).toNat * 1)) (v := .int .i64 x11) (by kernel_rfl) (fun w => by kernel_rfl) (cd2_cell (H17.rdPin 2 rfl 0 rfl) hx9)) ?_
            refine QRun_b [.int .i64 x9.2.2.1, .int .i64 s1.2, .int .i64 (w64 (x9.2.2.1 * s1.2))] 15 _ (by kernel_rfl) (fun w => by kernel_rfl) ?_
            refine QRun_y (.int .i64 x12) (by kernel_rfl) (Y_callq (f := 81) (args := #[.int .i64 x11, .int .i64 (w64 (x9.2.2.1 * s1.2))]) (v := .int .i64 x12) (by kernel_rfl) (w_spec_l01Times h4 x11 (w64 (x9.2.2.1 * s1.2)) _ _ hx10)) ?_
            refine QRun_y (.tuple #[.int .i64 x13.1, .int .i64 x13.2]) (by kernel_rfl) (Y_callq (f := 80) (args := #[.int .i64 x12]) (v := .tuple #[.int .i64 x13.1, .int .i64 x13.2]) (by kernel_rfl) (w_spec_l01Value h4 x12 _ _ hx11)) ?_
            refine QRun_b [.int .i64 x13.1, .int .i64 x13.2, .int .i64 x13.1, .int .i64 x13.2] 20 _ (by kernel_rfl) (fun w => by kernel_rfl) ?_
            exact QRun_done [8, 9] (by kernel_rfl) (by kernel_rfl)
          have hF := M.ret_some hF
          subst hF
          have H18 : Hold h h4 [] := H17.pick [] (by kernel_rfl)
          exact Run_ret2 rfl (ResV_tmp (v := .int .i64 x13.1) (by kernel_rfl)) (ResV_tmp (v := .int .i64 x13.2) (by kernel_rfl)) ⟨rfl, H18⟩
        · refine Run_cond (b := decide (x9.1 < n_)) (by kernel_rfl) (fun hb6 => ?_) (fun hb6 => ?_)
          · have gs1 := (M.ite_some gs1).1 hb6
            refine Run_seq ?_
            obtain ⟨u1, hz1, gs1⟩ := M.bind_some gs1
            have hz1 := M.guard_some hz1
            refine Run_reg 8 (by kernel_rfl) (L' := [(0, .slice aa_ a_.length ca_), (1, .int .i64 n_), (2, .int .i64 i), (3, .int .i64 j), (10, .pointer (some ⟨b1, 0, none⟩)), (11, .int .i64 x9.1), (12, .int .i64 x9.2.1), (13, .int .i64 x9.2.2.1), (15, .int .i64 (w64 (x9.1 + ((w64 (n_ - x9.1)).tmod x9.2.1))))]) ?_ ?_
            · refine QRun_b [.int .i64 x9.1, .int .i64 n_, .int .i64 x9.1, .int .i64 (w64 (n_ - x9.1)), .int .i64 x9.2.1] 0 _ (by kernel_rfl) (fun w => by kernel_rfl) ?_
              refine QRun_y (.int .i64 ((w64 (n_ - x9.1)).tmod x9.2.1)) (by kernel_rfl) (Y_rem (op := .rem) (k := .i64) (x := w64 (n_ - x9.1)) (y := x9.2.1) (by kernel_rfl) hz1) ?_
              refine QRun_b [.int .i64 (w64 (x9.1 + ((w64 (n_ - x9.1)).tmod x9.2.1))), .int .i64 (w64 (x9.1 + ((w64 (n_ - x9.1)).tmod x9.2.1)))] 6 _ (by kernel_rfl) (fun w => by kernel_rfl) ?_
              exact QRun_done [0, 1, 2, 3, 10, 11, 12, 13, 15] (by kernel_rfl) (by kernel_rfl)
            obtain ⟨u2, hz2, gs1⟩ := M.bind_some gs1
            have hz2 := M.guard_some hz2
            refine Run_reg 6 (by kernel_rfl) (L' := [(0, .slice aa_ a_.length ca_), (2, .int .i64 i), (3, .int .i64 j), (10, .pointer (some ⟨b1, 0, none⟩)), (13, .int .i64 x9.2.2.1), (15, .int .i64 (w64 (x9.1 + ((w64 (n_ - x9.1)).tmod x9.2.1)))), (16, .int .i64 (w64 ((w64 (n_ - x9.1)).tdiv x9.2.1)))]) ?_ ?_
            · refine QRun_b [.int .i64 n_, .int .i64 x9.1, .int .i64 (w64 (n_ - x9.1)), .int .i64 x9.2.1] 0 _ (by kernel_rfl) (fun w => by kernel_rfl) ?_
              refine QRun_y (.int .i64 (w64 ((w64 (n_ - x9.1)).tdiv x9.2.1))) (by kernel_rfl) (Y_quo (op := .quo) (k := .i64) (x := w64 (n_ - x9.1)) (y := x9.2.1) (by kernel_rfl) hz2) ?_
              refine QRun_b [.int .i64 (w64 ((w64 (n_ - x9.1)).tdiv x9.2.1))] 5 _ (by kernel_rfl) (fun w => by kernel_rfl) ?_
              exact QRun_done [0, 2, 3, 10, 13, 15, 16] (by kernel_rfl) (by kernel_rfl)
            have gs1 := M.ret_some gs1
            subst gs1
            exact Run_fall [0, 2, 3, 10, 13, 15, 16] (by kernel_rfl) ⟨rfl, H11⟩
          · have gs1 := (M.ite_some gs1).2 hb6
            refine Run_skip ?_
            have gs1 := M.ret_some gs1
            subst gs1
            exact Run_fall [0, 2, 3, 10, 13, 15, 16] (by kernel_rfl) ⟨rfl, H11⟩

set_option maxRecDepth 100000 in
set_option maxHeartbeats 4000000 in
theorem w_impl_PowerMatrix (h : Heap) (a_ : List (List Int)) (aa_ : Option Addr) (ca_ : Nat) (ra_ : Rd cd23 h (Lt h) aa_ ca_ a_) (n_ : Int) (n : Nat) (r : (List (List Int)) × Int) (hF : impl_PowerMatrix a_ n_ n = some r) :
    Fn Try.prog 21 #[.slice aa_ a_.length ca_, .int .i64 n_] h fun v h' => ∃ (a0 : Option Addr) (c0 : Nat), v = .tuple #[.slice a0 r.1.length c0, .int .i64 r.2] ∧ Hold h h' [own cd23 a0 r.1.length c0 r.1] := by
  unfold impl_PowerMatrix at hF
  refine Fn_enter (args := [.slice aa_ a_.length ca_, .int .i64 n_]) Try.func21 rfl (by kernel_rfl) (by kernel_rfl) (fun w0 _ => ?_)
  have H0 := Hold.init h
  refine Run_seq ?_
  refine Run_reg 2 (by kernel_rfl) (L' := [(0, .slice aa_ a_.length ca_), (1, .int .i64 n_)]) ?_ ?_
  · refine QRun_b [.slice none 0 0, .int .i64 0] 0 _ (by kernel_rfl) (fun w => by kernel_rfl) ?_
    exact QRun_done [0, 1] (by kernel_rfl) (by kernel_rfl)
  refine Run_seq ?_
  refine Run_seq ?_
  obtain ⟨x1, hx1, hF⟩ := M.bind_some hF
  refine Run_regC (j := 3) (C := fun x => Hold h x []) (by kernel_rfl) H0 (L' := [(0, .slice aa_ a_.length ca_), (1, .int .i64 n_), (11, .bool (!x1))]) ?_ (fun h1 H1 => ?_)
  · refine QRun_b [.slice aa_ a_.length ca_] 0 _ (by kernel_rfl) (fun w => by kernel_rfl) ?_
    refine QRun_y (.bool x1) (by kernel_rfl) (Y_call (f := 82) (args := #[.slice aa_ a_.length ca_]) (v := .bool x1) (by kernel_rfl) fun hx Hx => (w_impl_IsMatrix hx a_ aa_ ca_ (ra_.at Hx.ext) _ _ hx1).mono fun _ _ ⟨e, H'⟩ => ⟨e, Hx.call H' rfl⟩) ?_
    refine QRun_b [.bool (!x1)] 2 _ (by kernel_rfl) (fun w => by kernel_rfl) ?_
    exact QRun_done [0, 1, 11] (by kernel_rfl) (by kernel_rfl)
  have H2 : Hold h h1 [] := H1
  refine Run_cond (b := !x1) (by kernel_rfl) (fun hb1 => ?_) (fun hb1 => ?_)
  · have hF := (M.ite_some hF).1 hb1
    refine Run_seq ?_
    refine Run_reg 2 (by kernel_rfl) (L' := [(4, .slice none 0 0), (5, .int .i64 1)]) ?_ ?_
    · refine QRun_b [.slice none 0 0, .int .i64 1] 0 _ (by kernel_rfl) (fun w => by kernel_rfl) ?_
      exact QRun_done [4, 5] (by kernel_rfl) (by kernel_rfl)
    have hF := M.ret_some hF
    subst hF
    have H3 := H2.empty cd23
    exact Run_ret2 rfl (ResV_tmp (v := .slice none 0 0) (by kernel_rfl)) (ResV_tmp (v := .int .i64 1) (by kernel_rfl)) ⟨none, 0, rfl, H3⟩
  · have hF := (M.ite_some hF).2 hb1
    refine Run_skip ?_
    refine Run_seq ?_
    refine Run_seq ?_
    obtain ⟨x2, hx2, hF⟩ := M.bind_some hF
    refine Run_reg 3 (by kernel_rfl) (L' := [(0, .slice aa_ a_.length ca_), (1, .int .i64 n_), (14, .bool (!x2))]) ?_ ?_
    · refine QRun_b [.int .i64 n_] 0 _ (by kernel_rfl) (fun w => by kernel_rfl) ?_
      refine QRun_y (.bool x2) (by kernel_rfl) (Y_callq (f := 69) (args := #[.int .i64 n_, .int .i64 0, .int .i64 100]) (v := .bool x2) (by kernel_rfl) (w_impl_within h1 n_ 0 100 _ _ hx2)) ?_
      refine QRun_b [.bool (!x2)] 2 _ (by kernel_rfl) (fun w => by kernel_rfl) ?_
      exact QRun_done [0, 1, 14] (by kernel_rfl) (by kernel_rfl)
    refine Run_cond (b := !x2) (by kernel_rfl) (fun hb2 => ?_) (fun hb2 => ?_)
    · have hF := (M.ite_some hF).1 hb2
      refine Run_seq ?_
      refine Run_reg 2 (by kernel_rfl) (L' := [(4, .slice none 0 0), (5, .int .i64 2)]) ?_ ?_
      · refine QRun_b [.slice none 0 0, .int .i64 2] 0 _ (by kernel_rfl) (fun w => by kernel_rfl) ?_
        exact QRun_done [4, 5] (by kernel_rfl) (by kernel_rfl)
      have hF := M.ret_some hF
      subst hF
      have H4 := H2.empty cd23
      exact Run_ret2 rfl (ResV_tmp (v := .slice none 0 0) (by kernel_rfl)) (ResV_tmp (v := .int .i64 2) (by kernel_rfl)) ⟨none, 0, rfl, H4⟩
    · have hF := (M.ite_some hF).2 hb2
      refine Run_skip ?_
      refine Run_seq ?_
      refine Run_seq ?_
      obtain ⟨x3, hx3, hF⟩ := M.bind_some hF
      obtain ⟨hx3l, hx3u, hx3⟩ := M.idx_some hx3
      obtain ⟨a1, c1, hc1, r1⟩ := ra_.row hx3
      refine Run_reg 7 (by kernel_rfl) (L' := [(0, .slice aa_ a_.length ca_), (1, .int .i64 n_), (21, .bool ((a_.length : Int) != (x3.length : Int)))]) ?_ ?_
      · refine QRun_b [.slice aa_ a_.length ca_, .int .i64 (a_.length : Int), .slice aa_ a_.length ca_] 0 _ (by kernel_rfl) (fun w => by kernel_rfl) ?_
        refine QRun_y (.pointer (some (adr aa_ (0 * 1)))) (by kernel_rfl) (Y_idx (t := 22) (e := 23) (sz := 1) (a := aa_) (n := a_.length) (cap := ca_) (kk := .i64) (i := 0) (by kernel_rfl) Try.underlying22 (by kernel_rfl) ((ra_.at H2.ext).cell hx3).1 hx3l hx3u) ?_
        refine QRun_y (.slice a1 x3.length c1) (by kernel_rfl) (Y_load1 (t := 23) (p := adr aa_ (0 * 1)) (v := .slice a1 x3.length c1) (by kernel_rfl) (fun w => by kernel_rfl) (cell_at H2.ext hc1)) ?_
        refine QRun_b [.int .i64 (x3.length : Int), .bool ((a_.length : Int) != (x3.length : Int))] 5 _ (by kernel_rfl) (fun w => by kernel_rfl) ?_
        exact QRun_done [0, 1, 21] (by kernel_rfl) (by kernel_rfl)
      refine Run_cond (b := (a_.length : Int) != (x3.length : Int)) (by kernel_rfl) (fun hb3 => ?_) (fun hb3 => ?_)
      · have hF := (M.ite_some hF).1 hb3
        refine Run_seq ?_
        refine Run_reg 2 (by kernel_rfl) (L' := [(4, .slice none 0 0), (5, .int .i64 5)]) ?_ ?_
        · refine QRun_b [.slice none 0 0, .int .i64 5] 0 _ (by kernel_rfl) (fun w => by kernel_rfl) ?_
          exact QRun_done [4, 5] (by kernel_rfl) (by kernel_rfl)
        have hF := M.ret_some hF
        subst hF
        have H5 := H2.empty cd23
        exact Run_ret2 rfl (ResV_tmp (v := .slice none 0 0) (by kernel_rfl)) (ResV_tmp (v := .int .i64 5) (by kernel_rfl)) ⟨none, 0, rfl, H5⟩
      · have hF := (M.ite_some hF).2 hb3
        refine Run_skip ?_
        refine Run_seq ?_
        refine Run_ops ?_
        refine Run_b [.slice aa_ a_.length ca_, .int .i64 (a_.length : Int)] 0 _ (by kernel_rfl) (fun w => by kernel_rfl) ?_
        obtain ⟨x4, hx4, hF⟩ := M.bind_some hF
        refine Run_E (by kernel_rfl) ?_
        refine E_call (f := 83) (args := #[.int .i64 (a_.length : Int)]) (w_impl_unitMatrix h1 (a_.length : Int) _ _ hx4) (by kernel_rfl) (fun v1 h2 hp1 => ?_)
        obtain ⟨a2, c2, rfl, H6⟩ := hp1
        have H7 : Hold h h2 [own cd23 a2 x4.length c2 x4] := H2.call H6 rfl
        refine Run_b [.slice a2 x4.length c2] 3 _ (by kernel_rfl) (fun w => by kernel_rfl) ?_
        refine Run_nil (by kernel_rfl) ?_
        refine Run_keep [0, 1, 6] (L' := [(0, .slice aa_ a_.length ca_), (1, .int .i64 n_), (6, .slice a2 x4.length c2)]) (by kernel_rfl) ?_
        refine Run_seq ?_
        refine Run_seq ?_
        refine Run_reg 2 (by kernel_rfl) (L' := [(0, .slice aa_ a_.length ca_), (6, .slice a2 x4.length c2), (25, .int .i64 n_), (26, .int .i64 0)]) ?_ ?_
        · refine QRun_b [.int .i64 n_, .int .i64 0] 0 _ (by kernel_rfl) (fun w => by kernel_rfl) ?_
          exact QRun_done [0, 6, 25, 26] (by kernel_rfl) (by kernel_rfl)
        obtain ⟨x5, gx5, hF⟩ := M.bind_some hF
        obtain ⟨hloy1, hhiy1, gx5⟩ := M.for_start gx5
        refine Run_join (fun L' h' => ∃ (s2 : (List (List Int))) (a4 : Option Addr) (c4 : Nat), x5 = .inl s2 ∧ L' = [(6, .slice a4 s2.length c4)] ∧ Hold h h' [own cd23 a4 s2.length c4 s2]) ?_ ?_
        · rintro _ h4 ⟨s2, a4, c4, es2, rfl, H9⟩
          have hF := M.cont_inl' hF es2
          refine Run_seq ?_
          refine Run_reg 3 (by kernel_rfl) (L' := [(4, .slice a4 s2.length c4), (5, .int .i64 0)]) ?_ ?_
          · refine QRun_b [.slice a4 s2.length c4, .slice a4 s2.length c4, .int .i64 0] 0 _ (by kernel_rfl) (fun w => by kernel_rfl) ?_
            exact QRun_done [4, 5] (by kernel_rfl) (by kernel_rfl)
          have hF := M.ret_some hF
          subst hF
          exact Run_ret2 rfl (ResV_tmp (v := .slice a4 s2.length c4) (by kernel_rfl)) (ResV_tmp (v := .int .i64 0) (by kernel_rfl)) ⟨a4, c4, rfl, H9⟩
        · refine Run_block ?_
          refine Run_keep [0, 6, 25, 26] (L' := [(0, .slice aa_ a_.length ca_), (6, .slice a2 x4.length c2), (25, .int .i64 n_), (26, .int .i64 0)]) (by kernel_rfl) ?_
          refine Run_loop (fun m L' h' => ∃ (i1 : Int) (s1 : (List (List Int))) (a3 : Option Addr) (c3 : Nat), 0 ≤ i1 ∧ M.forN n_ _ _ n m i1 s1 = some x5 ∧ L' = [(0, .slice aa_ a_.length ca_), (6, .slice a3 s1.length c3), (25, .int .i64 n_), (26, .int .i64 i1)] ∧ Hold h h' [own cd23 a3 s1.length c3 s1]) (n_ - 0 : Int).toNat ⟨0, x4, a2, c2, Int.le_refl _, gx5, rfl, H7⟩ ?_
          rintro my1 _ h3 ⟨i1, s1, a3, c3, hloy1', gx5, rfl, H8⟩
          refine Run_seq ?_
          refine Run_reg 1 (by kernel_rfl) (L' := [(0, .slice aa_ a_.length ca_), (6, .slice a3 s1.length c3), (25, .int .i64 n_), (26, .int .i64 i1), (27, .bool (decide (i1 < n_)))]) ?_ ?_
          · refine QRun_b [.bool (decide (i1 < n_))] 0 _ (by kernel_rfl) (fun w => by kernel_rfl) ?_
            exact QRun_done [0, 6, 25, 26, 27] (by kernel_rfl) (by kernel_rfl)
          refine Run_seq ?_
          refine Run_cond (b := decide (i1 < n_)) (by kernel_rfl) (fun hb4 => ?_) (fun hb4 => ?_)
          · obtain ⟨my1, y1, rfl, hB1, hgoy1, houty1⟩ := M.for_go gx5 hb4
            have hlty1 := of_decide_eq_true hb4
            refine Run_skip ?_
            refine Run_seq ?_
            refine Run_block ?_
            refine Run_seq ?_
            refine Run_ops ?_
            refine Run_b [.slice a3 s1.length c3, .slice aa_ a_.length ca_] 0 _ (by kernel_rfl) (fun w => by kernel_rfl) ?_
            obtain ⟨x6, hx5, hB1⟩ := M.bind_some hB1
            refine Run_E (by kernel_rfl) ?_
            refine E_call (f := 85) (args := #[.slice a3 s1.length c3, .slice aa_ a_.length ca_]) (w_impl_multiply h3 s1 a3 c3 (H8.rd 0 rfl) a_ aa_ ca_ (ra_.at H8.ext) _ _ hx5) (by kernel_rfl) (fun v2 h5 hp2 => ?_)
            obtain ⟨a5, c5, rfl, H10⟩ := hp2
            have H11 : Hold h h5 [own cd23 a5 x6.length c5 x6, own cd23 a3 s1.length c3 s1] := H8.call H10 rfl
            obtain ⟨x7, hx6, hB1⟩ := M.bind_some hB1
            refine Run_E (by kernel_rfl) ?_
            refine E_call (f := 84) (args := #[.slice a5 x6.length c5]) (w_impl_checkedMatrix h5 x6 a5 c5 (H11.rd 0 rfl) _ _ hx6) (by kernel_rfl) (fun v3 h6 hp3 => ?_)
            obtain ⟨a6, c6, rfl, hd1, H12⟩ := hp3
            have H13 : Hold h h6 [own cd23 a5 x6.length c5 x6, own cd23 a3 s1.length c3 s1] := H11.call H12 rfl
            have H14 := H13.alias hd1
            refine Run_b [.tuple #[.slice a6 x7.1.length c6, .int .i64 x7.2], .slice a6 x7.1.length c6, .int .i64 x7.2, .slice a6 x7.1.length c6, .int .i64 x7.2] 4 _ (by kernel_rfl) (fun w => by kernel_rfl) ?_
            refine Run_nil (by kernel_rfl) ?_
            refine Run_keep [0, 7, 8, 25, 26] (L' := [(0, .slice aa_ a_.length ca_), (7, .slice a6 x7.1.length c6), (8, .int .i64 x7.2), (25, .int .i64 n_), (26, .int .i64 i1)]) (by kernel_rfl) ?_
            refine Run_seq ?_
            refine Run_seq ?_
            refine Run_reg 2 (by kernel_rfl) (L' := [(0, .slice aa_ a_.length ca_), (7, .slice a6 x7.1.length c6), (8, .int .i64 x7.2), (25, .int .i64 n_), (26, .int .i64 i1), (36, .bool (x7.2 != 0))]) ?_ ?_
            · refine QRun_b [.int .i64 x7.2, .bool (x7.2 != 0)] 0 _ (by kernel_rfl) (fun w => by kernel_rfl) ?_
              exact QRun_done [0, 7, 8, 25, 26, 36] (by kernel_rfl) (by kernel_rfl)
            refine Run_cond (b := x7.2 != 0) (by kernel_rfl) (fun hb5 => ?_) (fun hb5 => ?_)
            · have hB1 := (M.ite_some hB1).1 hb5
              refine Run_seq ?_
              refine Run_reg 3 (by kernel_rfl) (L' := [(4, .slice none 0 0), (5, .int .i64 x7.2)]) ?_ ?_
              · refine QRun_b [.int .i64 x7.2, .slice none 0 0, .int .i64 x7.2] 0 _ (by kernel_rfl) (fun w => by kernel_rfl) ?_
                exact QRun_done [4, 5] (by kernel_rfl) (by kernel_rfl)
              have hB1 := M.ret_some hB1
              have gx5 := houty1 _ hB1.symm
              have hF := M.cont_inr' hF gx5
              have hF := M.ret_some hF
              subst hF
              have H15 := H14.empty cd23
              have H16 : Hold h h6 [own cd23 none 0 0 []] := H15.pick [0] (by kernel_rfl)
              exact Run_ret2 rfl (ResV_tmp (v := .slice none 0 0) (by kernel_rfl)) (ResV_tmp (v := .int .i64 x7.2) (by kernel_rfl)) ⟨none, 0, rfl, H16⟩
            · have hB1 := (M.ite_some hB1).2 hb5
              refine Run_skip ?_
              refine Run_reg 2 (by kernel_rfl) (L' := [(0, .slice aa_ a_.length ca_), (6, .slice a6 x7.1.length c6), (25, .int .i64 n_), (26, .int .i64 i1)]) ?_ ?_
              · refine QRun_b [.slice a6 x7.1.length c6, .slice a6 x7.1.length c6] 0 _ (by kernel_rfl) (fun w => by kernel_rfl) ?_
                exact QRun_done [0, 6, 25, 26] (by kernel_rfl) (by kernel_rfl)
              refine Run_blk ?_
              refine Run_reg 2 (by kernel_rfl) (L' := [(0, .slice aa_ a_.length ca_), (6, .slice a6 x7.1.length c6), (25, .int .i64 n_), (26, .int .i64 (i1 + 1))]) ?_ ?_
              · refine QRun_y (.int .i64 (i1 + 1)) (by kernel_rfl) (Y_eq (v := .int .i64 (w64 (i1 + 1))) (Y_pure (fun w => by kernel_rfl)) (by rw [w64_eq _ (by omega)])) ?_
                refine QRun_b [.int .i64 (i1 + 1)] 1 _ (by kernel_rfl) (fun w => by kernel_rfl) ?_
                exact QRun_done [0, 6, 25, 26] (by kernel_rfl) (by kernel_rfl)
              have H17 : Hold h h6 [own cd23 a6 x7.1.length c6 x7.1] := H14.pick [0] (by kernel_rfl)
              have hB1 := M.ret_some hB1
              have gx5 := hgoy1 _ hB1.symm
              exact Run_again [0, 6, 25, 26] (by kernel_rfl) my1 (Nat.lt_succ_self _) ⟨i1 + 1, x7.1, a6, c6, by omega, gx5, rfl, H17⟩
          · have gx5 := M.for_end gx5 hb4
            subst gx5
            refine Run_exit (k' := _) rfl ?_
            exact Run_fall [6] (by kernel_rfl) ⟨s1, a3, c3, rfl, rfl, H8⟩

set_option maxRecDepth 100000 in
set_option maxHeartbeats 4000000 in
theorem w_laws_FnGreatPowers (h : Heap) (code : List Int) (acode : Option Addr) (ccode : Nat) (rcode : Rd cd5 h (Lt h) acode ccode code) (n : Nat) (r : Bool) (hF : laws_FnGreatPowers code n = some r) :
    Fn Try.prog 4 #[.slice acode code.length ccode] h fun v h' => v = .bool r ∧ Hold h h' [] := by
  unfold laws_FnGreatPowers at hF
  refine Fn_enter (args := [.slice acode code.length ccode]) Try.func4 rfl (by kernel_rfl) (by kernel_rfl) (fun w0 _ => ?_)
  have H0 := Hold.init h
  refine Run_seq ?_
  refine Run_reg 1 (by kernel_rfl) (L' := [(0, .slice acode code.length ccode)]) ?_ ?_
  · refine QRun_b [.bool false] 0 _ (by kernel_rfl) (fun w => by kernel_rfl) ?_
    exact QRun_done [0] (by kernel_rfl) (by kernel_rfl)
  refine Run_seq ?_
  refine Run_seq ?_
  obtain ⟨x1, hx1, hF⟩ := M.bind_some hF
  refine Run_reg 2 (by kernel_rfl) (L' := [(0, .slice acode code.length ccode), (14, .bool x1)]) ?_ ?_
  · refine QRun_b [.slice acode code.length ccode] 0 _ (by kernel_rfl) (fun w => by kernel_rfl) ?_
    refine QRun_y (.bool x1) (by kernel_rfl) (Y_callq (f := 17) (args := #[.slice acode code.length ccode]) (v := .bool x1) (by kernel_rfl) (w_laws_big h code acode ccode rcode _ _ hx1)) ?_
    exact QRun_done [0, 14] (by kernel_rfl) (by kernel_rfl)
  refine Run_cond (b := x1) (by kernel_rfl) (fun hb1 => ?_) (fun hb1 => ?_)
  · have hF := (M.ite_some hF).1 hb1
    refine Run_seq ?_
    refine Run_reg 1 (by kernel_rfl) (L' := [(2, .bool true)]) ?_ ?_
    · refine QRun_b [.bool true] 0 _ (by kernel_rfl) (fun w => by kernel_rfl) ?_
      exact QRun_done [2] (by kernel_rfl) (by kernel_rfl)
    have hF := M.ret_some hF
    subst hF
    exact Run_ret1 rfl (ResV_tmp (v := .bool true) (by kernel_rfl)) ⟨rfl, H0⟩
  · have hF := (M.ite_some hF).2 hb1
    refine Run_skip ?_
    refine Run_seq ?_
    refine Run_ops ?_
    refine Run_b [.slice acode code.length ccode] 0 _ (by kernel_rfl) (fun w => by kernel_rfl) ?_
    obtain ⟨x2, hx2, hF⟩ := M.bind_some hF
    refine Run_E (by kernel_rfl) ?_
    refine E_call (f := 18) (args := #[.slice acode code.length ccode]) (w_spec_DrawPowerEntry h code acode ccode rcode _ _ hx2) (by kernel_rfl) (fun v1 h1 hp1 => ?_)
    obtain ⟨a1, c1, rfl, H1⟩ := hp1
    have H2 : Hold h h1 [own cd23 a1 x2.1.length c1 x2.1] := H0.call H1 rfl
    refine Run_b [.tuple #[.slice a1 x2.1.length c1, .int .i64 x2.2.1, .int .i64 x2.2.2.1, .int .i64 x2.2.2.2], .slice a1 x2.1.length c1, .int .i64 x2.2.1, .int .i64 x2.2.2.1, .int .i64 x2.2.2.2, .slice a1 x2.1.length c1, .int .i64 x2.2.1, .int .i64 x2.2.2.1, .int .i64 x2.2.2.2] 2 _ (by kernel_rfl) (fun w => by kernel_rfl) ?_
    refine Run_nil (by kernel_rfl) ?_
    refine Run_keep [3, 4, 5, 6] (L' := [(3, .slice a1 x2.1.length c1), (4, .int .i64 x2.2.1), (5, .int .i64 x2.2.2.1), (6, .int .i64 x2.2.2.2)]) (by kernel_rfl) ?_
    refine Run_seq ?_
    obtain ⟨x3, hx3, hF⟩ := M.bind_some hF
    refine Run_regC (j := 10) (C := fun x => Hold h x [own cd23 a1 x2.1.length c1 x2.1]) (by kernel_rfl) H2 (L' := [(3, .slice a1 x2.1.length c1), (4, .int .i64 x2.2.1), (5, .int .i64 x2.2.2.1), (6, .int .i64 x2.2.2.2), (7, .int .i64 x3.1), (8, .int .i64 x3.2)]) ?_ (fun h2 H3 => ?_)
    · refine QRun_b [.slice a1 x2.1.length c1, .int .i64 x2.2.1, .int .i64 x2.2.2.1, .int .i64 x2.2.2.2] 0 _ (by kernel_rfl) (fun w => by kernel_rfl) ?_
      refine QRun_y (.tuple #[.int .i64 x3.1, .int .i64 x3.2]) (by kernel_rfl) (Y_call (f := 19) (args := #[.slice a1 x2.1.length c1, .int .i64 x2.2.1, .int .i64 x2.2.2.1, .int .i64 x2.2.2.2]) (v := .tuple #[.int .i64 x3.1, .int .i64 x3.2]) (by kernel_rfl) fun hx Hx => (w_impl_PowerEntry hx x2.1 a1 c1 (Hx.rd 0 rfl) x2.2.1 x2.2.2.1 x2.2.2.2 _ _ hx3).mono fun _ _ ⟨e, H'⟩ => ⟨e, Hx.call H' rfl⟩) ?_
      refine QRun_b [.tuple #[.int .i64 x3.1, .int .i64 x3.2], .int .i64 x3.1, .int .i64 x3.2, .int .i64 x3.1, .int .i64 x3.2] 5 _ (by kernel_rfl) (fun w => by kernel_rfl) ?_
      exact QRun_done [3, 4, 5, 6, 7, 8] (by kernel_rfl) (by kernel_rfl)
    have H4 : Hold h h2 [own cd23 a1 x2.1.length c1 x2.1] := H3
    refine Run_seq ?_
    obtain ⟨x4, hx4, hF⟩ := M.bind_some hF
    refine Run_regC (j := 10) (C := fun x => Hold h x [own cd23 a1 x2.1.length c1 x2.1]) (by kernel_rfl) H4 (L' := [(3, .slice a1 x2.1.length c1), (4, .int .i64 x2.2.1), (5, .int .i64 x2.2.2.1), (6, .int .i64 x2.2.2.2), (7, .int .i64 x3.1), (8, .int .i64 x3.2), (9, .int .i64 x4.1), (10, .int .i64 x4.2)]) ?_ (fun h3 H5 => ?_)
    · refine QRun_b [.slice a1 x2.1.length c1, .int .i64 x2.2.1, .int .i64 x2.2.2.1, .int .i64 x2.2.2.2] 0 _ (by kernel_rfl) (fun w => by kernel_rfl) ?_
      refine QRun_y (.tuple #[.int .i64 x4.1, .int .i64 x4.2]) (by kernel_rfl) (Y_call (f := 20) (args := #[.slice a1 x2.1.length c1, .int .i64 x2.2.1, .int .i64 x2.2.2.1, .int .i64 x2.2.2.2]) (v := .tuple #[.int .i64 x4.1, .int .i64 x4.2]) (by kernel_rfl) fun hx Hx => (w_spec_PowerEntry hx x2.1 a1 c1 (Hx.rd 0 rfl) x2.2.1 x2.2.2.1 x2.2.2.2 _ _ hx4).mono fun _ _ ⟨e, H'⟩ => ⟨e, Hx.call H' rfl⟩) ?_
      refine QRun_b [.tuple #[.int .i64 x4.1, .int .i64 x4.2], .int .i64 x4.1, .int .i64 x4.2, .int .i64 x4.1, .int .i64 x4.2] 5 _ (by kernel_rfl) (fun w => by kernel_rfl) ?_
      exact QRun_done [3, 4, 5, 6, 7, 8, 9, 10] (by kernel_rfl) (by kernel_rfl)
    have H6 : Hold h h3 [own cd23 a1 x2.1.length c1 x2.1] := H5
    refine Run_seq ?_
    refine Run_seq ?_
    refine Run_reg 8 (by kernel_rfl) (L' := [(3, .slice a1 x2.1.length c1), (4, .int .i64 x2.2.1), (5, .int .i64 x2.2.2.1), (6, .int .i64 x2.2.2.2), (7, .int .i64 x3.1), (8, .int .i64 x3.2), (45, .bool ((x3.2 != x4.2) || (x3.1 != x4.1)))]) ?_ ?_
    · refine QRun_b [.int .i64 x3.2, .int .i64 x4.2, .bool (x3.2 != x4.2)] 0 _ (by kernel_rfl) (fun w => by kernel_rfl) ?_
      refine QRun_seq 8 [(3, .slice a1 x2.1.length c1), (4, .int .i64 x2.2.1), (5, .int .i64 x2.2.2.1), (6, .int .i64 x2.2.2.2), (7, .int .i64 x3.1), (8, .int .i64 x3.2), (45, .bool ((x3.2 != x4.2) || (x3.1 != x4.1)))] ?_ ?_
      · rcases Bool.eq_false_or_eq_true (x3.2 != x4.2) with hb2 | hb2
        · refine QRun_bool (x3.2 != x4.2) true (by kernel_rfl) (fun w => by kernel_rfl) hb2 ?_
          refine QRun_n (by kernel_rfl) ?_
          refine QRun_n (by kernel_rfl) ?_
          refine QRun_n (by kernel_rfl) ?_
          refine QRun_bool true ((x3.2 != x4.2) || (x3.1 != x4.1)) (by kernel_rfl) (fun w => by kernel_rfl) (by rw [hb2]; rfl) ?_
          exact QRun_done [3, 4, 5, 6, 7, 8, 45] (by kernel_rfl) (by kernel_rfl)
        · refine QRun_bool (x3.2 != x4.2) false (by kernel_rfl) (fun w => by kernel_rfl) hb2 ?_
          refine QRun_b [.int .i64 x3.1, .int .i64 x4.1, .bool (x3.1 != x4.1)] 4 _ (by kernel_rfl) (fun w => by kernel_rfl) ?_
          refine QRun_bool (x3.1 != x4.1) ((x3.2 != x4.2) || (x3.1 != x4.1)) (by kernel_rfl) (fun w => by kernel_rfl) (by rw [hb2]; rfl) ?_
          exact QRun_done [3, 4, 5, 6, 7, 8, 45] (by kernel_rfl) (by kernel_rfl)
      exact QRun_done [3, 4, 5, 6, 7, 8, 45] (by kernel_rfl) (by kernel_rfl)
    refine Run_cond (b := (x3.2 != x4.2) || (x3.1 != x4.1)) (by kernel_rfl) (fun hb3 => ?_) (fun hb3 => ?_)
    · have hF := (M.ite_some hF).1 hb3
      refine Run_seq ?_
      refine Run_reg 1 (by kernel_rfl) (L' := [(2, .bool false)]) ?_ ?_
      · refine QRun_b [.bool false] 0 _ (by kernel_rfl) (fun w => by kernel_rfl) ?_
        exact QRun_done [2] (by kernel_rfl) (by kernel_rfl)
      have hF := M.ret_some hF
      subst hF
      have H7 : Hold h h3 [] := H6.pick [] (by kernel_rfl)
      exact Run_ret1 rfl (ResV_tmp (v := .bool false) (by kernel_rfl)) ⟨rfl, H7⟩
    · have hF := (M.ite_some hF).2 hb3
      refine Run_skip ?_
      refine Run_seq ?_
      refine Run_seq ?_
      refine Run_reg 6 (by kernel_rfl) (L' := [(3, .slice a1 x2.1.length c1), (4, .int .i64 x2.2.1), (5, .int .i64 x2.2.2.1), (6, .int .i64 x2.2.2.2), (7, .int .i64 x3.1), (51, .bool ((x3.2 != 0) || (decide (100 < x2.2.1))))]) ?_ ?_
      · refine QRun_b [.int .i64 x3.2, .bool (x3.2 != 0)] 0 _ (by kernel_rfl) (fun w => by kernel_rfl) ?_
        refine QRun_seq 6 [(3, .slice a1 x2.1.length c1), (4, .int .i64 x2.2.1), (5, .int .i64 x2.2.2.1), (6, .int .i64 x2.2.2.2), (7, .int .i64 x3.1), (51, .bool ((x3.2 != 0) || (decide (100 < x2.2.1))))] ?_ ?_
        · rcases Bool.eq_false_or_eq_true (x3.2 != 0) with hb4 | hb4
          · refine QRun_bool (x3.2 != 0) true (by kernel_rfl) (fun w => by kernel_rfl) hb4 ?_
            refine QRun_n (by kernel_rfl) ?_
            refine QRun_n (by kernel_rfl) ?_
            refine QRun_bool true ((x3.2 != 0) || (decide (100 < x2.2.1))) (by kernel_rfl) (fun w => by kernel_rfl) (by rw [hb4]; rfl) ?_
            exact QRun_done [3, 4, 5, 6, 7, 51] (by kernel_rfl) (by kernel_rfl)
          · refine QRun_bool (x3.2 != 0) false (by kernel_rfl) (fun w => by kernel_rfl) hb4 ?_
            refine QRun_b [.int .i64 x2.2.1, .bool (decide (100 < x2.2.1))] 3 _ (by kernel_rfl) (fun w => by kernel_rfl) ?_
            refine QRun_bool (decide (100 < x2.2.1)) ((x3.2 != 0) || (decide (100 < x2.2.1))) (by kernel_rfl) (fun w => by kernel_rfl) (by rw [hb4]; rfl) ?_
            exact QRun_done [3, 4, 5, 6, 7, 51] (by kernel_rfl) (by kernel_rfl)
        exact QRun_done [3, 4, 5, 6, 7, 51] (by kernel_rfl) (by kernel_rfl)
      refine Run_cond (b := (x3.2 != 0) || (decide (100 < x2.2.1))) (by kernel_rfl) (fun hb5 => ?_) (fun hb5 => ?_)
      · have hF := (M.ite_some hF).1 hb5
        refine Run_seq ?_
        refine Run_reg 1 (by kernel_rfl) (L' := [(2, .bool true)]) ?_ ?_
        · refine QRun_b [.bool true] 0 _ (by kernel_rfl) (fun w => by kernel_rfl) ?_
          exact QRun_done [2] (by kernel_rfl) (by kernel_rfl)
        have hF := M.ret_some hF
        subst hF
        have H8 : Hold h h3 [] := H6.pick [] (by kernel_rfl)
        exact Run_ret1 rfl (ResV_tmp (v := .bool true) (by kernel_rfl)) ⟨rfl, H8⟩
      · have hF := (M.ite_some hF).2 hb5
        refine Run_skip ?_
        refine Run_seq ?_
        refine Run_ops ?_
        refine Run_b [.slice a1 x2.1.length c1, .int .i64 x2.2.1] 0 _ (by kernel_rfl) (fun w => by kernel_rfl) ?_
        obtain ⟨x7, hx5, hF⟩ := M.bind_some hF
        refine Run_E (by kernel_rfl) ?_
        refine E_call (f := 21) (args := #[.slice a1 x2.1.length c1, .int .i64 x2.2.1]) (w_impl_PowerMatrix h3 x2.1 a1 c1 (H6.rd 0 rfl) x2.2.1 _ _ hx5) (by kernel_rfl) (fun v2 h4 hp2 => ?_)
        obtain ⟨a2, c2, rfl, H9⟩ := hp2
        have H10 : Hold h h4 [own cd23 a2 x7.1.length c2 x7.1, own cd23 a1 x2.1.length c1 x2.1] := H6.call H9 rfl
        refine Run_b [.tuple #[.slice a2 x7.1.length c2, .int .i64 x7.2], .slice a2 x7.1.length c2, .int .i64 x7.2, .slice a2 x7.1.length c2, .int .i64 x7.2] 3 _ (by kernel_rfl) (fun w => by kernel_rfl) ?_
        refine Run_nil (by kernel_rfl) ?_
        refine Run_keep [5, 6, 7, 11, 12] (L' := [(5, .int .i64 x2.2.2.1), (6, .int .i64 x2.2.2.2), (7, .int .i64 x3.1), (11, .slice a2 x7.1.length c2), (12, .int .i64 x7.2)]) (by kernel_rfl) ?_
        refine Run_seq ?_
        obtain ⟨x8, gx8, hF⟩ := M.bind_some hF
        refine Run_reg 18 (by kernel_rfl) (L' := [(2, .bool x8)]) ?_ ?_
        · refine QRun_b [.int .i64 x7.2, .bool (x7.2 == 3)] 0 _ (by kernel_rfl) (fun w => by kernel_rfl) ?_
          refine QRun_seq 17 [(74, .bool x8)] ?_ ?_
          · rcases Bool.eq_false_or_eq_true (x7.2 == 3) with hb6 | hb6
            · refine QRun_bool (x7.2 == 3) true (by kernel_rfl) (fun w => by kernel_rfl) hb6 ?_
              have gx8 := M.ret_some ((M.ite_some gx8).1 hb6)
              refine QRun_n (by kernel_rfl) ?_
              refine QRun_n (by kernel_rfl) ?_
              refine QRun_n (by kernel_rfl) ?_
              refine QRun_n (by kernel_rfl) ?_
              refine QRun_n (by kernel_rfl) ?_
              refine QRun_n (by kernel_rfl) ?_
              refine QRun_n (by kernel_rfl) ?_
              refine QRun_n (by kernel_rfl) ?_
              refine QRun_n (by kernel_rfl) ?_
              refine QRun_n (by kernel_rfl) ?_
              refine QRun_n (by kernel_rfl) ?_
              refine QRun_n (by kernel_rfl) ?_
              refine QRun_n (by kernel_rfl) ?_
              refine QRun_bool true x8 (by kernel_rfl) (fun w => by kernel_rfl) gx8 ?_
              exact QRun_done [74] (by kernel_rfl) (by kernel_rfl)
            · refine QRun_bool (x7.2 == 3) false (by kernel_rfl) (fun w => by kernel_rfl) hb6 ?_
              have gx8 := (M.ite_some gx8).2 hb6
              obtain ⟨x9, gx9, gx8⟩ := M.bind_some gx8
              have gx8 := M.ret_some gx8
              refine QRun_b [.int .i64 x7.2, .bool (x7.2 == 0)] 3 _ (by kernel_rfl) (fun w => by kernel_rfl) ?_
              refine QRun_seq 16 [(60, .bool false), (73, .bool x9)] ?_ ?_
              · rcases Bool.eq_false_or_eq_true (x7.2 == 0) with hb7 | hb7
                · refine QRun_bool (x7.2 == 0) true (by kernel_rfl) (fun w => by kernel_rfl) hb7 ?_
                  have gx9 := (M.ite_some gx9).1 hb7
                  obtain ⟨x10, hx6, gx9⟩ := M.bind_some gx9
                  obtain ⟨hx6l, hx6u, hx6⟩ := M.idx_some hx6
                  obtain ⟨a3, c3, hc1, H11⟩ := H10.takeRow hx6
                  obtain ⟨x11, hx7, gx9⟩ := M.bind_some gx9
                  obtain ⟨hx7l, hx7u, hx7⟩ := M.idx_some hx7
                  have gx9 := M.ret_some gx9
                  refine QRun_b [.slice a2 x7.1.length c2, .int .i64 x2.2.2.1] 6 _ (by kernel_rfl) (fun w => by kernel_rfl) ?_
                  refine QRun_y (.pointer (some (adr a2 (x2.2.2.1.toNat * 1)))) (by kernel_rfl) (Y_idx (t := 22) (e := 23) (sz := 1) (a := a2) (n := x7.1.length) (cap := c2) (kk := .i64) (i := x2.2.2.1) (by kernel_rfl) Try.underlying22 (by kernel_rfl) ((H10.rd 0 rfl).cell hx6).1 hx6l hx6u) ?_
                  refine QRun_y (.slice a3 x10.length c3) (by kernel_rfl) (Y_load1 (t := 23) (p := adr a2 (x2.2.2.1.toNat * 1)) (v := .slice a3 x10.length c3) (by kernel_rfl) (fun w => by kernel_rfl) hc1) ?_
                  refine QRun_b [.int .i64 x2.2.2.2] 10 _ (by kernel_rfl) (fun w => by kernel_rfl) ?_
                  refine QRun_y (.pointer (some (adr a3 (x2.2.2.2.toNat * 1)))) (by kernel_rfl) (Y_idx (t := 23) (e := 2) (sz := 1) (a := a3) (n := x10.length) (cap := c3) (kk := .i64) (i := x2.2.2.2) (by kernel_rfl) Try.underlying23 (by kernel_rfl) ((H11.rd 0 rfl).cell hx7).1 hx7l hx7u) ?_
                  refine QRun_y (.int .i64 x11) (by kernel_rfl) (Y_load1 (t := 2) (p := adr a3 (x2.2.2.2.toNat * 1)) (v := .int .i64 x11) (by kernel_rfl) (fun w => by kernel_rfl) (cd2_cell (H11.rd 0 rfl) hx7)) ?_
                  refine QRun_b [.int .i64 x3.1, .bool (x11 == x3.1)] 13 _ (by kernel_rfl) (fun w => by kernel_rfl) ?_
                  refine QRun_bool (x11 == x3.1) x9 (by kernel_rfl) (fun w => by kernel_rfl) gx9 ?_
                  exact QRun_done [60, 73] (by kernel_rfl) (by kernel_rfl)
                · refine QRun_bool (x7.2 == 0) false (by kernel_rfl) (fun w => by kernel_rfl) hb7 ?_
                  have gx9 := M.ret_some ((M.ite_some gx9).2 hb7)
                  refine QRun_n (by kernel_rfl) ?_
                  refine QRun_n (by kernel_rfl) ?_
                  refine QRun_n (by kernel_rfl) ?_
                  refine QRun_n (by kernel_rfl) ?_
                  refine QRun_n (by kernel_rfl) ?_
                  refine QRun_n (by kernel_rfl) ?_
                  refine QRun_n (by kernel_rfl) ?_
                  refine QRun_n (by kernel_rfl) ?_
                  refine QRun_n (by kernel_rfl) ?_
                  refine QRun_bool false x9 (by kernel_rfl) (fun w => by kernel_rfl) gx9 ?_
                  exact QRun_done [60, 73] (by kernel_rfl) (by kernel_rfl)
              refine QRun_bool x9 x8 (by kernel_rfl) (fun w => by kernel_rfl) gx8 ?_
              exact QRun_done [74] (by kernel_rfl) (by kernel_rfl)
          refine QRun_b [.bool x8] 17 _ (by kernel_rfl) (fun w => by kernel_rfl) ?_
          exact QRun_done [2] (by kernel_rfl) (by kernel_rfl)
        have hF := M.ret_some hF
        subst hF
        have H12 : Hold h h4 [] := H10.pick [] (by kernel_rfl)
        exact Run_ret1 rfl (ResV_tmp (v := .bool x8) (by kernel_rfl)) ⟨rfl, H12⟩

end Go.Proofs.Ytjdcdcipilhmeaa
