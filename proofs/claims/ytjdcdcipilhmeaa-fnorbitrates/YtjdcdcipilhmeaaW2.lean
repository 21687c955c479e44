/-
  Walks: each Go function, called with what reads as plain data, returns what its plain program computes.
  Conditions: None beyond the given statement.
-/
import Derived.Test.YtjdcdcipilhmeaaW1
namespace Go.Proofs.Ytjdcdcipilhmeaa
open Go
attribute [local irreducible] setL setB opA fineI idleI fineB evB okB markB markBs readyB readyBs chainB lk rho pickL dropSlot tailOK
set_option maxRecDepth 100000 in
set_option maxHeartbeats 4000000 in
theorem w_spec_l07At_BQ0 (h hE : Heap) (it : Item) (s_ : TL07series) (bs_ : Nat) (as_a : Option Addr) (cs_a : Nat) (rs_a : Rd cd23 h (Lt h) as_a cs_a s_.a) (as_last : Option Addr) (cs_last : Nat) (as_lists : Option Addr) (cs_lists : Nat) (k_ : Int) (HM : Hold h hE [box bs_ 96 [.slice as_a s_.a.length cs_a, .slice as_last s_.last.length cs_last, .slice as_lists s_.lists.length cs_lists], own cd23 as_last s_.last.length cs_last s_.last, rowsQ cd2 23 as_lists s_.lists.length cs_lists s_.lists [], it]) (n : Nat) (r : (List Int) × Bool × TL07series) (hF : spec_l07At_BQ0 s_ k_ n = some r) :
    Fn Try.prog 95 #[.pointer (some ⟨bs_, 0, none⟩), .int .i64 k_] hE fun v h' => ∃ (a0 : Option Addr) (c0 : Nat), ∃ (a1 : Option Addr) (c1 : Nat), ∃ (a2 : Option Addr) (c2 : Nat), v = .tuple #[.slice a0 r.1.length c0, .bool r.2.1] ∧ Hold h h' [box bs_ 96 [.slice as_a s_.a.length cs_a, .slice a1 r.2.2.last.length c1, .slice a2 r.2.2.lists.length c2], own cd23 a1 r.2.2.last.length c1 r.2.2.last, rowsQ cd2 23 a2 r.2.2.lists.length c2 r.2.2.lists [(a0, c0, r.1)], it] := by
  unfold spec_l07At_BQ0 at hF
  refine Fn_enter (args := [.pointer (some ⟨bs_, 0, none⟩), .int .i64 k_]) Try.func95 rfl (by kernel_rfl) (by kernel_rfl) (fun w0 _ => ?_)
  refine Run_seq ?_
  refine Run_reg 2 (by kernel_rfl) (L' := [(0, .pointer (some ⟨bs_, 0, none⟩)), (1, .int .i64 k_)]) ?_ ?_
  · refine QRun_b [.slice none 0 0, .bool false] 0 _ (by kernel_rfl) (fun w => by kernel_rfl) ?_
    exact QRun_done [0, 1] (by kernel_rfl) (by kernel_rfl)
  refine Run_seq ?_
  obtain ⟨x1, gx1, hF⟩ := M.bind_some hF
  refine Run_join (fun L' h' => ∃ (s2 : (List (List Int)) × (List (List Int))) (a3 : Option Addr) (c3 : Nat) (a4 : Option Addr) (c4 : Nat), x1 = .inl s2 ∧ L' = [(0, .pointer (some ⟨bs_, 0, none⟩)), (1, .int .i64 k_)] ∧ Hold h h' [box bs_ 96 [.slice as_a s_.a.length cs_a, .slice a3 s2.1.length c3, .slice a4 s2.2.length c4], own cd23 a3 s2.1.length c3 s2.1, rowsQ cd2 23 a4 s2.2.length c4 s2.2 [], it]) ?_ ?_
  · rintro _ h2 ⟨s2, a3, c3, a4, c4, es2, rfl, H2⟩
    have hF := M.cont_inl' hF es2
    refine Run_seq ?_
    obtain ⟨x5, hx4, hF⟩ := M.bind_some hF
    obtain ⟨hx4l, hx4u, hx4⟩ := M.idx_some hx4
    have H37 : Hold h h2 [rowsQ cd2 23 a4 s2.2.length c4 s2.2 [], box bs_ 96 [.slice as_a s_.a.length cs_a, .slice a3 s2.1.length c3, .slice a4 s2.2.length c4], own cd23 a3 s2.1.length c3 s2.1, it] := H2.pick [2, 0, 1, 3] (by kernel_rfl)
    obtain ⟨a9, c8, hc1, H38⟩ := H37.peekRow hx4
    have H39 : Hold h h2 [box bs_ 96 [.slice as_a s_.a.length cs_a, .slice a3 s2.1.length c3, .slice a4 s2.2.length c4], own cd23 a3 s2.1.length c3 s2.1, rowsQ cd2 23 a4 s2.2.length c4 s2.2 [(a9, c8, x5)], it] := H38.pick [1, 2, 0, 3] (by kernel_rfl)
    refine Run_reg 9 (by kernel_rfl) (L' := [(4, .slice a9 x5.length c8), (5, .bool true)]) ?_ ?_
    · refine QRun_b [.pointer (some ⟨bs_, 0, none⟩), .pointer (some ⟨bs_, 0, none⟩), .pointer (some ⟨bs_, 2, none⟩)] 0 _ (by kernel_rfl) (fun w => by kernel_rfl) ?_
      refine QRun_y (.slice a4 s2.2.length c4) (by kernel_rfl) (Y_load1 (t := 22) (p := ⟨bs_, 2, none⟩) (v := .slice a4 s2.2.length c4) (by kernel_rfl) (fun w => by kernel_rfl) (H2.cell 0 rfl rfl)) ?_
      refine QRun_b [.int .i64 k_] 4 _ (by kernel_rfl) (fun w => by kernel_rfl) ?_
      refine QRun_y (.pointer (some (adr a4 (k_.toNat * 1)))) (by kernel_rfl) (Y_idx (t := 22) (e := 23) (sz := 1) (a := a4) (n := s2.2.length) (cap := c4) (kk := .i64) (i := k_) (by kernel_rfl) Try.underlying22 (by kernel_rfl) ((H2.rdQ 2 rfl).cell hx4).1 hx4l hx4u) ?_
      refine QRun_y (.slice a9 x5.length c8) (by kernel_rfl) (Y_load1 (t := 23) (p := adr a4 (k_.toNat * 1)) (v := .slice a9 x5.length c8) (by kernel_rfl) (fun w => by kernel_rfl) hc1) ?_
      refine QRun_b [.slice a9 x5.length c8, .bool true] 7 _ (by kernel_rfl) (fun w => by kernel_rfl) ?_
      exact QRun_done [4, 5] (by kernel_rfl) (by kernel_rfl)
    have hF := M.ret_some hF
    subst hF
    have H40 : Hold h h2 [rowsQ cd2 23 a4 s2.2.length c4 s2.2 [(a9, c8, x5)], box bs_ 96 [.slice as_a s_.a.length cs_a, .slice a3 s2.1.length c3, .slice a4 s2.2.length c4], own cd23 a3 s2.1.length c3 s2.1, it] := H39.pick [2, 0, 1, 3] (by kernel_rfl)
    have H41 : Hold h h2 [own cd23 a3 s2.1.length c3 s2.1, rowsQ cd2 23 a4 s2.2.length c4 s2.2 [(a9, c8, x5)], box bs_ 96 [.slice as_a s_.a.length cs_a, .slice a3 s2.1.length c3, .slice a4 s2.2.length c4], it] := H40.pick [2, 0, 1, 3] (by kernel_rfl)
    have H42 : Hold h h2 [rowsQ cd2 23 a4 s2.2.length c4 s2.2 [(a9, c8, x5)], own cd23 a3 s2.1.length c3 s2.1, box bs_ 96 [.slice as_a s_.a.length cs_a, .slice a3 s2.1.length c3, .slice a4 s2.2.length c4], it] := H41.pick [1, 0, 2, 3] (by kernel_rfl)
    have H43 : Hold h h2 [box bs_ 96 [.slice as_a s_.a.length cs_a, .slice a3 s2.1.length c3, .slice a4 s2.2.length c4], own cd23 a3 s2.1.length c3 s2.1, rowsQ cd2 23 a4 s2.2.length c4 s2.2 [(a9, c8, x5)], it] := H42.pick [2, 1, 0, 3] (by kernel_rfl)
    exact Run_ret2 rfl (ResV_tmp (v := .slice a9 x5.length c8) (by kernel_rfl)) (ResV_tmp (v := .bool true) (by kernel_rfl)) ⟨a9, c8, a3, c3, a4, c4, rfl, H43⟩
  · refine Run_block ?_
    have H44 : Hold h hE [own cd23 as_last s_.last.length cs_last s_.last, box bs_ 96 [.slice as_a s_.a.length cs_a, .slice as_last s_.last.length cs_last, .slice as_lists s_.lists.length cs_lists], rowsQ cd2 23 as_lists s_.lists.length cs_lists s_.lists [], it] := HM.pick [1, 0, 2, 3] (by kernel_rfl)
    have H45 : Hold h hE [rowsQ cd2 23 as_lists s_.lists.length cs_lists s_.lists [], own cd23 as_last s_.last.length cs_last s_.last, box bs_ 96 [.slice as_a s_.a.length cs_a, .slice as_last s_.last.length cs_last, .slice as_lists s_.lists.length cs_lists], it] := H44.pick [2, 0, 1, 3] (by kernel_rfl)
    have H46 : Hold h hE [box bs_ 96 [.slice as_a s_.a.length cs_a, .slice as_last s_.last.length cs_last, .slice as_lists s_.lists.length cs_lists], own cd23 as_last s_.last.length cs_last s_.last, rowsQ cd2 23 as_lists s_.lists.length cs_lists s_.lists [], it] := H45.pick [2, 1, 0, 3] (by kernel_rfl)
    refine Run_keep [0, 1] (L' := [(0, .pointer (some ⟨bs_, 0, none⟩)), (1, .int .i64 k_)]) (by kernel_rfl) ?_
    refine Run_loop (fun m L' h' => ∃ (s1 : (List (List Int)) × (List (List Int))) (a1 : Option Addr) (c1 : Nat) (a2 : Option Addr) (c2 : Nat), M.loopN _ n m s1 = some x1 ∧ L' = [(0, .pointer (some ⟨bs_, 0, none⟩)), (1, .int .i64 k_)] ∧ Hold h h' [box bs_ 96 [.slice as_a s_.a.length cs_a, .slice a1 s1.1.length c1, .slice a2 s1.2.length c2], own cd23 a1 s1.1.length c1 s1.1, rowsQ cd2 23 a2 s1.2.length c2 s1.2 [], it]) n ⟨(s_.last, s_.lists), as_last, cs_last, as_lists, cs_lists, gx1, rfl, H46⟩ ?_
    rintro my1 _ h1 ⟨s1, a1, c1, a2, c2, gx1, rfl, H1⟩
    obtain ⟨my1, y1, rfl, hB1, hgoy1, houty1⟩ := M.loop_some gx1
    refine Run_seq ?_
    refine Run_seq ?_
    refine Run_reg 7 (by kernel_rfl) (L' := [(0, .pointer (some ⟨bs_, 0, none⟩)), (1, .int .i64 k_), (12, .bool (decide ((s1.2.length : Int) ≤ k_)))]) ?_ ?_
    · refine QRun_b [.pointer (some ⟨bs_, 0, none⟩), .pointer (some ⟨bs_, 0, none⟩), .pointer (some ⟨bs_, 2, none⟩)] 0 _ (by kernel_rfl) (fun w => by kernel_rfl) ?_
      refine QRun_y (.slice a2 s1.2.length c2) (by kernel_rfl) (Y_load1 (t := 22) (p := ⟨bs_, 2, none⟩) (v := .slice a2 s1.2.length c2) (by kernel_rfl) (fun w => by kernel_rfl) (H1.cell 0 rfl rfl)) ?_
      refine QRun_b [.int .i64 (s1.2.length : Int), .int .i64 k_, .bool (decide ((s1.2.length : Int) ≤ k_))] 4 _ (by kernel_rfl) (fun w => by kernel_rfl) ?_
      exact QRun_done [0, 1, 12] (by kernel_rfl) (by kernel_rfl)
    refine Run_cond (b := decide ((s1.2.length : Int) ≤ k_)) (by kernel_rfl) (fun hb1 => ?_) (fun hb1 => ?_)
    · have hB1 := (M.ite_some hB1).1 hb1
      refine Run_skip ?_
      refine Run_block ?_
      refine Run_seq ?_
      refine Run_D (fun x => Hold h x [box bs_ 96 [.slice as_a s_.a.length cs_a, .slice a1 s1.1.length c1, .slice a2 s1.2.length c2], own cd23 a1 s1.1.length c1 s1.1, rowsQ cd2 23 a2 s1.2.length c2 s1.2 [], it]) (fun x => Hold h x [box bs_ 96 [.slice as_a s_.a.length cs_a, .slice a1 s1.1.length c1, .slice a2 s1.2.length c2], own cd23 a1 s1.1.length c1 s1.1, rowsQ cd2 23 a2 s1.2.length c2 s1.2 [], it]) mixed (by kernel_rfl) H1 Hold.stable (fun x Hy => (show Hold h x [box bs_ 96 [.slice as_a s_.a.length cs_a, .slice a1 s1.1.length c1, .slice a2 s1.2.length c2], own cd23 a1 s1.1.length c1 s1.1, rowsQ cd2 23 a2 s1.2.length c2 s1.2 [], it] from Hy).pick [0, 1, 2, 3] (by kernel_rfl)) ?_
      refine DR_b 9 [.pointer (some ⟨bs_, 0, none⟩), .pointer (some ⟨bs_, 0, none⟩), .pointer (some ⟨bs_, 0, none⟩), .pointer (some ⟨bs_, 0, none⟩)] 0 (by kernel_rfl) (by kernel_rfl) (by kernel_rfl) (fun w => by kernel_rfl) ?_
      refine DR_y 8 (i := 4) (.slice as_a s_.a.length cs_a) (by kernel_rfl) (by kernel_rfl) (by kernel_rfl) (fun hx Hx => (YE.of (Y_load1 (t := 22) (p := ⟨bs_, 0, none⟩) (v := .slice as_a s_.a.length cs_a) (by kernel_rfl) (fun w => by kernel_rfl) (Hx.cell 0 rfl rfl)))) ?_
      refine DR_b 5 [.pointer (some ⟨bs_, 0, none⟩), .pointer (some ⟨bs_, 0, none⟩), .pointer (some ⟨bs_, 1, none⟩)] 5 (by kernel_rfl) (by kernel_rfl) (by kernel_rfl) (fun w => by kernel_rfl) ?_
      refine DR_y 4 (i := 8) (.slice a1 s1.1.length c1) (by kernel_rfl) (by kernel_rfl) (by kernel_rfl) (fun hx Hx => (YE.of (Y_load1 (t := 22) (p := ⟨bs_, 1, none⟩) (v := .slice a1 s1.1.length c1) (by kernel_rfl) (fun w => by kernel_rfl) (Hx.cell 0 rfl rfl)))) ?_
      refine DR_e 3 9 (by kernel_rfl) (by kernel_rfl) (by kernel_rfl) (fun h3 H3 => ?_)
      have H4 : Hold h h3 [box bs_ 96 [.slice as_a s_.a.length cs_a, .slice a1 s1.1.length c1, .slice a2 s1.2.length c2], own cd23 a1 s1.1.length c1 s1.1, rowsQ cd2 23 a2 s1.2.length c2 s1.2 [], it] := H3
      obtain ⟨x2, hx1, hB1⟩ := M.bind_some hB1
      refine E_call (f := 143) (args := #[.slice as_a s_.a.length cs_a, .slice a1 s1.1.length c1]) (w_spec_l02Multiply h3 s_.a as_a cs_a (rs_a.at H4.ext) s1.1 a1 c1 (H4.rd 1 rfl) _ _ hx1) (by kernel_rfl) (fun v1 h4 hp1 => ?_)
      obtain ⟨a5, c5, rfl, H5⟩ := hp1
      have H6 : Hold h h4 [own cd23 a5 x2.length c5 x2, box bs_ 96 [.slice as_a s_.a.length cs_a, .slice a1 s1.1.length c1, .slice a2 s1.2.length c2], own cd23 a1 s1.1.length c1 s1.1, rowsQ cd2 23 a2 s1.2.length c2 s1.2 [], it] := H4.call H5 rfl
      refine ⟨fun x => Hold h x [box bs_ 96 [.slice as_a s_.a.length cs_a, .slice a1 s1.1.length c1, .slice a2 s1.2.length c2], own cd23 a1 s1.1.length c1 s1.1, rowsQ cd2 23 a2 s1.2.length c2 s1.2 [], it, own cd23 a5 x2.length c5 x2], fun x => Hold h x [own cd23 a5 x2.length c5 x2, box bs_ 96 [.slice as_a s_.a.length cs_a, .slice a1 s1.1.length c1, .slice a2 s1.2.length c2], own cd23 a1 s1.1.length c1 s1.1, rowsQ cd2 23 a2 s1.2.length c2 s1.2 [], it], H6, Hold.stable, fun x Hy => (show Hold h x [own cd23 a5 x2.length c5 x2, box bs_ 96 [.slice as_a s_.a.length cs_a, .slice a1 s1.1.length c1, .slice a2 s1.2.length c2], own cd23 a1 s1.1.length c1 s1.1, rowsQ cd2 23 a2 s1.2.length c2 s1.2 [], it] from Hy).pick [1, 2, 3, 4, 0] (by kernel_rfl), fun x Hy => (show Hold h x [box bs_ 96 [.slice as_a s_.a.length cs_a, .slice a1 s1.1.length c1, .slice a2 s1.2.length c2], own cd23 a1 s1.1.length c1 s1.1, rowsQ cd2 23 a2 s1.2.length c2 s1.2 [], it, own cd23 a5 x2.length c5 x2] from Hy).pick [0, 1, 2, 3] (by kernel_rfl), ?_⟩
      refine DR_b 1 [.pointer (some ⟨bs_, 0, none⟩), .pointer (some ⟨bs_, 1, none⟩)] 10 (by kernel_rfl) (by kernel_rfl) (by kernel_rfl) (fun w => by kernel_rfl) ?_
      refine DR_tail (i := 12) (by kernel_rfl) (by kernel_rfl) (by kernel_rfl) (fun h5 H7 => ?_)
      have H8 : Hold h h5 [own cd23 a5 x2.length c5 x2, box bs_ 96 [.slice as_a s_.a.length cs_a, .slice a1 s1.1.length c1, .slice a2 s1.2.length c2], own cd23 a1 s1.1.length c1 s1.1, rowsQ cd2 23 a2 s1.2.length c2 s1.2 [], it] := H7
      have H10 : Hold h h5 [box bs_ 96 [.slice as_a s_.a.length cs_a, .slice a1 s1.1.length c1, .slice a2 s1.2.length c2], own cd23 a5 x2.length c5 x2, own cd23 a1 s1.1.length c1 s1.1, rowsQ cd2 23 a2 s1.2.length c2 s1.2 [], it] := H8.pick [1, 0, 2, 3, 4] (by kernel_rfl)
      refine Run_E (by kernel_rfl) ?_
      refine E_bput (t := 22) (off := 1) (us := [.slice as_a s_.a.length cs_a, .slice a5 x2.length c5, .slice a2 s1.2.length c2]) (v := .slice a5 x2.length c5) H10 (by kernel_rfl) (by kernel_rfl) rfl (by kernel_rfl) rfl (fun h6 H9 => ?_)
      refine Run_nil (by kernel_rfl) ?_
      refine Run_keep [0, 1] (L' := [(0, .pointer (some ⟨bs_, 0, none⟩)), (1, .int .i64 k_)]) (by kernel_rfl) ?_
      refine Run_seq ?_
      refine Run_seq ?_
      obtain ⟨x3, hx2, hB1⟩ := M.bind_some hB1
      refine Run_reg 6 (by kernel_rfl) (L' := [(0, .pointer (some ⟨bs_, 0, none⟩)), (1, .int .i64 k_), (30, .bool (!x3))]) ?_ ?_
      · refine QRun_b [.pointer (some ⟨bs_, 0, none⟩), .pointer (some ⟨bs_, 0, none⟩), .pointer (some ⟨bs_, 1, none⟩)] 0 _ (by kernel_rfl) (fun w => by kernel_rfl) ?_
        refine QRun_y (.slice a5 x2.length c5) (by kernel_rfl) (Y_load1 (t := 22) (p := ⟨bs_, 1, none⟩) (v := .slice a5 x2.length c5) (by kernel_rfl) (fun w => by kernel_rfl) (H9.cell 0 rfl rfl)) ?_
        refine QRun_y (.bool x3) (by kernel_rfl) (Y_callq (f := 131) (args := #[.slice a5 x2.length c5]) (v := .bool x3) (by kernel_rfl) (w_spec_IsMatrix h6 x2 a5 c5 (H9.rd 1 rfl) _ _ hx2)) ?_
        refine QRun_b [.bool (!x3)] 5 _ (by kernel_rfl) (fun w => by kernel_rfl) ?_
        exact QRun_done [0, 1, 30] (by kernel_rfl) (by kernel_rfl)
      refine Run_cond (b := !x3) (by kernel_rfl) (fun hb2 => ?_) (fun hb2 => ?_)
      · have hB1 := (M.ite_some hB1).1 hb2
        refine Run_seq ?_
        refine Run_reg 2 (by kernel_rfl) (L' := [(4, .slice none 0 0), (5, .bool false)]) ?_ ?_
        · refine QRun_b [.slice none 0 0, .bool false] 0 _ (by kernel_rfl) (fun w => by kernel_rfl) ?_
          exact QRun_done [4, 5] (by kernel_rfl) (by kernel_rfl)
        have hB1 := M.ret_some hB1
        have gx1 := houty1 _ hB1.symm
        have hF := M.cont_inr' hF gx1
        have hF := M.ret_some hF
        subst hF
        have H11 : Hold h h6 [rowsQ cd2 23 a2 s1.2.length c2 s1.2 [], box bs_ 96 [.slice as_a s_.a.length cs_a, .slice a5 x2.length c5, .slice a2 s1.2.length c2], own cd23 a5 x2.length c5 x2, own cd23 a1 s1.1.length c1 s1.1, it] := H9.pick [3, 0, 1, 2, 4] (by kernel_rfl)
        have H12 := H11.nilPeek
        have H13 : Hold h h6 [own cd23 a5 x2.length c5 x2, rowsQ cd2 23 a2 s1.2.length c2 s1.2 [(none, 0, [])], box bs_ 96 [.slice as_a s_.a.length cs_a, .slice a5 x2.length c5, .slice a2 s1.2.length c2], own cd23 a1 s1.1.length c1 s1.1, it] := H12.pick [2, 0, 1, 3, 4] (by kernel_rfl)
        have H14 : Hold h h6 [rowsQ cd2 23 a2 s1.2.length c2 s1.2 [(none, 0, [])], own cd23 a5 x2.length c5 x2, box bs_ 96 [.slice as_a s_.a.length cs_a, .slice a5 x2.length c5, .slice a2 s1.2.length c2], own cd23 a1 s1.1.length c1 s1.1, it] := H13.pick [1, 0, 2, 3, 4] (by kernel_rfl)
        have H15 : Hold h h6 [box bs_ 96 [.slice as_a s_.a.length cs_a, .slice a5 x2.length c5, .slice a2 s1.2.length c2], own cd23 a5 x2.length c5 x2, rowsQ cd2 23 a2 s1.2.length c2 s1.2 [(none, 0, [])], it] := H14.pick [2, 1, 0, 4] (by kernel_rfl)
        exact Run_ret2 rfl (ResV_tmp (v := .slice none 0 0) (by kernel_rfl)) (ResV_tmp (v := .bool false) (by kernel_rfl)) ⟨none, 0, a5, c5, a2, c2, rfl, H15⟩
      · have hB1 := (M.ite_some hB1).2 hb2
        refine Run_skip ?_
        refine Run_D (fun x => Hold h x [box bs_ 96 [.slice as_a s_.a.length cs_a, .slice a5 x2.length c5, .slice a2 s1.2.length c2], own cd23 a5 x2.length c5 x2, own cd23 a1 s1.1.length c1 s1.1, it]) (fun x => Hold h x [box bs_ 96 [.slice as_a s_.a.length cs_a, .slice a5 x2.length c5, .slice a2 s1.2.length c2], own cd23 a5 x2.length c5 x2, own cd23 a1 s1.1.length c1 s1.1, rowsQ cd2 23 a2 s1.2.length c2 s1.2 [], it]) mixed (by kernel_rfl) H9 Hold.stable (fun x Hy => (show Hold h x [box bs_ 96 [.slice as_a s_.a.length cs_a, .slice a5 x2.length c5, .slice a2 s1.2.length c2], own cd23 a5 x2.length c5 x2, own cd23 a1 s1.1.length c1 s1.1, rowsQ cd2 23 a2 s1.2.length c2 s1.2 [], it] from Hy).pick [0, 1, 2, 4] (by kernel_rfl)) ?_
        refine DR_b 11 [.pointer (some ⟨bs_, 0, none⟩), .pointer (some ⟨bs_, 0, none⟩), .pointer (some ⟨bs_, 0, none⟩), .pointer (some ⟨bs_, 2, none⟩)] 0 (by kernel_rfl) (by kernel_rfl) (by kernel_rfl) (fun w => by kernel_rfl) ?_
        refine DR_y 10 (i := 4) (.slice a2 s1.2.length c2) (by kernel_rfl) (by kernel_rfl) (by kernel_rfl) (fun hx Hx => (YE.of (Y_load1 (t := 22) (p := ⟨bs_, 2, none⟩) (v := .slice a2 s1.2.length c2) (by kernel_rfl) (fun w => by kernel_rfl) (Hx.cell 0 rfl rfl)))) ?_
        refine DR_b 7 [.pointer (some ⟨bs_, 0, none⟩), .pointer (some ⟨bs_, 0, none⟩), .pointer (some ⟨bs_, 1, none⟩)] 5 (by kernel_rfl) (by kernel_rfl) (by kernel_rfl) (fun w => by kernel_rfl) ?_
        refine DR_y 6 (i := 8) (.slice a5 x2.length c5) (by kernel_rfl) (by kernel_rfl) (by kernel_rfl) (fun hx Hx => (YE.of (Y_load1 (t := 22) (p := ⟨bs_, 1, none⟩) (v := .slice a5 x2.length c5) (by kernel_rfl) (fun w => by kernel_rfl) (Hx.cell 0 rfl rfl)))) ?_
        refine DR_e 5 9 (by kernel_rfl) (by kernel_rfl) (by kernel_rfl) (fun h7 H16 => ?_)
        have H17 : Hold h h7 [box bs_ 96 [.slice as_a s_.a.length cs_a, .slice a5 x2.length c5, .slice a2 s1.2.length c2], own cd23 a5 x2.length c5 x2, own cd23 a1 s1.1.length c1 s1.1, rowsQ cd2 23 a2 s1.2.length c2 s1.2 [], it] := H16
        obtain ⟨x4, hx3, hB1⟩ := M.bind_some hB1
        refine E_call (f := 132) (args := #[.slice a5 x2.length c5]) (w_spec_l07Flat h7 x2 a5 c5 (H17.rd 1 rfl) _ _ hx3) (by kernel_rfl) (fun v2 h8 hp2 => ?_)
        obtain ⟨a6, c6, rfl, H18⟩ := hp2
        have H19 : Hold h h8 [own cd2 a6 x4.length c6 x4, box bs_ 96 [.slice as_a s_.a.length cs_a, .slice a5 x2.length c5, .slice a2 s1.2.length c2], own cd23 a5 x2.length c5 x2, own cd23 a1 s1.1.length c1 s1.1, rowsQ cd2 23 a2 s1.2.length c2 s1.2 [], it] := H17.call H18 rfl
        refine ⟨fun x => Hold h x [box bs_ 96 [.slice as_a s_.a.length cs_a, .slice a5 x2.length c5, .slice a2 s1.2.length c2], own cd23 a5 x2.length c5 x2, own cd23 a1 s1.1.length c1 s1.1, it], fun x => Hold h x [own cd2 a6 x4.length c6 x4, box bs_ 96 [.slice as_a s_.a.length cs_a, .slice a5 x2.length c5, .slice a2 s1.2.length c2], own cd23 a5 x2.length c5 x2, own cd23 a1 s1.1.length c1 s1.1, rowsQ cd2 23 a2 s1.2.length c2 s1.2 [], it], H19, Hold.stable, fun x Hy => (show Hold h x [own cd2 a6 x4.length c6 x4, box bs_ 96 [.slice as_a s_.a.length cs_a, .slice a5 x2.length c5, .slice a2 s1.2.length c2], own cd23 a5 x2.length c5 x2, own cd23 a1 s1.1.length c1 s1.1, rowsQ cd2 23 a2 s1.2.length c2 s1.2 [], it] from Hy).pick [1, 2, 3, 5] (by kernel_rfl), fun x Hy => (show Hold h x [box bs_ 96 [.slice as_a s_.a.length cs_a, .slice a5 x2.length c5, .slice a2 s1.2.length c2], own cd23 a5 x2.length c5 x2, own cd23 a1 s1.1.length c1 s1.1, it] from Hy).pick [0, 1, 2, 3] (by kernel_rfl), ?_⟩
        refine DR_e 4 10 (by kernel_rfl) (by kernel_rfl) (by kernel_rfl) (fun h9 H20 => ?_)
        have H21 : Hold h h9 [own cd2 a6 x4.length c6 x4, box bs_ 96 [.slice as_a s_.a.length cs_a, .slice a5 x2.length c5, .slice a2 s1.2.length c2], own cd23 a5 x2.length c5 x2, own cd23 a1 s1.1.length c1 s1.1, rowsQ cd2 23 a2 s1.2.length c2 s1.2 [], it] := H20
        refine E_lit1 (ey := 23) (n := x4.length) H21 (fun w => by kernel_rfl) rfl (fun a7 h10 H22 => ?_)
        refine ⟨fun x => Hold h x [box bs_ 96 [.slice as_a s_.a.length cs_a, .slice a5 x2.length c5, .slice a2 s1.2.length c2], own cd23 a5 x2.length c5 x2, own cd23 a1 s1.1.length c1 s1.1, it], fun x => Hold h x [own cd23 a7 1 1 [x4], box bs_ 96 [.slice as_a s_.a.length cs_a, .slice a5 x2.length c5, .slice a2 s1.2.length c2], own cd23 a5 x2.length c5 x2, own cd23 a1 s1.1.length c1 s1.1, rowsQ cd2 23 a2 s1.2.length c2 s1.2 [], it], H22, Hold.stable, fun x Hy => (show Hold h x [own cd23 a7 1 1 [x4], box bs_ 96 [.slice as_a s_.a.length cs_a, .slice a5 x2.length c5, .slice a2 s1.2.length c2], own cd23 a5 x2.length c5 x2, own cd23 a1 s1.1.length c1 s1.1, rowsQ cd2 23 a2 s1.2.length c2 s1.2 [], it] from Hy).pick [1, 2, 3, 5] (by kernel_rfl), fun x Hy => (show Hold h x [box bs_ 96 [.slice as_a s_.a.length cs_a, .slice a5 x2.length c5, .slice a2 s1.2.length c2], own cd23 a5 x2.length c5 x2, own cd23 a1 s1.1.length c1 s1.1, it] from Hy).pick [0, 1, 2, 3] (by kernel_rfl), ?_⟩
        refine DR_e 3 11 (by kernel_rfl) (by kernel_rfl) (by kernel_rfl) (fun h11 H23 => ?_)
        have H24 : Hold h h11 [own cd23 a7 1 1 [x4], box bs_ 96 [.slice as_a s_.a.length cs_a, .slice a5 x2.length c5, .slice a2 s1.2.length c2], own cd23 a5 x2.length c5 x2, own cd23 a1 s1.1.length c1 s1.1, rowsQ cd2 23 a2 s1.2.length c2 s1.2 [], it] := H23
        obtain ⟨l1, hl1, hB1⟩ := M.bind_some hB1
        have hl1 := M.app_some hl1
        have H25 : Hold h h11 [rowsQ cd2 23 a2 s1.2.length c2 s1.2 [], own cd23 a7 1 1 [x4], box bs_ 96 [.slice as_a s_.a.length cs_a, .slice a5 x2.length c5, .slice a2 s1.2.length c2], own cd23 a5 x2.length c5 x2, own cd23 a1 s1.1.length c1 s1.1, it] := H24.pick [4, 0, 1, 2, 3, 5] (by kernel_rfl)
        refine E_appQ (C := cd2) (t := 22) (ty := 22) (tr := 23) (n := s1.2.length) (m := 1) H25 cd23_ti rfl Try.underlying22 (by decide) (by kernel_rfl) hl1 (fun a8 c7 h12 H26 => ?_)
        refine ⟨fun x => Hold h x [box bs_ 96 [.slice as_a s_.a.length cs_a, .slice a5 x2.length c5, .slice a2 s1.2.length c2], own cd23 a5 x2.length c5 x2, own cd23 a1 s1.1.length c1 s1.1, it, rowsQ cd2 23 a8 l1.length c7 l1 []], fun x => Hold h x [rowsQ cd2 23 a8 l1.length c7 l1 [], box bs_ 96 [.slice as_a s_.a.length cs_a, .slice a5 x2.length c5, .slice a2 s1.2.length c2], own cd23 a5 x2.length c5 x2, own cd23 a1 s1.1.length c1 s1.1, it], H26, Hold.stable, fun x Hy => (show Hold h x [rowsQ cd2 23 a8 l1.length c7 l1 [], box bs_ 96 [.slice as_a s_.a.length cs_a, .slice a5 x2.length c5, .slice a2 s1.2.length c2], own cd23 a5 x2.length c5 x2, own cd23 a1 s1.1.length c1 s1.1, it] from Hy).pick [1, 2, 3, 4, 0] (by kernel_rfl), fun x Hy => (show Hold h x [box bs_ 96 [.slice as_a s_.a.length cs_a, .slice a5 x2.length c5, .slice a2 s1.2.length c2], own cd23 a5 x2.length c5 x2, own cd23 a1 s1.1.length c1 s1.1, it, rowsQ cd2 23 a8 l1.length c7 l1 []] from Hy).pick [0, 1, 2, 3] (by kernel_rfl), ?_⟩
        refine DR_b 1 [.pointer (some ⟨bs_, 0, none⟩), .pointer (some ⟨bs_, 2, none⟩)] 12 (by kernel_rfl) (by kernel_rfl) (by kernel_rfl) (fun w => by kernel_rfl) ?_
        refine DR_tail (i := 14) (by kernel_rfl) (by kernel_rfl) (by kernel_rfl) (fun h13 H27 => ?_)
        have H28 : Hold h h13 [rowsQ cd2 23 a8 l1.length c7 l1 [], box bs_ 96 [.slice as_a s_.a.length cs_a, .slice a5 x2.length c5, .slice a2 s1.2.length c2], own cd23 a5 x2.length c5 x2, own cd23 a1 s1.1.length c1 s1.1, it] := H27
        have H30 : Hold h h13 [box bs_ 96 [.slice as_a s_.a.length cs_a, .slice a5 x2.length c5, .slice a2 s1.2.length c2], rowsQ cd2 23 a8 l1.length c7 l1 [], own cd23 a5 x2.length c5 x2, own cd23 a1 s1.1.length c1 s1.1, it] := H28.pick [1, 0, 2, 3, 4] (by kernel_rfl)
        refine Run_E (by kernel_rfl) ?_
        refine E_bput (t := 22) (off := 2) (us := [.slice as_a s_.a.length cs_a, .slice a5 x2.length c5, .slice a8 l1.length c7]) (v := .slice a8 l1.length c7) H30 (by kernel_rfl) (by kernel_rfl) rfl (by kernel_rfl) rfl (fun h14 H29 => ?_)
        refine Run_nil (by kernel_rfl) ?_
        refine Run_keep [0, 1] (L' := [(0, .pointer (some ⟨bs_, 0, none⟩)), (1, .int .i64 k_)]) (by kernel_rfl) ?_
        refine Run_blk ?_
        have H31 : Hold h h14 [own cd23 a5 x2.length c5 x2, box bs_ 96 [.slice as_a s_.a.length cs_a, .slice a5 x2.length c5, .slice a8 l1.length c7], rowsQ cd2 23 a8 l1.length c7 l1 [], own cd23 a1 s1.1.length c1 s1.1, it] := H29.pick [2, 0, 1, 3, 4] (by kernel_rfl)
        have H32 : Hold h h14 [rowsQ cd2 23 a8 l1.length c7 l1 [], own cd23 a5 x2.length c5 x2, box bs_ 96 [.slice as_a s_.a.length cs_a, .slice a5 x2.length c5, .slice a8 l1.length c7], own cd23 a1 s1.1.length c1 s1.1, it] := H31.pick [2, 0, 1, 3, 4] (by kernel_rfl)
        have H33 : Hold h h14 [box bs_ 96 [.slice as_a s_.a.length cs_a, .slice a5 x2.length c5, .slice a8 l1.length c7], own cd23 a5 x2.length c5 x2, rowsQ cd2 23 a8 l1.length c7 l1 [], it] := H32.pick [2, 1, 0, 4] (by kernel_rfl)
        have hB1 := M.ret_some hB1
        have gx1 := hgoy1 _ hB1.symm
        exact Run_again [0, 1] (by kernel_rfl) my1 (Nat.lt_succ_self _) ⟨(x2, l1), a5, c5, a8, c7, gx1, rfl, H33⟩
    · have hB1 := (M.ite_some hB1).2 hb1
      refine Run_exit (k' := _) rfl ?_
      have H34 : Hold h h1 [own cd23 a1 s1.1.length c1 s1.1, box bs_ 96 [.slice as_a s_.a.length cs_a, .slice a1 s1.1.length c1, .slice a2 s1.2.length c2], rowsQ cd2 23 a2 s1.2.length c2 s1.2 [], it] := H1.pick [1, 0, 2, 3] (by kernel_rfl)
      have H35 : Hold h h1 [rowsQ cd2 23 a2 s1.2.length c2 s1.2 [], own cd23 a1 s1.1.length c1 s1.1, box bs_ 96 [.slice as_a s_.a.length cs_a, .slice a1 s1.1.length c1, .slice a2 s1.2.length c2], it] := H34.pick [2, 0, 1, 3] (by kernel_rfl)
      have H36 : Hold h h1 [box bs_ 96 [.slice as_a s_.a.length cs_a, .slice a1 s1.1.length c1, .slice a2 s1.2.length c2], own cd23 a1 s1.1.length c1 s1.1, rowsQ cd2 23 a2 s1.2.length c2 s1.2 [], it] := H35.pick [2, 1, 0, 3] (by kernel_rfl)
      have hB1 := M.ret_some hB1
      have gx1 := houty1 _ hB1.symm
      subst gx1
      exact Run_fall [0, 1] (by kernel_rfl) ⟨(s1.1, s1.2), a1, c1, a2, c2, rfl, rfl, H36⟩

set_option maxRecDepth 100000 in
set_option maxHeartbeats 4000000 in
theorem w_spec_l07At_BQ1 (h hE : Heap) (it : Item) (s_ : TL07series) (bs_ : Nat) (as_a : Option Addr) (cs_a : Nat) (rs_a : Rd cd23 h (Lt h) as_a cs_a s_.a) (as_last : Option Addr) (cs_last : Nat) (as_lists : Option Addr) (cs_lists : Nat) (qas_lists0 : Option Addr) (qcs_lists0 : Nat) (qls_lists0 : List Int) (k_ : Int) (HM : Hold h hE [box bs_ 96 [.slice as_a s_.a.length cs_a, .slice as_last s_.last.length cs_last, .slice as_lists s_.lists.length cs_lists], own cd23 as_last s_.last.length cs_last s_.last, rowsQ cd2 23 as_lists s_.lists.length cs_lists s_.lists [(qas_lists0, qcs_lists0, qls_lists0)], it]) (n : Nat) (r : (List Int) × Bool × TL07series) (hF : spec_l07At_BQ1 s_ k_ n = some r) :
    Fn Try.prog 95 #[.pointer (some ⟨bs_, 0, none⟩), .int .i64 k_] hE fun v h' => ∃ (a0 : Option Addr) (c0 : Nat), ∃ (a1 : Option Addr) (c1 : Nat), ∃ (a2 : Option Addr) (c2 : Nat), v = .tuple #[.slice a0 r.1.length c0, .bool r.2.1] ∧ Hold h h' [box bs_ 96 [.slice as_a s_.a.length cs_a, .slice a1 r.2.2.last.length c1, .slice a2 r.2.2.lists.length c2], own cd23 a1 r.2.2.last.length c1 r.2.2.last, rowsQ cd2 23 a2 r.2.2.lists.length c2 r.2.2.lists [(a0, c0, r.1), (qas_lists0, qcs_lists0, qls_lists0)], it] := by
  unfold spec_l07At_BQ1 at hF
  refine Fn_enter (args := [.pointer (some ⟨bs_, 0, none⟩), .int .i64 k_]) Try.func95 rfl (by kernel_rfl) (by kernel_rfl) (fun w0 _ => ?_)
  refine Run_seq ?_
  refine Run_reg 2 (by kernel_rfl) (L' := [(0, .pointer (some ⟨bs_, 0, none⟩)), (1, .int .i64 k_)]) ?_ ?_
  · refine QRun_b [.slice none 0 0, .bool false] 0 _ (by kernel_rfl) (fun w => by kernel_rfl) ?_
    exact QRun_done [0, 1] (by kernel_rfl) (by kernel_rfl)
  refine Run_seq ?_
  obtain ⟨x1, gx1, hF⟩ := M.bind_some hF
  refine Run_join (fun L' h' => ∃ (s2 : (List (List Int)) × (List (List Int))) (a3 : Option Addr) (c3 : Nat) (a4 : Option Addr) (c4 : Nat), x1 = .inl s2 ∧ L' = [(0, .pointer (some ⟨bs_, 0, none⟩)), (1, .int .i64 k_)] ∧ Hold h h' [box bs_ 96 [.slice as_a s_.a.length cs_a, .slice a3 s2.1.length c3, .slice a4 s2.2.length c4], own cd23 a3 s2.1.length c3 s2.1, rowsQ cd2 23 a4 s2.2.length c4 s2.2 [(qas_lists0, qcs_lists0, qls_lists0)], it]) ?_ ?_
  · rintro _ h2 ⟨s2, a3, c3, a4, c4, es2, rfl, H2⟩
    have hF := M.cont_inl' hF es2
    refine Run_seq ?_
    obtain ⟨x5, hx4, hF⟩ := M.bind_some hF
    obtain ⟨hx4l, hx4u, hx4⟩ := M.idx_some hx4
    have H37 : Hold h h2 [rowsQ cd2 23 a4 s2.2.length c4 s2.2 [(qas_lists0, qcs_lists0, qls_lists0)], box bs_ 96 [.slice as_a s_.a.length cs_a, .slice a3 s2.1.length c3, .slice a4 s2.2.length c4], own cd23 a3 s2.1.length c3 s2.1, it] := H2.pick [2, 0, 1, 3] (by kernel_rfl)
    obtain ⟨a9, c8, hc1, H38⟩ := H37.peekRow hx4
    have H39 : Hold h h2 [box bs_ 96 [.slice as_a s_.a.length cs_a, .slice a3 s2.1.length c3, .slice a4 s2.2.length c4], own cd23 a3 s2.1.length c3 s2.1, rowsQ cd2 23 a4 s2.2.length c4 s2.2 [(a9, c8, x5), (qas_lists0, qcs_lists0, qls_lists0)], it] := H38.pick [1, 2, 0, 3] (by kernel_rfl)
    refine Run_reg 9 (by kernel_rfl) (L' := [(4, .slice a9 x5.length c8), (5, .bool true)]) ?_ ?_
    · refine QRun_b [.pointer (some ⟨bs_, 0, none⟩), .pointer (some ⟨bs_, 0, none⟩), .pointer (some ⟨bs_, 2, none⟩)] 0 _ (by kernel_rfl) (fun w => by kernel_rfl) ?_
      refine QRun_y (.slice a4 s2.2.length c4) (by kernel_rfl) (Y_load1 (t := 22) (p := ⟨bs_, 2, none⟩) (v := .slice a4 s2.2.length c4) (by kernel_rfl) (fun w => by kernel_rfl) (H2.cell 0 rfl rfl)) ?_
      refine QRun_b [.int .i64 k_] 4 _ (by kernel_rfl) (fun w => by kernel_rfl) ?_
      refine QRun_y (.pointer (some (adr a4 (k_.toNat * 1)))) (by kernel_rfl) (Y_idx (t := 22) (e := 23) (sz := 1) (a := a4) (n := s2.2.length) (cap := c4) (kk := .i64) (i := k_) (by kernel_rfl) Try.underlying22 (by kernel_rfl) ((H2.rdQ 2 rfl).cell hx4).1 hx4l hx4u) ?_
      refine QRun_y (.slice a9 x5.length c8) (by kernel_rfl) (Y_load1 (t := 23) (p := adr a4 (k_.toNat * 1)) (v := .slice a9 x5.length c8) (by kernel_rfl) (fun w => by kernel_rfl) hc1) ?_
      refine QRun_b [.slice a9 x5.length c8, .bool true] 7 _ (by kernel_rfl) (fun w => by kernel_rfl) ?_
      exact QRun_done [4, 5] (by kernel_rfl) (by kernel_rfl)
    have hF := M.ret_some hF
    subst hF
    have H40 : Hold h h2 [rowsQ cd2 23 a4 s2.2.length c4 s2.2 [(a9, c8, x5), (qas_lists0, qcs_lists0, qls_lists0)], box bs_ 96 [.slice as_a s_.a.length cs_a, .slice a3 s2.1.length c3, .slice a4 s2.2.length c4], own cd23 a3 s2.1.length c3 s2.1, it] := H39.pick [2, 0, 1, 3] (by kernel_rfl)
    have H41 : Hold h h2 [own cd23 a3 s2.1.length c3 s2.1, rowsQ cd2 23 a4 s2.2.length c4 s2.2 [(a9, c8, x5), (qas_lists0, qcs_lists0, qls_lists0)], box bs_ 96 [.slice as_a s_.a.length cs_a, .slice a3 s2.1.length c3, .slice a4 s2.2.length c4], it] := H40.pick [2, 0, 1, 3] (by kernel_rfl)
    have H42 : Hold h h2 [rowsQ cd2 23 a4 s2.2.length c4 s2.2 [(a9, c8, x5), (qas_lists0, qcs_lists0, qls_lists0)], own cd23 a3 s2.1.length c3 s2.1, box bs_ 96 [.slice as_a s_.a.length cs_a, .slice a3 s2.1.length c3, .slice a4 s2.2.length c4], it] := H41.pick [1, 0, 2, 3] (by kernel_rfl)
    have H43 : Hold h h2 [box bs_ 96 [.slice as_a s_.a.length cs_a, .slice a3 s2.1.length c3, .slice a4 s2.2.length c4], own cd23 a3 s2.1.length c3 s2.1, rowsQ cd2 23 a4 s2.2.length c4 s2.2 [(a9, c8, x5), (qas_lists0, qcs_lists0, qls_lists0)], it] := H42.pick [2, 1, 0, 3] (by kernel_rfl)
    exact Run_ret2 rfl (ResV_tmp (v := .slice a9 x5.length c8) (by kernel_rfl)) (ResV_tmp (v := .bool true) (by kernel_rfl)) ⟨a9, c8, a3, c3, a4, c4, rfl, H43⟩
  · refine Run_block ?_
    have H44 : Hold h hE [own cd23 as_last s_.last.length cs_last s_.last, box bs_ 96 [.slice as_a s_.a.length cs_a, .slice as_last s_.last.length cs_last, .slice as_lists s_.lists.length cs_lists], rowsQ cd2 23 as_lists s_.lists.length cs_lists s_.lists [(qas_lists0, qcs_lists0, qls_lists0)], it] := HM.pick [1, 0, 2, 3] (by kernel_rfl)
    have H45 : Hold h hE [rowsQ cd2 23 as_lists s_.lists.length cs_lists s_.lists [(qas_lists0, qcs_lists0, qls_lists0)], own cd23 as_last s_.last.length cs_last s_.last, box bs_ 96 [.slice as_a s_.a.length cs_a, .slice as_last s_.last.length cs_last, .slice as_lists s_.lists.length cs_lists], it] := H44.pick [2, 0, 1, 3] (by kernel_rfl)
    have H46 : Hold h hE [box bs_ 96 [.slice as_a s_.a.length cs_a, .slice as_last s_.last.length cs_last, .slice as_lists s_.lists.length cs_lists], own cd23 as_last s_.last.length cs_last s_.last, rowsQ cd2 23 as_lists s_.lists.length cs_lists s_.lists [(qas_lists0, qcs_lists0, qls_lists0)], it] := H45.pick [2, 1, 0, 3] (by kernel_rfl)
    refine Run_keep [0, 1] (L' := [(0, .pointer (some ⟨bs_, 0, none⟩)), (1, .int .i64 k_)]) (by kernel_rfl) ?_
    refine Run_loop (fun m L' h' => ∃ (s1 : (List (List Int)) × (List (List Int))) (a1 : Option Addr) (c1 : Nat) (a2 : Option Addr) (c2 : Nat), M.loopN _ n m s1 = some x1 ∧ L' = [(0, .pointer (some ⟨bs_, 0, none⟩)), (1, .int .i64 k_)] ∧ Hold h h' [box bs_ 96 [.slice as_a s_.a.length cs_a, .slice a1 s1.1.length c1, .slice a2 s1.2.length c2], own cd23 a1 s1.1.length c1 s1.1, rowsQ cd2 23 a2 s1.2.length c2 s1.2 [(qas_lists0, qcs_lists0, qls_lists0)], it]) n ⟨(s_.last, s_.lists), as_last, cs_last, as_lists, cs_lists, gx1, rfl, H46⟩ ?_
    rintro my1 _ h1 ⟨s1, a1, c1, a2, c2, gx1, rfl, H1⟩
    obtain ⟨my1, y1, rfl, hB1, hgoy1, houty1⟩ := M.loop_some gx1
    refine Run_seq ?_
    refine Run_seq ?_
    refine Run_reg 7 (by kernel_rfl) (L' := [(0, .pointer (some ⟨bs_, 0, none⟩)), (1, .int .i64 k_), (12, .bool (decide ((s1.2.length : Int) ≤ k_)))]) ?_ ?_
    · refine QRun_b [.pointer (some ⟨bs_, 0, none⟩), .pointer (some ⟨bs_, 0, none⟩), .pointer (some ⟨bs_, 2, none⟩)] 0 _ (by kernel_rfl) (fun w => by kernel_rfl) ?_
      refine QRun_y (.slice a2 s1.2.length c2) (by kernel_rfl) (Y_load1 (t := 22) (p := ⟨bs_, 2, none⟩) (v := .slice a2 s1.2.length c2) (by kernel_rfl) (fun w => by kernel_rfl) (H1.cell 0 rfl rfl)) ?_
      refine QRun_b [.int .i64 (s1.2.length : Int), .int .i64 k_, .bool (decide ((s1.2.length : Int) ≤ k_))] 4 _ (by kernel_rfl) (fun w => by kernel_rfl) ?_
      exact QRun_done [0, 1, 12] (by kernel_rfl) (by kernel_rfl)
    refine Run_cond (b := decide ((s1.2.length : Int) ≤ k_)) (by kernel_rfl) (fun hb1 => ?_) (fun hb1 => ?_)
    · have hB1 := (M.ite_some hB1).1 hb1
      refine Run_skip ?_
      refine Run_block ?_
      refine Run_seq ?_
      refine Run_D (fun x => Hold h x [box bs_ 96 [.slice as_a s_.a.length cs_a, .slice a1 s1.1.length c1, .slice a2 s1.2.length c2], own cd23 a1 s1.1.length c1 s1.1, rowsQ cd2 23 a2 s1.2.length c2 s1.2 [(qas_lists0, qcs_lists0, qls_lists0)], it]) (fun x => Hold h x [box bs_ 96 [.slice as_a s_.a.length cs_a, .slice a1 s1.1.length c1, .slice a2 s1.2.length c2], own cd23 a1 s1.1.length c1 s1.1, rowsQ cd2 23 a2 s1.2.length c2 s1.2 [(qas_lists0, qcs_lists0, qls_lists0)], it]) mixed (by kernel_rfl) H1 Hold.stable (fun x Hy => (show Hold h x [box bs_ 96 [.slice as_a s_.a.length cs_a, .slice a1 s1.1.length c1, .slice a2 s1.2.length c2], own cd23 a1 s1.1.length c1 s1.1, rowsQ cd2 23 a2 s1.2.length c2 s1.2 [(qas_lists0, qcs_lists0, qls_lists0)], it] from Hy).pick [0, 1, 2, 3] (by kernel_rfl)) ?_
      refine DR_b 9 [.pointer (some ⟨bs_, 0, none⟩), .pointer (some ⟨bs_, 0, none⟩), .pointer (some ⟨bs_, 0, none⟩), .pointer (some ⟨bs_, 0, none⟩)] 0 (by kernel_rfl) (by kernel_rfl) (by kernel_rfl) (fun w => by kernel_rfl) ?_
      refine DR_y 8 (i := 4) (.slice as_a s_.a.length cs_a) (by kernel_rfl) (by kernel_rfl) (by kernel_rfl) (fun hx Hx => (YE.of (Y_load1 (t := 22) (p := ⟨bs_, 0, none⟩) (v := .slice as_a s_.a.length cs_a) (by kernel_rfl) (fun w => by kernel_rfl) (Hx.cell 0 rfl rfl)))) ?_
      refine DR_b 5 [.pointer (some ⟨bs_, 0, none⟩), .pointer (some ⟨bs_, 0, none⟩), .pointer (some ⟨bs_, 1, none⟩)] 5 (by kernel_rfl) (by kernel_rfl) (by kernel_rfl) (fun w => by kernel_rfl) ?_
      refine DR_y 4 (i := 8) (.slice a1 s1.1.length c1) (by kernel_rfl) (by kernel_rfl) (by kernel_rfl) (fun hx Hx => (YE.of (Y_load1 (t := 22) (p := ⟨bs_, 1, none⟩) (v := .slice a1 s1.1.length c1) (by kernel_rfl) (fun w => by kernel_rfl) (Hx.cell 0 rfl rfl)))) ?_
      refine DR_e 3 9 (by kernel_rfl) (by kernel_rfl) (by kernel_rfl) (fun h3 H3 => ?_)
      have H4 : Hold h h3 [box bs_ 96 [.slice as_a s_.a.length cs_a, .slice a1 s1.1.length c1, .slice a2 s1.2.length c2], own cd23 a1 s1.1.length c1 s1.1, rowsQ cd2 23 a2 s1.2.length c2 s1.2 [(qas_lists0, qcs_lists0, qls_lists0)], it] := H3
      obtain ⟨x2, hx1, hB1⟩ := M.bind_some hB1
      refine E_call (f := 143) (args := #[.slice as_a s_.a.length cs_a, .slice a1 s1.1.length c1]) (w_spec_l02Multiply h3 s_.a as_a cs_a (rs_a.at H4.ext) s1.1 a1 c1 (H4.rd 1 rfl) _ _ hx1) (by kernel_rfl) (fun v1 h4 hp1 => ?_)
      obtain ⟨a5, c5, rfl, H5⟩ := hp1
      have H6 : Hold h h4 [own cd23 a5 x2.length c5 x2, box bs_ 96 [.slice as_a s_.a.length cs_a, .slice a1 s1.1.length c1, .slice a2 s1.2.length c2], own cd23 a1 s1.1.length c1 s1.1, rowsQ cd2 23 a2 s1.2.length c2 s1.2 [(qas_lists0, qcs_lists0, qls_lists0)], it] := H4.call H5 rfl
      refine ⟨fun x => Hold h x [box bs_ 96 [.slice as_a s_.a.length cs_a, .slice a1 s1.1.length c1, .slice a2 s1.2.length c2], own cd23 a1 s1.1.length c1 s1.1, rowsQ cd2 23 a2 s1.2.length c2 s1.2 [(qas_lists0, qcs_lists0, qls_lists0)], it, own cd23 a5 x2.length c5 x2], fun x => Hold h x [own cd23 a5 x2.length c5 x2, box bs_ 96 [.slice as_a s_.a.length cs_a, .slice a1 s1.1.length c1, .slice a2 s1.2.length c2], own cd23 a1 s1.1.length c1 s1.1, rowsQ cd2 23 a2 s1.2.length c2 s1.2 [(qas_lists0, qcs_lists0, qls_lists0)], it], H6, Hold.stable, fun x Hy => (show Hold h x [own cd23 a5 x2.length c5 x2, box bs_ 96 [.slice as_a s_.a.length cs_a, .slice a1 s1.1.length c1, .slice a2 s1.2.length c2], own cd23 a1 s1.1.length c1 s1.1, rowsQ cd2 23 a2 s1.2.length c2 s1.2 [(qas_lists0, qcs_lists0, qls_lists0)], it] from Hy).pick [1, 2, 3, 4, 0] (by kernel_rfl), fun x Hy => (show Hold h x [box bs_ 96 [.slice as_a s_.a.length cs_a, .slice a1 s1.1.length c1, .slice a2 s1.2.length c2], own cd23 a1 s1.1.length c1 s1.1, rowsQ cd2 23 a2 s1.2.length c2 s1.2 [(qas_lists0, qcs_lists0, qls_lists0)], it, own cd23 a5 x2.length c5 x2] from Hy).pick [0, 1, 2, 3] (by kernel_rfl), ?_⟩
      refine DR_b 1 [.pointer (some ⟨bs_, 0, none⟩), .pointer (some ⟨bs_, 1, none⟩)] 10 (by kernel_rfl) (by kernel_rfl) (by kernel_rfl) (fun w => by kernel_rfl) ?_
      refine DR_tail (i := 12) (by kernel_rfl) (by kernel_rfl) (by kernel_rfl) (fun h5 H7 => ?_)
      have H8 : Hold h h5 [own cd23 a5 x2.length c5 x2, box bs_ 96 [.slice as_a s_.a.length cs_a, .slice a1 s1.1.length c1, .slice a2 s1.2.length c2], own cd23 a1 s1.1.length c1 s1.1, rowsQ cd2 23 a2 s1.2.length c2 s1.2 [(qas_lists0, qcs_lists0, qls_lists0)], it] := H7
      have H10 : Hold h h5 [box bs_ 96 [.slice as_a s_.a.length cs_a, .slice a1 s1.1.length c1, .slice a2 s1.2.length c2], own cd23 a5 x2.length c5 x2, own cd23 a1 s1.1.length c1 s1.1, rowsQ cd2 23 a2 s1.2.length c2 s1.2 [(qas_lists0, qcs_lists0, qls_lists0)], it] := H8.pick [1, 0, 2, 3, 4] (by kernel_rfl)
      refine Run_E (by kernel_rfl) ?_
      refine E_bput (t := 22) (off := 1) (us := [.slice as_a s_.a.length cs_a, .slice a5 x2.length c5, .slice a2 s1.2.length c2]) (v := .slice a5 x2.length c5) H10 (by kernel_rfl) (by kernel_rfl) rfl (by kernel_rfl) rfl (fun h6 H9 => ?_)
      refine Run_nil (by kernel_rfl) ?_
      refine Run_keep [0, 1] (L' := [(0, .pointer (some ⟨bs_, 0, none⟩)), (1, .int .i64 k_)]) (by kernel_rfl) ?_
      refine Run_seq ?_
      refine Run_seq ?_
      obtain ⟨x3, hx2, hB1⟩ := M.bind_some hB1
      refine Run_reg 6 (by kernel_rfl) (L' := [(0, .pointer (some ⟨bs_, 0, none⟩)), (1, .int .i64 k_), (30, .bool (!x3))]) ?_ ?_
      · refine QRun_b [.pointer (some ⟨bs_, 0, none⟩), .pointer (some ⟨bs_, 0, none⟩), .pointer (some ⟨bs_, 1, none⟩)] 0 _ (by kernel_rfl) (fun w => by kernel_rfl) ?_
        refine QRun_y (.slice a5 x2.length c5) (by kernel_rfl) (Y_load1 (t := 22) (p := ⟨bs_, 1, none⟩) (v := .slice a5 x2.length c5) (by kernel_rfl) (fun w => by kernel_rfl) (H9.cell 0 rfl rfl)) ?_
        refine QRun_y (.bool x3) (by kernel_rfl) (Y_callq (f := 131) (args := #[.slice a5 x2.length c5]) (v := .bool x3) (by kernel_rfl) (w_spec_IsMatrix h6 x2 a5 c5 (H9.rd 1 rfl) _ _ hx2)) ?_
        refine QRun_b [.bool (!x3)] 5 _ (by kernel_rfl) (fun w => by kernel_rfl) ?_
        exact QRun_done [0, 1, 30] (by kernel_rfl) (by kernel_rfl)
      refine Run_cond (b := !x3) (by kernel_rfl) (fun hb2 => ?_) (fun hb2 => ?_)
      · have hB1 := (M.ite_some hB1).1 hb2
        refine Run_seq ?_
        refine Run_reg 2 (by kernel_rfl) (L' := [(4, .slice none 0 0), (5, .bool false)]) ?_ ?_
        · refine QRun_b [.slice none 0 0, .bool false] 0 _ (by kernel_rfl) (fun w => by kernel_rfl) ?_
          exact QRun_done [4, 5] (by kernel_rfl) (by kernel_rfl)
        have hB1 := M.ret_some hB1
        have gx1 := houty1 _ hB1.symm
        have hF := M.cont_inr' hF gx1
        have hF := M.ret_some hF
        subst hF
        have H11 : Hold h h6 [rowsQ cd2 23 a2 s1.2.length c2 s1.2 [(qas_lists0, qcs_lists0, qls_lists0)], box bs_ 96 [.slice as_a s_.a.length cs_a, .slice a5 x2.length c5, .slice a2 s1.2.length c2], own cd23 a5 x2.length c5 x2, own cd23 a1 s1.1.length c1 s1.1, it] := H9.pick [3, 0, 1, 2, 4] (by kernel_rfl)
        have H12 := H11.nilPeek
        have H13 : Hold h h6 [own cd23 a5 x2.length c5 x2, rowsQ cd2 23 a2 s1.2.length c2 s1.2 [(none, 0, []), (qas_lists0, qcs_lists0, qls_lists0)], box bs_ 96 [.slice as_a s_.a.length cs_a, .slice a5 x2.length c5, .slice a2 s1.2.length c2], own cd23 a1 s1.1.length c1 s1.1, it] := H12.pick [2, 0, 1, 3, 4] (by kernel_rfl)
        have H14 : Hold h h6 [rowsQ cd2 23 a2 s1.2.length c2 s1.2 [(none, 0, []), (qas_lists0, qcs_lists0, qls_lists0)], own cd23 a5 x2.length c5 x2, box bs_ 96 [.slice as_a s_.a.length cs_a, .slice a5 x2.length c5, .slice a2 s1.2.length c2], own cd23 a1 s1.1.length c1 s1.1, it] := H13.pick [1, 0, 2, 3, 4] (by kernel_rfl)
        have H15 : Hold h h6 [box bs_ 96 [.slice as_a s_.a.length cs_a, .slice a5 x2.length c5, .slice a2 s1.2.length c2], own cd23 a5 x2.length c5 x2, rowsQ cd2 23 a2 s1.2.length c2 s1.2 [(none, 0, []), (qas_lists0, qcs_lists0, qls_lists0)], it] := H14.pick [2, 1, 0, 4] (by kernel_rfl)
        exact Run_ret2 rfl (ResV_tmp (v := .slice none 0 0) (by kernel_rfl)) (ResV_tmp (v := .bool false) (by kernel_rfl)) ⟨none, 0, a5, c5, a2, c2, rfl, H15⟩
      · have hB1 := (M.ite_some hB1).2 hb2
        refine Run_skip ?_
        refine Run_D (fun x => Hold h x [box bs_ 96 [.slice as_a s_.a.length cs_a, .slice a5 x2.length c5, .slice a2 s1.2.length c2], own cd23 a5 x2.length c5 x2, own cd23 a1 s1.1.length c1 s1.1, it]) (fun x => Hold h x [box bs_ 96 [.slice as_a s_.a.length cs_a, .slice a5 x2.length c5, .slice a2 s1.2.length c2], own cd23 a5 x2.length c5 x2, own cd23 a1 s1.1.length c1 s1.1, rowsQ cd2 23 a2 s1.2.length c2 s1.2 [(qas_lists0, qcs_lists0, qls_lists0)], it]) mixed (by kernel_rfl) H9 Hold.stable (fun x Hy => (show Hold h x [box bs_ 96 [.slice as_a s_.a.length cs_a, .slice a5 x2.length c5, .slice a2 s1.2.length c2], own cd23 a5 x2.length c5 x2, own cd23 a1 s1.1.length c1 s1.1, rowsQ cd2 23 a2 s1.2.length c2 s1.2 [(qas_lists0, qcs_lists0, qls_lists0)], it] from Hy).pick [0, 1, 2, 4] (by kernel_rfl)) ?_
        refine DR_b 11 [.pointer (some ⟨bs_, 0, none⟩), .pointer (some ⟨bs_, 0, none⟩), .pointer (some ⟨bs_, 0, none⟩), .pointer (some ⟨bs_, 2, none⟩)] 0 (by kernel_rfl) (by kernel_rfl) (by kernel_rfl) (fun w => by kernel_rfl) ?_
        refine DR_y 10 (i := 4) (.slice a2 s1.2.length c2) (by kernel_rfl) (by kernel_rfl) (by kernel_rfl) (fun hx Hx => (YE.of (Y_load1 (t := 22) (p := ⟨bs_, 2, none⟩) (v := .slice a2 s1.2.length c2) (by kernel_rfl) (fun w => by kernel_rfl) (Hx.cell 0 rfl rfl)))) ?_
        refine DR_b 7 [.pointer (some ⟨bs_, 0, none⟩), .pointer (some ⟨bs_, 0, none⟩), .pointer (some ⟨bs_, 1, none⟩)] 5 (by kernel_rfl) (by kernel_rfl) (by kernel_rfl) (fun w => by kernel_rfl) ?_
        refine DR_y 6 (i := 8) (.slice a5 x2.length c5) (by kernel_rfl) (by kernel_rfl) (by kernel_rfl) (fun hx Hx => (YE.of (Y_load1 (t := 22) (p := ⟨bs_, 1, none⟩) (v := .slice a5 x2.length c5) (by kernel_rfl) (fun w => by kernel_rfl) (Hx.cell 0 rfl rfl)))) ?_
        refine DR_e 5 9 (by kernel_rfl) (by kernel_rfl) (by kernel_rfl) (fun h7 H16 => ?_)
        have H17 : Hold h h7 [box bs_ 96 [.slice as_a s_.a.length cs_a, .slice a5 x2.length c5, .slice a2 s1.2.length c2], own cd23 a5 x2.length c5 x2, own cd23 a1 s1.1.length c1 s1.1, rowsQ cd2 23 a2 s1.2.length c2 s1.2 [(qas_lists0, qcs_lists0, qls_lists0)], it] := H16
        obtain ⟨x4, hx3, hB1⟩ := M.bind_some hB1
        refine E_call (f := 132) (args := #[.slice a5 x2.length c5]) (w_spec_l07Flat h7 x2 a5 c5 (H17.rd 1 rfl) _ _ hx3) (by kernel_rfl) (fun v2 h8 hp2 => ?_)
        obtain ⟨a6, c6, rfl, H18⟩ := hp2
        have H19 : Hold h h8 [own cd2 a6 x4.length c6 x4, box bs_ 96 [.slice as_a s_.a.length cs_a, .slice a5 x2.length c5, .slice a2 s1.2.length c2], own cd23 a5 x2.length c5 x2, own cd23 a1 s1.1.length c1 s1.1, rowsQ cd2 23 a2 s1.2.length c2 s1.2 [(qas_lists0, qcs_lists0, qls_lists0)], it] := H17.call H18 rfl
        refine ⟨fun x => Hold h x [box bs_ 96 [.slice as_a s_.a.length cs_a, .slice a5 x2.length c5, .slice a2 s1.2.length c2], own cd23 a5 x2.length c5 x2, own cd23 a1 s1.1.length c1 s1.1, it], fun x => Hold h x [own cd2 a6 x4.length c6 x4, box bs_ 96 [.slice as_a s_.a.length cs_a, .slice a5 x2.length c5, .slice a2 s1.2.length c2], own cd23 a5 x2.length c5 x2, own cd23 a1 s1.1.length c1 s1.1, rowsQ cd2 23 a2 s1.2.length c2 s1.2 [(qas_lists0, qcs_lists0, qls_lists0)], it], H19, Hold.stable, fun x Hy => (show Hold h x [own cd2 a6 x4.length c6 x4, box bs_ 96 [.slice as_a s_.a.length cs_a, .slice a5 x2.length c5, .slice a2 s1.2.length c2], own cd23 a5 x2.length c5 x2, own cd23 a1 s1.1.length c1 s1.1, rowsQ cd2 23 a2 s1.2.length c2 s1.2 [(qas_lists0, qcs_lists0, qls_lists0)], it] from Hy).pick [1, 2, 3, 5] (by kernel_rfl), fun x Hy => (show Hold h x [box bs_ 96 [.slice as_a s_.a.length cs_a, .slice a5 x2.length c5, .slice a2 s1.2.length c2], own cd23 a5 x2.length c5 x2, own cd23 a1 s1.1.length c1 s1.1, it] from Hy).pick [0, 1, 2, 3] (by kernel_rfl), ?_⟩
        refine DR_e 4 10 (by kernel_rfl) (by kernel_rfl) (by kernel_rfl) (fun h9 H20 => ?_)
        have H21 : Hold h h9 [own cd2 a6 x4.length c6 x4, box bs_ 96 [.slice as_a s_.a.length cs_a, .slice a5 x2.length c5, .slice a2 s1.2.length c2], own cd23 a5 x2.length c5 x2, own cd23 a1 s1.1.length c1 s1.1, rowsQ cd2 23 a2 s1.2.length c2 s1.2 [(qas_lists0, qcs_lists0, qls_lists0)], it] := H20
        refine E_lit1 (ey := 23) (n := x4.length) H21 (fun w => by kernel_rfl) rfl (fun a7 h10 H22 => ?_)
        refine ⟨fun x => Hold h x [box bs_ 96 [.slice as_a s_.a.length cs_a, .slice a5 x2.length c5, .slice a2 s1.2.length c2], own cd23 a5 x2.length c5 x2, own cd23 a1 s1.1.length c1 s1.1, it], fun x => Hold h x [own cd23 a7 1 1 [x4], box bs_ 96 [.slice as_a s_.a.length cs_a, .slice a5 x2.length c5, .slice a2 s1.2.length c2], own cd23 a5 x2.length c5 x2, own cd23 a1 s1.1.length c1 s1.1, rowsQ cd2 23 a2 s1.2.length c2 s1.2 [(qas_lists0, qcs_lists0, qls_lists0)], it], H22, Hold.stable, fun x Hy => (show Hold h x [own cd23 a7 1 1 [x4], box bs_ 96 [.slice as_a s_.a.length cs_a, .slice a5 x2.length c5, .slice a2 s1.2.length c2], own cd23 a5 x2.length c5 x2, own cd23 a1 s1.1.length c1 s1.1, rowsQ cd2 23 a2 s1.2.length c2 s1.2 [(qas_lists0, qcs_lists0, qls_lists0)], it] from Hy).pick [1, 2, 3, 5] (by kernel_rfl), fun x Hy => (show Hold h x [box bs_ 96 [.slice as_a s_.a.length cs_a, .slice a5 x2.length c5, .slice a2 s1.2.length c2], own cd23 a5 x2.length c5 x2, own cd23 a1 s1.1.length c1 s1.1, it] from Hy).pick [0, 1, 2, 3] (by kernel_rfl), ?_⟩
        refine DR_e 3 11 (by kernel_rfl) (by kernel_rfl) (by kernel_rfl) (fun h11 H23 => ?_)
        have H24 : Hold h h11 [own cd23 a7 1 1 [x4], box bs_ 96 [.slice as_a s_.a.length cs_a, .slice a5 x2.length c5, .slice a2 s1.2.length c2], own cd23 a5 x2.length c5 x2, own cd23 a1 s1.1.length c1 s1.1, rowsQ cd2 23 a2 s1.2.length c2 s1.2 [(qas_lists0, qcs_lists0, qls_lists0)], it] := H23
        obtain ⟨l1, hl1, hB1⟩ := M.bind_some hB1
        have hl1 := M.app_some hl1
        have H25 : Hold h h11 [rowsQ cd2 23 a2 s1.2.length c2 s1.2 [(qas_lists0, qcs_lists0, qls_lists0)], own cd23 a7 1 1 [x4], box bs_ 96 [.slice as_a s_.a.length cs_a, .slice a5 x2.length c5, .slice a2 s1.2.length c2], own cd23 a5 x2.length c5 x2, own cd23 a1 s1.1.length c1 s1.1, it] := H24.pick [4, 0, 1, 2, 3, 5] (by kernel_rfl)
        refine E_appQ (C := cd2) (t := 22) (ty := 22) (tr := 23) (n := s1.2.length) (m := 1) H25 cd23_ti rfl Try.underlying22 (by decide) (by kernel_rfl) hl1 (fun a8 c7 h12 H26 => ?_)
        refine ⟨fun x => Hold h x [box bs_ 96 [.slice as_a s_.a.length cs_a, .slice a5 x2.length c5, .slice a2 s1.2.length c2], own cd23 a5 x2.length c5 x2, own cd23 a1 s1.1.length c1 s1.1, it, rowsQ cd2 23 a8 l1.length c7 l1 [(qas_lists0, qcs_lists0, qls_lists0)]], fun x => Hold h x [rowsQ cd2 23 a8 l1.length c7 l1 [(qas_lists0, qcs_lists0, qls_lists0)], box bs_ 96 [.slice as_a s_.a.length cs_a, .slice a5 x2.length c5, .slice a2 s1.2.length c2], own cd23 a5 x2.length c5 x2, own cd23 a1 s1.1.length c1 s1.1, it], H26, Hold.stable, fun x Hy => (show Hold h x [rowsQ cd2 23 a8 l1.length c7 l1 [(qas_lists0, qcs_lists0, qls_lists0)], box bs_ 96 [.slice as_a s_.a.length cs_a, .slice a5 x2.length c5, .slice a2 s1.2.length c2], own cd23 a5 x2.length c5 x2, own cd23 a1 s1.1.length c1 s1.1, it] from Hy).pick [1, 2, 3, 4, 0] (by kernel_rfl), fun x Hy => (show Hold h x [box bs_ 96 [.slice as_a s_.a.length cs_a, .slice a5 x2.length c5, .slice a2 s1.2.length c2], own cd23 a5 x2.length c5 x2, own cd23 a1 s1.1.length c1 s1.1, it, rowsQ cd2 23 a8 l1.length c7 l1 [(qas_lists0, qcs_lists0, qls_lists0)]] from Hy).pick [0, 1, 2, 3] (by kernel_rfl), ?_⟩
        refine DR_b 1 [.pointer (some ⟨bs_, 0, none⟩), .pointer (some ⟨bs_, 2, none⟩)] 12 (by kernel_rfl) (by kernel_rfl) (by kernel_rfl) (fun w => by kernel_rfl) ?_
        refine DR_tail (i := 14) (by kernel_rfl) (by kernel_rfl) (by kernel_rfl) (fun h13 H27 => ?_)
        have H28 : Hold h h13 [rowsQ cd2 23 a8 l1.length c7 l1 [(qas_lists0, qcs_lists0, qls_lists0)], box bs_ 96 [.slice as_a s_.a.length cs_a, .slice a5 x2.length c5, .slice a2 s1.2.length c2], own cd23 a5 x2.length c5 x2, own cd23 a1 s1.1.length c1 s1.1, it] := H27
        have H30 : Hold h h13 [box bs_ 96 [.slice as_a s_.a.length cs_a, .slice a5 x2.length c5, .slice a2 s1.2.length c2], rowsQ cd2 23 a8 l1.length c7 l1 [(qas_lists0, qcs_lists0, qls_lists0)], own cd23 a5 x2.length c5 x2, own cd23 a1 s1.1.length c1 s1.1, it] := H28.pick [1, 0, 2, 3, 4] (by kernel_rfl)
        refine Run_E (by kernel_rfl) ?_
        refine E_bput (t := 22) (off := 2) (us := [.slice as_a s_.a.length cs_a, .slice a5 x2.length c5, .slice a8 l1.length c7]) (v := .slice a8 l1.length c7) H30 (by kernel_rfl) (by kernel_rfl) rfl (by kernel_rfl) rfl (fun h14 H29 => ?_)
        refine Run_nil (by kernel_rfl) ?_
        refine Run_keep [0, 1] (L' := [(0, .pointer (some ⟨bs_, 0, none⟩)), (1, .int .i64 k_)]) (by kernel_rfl) ?_
        refine Run_blk ?_
        have H31 : Hold h h14 [own cd23 a5 x2.length c5 x2, box bs_ 96 [.slice as_a s_.a.length cs_a, .slice a5 x2.length c5, .slice a8 l1.length c7], rowsQ cd2 23 a8 l1.length c7 l1 [(qas_lists0, qcs_lists0, qls_lists0)], own cd23 a1 s1.1.length c1 s1.1, it] := H29.pick [2, 0, 1, 3, 4] (by kernel_rfl)
        have H32 : Hold h h14 [rowsQ cd2 23 a8 l1.length c7 l1 [(qas_lists0, qcs_lists0, qls_lists0)], own cd23 a5 x2.length c5 x2, box bs_ 96 [.slice as_a s_.a.length cs_a, .slice a5 x2.length c5, .slice a8 l1.length c7], own cd23 a1 s1.1.length c1 s1.1, it] := H31.pick [2, 0, 1, 3, 4] (by kernel_rfl)
        have H33 : Hold h h14 [box bs_ 96 [.slice as_a s_.a.length cs_a, .slice a5 x2.length c5, .slice a8 l1.length c7], own cd23 a5 x2.length c5 x2, rowsQ cd2 23 a8 l1.length c7 l1 [(qas_lists0, qcs_lists0, qls_lists0)], it] := H32.pick [2, 1, 0, 4] (by kernel_rfl)
        have hB1 := M.ret_some hB1
        have gx1 := hgoy1 _ hB1.symm
        exact Run_again [0, 1] (by kernel_rfl) my1 (Nat.lt_succ_self _) ⟨(x2, l1), a5, c5, a8, c7, gx1, rfl, H33⟩
    · have hB1 := (M.ite_some hB1).2 hb1
      refine Run_exit (k' := _) rfl ?_
      have H34 : Hold h h1 [own cd23 a1 s1.1.length c1 s1.1, box bs_ 96 [.slice as_a s_.a.length cs_a, .slice a1 s1.1.length c1, .slice a2 s1.2.length c2], rowsQ cd2 23 a2 s1.2.length c2 s1.2 [(qas_lists0, qcs_lists0, qls_lists0)], it] := H1.pick [1, 0, 2, 3] (by kernel_rfl)
      have H35 : Hold h h1 [rowsQ cd2 23 a2 s1.2.length c2 s1.2 [(qas_lists0, qcs_lists0, qls_lists0)], own cd23 a1 s1.1.length c1 s1.1, box bs_ 96 [.slice as_a s_.a.length cs_a, .slice a1 s1.1.length c1, .slice a2 s1.2.length c2], it] := H34.pick [2, 0, 1, 3] (by kernel_rfl)
      have H36 : Hold h h1 [box bs_ 96 [.slice as_a s_.a.length cs_a, .slice a1 s1.1.length c1, .slice a2 s1.2.length c2], own cd23 a1 s1.1.length c1 s1.1, rowsQ cd2 23 a2 s1.2.length c2 s1.2 [(qas_lists0, qcs_lists0, qls_lists0)], it] := H35.pick [2, 1, 0, 3] (by kernel_rfl)
      have hB1 := M.ret_some hB1
      have gx1 := houty1 _ hB1.symm
      subst gx1
      exact Run_fall [0, 1] (by kernel_rfl) ⟨(s1.1, s1.2), a1, c1, a2, c2, rfl, rfl, H36⟩

set_option maxRecDepth 100000 in
set_option maxHeartbeats 4000000 in
theorem w_spec_l07Find_B (h hE : Heap) (it : Item) (s_ : TL07series) (bs_ : Nat) (as_a : Option Addr) (cs_a : Nat) (rs_a : Rd cd23 h (Lt h) as_a cs_a s_.a) (as_last : Option Addr) (cs_last : Nat) (as_lists : Option Addr) (cs_lists : Nat) (HM : Hold h hE [box bs_ 96 [.slice as_a s_.a.length cs_a, .slice as_last s_.last.length cs_last, .slice as_lists s_.lists.length cs_lists], own cd23 as_last s_.last.length cs_last s_.last, own cd23 as_lists s_.lists.length cs_lists s_.lists, it]) (n : Nat) (r : Int × Int × Int × Int × TL07series) (hF : spec_l07Find_B s_ n = some r) :
    Fn Try.prog 79 #[.pointer (some ⟨bs_, 0, none⟩)] hE fun v h' => ∃ (a0 : Option Addr) (c0 : Nat), ∃ (a1 : Option Addr) (c1 : Nat), v = .tuple #[.int .i64 r.1, .int .i64 r.2.1, .int .i64 r.2.2.1, .int .i64 r.2.2.2.1] ∧ Hold h h' [box bs_ 96 [.slice as_a s_.a.length cs_a, .slice a0 r.2.2.2.2.last.length c0, .slice a1 r.2.2.2.2.lists.length c1], own cd23 a0 r.2.2.2.2.last.length c0 r.2.2.2.2.last, own cd23 a1 r.2.2.2.2.lists.length c1 r.2.2.2.2.lists, it] := by
  unfold spec_l07Find_B at hF
  refine Fn_enter (args := [.pointer (some ⟨bs_, 0, none⟩)]) Try.func79 rfl (by kernel_rfl) (by kernel_rfl) (fun w0 _ => ?_)
  refine Run_seq ?_
  refine Run_reg 4 (by kernel_rfl) (L' := [(0, .pointer (some ⟨bs_, 0, none⟩))]) ?_ ?_
  · refine QRun_b [.int .i64 0, .int .i64 0, .int .i64 0, .int .i64 0] 0 _ (by kernel_rfl) (fun w => by kernel_rfl) ?_
    exact QRun_done [0] (by kernel_rfl) (by kernel_rfl)
  refine Run_seq ?_
  refine Run_seq ?_
  refine Run_reg 1 (by kernel_rfl) (L' := [(0, .pointer (some ⟨bs_, 0, none⟩)), (6, .int .i64 0)]) ?_ ?_
  · refine QRun_b [.int .i64 0] 0 _ (by kernel_rfl) (fun w => by kernel_rfl) ?_
    exact QRun_done [0, 6] (by kernel_rfl) (by kernel_rfl)
  obtain ⟨x1, gx1, hF⟩ := M.bind_some hF
  obtain ⟨hloy1, hhiy1, gx1⟩ := M.for_start gx1
  refine Run_join (fun L' h' => ∃ (s2 : (List (List Int)) × (List (List Int))) (a3 : Option Addr) (c3 : Nat) (a4 : Option Addr) (c4 : Nat), x1 = .inl s2 ∧ L' = [] ∧ Hold h h' [box bs_ 96 [.slice as_a s_.a.length cs_a, .slice a3 s2.1.length c3, .slice a4 s2.2.length c4], own cd23 a3 s2.1.length c3 s2.1, own cd23 a4 s2.2.length c4 s2.2, it]) ?_ ?_
  · rintro _ h2 ⟨s2, a3, c3, a4, c4, es2, rfl, H2⟩
    have hF := M.cont_inl' hF es2
    refine Run_seq ?_
    refine Run_reg 4 (by kernel_rfl) (L' := [(2, .int .i64 0), (3, .int .i64 0), (4, .int .i64 0), (5, .int .i64 4)]) ?_ ?_
    · refine QRun_b [.int .i64 0, .int .i64 0, .int .i64 0, .int .i64 4] 0 _ (by kernel_rfl) (fun w => by kernel_rfl) ?_
      exact QRun_done [2, 3, 4, 5] (by kernel_rfl) (by kernel_rfl)
    have hF := M.ret_some hF
    subst hF
    have H45 : Hold h h2 [own cd23 a3 s2.1.length c3 s2.1, box bs_ 96 [.slice as_a s_.a.length cs_a, .slice a3 s2.1.length c3, .slice a4 s2.2.length c4], own cd23 a4 s2.2.length c4 s2.2, it] := H2.pick [1, 0, 2, 3] (by kernel_rfl)
    have H46 : Hold h h2 [own cd23 a4 s2.2.length c4 s2.2, own cd23 a3 s2.1.length c3 s2.1, box bs_ 96 [.slice as_a s_.a.length cs_a, .slice a3 s2.1.length c3, .slice a4 s2.2.length c4], it] := H45.pick [2, 0, 1, 3] (by kernel_rfl)
    have H47 : Hold h h2 [box bs_ 96 [.slice as_a s_.a.length cs_a, .slice a3 s2.1.length c3, .slice a4 s2.2.length c4], own cd23 a3 s2.1.length c3 s2.1, own cd23 a4 s2.2.length c4 s2.2, it] := H46.pick [2, 1, 0, 3] (by kernel_rfl)
    exact Run_ret4 rfl (ResV_tmp (v := .int .i64 0) (by kernel_rfl)) (ResV_tmp (v := .int .i64 0) (by kernel_rfl)) (ResV_tmp (v := .int .i64 0) (by kernel_rfl)) (ResV_tmp (v := .int .i64 4) (by kernel_rfl)) ⟨a3, c3, a4, c4, rfl, H47⟩
  · refine Run_block ?_
    have H48 : Hold h hE [own cd23 as_last s_.last.length cs_last s_.last, box bs_ 96 [.slice as_a s_.a.length cs_a, .slice as_last s_.last.length cs_last, .slice as_lists s_.lists.length cs_lists], own cd23 as_lists s_.lists.length cs_lists s_.lists, it] := HM.pick [1, 0, 2, 3] (by kernel_rfl)
    have H49 : Hold h hE [own cd23 as_lists s_.lists.length cs_lists s_.lists, own cd23 as_last s_.last.length cs_last s_.last, box bs_ 96 [.slice as_a s_.a.length cs_a, .slice as_last s_.last.length cs_last, .slice as_lists s_.lists.length cs_lists], it] := H48.pick [2, 0, 1, 3] (by kernel_rfl)
    have H50 : Hold h hE [box bs_ 96 [.slice as_a s_.a.length cs_a, .slice as_last s_.last.length cs_last, .slice as_lists s_.lists.length cs_lists], own cd23 as_last s_.last.length cs_last s_.last, own cd23 as_lists s_.lists.length cs_lists s_.lists, it] := H49.pick [2, 1, 0, 3] (by kernel_rfl)
    refine Run_keep [0, 6] (L' := [(0, .pointer (some ⟨bs_, 0, none⟩)), (6, .int .i64 0)]) (by kernel_rfl) ?_
    refine Run_loop (fun m L' h' => ∃ (i1 : Int) (s1 : (List (List Int)) × (List (List Int))) (a1 : Option Addr) (c1 : Nat) (a2 : Option Addr) (c2 : Nat), 0 ≤ i1 ∧ M.forN 100 _ _ n m i1 s1 = some x1 ∧ L' = [(0, .pointer (some ⟨bs_, 0, none⟩)), (6, .int .i64 i1)] ∧ Hold h h' [box bs_ 96 [.slice as_a s_.a.length cs_a, .slice a1 s1.1.length c1, .slice a2 s1.2.length c2], own cd23 a1 s1.1.length c1 s1.1, own cd23 a2 s1.2.length c2 s1.2, it]) (100 - 0 : Int).toNat ⟨0, (s_.last, s_.lists), as_last, cs_last, as_lists, cs_lists, Int.le_refl _, gx1, rfl, H50⟩ ?_
    rintro my1 _ h1 ⟨i1, s1, a1, c1, a2, c2, hloy1', gx1, rfl, H1⟩
    refine Run_seq ?_
    refine Run_seq ?_
    refine Run_reg 2 (by kernel_rfl) (L' := [(0, .pointer (some ⟨bs_, 0, none⟩)), (6, .int .i64 i1), (15, .bool (decide (i1 < 100)))]) ?_ ?_
    · refine QRun_b [.int .i64 i1, .bool (decide (i1 < 100))] 0 _ (by kernel_rfl) (fun w => by kernel_rfl) ?_
      exact QRun_done [0, 6, 15] (by kernel_rfl) (by kernel_rfl)
    refine Run_cond (b := decide (i1 < 100)) (by kernel_rfl) (fun hb1 => ?_) (fun hb1 => ?_)
    · obtain ⟨my1, y1, rfl, hB1, hgoy1, houty1⟩ := M.for_go gx1 hb1
      have hlty1 := of_decide_eq_true hb1
      refine Run_skip ?_
      refine Run_seq ?_
      refine Run_block ?_
      refine Run_seq ?_
      refine Run_ops ?_
      refine Run_b [.pointer (some ⟨bs_, 0, none⟩), .int .i64 i1] 0 _ (by kernel_rfl) (fun w => by kernel_rfl) ?_
      obtain ⟨x2, hx1, hB1⟩ := M.bind_some hB1
      have H3 : Hold h h1 [own cd23 a1 s1.1.length c1 s1.1, box bs_ 96 [.slice as_a s_.a.length cs_a, .slice a1 s1.1.length c1, .slice a2 s1.2.length c2], own cd23 a2 s1.2.length c2 s1.2, it] := H1.pick [1, 0, 2, 3] (by kernel_rfl)
      have H4 : Hold h h1 [own cd23 a2 s1.2.length c2 s1.2, own cd23 a1 s1.1.length c1 s1.1, box bs_ 96 [.slice as_a s_.a.length cs_a, .slice a1 s1.1.length c1, .slice a2 s1.2.length c2], it] := H3.pick [2, 0, 1, 3] (by kernel_rfl)
      have H5 := H4.toQ
      have H6 : Hold h h1 [box bs_ 96 [.slice as_a s_.a.length cs_a, .slice a1 s1.1.length c1, .slice a2 s1.2.length c2], own cd23 a1 s1.1.length c1 s1.1, rowsQ cd2 23 a2 s1.2.length c2 s1.2 [], it] := H5.pick [2, 1, 0, 3] (by kernel_rfl)
      have H7 : Hold h h1 [box bs_ 96 [.slice as_a s_.a.length cs_a, .slice a1 s1.1.length c1, .slice a2 s1.2.length c2], own cd23 a1 s1.1.length c1 s1.1, rowsQ cd2 23 a2 s1.2.length c2 s1.2 [], bun [it]] := Hold.bundle (S := [box bs_ 96 [.slice as_a s_.a.length cs_a, .slice a1 s1.1.length c1, .slice a2 s1.2.length c2], own cd23 a1 s1.1.length c1 s1.1, rowsQ cd2 23 a2 s1.2.length c2 s1.2 []]) (R := [it]) H6
      refine Run_E (by kernel_rfl) ?_
      refine E_call (f := 95) (args := #[.pointer (some ⟨bs_, 0, none⟩), .int .i64 i1]) (w_spec_l07At_BQ0 h h1 _ (⟨s_.a, s1.1, s1.2⟩ : TL07series) bs_ as_a cs_a rs_a a1 c1 a2 c2 i1 H7 _ _ hx1) (by kernel_rfl) (fun v1 h3 hp1 => ?_)
      obtain ⟨a5, c5, a6, c6, a7, c7, rfl, H8⟩ := hp1
      have H9 : Hold h h3 [box bs_ 96 [.slice as_a s_.a.length cs_a, .slice a6 x2.2.2.last.length c6, .slice a7 x2.2.2.lists.length c7], own cd23 a6 x2.2.2.last.length c6 x2.2.2.last, rowsQ cd2 23 a7 x2.2.2.lists.length c7 x2.2.2.lists [(a5, c5, x2.1)], it] := Hold.unbundle (S := [box bs_ 96 [.slice as_a s_.a.length cs_a, .slice a6 x2.2.2.last.length c6, .slice a7 x2.2.2.lists.length c7], own cd23 a6 x2.2.2.last.length c6 x2.2.2.last, rowsQ cd2 23 a7 x2.2.2.lists.length c7 x2.2.2.lists [(a5, c5, x2.1)]]) (R := [it]) H8 (Hold.tailBase (S := [box bs_ 96 [.slice as_a s_.a.length cs_a, .slice a1 s1.1.length c1, .slice a2 s1.2.length c2], own cd23 a1 s1.1.length c1 s1.1, rowsQ cd2 23 a2 s1.2.length c2 s1.2 []]) (R := [it]) H6)
      refine Run_b [.tuple #[.slice a5 x2.1.length c5, .bool x2.2.1], .slice a5 x2.1.length c5, .bool x2.2.1, .slice a5 x2.1.length c5, .bool x2.2.1] 3 _ (by kernel_rfl) (fun w => by kernel_rfl) ?_
      refine Run_nil (by kernel_rfl) ?_
      refine Run_keep [0, 6, 7] (L' := [(0, .pointer (some ⟨bs_, 0, none⟩)), (6, .int .i64 i1), (7, .slice a5 x2.1.length c5)]) (by kernel_rfl) ?_
      refine Run_seq ?_
      refine Run_reg 1 (by kernel_rfl) (L' := [(0, .pointer (some ⟨bs_, 0, none⟩)), (6, .int .i64 i1), (7, .slice a5 x2.1.length c5), (9, .int .i64 1)]) ?_ ?_
      · refine QRun_b [.int .i64 1] 0 _ (by kernel_rfl) (fun w => by kernel_rfl) ?_
        exact QRun_done [0, 6, 7, 9] (by kernel_rfl) (by kernel_rfl)
      obtain ⟨x3, gx3, hB1⟩ := M.bind_some hB1
      refine Run_join (fun L' h' => ∃ (s4 : (List (List Int)) × (List (List Int)) × Int) (a10 : Option Addr) (c10 : Nat) (a11 : Option Addr) (c11 : Nat), x3 = .inl s4 ∧ L' = [(0, .pointer (some ⟨bs_, 0, none⟩)), (6, .int .i64 i1)] ∧ Hold h h' [box bs_ 96 [.slice as_a s_.a.length cs_a, .slice a10 s4.1.length c10, .slice a11 s4.2.1.length c11], own cd23 a10 s4.1.length c10 s4.1, rowsQ cd2 23 a11 s4.2.1.length c11 s4.2.1 [(a5, c5, x2.1)], it]) ?_ ?_
      · rintro _ h5 ⟨s4, a10, c10, a11, c11, es4, rfl, H11⟩
        have hB1 := M.cont_inl' hB1 es4
        refine Run_blk ?_
        refine Run_reg 3 (by kernel_rfl) (L' := [(0, .pointer (some ⟨bs_, 0, none⟩)), (6, .int .i64 (i1 + 1))]) ?_ ?_
        · refine QRun_b [.int .i64 i1] 0 _ (by kernel_rfl) (fun w => by kernel_rfl) ?_
          refine QRun_y (.int .i64 (i1 + 1)) (by kernel_rfl) (Y_eq (v := .int .i64 (w64 (i1 + 1))) (Y_pure (fun w => by kernel_rfl)) (by rw [w64_eq _ (by omega)])) ?_
          refine QRun_b [.int .i64 (i1 + 1)] 2 _ (by kernel_rfl) (fun w => by kernel_rfl) ?_
          exact QRun_done [0, 6] (by kernel_rfl) (by kernel_rfl)
        have H35 : Hold h h5 [own cd23 a10 s4.1.length c10 s4.1, box bs_ 96 [.slice as_a s_.a.length cs_a, .slice a10 s4.1.length c10, .slice a11 s4.2.1.length c11], rowsQ cd2 23 a11 s4.2.1.length c11 s4.2.1 [(a5, c5, x2.1)], it] := H11.pick [1, 0, 2, 3] (by kernel_rfl)
        have H36 : Hold h h5 [rowsQ cd2 23 a11 s4.2.1.length c11 s4.2.1 [(a5, c5, x2.1)], own cd23 a10 s4.1.length c10 s4.1, box bs_ 96 [.slice as_a s_.a.length cs_a, .slice a10 s4.1.length c10, .slice a11 s4.2.1.length c11], it] := H35.pick [2, 0, 1, 3] (by kernel_rfl)
        have H37 := H36.ofQ
        have H38 : Hold h h5 [box bs_ 96 [.slice as_a s_.a.length cs_a, .slice a10 s4.1.length c10, .slice a11 s4.2.1.length c11], own cd23 a10 s4.1.length c10 s4.1, own cd23 a11 s4.2.1.length c11 s4.2.1, it] := H37.pick [2, 1, 0, 3] (by kernel_rfl)
        have hB1 := M.ret_some hB1
        have gx1 := hgoy1 _ hB1.symm
        exact Run_again [0, 6] (by kernel_rfl) my1 (Nat.lt_succ_self _) ⟨i1 + 1, (s4.1, s4.2.1), a10, c10, a11, c11, by omega, gx1, rfl, H38⟩
      · refine Run_block ?_
        have H39 : Hold h h3 [own cd23 a6 x2.2.2.last.length c6 x2.2.2.last, box bs_ 96 [.slice as_a s_.a.length cs_a, .slice a6 x2.2.2.last.length c6, .slice a7 x2.2.2.lists.length c7], rowsQ cd2 23 a7 x2.2.2.lists.length c7 x2.2.2.lists [(a5, c5, x2.1)], it] := H9.pick [1, 0, 2, 3] (by kernel_rfl)
        have H40 : Hold h h3 [rowsQ cd2 23 a7 x2.2.2.lists.length c7 x2.2.2.lists [(a5, c5, x2.1)], own cd23 a6 x2.2.2.last.length c6 x2.2.2.last, box bs_ 96 [.slice as_a s_.a.length cs_a, .slice a6 x2.2.2.last.length c6, .slice a7 x2.2.2.lists.length c7], it] := H39.pick [2, 0, 1, 3] (by kernel_rfl)
        have H41 : Hold h h3 [box bs_ 96 [.slice as_a s_.a.length cs_a, .slice a6 x2.2.2.last.length c6, .slice a7 x2.2.2.lists.length c7], own cd23 a6 x2.2.2.last.length c6 x2.2.2.last, rowsQ cd2 23 a7 x2.2.2.lists.length c7 x2.2.2.lists [(a5, c5, x2.1)], it] := H40.pick [2, 1, 0, 3] (by kernel_rfl)
        refine Run_keep [0, 6, 7, 9] (L' := [(0, .pointer (some ⟨bs_, 0, none⟩)), (6, .int .i64 i1), (7, .slice a5 x2.1.length c5), (9, .int .i64 1)]) (by kernel_rfl) ?_
        refine Run_loop (fun m L' h' => ∃ (s3 : (List (List Int)) × (List (List Int)) × Int) (a8 : Option Addr) (c8 : Nat) (a9 : Option Addr) (c9 : Nat), M.loopN _ n m s3 = some x3 ∧ L' = [(0, .pointer (some ⟨bs_, 0, none⟩)), (6, .int .i64 i1), (7, .slice a5 x2.1.length c5), (9, .int .i64 s3.2.2)] ∧ Hold h h' [box bs_ 96 [.slice as_a s_.a.length cs_a, .slice a8 s3.1.length c8, .slice a9 s3.2.1.length c9], own cd23 a8 s3.1.length c8 s3.1, rowsQ cd2 23 a9 s3.2.1.length c9 s3.2.1 [(a5, c5, x2.1)], it]) n ⟨(x2.2.2.last, x2.2.2.lists, 1), a6, c6, a7, c7, gx3, rfl, H41⟩ ?_
        rintro my2 _ h4 ⟨s3, a8, c8, a9, c9, gx3, rfl, H10⟩
        obtain ⟨my2, y2, rfl, hB2, hgoy2, houty2⟩ := M.loop_some gx3
        refine Run_seq ?_
        refine Run_seq ?_
        refine Run_reg 4 (by kernel_rfl) (L' := [(0, .pointer (some ⟨bs_, 0, none⟩)), (6, .int .i64 i1), (7, .slice a5 x2.1.length c5), (9, .int .i64 s3.2.2), (27, .bool (decide ((w64 (i1 + s3.2.2)) ≤ 100)))]) ?_ ?_
        · refine QRun_b [.int .i64 i1, .int .i64 s3.2.2, .int .i64 (w64 (i1 + s3.2.2)), .bool (decide ((w64 (i1 + s3.2.2)) ≤ 100))] 0 _ (by kernel_rfl) (fun w => by kernel_rfl) ?_
          exact QRun_done [0, 6, 7, 9, 27] (by kernel_rfl) (by kernel_rfl)
        refine Run_cond (b := decide ((w64 (i1 + s3.2.2)) ≤ 100)) (by kernel_rfl) (fun hb2 => ?_) (fun hb2 => ?_)
        · have hB2 := (M.ite_some hB2).1 hb2
          refine Run_skip ?_
          refine Run_seq ?_
          refine Run_block ?_
          refine Run_seq ?_
          refine Run_ops ?_
          refine Run_b [.pointer (some ⟨bs_, 0, none⟩), .int .i64 i1, .int .i64 s3.2.2, .int .i64 (w64 (i1 + s3.2.2))] 0 _ (by kernel_rfl) (fun w => by kernel_rfl) ?_
          obtain ⟨x4, hx2, hB2⟩ := M.bind_some hB2
          have H12 : Hold h h4 [own cd23 a8 s3.1.length c8 s3.1, box bs_ 96 [.slice as_a s_.a.length cs_a, .slice a8 s3.1.length c8, .slice a9 s3.2.1.length c9], rowsQ cd2 23 a9 s3.2.1.length c9 s3.2.1 [(a5, c5, x2.1)], it] := H10.pick [1, 0, 2, 3] (by kernel_rfl)
          have H13 : Hold h h4 [rowsQ cd2 23 a9 s3.2.1.length c9 s3.2.1 [(a5, c5, x2.1)], own cd23 a8 s3.1.length c8 s3.1, box bs_ 96 [.slice as_a s_.a.length cs_a, .slice a8 s3.1.length c8, .slice a9 s3.2.1.length c9], it] := H12.pick [2, 0, 1, 3] (by kernel_rfl)
          have H14 : Hold h h4 [box bs_ 96 [.slice as_a s_.a.length cs_a, .slice a8 s3.1.length c8, .slice a9 s3.2.1.length c9], own cd23 a8 s3.1.length c8 s3.1, rowsQ cd2 23 a9 s3.2.1.length c9 s3.2.1 [(a5, c5, x2.1)], it] := H13.pick [2, 1, 0, 3] (by kernel_rfl)
          have H15 : Hold h h4 [box bs_ 96 [.slice as_a s_.a.length cs_a, .slice a8 s3.1.length c8, .slice a9 s3.2.1.length c9], own cd23 a8 s3.1.length c8 s3.1, rowsQ cd2 23 a9 s3.2.1.length c9 s3.2.1 [(a5, c5, x2.1)], bun [it]] := Hold.bundle (S := [box bs_ 96 [.slice as_a s_.a.length cs_a, .slice a8 s3.1.length c8, .slice a9 s3.2.1.length c9], own cd23 a8 s3.1.length c8 s3.1, rowsQ cd2 23 a9 s3.2.1.length c9 s3.2.1 [(a5, c5, x2.1)]]) (R := [it]) H14
          refine Run_E (by kernel_rfl) ?_
          refine E_call (f := 95) (args := #[.pointer (some ⟨bs_, 0, none⟩), .int .i64 (w64 (i1 + s3.2.2))]) (w_spec_l07At_BQ1 h h4 _ (⟨s_.a, s3.1, s3.2.1⟩ : TL07series) bs_ as_a cs_a rs_a a8 c8 a9 c9 a5 c5 x2.1 (w64 (i1 + s3.2.2)) H15 _ _ hx2) (by kernel_rfl) (fun v2 h6 hp2 => ?_)
          obtain ⟨a12, c12, a13, c13, a14, c14, rfl, H16⟩ := hp2
          have H17 : Hold h h6 [box bs_ 96 [.slice as_a s_.a.length cs_a, .slice a13 x4.2.2.last.length c13, .slice a14 x4.2.2.lists.length c14], own cd23 a13 x4.2.2.last.length c13 x4.2.2.last, rowsQ cd2 23 a14 x4.2.2.lists.length c14 x4.2.2.lists [(a12, c12, x4.1), (a5, c5, x2.1)], it] := Hold.unbundle (S := [box bs_ 96 [.slice as_a s_.a.length cs_a, .slice a13 x4.2.2.last.length c13, .slice a14 x4.2.2.lists.length c14], own cd23 a13 x4.2.2.last.length c13 x4.2.2.last, rowsQ cd2 23 a14 x4.2.2.lists.length c14 x4.2.2.lists [(a12, c12, x4.1), (a5, c5, x2.1)]]) (R := [it]) H16 (Hold.tailBase (S := [box bs_ 96 [.slice as_a s_.a.length cs_a, .slice a8 s3.1.length c8, .slice a9 s3.2.1.length c9], own cd23 a8 s3.1.length c8 s3.1, rowsQ cd2 23 a9 s3.2.1.length c9 s3.2.1 [(a5, c5, x2.1)]]) (R := [it]) H14)
          refine Run_b [.tuple #[.slice a12 x4.1.length c12, .bool x4.2.1], .slice a12 x4.1.length c12, .bool x4.2.1, .slice a12 x4.1.length c12, .bool x4.2.1] 5 _ (by kernel_rfl) (fun w => by kernel_rfl) ?_
          refine Run_nil (by kernel_rfl) ?_
          refine Run_keep [0, 6, 7, 9, 10, 11] (L' := [(0, .pointer (some ⟨bs_, 0, none⟩)), (6, .int .i64 i1), (7, .slice a5 x2.1.length c5), (9, .int .i64 s3.2.2), (10, .slice a12 x4.1.length c12), (11, .bool x4.2.1)]) (by kernel_rfl) ?_
          refine Run_seq ?_
          refine Run_seq ?_
          refine Run_reg 2 (by kernel_rfl) (L' := [(0, .pointer (some ⟨bs_, 0, none⟩)), (6, .int .i64 i1), (7, .slice a5 x2.1.length c5), (9, .int .i64 s3.2.2), (10, .slice a12 x4.1.length c12), (39, .bool (!x4.2.1))]) ?_ ?_
          · refine QRun_b [.bool x4.2.1, .bool (!x4.2.1)] 0 _ (by kernel_rfl) (fun w => by kernel_rfl) ?_
            exact QRun_done [0, 6, 7, 9, 10, 39] (by kernel_rfl) (by kernel_rfl)
          refine Run_cond (b := !x4.2.1) (by kernel_rfl) (fun hb3 => ?_) (fun hb3 => ?_)
          · have hB2 := (M.ite_some hB2).1 hb3
            refine Run_seq ?_
            refine Run_reg 4 (by kernel_rfl) (L' := [(2, .int .i64 0), (3, .int .i64 0), (4, .int .i64 0), (5, .int .i64 3)]) ?_ ?_
            · refine QRun_b [.int .i64 0, .int .i64 0, .int .i64 0, .int .i64 3] 0 _ (by kernel_rfl) (fun w => by kernel_rfl) ?_
              exact QRun_done [2, 3, 4, 5] (by kernel_rfl) (by kernel_rfl)
            have hB2 := M.ret_some hB2
            have gx3 := houty2 _ hB2.symm
            have hB1 := M.cont_inr' hB1 gx3
            have hB1 := M.ret_some hB1
            have gx1 := houty1 _ hB1.symm
            have hF := M.cont_inr' hF gx1
            have hF := M.ret_some hF
            subst hF
            have H18 : Hold h h6 [own cd23 a13 x4.2.2.last.length c13 x4.2.2.last, box bs_ 96 [.slice as_a s_.a.length cs_a, .slice a13 x4.2.2.last.length c13, .slice a14 x4.2.2.lists.length c14], rowsQ cd2 23 a14 x4.2.2.lists.length c14 x4.2.2.lists [(a12, c12, x4.1), (a5, c5, x2.1)], it] := H17.pick [1, 0, 2, 3] (by kernel_rfl)
            have H19 : Hold h h6 [rowsQ cd2 23 a14 x4.2.2.lists.length c14 x4.2.2.lists [(a12, c12, x4.1), (a5, c5, x2.1)], own cd23 a13 x4.2.2.last.length c13 x4.2.2.last, box bs_ 96 [.slice as_a s_.a.length cs_a, .slice a13 x4.2.2.last.length c13, .slice a14 x4.2.2.lists.length c14], it] := H18.pick [2, 0, 1, 3] (by kernel_rfl)
            have H20 := H19.ofQ
            have H21 : Hold h h6 [box bs_ 96 [.slice as_a s_.a.length cs_a, .slice a13 x4.2.2.last.length c13, .slice a14 x4.2.2.lists.length c14], own cd23 a13 x4.2.2.last.length c13 x4.2.2.last, own cd23 a14 x4.2.2.lists.length c14 x4.2.2.lists, it] := H20.pick [2, 1, 0, 3] (by kernel_rfl)
            exact Run_ret4 rfl (ResV_tmp (v := .int .i64 0) (by kernel_rfl)) (ResV_tmp (v := .int .i64 0) (by kernel_rfl)) (ResV_tmp (v := .int .i64 0) (by kernel_rfl)) (ResV_tmp (v := .int .i64 3) (by kernel_rfl)) ⟨a13, c13, a14, c14, rfl, H21⟩
          · have hB2 := (M.ite_some hB2).2 hb3
            refine Run_skip ?_
            refine Run_seq ?_
            obtain ⟨x5, hx3, hB2⟩ := M.bind_some hB2
            refine Run_regC (j := 8) (C := fun x => Hold h x [box bs_ 96 [.slice as_a s_.a.length cs_a, .slice a13 x4.2.2.last.length c13, .slice a14 x4.2.2.lists.length c14], own cd23 a13 x4.2.2.last.length c13 x4.2.2.last, rowsQ cd2 23 a14 x4.2.2.lists.length c14 x4.2.2.lists [(a12, c12, x4.1), (a5, c5, x2.1)], it]) (by kernel_rfl) H17 (L' := [(0, .pointer (some ⟨bs_, 0, none⟩)), (6, .int .i64 i1), (7, .slice a5 x2.1.length c5), (9, .int .i64 s3.2.2), (12, .int .i64 x5.1), (13, .bool x5.2)]) ?_ (fun h7 H22 => ?_)
            · refine QRun_b [.slice a5 x2.1.length c5, .slice a12 x4.1.length c12] 0 _ (by kernel_rfl) (fun w => by kernel_rfl) ?_
              refine QRun_y (.tuple #[.int .i64 x5.1, .bool x5.2]) (by kernel_rfl) (Y_call (f := 133) (args := #[.slice a5 x2.1.length c5, .slice a12 x4.1.length c12]) (v := .tuple #[.int .i64 x5.1, .bool x5.2]) (by kernel_rfl) fun hx Hx => (w_spec_l07Gap hx x2.1 a5 c5 (Hx.rdPeek 2 rfl 1 rfl) x4.1 a12 c12 (Hx.rdPeek 2 rfl 0 rfl) _ _ hx3).mono fun _ _ ⟨e, H'⟩ => ⟨e, Hx.call H' rfl⟩) ?_
              refine QRun_b [.tuple #[.int .i64 x5.1, .bool x5.2], .int .i64 x5.1, .bool x5.2, .int .i64 x5.1, .bool x5.2] 3 _ (by kernel_rfl) (fun w => by kernel_rfl) ?_
              exact QRun_done [0, 6, 7, 9, 12, 13] (by kernel_rfl) (by kernel_rfl)
            have H23 : Hold h h7 [box bs_ 96 [.slice as_a s_.a.length cs_a, .slice a13 x4.2.2.last.length c13, .slice a14 x4.2.2.lists.length c14], own cd23 a13 x4.2.2.last.length c13 x4.2.2.last, rowsQ cd2 23 a14 x4.2.2.lists.length c14 x4.2.2.lists [(a12, c12, x4.1), (a5, c5, x2.1)], it] := H22
            refine Run_seq ?_
            refine Run_reg 1 (by kernel_rfl) (L' := [(0, .pointer (some ⟨bs_, 0, none⟩)), (6, .int .i64 i1), (7, .slice a5 x2.1.length c5), (9, .int .i64 s3.2.2), (12, .int .i64 x5.1), (46, .bool x5.2)]) ?_ ?_
            · refine QRun_b [.bool x5.2] 0 _ (by kernel_rfl) (fun w => by kernel_rfl) ?_
              exact QRun_done [0, 6, 7, 9, 12, 46] (by kernel_rfl) (by kernel_rfl)
            refine Run_cond (b := x5.2) (by kernel_rfl) (fun hb4 => ?_) (fun hb4 => ?_)
            · have hB2 := (M.ite_some hB2).1 hb4
              refine Run_seq ?_
              refine Run_reg 7 (by kernel_rfl) (L' := [(2, .int .i64 i1), (3, .int .i64 s3.2.2), (4, .int .i64 x5.1), (5, .int .i64 0)]) ?_ ?_
              · refine QRun_b [.int .i64 i1, .int .i64 s3.2.2, .int .i64 x5.1, .int .i64 i1, .int .i64 s3.2.2, .int .i64 x5.1, .int .i64 0] 0 _ (by kernel_rfl) (fun w => by kernel_rfl) ?_
                exact QRun_done [2, 3, 4, 5] (by kernel_rfl) (by kernel_rfl)
              have hB2 := M.ret_some hB2
              have gx3 := houty2 _ hB2.symm
              have hB1 := M.cont_inr' hB1 gx3
              have hB1 := M.ret_some hB1
              have gx1 := houty1 _ hB1.symm
              have hF := M.cont_inr' hF gx1
              have hF := M.ret_some hF
              subst hF
              have H24 : Hold h h7 [own cd23 a13 x4.2.2.last.length c13 x4.2.2.last, box bs_ 96 [.slice as_a s_.a.length cs_a, .slice a13 x4.2.2.last.length c13, .slice a14 x4.2.2.lists.length c14], rowsQ cd2 23 a14 x4.2.2.lists.length c14 x4.2.2.lists [(a12, c12, x4.1), (a5, c5, x2.1)], it] := H23.pick [1, 0, 2, 3] (by kernel_rfl)
              have H25 : Hold h h7 [rowsQ cd2 23 a14 x4.2.2.lists.length c14 x4.2.2.lists [(a12, c12, x4.1), (a5, c5, x2.1)], own cd23 a13 x4.2.2.last.length c13 x4.2.2.last, box bs_ 96 [.slice as_a s_.a.length cs_a, .slice a13 x4.2.2.last.length c13, .slice a14 x4.2.2.lists.length c14], it] := H24.pick [2, 0, 1, 3] (by kernel_rfl)
              have H26 := H25.ofQ
              have H27 : Hold h h7 [box bs_ 96 [.slice as_a s_.a.length cs_a, .slice a13 x4.2.2.last.length c13, .slice a14 x4.2.2.lists.length c14], own cd23 a13 x4.2.2.last.length c13 x4.2.2.last, own cd23 a14 x4.2.2.lists.length c14 x4.2.2.lists, it] := H26.pick [2, 1, 0, 3] (by kernel_rfl)
              exact Run_ret4 rfl (ResV_tmp (v := .int .i64 i1) (by kernel_rfl)) (ResV_tmp (v := .int .i64 s3.2.2) (by kernel_rfl)) (ResV_tmp (v := .int .i64 x5.1) (by kernel_rfl)) (ResV_tmp (v := .int .i64 0) (by kernel_rfl)) ⟨a13, c13, a14, c14, rfl, H27⟩
            · have hB2 := (M.ite_some hB2).2 hb4
              refine Run_skip ?_
              refine Run_blk ?_
              refine Run_reg 3 (by kernel_rfl) (L' := [(0, .pointer (some ⟨bs_, 0, none⟩)), (6, .int .i64 i1), (7, .slice a5 x2.1.length c5), (9, .int .i64 (w64 (s3.2.2 + 1)))]) ?_ ?_
              · refine QRun_b [.int .i64 s3.2.2, .int .i64 (w64 (s3.2.2 + 1)), .int .i64 (w64 (s3.2.2 + 1))] 0 _ (by kernel_rfl) (fun w => by kernel_rfl) ?_
                exact QRun_done [0, 6, 7, 9] (by kernel_rfl) (by kernel_rfl)
              have H28 : Hold h h7 [own cd23 a13 x4.2.2.last.length c13 x4.2.2.last, box bs_ 96 [.slice as_a s_.a.length cs_a, .slice a13 x4.2.2.last.length c13, .slice a14 x4.2.2.lists.length c14], rowsQ cd2 23 a14 x4.2.2.lists.length c14 x4.2.2.lists [(a12, c12, x4.1), (a5, c5, x2.1)], it] := H23.pick [1, 0, 2, 3] (by kernel_rfl)
              have H29 : Hold h h7 [rowsQ cd2 23 a14 x4.2.2.lists.length c14 x4.2.2.lists [(a12, c12, x4.1), (a5, c5, x2.1)], own cd23 a13 x4.2.2.last.length c13 x4.2.2.last, box bs_ 96 [.slice as_a s_.a.length cs_a, .slice a13 x4.2.2.last.length c13, .slice a14 x4.2.2.lists.length c14], it] := H28.pick [2, 0, 1, 3] (by kernel_rfl)
              have H30 := H29.pickQ [(a5, c5, x2.1)] (by simp)
              have H31 : Hold h h7 [box bs_ 96 [.slice as_a s_.a.length cs_a, .slice a13 x4.2.2.last.length c13, .slice a14 x4.2.2.lists.length c14], own cd23 a13 x4.2.2.last.length c13 x4.2.2.last, rowsQ cd2 23 a14 x4.2.2.lists.length c14 x4.2.2.lists [(a5, c5, x2.1)], it] := H30.pick [2, 1, 0, 3] (by kernel_rfl)
              have hB2 := M.ret_some hB2
              have gx3 := hgoy2 _ hB2.symm
              exact Run_again [0, 6, 7, 9] (by kernel_rfl) my2 (Nat.lt_succ_self _) ⟨(x4.2.2.last, x4.2.2.lists, (w64 (s3.2.2 + 1))), a13, c13, a14, c14, gx3, rfl, H31⟩
        · have hB2 := (M.ite_some hB2).2 hb2
          refine Run_exit (k' := _) rfl ?_
          have H32 : Hold h h4 [own cd23 a8 s3.1.length c8 s3.1, box bs_ 96 [.slice as_a s_.a.length cs_a, .slice a8 s3.1.length c8, .slice a9 s3.2.1.length c9], rowsQ cd2 23 a9 s3.2.1.length c9 s3.2.1 [(a5, c5, x2.1)], it] := H10.pick [1, 0, 2, 3] (by kernel_rfl)
          have H33 : Hold h h4 [rowsQ cd2 23 a9 s3.2.1.length c9 s3.2.1 [(a5, c5, x2.1)], own cd23 a8 s3.1.length c8 s3.1, box bs_ 96 [.slice as_a s_.a.length cs_a, .slice a8 s3.1.length c8, .slice a9 s3.2.1.length c9], it] := H32.pick [2, 0, 1, 3] (by kernel_rfl)
          have H34 : Hold h h4 [box bs_ 96 [.slice as_a s_.a.length cs_a, .slice a8 s3.1.length c8, .slice a9 s3.2.1.length c9], own cd23 a8 s3.1.length c8 s3.1, rowsQ cd2 23 a9 s3.2.1.length c9 s3.2.1 [(a5, c5, x2.1)], it] := H33.pick [2, 1, 0, 3] (by kernel_rfl)
          have hB2 := M.ret_some hB2
          have gx3 := houty2 _ hB2.symm
          subst gx3
          exact Run_fall [0, 6] (by kernel_rfl) ⟨(s3.1, s3.2.1, s3.2.2), a8, c8, a9, c9, rfl, rfl, H34⟩
    · have gx1 := M.for_end gx1 hb1
      subst gx1
      refine Run_exit (k' := _) rfl ?_
      have H42 : Hold h h1 [own cd23 a1 s1.1.length c1 s1.1, box bs_ 96 [.slice as_a s_.a.length cs_a, .slice a1 s1.1.length c1, .slice a2 s1.2.length c2], own cd23 a2 s1.2.length c2 s1.2, it] := H1.pick [1, 0, 2, 3] (by kernel_rfl)
      have H43 : Hold h h1 [own cd23 a2 s1.2.length c2 s1.2, own cd23 a1 s1.1.length c1 s1.1, box bs_ 96 [.slice as_a s_.a.length cs_a, .slice a1 s1.1.length c1, .slice a2 s1.2.length c2], it] := H42.pick [2, 0, 1, 3] (by kernel_rfl)
      have H44 : Hold h h1 [box bs_ 96 [.slice as_a s_.a.length cs_a, .slice a1 s1.1.length c1, .slice a2 s1.2.length c2], own cd23 a1 s1.1.length c1 s1.1, own cd23 a2 s1.2.length c2 s1.2, it] := H43.pick [2, 1, 0, 3] (by kernel_rfl)
      exact Run_fall [] (by kernel_rfl) ⟨(s1.1, s1.2), a1, c1, a2, c2, rfl, rfl, H44⟩

set_option maxRecDepth 100000 in
set_option maxHeartbeats 4000000 in
theorem w_spec_OrbitRepeats (h : Heap) (a_ : List (List Int)) (aa_ : Option Addr) (ca_ : Nat) (ra_ : Rd cd23 h (Lt h) aa_ ca_ a_) (x_ : List Int) (ax_ : Option Addr) (cx_ : Nat) (rx_ : Rd cd2 h (Lt h) ax_ cx_ x_) (n : Nat) (r : Int × Int × Int × Int) (hF : spec_OrbitRepeats a_ x_ n = some r) :
    Fn Try.prog 24 #[.slice aa_ a_.length ca_, .slice ax_ x_.length cx_] h fun v h' => v = .tuple #[.int .i64 r.1, .int .i64 r.2.1, .int .i64 r.2.2.1, .int .i64 r.2.2.2] ∧ Hold h h' [] := by
  unfold spec_OrbitRepeats at hF
  refine Fn_enter (args := [.slice aa_ a_.length ca_, .slice ax_ x_.length cx_]) Try.func24 rfl (by kernel_rfl) (by kernel_rfl) (fun w0 _ => ?_)
  have H0 := Hold.init h
  refine Run_seq ?_
  refine Run_reg 4 (by kernel_rfl) (L' := [(0, .slice aa_ a_.length ca_), (1, .slice ax_ x_.length cx_)]) ?_ ?_
  · refine QRun_b [.int .i64 0, .int .i64 0, .int .i64 0, .int .i64 0] 0 _ (by kernel_rfl) (fun w => by kernel_rfl) ?_
    exact QRun_done [0, 1] (by kernel_rfl) (by kernel_rfl)
  refine Run_seq ?_
  obtain ⟨x1, hx1, hF⟩ := M.bind_some hF
  refine Run_reg 4 (by kernel_rfl) (L' := [(0, .slice aa_ a_.length ca_), (1, .slice ax_ x_.length cx_), (8, .int .i64 x1)]) ?_ ?_
  · refine QRun_b [.slice aa_ a_.length ca_, .slice ax_ x_.length cx_] 0 _ (by kernel_rfl) (fun w => by kernel_rfl) ?_
    refine QRun_y (.int .i64 x1) (by kernel_rfl) (Y_callq (f := 87) (args := #[.slice aa_ a_.length ca_, .slice ax_ x_.length cx_]) (v := .int .i64 x1) (by kernel_rfl) (w_spec_l07Code h a_ aa_ ca_ ra_ x_ ax_ cx_ rx_ _ _ hx1)) ?_
    refine QRun_b [.int .i64 x1] 3 _ (by kernel_rfl) (fun w => by kernel_rfl) ?_
    exact QRun_done [0, 1, 8] (by kernel_rfl) (by kernel_rfl)
  refine Run_seq ?_
  refine Run_seq ?_
  refine Run_reg 2 (by kernel_rfl) (L' := [(0, .slice aa_ a_.length ca_), (1, .slice ax_ x_.length cx_), (8, .int .i64 x1), (13, .bool (x1 != 0))]) ?_ ?_
  · refine QRun_b [.int .i64 x1, .bool (x1 != 0)] 0 _ (by kernel_rfl) (fun w => by kernel_rfl) ?_
    exact QRun_done [0, 1, 8, 13] (by kernel_rfl) (by kernel_rfl)
  refine Run_cond (b := x1 != 0) (by kernel_rfl) (fun hb1 => ?_) (fun hb1 => ?_)
  · have hF := (M.ite_some hF).1 hb1
    refine Run_seq ?_
    refine Run_reg 5 (by kernel_rfl) (L' := [(4, .int .i64 0), (5, .int .i64 0), (6, .int .i64 0), (7, .int .i64 x1)]) ?_ ?_
    · refine QRun_b [.int .i64 x1, .int .i64 0, .int .i64 0, .int .i64 0, .int .i64 x1] 0 _ (by kernel_rfl) (fun w => by kernel_rfl) ?_
      exact QRun_done [4, 5, 6, 7] (by kernel_rfl) (by kernel_rfl)
    have hF := M.ret_some hF
    subst hF
    exact Run_ret4 rfl (ResV_tmp (v := .int .i64 0) (by kernel_rfl)) (ResV_tmp (v := .int .i64 0) (by kernel_rfl)) (ResV_tmp (v := .int .i64 0) (by kernel_rfl)) (ResV_tmp (v := .int .i64 x1) (by kernel_rfl)) ⟨rfl, H0⟩
  · have hF := (M.ite_some hF).2 hb1
    refine Run_skip ?_
    refine Run_seq ?_
    refine Run_ops ?_
    refine Run_b [.slice aa_ a_.length ca_, .slice ax_ x_.length cx_] 0 _ (by kernel_rfl) (fun w => by kernel_rfl) ?_
    obtain ⟨x2, hx2, hF⟩ := M.bind_some hF
    refine Run_E (by kernel_rfl) ?_
    refine E_call (f := 88) (args := #[.slice ax_ x_.length cx_]) (w_spec_l07Column h x_ ax_ cx_ rx_ _ _ hx2) (by kernel_rfl) (fun v1 h1 hp1 => ?_)
    obtain ⟨a1, c1, rfl, H1⟩ := hp1
    have H2 : Hold h h1 [own cd23 a1 x2.length c1 x2] := H0.call H1 rfl
    obtain ⟨x3, hx3, hF⟩ := M.bind_some hF
    refine Run_E (by kernel_rfl) ?_
    refine E_call (f := 77) (args := #[.slice aa_ a_.length ca_, .slice a1 x2.length c1]) (w_spec_l07Start h1 a_ aa_ ca_ (ra_.at H2.ext) x2 a1 c1 (H2.rd 0 rfl) _ _ hx3) (by kernel_rfl) (fun v2 h2 hp2 => ?_)
    obtain ⟨b1, a2, c2, a3, c3, a4, c4, rfl, hd1, hd2, H3⟩ := hp2
    have H4 : Hold h h2 [box b1 96 [.slice a2 x3.a.length c2, .slice a3 x3.last.length c3, .slice a4 x3.lists.length c4], own cd23 a4 x3.lists.length c4 x3.lists, own cd23 a1 x2.length c1 x2] := H2.call H3 rfl
    have r1 := ra_.alias hd1
    have H5 : Hold h h2 [own cd23 a1 x2.length c1 x2, box b1 96 [.slice a2 x3.a.length c2, .slice a3 x3.last.length c3, .slice a4 x3.lists.length c4], own cd23 a4 x3.lists.length c4 x3.lists] := H4.pick [2, 0, 1] (by kernel_rfl)
    have H6 := H5.alias hd2
    obtain ⟨x4, hx4, hF⟩ := M.bind_some hF
    have H7 : Hold h h2 [own cd23 a4 x3.lists.length c4 x3.lists, own cd23 a3 x3.last.length c3 x3.last, box b1 96 [.slice a2 x3.a.length c2, .slice a3 x3.last.length c3, .slice a4 x3.lists.length c4]] := H6.pick [2, 0, 1] (by kernel_rfl)
    have H8 : Hold h h2 [box b1 96 [.slice a2 x3.a.length c2, .slice a3 x3.last.length c3, .slice a4 x3.lists.length c4], own cd23 a3 x3.last.length c3 x3.last, own cd23 a4 x3.lists.length c4 x3.lists] := H7.pick [2, 1, 0] (by kernel_rfl)
    have H9 : Hold h h2 [box b1 96 [.slice a2 x3.a.length c2, .slice a3 x3.last.length c3, .slice a4 x3.lists.length c4], own cd23 a3 x3.last.length c3 x3.last, own cd23 a4 x3.lists.length c4 x3.lists, bun []] := Hold.bundle (S := [box b1 96 [.slice a2 x3.a.length c2, .slice a3 x3.last.length c3, .slice a4 x3.lists.length c4], own cd23 a3 x3.last.length c3 x3.last, own cd23 a4 x3.lists.length c4 x3.lists]) (R := []) H8
    refine Run_E (by kernel_rfl) ?_
    refine E_call (f := 79) (args := #[.pointer (some ⟨b1, 0, none⟩)]) (w_spec_l07Find_B h h2 _ x3 b1 a2 c2 r1 a3 c3 a4 c4 H9 _ _ hx4) (by kernel_rfl) (fun v3 h3 hp3 => ?_)
    obtain ⟨a5, c5, a6, c6, rfl, H10⟩ := hp3
    have H11 : Hold h h3 [box b1 96 [.slice a2 x3.a.length c2, .slice a5 x4.2.2.2.2.last.length c5, .slice a6 x4.2.2.2.2.lists.length c6], own cd23 a5 x4.2.2.2.2.last.length c5 x4.2.2.2.2.last, own cd23 a6 x4.2.2.2.2.lists.length c6 x4.2.2.2.2.lists] := Hold.unbundle (S := [box b1 96 [.slice a2 x3.a.length c2, .slice a5 x4.2.2.2.2.last.length c5, .slice a6 x4.2.2.2.2.lists.length c6], own cd23 a5 x4.2.2.2.2.last.length c5 x4.2.2.2.2.last, own cd23 a6 x4.2.2.2.2.lists.length c6 x4.2.2.2.2.lists]) (R := []) H10 (Hold.tailBase (S := [box b1 96 [.slice a2 x3.a.length c2, .slice a3 x3.last.length c3, .slice a4 x3.lists.length c4], own cd23 a3 x3.last.length c3 x3.last, own cd23 a4 x3.lists.length c4 x3.lists]) (R := []) H8)
    refine Run_b [.int .i64 x4.1, .int .i64 x4.2.1, .int .i64 x4.2.2.1, .int .i64 x4.2.2.2.1, .int .i64 x4.1, .int .i64 x4.2.1, .int .i64 x4.2.2.1, .int .i64 x4.2.2.2.1] 5 _ (by kernel_rfl) (fun w => by kernel_rfl) ?_
    refine Run_nil (by kernel_rfl) ?_
    refine Run_keep [4, 5, 6, 7] (L' := [(4, .int .i64 x4.1), (5, .int .i64 x4.2.1), (6, .int .i64 x4.2.2.1), (7, .int .i64 x4.2.2.2.1)]) (by kernel_rfl) ?_
    have hF := M.ret_some hF
    subst hF
    have H12 : Hold h h3 [] := H11.pick [] (by kernel_rfl)
    exact Run_ret4 rfl (ResV_tmp (v := .int .i64 x4.1) (by kernel_rfl)) (ResV_tmp (v := .int .i64 x4.2.1) (by kernel_rfl)) (ResV_tmp (v := .int .i64 x4.2.2.1) (by kernel_rfl)) (ResV_tmp (v := .int .i64 x4.2.2.2.1) (by kernel_rfl)) ⟨rfl, H12⟩

set_option maxRecDepth 100000 in
set_option maxHeartbeats 4000000 in
theorem w_impl_absOf (h : Heap) (n_ : Int) (n : Nat) (r : Int) (hF : impl_absOf n_ n = some r) :
    Fn Try.prog 128 #[.int .i64 n_] h fun v h' => v = .int .i64 r ∧ h' = h := by
  unfold impl_absOf at hF
  refine Fn_enter (args := [.int .i64 n_]) Try.func128 rfl (by kernel_rfl) (by kernel_rfl) (fun w0 _ => ?_)
  refine Run_seq ?_
  refine Run_reg 1 (by kernel_rfl) (L' := [(0, .int .i64 n_)]) ?_ ?_
  · refine QRun_b [.int .i64 0] 0 _ (by kernel_rfl) (fun w => by kernel_rfl) ?_
    exact QRun_done [0] (by kernel_rfl) (by kernel_rfl)
  refine Run_seq ?_
  refine Run_seq ?_
  refine Run_reg 2 (by kernel_rfl) (L' := [(0, .int .i64 n_), (4, .bool (decide (n_ < 0)))]) ?_ ?_
  · refine QRun_b [.int .i64 n_, .bool (decide (n_ < 0))] 0 _ (by kernel_rfl) (fun w => by kernel_rfl) ?_
    exact QRun_done [0, 4] (by kernel_rfl) (by kernel_rfl)
  refine Run_cond (b := decide (n_ < 0)) (by kernel_rfl) (fun hb1 => ?_) (fun hb1 => ?_)
  · have hF := (M.ite_some hF).1 hb1
    refine Run_seq ?_
    refine Run_reg 3 (by kernel_rfl) (L' := [(2, .int .i64 (w64 (0 - n_)))]) ?_ ?_
    · refine QRun_b [.int .i64 n_, .int .i64 (w64 (0 - n_)), .int .i64 (w64 (0 - n_))] 0 _ (by kernel_rfl) (fun w => by kernel_rfl) ?_
      exact QRun_done [2] (by kernel_rfl) (by kernel_rfl)
    have hF := M.ret_some hF
    subst hF
    exact Run_ret1 rfl (ResV_tmp (v := .int .i64 (w64 (0 - n_))) (by kernel_rfl)) ⟨rfl, rfl⟩
  · have hF := (M.ite_some hF).2 hb1
    refine Run_skip ?_
    refine Run_seq ?_
    refine Run_reg 2 (by kernel_rfl) (L' := [(2, .int .i64 n_)]) ?_ ?_
    · refine QRun_b [.int .i64 n_, .int .i64 n_] 0 _ (by kernel_rfl) (fun w => by kernel_rfl) ?_
      exact QRun_done [2] (by kernel_rfl) (by kernel_rfl)
    have hF := M.ret_some hF
    subst hF
    exact Run_ret1 rfl (ResV_tmp (v := .int .i64 n_) (by kernel_rfl)) ⟨rfl, rfl⟩

set_option maxRecDepth 100000 in
set_option maxHeartbeats 4000000 in
theorem w_impl_divisorOf (h : Heap) (a_ : Int) (b : Int) (n : Nat) (r : Int) (hF : impl_divisorOf a_ b n = some r) :
    Fn Try.prog 112 #[.int .i64 a_, .int .i64 b] h fun v h' => v = .int .i64 r ∧ h' = h := by
  unfold impl_divisorOf at hF
  refine Fn_enter (args := [.int .i64 a_, .int .i64 b]) Try.func112 rfl (by kernel_rfl) (by kernel_rfl) (fun w0 _ => ?_)
  refine Run_seq ?_
  refine Run_reg 1 (by kernel_rfl) (L' := [(0, .int .i64 a_), (1, .int .i64 b)]) ?_ ?_
  · refine QRun_b [.int .i64 0] 0 _ (by kernel_rfl) (fun w => by kernel_rfl) ?_
    exact QRun_done [0, 1] (by kernel_rfl) (by kernel_rfl)
  refine Run_seq ?_
  obtain ⟨x1, gx1, hF⟩ := M.bind_some hF
  refine Run_join (fun L' h' => L' = [(0, .int .i64 x1.1)] ∧ h = h') ?_ ?_
  · rintro _ _ ⟨rfl, rfl⟩
    refine Run_seq ?_
    refine Run_reg 2 (by kernel_rfl) (L' := [(4, .int .i64 x1.1)]) ?_ ?_
    · refine QRun_b [.int .i64 x1.1, .int .i64 x1.1] 0 _ (by kernel_rfl) (fun w => by kernel_rfl) ?_
      exact QRun_done [4] (by kernel_rfl) (by kernel_rfl)
    have hF := M.ret_some hF
    subst hF
    exact Run_ret1 rfl (ResV_tmp (v := .int .i64 x1.1) (by kernel_rfl)) ⟨rfl, rfl⟩
  · refine Run_block ?_
    refine Run_keep [0, 1] (L' := [(0, .int .i64 a_), (1, .int .i64 b)]) (by kernel_rfl) ?_
    refine Run_loop (fun m L' h' => ∃ (s1 : Int × Int), M.loopN _ n m s1 = some x1 ∧ L' = [(0, .int .i64 s1.1), (1, .int .i64 s1.2)] ∧ h = h') n ⟨(a_, b), gx1, rfl, rfl⟩ ?_
    rintro my1 _ _ ⟨s1, gx1, rfl, rfl⟩
    obtain ⟨my1, y1, rfl, hB1, hgoy1, houty1⟩ := M.loop_some gx1
    refine Run_seq ?_
    refine Run_seq ?_
    refine Run_reg 2 (by kernel_rfl) (L' := [(0, .int .i64 s1.1), (1, .int .i64 s1.2), (6, .bool (decide (0 < s1.2)))]) ?_ ?_
    · refine QRun_b [.int .i64 s1.2, .bool (decide (0 < s1.2))] 0 _ (by kernel_rfl) (fun w => by kernel_rfl) ?_
      exact QRun_done [0, 1, 6] (by kernel_rfl) (by kernel_rfl)
    refine Run_cond (b := decide (0 < s1.2)) (by kernel_rfl) (fun hb1 => ?_) (fun hb1 => ?_)
    · have hB1 := (M.ite_some hB1).1 hb1
      refine Run_skip ?_
      refine Run_block ?_
      obtain ⟨u1, hz1, hB1⟩ := M.bind_some hB1
      have hz1 := M.guard_some hz1
      refine Run_draw 6 mixed (by kernel_rfl) (by kernel_rfl) (L' := [(0, .int .i64 s1.2), (1, .int .i64 (s1.1.tmod s1.2))]) ?_ ?_
      · refine QRun_b [.int .i64 s1.2, .int .i64 s1.1, .int .i64 s1.2] 0 _ (by kernel_rfl) (fun w => by kernel_rfl) ?_
        refine QRun_y (.int .i64 (s1.1.tmod s1.2)) (by kernel_rfl) (Y_rem (op := .rem) (k := .i64) (x := s1.1) (y := s1.2) (by kernel_rfl) hz1) ?_
        refine QRun_b [.int .i64 s1.2, .int .i64 (s1.1.tmod s1.2)] 4 _ (by kernel_rfl) (fun w => by kernel_rfl) ?_
        exact QRun_done [0, 1] (by kernel_rfl) (by kernel_rfl)
      refine Run_blk ?_
      have hB1 := M.ret_some hB1
      have gx1 := hgoy1 _ hB1.symm
      exact Run_again [0, 1] (by kernel_rfl) my1 (Nat.lt_succ_self _) ⟨(s1.2, (s1.1.tmod s1.2)), gx1, rfl, rfl⟩
    · have hB1 := (M.ite_some hB1).2 hb1
      refine Run_exit (k' := _) rfl ?_
      have hB1 := M.ret_some hB1
      have gx1 := houty1 _ hB1.symm
      subst gx1
      exact Run_fall [0] (by kernel_rfl) ⟨rfl, rfl⟩

set_option maxRecDepth 100000 in
set_option maxHeartbeats 4000000 in
theorem w_impl_ratioOf (h : Heap) (num : Int) (den : Int) (n : Nat) (r : TRatio) (hF : impl_ratioOf num den n = some r) :
    Fn Try.prog 63 #[.int .i64 num, .int .i64 den] h fun v h' => v = .agg #[.int .i64 r.Num, .int .i64 r.Den] ∧ Hold h h' [] := by
  unfold impl_ratioOf at hF
  refine Fn_enter (args := [.int .i64 num, .int .i64 den]) Try.func63 rfl (by kernel_rfl) (by kernel_rfl) (fun w0 _ => ?_)
  have H0 := Hold.init h
  refine Run_seq ?_
  refine Run_ops ?_
  refine Run_E (by kernel_rfl) ?_
  refine E_box (ty := 26) (cs := [.int .i64 0, .int .i64 0]) H0 (fun w => by kernel_rfl) (fun b1 h1 H1 => ?_)
  refine Run_nil (by kernel_rfl) ?_
  refine Run_keep [0, 1, 4] (L' := [(0, .int .i64 num), (1, .int .i64 den), (4, .pointer (some ⟨b1, 0, none⟩))]) (by kernel_rfl) ?_
  refine Run_seq ?_
  refine Run_seq ?_
  refine Run_reg 2 (by kernel_rfl) (L' := [(0, .int .i64 num), (1, .int .i64 den), (4, .pointer (some ⟨b1, 0, none⟩)), (7, .bool (decide (den < 0)))]) ?_ ?_
  · refine QRun_b [.int .i64 den, .bool (decide (den < 0))] 0 _ (by kernel_rfl) (fun w => by kernel_rfl) ?_
    exact QRun_done [0, 1, 4, 7] (by kernel_rfl) (by kernel_rfl)
  obtain ⟨s1, gs1, hF⟩ := M.bind_some hF
  refine Run_join (fun L' h' => L' = [(0, .int .i64 s1.1), (1, .int .i64 s1.2), (4, .pointer (some ⟨b1, 0, none⟩))] ∧ Hold h h' [box b1 26 [.int .i64 0, .int .i64 0]]) ?_ ?_
  · rintro _ h2 ⟨rfl, H2⟩
    refine Run_seq ?_
    obtain ⟨x1, hx1, hF⟩ := M.bind_some hF
    obtain ⟨x2, hx2, hF⟩ := M.bind_some hF
    refine Run_reg 5 (by kernel_rfl) (L' := [(0, .int .i64 s1.1), (1, .int .i64 s1.2), (4, .pointer (some ⟨b1, 0, none⟩)), (5, .int .i64 x2)]) ?_ ?_
    · refine QRun_b [.int .i64 s1.1] 0 _ (by kernel_rfl) (fun w => by kernel_rfl) ?_
      refine QRun_y (.int .i64 x1) (by kernel_rfl) (Y_callq (f := 128) (args := #[.int .i64 s1.1]) (v := .int .i64 x1) (by kernel_rfl) (w_impl_absOf h2 s1.1 _ _ hx1)) ?_
      refine QRun_b [.int .i64 s1.2] 2 _ (by kernel_rfl) (fun w => by kernel_rfl) ?_
      refine QRun_y (.int .i64 x2) (by kernel_rfl) (Y_callq (f := 112) (args := #[.int .i64 x1, .int .i64 s1.2]) (v := .int .i64 x2) (by kernel_rfl) (w_impl_divisorOf h2 x1 s1.2 _ _ hx2)) ?_
      refine QRun_b [.int .i64 x2] 4 _ (by kernel_rfl) (fun w => by kernel_rfl) ?_
      exact QRun_done [0, 1, 4, 5] (by kernel_rfl) (by kernel_rfl)
    refine Run_seq ?_
    obtain ⟨u1, hz1, hF⟩ := M.bind_some hF
    have hz1 := M.guard_some hz1
    obtain ⟨u2, hz2, hF⟩ := M.bind_some hF
    have hz2 := M.guard_some hz2
    refine Run_D (fun x => Hold h x [box b1 26 [.int .i64 0, .int .i64 0]]) (fun x => Hold h x [box b1 26 [.int .i64 0, .int .i64 0]]) mixed (by kernel_rfl) H2 Hold.stable (fun x Hy => (show Hold h x [box b1 26 [.int .i64 0, .int .i64 0]] from Hy).pick [0] (by kernel_rfl)) ?_
    refine DR_b 6 [.int .i64 s1.1, .int .i64 x2] 0 (by kernel_rfl) (by kernel_rfl) (by kernel_rfl) (fun w => by kernel_rfl) ?_
    refine DR_y 5 (i := 2) (.int .i64 (w64 (s1.1.tdiv x2))) (by kernel_rfl) (by kernel_rfl) (by kernel_rfl) (fun hx Hx => (YE.of (Y_quo (op := .quo) (k := .i64) (x := s1.1) (y := x2) (by kernel_rfl) hz1))) ?_
    refine DR_b 3 [.int .i64 s1.2, .int .i64 x2] 3 (by kernel_rfl) (by kernel_rfl) (by kernel_rfl) (fun w => by kernel_rfl) ?_
    refine DR_y 2 (i := 5) (.int .i64 (w64 (s1.2.tdiv x2))) (by kernel_rfl) (by kernel_rfl) (by kernel_rfl) (fun hx Hx => (YE.of (Y_quo (op := .quo) (k := .i64) (x := s1.2) (y := x2) (by kernel_rfl) hz2))) ?_
    refine DR_b 1 [.agg #[.int .i64 (w64 (s1.1.tdiv x2)), .int .i64 (w64 (s1.2.tdiv x2))]] 6 (by kernel_rfl) (by kernel_rfl) (by kernel_rfl) (fun w => by kernel_rfl) ?_
    refine DR_tail (i := 7) (by kernel_rfl) (by kernel_rfl) (by kernel_rfl) (fun h3 H3 => ?_)
    have H4 : Hold h h3 [box b1 26 [.int .i64 0, .int .i64 0]] := H3
    refine Run_E (by kernel_rfl) ?_
    refine E_bput (t := 26) (off := 0) (us := [.int .i64 (w64 (s1.1.tdiv x2)), .int .i64 (w64 (s1.2.tdiv x2))]) (v := .agg #[.int .i64 (w64 (s1.1.tdiv x2)), .int .i64 (w64 (s1.2.tdiv x2))]) H4 (by kernel_rfl) (by kernel_rfl) rfl (by kernel_rfl) rfl (fun h4 H5 => ?_)
    refine Run_nil (by kernel_rfl) ?_
    refine Run_keep [4] (L' := [(4, .pointer (some ⟨b1, 0, none⟩))]) (by kernel_rfl) ?_
    have hF := M.ret_some hF
    subst hF
    have H6 : Hold h h4 [] := H5.pick [] (by kernel_rfl)
    exact Run_ret1 rfl (ResV_cell (n := 2) (cs := [.int .i64 (w64 (s1.1.tdiv x2)), .int .i64 (w64 (s1.2.tdiv x2))]) (by kernel_rfl) (fun w => by kernel_rfl) (by kernel_rfl) rfl (H5.cells (n := 2) (off := 0) 0 rfl rfl)) ⟨rfl, H6⟩
  · refine Run_cond (b := decide (den < 0)) (by kernel_rfl) (fun hb1 => ?_) (fun hb1 => ?_)
    · have gs1 := (M.ite_some gs1).1 hb1
      refine Run_reg 6 (by kernel_rfl) (L' := [(0, .int .i64 (w64 (0 - num))), (1, .int .i64 (w64 (0 - den))), (4, .pointer (some ⟨b1, 0, none⟩))]) ?_ ?_
      · refine QRun_b [.int .i64 num, .int .i64 (w64 (0 - num)), .int .i64 den, .int .i64 (w64 (0 - den)), .int .i64 (w64 (0 - num)), .int .i64 (w64 (0 - den))] 0 _ (by kernel_rfl) (fun w => by kernel_rfl) ?_
        exact QRun_done [0, 1, 4] (by kernel_rfl) (by kernel_rfl)
      have gs1 := M.ret_some gs1
      subst gs1
      exact Run_fall [0, 1, 4] (by kernel_rfl) ⟨rfl, H1⟩
    · have gs1 := (M.ite_some gs1).2 hb1
      refine Run_skip ?_
      have gs1 := M.ret_some gs1
      subst gs1
      exact Run_fall [0, 1, 4] (by kernel_rfl) ⟨rfl, H1⟩

set_option maxRecDepth 100000 in
set_option maxHeartbeats 4000000 in
theorem w_impl_IsRatio (h : Heap) (r_ : TRatio) (n : Nat) (r : Bool) (hF : impl_IsRatio r_ n = some r) :
    Fn Try.prog 127 #[.agg #[.int .i64 r_.Num, .int .i64 r_.Den]] h fun v h' => v = .bool r ∧ Hold h h' [] := by
  unfold impl_IsRatio at hF
  refine Fn_enter (args := [.agg #[.int .i64 r_.Num, .int .i64 r_.Den]]) Try.func127 rfl (by kernel_rfl) (by kernel_rfl) (fun w0 _ => ?_)
  have H0 := Hold.init h
  refine Run_seq ?_
  refine Run_ops ?_
  refine Run_E (by kernel_rfl) ?_
  refine E_box (ty := 26) (cs := [.int .i64 r_.Num, .int .i64 r_.Den]) H0 (fun w => by kernel_rfl) (fun b1 h1 H1 => ?_)
  refine Run_b [.bool false] 1 _ (by kernel_rfl) (fun w => by kernel_rfl) ?_
  refine Run_nil (by kernel_rfl) ?_
  refine Run_keep [1] (L' := [(1, .pointer (some ⟨b1, 0, none⟩))]) (by kernel_rfl) ?_
  refine Run_seq ?_
  obtain ⟨x1, hx1, hF⟩ := M.bind_some hF
  obtain ⟨x2, gx2, hF⟩ := M.bind_some hF
  obtain ⟨x4, gx4, hF⟩ := M.bind_some hF
  refine Run_draw 18 mixed (by kernel_rfl) (by kernel_rfl) (L' := [(2, .bool x4)]) ?_ ?_
  · refine QRun_b [.pointer (some ⟨b1, 0, none⟩)] 0 _ (by kernel_rfl) (fun w => by kernel_rfl) ?_
    refine QRun_y (.int .i64 r_.Num) (by kernel_rfl) (Y_load1 (t := 2) (p := ⟨b1, 0, none⟩) (v := .int .i64 r_.Num) (by kernel_rfl) (fun w => by kernel_rfl) (H1.cell 0 rfl rfl)) ?_
    refine QRun_y (.bool x1) (by kernel_rfl) (Y_callq (f := 92) (args := #[.int .i64 r_.Num]) (v := .bool x1) (by kernel_rfl) (w_impl_isFinite h1 r_.Num _ _ hx1)) ?_
    refine QRun_seq 8 [(1, .pointer (some ⟨b1, 0, none⟩)), (10, .bool x2)] ?_ ?_
    · rcases Bool.eq_false_or_eq_true x1 with hb1 | hb1
      · refine QRun_bool x1 true (by kernel_rfl) (fun w => by kernel_rfl) hb1 ?_
        have gx2 := (M.ite_some gx2).1 hb1
        obtain ⟨x3, hx2, gx2⟩ := M.bind_some gx2
        have gx2 := M.ret_some gx2
        refine QRun_b [.pointer (some ⟨b1, 1, none⟩)] 4 _ (by kernel_rfl) (fun w => by kernel_rfl) ?_
        refine QRun_y (.int .i64 r_.Den) (by kernel_rfl) (Y_load1 (t := 2) (p := ⟨b1, 1, none⟩) (v := .int .i64 r_.Den) (by kernel_rfl) (fun w => by kernel_rfl) (H1.cell 0 rfl rfl)) ?_
        refine QRun_y (.bool x3) (by kernel_rfl) (Y_callq (f := 69) (args := #[.int .i64 r_.Den, .int .i64 1, .int .i64 1000000]) (v := .bool x3) (by kernel_rfl) (w_impl_within h1 r_.Den 1 1000000 _ _ hx2)) ?_
        refine QRun_bool x3 x2 (by kernel_rfl) (fun w => by kernel_rfl) gx2 ?_
        exact QRun_done [1, 10] (by kernel_rfl) (by kernel_rfl)
      · refine QRun_bool x1 false (by kernel_rfl) (fun w => by kernel_rfl) hb1 ?_
        have gx2 := M.ret_some ((M.ite_some gx2).2 hb1)
        refine QRun_n (by kernel_rfl) ?_
        refine QRun_n (by kernel_rfl) ?_
        refine QRun_n (by kernel_rfl) ?_
        refine QRun_bool false x2 (by kernel_rfl) (fun w => by kernel_rfl) gx2 ?_
        exact QRun_done [1, 10] (by kernel_rfl) (by kernel_rfl)
    refine QRun_seq 17 [(19, .bool x4)] ?_ ?_
    · rcases Bool.eq_false_or_eq_true x2 with hb2 | hb2
      · refine QRun_bool x2 true (by kernel_rfl) (fun w => by kernel_rfl) hb2 ?_
        have gx4 := (M.ite_some gx4).1 hb2
        obtain ⟨x5, hx3, gx4⟩ := M.bind_some gx4
        obtain ⟨x6, hx4, gx4⟩ := M.bind_some gx4
        have gx4 := M.ret_some gx4
        refine QRun_b [.pointer (some ⟨b1, 0, none⟩)] 9 _ (by kernel_rfl) (fun w => by kernel_rfl) ?_
        refine QRun_y (.int .i64 r_.Num) (by kernel_rfl) (Y_load1 (t := 2) (p := ⟨b1, 0, none⟩) (v := .int .i64 r_.Num) (by kernel_rfl) (fun w => by kernel_rfl) (H1.cell 0 rfl rfl)) ?_
        refine QRun_y (.int .i64 x5) (by kernel_rfl) (Y_callq (f := 128) (args := #[.int .i64 r_.Num]) (v := .int .i64 x5) (by kernel_rfl) (w_impl_absOf h1 r_.Num _ _ hx3)) ?_
        refine QRun_b [.pointer (some ⟨b1, 1, none⟩)] 12 _ (by kernel_rfl) (fun w => by kernel_rfl) ?_
        refine QRun_y (.int .i64 r_.Den) (by kernel_rfl) (Y_load1 (t := 2) (p := ⟨b1, 1, none⟩) (v := .int .i64 r_.Den) (by kernel_rfl) (fun w => by kernel_rfl) (H1.cell 0 rfl rfl)) ?_
        refine QRun_y (.int .i64 x6) (by kernel_rfl) (Y_callq (f := 112) (args := #[.int .i64 x5, .int .i64 r_.Den]) (v := .int .i64 x6) (by kernel_rfl) (w_impl_divisorOf h1 x5 r_.Den _ _ hx4)) ?_
        refine QRun_b [.bool (x6 == 1)] 15 _ (by kernel_rfl) (fun w => by kernel_rfl) ?_
        refine QRun_bool (x6 == 1) x4 (by kernel_rfl) (fun w => by kernel_rfl) gx4 ?_
        exact QRun_done [19] (by kernel_rfl) (by kernel_rfl)
      · refine QRun_bool x2 false (by kernel_rfl) (fun w => by kernel_rfl) hb2 ?_
        have gx4 := M.ret_some ((M.ite_some gx4).2 hb2)
        refine QRun_n (by kernel_rfl) ?_
        refine QRun_n (by kernel_rfl) ?_
        refine QRun_n (by kernel_rfl) ?_
        refine QRun_n (by kernel_rfl) ?_
        refine QRun_n (by kernel_rfl) ?_
        refine QRun_n (by kernel_rfl) ?_
        refine QRun_n (by kernel_rfl) ?_
        refine QRun_bool false x4 (by kernel_rfl) (fun w => by kernel_rfl) gx4 ?_
        exact QRun_done [19] (by kernel_rfl) (by kernel_rfl)
    refine QRun_b [.bool x4] 17 _ (by kernel_rfl) (fun w => by kernel_rfl) ?_
    exact QRun_done [2] (by kernel_rfl) (by kernel_rfl)
  have hF := M.ret_some hF
  subst hF
  have H2 : Hold h h1 [] := H1.pick [] (by kernel_rfl)
  exact Run_ret1 rfl (ResV_tmp (v := .bool x4) (by kernel_rfl)) ⟨rfl, H2⟩

set_option maxRecDepth 100000 in
set_option maxHeartbeats 4000000 in
theorem w_impl_checkedRatio (h : Heap) (r_ : TRatio) (n : Nat) (r : TRatio × Int) (hF : impl_checkedRatio r_ n = some r) :
    Fn Try.prog 62 #[.agg #[.int .i64 r_.Num, .int .i64 r_.Den]] h fun v h' => v = .tuple #[.agg #[.int .i64 r.1.Num, .int .i64 r.1.Den], .int .i64 r.2] ∧ Hold h h' [] := by
  unfold impl_checkedRatio at hF
  refine Fn_enter (args := [.agg #[.int .i64 r_.Num, .int .i64 r_.Den]]) Try.func62 rfl (by kernel_rfl) (by kernel_rfl) (fun w0 _ => ?_)
  have H0 := Hold.init h
  refine Run_seq ?_
  refine Run_ops ?_
  refine Run_E (by kernel_rfl) ?_
  refine E_box (ty := 26) (cs := [.int .i64 r_.Num, .int .i64 r_.Den]) H0 (fun w => by kernel_rfl) (fun b1 h1 H1 => ?_)
  refine Run_E (by kernel_rfl) ?_
  refine E_box (ty := 26) (cs := [.int .i64 0, .int .i64 0]) H1 (fun w => by kernel_rfl) (fun b2 h2 H2 => ?_)
  refine Run_b [.int .i64 0] 2 _ (by kernel_rfl) (fun w => by kernel_rfl) ?_
  refine Run_nil (by kernel_rfl) ?_
  refine Run_keep [1, 2] (L' := [(1, .pointer (some ⟨b1, 0, none⟩)), (2, .pointer (some ⟨b2, 0, none⟩))]) (by kernel_rfl) ?_
  refine Run_seq ?_
  refine Run_seq ?_
  obtain ⟨x1, hx1, hF⟩ := M.bind_some hF
  refine Run_regC (j := 3) (C := fun x => Hold h x [box b2 26 [.int .i64 0, .int .i64 0], box b1 26 [.int .i64 r_.Num, .int .i64 r_.Den]]) (by kernel_rfl) H2 (L' := [(1, .pointer (some ⟨b1, 0, none⟩)), (2, .pointer (some ⟨b2, 0, none⟩)), (6, .bool (!x1))]) ?_ (fun h3 H3 => ?_)
  · refine QRun_y (.agg #[.int .i64 r_.Num, .int .i64 r_.Den]) (by kernel_rfl) (Y_cls fun hx Hx => (Y_loadA (t := 26) (n := 2) (p := ⟨b1, 0, none⟩) (cs := [.int .i64 r_.Num, .int .i64 r_.Den]) (by kernel_rfl) (fun w => by kernel_rfl) (by kernel_rfl) rfl (Hx.cells (n := 2) (off := 0) 1 rfl rfl))) ?_
    refine QRun_y (.bool x1) (by kernel_rfl) (Y_call (f := 127) (args := #[.agg #[.int .i64 r_.Num, .int .i64 r_.Den]]) (v := .bool x1) (by kernel_rfl) fun hx Hx => (w_impl_IsRatio hx r_ _ _ hx1).mono fun _ _ ⟨e, H'⟩ => ⟨e, Hx.call H' rfl⟩) ?_
    refine QRun_b [.bool (!x1)] 2 _ (by kernel_rfl) (fun w => by kernel_rfl) ?_
    exact QRun_done [1, 2, 6] (by kernel_rfl) (by kernel_rfl)
  have H4 : Hold h h3 [box b2 26 [.int .i64 0, .int .i64 0], box b1 26 [.int .i64 r_.Num, .int .i64 r_.Den]] := H3
  refine Run_cond (b := !x1) (by kernel_rfl) (fun hb1 => ?_) (fun hb1 => ?_)
  · have hF := (M.ite_some hF).1 hb1
    refine Run_seq ?_
    refine Run_ops ?_
    refine Run_b [.agg #[.int .i64 0, .int .i64 0]] 0 _ (by kernel_rfl) (fun w => by kernel_rfl) ?_
    refine Run_E (by kernel_rfl) ?_
    refine E_bput (t := 26) (off := 0) (us := [.int .i64 0, .int .i64 0]) (v := .agg #[.int .i64 0, .int .i64 0]) H4 (by kernel_rfl) (by kernel_rfl) rfl (by kernel_rfl) rfl (fun h4 H5 => ?_)
    refine Run_b [.int .i64 3] 2 _ (by kernel_rfl) (fun w => by kernel_rfl) ?_
    refine Run_nil (by kernel_rfl) ?_
    refine Run_keep [2, 3] (L' := [(2, .pointer (some ⟨b2, 0, none⟩)), (3, .int .i64 3)]) (by kernel_rfl) ?_
    have hF := M.ret_some hF
    subst hF
    have H6 : Hold h h4 [] := H5.pick [] (by kernel_rfl)
    exact Run_ret2 rfl (ResV_cell (n := 2) (cs := [.int .i64 0, .int .i64 0]) (by kernel_rfl) (fun w => by kernel_rfl) (by kernel_rfl) rfl (H5.cells (n := 2) (off := 0) 0 rfl rfl)) (ResV_tmp (v := .int .i64 3) (by kernel_rfl)) ⟨rfl, H6⟩
  · have hF := (M.ite_some hF).2 hb1
    refine Run_skip ?_
    refine Run_seq ?_
    refine Run_ops ?_
    refine Run_y (.agg #[.int .i64 r_.Num, .int .i64 r_.Den]) (by kernel_rfl) (Y_loadA (t := 26) (n := 2) (p := ⟨b1, 0, none⟩) (cs := [.int .i64 r_.Num, .int .i64 r_.Den]) (by kernel_rfl) (fun w => by kernel_rfl) (by kernel_rfl) rfl (H4.cells (n := 2) (off := 0) 1 rfl rfl)) ?_
    refine Run_E (by kernel_rfl) ?_
    refine E_bput (t := 26) (off := 0) (us := [.int .i64 r_.Num, .int .i64 r_.Den]) (v := .agg #[.int .i64 r_.Num, .int .i64 r_.Den]) H4 (by kernel_rfl) (by kernel_rfl) rfl (by kernel_rfl) rfl (fun h5 H7 => ?_)
    refine Run_b [.int .i64 0] 2 _ (by kernel_rfl) (fun w => by kernel_rfl) ?_
    refine Run_nil (by kernel_rfl) ?_
    refine Run_keep [2, 3] (L' := [(2, .pointer (some ⟨b2, 0, none⟩)), (3, .int .i64 0)]) (by kernel_rfl) ?_
    have hF := M.ret_some hF
    subst hF
    have H8 : Hold h h5 [] := H7.pick [] (by kernel_rfl)
    exact Run_ret2 rfl (ResV_cell (n := 2) (cs := [.int .i64 r_.Num, .int .i64 r_.Den]) (by kernel_rfl) (fun w => by kernel_rfl) (by kernel_rfl) rfl (H7.cells (n := 2) (off := 0) 0 rfl rfl)) (ResV_tmp (v := .int .i64 0) (by kernel_rfl)) ⟨rfl, H8⟩

set_option maxRecDepth 100000 in
set_option maxHeartbeats 4000000 in
theorem w_impl_OrbitRate (h : Heap) (a_ : List (List Int)) (aa_ : Option Addr) (ca_ : Nat) (ra_ : Rd cd23 h (Lt h) aa_ ca_ a_) (x_ : List Int) (ax_ : Option Addr) (cx_ : Nat) (rx_ : Rd cd2 h (Lt h) ax_ cx_ x_) (n : Nat) (r : TRatio × Int) (hF : impl_OrbitRate a_ x_ n = some r) :
    Fn Try.prog 13 #[.slice aa_ a_.length ca_, .slice ax_ x_.length cx_] h fun v h' => v = .tuple #[.agg #[.int .i64 r.1.Num, .int .i64 r.1.Den], .int .i64 r.2] ∧ Hold h h' [] := by
  unfold impl_OrbitRate at hF
  refine Fn_enter (args := [.slice aa_ a_.length ca_, .slice ax_ x_.length cx_]) Try.func13 rfl (by kernel_rfl) (by kernel_rfl) (fun w0 _ => ?_)
  have H0 := Hold.init h
  refine Run_seq ?_
  refine Run_ops ?_
  refine Run_E (by kernel_rfl) ?_
  refine E_box (ty := 26) (cs := [.int .i64 0, .int .i64 0]) H0 (fun w => by kernel_rfl) (fun b1 h1 H1 => ?_)
  refine Run_b [.int .i64 0] 1 _ (by kernel_rfl) (fun w => by kernel_rfl) ?_
  refine Run_nil (by kernel_rfl) ?_
  refine Run_keep [0, 1, 4] (L' := [(0, .slice aa_ a_.length ca_), (1, .slice ax_ x_.length cx_), (4, .pointer (some ⟨b1, 0, none⟩))]) (by kernel_rfl) ?_
  refine Run_seq ?_
  refine Run_seq ?_
  obtain ⟨x1, hx1, hF⟩ := M.bind_some hF
  refine Run_regC (j := 4) (C := fun x => Hold h x [box b1 26 [.int .i64 0, .int .i64 0]]) (by kernel_rfl) H1 (L' := [(0, .slice aa_ a_.length ca_), (1, .slice ax_ x_.length cx_), (4, .pointer (some ⟨b1, 0, none⟩)), (6, .int .i64 x1)]) ?_ (fun h2 H2 => ?_)
  · refine QRun_b [.slice aa_ a_.length ca_, .slice ax_ x_.length cx_] 0 _ (by kernel_rfl) (fun w => by kernel_rfl) ?_
    refine QRun_y (.int .i64 x1) (by kernel_rfl) (Y_call (f := 59) (args := #[.slice aa_ a_.length ca_, .slice ax_ x_.length cx_]) (v := .int .i64 x1) (by kernel_rfl) fun hx Hx => (w_impl_checkOrbit hx a_ aa_ ca_ (ra_.at Hx.ext) x_ ax_ cx_ (rx_.at Hx.ext) _ _ hx1).mono fun _ _ ⟨e, H'⟩ => ⟨e, Hx.call H' rfl⟩) ?_
    refine QRun_b [.int .i64 x1] 3 _ (by kernel_rfl) (fun w => by kernel_rfl) ?_
    exact QRun_done [0, 1, 4, 6] (by kernel_rfl) (by kernel_rfl)
  have H3 : Hold h h2 [box b1 26 [.int .i64 0, .int .i64 0]] := H2
  refine Run_seq ?_
  refine Run_reg 2 (by kernel_rfl) (L' := [(0, .slice aa_ a_.length ca_), (1, .slice ax_ x_.length cx_), (4, .pointer (some ⟨b1, 0, none⟩)), (6, .int .i64 x1), (14, .bool (x1 != 0))]) ?_ ?_
  · refine QRun_b [.int .i64 x1, .bool (x1 != 0)] 0 _ (by kernel_rfl) (fun w => by kernel_rfl) ?_
    exact QRun_done [0, 1, 4, 6, 14] (by kernel_rfl) (by kernel_rfl)
  refine Run_cond (b := x1 != 0) (by kernel_rfl) (fun hb1 => ?_) (fun hb1 => ?_)
  · have hF := (M.ite_some hF).1 hb1
    refine Run_seq ?_
    refine Run_ops ?_
    refine Run_b [.agg #[.int .i64 0, .int .i64 0], .int .i64 x1] 0 _ (by kernel_rfl) (fun w => by kernel_rfl) ?_
    refine Run_E (by kernel_rfl) ?_
    refine E_bput (t := 26) (off := 0) (us := [.int .i64 0, .int .i64 0]) (v := .agg #[.int .i64 0, .int .i64 0]) H3 (by kernel_rfl) (by kernel_rfl) rfl (by kernel_rfl) rfl (fun h3 H4 => ?_)
    refine Run_b [.int .i64 x1] 3 _ (by kernel_rfl) (fun w => by kernel_rfl) ?_
    refine Run_nil (by kernel_rfl) ?_
    refine Run_keep [4, 5] (L' := [(4, .pointer (some ⟨b1, 0, none⟩)), (5, .int .i64 x1)]) (by kernel_rfl) ?_
    have hF := M.ret_some hF
    subst hF
    have H5 : Hold h h3 [] := H4.pick [] (by kernel_rfl)
    exact Run_ret2 rfl (ResV_cell (n := 2) (cs := [.int .i64 0, .int .i64 0]) (by kernel_rfl) (fun w => by kernel_rfl) (by kernel_rfl) rfl (H4.cells (n := 2) (off := 0) 0 rfl rfl)) (ResV_tmp (v := .int .i64 x1) (by kernel_rfl)) ⟨rfl, H5⟩
  · have hF := (M.ite_some hF).2 hb1
    refine Run_skip ?_
    refine Run_seq ?_
    refine Run_ops ?_
    refine Run_b [.slice aa_ a_.length ca_, .slice ax_ x_.length cx_] 0 _ (by kernel_rfl) (fun w => by kernel_rfl) ?_
    obtain ⟨x2, hx2, hF⟩ := M.bind_some hF
    refine Run_E (by kernel_rfl) ?_
    refine E_call (f := 60) (args := #[.slice aa_ a_.length ca_, .slice ax_ x_.length cx_]) (w_impl_vectorOrbit h2 a_ aa_ ca_ (ra_.at H3.ext) x_ ax_ cx_ (rx_.at H3.ext) _ _ hx2) (by kernel_rfl) (fun v1 h4 hp1 => ?_)
    obtain ⟨b2, a1, c1, a2, c2, rfl, hd1, H6⟩ := hp1
    have H7 : Hold h h4 [box b2 88 [.slice a1 x2.matrix.length c1, .slice a2 x2.list.length c2], own cd22 a2 x2.list.length c2 x2.list, box b1 26 [.int .i64 0, .int .i64 0]] := H3.call H6 rfl
    have r1 := ra_.alias hd1
    refine Run_b [.pointer (some ⟨b2, 0, none⟩)] 3 _ (by kernel_rfl) (fun w => by kernel_rfl) ?_
    refine Run_nil (by kernel_rfl) ?_
    refine Run_keep [4, 7] (L' := [(4, .pointer (some ⟨b1, 0, none⟩)), (7, .pointer (some ⟨b2, 0, none⟩))]) (by kernel_rfl) ?_
    refine Run_seq ?_
    refine Run_ops ?_
    refine Run_b [.pointer (some ⟨b2, 0, none⟩)] 0 _ (by kernel_rfl) (fun w => by kernel_rfl) ?_
    obtain ⟨x3, hx3, hF⟩ := M.bind_some hF
    have H8 : Hold h h4 [own cd22 a2 x2.list.length c2 x2.list, box b2 88 [.slice a1 x2.matrix.length c1, .slice a2 x2.list.length c2], box b1 26 [.int .i64 0, .int .i64 0]] := H7.pick [1, 0, 2] (by kernel_rfl)
    have H9 : Hold h h4 [box b2 88 [.slice a1 x2.matrix.length c1, .slice a2 x2.list.length c2], own cd22 a2 x2.list.length c2 x2.list, box b1 26 [.int .i64 0, .int .i64 0]] := H8.pick [1, 0, 2] (by kernel_rfl)
    have H10 : Hold h h4 [box b2 88 [.slice a1 x2.matrix.length c1, .slice a2 x2.list.length c2], own cd22 a2 x2.list.length c2 x2.list, bun [box b1 26 [.int .i64 0, .int .i64 0]]] := Hold.bundle (S := [box b2 88 [.slice a1 x2.matrix.length c1, .slice a2 x2.list.length c2], own cd22 a2 x2.list.length c2 x2.list]) (R := [box b1 26 [.int .i64 0, .int .i64 0]]) H9
    refine Run_E (by kernel_rfl) ?_
    refine E_call (f := 61) (args := #[.pointer (some ⟨b2, 0, none⟩)]) (w_impl_orbit_firstRepeat_B h h4 _ x2 b2 a1 c1 r1 a2 c2 H10 _ _ hx3) (by kernel_rfl) (fun v2 h5 hp2 => ?_)
    obtain ⟨a3, c3, rfl, H11⟩ := hp2
    have H12 : Hold h h5 [box b2 88 [.slice a1 x2.matrix.length c1, .slice a3 x3.2.2.list.length c3], own cd22 a3 x3.2.2.list.length c3 x3.2.2.list, box b1 26 [.int .i64 0, .int .i64 0]] := Hold.unbundle (S := [box b2 88 [.slice a1 x2.matrix.length c1, .slice a3 x3.2.2.list.length c3], own cd22 a3 x3.2.2.list.length c3 x3.2.2.list]) (R := [box b1 26 [.int .i64 0, .int .i64 0]]) H11 (Hold.tailBase (S := [box b2 88 [.slice a1 x2.matrix.length c1, .slice a2 x2.list.length c2], own cd22 a2 x2.list.length c2 x2.list]) (R := [box b1 26 [.int .i64 0, .int .i64 0]]) H9)
    refine Run_b [.tuple #[.agg #[.int .i64 x3.1.at_, .int .i64 x3.1.period, .int .i64 x3.1.growth], .int .i64 x3.2.1], .agg #[.int .i64 x3.1.at_, .int .i64 x3.1.period, .int .i64 x3.1.growth], .int .i64 x3.2.1] 2 _ (by kernel_rfl) (fun w => by kernel_rfl) ?_
    refine Run_E (by kernel_rfl) ?_
    refine E_box (ty := 74) (cs := [.int .i64 0, .int .i64 0, .int .i64 0]) H12 (fun w => by kernel_rfl) (fun b3 h6 H13 => ?_)
    refine Run_E (by kernel_rfl) ?_
    refine E_bput (t := 74) (off := 0) (us := [.int .i64 x3.1.at_, .int .i64 x3.1.period, .int .i64 x3.1.growth]) (v := .agg #[.int .i64 x3.1.at_, .int .i64 x3.1.period, .int .i64 x3.1.growth]) H13 (by kernel_rfl) (by kernel_rfl) rfl (by kernel_rfl) rfl (fun h7 H14 => ?_)
    refine Run_b [.int .i64 x3.2.1] 7 _ (by kernel_rfl) (fun w => by kernel_rfl) ?_
    refine Run_nil (by kernel_rfl) ?_
    refine Run_keep [4, 8, 9] (L' := [(4, .pointer (some ⟨b1, 0, none⟩)), (8, .pointer (some ⟨b3, 0, none⟩)), (9, .int .i64 x3.2.1)]) (by kernel_rfl) ?_
    refine Run_seq ?_
    refine Run_seq ?_
    refine Run_reg 2 (by kernel_rfl) (L' := [(4, .pointer (some ⟨b1, 0, none⟩)), (8, .pointer (some ⟨b3, 0, none⟩)), (9, .int .i64 x3.2.1), (26, .bool (x3.2.1 != 0))]) ?_ ?_
    · refine QRun_b [.int .i64 x3.2.1, .bool (x3.2.1 != 0)] 0 _ (by kernel_rfl) (fun w => by kernel_rfl) ?_
      exact QRun_done [4, 8, 9, 26] (by kernel_rfl) (by kernel_rfl)
    refine Run_cond (b := x3.2.1 != 0) (by kernel_rfl) (fun hb2 => ?_) (fun hb2 => ?_)
    · have hF := (M.ite_some hF).1 hb2
      refine Run_seq ?_
      refine Run_ops ?_
      refine Run_b [.agg #[.int .i64 0, .int .i64 0], .int .i64 x3.2.1] 0 _ (by kernel_rfl) (fun w => by kernel_rfl) ?_
      have H16 : Hold h h7 [box b1 26 [.int .i64 0, .int .i64 0], box b3 74 [.int .i64 x3.1.at_, .int .i64 x3.1.period, .int .i64 x3.1.growth], box b2 88 [.slice a1 x2.matrix.length c1, .slice a3 x3.2.2.list.length c3], own cd22 a3 x3.2.2.list.length c3 x3.2.2.list] := H14.pick [3, 0, 1, 2] (by kernel_rfl)
      refine Run_E (by kernel_rfl) ?_
      refine E_bput (t := 26) (off := 0) (us := [.int .i64 0, .int .i64 0]) (v := .agg #[.int .i64 0, .int .i64 0]) H16 (by kernel_rfl) (by kernel_rfl) rfl (by kernel_rfl) rfl (fun h8 H15 => ?_)
      refine Run_b [.int .i64 x3.2.1] 3 _ (by kernel_rfl) (fun w => by kernel_rfl) ?_
      refine Run_nil (by kernel_rfl) ?_
      refine Run_keep [4, 5] (L' := [(4, .pointer (some ⟨b1, 0, none⟩)), (5, .int .i64 x3.2.1)]) (by kernel_rfl) ?_
      have hF := M.ret_some hF
      subst hF
      have H17 : Hold h h8 [] := H15.pick [] (by kernel_rfl)
      exact Run_ret2 rfl (ResV_cell (n := 2) (cs := [.int .i64 0, .int .i64 0]) (by kernel_rfl) (fun w => by kernel_rfl) (by kernel_rfl) rfl (H15.cells (n := 2) (off := 0) 0 rfl rfl)) (ResV_tmp (v := .int .i64 x3.2.1) (by kernel_rfl)) ⟨rfl, H17⟩
    · have hF := (M.ite_some hF).2 hb2
      refine Run_skip ?_
      refine Run_seq ?_
      refine Run_ops ?_
      refine Run_b [.pointer (some ⟨b3, 2, none⟩)] 0 _ (by kernel_rfl) (fun w => by kernel_rfl) ?_
      refine Run_y (.int .i64 x3.1.growth) (by kernel_rfl) (Y_load1 (t := 2) (p := ⟨b3, 2, none⟩) (v := .int .i64 x3.1.growth) (by kernel_rfl) (fun w => by kernel_rfl) (H14.cell 0 rfl rfl)) ?_
      refine Run_b [.pointer (some ⟨b3, 1, none⟩)] 2 _ (by kernel_rfl) (fun w => by kernel_rfl) ?_
      refine Run_y (.int .i64 x3.1.period) (by kernel_rfl) (Y_load1 (t := 2) (p := ⟨b3, 1, none⟩) (v := .int .i64 x3.1.period) (by kernel_rfl) (fun w => by kernel_rfl) (H14.cell 0 rfl rfl)) ?_
      obtain ⟨x4, hx4, hF⟩ := M.bind_some hF
      refine Run_E (by kernel_rfl) ?_
      refine E_call (f := 63) (args := #[.int .i64 x3.1.growth, .int .i64 x3.1.period]) (w_impl_ratioOf h7 x3.1.growth x3.1.period _ _ hx4) (by kernel_rfl) (fun v3 h9 hp3 => ?_)
      obtain ⟨rfl, H18⟩ := hp3
      have H19 : Hold h h9 [box b3 74 [.int .i64 x3.1.at_, .int .i64 x3.1.period, .int .i64 x3.1.growth], box b2 88 [.slice a1 x2.matrix.length c1, .slice a3 x3.2.2.list.length c3], own cd22 a3 x3.2.2.list.length c3 x3.2.2.list, box b1 26 [.int .i64 0, .int .i64 0]] := H14.call H18 rfl
      obtain ⟨x5, hx5, hF⟩ := M.bind_some hF
      refine Run_E (by kernel_rfl) ?_
      refine E_call (f := 62) (args := #[.agg #[.int .i64 x4.Num, .int .i64 x4.Den]]) (w_impl_checkedRatio h9 x4 _ _ hx5) (by kernel_rfl) (fun v4 h10 hp4 => ?_)
      obtain ⟨rfl, H20⟩ := hp4
      have H21 : Hold h h10 [box b3 74 [.int .i64 x3.1.at_, .int .i64 x3.1.period, .int .i64 x3.1.growth], box b2 88 [.slice a1 x2.matrix.length c1, .slice a3 x3.2.2.list.length c3], own cd22 a3 x3.2.2.list.length c3 x3.2.2.list, box b1 26 [.int .i64 0, .int .i64 0]] := H19.call H20 rfl
      refine Run_b [.agg #[.int .i64 x5.1.Num, .int .i64 x5.1.Den], .int .i64 x5.2] 6 _ (by kernel_rfl) (fun w => by kernel_rfl) ?_
      have H23 : Hold h h10 [box b1 26 [.int .i64 0, .int .i64 0], box b3 74 [.int .i64 x3.1.at_, .int .i64 x3.1.period, .int .i64 x3.1.growth], box b2 88 [.slice a1 x2.matrix.length c1, .slice a3 x3.2.2.list.length c3], own cd22 a3 x3.2.2.list.length c3 x3.2.2.list] := H21.pick [3, 0, 1, 2] (by kernel_rfl)
      refine Run_E (by kernel_rfl) ?_
      refine E_bput (t := 26) (off := 0) (us := [.int .i64 x5.1.Num, .int .i64 x5.1.Den]) (v := .agg #[.int .i64 x5.1.Num, .int .i64 x5.1.Den]) H23 (by kernel_rfl) (by kernel_rfl) rfl (by kernel_rfl) rfl (fun h11 H22 => ?_)
      refine Run_b [.int .i64 x5.2] 9 _ (by kernel_rfl) (fun w => by kernel_rfl) ?_
      refine Run_nil (by kernel_rfl) ?_
      refine Run_keep [4, 5] (L' := [(4, .pointer (some ⟨b1, 0, none⟩)), (5, .int .i64 x5.2)]) (by kernel_rfl) ?_
      have hF := M.ret_some hF
      subst hF
      have H24 : Hold h h11 [] := H22.pick [] (by kernel_rfl)
      exact Run_ret2 rfl (ResV_cell (n := 2) (cs := [.int .i64 x5.1.Num, .int .i64 x5.1.Den]) (by kernel_rfl) (fun w => by kernel_rfl) (by kernel_rfl) rfl (H22.cells (n := 2) (off := 0) 0 rfl rfl)) (ResV_tmp (v := .int .i64 x5.2) (by kernel_rfl)) ⟨rfl, H24⟩

set_option maxRecDepth 100000 in
set_option maxHeartbeats 4000000 in
theorem w_spec_l01Divisor (h : Heap) (a_ : Int) (b : Int) (n : Nat) (r : Int) (hF : spec_l01Divisor a_ b n = some r) :
    Fn Try.prog 126 #[.int .i64 a_, .int .i64 b] h fun v h' => v = .int .i64 r ∧ h' = h := by
  unfold spec_l01Divisor at hF
  refine Fn_enter (args := [.int .i64 a_, .int .i64 b]) Try.func126 rfl (by kernel_rfl) (by kernel_rfl) (fun w0 _ => ?_)
  refine Run_seq ?_
  refine Run_reg 1 (by kernel_rfl) (L' := [(0, .int .i64 a_), (1, .int .i64 b)]) ?_ ?_
  · refine QRun_b [.int .i64 0] 0 _ (by kernel_rfl) (fun w => by kernel_rfl) ?_
    exact QRun_done [0, 1] (by kernel_rfl) (by kernel_rfl)
  refine Run_seq ?_
  refine Run_reg 10 (by kernel_rfl) (L' := [(0, .int .i64 (mx a_ (w64 (0 - a_)))), (1, .int .i64 (mx b (w64 (0 - b))))]) ?_ ?_
  · refine QRun_b [.int .i64 a_, .int .i64 a_, .int .i64 (w64 (0 - a_)), .int .i64 (mx a_ (w64 (0 - a_))), .int .i64 b, .int .i64 b, .int .i64 (w64 (0 - b)), .int .i64 (mx b (w64 (0 - b))), .int .i64 (mx a_ (w64 (0 - a_))), .int .i64 (mx b (w64 (0 - b)))] 0 _ (by kernel_rfl) (fun w => by kernel_rfl) ?_
    exact QRun_done [0, 1] (by kernel_rfl) (by kernel_rfl)
  refine Run_seq ?_
  obtain ⟨x1, gx1, hF⟩ := M.bind_some hF
  refine Run_join (fun L' h' => L' = [(0, .int .i64 x1.1)] ∧ h = h') ?_ ?_
  · rintro _ _ ⟨rfl, rfl⟩
    refine Run_seq ?_
    refine Run_reg 2 (by kernel_rfl) (L' := [(4, .int .i64 x1.1)]) ?_ ?_
    · refine QRun_b [.int .i64 x1.1, .int .i64 x1.1] 0 _ (by kernel_rfl) (fun w => by kernel_rfl) ?_
      exact QRun_done [4] (by kernel_rfl) (by kernel_rfl)
    have hF := M.ret_some hF
    subst hF
    exact Run_ret1 rfl (ResV_tmp (v := .int .i64 x1.1) (by kernel_rfl)) ⟨rfl, rfl⟩
  · refine Run_block ?_
    refine Run_keep [0, 1] (L' := [(0, .int .i64 (mx a_ (w64 (0 - a_)))), (1, .int .i64 (mx b (w64 (0 - b))))]) (by kernel_rfl) ?_
    refine Run_loop (fun m L' h' => ∃ (s1 : Int × Int), M.loopN _ n m s1 = some x1 ∧ L' = [(0, .int .i64 s1.1), (1, .int .i64 s1.2)] ∧ h = h') n ⟨((mx a_ (w64 (0 - a_))), (mx b (w64 (0 - b)))), gx1, rfl, rfl⟩ ?_
    rintro my1 _ _ ⟨s1, gx1, rfl, rfl⟩
    obtain ⟨my1, y1, rfl, hB1, hgoy1, houty1⟩ := M.loop_some gx1
    refine Run_seq ?_
    refine Run_seq ?_
    refine Run_reg 2 (by kernel_rfl) (L' := [(0, .int .i64 s1.1), (1, .int .i64 s1.2), (14, .bool (decide (0 < s1.2)))]) ?_ ?_
    · refine QRun_b [.int .i64 s1.2, .bool (decide (0 < s1.2))] 0 _ (by kernel_rfl) (fun w => by kernel_rfl) ?_
      exact QRun_done [0, 1, 14] (by kernel_rfl) (by kernel_rfl)
    refine Run_cond (b := decide (0 < s1.2)) (by kernel_rfl) (fun hb1 => ?_) (fun hb1 => ?_)
    · have hB1 := (M.ite_some hB1).1 hb1
      refine Run_skip ?_
      refine Run_block ?_
      obtain ⟨u1, hz1, hB1⟩ := M.bind_some hB1
      have hz1 := M.guard_some hz1
      refine Run_draw 6 mixed (by kernel_rfl) (by kernel_rfl) (L' := [(0, .int .i64 s1.2), (1, .int .i64 (s1.1.tmod s1.2))]) ?_ ?_
      · refine QRun_b [.int .i64 s1.2, .int .i64 s1.1, .int .i64 s1.2] 0 _ (by kernel_rfl) (fun w => by kernel_rfl) ?_
        refine QRun_y (.int .i64 (s1.1.tmod s1.2)) (by kernel_rfl) (Y_rem (op := .rem) (k := .i64) (x := s1.1) (y := s1.2) (by kernel_rfl) hz1) ?_
        refine QRun_b [.int .i64 s1.2, .int .i64 (s1.1.tmod s1.2)] 4 _ (by kernel_rfl) (fun w => by kernel_rfl) ?_
        exact QRun_done [0, 1] (by kernel_rfl) (by kernel_rfl)
      refine Run_blk ?_
      have hB1 := M.ret_some hB1
      have gx1 := hgoy1 _ hB1.symm
      exact Run_again [0, 1] (by kernel_rfl) my1 (Nat.lt_succ_self _) ⟨(s1.2, (s1.1.tmod s1.2)), gx1, rfl, rfl⟩
    · have hB1 := (M.ite_some hB1).2 hb1
      refine Run_exit (k' := _) rfl ?_
      have hB1 := M.ret_some hB1
      have gx1 := houty1 _ hB1.symm
      subst gx1
      exact Run_fall [0] (by kernel_rfl) ⟨rfl, rfl⟩

set_option maxRecDepth 100000 in
set_option maxHeartbeats 4000000 in
theorem w_spec_l01Ratio (h : Heap) (num : Int) (den : Int) (n : Nat) (r : TRatio) (hF : spec_l01Ratio num den n = some r) :
    Fn Try.prog 58 #[.int .i64 num, .int .i64 den] h fun v h' => v = .agg #[.int .i64 r.Num, .int .i64 r.Den] ∧ Hold h h' [] := by
  unfold spec_l01Ratio at hF
  refine Fn_enter (args := [.int .i64 num, .int .i64 den]) Try.func58 rfl (by kernel_rfl) (by kernel_rfl) (fun w0 _ => ?_)
  have H0 := Hold.init h
  refine Run_seq ?_
  refine Run_ops ?_
  refine Run_E (by kernel_rfl) ?_
  refine E_box (ty := 26) (cs := [.int .i64 0, .int .i64 0]) H0 (fun w => by kernel_rfl) (fun b1 h1 H1 => ?_)
  refine Run_nil (by kernel_rfl) ?_
  refine Run_keep [0, 1, 4] (L' := [(0, .int .i64 num), (1, .int .i64 den), (4, .pointer (some ⟨b1, 0, none⟩))]) (by kernel_rfl) ?_
  refine Run_seq ?_
  refine Run_seq ?_
  refine Run_reg 2 (by kernel_rfl) (L' := [(0, .int .i64 num), (1, .int .i64 den), (4, .pointer (some ⟨b1, 0, none⟩)), (7, .bool (decide (den < 0)))]) ?_ ?_
  · refine QRun_b [.int .i64 den, .bool (decide (den < 0))] 0 _ (by kernel_rfl) (fun w => by kernel_rfl) ?_
    exact QRun_done [0, 1, 4, 7] (by kernel_rfl) (by kernel_rfl)
  obtain ⟨s1, gs1, hF⟩ := M.bind_some hF
  refine Run_join (fun L' h' => L' = [(0, .int .i64 s1.1), (1, .int .i64 s1.2), (4, .pointer (some ⟨b1, 0, none⟩))] ∧ Hold h h' [box b1 26 [.int .i64 0, .int .i64 0]]) ?_ ?_
  · rintro _ h2 ⟨rfl, H2⟩
    refine Run_seq ?_
    obtain ⟨x1, hx1, hF⟩ := M.bind_some hF
    refine Run_reg 4 (by kernel_rfl) (L' := [(0, .int .i64 s1.1), (1, .int .i64 s1.2), (4, .pointer (some ⟨b1, 0, none⟩)), (5, .int .i64 x1)]) ?_ ?_
    · refine QRun_b [.int .i64 s1.1, .int .i64 s1.2] 0 _ (by kernel_rfl) (fun w => by kernel_rfl) ?_
      refine QRun_y (.int .i64 x1) (by kernel_rfl) (Y_callq (f := 126) (args := #[.int .i64 s1.1, .int .i64 s1.2]) (v := .int .i64 x1) (by kernel_rfl) (w_spec_l01Divisor h2 s1.1 s1.2 _ _ hx1)) ?_
      refine QRun_b [.int .i64 x1] 3 _ (by kernel_rfl) (fun w => by kernel_rfl) ?_
      exact QRun_done [0, 1, 4, 5] (by kernel_rfl) (by kernel_rfl)
    refine Run_seq ?_
    obtain ⟨u1, hz1, hF⟩ := M.bind_some hF
    have hz1 := M.guard_some hz1
    obtain ⟨u2, hz2, hF⟩ := M.bind_some hF
    have hz2 := M.guard_some hz2
    refine Run_D (fun x => Hold h x [box b1 26 [.int .i64 0, .int .i64 0]]) (fun x => Hold h x [box b1 26 [.int .i64 0, .int .i64 0]]) mixed (by kernel_rfl) H2 Hold.stable (fun x Hy => (show Hold h x [box b1 26 [.int .i64 0, .int .i64 0]] from Hy).pick [0] (by kernel_rfl)) ?_
    refine DR_b 6 [.int .i64 s1.1, .int .i64 x1] 0 (by kernel_rfl) (by kernel_rfl) (by kernel_rfl) (fun w => by kernel_rfl) ?_
    refine DR_y 5 (i := 2) (.int .i64 (w64 (s1.1.tdiv x1))) (by kernel_rfl) (by kernel_rfl) (by kernel_rfl) (fun hx Hx => (YE.of (Y_quo (op := .quo) (k := .i64) (x := s1.1) (y := x1) (by kernel_rfl) hz1))) ?_
    refine DR_b 3 [.int .i64 s1.2, .int .i64 x1] 3 (by kernel_rfl) (by kernel_rfl) (by kernel_rfl) (fun w => by kernel_rfl) ?_
    refine DR_y 2 (i := 5) (.int .i64 (w64 (s1.2.tdiv x1))) (by kernel_rfl) (by kernel_rfl) (by kernel_rfl) (fun hx Hx => (YE.of (Y_quo (op := .quo) (k := .i64) (x := s1.2) (y := x1) (by kernel_rfl) hz2))) ?_
    refine DR_b 1 [.agg #[.int .i64 (w64 (s1.1.tdiv x1)), .int .i64 (w64 (s1.2.tdiv x1))]] 6 (by kernel_rfl) (by kernel_rfl) (by kernel_rfl) (fun w => by kernel_rfl) ?_
    refine DR_tail (i := 7) (by kernel_rfl) (by kernel_rfl) (by kernel_rfl) (fun h3 H3 => ?_)
    have H4 : Hold h h3 [box b1 26 [.int .i64 0, .int .i64 0]] := H3
    refine Run_E (by kernel_rfl) ?_
    refine E_bput (t := 26) (off := 0) (us := [.int .i64 (w64 (s1.1.tdiv x1)), .int .i64 (w64 (s1.2.tdiv x1))]) (v := .agg #[.int .i64 (w64 (s1.1.tdiv x1)), .int .i64 (w64 (s1.2.tdiv x1))]) H4 (by kernel_rfl) (by kernel_rfl) rfl (by kernel_rfl) rfl (fun h4 H5 => ?_)
    refine Run_nil (by kernel_rfl) ?_
    refine Run_keep [4] (L' := [(4, .pointer (some ⟨b1, 0, none⟩))]) (by kernel_rfl) ?_
    have hF := M.ret_some hF
    subst hF
    have H6 : Hold h h4 [] := H5.pick [] (by kernel_rfl)
    exact Run_ret1 rfl (ResV_cell (n := 2) (cs := [.int .i64 (w64 (s1.1.tdiv x1)), .int .i64 (w64 (s1.2.tdiv x1))]) (by kernel_rfl) (fun w => by kernel_rfl) (by kernel_rfl) rfl (H5.cells (n := 2) (off := 0) 0 rfl rfl)) ⟨rfl, H6⟩
  · refine Run_cond (b := decide (den < 0)) (by kernel_rfl) (fun hb1 => ?_) (fun hb1 => ?_)
    · have gs1 := (M.ite_some gs1).1 hb1
      refine Run_reg 6 (by kernel_rfl) (L' := [(0, .int .i64 (w64 (0 - num))), (1, .int .i64 (w64 (0 - den))), (4, .pointer (some ⟨b1, 0, none⟩))]) ?_ ?_
      · refine QRun_b [.int .i64 num, .int .i64 (w64 (0 - num)), .int .i64 den, .int .i64 (w64 (0 - den)), .int .i64 (w64 (0 - num)), .int .i64 (w64 (0 - den))] 0 _ (by kernel_rfl) (fun w => by kernel_rfl) ?_
        exact QRun_done [0, 1, 4] (by kernel_rfl) (by kernel_rfl)
      have gs1 := M.ret_some gs1
      subst gs1
      exact Run_fall [0, 1, 4] (by kernel_rfl) ⟨rfl, H1⟩
    · have gs1 := (M.ite_some gs1).2 hb1
      refine Run_skip ?_
      have gs1 := M.ret_some gs1
      subst gs1
      exact Run_fall [0, 1, 4] (by kernel_rfl) ⟨rfl, H1⟩

set_option maxRecDepth 100000 in
set_option maxHeartbeats 4000000 in
theorem w_spec_IsRatio (h : Heap) (r_ : TRatio) (n : Nat) (r : Bool) (hF : spec_IsRatio r_ n = some r) :
    Fn Try.prog 125 #[.agg #[.int .i64 r_.Num, .int .i64 r_.Den]] h fun v h' => v = .bool r ∧ Hold h h' [] := by
  unfold spec_IsRatio at hF
  refine Fn_enter (args := [.agg #[.int .i64 r_.Num, .int .i64 r_.Den]]) Try.func125 rfl (by kernel_rfl) (by kernel_rfl) (fun w0 _ => ?_)
  have H0 := Hold.init h
  refine Run_seq ?_
  refine Run_ops ?_
  refine Run_E (by kernel_rfl) ?_
  refine E_box (ty := 26) (cs := [.int .i64 r_.Num, .int .i64 r_.Den]) H0 (fun w => by kernel_rfl) (fun b1 h1 H1 => ?_)
  refine Run_b [.bool false] 1 _ (by kernel_rfl) (fun w => by kernel_rfl) ?_
  refine Run_nil (by kernel_rfl) ?_
  refine Run_keep [1] (L' := [(1, .pointer (some ⟨b1, 0, none⟩))]) (by kernel_rfl) ?_
  refine Run_seq ?_
  obtain ⟨x1, hx1, hF⟩ := M.bind_some hF
  obtain ⟨x2, gx2, hF⟩ := M.bind_some hF
  obtain ⟨x4, gx4, hF⟩ := M.bind_some hF
  refine Run_reg 17 (by kernel_rfl) (L' := [(2, .bool x4)]) ?_ ?_
  · refine QRun_b [.pointer (some ⟨b1, 0, none⟩)] 0 _ (by kernel_rfl) (fun w => by kernel_rfl) ?_
    refine QRun_y (.int .i64 r_.Num) (by kernel_rfl) (Y_load1 (t := 2) (p := ⟨b1, 0, none⟩) (v := .int .i64 r_.Num) (by kernel_rfl) (fun w => by kernel_rfl) (H1.cell 0 rfl rfl)) ?_
    refine QRun_y (.bool x1) (by kernel_rfl) (Y_callq (f := 101) (args := #[.int .i64 r_.Num]) (v := .bool x1) (by kernel_rfl) (w_spec_l01Finite h1 r_.Num _ _ hx1)) ?_
    refine QRun_seq 8 [(1, .pointer (some ⟨b1, 0, none⟩)), (10, .bool x2)] ?_ ?_
    · rcases Bool.eq_false_or_eq_true x1 with hb1 | hb1
      · refine QRun_bool x1 true (by kernel_rfl) (fun w => by kernel_rfl) hb1 ?_
        have gx2 := (M.ite_some gx2).1 hb1
        obtain ⟨x3, hx2, gx2⟩ := M.bind_some gx2
        have gx2 := M.ret_some gx2
        refine QRun_b [.pointer (some ⟨b1, 1, none⟩)] 4 _ (by kernel_rfl) (fun w => by kernel_rfl) ?_
        refine QRun_y (.int .i64 r_.Den) (by kernel_rfl) (Y_load1 (t := 2) (p := ⟨b1, 1, none⟩) (v := .int .i64 r_.Den) (by kernel_rfl) (fun w => by kernel_rfl) (H1.cell 0 rfl rfl)) ?_
        refine QRun_y (.bool x3) (by kernel_rfl) (Y_callq (f := 75) (args := #[.int .i64 r_.Den, .int .i64 1, .int .i64 1000000]) (v := .bool x3) (by kernel_rfl) (w_spec_l01In h1 r_.Den 1 1000000 _ _ hx2)) ?_
        refine QRun_bool x3 x2 (by kernel_rfl) (fun w => by kernel_rfl) gx2 ?_
        exact QRun_done [1, 10] (by kernel_rfl) (by kernel_rfl)
      · refine QRun_bool x1 false (by kernel_rfl) (fun w => by kernel_rfl) hb1 ?_
        have gx2 := M.ret_some ((M.ite_some gx2).2 hb1)
        refine QRun_n (by kernel_rfl) ?_
        refine QRun_n (by kernel_rfl) ?_
        refine QRun_n (by kernel_rfl) ?_
        refine QRun_bool false x2 (by kernel_rfl) (fun w => by kernel_rfl) gx2 ?_
        exact QRun_done [1, 10] (by kernel_rfl) (by kernel_rfl)
    refine QRun_seq 16 [(18, .bool x4)] ?_ ?_
    · rcases Bool.eq_false_or_eq_true x2 with hb2 | hb2
      · refine QRun_bool x2 true (by kernel_rfl) (fun w => by kernel_rfl) hb2 ?_
        have gx4 := (M.ite_some gx4).1 hb2
        obtain ⟨x5, hx3, gx4⟩ := M.bind_some gx4
        have gx4 := M.ret_some gx4
        refine QRun_b [.pointer (some ⟨b1, 0, none⟩)] 9 _ (by kernel_rfl) (fun w => by kernel_rfl) ?_
        refine QRun_y (.int .i64 r_.Num) (by kernel_rfl) (Y_load1 (t := 2) (p := ⟨b1, 0, none⟩) (v := .int .i64 r_.Num) (by kernel_rfl) (fun w => by kernel_rfl) (H1.cell 0 rfl rfl)) ?_
        refine QRun_b [.pointer (some ⟨b1, 1, none⟩)] 11 _ (by kernel_rfl) (fun w => by kernel_rfl) ?_
        refine QRun_y (.int .i64 r_.Den) (by kernel_rfl) (Y_load1 (t := 2) (p := ⟨b1, 1, none⟩) (v := .int .i64 r_.Den) (by kernel_rfl) (fun w => by kernel_rfl) (H1.cell 0 rfl rfl)) ?_
        refine QRun_y (.int .i64 x5) (by kernel_rfl) (Y_callq (f := 126) (args := #[.int .i64 r_.Num, .int .i64 r_.Den]) (v := .int .i64 x5) (by kernel_rfl) (w_spec_l01Divisor h1 r_.Num r_.Den _ _ hx3)) ?_
        refine QRun_b [.bool (x5 == 1)] 14 _ (by kernel_rfl) (fun w => by kernel_rfl) ?_
        refine QRun_bool (x5 == 1) x4 (by kernel_rfl) (fun w => by kernel_rfl) gx4 ?_
        exact QRun_done [18] (by kernel_rfl) (by kernel_rfl)
      · refine QRun_bool x2 false (by kernel_rfl) (fun w => by kernel_rfl) hb2 ?_
        have gx4 := M.ret_some ((M.ite_some gx4).2 hb2)
        refine QRun_n (by kernel_rfl) ?_
        refine QRun_n (by kernel_rfl) ?_
        refine QRun_n (by kernel_rfl) ?_
        refine QRun_n (by kernel_rfl) ?_
        refine QRun_n (by kernel_rfl) ?_
        refine QRun_n (by kernel_rfl) ?_
        refine QRun_bool false x4 (by kernel_rfl) (fun w => by kernel_rfl) gx4 ?_
        exact QRun_done [18] (by kernel_rfl) (by kernel_rfl)
    refine QRun_b [.bool x4] 16 _ (by kernel_rfl) (fun w => by kernel_rfl) ?_
    exact QRun_done [2] (by kernel_rfl) (by kernel_rfl)
  have hF := M.ret_some hF
  subst hF
  have H2 : Hold h h1 [] := H1.pick [] (by kernel_rfl)
  exact Run_ret1 rfl (ResV_tmp (v := .bool x4) (by kernel_rfl)) ⟨rfl, H2⟩

set_option maxRecDepth 100000 in
set_option maxHeartbeats 4000000 in
theorem w_spec_l04Result (h : Heap) (r_ : TRatio) (n : Nat) (r : TRatio × Int) (hF : spec_l04Result r_ n = some r) :
    Fn Try.prog 57 #[.agg #[.int .i64 r_.Num, .int .i64 r_.Den]] h fun v h' => v = .tuple #[.agg #[.int .i64 r.1.Num, .int .i64 r.1.Den], .int .i64 r.2] ∧ Hold h h' [] := by
  unfold spec_l04Result at hF
  refine Fn_enter (args := [.agg #[.int .i64 r_.Num, .int .i64 r_.Den]]) Try.func57 rfl (by kernel_rfl) (by kernel_rfl) (fun w0 _ => ?_)
  have H0 := Hold.init h
  refine Run_seq ?_
  refine Run_ops ?_
  refine Run_E (by kernel_rfl) ?_
  refine E_box (ty := 26) (cs := [.int .i64 r_.Num, .int .i64 r_.Den]) H0 (fun w => by kernel_rfl) (fun b1 h1 H1 => ?_)
  refine Run_E (by kernel_rfl) ?_
  refine E_box (ty := 26) (cs := [.int .i64 0, .int .i64 0]) H1 (fun w => by kernel_rfl) (fun b2 h2 H2 => ?_)
  refine Run_b [.int .i64 0] 2 _ (by kernel_rfl) (fun w => by kernel_rfl) ?_
  refine Run_nil (by kernel_rfl) ?_
  refine Run_keep [1, 2] (L' := [(1, .pointer (some ⟨b1, 0, none⟩)), (2, .pointer (some ⟨b2, 0, none⟩))]) (by kernel_rfl) ?_
  refine Run_seq ?_
  refine Run_seq ?_
  obtain ⟨x1, hx1, hF⟩ := M.bind_some hF
  refine Run_regC (j := 3) (C := fun x => Hold h x [box b2 26 [.int .i64 0, .int .i64 0], box b1 26 [.int .i64 r_.Num, .int .i64 r_.Den]]) (by kernel_rfl) H2 (L' := [(1, .pointer (some ⟨b1, 0, none⟩)), (2, .pointer (some ⟨b2, 0, none⟩)), (6, .bool (!x1))]) ?_ (fun h3 H3 => ?_)
  · refine QRun_y (.agg #[.int .i64 r_.Num, .int .i64 r_.Den]) (by kernel_rfl) (Y_cls fun hx Hx => (Y_loadA (t := 26) (n := 2) (p := ⟨b1, 0, none⟩) (cs := [.int .i64 r_.Num, .int .i64 r_.Den]) (by kernel_rfl) (fun w => by kernel_rfl) (by kernel_rfl) rfl (Hx.cells (n := 2) (off := 0) 1 rfl rfl))) ?_
    refine QRun_y (.bool x1) (by kernel_rfl) (Y_call (f := 125) (args := #[.agg #[.int .i64 r_.Num, .int .i64 r_.Den]]) (v := .bool x1) (by kernel_rfl) fun hx Hx => (w_spec_IsRatio hx r_ _ _ hx1).mono fun _ _ ⟨e, H'⟩ => ⟨e, Hx.call H' rfl⟩) ?_
    refine QRun_b [.bool (!x1)] 2 _ (by kernel_rfl) (fun w => by kernel_rfl) ?_
    exact QRun_done [1, 2, 6] (by kernel_rfl) (by kernel_rfl)
  have H4 : Hold h h3 [box b2 26 [.int .i64 0, .int .i64 0], box b1 26 [.int .i64 r_.Num, .int .i64 r_.Den]] := H3
  refine Run_cond (b := !x1) (by kernel_rfl) (fun hb1 => ?_) (fun hb1 => ?_)
  · have hF := (M.ite_some hF).1 hb1
    refine Run_seq ?_
    refine Run_ops ?_
    refine Run_b [.agg #[.int .i64 0, .int .i64 0]] 0 _ (by kernel_rfl) (fun w => by kernel_rfl) ?_
    refine Run_E (by kernel_rfl) ?_
    refine E_bput (t := 26) (off := 0) (us := [.int .i64 0, .int .i64 0]) (v := .agg #[.int .i64 0, .int .i64 0]) H4 (by kernel_rfl) (by kernel_rfl) rfl (by kernel_rfl) rfl (fun h4 H5 => ?_)
    refine Run_b [.int .i64 3] 2 _ (by kernel_rfl) (fun w => by kernel_rfl) ?_
    refine Run_nil (by kernel_rfl) ?_
    refine Run_keep [2, 3] (L' := [(2, .pointer (some ⟨b2, 0, none⟩)), (3, .int .i64 3)]) (by kernel_rfl) ?_
    have hF := M.ret_some hF
    subst hF
    have H6 : Hold h h4 [] := H5.pick [] (by kernel_rfl)
    exact Run_ret2 rfl (ResV_cell (n := 2) (cs := [.int .i64 0, .int .i64 0]) (by kernel_rfl) (fun w => by kernel_rfl) (by kernel_rfl) rfl (H5.cells (n := 2) (off := 0) 0 rfl rfl)) (ResV_tmp (v := .int .i64 3) (by kernel_rfl)) ⟨rfl, H6⟩
  · have hF := (M.ite_some hF).2 hb1
    refine Run_skip ?_
    refine Run_seq ?_
    refine Run_ops ?_
    refine Run_y (.agg #[.int .i64 r_.Num, .int .i64 r_.Den]) (by kernel_rfl) (Y_loadA (t := 26) (n := 2) (p := ⟨b1, 0, none⟩) (cs := [.int .i64 r_.Num, .int .i64 r_.Den]) (by kernel_rfl) (fun w => by kernel_rfl) (by kernel_rfl) rfl (H4.cells (n := 2) (off := 0) 1 rfl rfl)) ?_
    refine Run_E (by kernel_rfl) ?_
    refine E_bput (t := 26) (off := 0) (us := [.int .i64 r_.Num, .int .i64 r_.Den]) (v := .agg #[.int .i64 r_.Num, .int .i64 r_.Den]) H4 (by kernel_rfl) (by kernel_rfl) rfl (by kernel_rfl) rfl (fun h5 H7 => ?_)
    refine Run_b [.int .i64 0] 2 _ (by kernel_rfl) (fun w => by kernel_rfl) ?_
    refine Run_nil (by kernel_rfl) ?_
    refine Run_keep [2, 3] (L' := [(2, .pointer (some ⟨b2, 0, none⟩)), (3, .int .i64 0)]) (by kernel_rfl) ?_
    have hF := M.ret_some hF
    subst hF
    have H8 : Hold h h5 [] := H7.pick [] (by kernel_rfl)
    exact Run_ret2 rfl (ResV_cell (n := 2) (cs := [.int .i64 r_.Num, .int .i64 r_.Den]) (by kernel_rfl) (fun w => by kernel_rfl) (by kernel_rfl) rfl (H7.cells (n := 2) (off := 0) 0 rfl rfl)) (ResV_tmp (v := .int .i64 0) (by kernel_rfl)) ⟨rfl, H8⟩

set_option maxRecDepth 100000 in
set_option maxHeartbeats 4000000 in
theorem w_spec_OrbitRate (h : Heap) (a_ : List (List Int)) (aa_ : Option Addr) (ca_ : Nat) (ra_ : Rd cd23 h (Lt h) aa_ ca_ a_) (x_ : List Int) (ax_ : Option Addr) (cx_ : Nat) (rx_ : Rd cd2 h (Lt h) ax_ cx_ x_) (n : Nat) (r : TRatio × Int) (hF : spec_OrbitRate a_ x_ n = some r) :
    Fn Try.prog 10 #[.slice aa_ a_.length ca_, .slice ax_ x_.length cx_] h fun v h' => v = .tuple #[.agg #[.int .i64 r.1.Num, .int .i64 r.1.Den], .int .i64 r.2] ∧ Hold h h' [] := by
  unfold spec_OrbitRate at hF
  refine Fn_enter (args := [.slice aa_ a_.length ca_, .slice ax_ x_.length cx_]) Try.func10 rfl (by kernel_rfl) (by kernel_rfl) (fun w0 _ => ?_)
  have H0 := Hold.init h
  refine Run_seq ?_
  refine Run_ops ?_
  refine Run_E (by kernel_rfl) ?_
  refine E_box (ty := 26) (cs := [.int .i64 0, .int .i64 0]) H0 (fun w => by kernel_rfl) (fun b1 h1 H1 => ?_)
  refine Run_b [.int .i64 0] 1 _ (by kernel_rfl) (fun w => by kernel_rfl) ?_
  refine Run_nil (by kernel_rfl) ?_
  refine Run_keep [0, 1, 4] (L' := [(0, .slice aa_ a_.length ca_), (1, .slice ax_ x_.length cx_), (4, .pointer (some ⟨b1, 0, none⟩))]) (by kernel_rfl) ?_
  refine Run_seq ?_
  obtain ⟨x1, hx1, hF⟩ := M.bind_some hF
  refine Run_regC (j := 12) (C := fun x => Hold h x [box b1 26 [.int .i64 0, .int .i64 0]]) (by kernel_rfl) H1 (L' := [(4, .pointer (some ⟨b1, 0, none⟩)), (7, .int .i64 x1.2.1), (8, .int .i64 x1.2.2.1), (9, .int .i64 x1.2.2.2)]) ?_ (fun h2 H2 => ?_)
  · refine QRun_b [.slice aa_ a_.length ca_, .slice ax_ x_.length cx_] 0 _ (by kernel_rfl) (fun w => by kernel_rfl) ?_
    refine QRun_y (.tuple #[.int .i64 x1.1, .int .i64 x1.2.1, .int .i64 x1.2.2.1, .int .i64 x1.2.2.2]) (by kernel_rfl) (Y_call (f := 24) (args := #[.slice aa_ a_.length ca_, .slice ax_ x_.length cx_]) (v := .tuple #[.int .i64 x1.1, .int .i64 x1.2.1, .int .i64 x1.2.2.1, .int .i64 x1.2.2.2]) (by kernel_rfl) fun hx Hx => (w_spec_OrbitRepeats hx a_ aa_ ca_ (ra_.at Hx.ext) x_ ax_ cx_ (rx_.at Hx.ext) _ _ hx1).mono fun _ _ ⟨e, H'⟩ => ⟨e, Hx.call H' rfl⟩) ?_
    refine QRun_b [.tuple #[.int .i64 x1.1, .int .i64 x1.2.1, .int .i64 x1.2.2.1, .int .i64 x1.2.2.2], .int .i64 x1.1, .int .i64 x1.2.1, .int .i64 x1.2.2.1, .int .i64 x1.2.2.2, .int .i64 x1.1, .int .i64 x1.2.1, .int .i64 x1.2.2.1, .int .i64 x1.2.2.2] 3 _ (by kernel_rfl) (fun w => by kernel_rfl) ?_
    exact QRun_done [4, 7, 8, 9] (by kernel_rfl) (by kernel_rfl)
  have H3 : Hold h h2 [box b1 26 [.int .i64 0, .int .i64 0]] := H2
  refine Run_seq ?_
  refine Run_seq ?_
  refine Run_reg 2 (by kernel_rfl) (L' := [(4, .pointer (some ⟨b1, 0, none⟩)), (7, .int .i64 x1.2.1), (8, .int .i64 x1.2.2.1), (9, .int .i64 x1.2.2.2), (19, .bool (x1.2.2.2 != 0))]) ?_ ?_
  · refine QRun_b [.int .i64 x1.2.2.2, .bool (x1.2.2.2 != 0)] 0 _ (by kernel_rfl) (fun w => by kernel_rfl) ?_
    exact QRun_done [4, 7, 8, 9, 19] (by kernel_rfl) (by kernel_rfl)
  refine Run_cond (b := x1.2.2.2 != 0) (by kernel_rfl) (fun hb1 => ?_) (fun hb1 => ?_)
  · have hF := (M.ite_some hF).1 hb1
    refine Run_seq ?_
    refine Run_ops ?_
    refine Run_b [.agg #[.int .i64 0, .int .i64 0], .int .i64 x1.2.2.2] 0 _ (by kernel_rfl) (fun w => by kernel_rfl) ?_
    refine Run_E (by kernel_rfl) ?_
    refine E_bput (t := 26) (off := 0) (us := [.int .i64 0, .int .i64 0]) (v := .agg #[.int .i64 0, .int .i64 0]) H3 (by kernel_rfl) (by kernel_rfl) rfl (by kernel_rfl) rfl (fun h3 H4 => ?_)
    refine Run_b [.int .i64 x1.2.2.2] 3 _ (by kernel_rfl) (fun w => by kernel_rfl) ?_
    refine Run_nil (by kernel_rfl) ?_
    refine Run_keep [4, 5] (L' := [(4, .pointer (some ⟨b1, 0, none⟩)), (5, .int .i64 x1.2.2.2)]) (by kernel_rfl) ?_
    have hF := M.ret_some hF
    subst hF
    have H5 : Hold h h3 [] := H4.pick [] (by kernel_rfl)
    exact Run_ret2 rfl (ResV_cell (n := 2) (cs := [.int .i64 0, .int .i64 0]) (by kernel_rfl) (fun w => by kernel_rfl) (by kernel_rfl) rfl (H4.cells (n := 2) (off := 0) 0 rfl rfl)) (ResV_tmp (v := .int .i64 x1.2.2.2) (by kernel_rfl)) ⟨rfl, H5⟩
  · have hF := (M.ite_some hF).2 hb1
    refine Run_skip ?_
    refine Run_seq ?_
    refine Run_ops ?_
    refine Run_b [.int .i64 x1.2.2.1, .int .i64 x1.2.1] 0 _ (by kernel_rfl) (fun w => by kernel_rfl) ?_
    obtain ⟨x2, hx2, hF⟩ := M.bind_some hF
    refine Run_E (by kernel_rfl) ?_
    refine E_call (f := 58) (args := #[.int .i64 x1.2.2.1, .int .i64 x1.2.1]) (w_spec_l01Ratio h2 x1.2.2.1 x1.2.1 _ _ hx2) (by kernel_rfl) (fun v1 h4 hp1 => ?_)
    obtain ⟨rfl, H6⟩ := hp1
    have H7 : Hold h h4 [box b1 26 [.int .i64 0, .int .i64 0]] := H3.call H6 rfl
    obtain ⟨x3, hx3, hF⟩ := M.bind_some hF
    refine Run_E (by kernel_rfl) ?_
    refine E_call (f := 57) (args := #[.agg #[.int .i64 x2.Num, .int .i64 x2.Den]]) (w_spec_l04Result h4 x2 _ _ hx3) (by kernel_rfl) (fun v2 h5 hp2 => ?_)
    obtain ⟨rfl, H8⟩ := hp2
    have H9 : Hold h h5 [box b1 26 [.int .i64 0, .int .i64 0]] := H7.call H8 rfl
    refine Run_b [.agg #[.int .i64 x3.1.Num, .int .i64 x3.1.Den], .int .i64 x3.2] 4 _ (by kernel_rfl) (fun w => by kernel_rfl) ?_
    refine Run_E (by kernel_rfl) ?_
    refine E_bput (t := 26) (off := 0) (us := [.int .i64 x3.1.Num, .int .i64 x3.1.Den]) (v := .agg #[.int .i64 x3.1.Num, .int .i64 x3.1.Den]) H9 (by kernel_rfl) (by kernel_rfl) rfl (by kernel_rfl) rfl (fun h6 H10 => ?_)
    refine Run_b [.int .i64 x3.2] 7 _ (by kernel_rfl) (fun w => by kernel_rfl) ?_
    refine Run_nil (by kernel_rfl) ?_
    refine Run_keep [4, 5] (L' := [(4, .pointer (some ⟨b1, 0, none⟩)), (5, .int .i64 x3.2)]) (by kernel_rfl) ?_
    have hF := M.ret_some hF
    subst hF
    have H11 : Hold h h6 [] := H10.pick [] (by kernel_rfl)
    exact Run_ret2 rfl (ResV_cell (n := 2) (cs := [.int .i64 x3.1.Num, .int .i64 x3.1.Den]) (by kernel_rfl) (fun w => by kernel_rfl) (by kernel_rfl) rfl (H10.cells (n := 2) (off := 0) 0 rfl rfl)) (ResV_tmp (v := .int .i64 x3.2) (by kernel_rfl)) ⟨rfl, H11⟩

set_option maxRecDepth 100000 in
set_option maxHeartbeats 4000000 in
theorem w_impl_OrbitOf (h : Heap) (a_ : List (List Int)) (aa_ : Option Addr) (ca_ : Nat) (ra_ : Rd cd23 h (Lt h) aa_ ca_ a_) (x_ : List Int) (ax_ : Option Addr) (cx_ : Nat) (rx_ : Rd cd2 h (Lt h) ax_ cx_ x_) (n_ : Int) (n : Nat) (r : (List (List Int)) × Int) (hF : impl_OrbitOf a_ x_ n_ n = some r) :
    Fn Try.prog 25 #[.slice aa_ a_.length ca_, .slice ax_ x_.length cx_, .int .i64 n_] h fun v h' => ∃ (a0 : Option Addr) (c0 : Nat), v = .tuple #[.slice a0 r.1.length c0, .int .i64 r.2] ∧ Hold h h' [own cd23 a0 r.1.length c0 r.1] := by
  unfold impl_OrbitOf at hF
  refine Fn_enter (args := [.slice aa_ a_.length ca_, .slice ax_ x_.length cx_, .int .i64 n_]) Try.func25 rfl (by kernel_rfl) (by kernel_rfl) (fun w0 _ => ?_)
  have H0 := Hold.init h
  refine Run_seq ?_
  refine Run_reg 2 (by kernel_rfl) (L' := [(0, .slice aa_ a_.length ca_), (1, .slice ax_ x_.length cx_), (2, .int .i64 n_)]) ?_ ?_
  · refine QRun_b [.slice none 0 0, .int .i64 0] 0 _ (by kernel_rfl) (fun w => by kernel_rfl) ?_
    exact QRun_done [0, 1, 2] (by kernel_rfl) (by kernel_rfl)
  refine Run_seq ?_
  refine Run_seq ?_
  obtain ⟨x1, hx1, hF⟩ := M.bind_some hF
  refine Run_regC (j := 4) (C := fun x => Hold h x []) (by kernel_rfl) H0 (L' := [(0, .slice aa_ a_.length ca_), (1, .slice ax_ x_.length cx_), (2, .int .i64 n_), (8, .int .i64 x1)]) ?_ (fun h1 H1 => ?_)
  · refine QRun_b [.slice aa_ a_.length ca_, .slice ax_ x_.length cx_] 0 _ (by kernel_rfl) (fun w => by kernel_rfl) ?_
    refine QRun_y (.int .i64 x1) (by kernel_rfl) (Y_call (f := 59) (args := #[.slice aa_ a_.length ca_, .slice ax_ x_.length cx_]) (v := .int .i64 x1) (by kernel_rfl) fun hx Hx => (w_impl_checkOrbit hx a_ aa_ ca_ (ra_.at Hx.ext) x_ ax_ cx_ (rx_.at Hx.ext) _ _ hx1).mono fun _ _ ⟨e, H'⟩ => ⟨e, Hx.call H' rfl⟩) ?_
    refine QRun_b [.int .i64 x1] 3 _ (by kernel_rfl) (fun w => by kernel_rfl) ?_
    exact QRun_done [0, 1, 2, 8] (by kernel_rfl) (by kernel_rfl)
  have H2 : Hold h h1 [] := H1
  refine Run_seq ?_
  refine Run_reg 2 (by kernel_rfl) (L' := [(0, .slice aa_ a_.length ca_), (1, .slice ax_ x_.length cx_), (2, .int .i64 n_), (8, .int .i64 x1), (17, .bool (x1 != 0))]) ?_ ?_
  · refine QRun_b [.int .i64 x1, .bool (x1 != 0)] 0 _ (by kernel_rfl) (fun w => by kernel_rfl) ?_
    exact QRun_done [0, 1, 2, 8, 17] (by kernel_rfl) (by kernel_rfl)
  refine Run_cond (b := x1 != 0) (by kernel_rfl) (fun hb1 => ?_) (fun hb1 => ?_)
  · have hF := (M.ite_some hF).1 hb1
    refine Run_seq ?_
    refine Run_reg 3 (by kernel_rfl) (L' := [(6, .slice none 0 0), (7, .int .i64 x1)]) ?_ ?_
    · refine QRun_b [.int .i64 x1, .slice none 0 0, .int .i64 x1] 0 _ (by kernel_rfl) (fun w => by kernel_rfl) ?_
      exact QRun_done [6, 7] (by kernel_rfl) (by kernel_rfl)
    have hF := M.ret_some hF
    subst hF
    have H3 := H2.empty cd23
    exact Run_ret2 rfl (ResV_tmp (v := .slice none 0 0) (by kernel_rfl)) (ResV_tmp (v := .int .i64 x1) (by kernel_rfl)) ⟨none, 0, rfl, H3⟩
  · have hF := (M.ite_some hF).2 hb1
    refine Run_skip ?_
    refine Run_seq ?_
    refine Run_seq ?_
    obtain ⟨x2, hx2, hF⟩ := M.bind_some hF
    refine Run_reg 3 (by kernel_rfl) (L' := [(0, .slice aa_ a_.length ca_), (1, .slice ax_ x_.length cx_), (2, .int .i64 n_), (21, .bool (!x2))]) ?_ ?_
    · refine QRun_b [.int .i64 n_] 0 _ (by kernel_rfl) (fun w => by kernel_rfl) ?_
      refine QRun_y (.bool x2) (by kernel_rfl) (Y_callq (f := 69) (args := #[.int .i64 n_, .int .i64 0, .int .i64 100]) (v := .bool x2) (by kernel_rfl) (w_impl_within h1 n_ 0 100 _ _ hx2)) ?_
      refine QRun_b [.bool (!x2)] 2 _ (by kernel_rfl) (fun w => by kernel_rfl) ?_
      exact QRun_done [0, 1, 2, 21] (by kernel_rfl) (by kernel_rfl)
    refine Run_cond (b := !x2) (by kernel_rfl) (fun hb2 => ?_) (fun hb2 => ?_)
    · have hF := (M.ite_some hF).1 hb2
      refine Run_seq ?_
      refine Run_reg 2 (by kernel_rfl) (L' := [(6, .slice none 0 0), (7, .int .i64 2)]) ?_ ?_
      · refine QRun_b [.slice none 0 0, .int .i64 2] 0 _ (by kernel_rfl) (fun w => by kernel_rfl) ?_
        exact QRun_done [6, 7] (by kernel_rfl) (by kernel_rfl)
      have hF := M.ret_some hF
      subst hF
      have H4 := H2.empty cd23
      exact Run_ret2 rfl (ResV_tmp (v := .slice none 0 0) (by kernel_rfl)) (ResV_tmp (v := .int .i64 2) (by kernel_rfl)) ⟨none, 0, rfl, H4⟩
    · have hF := (M.ite_some hF).2 hb2
      refine Run_skip ?_
      refine Run_seq ?_
      refine Run_ops ?_
      refine Run_b [.slice aa_ a_.length ca_, .slice ax_ x_.length cx_] 0 _ (by kernel_rfl) (fun w => by kernel_rfl) ?_
      obtain ⟨x3, hx3, hF⟩ := M.bind_some hF
      refine Run_E (by kernel_rfl) ?_
      refine E_call (f := 60) (args := #[.slice aa_ a_.length ca_, .slice ax_ x_.length cx_]) (w_impl_vectorOrbit h1 a_ aa_ ca_ (ra_.at H2.ext) x_ ax_ cx_ (rx_.at H2.ext) _ _ hx3) (by kernel_rfl) (fun v1 h2 hp1 => ?_)
      obtain ⟨b1, a1, c1, a2, c2, rfl, hd1, H5⟩ := hp1
      have H6 : Hold h h2 [box b1 88 [.slice a1 x3.matrix.length c1, .slice a2 x3.list.length c2], own cd22 a2 x3.list.length c2 x3.list] := H2.call H5 rfl
      have r1 := ra_.alias hd1
      refine Run_b [.pointer (some ⟨b1, 0, none⟩)] 3 _ (by kernel_rfl) (fun w => by kernel_rfl) ?_
      refine Run_nil (by kernel_rfl) ?_
      refine Run_keep [2, 9] (L' := [(2, .int .i64 n_), (9, .pointer (some ⟨b1, 0, none⟩))]) (by kernel_rfl) ?_
      refine Run_seq ?_
      refine Run_seq ?_
      refine Run_ops ?_
      refine Run_b [.pointer (some ⟨b1, 0, none⟩), .int .i64 n_] 0 _ (by kernel_rfl) (fun w => by kernel_rfl) ?_
      obtain ⟨x4, hx4, hF⟩ := M.bind_some hF
      have H7 : Hold h h2 [own cd22 a2 x3.list.length c2 x3.list, box b1 88 [.slice a1 x3.matrix.length c1, .slice a2 x3.list.length c2]] := H6.pick [1, 0] (by kernel_rfl)
      have H8 : Hold h h2 [box b1 88 [.slice a1 x3.matrix.length c1, .slice a2 x3.list.length c2], own cd22 a2 x3.list.length c2 x3.list] := H7.pick [1, 0] (by kernel_rfl)
      have H9 : Hold h h2 [box b1 88 [.slice a1 x3.matrix.length c1, .slice a2 x3.list.length c2], own cd22 a2 x3.list.length c2 x3.list, bun []] := Hold.bundle (S := [box b1 88 [.slice a1 x3.matrix.length c1, .slice a2 x3.list.length c2], own cd22 a2 x3.list.length c2 x3.list]) (R := []) H8
      refine Run_E (by kernel_rfl) ?_
      refine E_call (f := 89) (args := #[.pointer (some ⟨b1, 0, none⟩), .int .i64 n_]) (w_impl_orbit_grow_B h h2 _ x3 b1 a1 c1 r1 a2 c2 n_ H9 _ _ hx4) (by kernel_rfl) (fun v2 h3 hp2 => ?_)
      obtain ⟨a3, c3, rfl, H10⟩ := hp2
      have H11 : Hold h h3 [box b1 88 [.slice a1 x3.matrix.length c1, .slice a3 x4.2.list.length c3], own cd22 a3 x4.2.list.length c3 x4.2.list] := Hold.unbundle (S := [box b1 88 [.slice a1 x3.matrix.length c1, .slice a3 x4.2.list.length c3], own cd22 a3 x4.2.list.length c3 x4.2.list]) (R := []) H10 (Hold.tailBase (S := [box b1 88 [.slice a1 x3.matrix.length c1, .slice a2 x3.list.length c2], own cd22 a2 x3.list.length c2 x3.list]) (R := []) H8)
      refine Run_b [.bool (!x4.1)] 3 _ (by kernel_rfl) (fun w => by kernel_rfl) ?_
      refine Run_nil (by kernel_rfl) ?_
      refine Run_keep [2, 9, 28] (L' := [(2, .int .i64 n_), (9, .pointer (some ⟨b1, 0, none⟩)), (28, .bool (!x4.1))]) (by kernel_rfl) ?_
      refine Run_cond (b := !x4.1) (by kernel_rfl) (fun hb3 => ?_) (fun hb3 => ?_)
      · have hF := (M.ite_some hF).1 hb3
        refine Run_seq ?_
        refine Run_reg 2 (by kernel_rfl) (L' := [(6, .slice none 0 0), (7, .int .i64 3)]) ?_ ?_
        · refine QRun_b [.slice none 0 0, .int .i64 3] 0 _ (by kernel_rfl) (fun w => by kernel_rfl) ?_
          exact QRun_done [6, 7] (by kernel_rfl) (by kernel_rfl)
        have hF := M.ret_some hF
        subst hF
        have H12 := H11.empty cd23
        have H13 : Hold h h3 [own cd23 none 0 0 []] := H12.pick [0] (by kernel_rfl)
        exact Run_ret2 rfl (ResV_tmp (v := .slice none 0 0) (by kernel_rfl)) (ResV_tmp (v := .int .i64 3) (by kernel_rfl)) ⟨none, 0, rfl, H13⟩
      · have hF := (M.ite_some hF).2 hb3
        refine Run_skip ?_
        refine Run_seq ?_
        refine Run_reg 1 (by kernel_rfl) (L' := [(2, .int .i64 n_), (9, .pointer (some ⟨b1, 0, none⟩)), (10, .slice none 0 0)]) ?_ ?_
        · refine QRun_b [.slice none 0 0] 0 _ (by kernel_rfl) (fun w => by kernel_rfl) ?_
          exact QRun_done [2, 9, 10] (by kernel_rfl) (by kernel_rfl)
        refine Run_seq ?_
        refine Run_seq ?_
        obtain ⟨x5, hx5, hF⟩ := M.bind_some hF
        obtain ⟨hx5a, hx5b, hx5c, hx5d⟩ := M.sub_some hx5
        have hn1 : x5.length = (w64 (n_ + 1)).toNat - (0 : Int).toNat := by rw [hx5d, List.length_take, List.length_drop]; omega
        refine Run_reg 9 (by kernel_rfl) (L' := [(10, .slice none 0 0), (35, .slice (sliceA a3 c3 0 1) ((w64 (n_ + 1)).toNat - (0 : Int).toNat) (c3 - 0)), (36, .int .i64 (((w64 (n_ + 1)).toNat - (0 : Int).toNat : Nat) : Int)), (37, .int .i64 0)]) ?_ ?_
        · refine QRun_b [.pointer (some ⟨b1, 0, none⟩), .pointer (some ⟨b1, 0, none⟩), .pointer (some ⟨b1, 1, none⟩)] 0 _ (by kernel_rfl) (fun w => by kernel_rfl) ?_
          refine QRun_y (.slice a3 x4.2.list.length c3) (by kernel_rfl) (Y_load1 (t := 86) (p := ⟨b1, 1, none⟩) (v := .slice a3 x4.2.list.length c3) (by kernel_rfl) (fun w => by kernel_rfl) (H11.cell 0 rfl rfl)) ?_
          refine QRun_b [.int .i64 n_, .int .i64 (w64 (n_ + 1))] 4 _ (by kernel_rfl) (fun w => by kernel_rfl) ?_
          refine QRun_y (.slice (sliceA a3 c3 0 1) ((w64 (n_ + 1)).toNat - (0 : Int).toNat) (c3 - 0)) (by kernel_rfl) (Y_slice (t := 86) (e := 22) (sz := 1) (a := a3) (n := x4.2.list.length) (cap := c3) (lo := none) (hi := (some (.i64, w64 (n_ + 1)))) (x := 0) (y := w64 (n_ + 1)) (by kernel_rfl) Try.underlying86 (by kernel_rfl) (H11.rd 1 rfl).fits rfl rfl hx5a hx5b hx5c) ?_
          refine QRun_b [.int .i64 (((w64 (n_ + 1)).toNat - (0 : Int).toNat : Nat) : Int), .int .i64 0] 7 _ (by kernel_rfl) (fun w => by kernel_rfl) ?_
          exact QRun_done [10, 35, 36, 37] (by kernel_rfl) (by kernel_rfl)
        obtain ⟨x6, gx6, hF⟩ := M.bind_some hF
        obtain ⟨hloy1, hhiy1, gx6⟩ := M.for_start gx6
        refine Run_join (fun L' h' => ∃ (a5 : Option Addr) (c5 : Nat), L' = [(10, .slice a5 x6.length c5)] ∧ Hold h h' [own cd23 a5 x6.length c5 x6]) ?_ ?_
        · rintro _ h5 ⟨a5, c5, rfl, H15⟩
          refine Run_seq ?_
          refine Run_reg 3 (by kernel_rfl) (L' := [(6, .slice a5 x6.length c5), (7, .int .i64 0)]) ?_ ?_
          · refine QRun_b [.slice a5 x6.length c5, .slice a5 x6.length c5, .int .i64 0] 0 _ (by kernel_rfl) (fun w => by kernel_rfl) ?_
            exact QRun_done [6, 7] (by kernel_rfl) (by kernel_rfl)
          have hF := M.ret_some hF
          subst hF
          exact Run_ret2 rfl (ResV_tmp (v := .slice a5 x6.length c5) (by kernel_rfl)) (ResV_tmp (v := .int .i64 0) (by kernel_rfl)) ⟨a5, c5, rfl, H15⟩
        · refine Run_block ?_
          have H26 := H11.empty cd23
          have H27 : Hold h h3 [own cd23 none 0 0 [], own cd22 a3 x4.2.list.length c3 x4.2.list] := H26.pick [0, 2] (by kernel_rfl)
          refine Run_keep [10, 35, 36, 37] (L' := [(10, .slice none 0 0), (35, .slice (sliceA a3 c3 0 1) ((w64 (n_ + 1)).toNat - (0 : Int).toNat) (c3 - 0)), (36, .int .i64 (((w64 (n_ + 1)).toNat - (0 : Int).toNat : Nat) : Int)), (37, .int .i64 0)]) (by kernel_rfl) ?_
          refine Run_loop (fun m L' h' => ∃ (i1 : Int) (s1 : (List (List Int))) (a4 : Option Addr) (c4 : Nat), 0 ≤ i1 ∧ M.forN (((w64 (n_ + 1)).toNat - (0 : Int).toNat : Nat) : Int) _ _ n m i1 s1 = some x6 ∧ L' = [(10, .slice a4 s1.length c4), (35, .slice (sliceA a3 c3 0 1) ((w64 (n_ + 1)).toNat - (0 : Int).toNat) (c3 - 0)), (36, .int .i64 (((w64 (n_ + 1)).toNat - (0 : Int).toNat : Nat) : Int)), (37, .int .i64 i1)] ∧ Hold h h' [own cd23 a4 s1.length c4 s1, own cd22 a3 x4.2.list.length c3 x4.2.list]) ((((w64 (n_ + 1)).toNat - (0 : Int).toNat : Nat) : Int) - 0 : Int).toNat ⟨0, [], none, 0, Int.le_refl _, gx6, rfl, H27⟩ ?_
          rintro my1 _ h4 ⟨i1, s1, a4, c4, hloy1', gx6, rfl, H14⟩
          refine Run_seq ?_
          refine Run_reg 1 (by kernel_rfl) (L' := [(10, .slice a4 s1.length c4), (35, .slice (sliceA a3 c3 0 1) ((w64 (n_ + 1)).toNat - (0 : Int).toNat) (c3 - 0)), (36, .int .i64 (((w64 (n_ + 1)).toNat - (0 : Int).toNat : Nat) : Int)), (37, .int .i64 i1), (38, .bool (decide (i1 < (((w64 (n_ + 1)).toNat - (0 : Int).toNat : Nat) : Int))))]) ?_ ?_
          · refine QRun_b [.bool (decide (i1 < (((w64 (n_ + 1)).toNat - (0 : Int).toNat : Nat) : Int)))] 0 _ (by kernel_rfl) (fun w => by kernel_rfl) ?_
            exact QRun_done [10, 35, 36, 37, 38] (by kernel_rfl) (by kernel_rfl)
          refine Run_seq ?_
          refine Run_cond (b := decide (i1 < (((w64 (n_ + 1)).toNat - (0 : Int).toNat : Nat) : Int))) (by kernel_rfl) (fun hb4 => ?_) (fun hb4 => ?_)
          · obtain ⟨my1, y1, rfl, hB1, hgoy1, houty1⟩ := M.for_go gx6 hb4
            have hlty1 := of_decide_eq_true hb4
            refine Run_skip ?_
            refine Run_seq ?_
            refine Run_block ?_
            refine Run_seq ?_
            obtain ⟨x7, hx6, hB1⟩ := M.bind_some hB1
            obtain ⟨hx6l, hx6u, hx6⟩ := M.idx_some hx6
            obtain ⟨a6, c6, hc1, r2⟩ := (show Rd _ _ _ _ _ x5 from hx5d ▸ ((H14.rd 1 rfl)).sub (by omega) (by omega)).row hx6
            refine Run_reg 3 (by kernel_rfl) (L' := [(10, .slice a4 s1.length c4), (12, .slice a6 x7.length c6), (35, .slice (sliceA a3 c3 0 1) ((w64 (n_ + 1)).toNat - (0 : Int).toNat) (c3 - 0)), (36, .int .i64 (((w64 (n_ + 1)).toNat - (0 : Int).toNat : Nat) : Int)), (37, .int .i64 i1)]) ?_ ?_
            · refine QRun_y (.pointer (some (adr (sliceA a3 c3 0 1) (i1.toNat * 1)))) (by kernel_rfl) (Y_idx (t := 86) (e := 22) (sz := 1) (a := sliceA a3 c3 0 1) (n := (w64 (n_ + 1)).toNat - (0 : Int).toNat) (cap := c3 - 0) (kk := .i64) (i := i1) (by kernel_rfl) Try.underlying86 (by kernel_rfl) ((show Rd _ _ _ _ _ x5 from hx5d ▸ ((H14.rd 1 rfl)).sub (by omega) (by omega)).cell hx6).1 hx6l (by rw [← hn1]; exact hx6u)) ?_
              refine QRun_y (.slice a6 x7.length c6) (by kernel_rfl) (Y_load1 (t := 22) (p := adr (sliceA a3 c3 0 1) (i1.toNat * 1)) (v := .slice a6 x7.length c6) (by kernel_rfl) (fun w => by kernel_rfl) hc1) ?_
              refine QRun_b [.slice a6 x7.length c6] 2 _ (by kernel_rfl) (fun w => by kernel_rfl) ?_
              exact QRun_done [10, 12, 35, 36, 37] (by kernel_rfl) (by kernel_rfl)
            refine Run_ops ?_
            refine Run_b [.slice a4 s1.length c4, .slice a6 x7.length c6] 0 _ (by kernel_rfl) (fun w => by kernel_rfl) ?_
            obtain ⟨x8, hx7, hB1⟩ := M.bind_some hB1
            refine Run_E (by kernel_rfl) ?_
            refine E_call (f := 90) (args := #[.slice a6 x7.length c6]) (w_impl_transposed h4 x7 a6 c6 r2 _ _ hx7) (by kernel_rfl) (fun v3 h6 hp3 => ?_)
            obtain ⟨a7, c7, rfl, H16⟩ := hp3
            have H17 : Hold h h6 [own cd23 a7 x8.length c7 x8, own cd23 a4 s1.length c4 s1, own cd22 a3 x4.2.list.length c3 x4.2.list] := H14.call H16 rfl
            obtain ⟨x9, hx8, hB1⟩ := M.bind_some hB1
            obtain ⟨hx8l, hx8u, hx8⟩ := M.idx_some hx8
            obtain ⟨a8, c8, hc2, H18⟩ := H17.takeRow hx8
            refine Run_y (.pointer (some (adr a7 (0 * 1)))) (by kernel_rfl) (Y_idx (t := 22) (e := 23) (sz := 1) (a := a7) (n := x8.length) (cap := c7) (kk := .i64) (i := 0) (by kernel_rfl) Try.underlying22 (by kernel_rfl) ((H17.rd 0 rfl).cell hx8).1 hx8l hx8u) ?_
            refine Run_y (.slice a8 x9.length c8) (by kernel_rfl) (Y_load1 (t := 23) (p := adr a7 (0 * 1)) (v := .slice a8 x9.length c8) (by kernel_rfl) (fun w => by kernel_rfl) hc2) ?_
            refine Run_E (by kernel_rfl) ?_
            refine E_lit1 (ey := 23) (n := x9.length) H18 (fun w => by kernel_rfl) rfl (fun a9 h7 H19 => ?_)
            obtain ⟨l1, hl1, hB1⟩ := M.bind_some hB1
            have hl1 := M.app_some hl1
            have H20 : Hold h h7 [own cd23 a4 s1.length c4 s1, own cd23 a9 1 1 [x9], rest cd2 23 a7 x8.length c7 x8 0 a8 x9.length c8, own cd22 a3 x4.2.list.length c3 x4.2.list] := H19.pick [2, 0, 1, 3] (by kernel_rfl)
            have H21 : Hold h h7 [own cd23 a9 1 1 [x9], own cd23 a4 s1.length c4 s1, rest cd2 23 a7 x8.length c7 x8 0 a8 x9.length c8, own cd22 a3 x4.2.list.length c3 x4.2.list] := H20.pick [1, 0, 2, 3] (by kernel_rfl)
            have H22 : Hold h h7 [own cd23 a4 s1.length c4 s1, own cd23 a9 1 1 [x9], rest cd2 23 a7 x8.length c7 x8 0 a8 x9.length c8, own cd22 a3 x4.2.list.length c3 x4.2.list] := H21.pick [1, 0, 2, 3] (by kernel_rfl)
            refine Run_E (by kernel_rfl) ?_
            refine E_app (C := cd23) (t := 22) (ty := 22) (n := s1.length) (m := 1) H22 cd23_ti rfl Try.underlying22 (by decide) (by kernel_rfl) hl1 (fun a10 c9 h8 H23 => ?_)
            refine Run_b [.slice a10 l1.length c9] 7 _ (by kernel_rfl) (fun w => by kernel_rfl) ?_
            refine Run_nil (by kernel_rfl) ?_
            refine Run_keep [10, 35, 36, 37] (L' := [(10, .slice a10 l1.length c9), (35, .slice (sliceA a3 c3 0 1) ((w64 (n_ + 1)).toNat - (0 : Int).toNat) (c3 - 0)), (36, .int .i64 (((w64 (n_ + 1)).toNat - (0 : Int).toNat : Nat) : Int)), (37, .int .i64 i1)]) (by kernel_rfl) ?_
            refine Run_blk ?_
            refine Run_reg 2 (by kernel_rfl) (L' := [(10, .slice a10 l1.length c9), (35, .slice (sliceA a3 c3 0 1) ((w64 (n_ + 1)).toNat - (0 : Int).toNat) (c3 - 0)), (36, .int .i64 (((w64 (n_ + 1)).toNat - (0 : Int).toNat : Nat) : Int)), (37, .int .i64 (i1 + 1))]) ?_ ?_
            · refine QRun_y (.int .i64 (i1 + 1)) (by kernel_rfl) (Y_eq (v := .int .i64 (w64 (i1 + 1))) (Y_pure (fun w => by kernel_rfl)) (by rw [w64_eq _ (by omega)])) ?_
              refine QRun_b [.int .i64 (i1 + 1)] 1 _ (by kernel_rfl) (fun w => by kernel_rfl) ?_
              exact QRun_done [10, 35, 36, 37] (by kernel_rfl) (by kernel_rfl)
            have H24 : Hold h h8 [own cd23 a10 l1.length c9 l1, own cd22 a3 x4.2.list.length c3 x4.2.list] := H23.pick [0, 2] (by kernel_rfl)
            have hB1 := M.ret_some hB1
            have gx6 := hgoy1 _ hB1.symm
            exact Run_again [10, 35, 36, 37] (by kernel_rfl) my1 (Nat.lt_succ_self _) ⟨i1 + 1, l1, a10, c9, by omega, gx6, rfl, H24⟩
          · have gx6 := M.for_end gx6 hb4
            subst gx6
            refine Run_exit (k' := _) rfl ?_
            have H25 : Hold h h4 [own cd23 a4 s1.length c4 s1] := H14.pick [0] (by kernel_rfl)
            exact Run_fall [10] (by kernel_rfl) ⟨a4, c4, rfl, H25⟩

set_option maxRecDepth 100000 in
set_option maxHeartbeats 4000000 in
theorem w_impl_shiftedVector (h : Heap) (x_ : List Int) (ax_ : Option Addr) (cx_ : Nat) (rx_ : Rd cd2 h (Lt h) ax_ cx_ x_) (g : Int) (n : Nat) (r : (List Int)) (hF : impl_shiftedVector x_ g n = some r) :
    Fn Try.prog 94 #[.slice ax_ x_.length cx_, .int .i64 g] h fun v h' => ∃ (a0 : Option Addr) (c0 : Nat), v = .slice a0 r.length c0 ∧ Hold h h' [own cd2 a0 r.length c0 r] := by
  unfold impl_shiftedVector at hF
  refine Fn_enter (args := [.slice ax_ x_.length cx_, .int .i64 g]) Try.func94 rfl (by kernel_rfl) (by kernel_rfl) (fun w0 _ => ?_)
  have H0 := Hold.init h
  refine Run_seq ?_
  refine Run_reg 1 (by kernel_rfl) (L' := [(0, .slice ax_ x_.length cx_), (1, .int .i64 g)]) ?_ ?_
  · refine QRun_b [.slice none 0 0] 0 _ (by kernel_rfl) (fun w => by kernel_rfl) ?_
    exact QRun_done [0, 1] (by kernel_rfl) (by kernel_rfl)
  refine Run_seq ?_
  refine Run_ops ?_
  refine Run_b [.slice ax_ x_.length cx_, .int .i64 (x_.length : Int)] 0 _ (by kernel_rfl) (fun w => by kernel_rfl) ?_
  obtain ⟨l1, hl1, hF⟩ := M.bind_some hF
  have hl1 := M.make_some hl1
  refine Run_E (by kernel_rfl) ?_
  refine E_make cd2 0 (kl := .i64) (kc := .i64) H0 cd2_ti Try.underlying23 (by decide) cd2_zero (by kernel_rfl) hl1 (fun a1 h1 H1 => ?_)
  refine Run_b [.slice a1 l1.length l1.length] 3 _ (by kernel_rfl) (fun w => by kernel_rfl) ?_
  refine Run_nil (by kernel_rfl) ?_
  refine Run_keep [0, 1, 5] (L' := [(0, .slice ax_ x_.length cx_), (1, .int .i64 g), (5, .slice a1 l1.length l1.length)]) (by kernel_rfl) ?_
  refine Run_seq ?_
  refine Run_seq ?_
  refine Run_reg 3 (by kernel_rfl) (L' := [(1, .int .i64 g), (5, .slice a1 l1.length l1.length), (11, .slice ax_ x_.length cx_), (12, .int .i64 (x_.length : Int)), (13, .int .i64 0)]) ?_ ?_
  · refine QRun_b [.slice ax_ x_.length cx_, .int .i64 (x_.length : Int), .int .i64 0] 0 _ (by kernel_rfl) (fun w => by kernel_rfl) ?_
    exact QRun_done [1, 5, 11, 12, 13] (by kernel_rfl) (by kernel_rfl)
  obtain ⟨x1, gx1, hF⟩ := M.bind_some hF
  obtain ⟨hloy1, hhiy1, gx1⟩ := M.for_start gx1
  refine Run_join (fun L' h' => L' = [(5, .slice a1 l1.length l1.length)] ∧ Hold h h' [own cd2 a1 l1.length l1.length x1]) ?_ ?_
  · rintro _ h3 ⟨rfl, H3⟩
    refine Run_seq ?_
    refine Run_reg 2 (by kernel_rfl) (L' := [(4, .slice a1 l1.length l1.length)]) ?_ ?_
    · refine QRun_b [.slice a1 l1.length l1.length, .slice a1 l1.length l1.length] 0 _ (by kernel_rfl) (fun w => by kernel_rfl) ?_
      exact QRun_done [4] (by kernel_rfl) (by kernel_rfl)
    have hF := M.ret_some hF
    subst hF
    have H5 := H3.norm
    exact Run_ret1 rfl (ResV_tmp (v := .slice a1 l1.length l1.length) (by kernel_rfl)) ⟨a1, l1.length, (by simp only [(H3.len 0 rfl)]), H5⟩
  · refine Run_block ?_
    refine Run_keep [1, 5, 11, 12, 13] (L' := [(1, .int .i64 g), (5, .slice a1 l1.length l1.length), (11, .slice ax_ x_.length cx_), (12, .int .i64 (x_.length : Int)), (13, .int .i64 0)]) (by kernel_rfl) ?_
    refine Run_loop (fun m L' h' => ∃ (i1 : Int) (s1 : (List Int)), 0 ≤ i1 ∧ M.forN (x_.length : Int) _ _ n m i1 s1 = some x1 ∧ L' = [(1, .int .i64 g), (5, .slice a1 l1.length l1.length), (11, .slice ax_ x_.length cx_), (12, .int .i64 (x_.length : Int)), (13, .int .i64 i1)] ∧ Hold h h' [own cd2 a1 l1.length l1.length s1]) ((x_.length : Int) - 0 : Int).toNat ⟨0, l1, Int.le_refl _, gx1, rfl, H1⟩ ?_
    rintro my1 _ h2 ⟨i1, s1, hloy1', gx1, rfl, H2⟩
    refine Run_seq ?_
    refine Run_reg 1 (by kernel_rfl) (L' := [(1, .int .i64 g), (5, .slice a1 l1.length l1.length), (11, .slice ax_ x_.length cx_), (12, .int .i64 (x_.length : Int)), (13, .int .i64 i1), (14, .bool (decide (i1 < (x_.length : Int))))]) ?_ ?_
    · refine QRun_b [.bool (decide (i1 < (x_.length : Int)))] 0 _ (by kernel_rfl) (fun w => by kernel_rfl) ?_
      exact QRun_done [1, 5, 11, 12, 13, 14] (by kernel_rfl) (by kernel_rfl)
    refine Run_seq ?_
    refine Run_cond (b := decide (i1 < (x_.length : Int))) (by kernel_rfl) (fun hb1 => ?_) (fun hb1 => ?_)
    · obtain ⟨my1, y1, rfl, hB1, hgoy1, houty1⟩ := M.for_go gx1 hb1
      have hlty1 := of_decide_eq_true hb1
      refine Run_skip ?_
      refine Run_seq ?_
      refine Run_block ?_
      refine Run_seq ?_
      obtain ⟨x2, hx1, hB1⟩ := M.bind_some hB1
      obtain ⟨hx1l, hx1u, hx1⟩ := M.idx_some hx1
      refine Run_reg 5 (by kernel_rfl) (L' := [(1, .int .i64 g), (5, .slice a1 l1.length l1.length), (6, .int .i64 i1), (7, .int .i64 x2), (11, .slice ax_ x_.length cx_), (12, .int .i64 (x_.length : Int)), (13, .int .i64 i1)]) ?_ ?_
      · refine QRun_b [.int .i64 i1] 0 _ (by kernel_rfl) (fun w => by kernel_rfl) ?_
        refine QRun_y (.pointer (some (adr ax_ (i1.toNat * 1)))) (by kernel_rfl) (Y_idx (t := 23) (e := 2) (sz := 1) (a := ax_) (n := x_.length) (cap := cx_) (kk := .i64) (i := i1) (by kernel_rfl) Try.underlying23 (by kernel_rfl) ((rx_.at H2.ext).cell hx1).1 hx1l hx1u) ?_
        refine QRun_y (.int .i64 x2) (by kernel_rfl) (Y_load1 (t := 2) (p := adr ax_ (i1.toNat * 1)) (v := .int .i64 x2) (by kernel_rfl) (fun w => by kernel_rfl) (cd2_cell (rx_.at H2.ext) hx1)) ?_
        refine QRun_b [.int .i64 i1, .int .i64 x2] 3 _ (by kernel_rfl) (fun w => by kernel_rfl) ?_
        exact QRun_done [1, 5, 6, 7, 11, 12, 13] (by kernel_rfl) (by kernel_rfl)
      refine Run_ops ?_
      obtain ⟨x3, hx2, hB1⟩ := M.bind_some hB1
      obtain ⟨x4, hx3, hB1⟩ := M.bind_some hB1
      obtain ⟨hx3l, hx3u, hx3⟩ := M.idx_some hx3
      refine Run_b [.slice a1 l1.length l1.length, .int .i64 i1, .int .i64 x2, .int .i64 g] 0 _ (by kernel_rfl) (fun w => by kernel_rfl) ?_
      refine Run_y (.int .i64 x3) (by kernel_rfl) (Y_callq (f := 72) (args := #[.int .i64 x2, .int .i64 g]) (v := .int .i64 x3) (by kernel_rfl) (w_impl_times h2 x2 g _ _ hx2)) ?_
      refine Run_y (.pointer (some (adr a1 (i1.toNat * 1)))) (by kernel_rfl) (Y_idx (t := 23) (e := 2) (sz := 1) (a := a1) (n := l1.length) (cap := l1.length) (kk := .i64) (i := i1) (by kernel_rfl) Try.underlying23 (by kernel_rfl) ((H2.rd 0 rfl).cell hx3).1 hx3l (by rw [← (H2.len 0 rfl)]; exact hx3u)) ?_
      obtain ⟨l2, hu1, hB1⟩ := M.bind_some hB1
      have hu1 := M.upd_some hu1
      refine Run_E (by kernel_rfl) ?_
      refine E_put (C := cd2) (t := 2) (sz := 1) (j := i1) (x := x3) (v := .int .i64 x3) H2 cd2_flat (by kernel_rfl) rfl (cd2_own _) (by kernel_rfl) hu1 (fun h4 H4 => ?_)
      refine Run_nil (by kernel_rfl) ?_
      refine Run_keep [1, 5, 11, 12, 13] (L' := [(1, .int .i64 g), (5, .slice a1 l1.length l1.length), (11, .slice ax_ x_.length cx_), (12, .int .i64 (x_.length : Int)), (13, .int .i64 i1)]) (by kernel_rfl) ?_
      refine Run_blk ?_
      refine Run_reg 2 (by kernel_rfl) (L' := [(1, .int .i64 g), (5, .slice a1 l1.length l1.length), (11, .slice ax_ x_.length cx_), (12, .int .i64 (x_.length : Int)), (13, .int .i64 (i1 + 1))]) ?_ ?_
      · refine QRun_y (.int .i64 (i1 + 1)) (by kernel_rfl) (Y_eq (v := .int .i64 (w64 (i1 + 1))) (Y_pure (fun w => by kernel_rfl)) (by rw [w64_eq _ (by omega)])) ?_
        refine QRun_b [.int .i64 (i1 + 1)] 1 _ (by kernel_rfl) (fun w => by kernel_rfl) ?_
        exact QRun_done [1, 5, 11, 12, 13] (by kernel_rfl) (by kernel_rfl)
      have hB1 := M.ret_some hB1
      have gx1 := hgoy1 _ hB1.symm
      exact Run_again [1, 5, 11, 12, 13] (by kernel_rfl) my1 (Nat.lt_succ_self _) ⟨i1 + 1, l2, by omega, gx1, rfl, H4⟩
    · have gx1 := M.for_end gx1 hb1
      subst gx1
      refine Run_exit (k' := _) rfl ?_
      exact Run_fall [5] (by kernel_rfl) ⟨rfl, H2⟩

set_option maxRecDepth 100000 in
set_option maxHeartbeats 4000000 in
theorem w_impl_checkedVector (h : Heap) (x_ : List Int) (ax_ : Option Addr) (cx_ : Nat) (rx_ : Rd cd2 h (Lt h) ax_ cx_ x_) (n : Nat) (r : (List Int) × Int) (hF : impl_checkedVector x_ n = some r) :
    Fn Try.prog 93 #[.slice ax_ x_.length cx_] h fun v h' => ∃ (a0 : Option Addr) (c0 : Nat), v = .tuple #[.slice a0 r.1.length c0, .int .i64 r.2] ∧ Ali a0 ax_ c0 cx_ r.1 x_ ∧ Hold h h' [] := by
  unfold impl_checkedVector at hF
  refine Fn_enter (args := [.slice ax_ x_.length cx_]) Try.func93 rfl (by kernel_rfl) (by kernel_rfl) (fun w0 _ => ?_)
  have H0 := Hold.init h
  refine Run_seq ?_
  refine Run_reg 2 (by kernel_rfl) (L' := [(0, .slice ax_ x_.length cx_)]) ?_ ?_
  · refine QRun_b [.slice none 0 0, .int .i64 0] 0 _ (by kernel_rfl) (fun w => by kernel_rfl) ?_
    exact QRun_done [0] (by kernel_rfl) (by kernel_rfl)
  refine Run_seq ?_
  refine Run_seq ?_
  obtain ⟨x1, hx1, hF⟩ := M.bind_some hF
  refine Run_reg 3 (by kernel_rfl) (L' := [(0, .slice ax_ x_.length cx_), (6, .bool (!x1))]) ?_ ?_
  · refine QRun_b [.slice ax_ x_.length cx_] 0 _ (by kernel_rfl) (fun w => by kernel_rfl) ?_
    refine QRun_y (.bool x1) (by kernel_rfl) (Y_callq (f := 102) (args := #[.slice ax_ x_.length cx_]) (v := .bool x1) (by kernel_rfl) (w_impl_areValues h x_ ax_ cx_ rx_ _ _ hx1)) ?_
    refine QRun_b [.bool (!x1)] 2 _ (by kernel_rfl) (fun w => by kernel_rfl) ?_
    exact QRun_done [0, 6] (by kernel_rfl) (by kernel_rfl)
  refine Run_cond (b := !x1) (by kernel_rfl) (fun hb1 => ?_) (fun hb1 => ?_)
  · have hF := (M.ite_some hF).1 hb1
    refine Run_seq ?_
    refine Run_reg 2 (by kernel_rfl) (L' := [(2, .slice none 0 0), (3, .int .i64 3)]) ?_ ?_
    · refine QRun_b [.slice none 0 0, .int .i64 3] 0 _ (by kernel_rfl) (fun w => by kernel_rfl) ?_
      exact QRun_done [2, 3] (by kernel_rfl) (by kernel_rfl)
    have hF := M.ret_some hF
    subst hF
    exact Run_ret2 rfl (ResV_tmp (v := .slice none 0 0) (by kernel_rfl)) (ResV_tmp (v := .int .i64 3) (by kernel_rfl)) ⟨none, 0, rfl, .inr ⟨rfl, rfl, rfl⟩, H0⟩
  · have hF := (M.ite_some hF).2 hb1
    refine Run_skip ?_
    refine Run_seq ?_
    refine Run_reg 3 (by kernel_rfl) (L' := [(2, .slice ax_ x_.length cx_), (3, .int .i64 0)]) ?_ ?_
    · refine QRun_b [.slice ax_ x_.length cx_, .slice ax_ x_.length cx_, .int .i64 0] 0 _ (by kernel_rfl) (fun w => by kernel_rfl) ?_
      exact QRun_done [2, 3] (by kernel_rfl) (by kernel_rfl)
    have hF := M.ret_some hF
    subst hF
    exact Run_ret2 rfl (ResV_tmp (v := .slice ax_ x_.length cx_) (by kernel_rfl)) (ResV_tmp (v := .int .i64 0) (by kernel_rfl)) ⟨ax_, cx_, rfl, .inl ⟨rfl, rfl, rfl⟩, H0⟩

set_option maxRecDepth 100000 in
set_option maxHeartbeats 4000000 in
theorem w_impl_ShiftVector (h : Heap) (x_ : List Int) (ax_ : Option Addr) (cx_ : Nat) (rx_ : Rd cd2 h (Lt h) ax_ cx_ x_) (g : Int) (n : Nat) (r : (List Int) × Int) (hF : impl_ShiftVector x_ g n = some r) :
    Fn Try.prog 26 #[.slice ax_ x_.length cx_, .int .i64 g] h fun v h' => ∃ (a0 : Option Addr) (c0 : Nat), v = .tuple #[.slice a0 r.1.length c0, .int .i64 r.2] ∧ Hold h h' [own cd2 a0 r.1.length c0 r.1] := by
  unfold impl_ShiftVector at hF
  refine Fn_enter (args := [.slice ax_ x_.length cx_, .int .i64 g]) Try.func26 rfl (by kernel_rfl) (by kernel_rfl) (fun w0 _ => ?_)
  have H0 := Hold.init h
  refine Run_seq ?_
  refine Run_reg 2 (by kernel_rfl) (L' := [(0, .slice ax_ x_.length cx_), (1, .int .i64 g)]) ?_ ?_
  · refine QRun_b [.slice none 0 0, .int .i64 0] 0 _ (by kernel_rfl) (fun w => by kernel_rfl) ?_
    exact QRun_done [0, 1] (by kernel_rfl) (by kernel_rfl)
  refine Run_seq ?_
  refine Run_seq ?_
  obtain ⟨x1, hx1, hF⟩ := M.bind_some hF
  refine Run_reg 3 (by kernel_rfl) (L' := [(0, .slice ax_ x_.length cx_), (1, .int .i64 g), (8, .bool (!x1))]) ?_ ?_
  · refine QRun_b [.slice ax_ x_.length cx_] 0 _ (by kernel_rfl) (fun w => by kernel_rfl) ?_
    refine QRun_y (.bool x1) (by kernel_rfl) (Y_callq (f := 91) (args := #[.slice ax_ x_.length cx_]) (v := .bool x1) (by kernel_rfl) (w_impl_isVector h x_ ax_ cx_ rx_ _ _ hx1)) ?_
    refine QRun_b [.bool (!x1)] 2 _ (by kernel_rfl) (fun w => by kernel_rfl) ?_
    exact QRun_done [0, 1, 8] (by kernel_rfl) (by kernel_rfl)
  refine Run_cond (b := !x1) (by kernel_rfl) (fun hb1 => ?_) (fun hb1 => ?_)
  · have hF := (M.ite_some hF).1 hb1
    refine Run_seq ?_
    refine Run_reg 2 (by kernel_rfl) (L' := [(4, .slice none 0 0), (5, .int .i64 1)]) ?_ ?_
    · refine QRun_b [.slice none 0 0, .int .i64 1] 0 _ (by kernel_rfl) (fun w => by kernel_rfl) ?_
      exact QRun_done [4, 5] (by kernel_rfl) (by kernel_rfl)
    have hF := M.ret_some hF
    subst hF
    have H1 := H0.empty cd2
    exact Run_ret2 rfl (ResV_tmp (v := .slice none 0 0) (by kernel_rfl)) (ResV_tmp (v := .int .i64 1) (by kernel_rfl)) ⟨none, 0, rfl, H1⟩
  · have hF := (M.ite_some hF).2 hb1
    refine Run_skip ?_
    refine Run_seq ?_
    refine Run_seq ?_
    obtain ⟨x2, hx2, hF⟩ := M.bind_some hF
    refine Run_reg 3 (by kernel_rfl) (L' := [(0, .slice ax_ x_.length cx_), (1, .int .i64 g), (11, .bool (!x2))]) ?_ ?_
    · refine QRun_b [.int .i64 g] 0 _ (by kernel_rfl) (fun w => by kernel_rfl) ?_
      refine QRun_y (.bool x2) (by kernel_rfl) (Y_callq (f := 92) (args := #[.int .i64 g]) (v := .bool x2) (by kernel_rfl) (w_impl_isFinite h g _ _ hx2)) ?_
      refine QRun_b [.bool (!x2)] 2 _ (by kernel_rfl) (fun w => by kernel_rfl) ?_
      exact QRun_done [0, 1, 11] (by kernel_rfl) (by kernel_rfl)
    refine Run_cond (b := !x2) (by kernel_rfl) (fun hb2 => ?_) (fun hb2 => ?_)
    · have hF := (M.ite_some hF).1 hb2
      refine Run_seq ?_
      refine Run_reg 2 (by kernel_rfl) (L' := [(4, .slice none 0 0), (5, .int .i64 2)]) ?_ ?_
      · refine QRun_b [.slice none 0 0, .int .i64 2] 0 _ (by kernel_rfl) (fun w => by kernel_rfl) ?_
        exact QRun_done [4, 5] (by kernel_rfl) (by kernel_rfl)
      have hF := M.ret_some hF
      subst hF
      have H2 := H0.empty cd2
      exact Run_ret2 rfl (ResV_tmp (v := .slice none 0 0) (by kernel_rfl)) (ResV_tmp (v := .int .i64 2) (by kernel_rfl)) ⟨none, 0, rfl, H2⟩
    · have hF := (M.ite_some hF).2 hb2
      refine Run_skip ?_
      refine Run_seq ?_
      refine Run_ops ?_
      refine Run_b [.slice ax_ x_.length cx_, .int .i64 g] 0 _ (by kernel_rfl) (fun w => by kernel_rfl) ?_
      obtain ⟨x3, hx3, hF⟩ := M.bind_some hF
      refine Run_E (by kernel_rfl) ?_
      refine E_call (f := 94) (args := #[.slice ax_ x_.length cx_, .int .i64 g]) (w_impl_shiftedVector h x_ ax_ cx_ rx_ g _ _ hx3) (by kernel_rfl) (fun v1 h1 hp1 => ?_)
      obtain ⟨a1, c1, rfl, H3⟩ := hp1
      have H4 : Hold h h1 [own cd2 a1 x3.length c1 x3] := H0.call H3 rfl
      obtain ⟨x4, hx4, hF⟩ := M.bind_some hF
      refine Run_E (by kernel_rfl) ?_
      refine E_call (f := 93) (args := #[.slice a1 x3.length c1]) (w_impl_checkedVector h1 x3 a1 c1 (H4.rd 0 rfl) _ _ hx4) (by kernel_rfl) (fun v2 h2 hp2 => ?_)
      obtain ⟨a2, c2, rfl, hd1, H5⟩ := hp2
      have H6 : Hold h h2 [own cd2 a1 x3.length c1 x3] := H4.call H5 rfl
      have H7 := H6.alias hd1
      refine Run_b [.slice a2 x4.1.length c2, .int .i64 x4.2, .slice a2 x4.1.length c2, .int .i64 x4.2] 4 _ (by kernel_rfl) (fun w => by kernel_rfl) ?_
      refine Run_nil (by kernel_rfl) ?_
      refine Run_keep [4, 5] (L' := [(4, .slice a2 x4.1.length c2), (5, .int .i64 x4.2)]) (by kernel_rfl) ?_
      have hF := M.ret_some hF
      subst hF
      exact Run_ret2 rfl (ResV_tmp (v := .slice a2 x4.1.length c2) (by kernel_rfl)) (ResV_tmp (v := .int .i64 x4.2) (by kernel_rfl)) ⟨a2, c2, rfl, H7⟩

set_option maxRecDepth 100000 in
set_option maxHeartbeats 4000000 in
theorem w_laws_likeInts (h : Heap) (a_ : List Int) {Sa_ : Bs} (aa_ : Option Addr) (ca_ : Nat) (ra_ : Rd cd2 h Sa_ aa_ ca_ a_) (b : List Int) {Sb : Bs} (ab : Option Addr) (cb : Nat) (rb : Rd cd2 h Sb ab cb b) (n : Nat) (r : Bool) (hF : laws_likeInts a_ b n = some r) :
    Fn Try.prog 27 #[.slice aa_ a_.length ca_, .slice ab b.length cb] h fun v h' => v = .bool r ∧ h' = h := by
  unfold laws_likeInts at hF
  refine Fn_enter (args := [.slice aa_ a_.length ca_, .slice ab b.length cb]) Try.func27 rfl (by kernel_rfl) (by kernel_rfl) (fun w0 _ => ?_)
  refine Run_seq ?_
  refine Run_reg 1 (by kernel_rfl) (L' := [(0, .slice aa_ a_.length ca_), (1, .slice ab b.length cb)]) ?_ ?_
  · refine QRun_b [.bool false] 0 _ (by kernel_rfl) (fun w => by kernel_rfl) ?_
    exact QRun_done [0, 1] (by kernel_rfl) (by kernel_rfl)
  refine Run_seq ?_
  refine Run_seq ?_
  refine Run_reg 5 (by kernel_rfl) (L' := [(0, .slice aa_ a_.length ca_), (1, .slice ab b.length cb), (10, .bool ((a_.length : Int) != (b.length : Int)))]) ?_ ?_
  · refine QRun_b [.slice aa_ a_.length ca_, .int .i64 (a_.length : Int), .slice ab b.length cb, .int .i64 (b.length : Int), .bool ((a_.length : Int) != (b.length : Int))] 0 _ (by kernel_rfl) (fun w => by kernel_rfl) ?_
    exact QRun_done [0, 1, 10] (by kernel_rfl) (by kernel_rfl)
  refine Run_cond (b := (a_.length : Int) != (b.length : Int)) (by kernel_rfl) (fun hb1 => ?_) (fun hb1 => ?_)
  · have hF := (M.ite_some hF).1 hb1
    refine Run_seq ?_
    refine Run_reg 1 (by kernel_rfl) (L' := [(4, .bool false)]) ?_ ?_
    · refine QRun_b [.bool false] 0 _ (by kernel_rfl) (fun w => by kernel_rfl) ?_
      exact QRun_done [4] (by kernel_rfl) (by kernel_rfl)
    have hF := M.ret_some hF
    subst hF
    exact Run_ret1 rfl (ResV_tmp (v := .bool false) (by kernel_rfl)) ⟨rfl, rfl⟩
  · have hF := (M.ite_some hF).2 hb1
    refine Run_skip ?_
    refine Run_seq ?_
    refine Run_seq ?_
    refine Run_reg 1 (by kernel_rfl) (L' := [(0, .slice aa_ a_.length ca_), (1, .slice ab b.length cb), (5, .int .i64 0)]) ?_ ?_
    · refine QRun_b [.int .i64 0] 0 _ (by kernel_rfl) (fun w => by kernel_rfl) ?_
      exact QRun_done [0, 1, 5] (by kernel_rfl) (by kernel_rfl)
    obtain ⟨x1, gx1, hF⟩ := M.bind_some hF
    obtain ⟨hloy1, hhiy1, gx1⟩ := M.for_start gx1
    refine Run_join (fun L' h' => ∃ (s2 : Unit), x1 = .inl s2 ∧ L' = [] ∧ h = h') ?_ ?_
    · rintro _ _ ⟨s2, es2, rfl, rfl⟩
      have hF := M.cont_inl' hF es2
      refine Run_seq ?_
      refine Run_reg 1 (by kernel_rfl) (L' := [(4, .bool true)]) ?_ ?_
      · refine QRun_b [.bool true] 0 _ (by kernel_rfl) (fun w => by kernel_rfl) ?_
        exact QRun_done [4] (by kernel_rfl) (by kernel_rfl)
      have hF := M.ret_some hF
      subst hF
      exact Run_ret1 rfl (ResV_tmp (v := .bool true) (by kernel_rfl)) ⟨rfl, rfl⟩
    · refine Run_block ?_
      refine Run_keep [0, 1, 5] (L' := [(0, .slice aa_ a_.length ca_), (1, .slice ab b.length cb), (5, .int .i64 0)]) (by kernel_rfl) ?_
      refine Run_loop (fun m L' h' => ∃ (i1 : Int) (s1 : Unit), 0 ≤ i1 ∧ M.forN (a_.length : Int) _ _ n m i1 s1 = some x1 ∧ L' = [(0, .slice aa_ a_.length ca_), (1, .slice ab b.length cb), (5, .int .i64 i1)] ∧ h = h') ((a_.length : Int) - 0 : Int).toNat ⟨0, (), Int.le_refl _, gx1, rfl, rfl⟩ ?_
      rintro my1 _ _ ⟨i1, s1, hloy1', gx1, rfl, rfl⟩
      refine Run_seq ?_
      refine Run_seq ?_
      refine Run_reg 4 (by kernel_rfl) (L' := [(0, .slice aa_ a_.length ca_), (1, .slice ab b.length cb), (5, .int .i64 i1), (14, .bool (decide (i1 < (a_.length : Int))))]) ?_ ?_
      · refine QRun_b [.int .i64 i1, .slice aa_ a_.length ca_, .int .i64 (a_.length : Int), .bool (decide (i1 < (a_.length : Int)))] 0 _ (by kernel_rfl) (fun w => by kernel_rfl) ?_
        exact QRun_done [0, 1, 5, 14] (by kernel_rfl) (by kernel_rfl)
      refine Run_cond (b := decide (i1 < (a_.length : Int))) (by kernel_rfl) (fun hb2 => ?_) (fun hb2 => ?_)
      · obtain ⟨my1, y1, rfl, hB1, hgoy1, houty1⟩ := M.for_go gx1 hb2
        have hlty1 := of_decide_eq_true hb2
        refine Run_skip ?_
        refine Run_seq ?_
        refine Run_block ?_
        refine Run_seq ?_
        obtain ⟨x2, hx1, hB1⟩ := M.bind_some hB1
        obtain ⟨hx1l, hx1u, hx1⟩ := M.idx_some hx1
        obtain ⟨x3, hx2, hB1⟩ := M.bind_some hB1
        obtain ⟨hx2l, hx2u, hx2⟩ := M.idx_some hx2
        refine Run_draw 9 mixed (by kernel_rfl) (by kernel_rfl) (L' := [(0, .slice aa_ a_.length ca_), (1, .slice ab b.length cb), (5, .int .i64 i1), (25, .bool (x2 != x3))]) ?_ ?_
        · refine QRun_b [.slice aa_ a_.length ca_, .int .i64 i1] 0 _ (by kernel_rfl) (fun w => by kernel_rfl) ?_
          refine QRun_y (.pointer (some (adr aa_ (i1.toNat * 1)))) (by kernel_rfl) (Y_idx (t := 23) (e := 2) (sz := 1) (a := aa_) (n := a_.length) (cap := ca_) (kk := .i64) (i := i1) (by kernel_rfl) Try.underlying23 (by kernel_rfl) (ra_.cell hx1).1 hx1l hx1u) ?_
          refine QRun_y (.int .i64 x2) (by kernel_rfl) (Y_load1 (t := 2) (p := adr aa_ (i1.toNat * 1)) (v := .int .i64 x2) (by kernel_rfl) (fun w => by kernel_rfl) (cd2_cell ra_ hx1)) ?_
          refine QRun_b [.slice ab b.length cb, .int .i64 i1] 4 _ (by kernel_rfl) (fun w => by kernel_rfl) ?_
          refine QRun_y (.pointer (some (adr ab (i1.toNat * 1)))) (by kernel_rfl) (Y_idx (t := 23) (e := 2) (sz := 1) (a := ab) (n := b.length) (cap := cb) (kk := .i64) (i := i1) (by kernel_rfl) Try.underlying23 (by kernel_rfl) (rb.cell hx2).1 hx2l hx2u) ?_
          refine QRun_y (.int .i64 x3) (by kernel_rfl) (Y_load1 (t := 2) (p := adr ab (i1.toNat * 1)) (v := .int .i64 x3) (by kernel_rfl) (fun w => by kernel_rfl) (cd2_cell rb hx2)) ?_
          refine QRun_b [.bool (x2 != x3)] 8 _ (by kernel_rfl) (fun w => by kernel_rfl) ?_
          exact QRun_done [0, 1, 5, 25] (by kernel_rfl) (by kernel_rfl)
        refine Run_cond (b := x2 != x3) (by kernel_rfl) (fun hb3 => ?_) (fun hb3 => ?_)
        · have hB1 := (M.ite_some hB1).1 hb3
          refine Run_seq ?_
          refine Run_reg 1 (by kernel_rfl) (L' := [(4, .bool false)]) ?_ ?_
          · refine QRun_b [.bool false] 0 _ (by kernel_rfl) (fun w => by kernel_rfl) ?_
            exact QRun_done [4] (by kernel_rfl) (by kernel_rfl)
          have hB1 := M.ret_some hB1
          have gx1 := houty1 _ hB1.symm
          have hF := M.cont_inr' hF gx1
          have hF := M.ret_some hF
          subst hF
          exact Run_ret1 rfl (ResV_tmp (v := .bool false) (by kernel_rfl)) ⟨rfl, rfl⟩
        · have hB1 := (M.ite_some hB1).2 hb3
          refine Run_skip ?_
          refine Run_blk ?_
          refine Run_reg 3 (by kernel_rfl) (L' := [(0, .slice aa_ a_.length ca_), (1, .slice ab b.length cb), (5, .int .i64 (i1 + 1))]) ?_ ?_
          · refine QRun_b [.int .i64 i1] 0 _ (by kernel_rfl) (fun w => by kernel_rfl) ?_
            refine QRun_y (.int .i64 (i1 + 1)) (by kernel_rfl) (Y_eq (v := .int .i64 (w64 (i1 + 1))) (Y_pure (fun w => by kernel_rfl)) (by rw [w64_eq _ (by omega)])) ?_
            refine QRun_b [.int .i64 (i1 + 1)] 2 _ (by kernel_rfl) (fun w => by kernel_rfl) ?_
            exact QRun_done [0, 1, 5] (by kernel_rfl) (by kernel_rfl)
          have hB1 := M.ret_some hB1
          have gx1 := hgoy1 _ hB1.symm
          exact Run_again [0, 1, 5] (by kernel_rfl) my1 (Nat.lt_succ_self _) ⟨i1 + 1, (), by omega, gx1, rfl, rfl⟩
      · have gx1 := M.for_end gx1 hb2
        subst gx1
        refine Run_exit (k' := _) rfl ?_
        exact Run_fall [] (by kernel_rfl) ⟨(), rfl, rfl, rfl⟩

set_option maxRecDepth 100000 in
set_option maxHeartbeats 4000000 in
theorem w_laws_FnOrbitRates (h : Heap) (code : List Int) (acode : Option Addr) (ccode : Nat) (rcode : Rd cd5 h (Lt h) acode ccode code) (n : Nat) (r : Bool) (hF : laws_FnOrbitRates code n = some r) :
    Fn Try.prog 5 #[.slice acode code.length ccode] h fun v h' => v = .bool r ∧ Hold h h' [] := by
  unfold laws_FnOrbitRates at hF
  refine Fn_enter (args := [.slice acode code.length ccode]) Try.func5 rfl (by kernel_rfl) (by kernel_rfl) (fun w0 _ => ?_)
  have H0 := Hold.init h
  refine Run_seq ?_
  refine Run_reg 1 (by kernel_rfl) (L' := [(0, .slice acode code.length ccode)]) ?_ ?_
  · refine QRun_b [.bool false] 0 _ (by kernel_rfl) (fun w => by kernel_rfl) ?_
    exact QRun_done [0] (by kernel_rfl) (by kernel_rfl)
  refine Run_seq ?_
  refine Run_seq ?_
  obtain ⟨x1, hx1, hF⟩ := M.bind_some hF
  refine Run_reg 2 (by kernel_rfl) (L' := [(0, .slice acode code.length ccode), (22, .bool x1)]) ?_ ?_
  · refine QRun_b [.slice acode code.length ccode] 0 _ (by kernel_rfl) (fun w => by kernel_rfl) ?_
    refine QRun_y (.bool x1) (by kernel_rfl) (Y_callq (f := 17) (args := #[.slice acode code.length ccode]) (v := .bool x1) (by kernel_rfl) (w_laws_big h code acode ccode rcode _ _ hx1)) ?_
    exact QRun_done [0, 22] (by kernel_rfl) (by kernel_rfl)
  refine Run_cond (b := x1) (by kernel_rfl) (fun hb1 => ?_) (fun hb1 => ?_)
  · have hF := (M.ite_some hF).1 hb1
    refine Run_seq ?_
    refine Run_reg 1 (by kernel_rfl) (L' := [(2, .bool true)]) ?_ ?_
    · refine QRun_b [.bool true] 0 _ (by kernel_rfl) (fun w => by kernel_rfl) ?_
      exact QRun_done [2] (by kernel_rfl) (by kernel_rfl)
    have hF := M.ret_some hF
    subst hF
    exact Run_ret1 rfl (ResV_tmp (v := .bool true) (by kernel_rfl)) ⟨rfl, H0⟩
  · have hF := (M.ite_some hF).2 hb1
    refine Run_skip ?_
    refine Run_seq ?_
    refine Run_ops ?_
    refine Run_b [.slice acode code.length ccode] 0 _ (by kernel_rfl) (fun w => by kernel_rfl) ?_
    obtain ⟨x2, hx2, hF⟩ := M.bind_some hF
    refine Run_E (by kernel_rfl) ?_
    refine E_call (f := 22) (args := #[.slice acode code.length ccode]) (w_spec_DrawOrbitRepeats h code acode ccode rcode _ _ hx2) (by kernel_rfl) (fun v1 h1 hp1 => ?_)
    obtain ⟨a1, c1, a2, c2, rfl, H1⟩ := hp1
    have H2 : Hold h h1 [own cd23 a1 x2.1.length c1 x2.1, own cd2 a2 x2.2.length c2 x2.2] := H0.call H1 rfl
    refine Run_b [.tuple #[.slice a1 x2.1.length c1, .slice a2 x2.2.length c2], .slice a1 x2.1.length c1, .slice a2 x2.2.length c2, .slice a1 x2.1.length c1, .slice a2 x2.2.length c2] 2 _ (by kernel_rfl) (fun w => by kernel_rfl) ?_
    refine Run_nil (by kernel_rfl) ?_
    refine Run_keep [3, 4] (L' := [(3, .slice a1 x2.1.length c1), (4, .slice a2 x2.2.length c2)]) (by kernel_rfl) ?_
    refine Run_seq ?_
    obtain ⟨x3, hx3, hF⟩ := M.bind_some hF
    refine Run_regC (j := 12) (C := fun x => Hold h x [own cd23 a1 x2.1.length c1 x2.1, own cd2 a2 x2.2.length c2 x2.2]) (by kernel_rfl) H2 (L' := [(3, .slice a1 x2.1.length c1), (4, .slice a2 x2.2.length c2), (5, .int .i64 x3.1), (6, .int .i64 x3.2.1), (7, .int .i64 x3.2.2.1), (8, .int .i64 x3.2.2.2)]) ?_ (fun h2 H3 => ?_)
    · refine QRun_b [.slice a1 x2.1.length c1, .slice a2 x2.2.length c2] 0 _ (by kernel_rfl) (fun w => by kernel_rfl) ?_
      refine QRun_y (.tuple #[.int .i64 x3.1, .int .i64 x3.2.1, .int .i64 x3.2.2.1, .int .i64 x3.2.2.2]) (by kernel_rfl) (Y_call (f := 23) (args := #[.slice a1 x2.1.length c1, .slice a2 x2.2.length c2]) (v := .tuple #[.int .i64 x3.1, .int .i64 x3.2.1, .int .i64 x3.2.2.1, .int .i64 x3.2.2.2]) (by kernel_rfl) fun hx Hx => (w_impl_OrbitRepeats hx x2.1 a1 c1 (Hx.rd 0 rfl) x2.2 a2 c2 (Hx.rd 1 rfl) _ _ hx3).mono fun _ _ ⟨e, H'⟩ => ⟨e, Hx.call H' rfl⟩) ?_
      refine QRun_b [.tuple #[.int .i64 x3.1, .int .i64 x3.2.1, .int .i64 x3.2.2.1, .int .i64 x3.2.2.2], .int .i64 x3.1, .int .i64 x3.2.1, .int .i64 x3.2.2.1, .int .i64 x3.2.2.2, .int .i64 x3.1, .int .i64 x3.2.1, .int .i64 x3.2.2.1, .int .i64 x3.2.2.2] 3 _ (by kernel_rfl) (fun w => by kernel_rfl) ?_
      exact QRun_done [3, 4, 5, 6, 7, 8] (by kernel_rfl) (by kernel_rfl)
    have H4 : Hold h h2 [own cd23 a1 x2.1.length c1 x2.1, own cd2 a2 x2.2.length c2 x2.2] := H3
    refine Run_seq ?_
    obtain ⟨x4, hx4, hF⟩ := M.bind_some hF
    refine Run_regC (j := 12) (C := fun x => Hold h x [own cd23 a1 x2.1.length c1 x2.1, own cd2 a2 x2.2.length c2 x2.2]) (by kernel_rfl) H4 (L' := [(3, .slice a1 x2.1.length c1), (4, .slice a2 x2.2.length c2), (5, .int .i64 x3.1), (6, .int .i64 x3.2.1), (7, .int .i64 x3.2.2.1), (8, .int .i64 x3.2.2.2), (9, .int .i64 x4.1), (10, .int .i64 x4.2.1), (11, .int .i64 x4.2.2.1), (12, .int .i64 x4.2.2.2)]) ?_ (fun h3 H5 => ?_)
    · refine QRun_b [.slice a1 x2.1.length c1, .slice a2 x2.2.length c2] 0 _ (by kernel_rfl) (fun w => by kernel_rfl) ?_
      refine QRun_y (.tuple #[.int .i64 x4.1, .int .i64 x4.2.1, .int .i64 x4.2.2.1, .int .i64 x4.2.2.2]) (by kernel_rfl) (Y_call (f := 24) (args := #[.slice a1 x2.1.length c1, .slice a2 x2.2.length c2]) (v := .tuple #[.int .i64 x4.1, .int .i64 x4.2.1, .int .i64 x4.2.2.1, .int .i64 x4.2.2.2]) (by kernel_rfl) fun hx Hx => (w_spec_OrbitRepeats hx x2.1 a1 c1 (Hx.rd 0 rfl) x2.2 a2 c2 (Hx.rd 1 rfl) _ _ hx4).mono fun _ _ ⟨e, H'⟩ => ⟨e, Hx.call H' rfl⟩) ?_
      refine QRun_b [.tuple #[.int .i64 x4.1, .int .i64 x4.2.1, .int .i64 x4.2.2.1, .int .i64 x4.2.2.2], .int .i64 x4.1, .int .i64 x4.2.1, .int .i64 x4.2.2.1, .int .i64 x4.2.2.2, .int .i64 x4.1, .int .i64 x4.2.1, .int .i64 x4.2.2.1, .int .i64 x4.2.2.2] 3 _ (by kernel_rfl) (fun w => by kernel_rfl) ?_
      exact QRun_done [3, 4, 5, 6, 7, 8, 9, 10, 11, 12] (by kernel_rfl) (by kernel_rfl)
    have H6 : Hold h h3 [own cd23 a1 x2.1.length c1 x2.1, own cd2 a2 x2.2.length c2 x2.2] := H5
    refine Run_seq ?_
    refine Run_ops ?_
    refine Run_b [.slice a1 x2.1.length c1, .slice a2 x2.2.length c2] 0 _ (by kernel_rfl) (fun w => by kernel_rfl) ?_
    obtain ⟨x5, hx5, hF⟩ := M.bind_some hF
    refine Run_E (by kernel_rfl) ?_
    refine E_call (f := 13) (args := #[.slice a1 x2.1.length c1, .slice a2 x2.2.length c2]) (w_impl_OrbitRate h3 x2.1 a1 c1 (H6.rd 0 rfl) x2.2 a2 c2 (H6.rd 1 rfl) _ _ hx5) (by kernel_rfl) (fun v2 h4 hp2 => ?_)
    obtain ⟨rfl, H7⟩ := hp2
    have H8 : Hold h h4 [own cd23 a1 x2.1.length c1 x2.1, own cd2 a2 x2.2.length c2 x2.2] := H6.call H7 rfl
    refine Run_b [.tuple #[.agg #[.int .i64 x5.1.Num, .int .i64 x5.1.Den], .int .i64 x5.2], .agg #[.int .i64 x5.1.Num, .int .i64 x5.1.Den], .int .i64 x5.2] 3 _ (by kernel_rfl) (fun w => by kernel_rfl) ?_
    refine Run_E (by kernel_rfl) ?_
    refine E_box (ty := 26) (cs := [.int .i64 0, .int .i64 0]) H8 (fun w => by kernel_rfl) (fun b1 h5 H9 => ?_)
    refine Run_E (by kernel_rfl) ?_
    refine E_bput (t := 26) (off := 0) (us := [.int .i64 x5.1.Num, .int .i64 x5.1.Den]) (v := .agg #[.int .i64 x5.1.Num, .int .i64 x5.1.Den]) H9 (by kernel_rfl) (by kernel_rfl) rfl (by kernel_rfl) rfl (fun h6 H10 => ?_)
    refine Run_b [.int .i64 x5.2] 8 _ (by kernel_rfl) (fun w => by kernel_rfl) ?_
    refine Run_nil (by kernel_rfl) ?_
    refine Run_keep [3, 4, 5, 6, 7, 8, 9, 10, 11, 12, 13, 14] (L' := [(3, .slice a1 x2.1.length c1), (4, .slice a2 x2.2.length c2), (5, .int .i64 x3.1), (6, .int .i64 x3.2.1), (7, .int .i64 x3.2.2.1), (8, .int .i64 x3.2.2.2), (9, .int .i64 x4.1), (10, .int .i64 x4.2.1), (11, .int .i64 x4.2.2.1), (12, .int .i64 x4.2.2.2), (13, .pointer (some ⟨b1, 0, none⟩)), (14, .int .i64 x5.2)]) (by kernel_rfl) ?_
    refine Run_seq ?_
    refine Run_ops ?_
    refine Run_b [.slice a1 x2.1.length c1, .slice a2 x2.2.length c2] 0 _ (by kernel_rfl) (fun w => by kernel_rfl) ?_
    obtain ⟨x6, hx6, hF⟩ := M.bind_some hF
    refine Run_E (by kernel_rfl) ?_
    refine E_call (f := 10) (args := #[.slice a1 x2.1.length c1, .slice a2 x2.2.length c2]) (w_spec_OrbitRate h6 x2.1 a1 c1 (H10.rd 1 rfl) x2.2 a2 c2 (H10.rd 2 rfl) _ _ hx6) (by kernel_rfl) (fun v3 h7 hp3 => ?_)
    obtain ⟨rfl, H11⟩ := hp3
    have H12 : Hold h h7 [box b1 26 [.int .i64 x5.1.Num, .int .i64 x5.1.Den], own cd23 a1 x2.1.length c1 x2.1, own cd2 a2 x2.2.length c2 x2.2] := H10.call H11 rfl
    refine Run_b [.tuple #[.agg #[.int .i64 x6.1.Num, .int .i64 x6.1.Den], .int .i64 x6.2], .agg #[.int .i64 x6.1.Num, .int .i64 x6.1.Den], .int .i64 x6.2] 3 _ (by kernel_rfl) (fun w => by kernel_rfl) ?_
    refine Run_E (by kernel_rfl) ?_
    refine E_box (ty := 26) (cs := [.int .i64 0, .int .i64 0]) H12 (fun w => by kernel_rfl) (fun b2 h8 H13 => ?_)
    refine Run_E (by kernel_rfl) ?_
    refine E_bput (t := 26) (off := 0) (us := [.int .i64 x6.1.Num, .int .i64 x6.1.Den]) (v := .agg #[.int .i64 x6.1.Num, .int .i64 x6.1.Den]) H13 (by kernel_rfl) (by kernel_rfl) rfl (by kernel_rfl) rfl (fun h9 H14 => ?_)
    refine Run_b [.int .i64 x6.2] 8 _ (by kernel_rfl) (fun w => by kernel_rfl) ?_
    refine Run_nil (by kernel_rfl) ?_
    refine Run_keep [3, 4, 5, 6, 7, 8, 9, 10, 11, 12, 13, 14, 15, 16] (L' := [(3, .slice a1 x2.1.length c1), (4, .slice a2 x2.2.length c2), (5, .int .i64 x3.1), (6, .int .i64 x3.2.1), (7, .int .i64 x3.2.2.1), (8, .int .i64 x3.2.2.2), (9, .int .i64 x4.1), (10, .int .i64 x4.2.1), (11, .int .i64 x4.2.2.1), (12, .int .i64 x4.2.2.2), (13, .pointer (some ⟨b1, 0, none⟩)), (14, .int .i64 x5.2), (15, .pointer (some ⟨b2, 0, none⟩)), (16, .int .i64 x6.2)]) (by kernel_rfl) ?_
    refine Run_seq ?_
    refine Run_seq ?_
    refine Run_reg 28 (by kernel_rfl) (L' := [(3, .slice a1 x2.1.length c1), (4, .slice a2 x2.2.length c2), (5, .int .i64 x3.1), (6, .int .i64 x3.2.1), (7, .int .i64 x3.2.2.1), (8, .int .i64 x3.2.2.2), (13, .pointer (some ⟨b1, 0, none⟩)), (14, .int .i64 x5.2), (83, .bool ((((((x3.2.2.2 != x4.2.2.2) || (x3.1 != x4.1)) || (x3.2.1 != x4.2.1)) || (x3.2.2.1 != x4.2.2.1)) || (x5.2 != x6.2)) || (!((x5.1.Num == x6.1.Num) && (x5.1.Den == x6.1.Den)))))]) ?_ ?_
    · refine QRun_b [.int .i64 x3.2.2.2, .int .i64 x4.2.2.2, .bool (x3.2.2.2 != x4.2.2.2)] 0 _ (by kernel_rfl) (fun w => by kernel_rfl) ?_
      refine QRun_seq 8 [(3, .slice a1 x2.1.length c1), (4, .slice a2 x2.2.length c2), (5, .int .i64 x3.1), (6, .int .i64 x3.2.1), (7, .int .i64 x3.2.2.1), (8, .int .i64 x3.2.2.2), (10, .int .i64 x4.2.1), (11, .int .i64 x4.2.2.1), (13, .pointer (some ⟨b1, 0, none⟩)), (14, .int .i64 x5.2), (15, .pointer (some ⟨b2, 0, none⟩)), (16, .int .i64 x6.2), (63, .bool ((x3.2.2.2 != x4.2.2.2) || (x3.1 != x4.1)))] ?_ ?_
      · rcases Bool.eq_false_or_eq_true (x3.2.2.2 != x4.2.2.2) with hb2 | hb2
        · refine QRun_bool (x3.2.2.2 != x4.2.2.2) true (by kernel_rfl) (fun w => by kernel_rfl) hb2 ?_
          refine QRun_n (by kernel_rfl) ?_
          refine QRun_n (by kernel_rfl) ?_
          refine QRun_n (by kernel_rfl) ?_
          refine QRun_bool true ((x3.2.2.2 != x4.2.2.2) || (x3.1 != x4.1)) (by kernel_rfl) (fun w => by kernel_rfl) (by rw [hb2]; rfl) ?_
          exact QRun_done [3, 4, 5, 6, 7, 8, 10, 11, 13, 14, 15, 16, 63] (by kernel_rfl) (by kernel_rfl)
        · refine QRun_bool (x3.2.2.2 != x4.2.2.2) false (by kernel_rfl) (fun w => by kernel_rfl) hb2 ?_
          refine QRun_b [.int .i64 x3.1, .int .i64 x4.1, .bool (x3.1 != x4.1)] 4 _ (by kernel_rfl) (fun w => by kernel_rfl) ?_
          refine QRun_bool (x3.1 != x4.1) ((x3.2.2.2 != x4.2.2.2) || (x3.1 != x4.1)) (by kernel_rfl) (fun w => by kernel_rfl) (by rw [hb2]; rfl) ?_
          exact QRun_done [3, 4, 5, 6, 7, 8, 10, 11, 13, 14, 15, 16, 63] (by kernel_rfl) (by kernel_rfl)
      refine QRun_seq 13 [(3, .slice a1 x2.1.length c1), (4, .slice a2 x2.2.length c2), (5, .int .i64 x3.1), (6, .int .i64 x3.2.1), (7, .int .i64 x3.2.2.1), (8, .int .i64 x3.2.2.2), (11, .int .i64 x4.2.2.1), (13, .pointer (some ⟨b1, 0, none⟩)), (14, .int .i64 x5.2), (15, .pointer (some ⟨b2, 0, none⟩)), (16, .int .i64 x6.2), (68, .bool (((x3.2.2.2 != x4.2.2.2) || (x3.1 != x4.1)) || (x3.2.1 != x4.2.1)))] ?_ ?_
      · rcases Bool.eq_false_or_eq_true ((x3.2.2.2 != x4.2.2.2) || (x3.1 != x4.1)) with hb3 | hb3
        · refine QRun_bool ((x3.2.2.2 != x4.2.2.2) || (x3.1 != x4.1)) true (by kernel_rfl) (fun w => by kernel_rfl) hb3 ?_
          refine QRun_n (by kernel_rfl) ?_
          refine QRun_n (by kernel_rfl) ?_
          refine QRun_n (by kernel_rfl) ?_
          refine QRun_bool true (((x3.2.2.2 != x4.2.2.2) || (x3.1 != x4.1)) || (x3.2.1 != x4.2.1)) (by kernel_rfl) (fun w => by kernel_rfl) (by rw [hb3]; rfl) ?_
          exact QRun_done [3, 4, 5, 6, 7, 8, 11, 13, 14, 15, 16, 68] (by kernel_rfl) (by kernel_rfl)
        · refine QRun_bool ((x3.2.2.2 != x4.2.2.2) || (x3.1 != x4.1)) false (by kernel_rfl) (fun w => by kernel_rfl) hb3 ?_
          refine QRun_b [.int .i64 x3.2.1, .int .i64 x4.2.1, .bool (x3.2.1 != x4.2.1)] 9 _ (by kernel_rfl) (fun w => by kernel_rfl) ?_
          refine QRun_bool (x3.2.1 != x4.2.1) (((x3.2.2.2 != x4.2.2.2) || (x3.1 != x4.1)) || (x3.2.1 != x4.2.1)) (by kernel_rfl) (fun w => by kernel_rfl) (by rw [hb3]; rfl) ?_
          exact QRun_done [3, 4, 5, 6, 7, 8, 11, 13, 14, 15, 16, 68] (by kernel_rfl) (by kernel_rfl)
      refine QRun_seq 18 [(3, .slice a1 x2.1.length c1), (4, .slice a2 x2.2.length c2), (5, .int .i64 x3.1), (6, .int .i64 x3.2.1), (7, .int .i64 x3.2.2.1), (8, .int .i64 x3.2.2.2), (13, .pointer (some ⟨b1, 0, none⟩)), (14, .int .i64 x5.2), (15, .pointer (some ⟨b2, 0, none⟩)), (16, .int .i64 x6.2), (73, .bool ((((x3.2.2.2 != x4.2.2.2) || (x3.1 != x4.1)) || (x3.2.1 != x4.2.1)) || (x3.2.2.1 != x4.2.2.1)))] ?_ ?_
      · rcases Bool.eq_false_or_eq_true (((x3.2.2.2 != x4.2.2.2) || (x3.1 != x4.1)) || (x3.2.1 != x4.2.1)) with hb4 | hb4
        · refine QRun_bool (((x3.2.2.2 != x4.2.2.2) || (x3.1 != x4.1)) || (x3.2.1 != x4.2.1)) true (by kernel_rfl) (fun w => by kernel_rfl) hb4 ?_
          refine QRun_n (by kernel_rfl) ?_
          refine QRun_n (by kernel_rfl) ?_
          refine QRun_n (by kernel_rfl) ?_
          refine QRun_bool true ((((x3.2.2.2 != x4.2.2.2) || (x3.1 != x4.1)) || (x3.2.1 != x4.2.1)) || (x3.2.2.1 != x4.2.2.1)) (by kernel_rfl) (fun w => by kernel_rfl) (by rw [hb4]; rfl) ?_
          exact QRun_done [3, 4, 5, 6, 7, 8, 13, 14, 15, 16, 73] (by kernel_rfl) (by kernel_rfl)
        · refine QRun_bool (((x3.2.2.2 != x4.2.2.2) || (x3.1 != x4.1)) || (x3.2.1 != x4.2.1)) false (by kernel_rfl) (fun w => by kernel_rfl) hb4 ?_
          refine QRun_b [.int .i64 x3.2.2.1, .int .i64 x4.2.2.1, .bool (x3.2.2.1 != x4.2.2.1)] 14 _ (by kernel_rfl) (fun w => by kernel_rfl) ?_
          refine QRun_bool (x3.2.2.1 != x4.2.2.1) ((((x3.2.2.2 != x4.2.2.2) || (x3.1 != x4.1)) || (x3.2.1 != x4.2.1)) || (x3.2.2.1 != x4.2.2.1)) (by kernel_rfl) (fun w => by kernel_rfl) (by rw [hb4]; rfl) ?_
          exact QRun_done [3, 4, 5, 6, 7, 8, 13, 14, 15, 16, 73] (by kernel_rfl) (by kernel_rfl)
      refine QRun_seq 23 [(3, .slice a1 x2.1.length c1), (4, .slice a2 x2.2.length c2), (5, .int .i64 x3.1), (6, .int .i64 x3.2.1), (7, .int .i64 x3.2.2.1), (8, .int .i64 x3.2.2.2), (13, .pointer (some ⟨b1, 0, none⟩)), (14, .int .i64 x5.2), (15, .pointer (some ⟨b2, 0, none⟩)), (78, .bool (((((x3.2.2.2 != x4.2.2.2) || (x3.1 != x4.1)) || (x3.2.1 != x4.2.1)) || (x3.2.2.1 != x4.2.2.1)) || (x5.2 != x6.2)))] ?_ ?_
      · rcases Bool.eq_false_or_eq_true ((((x3.2.2.2 != x4.2.2.2) || (x3.1 != x4.1)) || (x3.2.1 != x4.2.1)) || (x3.2.2.1 != x4.2.2.1)) with hb5 | hb5
        · refine QRun_bool ((((x3.2.2.2 != x4.2.2.2) || (x3.1 != x4.1)) || (x3.2.1 != x4.2.1)) || (x3.2.2.1 != x4.2.2.1)) true (by kernel_rfl) (fun w => by kernel_rfl) hb5 ?_
          refine QRun_n (by kernel_rfl) ?_
          refine QRun_n (by kernel_rfl) ?_
          refine QRun_n (by kernel_rfl) ?_
          refine QRun_bool true (((((x3.2.2.2 != x4.2.2.2) || (x3.1 != x4.1)) || (x3.2.1 != x4.2.1)) || (x3.2.2.1 != x4.2.2.1)) || (x5.2 != x6.2)) (by kernel_rfl) (fun w => by kernel_rfl) (by rw [hb5]; rfl) ?_
          exact QRun_done [3, 4, 5, 6, 7, 8, 13, 14, 15, 78] (by kernel_rfl) (by kernel_rfl)
        · refine QRun_bool ((((x3.2.2.2 != x4.2.2.2) || (x3.1 != x4.1)) || (x3.2.1 != x4.2.1)) || (x3.2.2.1 != x4.2.2.1)) false (by kernel_rfl) (fun w => by kernel_rfl) hb5 ?_
          refine QRun_b [.int .i64 x5.2, .int .i64 x6.2, .bool (x5.2 != x6.2)] 19 _ (by kernel_rfl) (fun w => by kernel_rfl) ?_
          refine QRun_bool (x5.2 != x6.2) (((((x3.2.2.2 != x4.2.2.2) || (x3.1 != x4.1)) || (x3.2.1 != x4.2.1)) || (x3.2.2.1 != x4.2.2.1)) || (x5.2 != x6.2)) (by kernel_rfl) (fun w => by kernel_rfl) (by rw [hb5]; rfl) ?_
          exact QRun_done [3, 4, 5, 6, 7, 8, 13, 14, 15, 78] (by kernel_rfl) (by kernel_rfl)
      refine QRun_seq 28 [(3, .slice a1 x2.1.length c1), (4, .slice a2 x2.2.length c2), (5, .int .i64 x3.1), (6, .int .i64 x3.2.1), (7, .int .i64 x3.2.2.1), (8, .int .i64 x3.2.2.2), (13, .pointer (some ⟨b1, 0, none⟩)), (14, .int .i64 x5.2), (83, .bool ((((((x3.2.2.2 != x4.2.2.2) || (x3.1 != x4.1)) || (x3.2.1 != x4.2.1)) || (x3.2.2.1 != x4.2.2.1)) || (x5.2 != x6.2)) || (!((x5.1.Num == x6.1.Num) && (x5.1.Den == x6.1.Den)))))] ?_ ?_
      · rcases Bool.eq_false_or_eq_true (((((x3.2.2.2 != x4.2.2.2) || (x3.1 != x4.1)) || (x3.2.1 != x4.2.1)) || (x3.2.2.1 != x4.2.2.1)) || (x5.2 != x6.2)) with hb6 | hb6
        · refine QRun_bool (((((x3.2.2.2 != x4.2.2.2) || (x3.1 != x4.1)) || (x3.2.1 != x4.2.1)) || (x3.2.2.1 != x4.2.2.1)) || (x5.2 != x6.2)) true (by kernel_rfl) (fun w => by kernel_rfl) hb6 ?_
          refine QRun_n (by kernel_rfl) ?_
          refine QRun_n (by kernel_rfl) ?_
          refine QRun_n (by kernel_rfl) ?_
          refine QRun_bool true ((((((x3.2.2.2 != x4.2.2.2) || (x3.1 != x4.1)) || (x3.2.1 != x4.2.1)) || (x3.2.2.1 != x4.2.2.1)) || (x5.2 != x6.2)) || (!((x5.1.Num == x6.1.Num) && (x5.1.Den == x6.1.Den)))) (by kernel_rfl) (fun w => by kernel_rfl) (by rw [hb6]; rfl) ?_
          exact QRun_done [3, 4, 5, 6, 7, 8, 13, 14, 83] (by kernel_rfl) (by kernel_rfl)
        · refine QRun_bool (((((x3.2.2.2 != x4.2.2.2) || (x3.1 != x4.1)) || (x3.2.1 != x4.2.1)) || (x3.2.2.1 != x4.2.2.1)) || (x5.2 != x6.2)) false (by kernel_rfl) (fun w => by kernel_rfl) hb6 ?_
          refine QRun_y (.agg #[.int .i64 x5.1.Num, .int .i64 x5.1.Den]) (by kernel_rfl) (Y_loadA (t := 26) (n := 2) (p := ⟨b1, 0, none⟩) (cs := [.int .i64 x5.1.Num, .int .i64 x5.1.Den]) (by kernel_rfl) (fun w => by kernel_rfl) (by kernel_rfl) rfl (H14.cells (n := 2) (off := 0) 1 rfl rfl)) ?_
          refine QRun_y (.agg #[.int .i64 x6.1.Num, .int .i64 x6.1.Den]) (by kernel_rfl) (Y_loadA (t := 26) (n := 2) (p := ⟨b2, 0, none⟩) (cs := [.int .i64 x6.1.Num, .int .i64 x6.1.Den]) (by kernel_rfl) (fun w => by kernel_rfl) (by kernel_rfl) rfl (H14.cells (n := 2) (off := 0) 0 rfl rfl)) ?_
          refine QRun_y (.bool (!((x5.1.Num == x6.1.Num) && (x5.1.Den == x6.1.Den)))) (by kernel_rfl) (Y_sne (t := 26) (ox := .tmp 80) (oy := .tmp 81) (xs := #[.int .i64 x5.1.Num, .int .i64 x5.1.Den]) (ys := #[.int .i64 x6.1.Num, .int .i64 x6.1.Den]) (by kernel_rfl) (by kernel_rfl) (fun w => eqS26 9998 x5.1.Num x5.1.Den x6.1.Num x6.1.Den w)) ?_
          refine QRun_bool (!((x5.1.Num == x6.1.Num) && (x5.1.Den == x6.1.Den))) ((((((x3.2.2.2 != x4.2.2.2) || (x3.1 != x4.1)) || (x3.2.1 != x4.2.1)) || (x3.2.2.1 != x4.2.2.1)) || (x5.2 != x6.2)) || (!((x5.1.Num == x6.1.Num) && (x5.1.Den == x6.1.Den)))) (by kernel_rfl) (fun w => by kernel_rfl) (by rw [hb6]; rfl) ?_
          exact QRun_done [3, 4, 5, 6, 7, 8, 13, 14, 83] (by kernel_rfl) (by kernel_rfl)
      exact QRun_done [3, 4, 5, 6, 7, 8, 13, 14, 83] (by kernel_rfl) (by kernel_rfl)
    refine Run_cond (b := (((((x3.2.2.2 != x4.2.2.2) || (x3.1 != x4.1)) || (x3.2.1 != x4.2.1)) || (x3.2.2.1 != x4.2.2.1)) || (x5.2 != x6.2)) || (!((x5.1.Num == x6.1.Num) && (x5.1.Den == x6.1.Den)))) (by kernel_rfl) (fun hb7 => ?_) (fun hb7 => ?_)
    · have hF := (M.ite_some hF).1 hb7
      refine Run_seq ?_
      refine Run_reg 1 (by kernel_rfl) (L' := [(2, .bool false)]) ?_ ?_
      · refine QRun_b [.bool false] 0 _ (by kernel_rfl) (fun w => by kernel_rfl) ?_
        exact QRun_done [2] (by kernel_rfl) (by kernel_rfl)
      have hF := M.ret_some hF
      subst hF
      have H15 : Hold h h9 [] := H14.pick [] (by kernel_rfl)
      exact Run_ret1 rfl (ResV_tmp (v := .bool false) (by kernel_rfl)) ⟨rfl, H15⟩
    · have hF := (M.ite_some hF).2 hb7
      refine Run_skip ?_
      refine Run_seq ?_
      refine Run_seq ?_
      refine Run_reg 2 (by kernel_rfl) (L' := [(3, .slice a1 x2.1.length c1), (4, .slice a2 x2.2.length c2), (5, .int .i64 x3.1), (6, .int .i64 x3.2.1), (7, .int .i64 x3.2.2.1), (13, .pointer (some ⟨b1, 0, none⟩)), (14, .int .i64 x5.2), (85, .bool (x3.2.2.2 != 0))]) ?_ ?_
      · refine QRun_b [.int .i64 x3.2.2.2, .bool (x3.2.2.2 != 0)] 0 _ (by kernel_rfl) (fun w => by kernel_rfl) ?_
        exact QRun_done [3, 4, 5, 6, 7, 13, 14, 85] (by kernel_rfl) (by kernel_rfl)
      refine Run_cond (b := x3.2.2.2 != 0) (by kernel_rfl) (fun hb8 => ?_) (fun hb8 => ?_)
      · have hF := (M.ite_some hF).1 hb8
        refine Run_seq ?_
        refine Run_reg 1 (by kernel_rfl) (L' := [(2, .bool true)]) ?_ ?_
        · refine QRun_b [.bool true] 0 _ (by kernel_rfl) (fun w => by kernel_rfl) ?_
          exact QRun_done [2] (by kernel_rfl) (by kernel_rfl)
        have hF := M.ret_some hF
        subst hF
        have H16 : Hold h h9 [] := H14.pick [] (by kernel_rfl)
        exact Run_ret1 rfl (ResV_tmp (v := .bool true) (by kernel_rfl)) ⟨rfl, H16⟩
      · have hF := (M.ite_some hF).2 hb8
        refine Run_skip ?_
        refine Run_seq ?_
        refine Run_ops ?_
        refine Run_b [.slice a1 x2.1.length c1, .slice a2 x2.2.length c2, .int .i64 x3.1, .int .i64 x3.2.1, .int .i64 (w64 (x3.1 + x3.2.1))] 0 _ (by kernel_rfl) (fun w => by kernel_rfl) ?_
        obtain ⟨x12, hx7, hF⟩ := M.bind_some hF
        refine Run_E (by kernel_rfl) ?_
        refine E_call (f := 25) (args := #[.slice a1 x2.1.length c1, .slice a2 x2.2.length c2, .int .i64 (w64 (x3.1 + x3.2.1))]) (w_impl_OrbitOf h9 x2.1 a1 c1 (H14.rd 2 rfl) x2.2 a2 c2 (H14.rd 3 rfl) (w64 (x3.1 + x3.2.1)) _ _ hx7) (by kernel_rfl) (fun v4 h10 hp4 => ?_)
        obtain ⟨a3, c3, rfl, H17⟩ := hp4
        have H18 : Hold h h10 [own cd23 a3 x12.1.length c3 x12.1, box b2 26 [.int .i64 x6.1.Num, .int .i64 x6.1.Den], box b1 26 [.int .i64 x5.1.Num, .int .i64 x5.1.Den], own cd23 a1 x2.1.length c1 x2.1, own cd2 a2 x2.2.length c2 x2.2] := H14.call H17 rfl
        refine Run_b [.tuple #[.slice a3 x12.1.length c3, .int .i64 x12.2], .slice a3 x12.1.length c3, .int .i64 x12.2, .slice a3 x12.1.length c3, .int .i64 x12.2] 6 _ (by kernel_rfl) (fun w => by kernel_rfl) ?_
        refine Run_nil (by kernel_rfl) ?_
        refine Run_keep [5, 6, 7, 13, 14, 17, 18] (L' := [(5, .int .i64 x3.1), (6, .int .i64 x3.2.1), (7, .int .i64 x3.2.2.1), (13, .pointer (some ⟨b1, 0, none⟩)), (14, .int .i64 x5.2), (17, .slice a3 x12.1.length c3), (18, .int .i64 x12.2)]) (by kernel_rfl) ?_
        refine Run_seq ?_
        refine Run_seq ?_
        refine Run_reg 2 (by kernel_rfl) (L' := [(5, .int .i64 x3.1), (6, .int .i64 x3.2.1), (7, .int .i64 x3.2.2.1), (13, .pointer (some ⟨b1, 0, none⟩)), (14, .int .i64 x5.2), (17, .slice a3 x12.1.length c3), (96, .bool (x12.2 != 0))]) ?_ ?_
        · refine QRun_b [.int .i64 x12.2, .bool (x12.2 != 0)] 0 _ (by kernel_rfl) (fun w => by kernel_rfl) ?_
          exact QRun_done [5, 6, 7, 13, 14, 17, 96] (by kernel_rfl) (by kernel_rfl)
        refine Run_cond (b := x12.2 != 0) (by kernel_rfl) (fun hb9 => ?_) (fun hb9 => ?_)
        · have hF := (M.ite_some hF).1 hb9
          refine Run_seq ?_
          refine Run_reg 1 (by kernel_rfl) (L' := [(2, .bool false)]) ?_ ?_
          · refine QRun_b [.bool false] 0 _ (by kernel_rfl) (fun w => by kernel_rfl) ?_
            exact QRun_done [2] (by kernel_rfl) (by kernel_rfl)
          have hF := M.ret_some hF
          subst hF
          have H19 : Hold h h10 [] := H18.pick [] (by kernel_rfl)
          exact Run_ret1 rfl (ResV_tmp (v := .bool false) (by kernel_rfl)) ⟨rfl, H19⟩
        · have hF := (M.ite_some hF).2 hb9
          refine Run_skip ?_
          refine Run_seq ?_
          refine Run_ops ?_
          obtain ⟨x13, hx8, hF⟩ := M.bind_some hF
          obtain ⟨hx8l, hx8u, hx8⟩ := M.idx_some hx8
          have H20 := H18.toRows
          obtain ⟨a4, c4, H21⟩ := H20.pinRow hx8
          refine Run_b [.slice a3 x12.1.length c3, .int .i64 x3.1] 0 _ (by kernel_rfl) (fun w => by kernel_rfl) ?_
          refine Run_y (.pointer (some (adr a3 (x3.1.toNat * 1)))) (by kernel_rfl) (Y_idx (t := 22) (e := 23) (sz := 1) (a := a3) (n := x12.1.length) (cap := c3) (kk := .i64) (i := x3.1) (by kernel_rfl) Try.underlying22 (by kernel_rfl) ((H18.rd 0 rfl).cell hx8).1 hx8l hx8u) ?_
          refine Run_y (.slice a4 x13.length c4) (by kernel_rfl) (Y_load1 (t := 23) (p := adr a3 (x3.1.toNat * 1)) (v := .slice a4 x13.length c4) (by kernel_rfl) (fun w => by kernel_rfl) (H21.cellPin 0 rfl 0 rfl)) ?_
          refine Run_b [.int .i64 x3.2.2.1] 4 _ (by kernel_rfl) (fun w => by kernel_rfl) ?_
          obtain ⟨x14, hx9, hF⟩ := M.bind_some hF
          refine Run_E (by kernel_rfl) ?_
          refine E_call (f := 26) (args := #[.slice a4 x13.length c4, .int .i64 x3.2.2.1]) (w_impl_ShiftVector h10 x13 a4 c4 (H21.rdPin 0 rfl 0 rfl) x3.2.2.1 _ _ hx9) (by kernel_rfl) (fun v5 h11 hp5 => ?_)
          obtain ⟨a5, c5, rfl, H22⟩ := hp5
          have H23 : Hold h h11 [own cd2 a5 x14.1.length c5 x14.1, rowsP cd2 23 a3 x12.1.length c3 x12.1 [(x3.1.toNat, a4, x13.length, c4, x13)], box b2 26 [.int .i64 x6.1.Num, .int .i64 x6.1.Den], box b1 26 [.int .i64 x5.1.Num, .int .i64 x5.1.Den], own cd23 a1 x2.1.length c1 x2.1, own cd2 a2 x2.2.length c2 x2.2] := H21.call H22 rfl
          refine Run_b [.tuple #[.slice a5 x14.1.length c5, .int .i64 x14.2], .slice a5 x14.1.length c5, .int .i64 x14.2, .slice a5 x14.1.length c5, .int .i64 x14.2] 6 _ (by kernel_rfl) (fun w => by kernel_rfl) ?_
          refine Run_nil (by kernel_rfl) ?_
          refine Run_keep [5, 6, 7, 13, 14, 17, 19, 20] (L' := [(5, .int .i64 x3.1), (6, .int .i64 x3.2.1), (7, .int .i64 x3.2.2.1), (13, .pointer (some ⟨b1, 0, none⟩)), (14, .int .i64 x5.2), (17, .slice a3 x12.1.length c3), (19, .slice a5 x14.1.length c5), (20, .int .i64 x14.2)]) (by kernel_rfl) ?_
          refine Run_seq ?_
          obtain ⟨x15, gx15, hF⟩ := M.bind_some hF
          refine Run_reg 28 (by kernel_rfl) (L' := [(2, .bool (x15 && ((x5.2 != 0) || ((w64 (x5.1.Num * x3.2.1)) == (w64 (x3.2.2.1 * x5.1.Den))))))]) ?_ ?_
          · refine QRun_b [.int .i64 x14.2, .bool (x14.2 == 0)] 0 _ (by kernel_rfl) (fun w => by kernel_rfl) ?_
            refine QRun_seq 12 [(6, .int .i64 x3.2.1), (7, .int .i64 x3.2.2.1), (13, .pointer (some ⟨b1, 0, none⟩)), (14, .int .i64 x5.2), (117, .bool x15)] ?_ ?_
            · rcases Bool.eq_false_or_eq_true (x14.2 == 0) with hb10 | hb10
              · refine QRun_bool (x14.2 == 0) true (by kernel_rfl) (fun w => by kernel_rfl) hb10 ?_
                have gx15 := (M.ite_some gx15).1 hb10
                obtain ⟨x16, hx10, gx15⟩ := M.bind_some gx15
                obtain ⟨hx10l, hx10u, hx10⟩ := M.idx_some hx10
                have H24 : Hold h h11 [rowsP cd2 23 a3 x12.1.length c3 x12.1 [(x3.1.toNat, a4, x13.length, c4, x13)], own cd2 a5 x14.1.length c5 x14.1, box b2 26 [.int .i64 x6.1.Num, .int .i64 x6.1.Den], box b1 26 [.int .i64 x5.1.Num, .int .i64 x5.1.Den], own cd23 a1 x2.1.length c1 x2.1, own cd2 a2 x2.2.length c2 x2.2] := H23.pick [1, 0, 2, 3, 4, 5] (by kernel_rfl)
                obtain ⟨a6, c6, H25⟩ := H24.pinRow hx10
                have H26 : Hold h h11 [own cd2 a5 x14.1.length c5 x14.1, rowsP cd2 23 a3 x12.1.length c3 x12.1 [((w64 (x3.1 + x3.2.1)).toNat, a6, x16.length, c6, x16), (x3.1.toNat, a4, x13.length, c4, x13)], box b2 26 [.int .i64 x6.1.Num, .int .i64 x6.1.Den], box b1 26 [.int .i64 x5.1.Num, .int .i64 x5.1.Den], own cd23 a1 x2.1.length c1 x2.1, own cd2 a2 x2.2.length c2 x2.2] := H25.pick [1, 0, 2, 3, 4, 5] (by kernel_rfl)
                obtain ⟨x17, hx11, gx15⟩ := M.bind_some gx15
                have gx15 := M.ret_some gx15
                refine QRun_b [.slice a5 x14.1.length c5, .slice a3 x12.1.length c3, .int .i64 x3.1, .int .i64 x3.2.1, .int .i64 (w64 (x3.1 + x3.2.1))] 3 _ (by kernel_rfl) (fun w => by kernel_rfl) ?_
                refine QRun_y (.pointer (some (adr a3 ((w64 (x3.1 + x3.2.1)).toNat * 1)))) (by kernel_rfl) (Y_idx (t := 22) (e := 23) (sz := 1) (a := a3) (n := x12.1.length) (cap := c3) (kk := .i64) (i := w64 (x3.1 + x3.2.1)) (by kernel_rfl) Try.underlying22 (by kernel_rfl) ((H23.rdRows 1 rfl).cell hx10).1 hx10l hx10u) ?_
                refine QRun_y (.slice a6 x16.length c6) (by kernel_rfl) (Y_load1 (t := 23) (p := adr a3 ((w64 (x3.1 + x3.2.1)).toNat * 1)) (v := .slice a6 x16.length c6) (by kernel_rfl) (fun w => by kernel_rfl) (H26.cellPin 1 rfl 0 rfl)) ?_
                refine QRun_y (.bool x17) (by kernel_rfl) (Y_callq (f := 27) (args := #[.slice a5 x14.1.length c5, .slice a6 x16.length c6]) (v := .bool x17) (by kernel_rfl) (w_laws_likeInts h11 x14.1 a5 c5 (H26.rd 0 rfl) x16 a6 c6 (H26.rdPin 1 rfl 0 rfl) _ _ hx11)) ?_
                refine QRun_bool x17 x15 (by kernel_rfl) (fun w => by kernel_rfl) gx15 ?_
                exact QRun_done [6, 7, 13, 14, 117] (by kernel_rfl) (by kernel_rfl)
              · refine QRun_bool (x14.2 == 0) false (by kernel_rfl) (fun w => by kernel_rfl) hb10 ?_
                have gx15 := M.ret_some ((M.ite_some gx15).2 hb10)
                refine QRun_n (by kernel_rfl) ?_
                refine QRun_n (by kernel_rfl) ?_
                refine QRun_n (by kernel_rfl) ?_
                refine QRun_n (by kernel_rfl) ?_
                refine QRun_n (by kernel_rfl) ?_
                refine QRun_n (by kernel_rfl) ?_
                refine QRun_n (by kernel_rfl) ?_
                refine QRun_n (by kernel_rfl) ?_
                refine QRun_bool false x15 (by kernel_rfl) (fun w => by kernel_rfl) gx15 ?_
                exact QRun_done [6, 7, 13, 14, 117] (by kernel_rfl) (by kernel_rfl)
            refine QRun_seq 27 [(132, .bool (x15 && ((x5.2 != 0) || ((w64 (x5.1.Num * x3.2.1)) == (w64 (x3.2.2.1 * x5.1.Den))))))] ?_ ?_
            · rcases Bool.eq_false_or_eq_true x15 with hb11 | hb11
              · refine QRun_bool x15 true (by kernel_rfl) (fun w => by kernel_rfl) hb11 ?_
                refine QRun_b [.int .i64 x5.2, .bool (x5.2 != 0)] 13 _ (by kernel_rfl) (fun w => by kernel_rfl) ?_
                refine QRun_seq 26 [(118, .bool true), (131, .bool ((x5.2 != 0) || ((w64 (x5.1.Num * x3.2.1)) == (w64 (x3.2.2.1 * x5.1.Den)))))] ?_ ?_
                · rcases Bool.eq_false_or_eq_true (x5.2 != 0) with hb12 | hb12
                  · refine QRun_bool (x5.2 != 0) true (by kernel_rfl) (fun w => by kernel_rfl) hb12 ?_
                    refine QRun_n (by kernel_rfl) ?_
                    refine QRun_n (by kernel_rfl) ?_
                    refine QRun_n (by kernel_rfl) ?_
                    refine QRun_n (by kernel_rfl) ?_
                    refine QRun_n (by kernel_rfl) ?_
                    refine QRun_n (by kernel_rfl) ?_
                    refine QRun_n (by kernel_rfl) ?_
                    refine QRun_n (by kernel_rfl) ?_
                    refine QRun_n (by kernel_rfl) ?_
                    refine QRun_bool true ((x5.2 != 0) || ((w64 (x5.1.Num * x3.2.1)) == (w64 (x3.2.2.1 * x5.1.Den)))) (by kernel_rfl) (fun w => by kernel_rfl) (by rw [hb12]; rfl) ?_
                    exact QRun_done [118, 131] (by kernel_rfl) (by kernel_rfl)
                  · refine QRun_bool (x5.2 != 0) false (by kernel_rfl) (fun w => by kernel_rfl) hb12 ?_
                    refine QRun_b [.pointer (some ⟨b1, 0, none⟩)] 16 _ (by kernel_rfl) (fun w => by kernel_rfl) ?_
                    refine QRun_y (.int .i64 x5.1.Num) (by kernel_rfl) (Y_load1 (t := 2) (p := ⟨b1, 0, none⟩) (v := .int .i64 x5.1.Num) (by kernel_rfl) (fun w => by kernel_rfl) (H23.cell 3 rfl rfl)) ?_
                    refine QRun_b [.int .i64 x3.2.1, .int .i64 (w64 (x5.1.Num * x3.2.1)), .int .i64 x3.2.2.1, .pointer (some ⟨b1, 1, none⟩)] 18 _ (by kernel_rfl) (fun w => by kernel_rfl) ?_
                    refine QRun_y (.int .i64 x5.1.Den) (by kernel_rfl) (Y_load1 (t := 2) (p := ⟨b1, 1, none⟩) (v := .int .i64 x5.1.Den) (by kernel_rfl) (fun w => by kernel_rfl) (H23.cell 3 rfl rfl)) ?_
                    refine QRun_b [.int .i64 (w64 (x3.2.2.1 * x5.1.Den)), .bool ((w64 (x5.1.Num * x3.2.1)) == (w64 (x3.2.2.1 * x5.1.Den)))] 23 _ (by kernel_rfl) (fun w => by kernel_rfl) ?_
                    refine QRun_bool ((w64 (x5.1.Num * x3.2.1)) == (w64 (x3.2.2.1 * x5.1.Den))) ((x5.2 != 0) || ((w64 (x5.1.Num * x3.2.1)) == (w64 (x3.2.2.1 * x5.1.Den)))) (by kernel_rfl) (fun w => by kernel_rfl) (by rw [hb12]; rfl) ?_
                    exact QRun_done [118, 131] (by kernel_rfl) (by kernel_rfl)
                refine QRun_bool ((x5.2 != 0) || ((w64 (x5.1.Num * x3.2.1)) == (w64 (x3.2.2.1 * x5.1.Den)))) (x15 && ((x5.2 != 0) || ((w64 (x5.1.Num * x3.2.1)) == (w64 (x3.2.2.1 * x5.1.Den))))) (by kernel_rfl) (fun w => by kernel_rfl) (by rw [hb11]; rfl) ?_
                exact QRun_done [132] (by kernel_rfl) (by kernel_rfl)
              · refine QRun_bool x15 false (by kernel_rfl) (fun w => by kernel_rfl) hb11 ?_
                refine QRun_n (by kernel_rfl) ?_
                refine QRun_n (by kernel_rfl) ?_
                refine QRun_n (by kernel_rfl) ?_
                refine QRun_n (by kernel_rfl) ?_
                refine QRun_n (by kernel_rfl) ?_
                refine QRun_n (by kernel_rfl) ?_
                refine QRun_n (by kernel_rfl) ?_
                refine QRun_n (by kernel_rfl) ?_
                refine QRun_n (by kernel_rfl) ?_
                refine QRun_n (by kernel_rfl) ?_
                refine QRun_n (by kernel_rfl) ?_
                refine QRun_n (by kernel_rfl) ?_
                refine QRun_n (by kernel_rfl) ?_
                refine QRun_bool false (x15 && ((x5.2 != 0) || ((w64 (x5.1.Num * x3.2.1)) == (w64 (x3.2.2.1 * x5.1.Den))))) (by kernel_rfl) (fun w => by kernel_rfl) (by rw [hb11]; rfl) ?_
                exact QRun_done [132] (by kernel_rfl) (by kernel_rfl)
            refine QRun_b [.bool (x15 && ((x5.2 != 0) || ((w64 (x5.1.Num * x3.2.1)) == (w64 (x3.2.2.1 * x5.1.Den)))))] 27 _ (by kernel_rfl) (fun w => by kernel_rfl) ?_
            exact QRun_done [2] (by kernel_rfl) (by kernel_rfl)
          have hF := M.ret_some hF
          subst hF
          have H27 : Hold h h11 [] := H23.pick [] (by kernel_rfl)
          exact Run_ret1 rfl (ResV_tmp (v := .bool (x15 && ((x5.2 != 0) || ((w64 (x5.1.Num * x3.2.1)) == (w64 (x3.2.2.1 * x5.1.Den)))))) (by kernel_rfl)) ⟨rfl, H27⟩

end Go.Proofs.Ytjdcdcipilhmeaa
