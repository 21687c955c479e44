/-
  Walks: each Go function, called with what reads as plain data, returns what its plain program computes.
  Conditions: None beyond the given statement.
-/
import Derived.Test.YtjdcdcipilhmeaaW1
namespace Go.Proofs.Ytjdcdcipilhmeaa
open Go
attribute [local irreducible] setL setB opA fineI idleI fineB evB okB markB markBs readyB readyBs chainB lk rho pickL dropSlot tailOK
set_option maxRecDepth 100000 in
set_option maxHeartbeats 4000000 in
theorem w_impl_orbit_grow_B (h hE : Heap) (it : Item) (o : TOrbit) (bo : Nat) (aomatrix : Option Addr) (comatrix : Nat) (romatrix : Rd cd23 h (Lt h) aomatrix comatrix o.matrix) (aolist : Option Addr) (colist : Nat) (index : Int) (HM : Hold h hE [box bo 88 [.slice aomatrix o.matrix.length comatrix, .slice aolist o.list.length colist], own cd22 aolist o.list.length colist o.list, it]) (n : Nat) (r : Bool × TOrbit) (hF : impl_orbit_grow_B o index n = some r) :
    Fn Try.prog 89 #[.pointer (some ⟨bo, 0, none⟩), .int .i64 index] hE fun v h' => ∃ (a0 : Option Addr) (c0 : Nat), v = .bool r.1 ∧ Hold h h' [box bo 88 [.slice aomatrix o.matrix.length comatrix, .slice a0 r.2.list.length c0], own cd22 a0 r.2.list.length c0 r.2.list, it] := by
  unfold impl_orbit_grow_B at hF
  refine Fn_enter (args := [.pointer (some ⟨bo, 0, none⟩), .int .i64 index]) Try.func89 rfl (by kernel_rfl) (by kernel_rfl) (fun w0 _ => ?_)
  refine Run_seq ?_
  refine Run_reg 1 (by kernel_rfl) (L' := [(0, .pointer (some ⟨bo, 0, none⟩)), (1, .int .i64 index)]) ?_ ?_
  · refine QRun_b [.bool false] 0 _ (by kernel_rfl) (fun w => by kernel_rfl) ?_
    exact QRun_done [0, 1] (by kernel_rfl) (by kernel_rfl)
  refine Run_seq ?_
  obtain ⟨x1, gx1, hF⟩ := M.bind_some hF
  refine Run_join (fun L' h' => ∃ (s2 : (List (List (List Int)))) (a2 : Option Addr) (c2 : Nat), x1 = .inl s2 ∧ L' = [] ∧ Hold h h' [box bo 88 [.slice aomatrix o.matrix.length comatrix, .slice a2 s2.length c2], own cd22 a2 s2.length c2 s2, it]) ?_ ?_
  · rintro _ h2 ⟨s2, a2, c2, es2, rfl, H2⟩
    have hF := M.cont_inl' hF es2
    refine Run_seq ?_
    refine Run_reg 1 (by kernel_rfl) (L' := [(4, .bool true)]) ?_ ?_
    · refine QRun_b [.bool true] 0 _ (by kernel_rfl) (fun w => by kernel_rfl) ?_
      exact QRun_done [4] (by kernel_rfl) (by kernel_rfl)
    have hF := M.ret_some hF
    subst hF
    have H33 : Hold h h2 [own cd22 a2 s2.length c2 s2, box bo 88 [.slice aomatrix o.matrix.length comatrix, .slice a2 s2.length c2], it] := H2.pick [1, 0, 2] (by kernel_rfl)
    have H34 : Hold h h2 [box bo 88 [.slice aomatrix o.matrix.length comatrix, .slice a2 s2.length c2], own cd22 a2 s2.length c2 s2, it] := H33.pick [1, 0, 2] (by kernel_rfl)
    exact Run_ret1 rfl (ResV_tmp (v := .bool true) (by kernel_rfl)) ⟨a2, c2, rfl, H34⟩
  · refine Run_block ?_
    have H35 : Hold h hE [own cd22 aolist o.list.length colist o.list, box bo 88 [.slice aomatrix o.matrix.length comatrix, .slice aolist o.list.length colist], it] := HM.pick [1, 0, 2] (by kernel_rfl)
    have H36 : Hold h hE [box bo 88 [.slice aomatrix o.matrix.length comatrix, .slice aolist o.list.length colist], own cd22 aolist o.list.length colist o.list, it] := H35.pick [1, 0, 2] (by kernel_rfl)
    refine Run_keep [0, 1] (L' := [(0, .pointer (some ⟨bo, 0, none⟩)), (1, .int .i64 index)]) (by kernel_rfl) ?_
    refine Run_loop (fun m L' h' => ∃ (s1 : (List (List (List Int)))) (a1 : Option Addr) (c1 : Nat), M.loopN _ n m s1 = some x1 ∧ L' = [(0, .pointer (some ⟨bo, 0, none⟩)), (1, .int .i64 index)] ∧ Hold h h' [box bo 88 [.slice aomatrix o.matrix.length comatrix, .slice a1 s1.length c1], own cd22 a1 s1.length c1 s1, it]) n ⟨o.list, aolist, colist, gx1, rfl, H36⟩ ?_
    rintro my1 _ h1 ⟨s1, a1, c1, gx1, rfl, H1⟩
    obtain ⟨my1, y1, rfl, hB1, hgoy1, houty1⟩ := M.loop_some gx1
    refine Run_seq ?_
    refine Run_seq ?_
    refine Run_reg 7 (by kernel_rfl) (L' := [(0, .pointer (some ⟨bo, 0, none⟩)), (1, .int .i64 index), (13, .bool (decide ((s1.length : Int) ≤ index)))]) ?_ ?_
    · refine QRun_b [.pointer (some ⟨bo, 0, none⟩), .pointer (some ⟨bo, 0, none⟩), .pointer (some ⟨bo, 1, none⟩)] 0 _ (by kernel_rfl) (fun w => by kernel_rfl) ?_
      refine QRun_y (.slice a1 s1.length c1) (by kernel_rfl) (Y_load1 (t := 86) (p := ⟨bo, 1, none⟩) (v := .slice a1 s1.length c1) (by kernel_rfl) (fun w => by kernel_rfl) (H1.cell 0 rfl rfl)) ?_
      refine QRun_b [.int .i64 (s1.length : Int), .int .i64 index, .bool (decide ((s1.length : Int) ≤ index))] 4 _ (by kernel_rfl) (fun w => by kernel_rfl) ?_
      exact QRun_done [0, 1, 13] (by kernel_rfl) (by kernel_rfl)
    refine Run_cond (b := decide ((s1.length : Int) ≤ index)) (by kernel_rfl) (fun hb1 => ?_) (fun hb1 => ?_)
    · have hB1 := (M.ite_some hB1).1 hb1
      refine Run_skip ?_
      refine Run_block ?_
      refine Run_seq ?_
      obtain ⟨x2, hx1, hB1⟩ := M.bind_some hB1
      obtain ⟨hx1l, hx1u, hx1⟩ := M.idx_some hx1
      have H3 : Hold h h1 [own cd22 a1 s1.length c1 s1, box bo 88 [.slice aomatrix o.matrix.length comatrix, .slice a1 s1.length c1], it] := H1.pick [1, 0, 2] (by kernel_rfl)
      have H4 := H3.toRows
      obtain ⟨a3, c3, H5⟩ := H4.pinRow hx1
      have H6 : Hold h h1 [box bo 88 [.slice aomatrix o.matrix.length comatrix, .slice a1 s1.length c1], rowsP cd23 22 a1 s1.length c1 s1 [((w64 ((s1.length : Int) - 1)).toNat, a3, x2.length, c3, x2)], it] := H5.pick [1, 0, 2] (by kernel_rfl)
      refine Run_D (fun x => Hold h x [box bo 88 [.slice aomatrix o.matrix.length comatrix, .slice a1 s1.length c1], rowsP cd23 22 a1 s1.length c1 s1 [((w64 ((s1.length : Int) - 1)).toNat, a3, x2.length, c3, x2)], it]) (fun x => Hold h x [box bo 88 [.slice aomatrix o.matrix.length comatrix, .slice a1 s1.length c1], rowsP cd23 22 a1 s1.length c1 s1 [((w64 ((s1.length : Int) - 1)).toNat, a3, x2.length, c3, x2)], it]) mixed (by kernel_rfl) H6 Hold.stable (fun x Hy => (show Hold h x [box bo 88 [.slice aomatrix o.matrix.length comatrix, .slice a1 s1.length c1], rowsP cd23 22 a1 s1.length c1 s1 [((w64 ((s1.length : Int) - 1)).toNat, a3, x2.length, c3, x2)], it] from Hy).pick [0, 1, 2] (by kernel_rfl)) ?_
      refine DR_b 20 [.pointer (some ⟨bo, 0, none⟩), .pointer (some ⟨bo, 0, none⟩), .pointer (some ⟨bo, 0, none⟩)] 0 (by kernel_rfl) (by kernel_rfl) (by kernel_rfl) (fun w => by kernel_rfl) ?_
      refine DR_y 19 (i := 3) (.slice aomatrix o.matrix.length comatrix) (by kernel_rfl) (by kernel_rfl) (by kernel_rfl) (fun hx Hx => (YE.of (Y_load1 (t := 22) (p := ⟨bo, 0, none⟩) (v := .slice aomatrix o.matrix.length comatrix) (by kernel_rfl) (fun w => by kernel_rfl) (Hx.cell 0 rfl rfl)))) ?_
      refine DR_b 16 [.pointer (some ⟨bo, 0, none⟩), .pointer (some ⟨bo, 0, none⟩), .pointer (some ⟨bo, 1, none⟩)] 4 (by kernel_rfl) (by kernel_rfl) (by kernel_rfl) (fun w => by kernel_rfl) ?_
      refine DR_y 15 (i := 7) (.slice a1 s1.length c1) (by kernel_rfl) (by kernel_rfl) (by kernel_rfl) (fun hx Hx => (YE.of (Y_load1 (t := 86) (p := ⟨bo, 1, none⟩) (v := .slice a1 s1.length c1) (by kernel_rfl) (fun w => by kernel_rfl) (Hx.cell 0 rfl rfl)))) ?_
      refine DR_b 12 [.pointer (some ⟨bo, 0, none⟩), .pointer (some ⟨bo, 0, none⟩), .pointer (some ⟨bo, 1, none⟩)] 8 (by kernel_rfl) (by kernel_rfl) (by kernel_rfl) (fun w => by kernel_rfl) ?_
      refine DR_y 11 (i := 11) (.slice a1 s1.length c1) (by kernel_rfl) (by kernel_rfl) (by kernel_rfl) (fun hx Hx => (YE.of (Y_load1 (t := 86) (p := ⟨bo, 1, none⟩) (v := .slice a1 s1.length c1) (by kernel_rfl) (fun w => by kernel_rfl) (Hx.cell 0 rfl rfl)))) ?_
      refine DR_b 9 [.int .i64 (s1.length : Int), .int .i64 (w64 ((s1.length : Int) - 1))] 12 (by kernel_rfl) (by kernel_rfl) (by kernel_rfl) (fun w => by kernel_rfl) ?_
      refine DR_y 8 (i := 14) (.pointer (some (adr a1 ((w64 ((s1.length : Int) - 1)).toNat * 1)))) (by kernel_rfl) (by kernel_rfl) (by kernel_rfl) (fun hx Hx => (YE.of (Y_idx (t := 86) (e := 22) (sz := 1) (a := a1) (n := s1.length) (cap := c1) (kk := .i64) (i := w64 ((s1.length : Int) - 1)) (by kernel_rfl) Try.underlying86 (by kernel_rfl) ((H1.rd 1 rfl).cell hx1).1 hx1l hx1u))) ?_
      refine DR_y 7 (i := 15) (.slice a3 x2.length c3) (by kernel_rfl) (by kernel_rfl) (by kernel_rfl) (fun hx Hx => (YE.of (Y_load1 (t := 22) (p := adr a1 ((w64 ((s1.length : Int) - 1)).toNat * 1)) (v := .slice a3 x2.length c3) (by kernel_rfl) (fun w => by kernel_rfl) (Hx.cellPin 1 rfl 0 rfl)))) ?_
      refine DR_e 6 16 (by kernel_rfl) (by kernel_rfl) (by kernel_rfl) (fun h3 H7 => ?_)
      have H8 : Hold h h3 [box bo 88 [.slice aomatrix o.matrix.length comatrix, .slice a1 s1.length c1], rowsP cd23 22 a1 s1.length c1 s1 [((w64 ((s1.length : Int) - 1)).toNat, a3, x2.length, c3, x2)], it] := H7
      obtain ⟨x3, hx2, hB1⟩ := M.bind_some hB1
      refine E_call (f := 85) (args := #[.slice aomatrix o.matrix.length comatrix, .slice a3 x2.length c3]) (w_impl_multiply h3 o.matrix aomatrix comatrix (romatrix.at H8.ext) x2 a3 c3 (H8.rdPin 1 rfl 0 rfl) _ _ hx2) (by kernel_rfl) (fun v1 h4 hp1 => ?_)
      obtain ⟨a4, c4, rfl, H9⟩ := hp1
      have H10 : Hold h h4 [own cd23 a4 x3.length c4 x3, box bo 88 [.slice aomatrix o.matrix.length comatrix, .slice a1 s1.length c1], rowsP cd23 22 a1 s1.length c1 s1 [((w64 ((s1.length : Int) - 1)).toNat, a3, x2.length, c3, x2)], it] := H8.call H9 rfl
      refine ⟨fun x => Hold h x [box bo 88 [.slice aomatrix o.matrix.length comatrix, .slice a1 s1.length c1], rowsP cd23 22 a1 s1.length c1 s1 [((w64 ((s1.length : Int) - 1)).toNat, a3, x2.length, c3, x2)], it], fun x => Hold h x [own cd23 a4 x3.length c4 x3, box bo 88 [.slice aomatrix o.matrix.length comatrix, .slice a1 s1.length c1], rowsP cd23 22 a1 s1.length c1 s1 [((w64 ((s1.length : Int) - 1)).toNat, a3, x2.length, c3, x2)], it], H10, Hold.stable, fun x Hy => (show Hold h x [own cd23 a4 x3.length c4 x3, box bo 88 [.slice aomatrix o.matrix.length comatrix, .slice a1 s1.length c1], rowsP cd23 22 a1 s1.length c1 s1 [((w64 ((s1.length : Int) - 1)).toNat, a3, x2.length, c3, x2)], it] from Hy).pick [1, 2, 3] (by kernel_rfl), fun x Hy => (show Hold h x [box bo 88 [.slice aomatrix o.matrix.length comatrix, .slice a1 s1.length c1], rowsP cd23 22 a1 s1.length c1 s1 [((w64 ((s1.length : Int) - 1)).toNat, a3, x2.length, c3, x2)], it] from Hy).pick [0, 1, 2] (by kernel_rfl), ?_⟩
      refine DR_e 5 17 (by kernel_rfl) (by kernel_rfl) (by kernel_rfl) (fun h5 H11 => ?_)
      have H12 : Hold h h5 [own cd23 a4 x3.length c4 x3, box bo 88 [.slice aomatrix o.matrix.length comatrix, .slice a1 s1.length c1], rowsP cd23 22 a1 s1.length c1 s1 [((w64 ((s1.length : Int) - 1)).toNat, a3, x2.length, c3, x2)], it] := H11
      obtain ⟨x4, hx3, hB1⟩ := M.bind_some hB1
      refine E_call (f := 84) (args := #[.slice a4 x3.length c4]) (w_impl_checkedMatrix h5 x3 a4 c4 (H12.rd 0 rfl) _ _ hx3) (by kernel_rfl) (fun v2 h6 hp2 => ?_)
      obtain ⟨a5, c5, rfl, hd1, H13⟩ := hp2
      have H14 : Hold h h6 [own cd23 a4 x3.length c4 x3, box bo 88 [.slice aomatrix o.matrix.length comatrix, .slice a1 s1.length c1], rowsP cd23 22 a1 s1.length c1 s1 [((w64 ((s1.length : Int) - 1)).toNat, a3, x2.length, c3, x2)], it] := H12.call H13 rfl
      have H15 := H14.alias hd1
      refine ⟨fun x => Hold h x [box bo 88 [.slice aomatrix o.matrix.length comatrix, .slice a1 s1.length c1], rowsP cd23 22 a1 s1.length c1 s1 [((w64 ((s1.length : Int) - 1)).toNat, a3, x2.length, c3, x2)], it], fun x => Hold h x [own cd23 a5 x4.1.length c5 x4.1, box bo 88 [.slice aomatrix o.matrix.length comatrix, .slice a1 s1.length c1], rowsP cd23 22 a1 s1.length c1 s1 [((w64 ((s1.length : Int) - 1)).toNat, a3, x2.length, c3, x2)], it], H15, Hold.stable, fun x Hy => (show Hold h x [own cd23 a5 x4.1.length c5 x4.1, box bo 88 [.slice aomatrix o.matrix.length comatrix, .slice a1 s1.length c1], rowsP cd23 22 a1 s1.length c1 s1 [((w64 ((s1.length : Int) - 1)).toNat, a3, x2.length, c3, x2)], it] from Hy).pick [1, 2, 3] (by kernel_rfl), fun x Hy => (show Hold h x [box bo 88 [.slice aomatrix o.matrix.length comatrix, .slice a1 s1.length c1], rowsP cd23 22 a1 s1.length c1 s1 [((w64 ((s1.length : Int) - 1)).toNat, a3, x2.length, c3, x2)], it] from Hy).pick [0, 1, 2] (by kernel_rfl), ?_⟩
      refine DR_b 0 [.tuple #[.slice a5 x4.1.length c5, .int .i64 x4.2], .slice a5 x4.1.length c5, .int .i64 x4.2, .slice a5 x4.1.length c5, .int .i64 x4.2] 18 (by kernel_rfl) (by kernel_rfl) (by kernel_rfl) (fun w => by kernel_rfl) ?_
      refine DR_tail (i := 23) (by kernel_rfl) (by kernel_rfl) (by kernel_rfl) (fun h7 H16 => ?_)
      have H17 : Hold h h7 [own cd23 a5 x4.1.length c5 x4.1, box bo 88 [.slice aomatrix o.matrix.length comatrix, .slice a1 s1.length c1], rowsP cd23 22 a1 s1.length c1 s1 [((w64 ((s1.length : Int) - 1)).toNat, a3, x2.length, c3, x2)], it] := H16
      refine Run_nil (by kernel_rfl) ?_
      refine Run_keep [0, 1, 5, 6] (L' := [(0, .pointer (some ⟨bo, 0, none⟩)), (1, .int .i64 index), (5, .slice a5 x4.1.length c5), (6, .int .i64 x4.2)]) (by kernel_rfl) ?_
      refine Run_seq ?_
      refine Run_seq ?_
      refine Run_reg 2 (by kernel_rfl) (L' := [(0, .pointer (some ⟨bo, 0, none⟩)), (1, .int .i64 index), (5, .slice a5 x4.1.length c5), (36, .bool (x4.2 != 0))]) ?_ ?_
      · refine QRun_b [.int .i64 x4.2, .bool (x4.2 != 0)] 0 _ (by kernel_rfl) (fun w => by kernel_rfl) ?_
        exact QRun_done [0, 1, 5, 36] (by kernel_rfl) (by kernel_rfl)
      refine Run_cond (b := x4.2 != 0) (by kernel_rfl) (fun hb2 => ?_) (fun hb2 => ?_)
      · have hB1 := (M.ite_some hB1).1 hb2
        refine Run_seq ?_
        refine Run_reg 1 (by kernel_rfl) (L' := [(4, .bool false)]) ?_ ?_
        · refine QRun_b [.bool false] 0 _ (by kernel_rfl) (fun w => by kernel_rfl) ?_
          exact QRun_done [4] (by kernel_rfl) (by kernel_rfl)
        have hB1 := M.ret_some hB1
        have gx1 := houty1 _ hB1.symm
        have hF := M.cont_inr' hF gx1
        have hF := M.ret_some hF
        subst hF
        have H18 : Hold h h7 [rowsP cd23 22 a1 s1.length c1 s1 [((w64 ((s1.length : Int) - 1)).toNat, a3, x2.length, c3, x2)], own cd23 a5 x4.1.length c5 x4.1, box bo 88 [.slice aomatrix o.matrix.length comatrix, .slice a1 s1.length c1], it] := H17.pick [2, 0, 1, 3] (by kernel_rfl)
        have H19 := H18.ofRows
        have H20 : Hold h h7 [box bo 88 [.slice aomatrix o.matrix.length comatrix, .slice a1 s1.length c1], own cd22 a1 s1.length c1 s1, it] := H19.pick [2, 0, 3] (by kernel_rfl)
        exact Run_ret1 rfl (ResV_tmp (v := .bool false) (by kernel_rfl)) ⟨a1, c1, rfl, H20⟩
      · have hB1 := (M.ite_some hB1).2 hb2
        refine Run_skip ?_
        refine Run_ops ?_
        refine Run_b [.pointer (some ⟨bo, 0, none⟩), .pointer (some ⟨bo, 0, none⟩), .pointer (some ⟨bo, 0, none⟩), .pointer (some ⟨bo, 1, none⟩)] 0 _ (by kernel_rfl) (fun w => by kernel_rfl) ?_
        refine Run_y (.slice a1 s1.length c1) (by kernel_rfl) (Y_load1 (t := 86) (p := ⟨bo, 1, none⟩) (v := .slice a1 s1.length c1) (by kernel_rfl) (fun w => by kernel_rfl) (H17.cell 1 rfl rfl)) ?_
        refine Run_b [.slice a5 x4.1.length c5] 5 _ (by kernel_rfl) (fun w => by kernel_rfl) ?_
        refine Run_E (by kernel_rfl) ?_
        refine E_lit1 (ey := 22) (n := x4.1.length) H17 (fun w => by kernel_rfl) rfl (fun a6 h8 H21 => ?_)
        obtain ⟨l1, hl1, hB1⟩ := M.bind_some hB1
        have hl1 := M.app_some hl1
        have H22 : Hold h h8 [rowsP cd23 22 a1 s1.length c1 s1 [((w64 ((s1.length : Int) - 1)).toNat, a3, x2.length, c3, x2)], own cd22 a6 1 1 [x4.1], box bo 88 [.slice aomatrix o.matrix.length comatrix, .slice a1 s1.length c1], it] := H21.pick [2, 0, 1, 3] (by kernel_rfl)
        have H23 := H22.ofRows
        have H24 : Hold h h8 [own cd22 a6 1 1 [x4.1], own cd22 a1 s1.length c1 s1, box bo 88 [.slice aomatrix o.matrix.length comatrix, .slice a1 s1.length c1], it] := H23.pick [1, 0, 2, 3] (by kernel_rfl)
        have H25 : Hold h h8 [own cd22 a1 s1.length c1 s1, own cd22 a6 1 1 [x4.1], box bo 88 [.slice aomatrix o.matrix.length comatrix, .slice a1 s1.length c1], it] := H24.pick [1, 0, 2, 3] (by kernel_rfl)
        refine Run_E (by kernel_rfl) ?_
        refine E_app (C := cd22) (t := 86) (ty := 86) (n := s1.length) (m := 1) H25 cd22_ti rfl Try.underlying86 (by decide) (by kernel_rfl) hl1 (fun a7 c6 h9 H26 => ?_)
        refine Run_b [.pointer (some ⟨bo, 0, none⟩), .pointer (some ⟨bo, 1, none⟩)] 8 _ (by kernel_rfl) (fun w => by kernel_rfl) ?_
        have H28 : Hold h h9 [box bo 88 [.slice aomatrix o.matrix.length comatrix, .slice a1 s1.length c1], own cd22 a7 l1.length c6 l1, it] := H26.pick [1, 0, 2] (by kernel_rfl)
        refine Run_E (by kernel_rfl) ?_
        refine E_bput (t := 86) (off := 1) (us := [.slice aomatrix o.matrix.length comatrix, .slice a7 l1.length c6]) (v := .slice a7 l1.length c6) H28 (by kernel_rfl) (by kernel_rfl) rfl (by kernel_rfl) rfl (fun h10 H27 => ?_)
        refine Run_nil (by kernel_rfl) ?_
        refine Run_keep [0, 1] (L' := [(0, .pointer (some ⟨bo, 0, none⟩)), (1, .int .i64 index)]) (by kernel_rfl) ?_
        refine Run_blk ?_
        have H29 : Hold h h10 [own cd22 a7 l1.length c6 l1, box bo 88 [.slice aomatrix o.matrix.length comatrix, .slice a7 l1.length c6], it] := H27.pick [1, 0, 2] (by kernel_rfl)
        have H30 : Hold h h10 [box bo 88 [.slice aomatrix o.matrix.length comatrix, .slice a7 l1.length c6], own cd22 a7 l1.length c6 l1, it] := H29.pick [1, 0, 2] (by kernel_rfl)
        have hB1 := M.ret_some hB1
        have gx1 := hgoy1 _ hB1.symm
        exact Run_again [0, 1] (by kernel_rfl) my1 (Nat.lt_succ_self _) ⟨l1, a7, c6, gx1, rfl, H30⟩
    · have hB1 := (M.ite_some hB1).2 hb1
      refine Run_exit (k' := _) rfl ?_
      have H31 : Hold h h1 [own cd22 a1 s1.length c1 s1, box bo 88 [.slice aomatrix o.matrix.length comatrix, .slice a1 s1.length c1], it] := H1.pick [1, 0, 2] (by kernel_rfl)
      have H32 : Hold h h1 [box bo 88 [.slice aomatrix o.matrix.length comatrix, .slice a1 s1.length c1], own cd22 a1 s1.length c1 s1, it] := H31.pick [1, 0, 2] (by kernel_rfl)
      have hB1 := M.ret_some hB1
      have gx1 := houty1 _ hB1.symm
      subst gx1
      exact Run_fall [] (by kernel_rfl) ⟨s1, a1, c1, rfl, rfl, H32⟩

set_option maxRecDepth 100000 in
set_option maxHeartbeats 4000000 in
theorem w_impl_orbit_firstRepeat_B (h hE : Heap) (it : Item) (o : TOrbit) (bo : Nat) (aomatrix : Option Addr) (comatrix : Nat) (romatrix : Rd cd23 h (Lt h) aomatrix comatrix o.matrix) (aolist : Option Addr) (colist : Nat) (HM : Hold h hE [box bo 88 [.slice aomatrix o.matrix.length comatrix, .slice aolist o.list.length colist], own cd22 aolist o.list.length colist o.list, it]) (n : Nat) (r : TRepeat × Int × TOrbit) (hF : impl_orbit_firstRepeat_B o n = some r) :
    Fn Try.prog 61 #[.pointer (some ⟨bo, 0, none⟩)] hE fun v h' => ∃ (a0 : Option Addr) (c0 : Nat), v = .tuple #[.agg #[.int .i64 r.1.at_, .int .i64 r.1.period, .int .i64 r.1.growth], .int .i64 r.2.1] ∧ Hold h h' [box bo 88 [.slice aomatrix o.matrix.length comatrix, .slice a0 r.2.2.list.length c0], own cd22 a0 r.2.2.list.length c0 r.2.2.list, it] := by
  unfold impl_orbit_firstRepeat_B at hF
  refine Fn_enter (args := [.pointer (some ⟨bo, 0, none⟩)]) Try.func61 rfl (by kernel_rfl) (by kernel_rfl) (fun w0 _ => ?_)
  refine Run_seq ?_
  refine Run_ops ?_
  refine Run_E (by kernel_rfl) ?_
  refine E_box (ty := 74) (cs := [.int .i64 0, .int .i64 0, .int .i64 0]) HM (fun w => by kernel_rfl) (fun b1 h1 H1 => ?_)
  refine Run_b [.int .i64 0] 1 _ (by kernel_rfl) (fun w => by kernel_rfl) ?_
  refine Run_nil (by kernel_rfl) ?_
  refine Run_keep [0, 2] (L' := [(0, .pointer (some ⟨bo, 0, none⟩)), (2, .pointer (some ⟨b1, 0, none⟩))]) (by kernel_rfl) ?_
  refine Run_seq ?_
  refine Run_seq ?_
  refine Run_reg 1 (by kernel_rfl) (L' := [(0, .pointer (some ⟨bo, 0, none⟩)), (2, .pointer (some ⟨b1, 0, none⟩)), (8, .int .i64 0)]) ?_ ?_
  · refine QRun_b [.int .i64 0] 0 _ (by kernel_rfl) (fun w => by kernel_rfl) ?_
    exact QRun_done [0, 2, 8] (by kernel_rfl) (by kernel_rfl)
  obtain ⟨x1, gx1, hF⟩ := M.bind_some hF
  obtain ⟨hloy1, hhiy1, gx1⟩ := M.for_start gx1
  refine Run_join (fun L' h' => ∃ (s2 : (List (List (List Int)))) (a2 : Option Addr) (c2 : Nat), x1 = .inl s2 ∧ L' = [(2, .pointer (some ⟨b1, 0, none⟩))] ∧ Hold h h' [box bo 88 [.slice aomatrix o.matrix.length comatrix, .slice a2 s2.length c2], own cd22 a2 s2.length c2 s2, box b1 74 [.int .i64 0, .int .i64 0, .int .i64 0], it]) ?_ ?_
  · rintro _ h3 ⟨s2, a2, c2, es2, rfl, H3⟩
    have hF := M.cont_inl' hF es2
    refine Run_seq ?_
    refine Run_ops ?_
    refine Run_b [.agg #[.int .i64 0, .int .i64 0, .int .i64 0]] 0 _ (by kernel_rfl) (fun w => by kernel_rfl) ?_
    have H39 : Hold h h3 [box b1 74 [.int .i64 0, .int .i64 0, .int .i64 0], box bo 88 [.slice aomatrix o.matrix.length comatrix, .slice a2 s2.length c2], own cd22 a2 s2.length c2 s2, it] := H3.pick [2, 0, 1, 3] (by kernel_rfl)
    refine Run_E (by kernel_rfl) ?_
    refine E_bput (t := 74) (off := 0) (us := [.int .i64 0, .int .i64 0, .int .i64 0]) (v := .agg #[.int .i64 0, .int .i64 0, .int .i64 0]) H39 (by kernel_rfl) (by kernel_rfl) rfl (by kernel_rfl) rfl (fun h9 H38 => ?_)
    refine Run_b [.int .i64 4] 2 _ (by kernel_rfl) (fun w => by kernel_rfl) ?_
    refine Run_nil (by kernel_rfl) ?_
    refine Run_keep [2, 3] (L' := [(2, .pointer (some ⟨b1, 0, none⟩)), (3, .int .i64 4)]) (by kernel_rfl) ?_
    have hF := M.ret_some hF
    subst hF
    have H40 : Hold h h9 [own cd22 a2 s2.length c2 s2, box b1 74 [.int .i64 0, .int .i64 0, .int .i64 0], box bo 88 [.slice aomatrix o.matrix.length comatrix, .slice a2 s2.length c2], it] := H38.pick [2, 0, 1, 3] (by kernel_rfl)
    have H41 : Hold h h9 [box bo 88 [.slice aomatrix o.matrix.length comatrix, .slice a2 s2.length c2], own cd22 a2 s2.length c2 s2, it] := H40.pick [2, 0, 3] (by kernel_rfl)
    exact Run_ret2 rfl (ResV_cell (n := 3) (cs := [.int .i64 0, .int .i64 0, .int .i64 0]) (by kernel_rfl) (fun w => by kernel_rfl) (by kernel_rfl) rfl (H38.cells (n := 3) (off := 0) 0 rfl rfl)) (ResV_tmp (v := .int .i64 4) (by kernel_rfl)) ⟨a2, c2, rfl, H41⟩
  · refine Run_block ?_
    have H42 : Hold h h1 [own cd22 aolist o.list.length colist o.list, box b1 74 [.int .i64 0, .int .i64 0, .int .i64 0], box bo 88 [.slice aomatrix o.matrix.length comatrix, .slice aolist o.list.length colist], it] := H1.pick [2, 0, 1, 3] (by kernel_rfl)
    have H43 : Hold h h1 [box bo 88 [.slice aomatrix o.matrix.length comatrix, .slice aolist o.list.length colist], own cd22 aolist o.list.length colist o.list, box b1 74 [.int .i64 0, .int .i64 0, .int .i64 0], it] := H42.pick [2, 0, 1, 3] (by kernel_rfl)
    refine Run_keep [0, 2, 8] (L' := [(0, .pointer (some ⟨bo, 0, none⟩)), (2, .pointer (some ⟨b1, 0, none⟩)), (8, .int .i64 0)]) (by kernel_rfl) ?_
    refine Run_loop (fun m L' h' => ∃ (i1 : Int) (s1 : (List (List (List Int)))) (a1 : Option Addr) (c1 : Nat), 0 ≤ i1 ∧ M.forN 100 _ _ n m i1 s1 = some x1 ∧ L' = [(0, .pointer (some ⟨bo, 0, none⟩)), (2, .pointer (some ⟨b1, 0, none⟩)), (8, .int .i64 i1)] ∧ Hold h h' [box bo 88 [.slice aomatrix o.matrix.length comatrix, .slice a1 s1.length c1], own cd22 a1 s1.length c1 s1, box b1 74 [.int .i64 0, .int .i64 0, .int .i64 0], it]) (100 - 0 : Int).toNat ⟨0, o.list, aolist, colist, Int.le_refl _, gx1, rfl, H43⟩ ?_
    rintro my1 _ h2 ⟨i1, s1, a1, c1, hloy1', gx1, rfl, H2⟩
    refine Run_seq ?_
    refine Run_reg 1 (by kernel_rfl) (L' := [(0, .pointer (some ⟨bo, 0, none⟩)), (2, .pointer (some ⟨b1, 0, none⟩)), (8, .int .i64 i1), (9, .bool (decide (i1 < 100)))]) ?_ ?_
    · refine QRun_b [.bool (decide (i1 < 100))] 0 _ (by kernel_rfl) (fun w => by kernel_rfl) ?_
      exact QRun_done [0, 2, 8, 9] (by kernel_rfl) (by kernel_rfl)
    refine Run_seq ?_
    refine Run_cond (b := decide (i1 < 100)) (by kernel_rfl) (fun hb1 => ?_) (fun hb1 => ?_)
    · obtain ⟨my1, y1, rfl, hB1, hgoy1, houty1⟩ := M.for_go gx1 hb1
      have hlty1 := of_decide_eq_true hb1
      refine Run_skip ?_
      refine Run_seq ?_
      refine Run_block ?_
      refine Run_seq ?_
      refine Run_reg 2 (by kernel_rfl) (L' := [(0, .pointer (some ⟨bo, 0, none⟩)), (2, .pointer (some ⟨b1, 0, none⟩)), (4, .int .i64 i1), (8, .int .i64 i1)]) ?_ ?_
      · refine QRun_b [.int .i64 i1, .int .i64 i1] 0 _ (by kernel_rfl) (fun w => by kernel_rfl) ?_
        exact QRun_done [0, 2, 4, 8] (by kernel_rfl) (by kernel_rfl)
      refine Run_seq ?_
      refine Run_reg 1 (by kernel_rfl) (L' := [(0, .pointer (some ⟨bo, 0, none⟩)), (2, .pointer (some ⟨b1, 0, none⟩)), (4, .int .i64 i1), (5, .int .i64 1), (8, .int .i64 i1)]) ?_ ?_
      · refine QRun_b [.int .i64 1] 0 _ (by kernel_rfl) (fun w => by kernel_rfl) ?_
        exact QRun_done [0, 2, 4, 5, 8] (by kernel_rfl) (by kernel_rfl)
      obtain ⟨x2, gx2, hB1⟩ := M.bind_some hB1
      refine Run_join (fun L' h' => ∃ (s4 : (List (List (List Int))) × Int) (a4 : Option Addr) (c4 : Nat), x2 = .inl s4 ∧ L' = [(0, .pointer (some ⟨bo, 0, none⟩)), (2, .pointer (some ⟨b1, 0, none⟩)), (8, .int .i64 i1)] ∧ Hold h h' [box bo 88 [.slice aomatrix o.matrix.length comatrix, .slice a4 s4.1.length c4], own cd22 a4 s4.1.length c4 s4.1, box b1 74 [.int .i64 0, .int .i64 0, .int .i64 0], it]) ?_ ?_
      · rintro _ h5 ⟨s4, a4, c4, es4, rfl, H5⟩
        have hB1 := M.cont_inl' hB1 es4
        refine Run_blk ?_
        refine Run_reg 2 (by kernel_rfl) (L' := [(0, .pointer (some ⟨bo, 0, none⟩)), (2, .pointer (some ⟨b1, 0, none⟩)), (8, .int .i64 (i1 + 1))]) ?_ ?_
        · refine QRun_y (.int .i64 (i1 + 1)) (by kernel_rfl) (Y_eq (v := .int .i64 (w64 (i1 + 1))) (Y_pure (fun w => by kernel_rfl)) (by rw [w64_eq _ (by omega)])) ?_
          refine QRun_b [.int .i64 (i1 + 1)] 1 _ (by kernel_rfl) (fun w => by kernel_rfl) ?_
          exact QRun_done [0, 2, 8] (by kernel_rfl) (by kernel_rfl)
        have H32 : Hold h h5 [own cd22 a4 s4.1.length c4 s4.1, box bo 88 [.slice aomatrix o.matrix.length comatrix, .slice a4 s4.1.length c4], box b1 74 [.int .i64 0, .int .i64 0, .int .i64 0], it] := H5.pick [1, 0, 2, 3] (by kernel_rfl)
        have H33 : Hold h h5 [box bo 88 [.slice aomatrix o.matrix.length comatrix, .slice a4 s4.1.length c4], own cd22 a4 s4.1.length c4 s4.1, box b1 74 [.int .i64 0, .int .i64 0, .int .i64 0], it] := H32.pick [1, 0, 2, 3] (by kernel_rfl)
        have hB1 := M.ret_some hB1
        have gx1 := hgoy1 _ hB1.symm
        exact Run_again [0, 2, 8] (by kernel_rfl) my1 (Nat.lt_succ_self _) ⟨i1 + 1, s4.1, a4, c4, by omega, gx1, rfl, H33⟩
      · refine Run_block ?_
        have H34 : Hold h h2 [own cd22 a1 s1.length c1 s1, box bo 88 [.slice aomatrix o.matrix.length comatrix, .slice a1 s1.length c1], box b1 74 [.int .i64 0, .int .i64 0, .int .i64 0], it] := H2.pick [1, 0, 2, 3] (by kernel_rfl)
        have H35 : Hold h h2 [box bo 88 [.slice aomatrix o.matrix.length comatrix, .slice a1 s1.length c1], own cd22 a1 s1.length c1 s1, box b1 74 [.int .i64 0, .int .i64 0, .int .i64 0], it] := H34.pick [1, 0, 2, 3] (by kernel_rfl)
        refine Run_keep [0, 2, 4, 5, 8] (L' := [(0, .pointer (some ⟨bo, 0, none⟩)), (2, .pointer (some ⟨b1, 0, none⟩)), (4, .int .i64 i1), (5, .int .i64 1), (8, .int .i64 i1)]) (by kernel_rfl) ?_
        refine Run_loop (fun m L' h' => ∃ (s3 : (List (List (List Int))) × Int) (a3 : Option Addr) (c3 : Nat), M.loopN _ n m s3 = some x2 ∧ L' = [(0, .pointer (some ⟨bo, 0, none⟩)), (2, .pointer (some ⟨b1, 0, none⟩)), (4, .int .i64 i1), (5, .int .i64 s3.2), (8, .int .i64 i1)] ∧ Hold h h' [box bo 88 [.slice aomatrix o.matrix.length comatrix, .slice a3 s3.1.length c3], own cd22 a3 s3.1.length c3 s3.1, box b1 74 [.int .i64 0, .int .i64 0, .int .i64 0], it]) n ⟨(s1, 1), a1, c1, gx2, rfl, H35⟩ ?_
        rintro my2 _ h4 ⟨s3, a3, c3, gx2, rfl, H4⟩
        obtain ⟨my2, y2, rfl, hB2, hgoy2, houty2⟩ := M.loop_some gx2
        refine Run_seq ?_
        refine Run_seq ?_
        refine Run_reg 4 (by kernel_rfl) (L' := [(0, .pointer (some ⟨bo, 0, none⟩)), (2, .pointer (some ⟨b1, 0, none⟩)), (4, .int .i64 i1), (5, .int .i64 s3.2), (8, .int .i64 i1), (14, .bool (decide ((w64 (i1 + s3.2)) ≤ 100)))]) ?_ ?_
        · refine QRun_b [.int .i64 i1, .int .i64 s3.2, .int .i64 (w64 (i1 + s3.2)), .bool (decide ((w64 (i1 + s3.2)) ≤ 100))] 0 _ (by kernel_rfl) (fun w => by kernel_rfl) ?_
          exact QRun_done [0, 2, 4, 5, 8, 14] (by kernel_rfl) (by kernel_rfl)
        refine Run_cond (b := decide ((w64 (i1 + s3.2)) ≤ 100)) (by kernel_rfl) (fun hb2 => ?_) (fun hb2 => ?_)
        · have hB2 := (M.ite_some hB2).1 hb2
          refine Run_skip ?_
          refine Run_seq ?_
          refine Run_block ?_
          refine Run_seq ?_
          refine Run_seq ?_
          refine Run_ops ?_
          refine Run_b [.pointer (some ⟨bo, 0, none⟩), .int .i64 i1, .int .i64 s3.2, .int .i64 (w64 (i1 + s3.2))] 0 _ (by kernel_rfl) (fun w => by kernel_rfl) ?_
          obtain ⟨x3, hx1, hB2⟩ := M.bind_some hB2
          have H6 : Hold h h4 [own cd22 a3 s3.1.length c3 s3.1, box bo 88 [.slice aomatrix o.matrix.length comatrix, .slice a3 s3.1.length c3], box b1 74 [.int .i64 0, .int .i64 0, .int .i64 0], it] := H4.pick [1, 0, 2, 3] (by kernel_rfl)
          have H7 : Hold h h4 [box bo 88 [.slice aomatrix o.matrix.length comatrix, .slice a3 s3.1.length c3], own cd22 a3 s3.1.length c3 s3.1, box b1 74 [.int .i64 0, .int .i64 0, .int .i64 0], it] := H6.pick [1, 0, 2, 3] (by kernel_rfl)
          have H8 : Hold h h4 [box bo 88 [.slice aomatrix o.matrix.length comatrix, .slice a3 s3.1.length c3], own cd22 a3 s3.1.length c3 s3.1, bun [box b1 74 [.int .i64 0, .int .i64 0, .int .i64 0], it]] := Hold.bundle (S := [box bo 88 [.slice aomatrix o.matrix.length comatrix, .slice a3 s3.1.length c3], own cd22 a3 s3.1.length c3 s3.1]) (R := [box b1 74 [.int .i64 0, .int .i64 0, .int .i64 0], it]) H7
          refine Run_E (by kernel_rfl) ?_
          refine E_call (f := 89) (args := #[.pointer (some ⟨bo, 0, none⟩), .int .i64 (w64 (i1 + s3.2))]) (w_impl_orbit_grow_B h h4 _ (⟨o.matrix, s3.1⟩ : TOrbit) bo aomatrix comatrix romatrix a3 c3 (w64 (i1 + s3.2)) H8 _ _ hx1) (by kernel_rfl) (fun v1 h6 hp1 => ?_)
          obtain ⟨a5, c5, rfl, H9⟩ := hp1
          have H10 : Hold h h6 [box bo 88 [.slice aomatrix o.matrix.length comatrix, .slice a5 x3.2.list.length c5], own cd22 a5 x3.2.list.length c5 x3.2.list, box b1 74 [.int .i64 0, .int .i64 0, .int .i64 0], it] := Hold.unbundle (S := [box bo 88 [.slice aomatrix o.matrix.length comatrix, .slice a5 x3.2.list.length c5], own cd22 a5 x3.2.list.length c5 x3.2.list]) (R := [box b1 74 [.int .i64 0, .int .i64 0, .int .i64 0], it]) H9 (Hold.tailBase (S := [box bo 88 [.slice aomatrix o.matrix.length comatrix, .slice a3 s3.1.length c3], own cd22 a3 s3.1.length c3 s3.1]) (R := [box b1 74 [.int .i64 0, .int .i64 0, .int .i64 0], it]) H7)
          refine Run_b [.bool (!x3.1)] 5 _ (by kernel_rfl) (fun w => by kernel_rfl) ?_
          refine Run_nil (by kernel_rfl) ?_
          refine Run_keep [0, 2, 4, 5, 8, 22] (L' := [(0, .pointer (some ⟨bo, 0, none⟩)), (2, .pointer (some ⟨b1, 0, none⟩)), (4, .int .i64 i1), (5, .int .i64 s3.2), (8, .int .i64 i1), (22, .bool (!x3.1))]) (by kernel_rfl) ?_
          refine Run_cond (b := !x3.1) (by kernel_rfl) (fun hb3 => ?_) (fun hb3 => ?_)
          · have hB2 := (M.ite_some hB2).1 hb3
            refine Run_seq ?_
            refine Run_ops ?_
            refine Run_b [.agg #[.int .i64 0, .int .i64 0, .int .i64 0]] 0 _ (by kernel_rfl) (fun w => by kernel_rfl) ?_
            have H12 : Hold h h6 [box b1 74 [.int .i64 0, .int .i64 0, .int .i64 0], box bo 88 [.slice aomatrix o.matrix.length comatrix, .slice a5 x3.2.list.length c5], own cd22 a5 x3.2.list.length c5 x3.2.list, it] := H10.pick [2, 0, 1, 3] (by kernel_rfl)
            refine Run_E (by kernel_rfl) ?_
            refine E_bput (t := 74) (off := 0) (us := [.int .i64 0, .int .i64 0, .int .i64 0]) (v := .agg #[.int .i64 0, .int .i64 0, .int .i64 0]) H12 (by kernel_rfl) (by kernel_rfl) rfl (by kernel_rfl) rfl (fun h7 H11 => ?_)
            refine Run_b [.int .i64 3] 2 _ (by kernel_rfl) (fun w => by kernel_rfl) ?_
            refine Run_nil (by kernel_rfl) ?_
            refine Run_keep [2, 3] (L' := [(2, .pointer (some ⟨b1, 0, none⟩)), (3, .int .i64 3)]) (by kernel_rfl) ?_
            have hB2 := M.ret_some hB2
            have gx2 := houty2 _ hB2.symm
            have hB1 := M.cont_inr' hB1 gx2
            have hB1 := M.ret_some hB1
            have gx1 := houty1 _ hB1.symm
            have hF := M.cont_inr' hF gx1
            have hF := M.ret_some hF
            subst hF
            have H13 : Hold h h7 [own cd22 a5 x3.2.list.length c5 x3.2.list, box b1 74 [.int .i64 0, .int .i64 0, .int .i64 0], box bo 88 [.slice aomatrix o.matrix.length comatrix, .slice a5 x3.2.list.length c5], it] := H11.pick [2, 0, 1, 3] (by kernel_rfl)
            have H14 : Hold h h7 [box bo 88 [.slice aomatrix o.matrix.length comatrix, .slice a5 x3.2.list.length c5], own cd22 a5 x3.2.list.length c5 x3.2.list, it] := H13.pick [2, 0, 3] (by kernel_rfl)
            exact Run_ret2 rfl (ResV_cell (n := 3) (cs := [.int .i64 0, .int .i64 0, .int .i64 0]) (by kernel_rfl) (fun w => by kernel_rfl) (by kernel_rfl) rfl (H11.cells (n := 3) (off := 0) 0 rfl rfl)) (ResV_tmp (v := .int .i64 3) (by kernel_rfl)) ⟨a5, c5, rfl, H14⟩
          · have hB2 := (M.ite_some hB2).2 hb3
            refine Run_skip ?_
            refine Run_seq ?_
            obtain ⟨x4, hx2, hB2⟩ := M.bind_some hB2
            obtain ⟨hx2l, hx2u, hx2⟩ := M.idx_some hx2
            have H15 : Hold h h6 [own cd22 a5 x3.2.list.length c5 x3.2.list, box bo 88 [.slice aomatrix o.matrix.length comatrix, .slice a5 x3.2.list.length c5], box b1 74 [.int .i64 0, .int .i64 0, .int .i64 0], it] := H10.pick [1, 0, 2, 3] (by kernel_rfl)
            have H16 := H15.toRows
            obtain ⟨a6, c6, H17⟩ := H16.pinRow hx2
            have H18 : Hold h h6 [box bo 88 [.slice aomatrix o.matrix.length comatrix, .slice a5 x3.2.list.length c5], rowsP cd23 22 a5 x3.2.list.length c5 x3.2.list [(i1.toNat, a6, x4.length, c6, x4)], box b1 74 [.int .i64 0, .int .i64 0, .int .i64 0], it] := H17.pick [1, 0, 2, 3] (by kernel_rfl)
            obtain ⟨x5, hx3, hB2⟩ := M.bind_some hB2
            obtain ⟨hx3l, hx3u, hx3⟩ := M.idx_some hx3
            have H19 : Hold h h6 [rowsP cd23 22 a5 x3.2.list.length c5 x3.2.list [(i1.toNat, a6, x4.length, c6, x4)], box bo 88 [.slice aomatrix o.matrix.length comatrix, .slice a5 x3.2.list.length c5], box b1 74 [.int .i64 0, .int .i64 0, .int .i64 0], it] := H18.pick [1, 0, 2, 3] (by kernel_rfl)
            obtain ⟨a7, c7, H20⟩ := H19.pinRow hx3
            have H21 : Hold h h6 [box bo 88 [.slice aomatrix o.matrix.length comatrix, .slice a5 x3.2.list.length c5], rowsP cd23 22 a5 x3.2.list.length c5 x3.2.list [((w64 (i1 + s3.2)).toNat, a7, x5.length, c7, x5), (i1.toNat, a6, x4.length, c6, x4)], box b1 74 [.int .i64 0, .int .i64 0, .int .i64 0], it] := H20.pick [1, 0, 2, 3] (by kernel_rfl)
            obtain ⟨x6, hx4, hB2⟩ := M.bind_some hB2
            refine Run_draw 22 mixed (by kernel_rfl) (by kernel_rfl) (L' := [(0, .pointer (some ⟨bo, 0, none⟩)), (2, .pointer (some ⟨b1, 0, none⟩)), (4, .int .i64 i1), (5, .int .i64 s3.2), (6, .int .i64 x6.1), (7, .bool x6.2), (8, .int .i64 i1)]) ?_ ?_
            · refine QRun_b [.pointer (some ⟨bo, 0, none⟩), .pointer (some ⟨bo, 0, none⟩), .pointer (some ⟨bo, 1, none⟩)] 0 _ (by kernel_rfl) (fun w => by kernel_rfl) ?_
              refine QRun_y (.slice a5 x3.2.list.length c5) (by kernel_rfl) (Y_load1 (t := 86) (p := ⟨bo, 1, none⟩) (v := .slice a5 x3.2.list.length c5) (by kernel_rfl) (fun w => by kernel_rfl) (H10.cell 0 rfl rfl)) ?_
              refine QRun_b [.int .i64 i1] 4 _ (by kernel_rfl) (fun w => by kernel_rfl) ?_
              refine QRun_y (.pointer (some (adr a5 (i1.toNat * 1)))) (by kernel_rfl) (Y_idx (t := 86) (e := 22) (sz := 1) (a := a5) (n := x3.2.list.length) (cap := c5) (kk := .i64) (i := i1) (by kernel_rfl) Try.underlying86 (by kernel_rfl) ((H10.rd 1 rfl).cell hx2).1 hx2l hx2u) ?_
              refine QRun_y (.slice a6 x4.length c6) (by kernel_rfl) (Y_load1 (t := 22) (p := adr a5 (i1.toNat * 1)) (v := .slice a6 x4.length c6) (by kernel_rfl) (fun w => by kernel_rfl) (H18.cellPin 1 rfl 0 rfl)) ?_
              refine QRun_b [.pointer (some ⟨bo, 0, none⟩), .pointer (some ⟨bo, 0, none⟩), .pointer (some ⟨bo, 1, none⟩)] 7 _ (by kernel_rfl) (fun w => by kernel_rfl) ?_
              refine QRun_y (.slice a5 x3.2.list.length c5) (by kernel_rfl) (Y_load1 (t := 86) (p := ⟨bo, 1, none⟩) (v := .slice a5 x3.2.list.length c5) (by kernel_rfl) (fun w => by kernel_rfl) (H18.cell 0 rfl rfl)) ?_
              refine QRun_b [.int .i64 i1, .int .i64 s3.2, .int .i64 (w64 (i1 + s3.2))] 11 _ (by kernel_rfl) (fun w => by kernel_rfl) ?_
              refine QRun_y (.pointer (some (adr a5 ((w64 (i1 + s3.2)).toNat * 1)))) (by kernel_rfl) (Y_idx (t := 86) (e := 22) (sz := 1) (a := a5) (n := x3.2.list.length) (cap := c5) (kk := .i64) (i := w64 (i1 + s3.2)) (by kernel_rfl) Try.underlying86 (by kernel_rfl) ((H18.rdRows 1 rfl).cell hx3).1 hx3l hx3u) ?_
              refine QRun_y (.slice a7 x5.length c7) (by kernel_rfl) (Y_load1 (t := 22) (p := adr a5 ((w64 (i1 + s3.2)).toNat * 1)) (v := .slice a7 x5.length c7) (by kernel_rfl) (fun w => by kernel_rfl) (H21.cellPin 1 rfl 0 rfl)) ?_
              refine QRun_y (.tuple #[.int .i64 x6.1, .bool x6.2]) (by kernel_rfl) (Y_callq (f := 104) (args := #[.slice a6 x4.length c6, .slice a7 x5.length c7]) (v := .tuple #[.int .i64 x6.1, .bool x6.2]) (by kernel_rfl) (w_impl_growthBetween h6 x4 a6 c6 (H21.rdPin 1 rfl 1 rfl) x5 a7 c7 (H21.rdPin 1 rfl 0 rfl) _ _ hx4)) ?_
              refine QRun_b [.tuple #[.int .i64 x6.1, .bool x6.2], .int .i64 x6.1, .bool x6.2, .int .i64 x6.1, .bool x6.2] 17 _ (by kernel_rfl) (fun w => by kernel_rfl) ?_
              exact QRun_done [0, 2, 4, 5, 6, 7, 8] (by kernel_rfl) (by kernel_rfl)
            refine Run_seq ?_
            refine Run_reg 1 (by kernel_rfl) (L' := [(0, .pointer (some ⟨bo, 0, none⟩)), (2, .pointer (some ⟨b1, 0, none⟩)), (4, .int .i64 i1), (5, .int .i64 s3.2), (6, .int .i64 x6.1), (8, .int .i64 i1), (44, .bool x6.2)]) ?_ ?_
            · refine QRun_b [.bool x6.2] 0 _ (by kernel_rfl) (fun w => by kernel_rfl) ?_
              exact QRun_done [0, 2, 4, 5, 6, 8, 44] (by kernel_rfl) (by kernel_rfl)
            refine Run_cond (b := x6.2) (by kernel_rfl) (fun hb4 => ?_) (fun hb4 => ?_)
            · have hB2 := (M.ite_some hB2).1 hb4
              refine Run_seq ?_
              refine Run_ops ?_
              refine Run_b [.int .i64 i1, .int .i64 s3.2, .int .i64 x6.1, .agg #[.int .i64 i1, .int .i64 s3.2, .int .i64 x6.1]] 0 _ (by kernel_rfl) (fun w => by kernel_rfl) ?_
              have H23 : Hold h h6 [box b1 74 [.int .i64 0, .int .i64 0, .int .i64 0], box bo 88 [.slice aomatrix o.matrix.length comatrix, .slice a5 x3.2.list.length c5], rowsP cd23 22 a5 x3.2.list.length c5 x3.2.list [((w64 (i1 + s3.2)).toNat, a7, x5.length, c7, x5), (i1.toNat, a6, x4.length, c6, x4)], it] := H21.pick [2, 0, 1, 3] (by kernel_rfl)
              refine Run_E (by kernel_rfl) ?_
              refine E_bput (t := 74) (off := 0) (us := [.int .i64 i1, .int .i64 s3.2, .int .i64 x6.1]) (v := .agg #[.int .i64 i1, .int .i64 s3.2, .int .i64 x6.1]) H23 (by kernel_rfl) (by kernel_rfl) rfl (by kernel_rfl) rfl (fun h8 H22 => ?_)
              refine Run_b [.int .i64 0] 5 _ (by kernel_rfl) (fun w => by kernel_rfl) ?_
              refine Run_nil (by kernel_rfl) ?_
              refine Run_keep [2, 3] (L' := [(2, .pointer (some ⟨b1, 0, none⟩)), (3, .int .i64 0)]) (by kernel_rfl) ?_
              have hB2 := M.ret_some hB2
              have gx2 := houty2 _ hB2.symm
              have hB1 := M.cont_inr' hB1 gx2
              have hB1 := M.ret_some hB1
              have gx1 := houty1 _ hB1.symm
              have hF := M.cont_inr' hF gx1
              have hF := M.ret_some hF
              subst hF
              have H24 : Hold h h8 [rowsP cd23 22 a5 x3.2.list.length c5 x3.2.list [((w64 (i1 + s3.2)).toNat, a7, x5.length, c7, x5), (i1.toNat, a6, x4.length, c6, x4)], box b1 74 [.int .i64 i1, .int .i64 s3.2, .int .i64 x6.1], box bo 88 [.slice aomatrix o.matrix.length comatrix, .slice a5 x3.2.list.length c5], it] := H22.pick [2, 0, 1, 3] (by kernel_rfl)
              have H25 := H24.ofRows
              have H26 : Hold h h8 [box bo 88 [.slice aomatrix o.matrix.length comatrix, .slice a5 x3.2.list.length c5], own cd22 a5 x3.2.list.length c5 x3.2.list, it] := H25.pick [2, 0, 3] (by kernel_rfl)
              exact Run_ret2 rfl (ResV_cell (n := 3) (cs := [.int .i64 i1, .int .i64 s3.2, .int .i64 x6.1]) (by kernel_rfl) (fun w => by kernel_rfl) (by kernel_rfl) rfl (H22.cells (n := 3) (off := 0) 0 rfl rfl)) (ResV_tmp (v := .int .i64 0) (by kernel_rfl)) ⟨a5, c5, rfl, H26⟩
            · have hB2 := (M.ite_some hB2).2 hb4
              refine Run_skip ?_
              refine Run_blk ?_
              refine Run_reg 3 (by kernel_rfl) (L' := [(0, .pointer (some ⟨bo, 0, none⟩)), (2, .pointer (some ⟨b1, 0, none⟩)), (4, .int .i64 i1), (5, .int .i64 (w64 (s3.2 + 1))), (8, .int .i64 i1)]) ?_ ?_
              · refine QRun_b [.int .i64 s3.2, .int .i64 (w64 (s3.2 + 1)), .int .i64 (w64 (s3.2 + 1))] 0 _ (by kernel_rfl) (fun w => by kernel_rfl) ?_
                exact QRun_done [0, 2, 4, 5, 8] (by kernel_rfl) (by kernel_rfl)
              have H27 : Hold h h6 [rowsP cd23 22 a5 x3.2.list.length c5 x3.2.list [((w64 (i1 + s3.2)).toNat, a7, x5.length, c7, x5), (i1.toNat, a6, x4.length, c6, x4)], box bo 88 [.slice aomatrix o.matrix.length comatrix, .slice a5 x3.2.list.length c5], box b1 74 [.int .i64 0, .int .i64 0, .int .i64 0], it] := H21.pick [1, 0, 2, 3] (by kernel_rfl)
              have H28 := H27.ofRows
              have H29 : Hold h h6 [box bo 88 [.slice aomatrix o.matrix.length comatrix, .slice a5 x3.2.list.length c5], own cd22 a5 x3.2.list.length c5 x3.2.list, box b1 74 [.int .i64 0, .int .i64 0, .int .i64 0], it] := H28.pick [1, 0, 2, 3] (by kernel_rfl)
              have hB2 := M.ret_some hB2
              have gx2 := hgoy2 _ hB2.symm
              exact Run_again [0, 2, 4, 5, 8] (by kernel_rfl) my2 (Nat.lt_succ_self _) ⟨(x3.2.list, (w64 (s3.2 + 1))), a5, c5, gx2, rfl, H29⟩
        · have hB2 := (M.ite_some hB2).2 hb2
          refine Run_exit (k' := _) rfl ?_
          have H30 : Hold h h4 [own cd22 a3 s3.1.length c3 s3.1, box bo 88 [.slice aomatrix o.matrix.length comatrix, .slice a3 s3.1.length c3], box b1 74 [.int .i64 0, .int .i64 0, .int .i64 0], it] := H4.pick [1, 0, 2, 3] (by kernel_rfl)
          have H31 : Hold h h4 [box bo 88 [.slice aomatrix o.matrix.length comatrix, .slice a3 s3.1.length c3], own cd22 a3 s3.1.length c3 s3.1, box b1 74 [.int .i64 0, .int .i64 0, .int .i64 0], it] := H30.pick [1, 0, 2, 3] (by kernel_rfl)
          have hB2 := M.ret_some hB2
          have gx2 := houty2 _ hB2.symm
          subst gx2
          exact Run_fall [0, 2, 8] (by kernel_rfl) ⟨(s3.1, s3.2), a3, c3, rfl, rfl, H31⟩
    · have gx1 := M.for_end gx1 hb1
      subst gx1
      refine Run_exit (k' := _) rfl ?_
      have H36 : Hold h h2 [own cd22 a1 s1.length c1 s1, box bo 88 [.slice aomatrix o.matrix.length comatrix, .slice a1 s1.length c1], box b1 74 [.int .i64 0, .int .i64 0, .int .i64 0], it] := H2.pick [1, 0, 2, 3] (by kernel_rfl)
      have H37 : Hold h h2 [box bo 88 [.slice aomatrix o.matrix.length comatrix, .slice a1 s1.length c1], own cd22 a1 s1.length c1 s1, box b1 74 [.int .i64 0, .int .i64 0, .int .i64 0], it] := H36.pick [1, 0, 2, 3] (by kernel_rfl)
      exact Run_fall [2] (by kernel_rfl) ⟨s1, a1, c1, rfl, rfl, H37⟩

set_option maxRecDepth 100000 in
set_option maxHeartbeats 4000000 in
theorem w_impl_OrbitRate (h : Heap) (a_ : List (List Int)) (aa_ : Option Addr) (ca_ : Nat) (ra_ : Rd cd23 h (Lt h) aa_ ca_ a_) (x_ : List Int) (ax_ : Option Addr) (cx_ : Nat) (rx_ : Rd cd2 h (Lt h) ax_ cx_ x_) (n : Nat) (r : TRatio × Int) (hF : impl_OrbitRate a_ x_ n = some r) :
    Fn Try.prog 13 #[.slice aa_ a_.length ca_, .slice ax_ x_.length cx_] h fun v h' => v = .tuple #[.agg #[.int .i64 r.1.Num, .int .i64 r.1.Den], .int .i64 r.2] ∧ Hold h h' [] := by
  unfold impl_OrbitRate at hF
  refine Fn_enter (args := [.slice aa_ a_.length ca_, .slice ax_ x_.length cx_]) Try.func13 rfl (by kernel_rfl) (by kernel_rfl) (fun w0 _ => ?_)
  have H0 := Hold.init h
  refine Run_seq ?_
  refine Run_ops ?_
  refine Run_E (by kernel_rfl) ?_
  refine E_box (ty := 26) (cs := [.int .i64 0, .int .i64 0]) H0 (fun w => by kernel_rfl) (fun b1 h1 H1 => ?_)
  refine Run_b [.int .i64 0] 1 _ (by kernel_rfl) (fun w => by kernel_rfl) ?_
  refine Run_nil (by kernel_rfl) ?_
  refine Run_keep [0, 1, 4] (L' := [(0, .slice aa_ a_.length ca_), (1, .slice ax_ x_.length cx_), (4, .pointer (some ⟨b1, 0, none⟩))]) (by kernel_rfl) ?_
  refine Run_seq ?_
  refine Run_seq ?_
  obtain ⟨x1, hx1, hF⟩ := M.bind_some hF
  refine Run_regC (j := 4) (C := fun x => Hold h x [box b1 26 [.int .i64 0, .int .i64 0]]) (by kernel_rfl) H1 (L' := [(0, .slice aa_ a_.length ca_), (1, .slice ax_ x_.length cx_), (4, .pointer (some ⟨b1, 0, none⟩)), (6, .int .i64 x1)]) ?_ (fun h2 H2 => ?_)
  · refine QRun_b [.slice aa_ a_.length ca_, .slice ax_ x_.length cx_] 0 _ (by kernel_rfl) (fun w => by kernel_rfl) ?_
    refine QRun_y (.int .i64 x1) (by kernel_rfl) (Y_call (f := 59) (args := #[.slice aa_ a_.length ca_, .slice ax_ x_.length cx_]) (v := .int .i64 x1) (by kernel_rfl) fun hx Hx => (w_impl_checkOrbit hx a_ aa_ ca_ (ra_.at Hx.ext) x_ ax_ cx_ (rx_.at Hx.ext) _ _ hx1).mono fun _ _ ⟨e, H'⟩ => ⟨e, Hx.call H' rfl⟩) ?_
    refine QRun_b [.int .i64 x1] 3 _ (by kernel_rfl) (fun w => by kernel_rfl) ?_
    exact QRun_done [0, 1, 4, 6] (by kernel_rfl) (by kernel_rfl)
  have H3 : Hold h h2 [box b1 26 [.int .i64 0, .int .i64 0]] := H2
  refine Run_seq ?_
  refine Run_reg 2 (by kernel_rfl) (L' := [(0, .slice aa_ a_.length ca_), (1, .slice ax_ x_.length cx_), (4, .pointer (some ⟨b1, 0, none⟩)), (6, .int .i64 x1), (14, .bool (x1 != 0))]) ?_ ?_
  · refine QRun_b [.int .i64 x1, .bool (x1 != 0)] 0 _ (by kernel_rfl) (fun w => by kernel_rfl) ?_
    exact QRun_done [0, 1, 4, 6, 14] (by kernel_rfl) (by kernel_rfl)
  refine Run_cond (b := x1 != 0) (by kernel_rfl) (fun hb1 => ?_) (fun hb1 => ?_)
  · have hF := (M.ite_some hF).1 hb1
    refine Run_seq ?_
    refine Run_ops ?_
    refine Run_b [.agg #[.int .i64 0, .int .i64 0], .int .i64 x1] 0 _ (by kernel_rfl) (fun w => by kernel_rfl) ?_
    refine Run_E (by kernel_rfl) ?_
    refine E_bput (t := 26) (off := 0) (us := [.int .i64 0, .int .i64 0]) (v := .agg #[.int .i64 0, .int .i64 0]) H3 (by kernel_rfl) (by kernel_rfl) rfl (by kernel_rfl) rfl (fun h3 H4 => ?_)
    refine Run_b [.int .i64 x1] 3 _ (by kernel_rfl) (fun w => by kernel_rfl) ?_
    refine Run_nil (by kernel_rfl) ?_
    refine Run_keep [4, 5] (L' := [(4, .pointer (some ⟨b1, 0, none⟩)), (5, .int .i64 x1)]) (by kernel_rfl) ?_
    have hF := M.ret_some hF
    subst hF
    have H5 : Hold h h3 [] := H4.pick [] (by kernel_rfl)
    exact Run_ret2 rfl (ResV_cell (n := 2) (cs := [.int .i64 0, .int .i64 0]) (by kernel_rfl) (fun w => by kernel_rfl) (by kernel_rfl) rfl (H4.cells (n := 2) (off := 0) 0 rfl rfl)) (ResV_tmp (v := .int .i64 x1) (by kernel_rfl)) ⟨rfl, H5⟩
  · have hF := (M.ite_some hF).2 hb1
    refine Run_skip ?_
    refine Run_seq ?_
    refine Run_ops ?_
    refine Run_b [.slice aa_ a_.length ca_, .slice ax_ x_.length cx_] 0 _ (by kernel_rfl) (fun w => by kernel_rfl) ?_
    obtain ⟨x2, hx2, hF⟩ := M.bind_some hF
    refine Run_E (by kernel_rfl) ?_
    refine E_call (f := 60) (args := #[.slice aa_ a_.length ca_, .slice ax_ x_.length cx_]) (w_impl_vectorOrbit h2 a_ aa_ ca_ (ra_.at H3.ext) x_ ax_ cx_ (rx_.at H3.ext) _ _ hx2) (by kernel_rfl) (fun v1 h4 hp1 => ?_)
    obtain ⟨b2, a1, c1, a2, c2, rfl, hd1, H6⟩ := hp1
    have H7 : Hold h h4 [box b2 88 [.slice a1 x2.matrix.length c1, .slice a2 x2.list.length c2], own cd22 a2 x2.list.length c2 x2.list, box b1 26 [.int .i64 0, .int .i64 0]] := H3.call H6 rfl
    have r1 := ra_.alias hd1
    refine Run_b [.pointer (some ⟨b2, 0, none⟩)] 3 _ (by kernel_rfl) (fun w => by kernel_rfl) ?_
    refine Run_nil (by kernel_rfl) ?_
    refine Run_keep [4, 7] (L' := [(4, .pointer (some ⟨b1, 0, none⟩)), (7, .pointer (some ⟨b2, 0, none⟩))]) (by kernel_rfl) ?_
    refine Run_seq ?_
    refine Run_ops ?_
    refine Run_b [.pointer (some ⟨b2, 0, none⟩)] 0 _ (by kernel_rfl) (fun w => by kernel_rfl) ?_
    obtain ⟨x3, hx3, hF⟩ := M.bind_some hF
    have H8 : Hold h h4 [own cd22 a2 x2.list.length c2 x2.list, box b2 88 [.slice a1 x2.matrix.length c1, .slice a2 x2.list.length c2], box b1 26 [.int .i64 0, .int .i64 0]] := H7.pick [1, 0, 2] (by kernel_rfl)
    have H9 : Hold h h4 [box b2 88 [.slice a1 x2.matrix.length c1, .slice a2 x2.list.length c2], own cd22 a2 x2.list.length c2 x2.list, box b1 26 [.int .i64 0, .int .i64 0]] := H8.pick [1, 0, 2] (by kernel_rfl)
    have H10 : Hold h h4 [box b2 88 [.slice a1 x2.matrix.length c1, .slice a2 x2.list.length c2], own cd22 a2 x2.list.length c2 x2.list, bun [box b1 26 [.int .i64 0, .int .i64 0]]] := Hold.bundle (S := [box b2 88 [.slice a1 x2.matrix.length c1, .slice a2 x2.list.length c2], own cd22 a2 x2.list.length c2 x2.list]) (R := [box b1 26 [.int .i64 0, .int .i64 0]]) H9
    refine Run_E (by kernel_rfl) ?_
    refine E_call (f := 61) (args := #[.pointer (some ⟨b2, 0, none⟩)]) (w_impl_orbit_firstRepeat_B h h4 _ x2 b2 a1 c1 r1 a2 c2 H10 _ _ hx3) (by kernel_rfl) (fun v2 h5 hp2 => ?_)
    obtain ⟨a3, c3, rfl, H11⟩ := hp2
    have H12 : Hold h h5 [box b2 88 [.slice a1 x2.matrix.length c1, .slice a3 x3.2.2.list.length c3], own cd22 a3 x3.2.2.list.length c3 x3.2.2.list, box b1 26 [.int .i64 0, .int .i64 0]] := Hold.unbundle (S := [box b2 88 [.slice a1 x2.matrix.length c1, .slice a3 x3.2.2.list.length c3], own cd22 a3 x3.2.2.list.length c3 x3.2.2.list]) (R := [box b1 26 [.int .i64 0, .int .i64 0]]) H11 (Hold.tailBase (S := [box b2 88 [.slice a1 x2.matrix.length c1, .slice a2 x2.list.length c2], own cd22 a2 x2.list.length c2 x2.list]) (R := [box b1 26 [.int .i64 0, .int .i64 0]]) H9)
    refine Run_b [.tuple #[.agg #[.int .i64 x3.1.at_, .int .i64 x3.1.period, .int .i64 x3.1.growth], .int .i64 x3.2.1], .agg #[.int .i64 x3.1.at_, .int .i64 x3.1.period, .int .i64 x3.1.growth], .int .i64 x3.2.1] 2 _ (by kernel_rfl) (fun w => by kernel_rfl) ?_
    refine Run_E (by kernel_rfl) ?_
    refine E_box (ty := 74) (cs := [.int .i64 0, .int .i64 0, .int .i64 0]) H12 (fun w => by kernel_rfl) (fun b3 h6 H13 => ?_)
    refine Run_E (by kernel_rfl) ?_
    refine E_bput (t := 74) (off := 0) (us := [.int .i64 x3.1.at_, .int .i64 x3.1.period, .int .i64 x3.1.growth]) (v := .agg #[.int .i64 x3.1.at_, .int .i64 x3.1.period, .int .i64 x3.1.growth]) H13 (by kernel_rfl) (by kernel_rfl) rfl (by kernel_rfl) rfl (fun h7 H14 => ?_)
    refine Run_b [.int .i64 x3.2.1] 7 _ (by kernel_rfl) (fun w => by kernel_rfl) ?_
    refine Run_nil (by kernel_rfl) ?_
    refine Run_keep [4, 8, 9] (L' := [(4, .pointer (some ⟨b1, 0, none⟩)), (8, .pointer (some ⟨b3, 0, none⟩)), (9, .int .i64 x3.2.1)]) (by kernel_rfl) ?_
    refine Run_seq ?_
    refine Run_seq ?_
    refine Run_reg 2 (by kernel_rfl) (L' := [(4, .pointer (some ⟨b1, 0, none⟩)), (8, .pointer (some ⟨b3, 0, none⟩)), (9, .int .i64 x3.2.1), (26, .bool (x3.2.1 != 0))]) ?_ ?_
    · refine QRun_b [.int .i64 x3.2.1, .bool (x3.2.1 != 0)] 0 _ (by kernel_rfl) (fun w => by kernel_rfl) ?_
      exact QRun_done [4, 8, 9, 26] (by kernel_rfl) (by kernel_rfl)
    refine Run_cond (b := x3.2.1 != 0) (by kernel_rfl) (fun hb2 => ?_) (fun hb2 => ?_)
    · have hF := (M.ite_some hF).1 hb2
      refine Run_seq ?_
      refine Run_ops ?_
      refine Run_b [.agg #[.int .i64 0, .int .i64 0], .int .i64 x3.2.1] 0 _ (by kernel_rfl) (fun w => by kernel_rfl) ?_
      have H16 : Hold h h7 [box b1 26 [.int .i64 0, .int .i64 0], box b3 74 [.int .i64 x3.1.at_, .int .i64 x3.1.period, .int .i64 x3.1.growth], box b2 88 [.slice a1 x2.matrix.length c1, .slice a3 x3.2.2.list.length c3], own cd22 a3 x3.2.2.list.length c3 x3.2.2.list] := H14.pick [3, 0, 1, 2] (by kernel_rfl)
      refine Run_E (by kernel_rfl) ?_
      refine E_bput (t := 26) (off := 0) (us := [.int .i64 0, .int .i64 0]) (v := .agg #[.int .i64 0, .int .i64 0]) H16 (by kernel_rfl) (by kernel_rfl) rfl (by kernel_rfl) rfl (fun h8 H15 => ?_)
      refine Run_b [.int .i64 x3.2.1] 3 _ (by kernel_rfl) (fun w => by kernel_rfl) ?_
      refine Run_nil (by kernel_rfl) ?_
      refine Run_keep [4, 5] (L' := [(4, .pointer (some ⟨b1, 0, none⟩)), (5, .int .i64 x3.2.1)]) (by kernel_rfl) ?_
      have hF := M.ret_some hF
      subst hF
      have H17 : Hold h h8 [] := H15.pick [] (by kernel_rfl)
      exact Run_ret2 rfl (ResV_cell (n := 2) (cs := [.int .i64 0, .int .i64 0]) (by kernel_rfl) (fun w => by kernel_rfl) (by kernel_rfl) rfl (H15.cells (n := 2) (off := 0) 0 rfl rfl)) (ResV_tmp (v := .int .i64 x3.2.1) (by kernel_rfl)) ⟨rfl, H17⟩
    · have hF := (M.ite_some hF).2 hb2
      refine Run_skip ?_
      refine Run_seq ?_
      refine Run_ops ?_
      refine Run_b [.pointer (some ⟨b3, 2, none⟩)] 0 _ (by kernel_rfl) (fun w => by kernel_rfl) ?_
      refine Run_y (.int .i64 x3.1.growth) (by kernel_rfl) (Y_load1 (t := 2) (p := ⟨b3, 2, none⟩) (v := .int .i64 x3.1.growth) (by kernel_rfl) (fun w => by kernel_rfl) (H14.cell 0 rfl rfl)) ?_
      refine Run_b [.pointer (some ⟨b3, 1, none⟩)] 2 _ (by kernel_rfl) (fun w => by kernel_rfl) ?_
      refine Run_y (.int .i64 x3.1.period) (by kernel_rfl) (Y_load1 (t := 2) (p := ⟨b3, 1, none⟩) (v := .int .i64 x3.1.period) (by kernel_rfl) (fun w => by kernel_rfl) (H14.cell 0 rfl rfl)) ?_
      obtain ⟨x4, hx4, hF⟩ := M.bind_some hF
      refine Run_E (by kernel_rfl) ?_
      refine E_call (f := 63) (args := #[.int .i64 x3.1.growth, .int .i64 x3.1.period]) (w_impl_ratioOf h7 x3.1.growth x3.1.period _ _ hx4) (by kernel_rfl) (fun v3 h9 hp3 => ?_)
      obtain ⟨rfl, H18⟩ := hp3
      have H19 : Hold h h9 [box b3 74 [.int .i64 x3.1.at_, .int .i64 x3.1.period, .int .i64 x3.1.growth], box b2 88 [.slice a1 x2.matrix.length c1, .slice a3 x3.2.2.list.length c3], own cd22 a3 x3.2.2.list.length c3 x3.2.2.list, box b1 26 [.int .i64 0, .int .i64 0]] := H14.call H18 rfl
      obtain ⟨x5, hx5, hF⟩ := M.bind_some hF
      refine Run_E (by kernel_rfl) ?_
      refine E_call (f := 62) (args := #[.agg #[.int .i64 x4.Num, .int .i64 x4.Den]]) (w_impl_checkedRatio h9 x4 _ _ hx5) (by kernel_rfl) (fun v4 h10 hp4 => ?_)
      obtain ⟨rfl, H20⟩ := hp4
      have H21 : Hold h h10 [box b3 74 [.int .i64 x3.1.at_, .int .i64 x3.1.period, .int .i64 x3.1.growth], box b2 88 [.slice a1 x2.matrix.length c1, .slice a3 x3.2.2.list.length c3], own cd22 a3 x3.2.2.list.length c3 x3.2.2.list, box b1 26 [.int .i64 0, .int .i64 0]] := H19.call H20 rfl
      refine Run_b [.agg #[.int .i64 x5.1.Num, .int .i64 x5.1.Den], .int .i64 x5.2] 6 _ (by kernel_rfl) (fun w => by kernel_rfl) ?_
      have H23 : Hold h h10 [box b1 26 [.int .i64 0, .int .i64 0], box b3 74 [.int .i64 x3.1.at_, .int .i64 x3.1.period, .int .i64 x3.1.growth], box b2 88 [.slice a1 x2.matrix.length c1, .slice a3 x3.2.2.list.length c3], own cd22 a3 x3.2.2.list.length c3 x3.2.2.list] := H21.pick [3, 0, 1, 2] (by kernel_rfl)
      refine Run_E (by kernel_rfl) ?_
      refine E_bput (t := 26) (off := 0) (us := [.int .i64 x5.1.Num, .int .i64 x5.1.Den]) (v := .agg #[.int .i64 x5.1.Num, .int .i64 x5.1.Den]) H23 (by kernel_rfl) (by kernel_rfl) rfl (by kernel_rfl) rfl (fun h11 H22 => ?_)
      refine Run_b [.int .i64 x5.2] 9 _ (by kernel_rfl) (fun w => by kernel_rfl) ?_
      refine Run_nil (by kernel_rfl) ?_
      refine Run_keep [4, 5] (L' := [(4, .pointer (some ⟨b1, 0, none⟩)), (5, .int .i64 x5.2)]) (by kernel_rfl) ?_
      have hF := M.ret_some hF
      subst hF
      have H24 : Hold h h11 [] := H22.pick [] (by kernel_rfl)
      exact Run_ret2 rfl (ResV_cell (n := 2) (cs := [.int .i64 x5.1.Num, .int .i64 x5.1.Den]) (by kernel_rfl) (fun w => by kernel_rfl) (by kernel_rfl) rfl (H22.cells (n := 2) (off := 0) 0 rfl rfl)) (ResV_tmp (v := .int .i64 x5.2) (by kernel_rfl)) ⟨rfl, H24⟩

set_option maxRecDepth 100000 in
set_option maxHeartbeats 4000000 in
theorem w_laws_eqRatio (h : Heap) (a_ : TRatio) (b : TRatio) (n : Nat) (r : Bool) (hF : laws_eqRatio a_ b n = some r) :
    Fn Try.prog 14 #[.agg #[.int .i64 a_.Num, .int .i64 a_.Den], .agg #[.int .i64 b.Num, .int .i64 b.Den]] h fun v h' => v = .bool r ∧ Hold h h' [] := by
  unfold laws_eqRatio at hF
  refine Fn_enter (args := [.agg #[.int .i64 a_.Num, .int .i64 a_.Den], .agg #[.int .i64 b.Num, .int .i64 b.Den]]) Try.func14 rfl (by kernel_rfl) (by kernel_rfl) (fun w0 _ => ?_)
  have H0 := Hold.init h
  refine Run_seq ?_
  refine Run_ops ?_
  refine Run_E (by kernel_rfl) ?_
  refine E_box (ty := 26) (cs := [.int .i64 a_.Num, .int .i64 a_.Den]) H0 (fun w => by kernel_rfl) (fun b1 h1 H1 => ?_)
  refine Run_E (by kernel_rfl) ?_
  refine E_box (ty := 26) (cs := [.int .i64 b.Num, .int .i64 b.Den]) H1 (fun w => by kernel_rfl) (fun b2 h2 H2 => ?_)
  refine Run_b [.bool false] 2 _ (by kernel_rfl) (fun w => by kernel_rfl) ?_
  refine Run_nil (by kernel_rfl) ?_
  refine Run_keep [2, 3] (L' := [(2, .pointer (some ⟨b1, 0, none⟩)), (3, .pointer (some ⟨b2, 0, none⟩))]) (by kernel_rfl) ?_
  refine Run_seq ?_
  refine Run_seq ?_
  refine Run_reg 5 (by kernel_rfl) (L' := [(2, .pointer (some ⟨b1, 0, none⟩)), (3, .pointer (some ⟨b2, 0, none⟩)), (9, .bool (a_.Num != b.Num))]) ?_ ?_
  · refine QRun_b [.pointer (some ⟨b1, 0, none⟩)] 0 _ (by kernel_rfl) (fun w => by kernel_rfl) ?_
    refine QRun_y (.int .i64 a_.Num) (by kernel_rfl) (Y_load1 (t := 2) (p := ⟨b1, 0, none⟩) (v := .int .i64 a_.Num) (by kernel_rfl) (fun w => by kernel_rfl) (H2.cell 1 rfl rfl)) ?_
    refine QRun_b [.pointer (some ⟨b2, 0, none⟩)] 2 _ (by kernel_rfl) (fun w => by kernel_rfl) ?_
    refine QRun_y (.int .i64 b.Num) (by kernel_rfl) (Y_load1 (t := 2) (p := ⟨b2, 0, none⟩) (v := .int .i64 b.Num) (by kernel_rfl) (fun w => by kernel_rfl) (H2.cell 0 rfl rfl)) ?_
    refine QRun_b [.bool (a_.Num != b.Num)] 4 _ (by kernel_rfl) (fun w => by kernel_rfl) ?_
    exact QRun_done [2, 3, 9] (by kernel_rfl) (by kernel_rfl)
  refine Run_cond (b := a_.Num != b.Num) (by kernel_rfl) (fun hb1 => ?_) (fun hb1 => ?_)
  · have hF := (M.ite_some hF).1 hb1
    refine Run_seq ?_
    refine Run_reg 1 (by kernel_rfl) (L' := [(4, .bool false)]) ?_ ?_
    · refine QRun_b [.bool false] 0 _ (by kernel_rfl) (fun w => by kernel_rfl) ?_
      exact QRun_done [4] (by kernel_rfl) (by kernel_rfl)
    have hF := M.ret_some hF
    subst hF
    have H3 : Hold h h2 [] := H2.pick [] (by kernel_rfl)
    exact Run_ret1 rfl (ResV_tmp (v := .bool false) (by kernel_rfl)) ⟨rfl, H3⟩
  · have hF := (M.ite_some hF).2 hb1
    refine Run_skip ?_
    refine Run_seq ?_
    refine Run_seq ?_
    refine Run_reg 5 (by kernel_rfl) (L' := [(14, .bool (a_.Den != b.Den))]) ?_ ?_
    · refine QRun_b [.pointer (some ⟨b1, 1, none⟩)] 0 _ (by kernel_rfl) (fun w => by kernel_rfl) ?_
      refine QRun_y (.int .i64 a_.Den) (by kernel_rfl) (Y_load1 (t := 2) (p := ⟨b1, 1, none⟩) (v := .int .i64 a_.Den) (by kernel_rfl) (fun w => by kernel_rfl) (H2.cell 1 rfl rfl)) ?_
      refine QRun_b [.pointer (some ⟨b2, 1, none⟩)] 2 _ (by kernel_rfl) (fun w => by kernel_rfl) ?_
      refine QRun_y (.int .i64 b.Den) (by kernel_rfl) (Y_load1 (t := 2) (p := ⟨b2, 1, none⟩) (v := .int .i64 b.Den) (by kernel_rfl) (fun w => by kernel_rfl) (H2.cell 0 rfl rfl)) ?_
      refine QRun_b [.bool (a_.Den != b.Den)] 4 _ (by kernel_rfl) (fun w => by kernel_rfl) ?_
      exact QRun_done [14] (by kernel_rfl) (by kernel_rfl)
    refine Run_cond (b := a_.Den != b.Den) (by kernel_rfl) (fun hb2 => ?_) (fun hb2 => ?_)
    · have hF := (M.ite_some hF).1 hb2
      refine Run_seq ?_
      refine Run_reg 1 (by kernel_rfl) (L' := [(4, .bool false)]) ?_ ?_
      · refine QRun_b [.bool false] 0 _ (by kernel_rfl) (fun w => by kernel_rfl) ?_
        exact QRun_done [4] (by kernel_rfl) (by kernel_rfl)
      have hF := M.ret_some hF
      subst hF
      have H4 : Hold h h2 [] := H2.pick [] (by kernel_rfl)
      exact Run_ret1 rfl (ResV_tmp (v := .bool false) (by kernel_rfl)) ⟨rfl, H4⟩
    · have hF := (M.ite_some hF).2 hb2
      refine Run_skip ?_
      refine Run_seq ?_
      refine Run_reg 1 (by kernel_rfl) (L' := [(4, .bool true)]) ?_ ?_
      · refine QRun_b [.bool true] 0 _ (by kernel_rfl) (fun w => by kernel_rfl) ?_
        exact QRun_done [4] (by kernel_rfl) (by kernel_rfl)
      have hF := M.ret_some hF
      subst hF
      have H5 : Hold h h2 [] := H2.pick [] (by kernel_rfl)
      exact Run_ret1 rfl (ResV_tmp (v := .bool true) (by kernel_rfl)) ⟨rfl, H5⟩

set_option maxRecDepth 100000 in
set_option maxHeartbeats 4000000 in
theorem w_laws_eqInt64S (h : Heap) (a_ : List Int) {Sa_ : Bs} (aa_ : Option Addr) (ca_ : Nat) (ra_ : Rd cd2 h Sa_ aa_ ca_ a_) (b : List Int) {Sb : Bs} (ab : Option Addr) (cb : Nat) (rb : Rd cd2 h Sb ab cb b) (n : Nat) (r : Bool) (hF : laws_eqInt64S a_ b n = some r) :
    Fn Try.prog 16 #[.slice aa_ a_.length ca_, .slice ab b.length cb] h fun v h' => v = .bool r ∧ h' = h := by
  unfold laws_eqInt64S at hF
  refine Fn_enter (args := [.slice aa_ a_.length ca_, .slice ab b.length cb]) Try.func16 rfl (by kernel_rfl) (by kernel_rfl) (fun w0 _ => ?_)
  refine Run_seq ?_
  refine Run_reg 1 (by kernel_rfl) (L' := [(0, .slice aa_ a_.length ca_), (1, .slice ab b.length cb)]) ?_ ?_
  · refine QRun_b [.bool false] 0 _ (by kernel_rfl) (fun w => by kernel_rfl) ?_
    exact QRun_done [0, 1] (by kernel_rfl) (by kernel_rfl)
  refine Run_seq ?_
  refine Run_seq ?_
  refine Run_reg 5 (by kernel_rfl) (L' := [(0, .slice aa_ a_.length ca_), (1, .slice ab b.length cb), (10, .bool ((a_.length : Int) != (b.length : Int)))]) ?_ ?_
  · refine QRun_b [.slice aa_ a_.length ca_, .int .i64 (a_.length : Int), .slice ab b.length cb, .int .i64 (b.length : Int), .bool ((a_.length : Int) != (b.length : Int))] 0 _ (by kernel_rfl) (fun w => by kernel_rfl) ?_
    exact QRun_done [0, 1, 10] (by kernel_rfl) (by kernel_rfl)
  refine Run_cond (b := (a_.length : Int) != (b.length : Int)) (by kernel_rfl) (fun hb1 => ?_) (fun hb1 => ?_)
  · have hF := (M.ite_some hF).1 hb1
    refine Run_seq ?_
    refine Run_reg 1 (by kernel_rfl) (L' := [(4, .bool false)]) ?_ ?_
    · refine QRun_b [.bool false] 0 _ (by kernel_rfl) (fun w => by kernel_rfl) ?_
      exact QRun_done [4] (by kernel_rfl) (by kernel_rfl)
    have hF := M.ret_some hF
    subst hF
    exact Run_ret1 rfl (ResV_tmp (v := .bool false) (by kernel_rfl)) ⟨rfl, rfl⟩
  · have hF := (M.ite_some hF).2 hb1
    refine Run_skip ?_
    refine Run_seq ?_
    refine Run_seq ?_
    refine Run_reg 1 (by kernel_rfl) (L' := [(0, .slice aa_ a_.length ca_), (1, .slice ab b.length cb), (5, .int .i64 0)]) ?_ ?_
    · refine QRun_b [.int .i64 0] 0 _ (by kernel_rfl) (fun w => by kernel_rfl) ?_
      exact QRun_done [0, 1, 5] (by kernel_rfl) (by kernel_rfl)
    obtain ⟨x1, gx1, hF⟩ := M.bind_some hF
    obtain ⟨hloy1, hhiy1, gx1⟩ := M.for_start gx1
    refine Run_join (fun L' h' => ∃ (s2 : Unit), x1 = .inl s2 ∧ L' = [] ∧ h = h') ?_ ?_
    · rintro _ _ ⟨s2, es2, rfl, rfl⟩
      have hF := M.cont_inl' hF es2
      refine Run_seq ?_
      refine Run_reg 1 (by kernel_rfl) (L' := [(4, .bool true)]) ?_ ?_
      · refine QRun_b [.bool true] 0 _ (by kernel_rfl) (fun w => by kernel_rfl) ?_
        exact QRun_done [4] (by kernel_rfl) (by kernel_rfl)
      have hF := M.ret_some hF
      subst hF
      exact Run_ret1 rfl (ResV_tmp (v := .bool true) (by kernel_rfl)) ⟨rfl, rfl⟩
    · refine Run_block ?_
      refine Run_keep [0, 1, 5] (L' := [(0, .slice aa_ a_.length ca_), (1, .slice ab b.length cb), (5, .int .i64 0)]) (by kernel_rfl) ?_
      refine Run_loop (fun m L' h' => ∃ (i1 : Int) (s1 : Unit), 0 ≤ i1 ∧ M.forN (a_.length : Int) _ _ n m i1 s1 = some x1 ∧ L' = [(0, .slice aa_ a_.length ca_), (1, .slice ab b.length cb), (5, .int .i64 i1)] ∧ h = h') ((a_.length : Int) - 0 : Int).toNat ⟨0, (), Int.le_refl _, gx1, rfl, rfl⟩ ?_
      rintro my1 _ _ ⟨i1, s1, hloy1', gx1, rfl, rfl⟩
      refine Run_seq ?_
      refine Run_seq ?_
      refine Run_reg 4 (by kernel_rfl) (L' := [(0, .slice aa_ a_.length ca_), (1, .slice ab b.length cb), (5, .int .i64 i1), (14, .bool (decide (i1 < (a_.length : Int))))]) ?_ ?_
      · refine QRun_b [.int .i64 i1, .slice aa_ a_.length ca_, .int .i64 (a_.length : Int), .bool (decide (i1 < (a_.length : Int)))] 0 _ (by kernel_rfl) (fun w => by kernel_rfl) ?_
        exact QRun_done [0, 1, 5, 14] (by kernel_rfl) (by kernel_rfl)
      refine Run_cond (b := decide (i1 < (a_.length : Int))) (by kernel_rfl) (fun hb2 => ?_) (fun hb2 => ?_)
      · obtain ⟨my1, y1, rfl, hB1, hgoy1, houty1⟩ := M.for_go gx1 hb2
        have hlty1 := of_decide_eq_true hb2
        refine Run_skip ?_
        refine Run_seq ?_
        refine Run_block ?_
        refine Run_seq ?_
        obtain ⟨x2, hx1, hB1⟩ := M.bind_some hB1
        obtain ⟨hx1l, hx1u, hx1⟩ := M.idx_some hx1
        obtain ⟨x3, hx2, hB1⟩ := M.bind_some hB1
        obtain ⟨hx2l, hx2u, hx2⟩ := M.idx_some hx2
        refine Run_draw 9 mixed (by kernel_rfl) (by kernel_rfl) (L' := [(0, .slice aa_ a_.length ca_), (1, .slice ab b.length cb), (5, .int .i64 i1), (25, .bool (x2 != x3))]) ?_ ?_
        · refine QRun_b [.slice aa_ a_.length ca_, .int .i64 i1] 0 _ (by kernel_rfl) (fun w => by kernel_rfl) ?_
          refine QRun_y (.pointer (some (adr aa_ (i1.toNat * 1)))) (by kernel_rfl) (Y_idx (t := 23) (e := 2) (sz := 1) (a := aa_) (n := a_.length) (cap := ca_) (kk := .i64) (i := i1) (by kernel_rfl) Try.underlying23 (by kernel_rfl) (ra_.cell hx1).1 hx1l hx1u) ?_
          refine QRun_y (.int .i64 x2) (by kernel_rfl) (Y_load1 (t := 2) (p := adr aa_ (i1.toNat * 1)) (v := .int .i64 x2) (by kernel_rfl) (fun w => by kernel_rfl) (cd2_cell ra_ hx1)) ?_
          refine QRun_b [.slice ab b.length cb, .int .i64 i1] 4 _ (by kernel_rfl) (fun w => by kernel_rfl) ?_
          refine QRun_y (.pointer (some (adr ab (i1.toNat * 1)))) (by kernel_rfl) (Y_idx (t := 23) (e := 2) (sz := 1) (a := ab) (n := b.length) (cap := cb) (kk := .i64) (i := i1) (by kernel_rfl) Try.underlying23 (by kernel_rfl) (rb.cell hx2).1 hx2l hx2u) ?_
          refine QRun_y (.int .i64 x3) (by kernel_rfl) (Y_load1 (t := 2) (p := adr ab (i1.toNat * 1)) (v := .int .i64 x3) (by kernel_rfl) (fun w => by kernel_rfl) (cd2_cell rb hx2)) ?_
          refine QRun_b [.bool (x2 != x3)] 8 _ (by kernel_rfl) (fun w => by kernel_rfl) ?_
          exact QRun_done [0, 1, 5, 25] (by kernel_rfl) (by kernel_rfl)
        refine Run_cond (b := x2 != x3) (by kernel_rfl) (fun hb3 => ?_) (fun hb3 => ?_)
        · have hB1 := (M.ite_some hB1).1 hb3
          refine Run_seq ?_
          refine Run_reg 1 (by kernel_rfl) (L' := [(4, .bool false)]) ?_ ?_
          · refine QRun_b [.bool false] 0 _ (by kernel_rfl) (fun w => by kernel_rfl) ?_
            exact QRun_done [4] (by kernel_rfl) (by kernel_rfl)
          have hB1 := M.ret_some hB1
          have gx1 := houty1 _ hB1.symm
          have hF := M.cont_inr' hF gx1
          have hF := M.ret_some hF
          subst hF
          exact Run_ret1 rfl (ResV_tmp (v := .bool false) (by kernel_rfl)) ⟨rfl, rfl⟩
        · have hB1 := (M.ite_some hB1).2 hb3
          refine Run_skip ?_
          refine Run_blk ?_
          refine Run_reg 3 (by kernel_rfl) (L' := [(0, .slice aa_ a_.length ca_), (1, .slice ab b.length cb), (5, .int .i64 (i1 + 1))]) ?_ ?_
          · refine QRun_b [.int .i64 i1] 0 _ (by kernel_rfl) (fun w => by kernel_rfl) ?_
            refine QRun_y (.int .i64 (i1 + 1)) (by kernel_rfl) (Y_eq (v := .int .i64 (w64 (i1 + 1))) (Y_pure (fun w => by kernel_rfl)) (by rw [w64_eq _ (by omega)])) ?_
            refine QRun_b [.int .i64 (i1 + 1)] 2 _ (by kernel_rfl) (fun w => by kernel_rfl) ?_
            exact QRun_done [0, 1, 5] (by kernel_rfl) (by kernel_rfl)
          have hB1 := M.ret_some hB1
          have gx1 := hgoy1 _ hB1.symm
          exact Run_again [0, 1, 5] (by kernel_rfl) my1 (Nat.lt_succ_self _) ⟨i1 + 1, (), by omega, gx1, rfl, rfl⟩
      · have gx1 := M.for_end gx1 hb2
        subst gx1
        refine Run_exit (k' := _) rfl ?_
        exact Run_fall [] (by kernel_rfl) ⟨(), rfl, rfl, rfl⟩

set_option maxRecDepth 100000 in
set_option maxHeartbeats 4000000 in
theorem w_laws_eqInt64SS (h : Heap) (a_ : List (List Int)) {Sa_ : Bs} (aa_ : Option Addr) (ca_ : Nat) (ra_ : Rd cd23 h Sa_ aa_ ca_ a_) (b : List (List Int)) {Sb : Bs} (ab : Option Addr) (cb : Nat) (rb : Rd cd23 h Sb ab cb b) (n : Nat) (r : Bool) (hF : laws_eqInt64SS a_ b n = some r) :
    Fn Try.prog 15 #[.slice aa_ a_.length ca_, .slice ab b.length cb] h fun v h' => v = .bool r ∧ h' = h := by
  unfold laws_eqInt64SS at hF
  refine Fn_enter (args := [.slice aa_ a_.length ca_, .slice ab b.length cb]) Try.func15 rfl (by kernel_rfl) (by kernel_rfl) (fun w0 _ => ?_)
  refine Run_seq ?_
  refine Run_reg 1 (by kernel_rfl) (L' := [(0, .slice aa_ a_.length ca_), (1, .slice ab b.length cb)]) ?_ ?_
  · refine QRun_b [.bool false] 0 _ (by kernel_rfl) (fun w => by kernel_rfl) ?_
    exact QRun_done [0, 1] (by kernel_rfl) (by kernel_rfl)
  refine Run_seq ?_
  refine Run_seq ?_
  refine Run_reg 5 (by kernel_rfl) (L' := [(0, .slice aa_ a_.length ca_), (1, .slice ab b.length cb), (10, .bool ((a_.length : Int) != (b.length : Int)))]) ?_ ?_
  · refine QRun_b [.slice aa_ a_.length ca_, .int .i64 (a_.length : Int), .slice ab b.length cb, .int .i64 (b.length : Int), .bool ((a_.length : Int) != (b.length : Int))] 0 _ (by kernel_rfl) (fun w => by kernel_rfl) ?_
    exact QRun_done [0, 1, 10] (by kernel_rfl) (by kernel_rfl)
  refine Run_cond (b := (a_.length : Int) != (b.length : Int)) (by kernel_rfl) (fun hb1 => ?_) (fun hb1 => ?_)
  · have hF := (M.ite_some hF).1 hb1
    refine Run_seq ?_
    refine Run_reg 1 (by kernel_rfl) (L' := [(4, .bool false)]) ?_ ?_
    · refine QRun_b [.bool false] 0 _ (by kernel_rfl) (fun w => by kernel_rfl) ?_
      exact QRun_done [4] (by kernel_rfl) (by kernel_rfl)
    have hF := M.ret_some hF
    subst hF
    exact Run_ret1 rfl (ResV_tmp (v := .bool false) (by kernel_rfl)) ⟨rfl, rfl⟩
  · have hF := (M.ite_some hF).2 hb1
    refine Run_skip ?_
    refine Run_seq ?_
    refine Run_seq ?_
    refine Run_reg 1 (by kernel_rfl) (L' := [(0, .slice aa_ a_.length ca_), (1, .slice ab b.length cb), (5, .int .i64 0)]) ?_ ?_
    · refine QRun_b [.int .i64 0] 0 _ (by kernel_rfl) (fun w => by kernel_rfl) ?_
      exact QRun_done [0, 1, 5] (by kernel_rfl) (by kernel_rfl)
    obtain ⟨x1, gx1, hF⟩ := M.bind_some hF
    obtain ⟨hloy1, hhiy1, gx1⟩ := M.for_start gx1
    refine Run_join (fun L' h' => ∃ (s2 : Unit), x1 = .inl s2 ∧ L' = [] ∧ h = h') ?_ ?_
    · rintro _ _ ⟨s2, es2, rfl, rfl⟩
      have hF := M.cont_inl' hF es2
      refine Run_seq ?_
      refine Run_reg 1 (by kernel_rfl) (L' := [(4, .bool true)]) ?_ ?_
      · refine QRun_b [.bool true] 0 _ (by kernel_rfl) (fun w => by kernel_rfl) ?_
        exact QRun_done [4] (by kernel_rfl) (by kernel_rfl)
      have hF := M.ret_some hF
      subst hF
      exact Run_ret1 rfl (ResV_tmp (v := .bool true) (by kernel_rfl)) ⟨rfl, rfl⟩
    · refine Run_block ?_
      refine Run_keep [0, 1, 5] (L' := [(0, .slice aa_ a_.length ca_), (1, .slice ab b.length cb), (5, .int .i64 0)]) (by kernel_rfl) ?_
      refine Run_loop (fun m L' h' => ∃ (i1 : Int) (s1 : Unit), 0 ≤ i1 ∧ M.forN (a_.length : Int) _ _ n m i1 s1 = some x1 ∧ L' = [(0, .slice aa_ a_.length ca_), (1, .slice ab b.length cb), (5, .int .i64 i1)] ∧ h = h') ((a_.length : Int) - 0 : Int).toNat ⟨0, (), Int.le_refl _, gx1, rfl, rfl⟩ ?_
      rintro my1 _ _ ⟨i1, s1, hloy1', gx1, rfl, rfl⟩
      refine Run_seq ?_
      refine Run_seq ?_
      refine Run_reg 4 (by kernel_rfl) (L' := [(0, .slice aa_ a_.length ca_), (1, .slice ab b.length cb), (5, .int .i64 i1), (14, .bool (decide (i1 < (a_.length : Int))))]) ?_ ?_
      · refine QRun_b [.int .i64 i1, .slice aa_ a_.length ca_, .int .i64 (a_.length : Int), .bool (decide (i1 < (a_.length : Int)))] 0 _ (by kernel_rfl) (fun w => by kernel_rfl) ?_
        exact QRun_done [0, 1, 5, 14] (by kernel_rfl) (by kernel_rfl)
      refine Run_cond (b := decide (i1 < (a_.length : Int))) (by kernel_rfl) (fun hb2 => ?_) (fun hb2 => ?_)
      · obtain ⟨my1, y1, rfl, hB1, hgoy1, houty1⟩ := M.for_go gx1 hb2
        have hlty1 := of_decide_eq_true hb2
        refine Run_skip ?_
        refine Run_seq ?_
        refine Run_block ?_
        refine Run_seq ?_
        obtain ⟨x2, hx1, hB1⟩ := M.bind_some hB1
        obtain ⟨hx1l, hx1u, hx1⟩ := M.idx_some hx1
        obtain ⟨a1, c1, hc1, r1⟩ := ra_.row hx1
        obtain ⟨x3, hx2, hB1⟩ := M.bind_some hB1
        obtain ⟨hx2l, hx2u, hx2⟩ := M.idx_some hx2
        obtain ⟨a2, c2, hc2, r2⟩ := rb.row hx2
        obtain ⟨x4, hx3, hB1⟩ := M.bind_some hB1
        refine Run_draw 10 mixed (by kernel_rfl) (by kernel_rfl) (L' := [(0, .slice aa_ a_.length ca_), (1, .slice ab b.length cb), (5, .int .i64 i1), (26, .bool (!x4))]) ?_ ?_
        · refine QRun_b [.slice aa_ a_.length ca_, .int .i64 i1] 0 _ (by kernel_rfl) (fun w => by kernel_rfl) ?_
          refine QRun_y (.pointer (some (adr aa_ (i1.toNat * 1)))) (by kernel_rfl) (Y_idx (t := 22) (e := 23) (sz := 1) (a := aa_) (n := a_.length) (cap := ca_) (kk := .i64) (i := i1) (by kernel_rfl) Try.underlying22 (by kernel_rfl) (ra_.cell hx1).1 hx1l hx1u) ?_
          refine QRun_y (.slice a1 x2.length c1) (by kernel_rfl) (Y_load1 (t := 23) (p := adr aa_ (i1.toNat * 1)) (v := .slice a1 x2.length c1) (by kernel_rfl) (fun w => by kernel_rfl) hc1) ?_
          refine QRun_b [.slice ab b.length cb, .int .i64 i1] 4 _ (by kernel_rfl) (fun w => by kernel_rfl) ?_
          refine QRun_y (.pointer (some (adr ab (i1.toNat * 1)))) (by kernel_rfl) (Y_idx (t := 22) (e := 23) (sz := 1) (a := ab) (n := b.length) (cap := cb) (kk := .i64) (i := i1) (by kernel_rfl) Try.underlying22 (by kernel_rfl) (rb.cell hx2).1 hx2l hx2u) ?_
          refine QRun_y (.slice a2 x3.length c2) (by kernel_rfl) (Y_load1 (t := 23) (p := adr ab (i1.toNat * 1)) (v := .slice a2 x3.length c2) (by kernel_rfl) (fun w => by kernel_rfl) hc2) ?_
          refine QRun_y (.bool x4) (by kernel_rfl) (Y_callq (f := 16) (args := #[.slice a1 x2.length c1, .slice a2 x3.length c2]) (v := .bool x4) (by kernel_rfl) (w_laws_eqInt64S h x2 a1 c1 r1 x3 a2 c2 r2 _ _ hx3)) ?_
          refine QRun_b [.bool (!x4)] 9 _ (by kernel_rfl) (fun w => by kernel_rfl) ?_
          exact QRun_done [0, 1, 5, 26] (by kernel_rfl) (by kernel_rfl)
        refine Run_cond (b := !x4) (by kernel_rfl) (fun hb3 => ?_) (fun hb3 => ?_)
        · have hB1 := (M.ite_some hB1).1 hb3
          refine Run_seq ?_
          refine Run_reg 1 (by kernel_rfl) (L' := [(4, .bool false)]) ?_ ?_
          · refine QRun_b [.bool false] 0 _ (by kernel_rfl) (fun w => by kernel_rfl) ?_
            exact QRun_done [4] (by kernel_rfl) (by kernel_rfl)
          have hB1 := M.ret_some hB1
          have gx1 := houty1 _ hB1.symm
          have hF := M.cont_inr' hF gx1
          have hF := M.ret_some hF
          subst hF
          exact Run_ret1 rfl (ResV_tmp (v := .bool false) (by kernel_rfl)) ⟨rfl, rfl⟩
        · have hB1 := (M.ite_some hB1).2 hb3
          refine Run_skip ?_
          refine Run_blk ?_
          refine Run_reg 3 (by kernel_rfl) (L' := [(0, .slice aa_ a_.length ca_), (1, .slice ab b.length cb), (5, .int .i64 (i1 + 1))]) ?_ ?_
          · refine QRun_b [.int .i64 i1] 0 _ (by kernel_rfl) (fun w => by kernel_rfl) ?_
            refine QRun_y (.int .i64 (i1 + 1)) (by kernel_rfl) (Y_eq (v := .int .i64 (w64 (i1 + 1))) (Y_pure (fun w => by kernel_rfl)) (by rw [w64_eq _ (by omega)])) ?_
            refine QRun_b [.int .i64 (i1 + 1)] 2 _ (by kernel_rfl) (fun w => by kernel_rfl) ?_
            exact QRun_done [0, 1, 5] (by kernel_rfl) (by kernel_rfl)
          have hB1 := M.ret_some hB1
          have gx1 := hgoy1 _ hB1.symm
          exact Run_again [0, 1, 5] (by kernel_rfl) my1 (Nat.lt_succ_self _) ⟨i1 + 1, (), by omega, gx1, rfl, rfl⟩
      · have gx1 := M.for_end gx1 hb2
        subst gx1
        refine Run_exit (k' := _) rfl ?_
        exact Run_fall [] (by kernel_rfl) ⟨(), rfl, rfl, rfl⟩

set_option maxRecDepth 100000 in
set_option maxHeartbeats 4000000 in
theorem w_laws_FnExactOrbitRate (h : Heap) (aA : List (List Int)) (aaA : Option Addr) (caA : Nat) (raA : Rd cd23 h (Lt h) aaA caA aA) (aX : List Int) (aaX : Option Addr) (caX : Nat) (raX : Rd cd2 h (Lt h) aaX caX aX) (n : Nat) (r : Bool) (hF : laws_FnExactOrbitRate aA aX n = some r) :
    Fn Try.prog 3 #[.slice aaA aA.length caA, .slice aaX aX.length caX] h fun v h' => v = .bool r ∧ Hold h h' [] := by
  unfold laws_FnExactOrbitRate at hF
  refine Fn_enter (args := [.slice aaA aA.length caA, .slice aaX aX.length caX]) Try.func3 rfl (by kernel_rfl) (by kernel_rfl) (fun w0 _ => ?_)
  have H0 := Hold.init h
  refine Run_seq ?_
  refine Run_reg 1 (by kernel_rfl) (L' := [(0, .slice aaA aA.length caA), (1, .slice aaX aX.length caX)]) ?_ ?_
  · refine QRun_b [.bool false] 0 _ (by kernel_rfl) (fun w => by kernel_rfl) ?_
    exact QRun_done [0, 1] (by kernel_rfl) (by kernel_rfl)
  refine Run_seq ?_
  refine Run_seq ?_
  refine Run_reg 3 (by kernel_rfl) (L' := [(0, .slice aaA aA.length caA), (1, .slice aaX aX.length caX), (14, .bool (decide (1048576 < (aX.length : Int))))]) ?_ ?_
  · refine QRun_b [.slice aaX aX.length caX, .int .i64 (aX.length : Int), .bool (decide (1048576 < (aX.length : Int)))] 0 _ (by kernel_rfl) (fun w => by kernel_rfl) ?_
    exact QRun_done [0, 1, 14] (by kernel_rfl) (by kernel_rfl)
  refine Run_cond (b := decide (1048576 < (aX.length : Int))) (by kernel_rfl) (fun hb1 => ?_) (fun hb1 => ?_)
  · have hF := (M.ite_some hF).1 hb1
    refine Run_seq ?_
    refine Run_reg 1 (by kernel_rfl) (L' := [(4, .bool true)]) ?_ ?_
    · refine QRun_b [.bool true] 0 _ (by kernel_rfl) (fun w => by kernel_rfl) ?_
      exact QRun_done [4] (by kernel_rfl) (by kernel_rfl)
    have hF := M.ret_some hF
    subst hF
    exact Run_ret1 rfl (ResV_tmp (v := .bool true) (by kernel_rfl)) ⟨rfl, H0⟩
  · have hF := (M.ite_some hF).2 hb1
    refine Run_skip ?_
    refine Run_seq ?_
    refine Run_reg 1 (by kernel_rfl) (L' := [(0, .slice aaA aA.length caA), (1, .slice aaX aX.length caX), (5, .int .i64 1048576)]) ?_ ?_
    · refine QRun_b [.int .i64 1048576] 0 _ (by kernel_rfl) (fun w => by kernel_rfl) ?_
      exact QRun_done [0, 1, 5] (by kernel_rfl) (by kernel_rfl)
    refine Run_seq ?_
    obtain ⟨x1, hx1, hF⟩ := M.bind_some hF
    refine Run_reg 4 (by kernel_rfl) (L' := [(0, .slice aaA aA.length caA), (1, .slice aaX aX.length caX), (5, .int .i64 x1)]) ?_ ?_
    · refine QRun_b [.slice aaA aA.length caA, .int .i64 1048576] 0 _ (by kernel_rfl) (fun w => by kernel_rfl) ?_
      refine QRun_y (.int .i64 x1) (by kernel_rfl) (Y_callq (f := 9) (args := #[.slice aaA aA.length caA, .int .i64 1048576]) (v := .int .i64 x1) (by kernel_rfl) (w_laws_szInt64SS h aA aaA caA raA 1048576 _ _ hx1)) ?_
      refine QRun_b [.int .i64 x1] 3 _ (by kernel_rfl) (fun w => by kernel_rfl) ?_
      exact QRun_done [0, 1, 5] (by kernel_rfl) (by kernel_rfl)
    refine Run_seq ?_
    refine Run_seq ?_
    refine Run_reg 2 (by kernel_rfl) (L' := [(0, .slice aaA aA.length caA), (1, .slice aaX aX.length caX), (19, .bool (decide (x1 < 0)))]) ?_ ?_
    · refine QRun_b [.int .i64 x1, .bool (decide (x1 < 0))] 0 _ (by kernel_rfl) (fun w => by kernel_rfl) ?_
      exact QRun_done [0, 1, 19] (by kernel_rfl) (by kernel_rfl)
    refine Run_cond (b := decide (x1 < 0)) (by kernel_rfl) (fun hb2 => ?_) (fun hb2 => ?_)
    · have hF := (M.ite_some hF).1 hb2
      refine Run_seq ?_
      refine Run_reg 1 (by kernel_rfl) (L' := [(4, .bool true)]) ?_ ?_
      · refine QRun_b [.bool true] 0 _ (by kernel_rfl) (fun w => by kernel_rfl) ?_
        exact QRun_done [4] (by kernel_rfl) (by kernel_rfl)
      have hF := M.ret_some hF
      subst hF
      exact Run_ret1 rfl (ResV_tmp (v := .bool true) (by kernel_rfl)) ⟨rfl, H0⟩
    · have hF := (M.ite_some hF).2 hb2
      refine Run_skip ?_
      refine Run_seq ?_
      refine Run_ops ?_
      refine Run_b [.slice aaA aA.length caA] 0 _ (by kernel_rfl) (fun w => by kernel_rfl) ?_
      obtain ⟨x2, hx2, hF⟩ := M.bind_some hF
      refine Run_E (by kernel_rfl) ?_
      refine E_call (f := 11) (args := #[.slice aaA aA.length caA]) (w_laws_toInt64SS h aA aaA caA raA _ _ hx2) (by kernel_rfl) (fun v1 h1 hp1 => ?_)
      obtain ⟨a1, c1, rfl, H1⟩ := hp1
      have H2 : Hold h h1 [own cd23 a1 x2.length c1 x2] := H0.call H1 rfl
      refine Run_b [.slice aaX aX.length caX] 2 _ (by kernel_rfl) (fun w => by kernel_rfl) ?_
      obtain ⟨x3, hx3, hF⟩ := M.bind_some hF
      refine Run_E (by kernel_rfl) ?_
      refine E_call (f := 12) (args := #[.slice aaX aX.length caX]) (w_laws_toInt64S h1 aX aaX caX (raX.at H2.ext) _ _ hx3) (by kernel_rfl) (fun v2 h2 hp2 => ?_)
      obtain ⟨a2, c2, rfl, H3⟩ := hp2
      have H4 : Hold h h2 [own cd2 a2 x3.length c2 x3, own cd23 a1 x2.length c1 x2] := H2.call H3 rfl
      obtain ⟨x4, hx4, hF⟩ := M.bind_some hF
      refine Run_E (by kernel_rfl) ?_
      refine E_call (f := 10) (args := #[.slice a1 x2.length c1, .slice a2 x3.length c2]) (w_spec_OrbitRate h2 x2 a1 c1 (H4.rd 1 rfl) x3 a2 c2 (H4.rd 0 rfl) _ _ hx4) (by kernel_rfl) (fun v3 h3 hp3 => ?_)
      obtain ⟨rfl, H5⟩ := hp3
      have H6 : Hold h h3 [own cd2 a2 x3.length c2 x3, own cd23 a1 x2.length c1 x2] := H4.call H5 rfl
      refine Run_b [.tuple #[.agg #[.int .i64 x4.1.Num, .int .i64 x4.1.Den], .int .i64 x4.2], .agg #[.int .i64 x4.1.Num, .int .i64 x4.1.Den], .int .i64 x4.2] 5 _ (by kernel_rfl) (fun w => by kernel_rfl) ?_
      refine Run_E (by kernel_rfl) ?_
      refine E_box (ty := 26) (cs := [.int .i64 0, .int .i64 0]) H6 (fun w => by kernel_rfl) (fun b1 h4 H7 => ?_)
      refine Run_E (by kernel_rfl) ?_
      refine E_bput (t := 26) (off := 0) (us := [.int .i64 x4.1.Num, .int .i64 x4.1.Den]) (v := .agg #[.int .i64 x4.1.Num, .int .i64 x4.1.Den]) H7 (by kernel_rfl) (by kernel_rfl) rfl (by kernel_rfl) rfl (fun h5 H8 => ?_)
      refine Run_b [.int .i64 x4.2] 10 _ (by kernel_rfl) (fun w => by kernel_rfl) ?_
      refine Run_nil (by kernel_rfl) ?_
      refine Run_keep [0, 1, 6, 7] (L' := [(0, .slice aaA aA.length caA), (1, .slice aaX aX.length caX), (6, .pointer (some ⟨b1, 0, none⟩)), (7, .int .i64 x4.2)]) (by kernel_rfl) ?_
      refine Run_seq ?_
      refine Run_ops ?_
      refine Run_b [.slice aaA aA.length caA] 0 _ (by kernel_rfl) (fun w => by kernel_rfl) ?_
      obtain ⟨x5, hx5, hF⟩ := M.bind_some hF
      refine Run_E (by kernel_rfl) ?_
      refine E_call (f := 11) (args := #[.slice aaA aA.length caA]) (w_laws_toInt64SS h5 aA aaA caA (raA.at H8.ext) _ _ hx5) (by kernel_rfl) (fun v4 h6 hp4 => ?_)
      obtain ⟨a3, c3, rfl, H9⟩ := hp4
      have H10 : Hold h h6 [own cd23 a3 x5.length c3 x5, box b1 26 [.int .i64 x4.1.Num, .int .i64 x4.1.Den], own cd2 a2 x3.length c2 x3, own cd23 a1 x2.length c1 x2] := H8.call H9 rfl
      refine Run_b [.slice a3 x5.length c3] 2 _ (by kernel_rfl) (fun w => by kernel_rfl) ?_
      refine Run_nil (by kernel_rfl) ?_
      refine Run_keep [0, 1, 6, 7, 8] (L' := [(0, .slice aaA aA.length caA), (1, .slice aaX aX.length caX), (6, .pointer (some ⟨b1, 0, none⟩)), (7, .int .i64 x4.2), (8, .slice a3 x5.length c3)]) (by kernel_rfl) ?_
      refine Run_seq ?_
      refine Run_ops ?_
      refine Run_b [.slice aaX aX.length caX] 0 _ (by kernel_rfl) (fun w => by kernel_rfl) ?_
      obtain ⟨x6, hx6, hF⟩ := M.bind_some hF
      refine Run_E (by kernel_rfl) ?_
      refine E_call (f := 12) (args := #[.slice aaX aX.length caX]) (w_laws_toInt64S h6 aX aaX caX (raX.at H10.ext) _ _ hx6) (by kernel_rfl) (fun v5 h7 hp5 => ?_)
      obtain ⟨a4, c4, rfl, H11⟩ := hp5
      have H12 : Hold h h7 [own cd2 a4 x6.length c4 x6, own cd23 a3 x5.length c3 x5, box b1 26 [.int .i64 x4.1.Num, .int .i64 x4.1.Den], own cd2 a2 x3.length c2 x3, own cd23 a1 x2.length c1 x2] := H10.call H11 rfl
      refine Run_b [.slice a4 x6.length c4] 2 _ (by kernel_rfl) (fun w => by kernel_rfl) ?_
      refine Run_nil (by kernel_rfl) ?_
      refine Run_keep [0, 1, 6, 7, 8, 9] (L' := [(0, .slice aaA aA.length caA), (1, .slice aaX aX.length caX), (6, .pointer (some ⟨b1, 0, none⟩)), (7, .int .i64 x4.2), (8, .slice a3 x5.length c3), (9, .slice a4 x6.length c4)]) (by kernel_rfl) ?_
      refine Run_seq ?_
      refine Run_ops ?_
      refine Run_b [.slice a3 x5.length c3, .slice a4 x6.length c4] 0 _ (by kernel_rfl) (fun w => by kernel_rfl) ?_
      obtain ⟨x7, hx7, hF⟩ := M.bind_some hF
      refine Run_E (by kernel_rfl) ?_
      refine E_call (f := 13) (args := #[.slice a3 x5.length c3, .slice a4 x6.length c4]) (w_impl_OrbitRate h7 x5 a3 c3 (H12.rd 1 rfl) x6 a4 c4 (H12.rd 0 rfl) _ _ hx7) (by kernel_rfl) (fun v6 h8 hp6 => ?_)
      obtain ⟨rfl, H13⟩ := hp6
      have H14 : Hold h h8 [own cd2 a4 x6.length c4 x6, own cd23 a3 x5.length c3 x5, box b1 26 [.int .i64 x4.1.Num, .int .i64 x4.1.Den], own cd2 a2 x3.length c2 x3, own cd23 a1 x2.length c1 x2] := H12.call H13 rfl
      refine Run_b [.tuple #[.agg #[.int .i64 x7.1.Num, .int .i64 x7.1.Den], .int .i64 x7.2], .agg #[.int .i64 x7.1.Num, .int .i64 x7.1.Den], .int .i64 x7.2] 3 _ (by kernel_rfl) (fun w => by kernel_rfl) ?_
      refine Run_E (by kernel_rfl) ?_
      refine E_box (ty := 26) (cs := [.int .i64 0, .int .i64 0]) H14 (fun w => by kernel_rfl) (fun b2 h9 H15 => ?_)
      refine Run_E (by kernel_rfl) ?_
      refine E_bput (t := 26) (off := 0) (us := [.int .i64 x7.1.Num, .int .i64 x7.1.Den]) (v := .agg #[.int .i64 x7.1.Num, .int .i64 x7.1.Den]) H15 (by kernel_rfl) (by kernel_rfl) rfl (by kernel_rfl) rfl (fun h10 H16 => ?_)
      refine Run_b [.int .i64 x7.2] 8 _ (by kernel_rfl) (fun w => by kernel_rfl) ?_
      refine Run_nil (by kernel_rfl) ?_
      refine Run_keep [0, 1, 6, 7, 8, 9, 10, 11] (L' := [(0, .slice aaA aA.length caA), (1, .slice aaX aX.length caX), (6, .pointer (some ⟨b1, 0, none⟩)), (7, .int .i64 x4.2), (8, .slice a3 x5.length c3), (9, .slice a4 x6.length c4), (10, .pointer (some ⟨b2, 0, none⟩)), (11, .int .i64 x7.2)]) (by kernel_rfl) ?_
      refine Run_seq ?_
      refine Run_seq ?_
      obtain ⟨x8, hx8, hF⟩ := M.bind_some hF
      refine Run_regC (j := 9) (C := fun x => Hold h x [box b2 26 [.int .i64 x7.1.Num, .int .i64 x7.1.Den], own cd2 a4 x6.length c4 x6, own cd23 a3 x5.length c3 x5, box b1 26 [.int .i64 x4.1.Num, .int .i64 x4.1.Den], own cd2 a2 x3.length c2 x3, own cd23 a1 x2.length c1 x2]) (by kernel_rfl) H16 (L' := [(0, .slice aaA aA.length caA), (1, .slice aaX aX.length caX), (8, .slice a3 x5.length c3), (9, .slice a4 x6.length c4), (46, .bool ((!x8) || (x7.2 != x4.2)))]) ?_ (fun h11 H17 => ?_)
      · refine QRun_y (.agg #[.int .i64 x7.1.Num, .int .i64 x7.1.Den]) (by kernel_rfl) (Y_cls fun hx Hx => (Y_loadA (t := 26) (n := 2) (p := ⟨b2, 0, none⟩) (cs := [.int .i64 x7.1.Num, .int .i64 x7.1.Den]) (by kernel_rfl) (fun w => by kernel_rfl) (by kernel_rfl) rfl (Hx.cells (n := 2) (off := 0) 0 rfl rfl))) ?_
        refine QRun_y (.agg #[.int .i64 x4.1.Num, .int .i64 x4.1.Den]) (by kernel_rfl) (Y_cls fun hx Hx => (Y_loadA (t := 26) (n := 2) (p := ⟨b1, 0, none⟩) (cs := [.int .i64 x4.1.Num, .int .i64 x4.1.Den]) (by kernel_rfl) (fun w => by kernel_rfl) (by kernel_rfl) rfl (Hx.cells (n := 2) (off := 0) 3 rfl rfl))) ?_
        refine QRun_y (.bool x8) (by kernel_rfl) (Y_call (f := 14) (args := #[.agg #[.int .i64 x7.1.Num, .int .i64 x7.1.Den], .agg #[.int .i64 x4.1.Num, .int .i64 x4.1.Den]]) (v := .bool x8) (by kernel_rfl) fun hx Hx => (w_laws_eqRatio hx x7.1 x4.1 _ _ hx8).mono fun _ _ ⟨e, H'⟩ => ⟨e, Hx.call H' rfl⟩) ?_
        refine QRun_b [.bool (!x8)] 3 _ (by kernel_rfl) (fun w => by kernel_rfl) ?_
        refine QRun_seq 9 [(0, .slice aaA aA.length caA), (1, .slice aaX aX.length caX), (8, .slice a3 x5.length c3), (9, .slice a4 x6.length c4), (46, .bool ((!x8) || (x7.2 != x4.2)))] ?_ ?_
        · rcases Bool.eq_false_or_eq_true (!x8) with hb3 | hb3
          · refine QRun_bool (!x8) true (by kernel_rfl) (fun w => by kernel_rfl) hb3 ?_
            refine QRun_n (by kernel_rfl) ?_
            refine QRun_n (by kernel_rfl) ?_
            refine QRun_n (by kernel_rfl) ?_
            refine QRun_bool true ((!x8) || (x7.2 != x4.2)) (by kernel_rfl) (fun w => by kernel_rfl) (by rw [hb3]; rfl) ?_
            exact QRun_done [0, 1, 8, 9, 46] (by kernel_rfl) (by kernel_rfl)
          · refine QRun_bool (!x8) false (by kernel_rfl) (fun w => by kernel_rfl) hb3 ?_
            refine QRun_b [.int .i64 x7.2, .int .i64 x4.2, .bool (x7.2 != x4.2)] 5 _ (by kernel_rfl) (fun w => by kernel_rfl) ?_
            refine QRun_bool (x7.2 != x4.2) ((!x8) || (x7.2 != x4.2)) (by kernel_rfl) (fun w => by kernel_rfl) (by rw [hb3]; rfl) ?_
            exact QRun_done [0, 1, 8, 9, 46] (by kernel_rfl) (by kernel_rfl)
        exact QRun_done [0, 1, 8, 9, 46] (by kernel_rfl) (by kernel_rfl)
      have H18 : Hold h h11 [box b2 26 [.int .i64 x7.1.Num, .int .i64 x7.1.Den], own cd2 a4 x6.length c4 x6, own cd23 a3 x5.length c3 x5, box b1 26 [.int .i64 x4.1.Num, .int .i64 x4.1.Den], own cd2 a2 x3.length c2 x3, own cd23 a1 x2.length c1 x2] := H17
      refine Run_cond (b := (!x8) || (x7.2 != x4.2)) (by kernel_rfl) (fun hb4 => ?_) (fun hb4 => ?_)
      · have hF := (M.ite_some hF).1 hb4
        refine Run_seq ?_
        refine Run_reg 1 (by kernel_rfl) (L' := [(4, .bool false)]) ?_ ?_
        · refine QRun_b [.bool false] 0 _ (by kernel_rfl) (fun w => by kernel_rfl) ?_
          exact QRun_done [4] (by kernel_rfl) (by kernel_rfl)
        have hF := M.ret_some hF
        subst hF
        have H19 : Hold h h11 [] := H18.pick [] (by kernel_rfl)
        exact Run_ret1 rfl (ResV_tmp (v := .bool false) (by kernel_rfl)) ⟨rfl, H19⟩
      · have hF := (M.ite_some hF).2 hb4
        refine Run_skip ?_
        refine Run_seq ?_
        refine Run_seq ?_
        refine Run_ops ?_
        refine Run_b [.slice a3 x5.length c3, .slice aaA aA.length caA] 0 _ (by kernel_rfl) (fun w => by kernel_rfl) ?_
        obtain ⟨x10, hx9, hF⟩ := M.bind_some hF
        refine Run_E (by kernel_rfl) ?_
        refine E_call (f := 11) (args := #[.slice aaA aA.length caA]) (w_laws_toInt64SS h11 aA aaA caA (raA.at H18.ext) _ _ hx9) (by kernel_rfl) (fun v7 h12 hp7 => ?_)
        obtain ⟨a5, c5, rfl, H20⟩ := hp7
        have H21 : Hold h h12 [own cd23 a5 x10.length c5 x10, box b2 26 [.int .i64 x7.1.Num, .int .i64 x7.1.Den], own cd2 a4 x6.length c4 x6, own cd23 a3 x5.length c3 x5, box b1 26 [.int .i64 x4.1.Num, .int .i64 x4.1.Den], own cd2 a2 x3.length c2 x3, own cd23 a1 x2.length c1 x2] := H18.call H20 rfl
        obtain ⟨x11, hx10, hF⟩ := M.bind_some hF
        refine Run_y (.bool x11) (by kernel_rfl) (Y_callq (f := 15) (args := #[.slice a3 x5.length c3, .slice a5 x10.length c5]) (v := .bool x11) (by kernel_rfl) (w_laws_eqInt64SS h12 x5 a3 c3 (H21.rd 3 rfl) x10 a5 c5 (H21.rd 0 rfl) _ _ hx10)) ?_
        refine Run_b [.bool (!x11)] 4 _ (by kernel_rfl) (fun w => by kernel_rfl) ?_
        refine Run_nil (by kernel_rfl) ?_
        refine Run_keep [1, 9, 51] (L' := [(1, .slice aaX aX.length caX), (9, .slice a4 x6.length c4), (51, .bool (!x11))]) (by kernel_rfl) ?_
        refine Run_cond (b := !x11) (by kernel_rfl) (fun hb5 => ?_) (fun hb5 => ?_)
        · have hF := (M.ite_some hF).1 hb5
          refine Run_seq ?_
          refine Run_reg 1 (by kernel_rfl) (L' := [(4, .bool false)]) ?_ ?_
          · refine QRun_b [.bool false] 0 _ (by kernel_rfl) (fun w => by kernel_rfl) ?_
            exact QRun_done [4] (by kernel_rfl) (by kernel_rfl)
          have hF := M.ret_some hF
          subst hF
          have H22 : Hold h h12 [] := H21.pick [] (by kernel_rfl)
          exact Run_ret1 rfl (ResV_tmp (v := .bool false) (by kernel_rfl)) ⟨rfl, H22⟩
        · have hF := (M.ite_some hF).2 hb5
          refine Run_skip ?_
          refine Run_seq ?_
          refine Run_seq ?_
          refine Run_ops ?_
          refine Run_b [.slice a4 x6.length c4, .slice aaX aX.length caX] 0 _ (by kernel_rfl) (fun w => by kernel_rfl) ?_
          obtain ⟨x12, hx11, hF⟩ := M.bind_some hF
          refine Run_E (by kernel_rfl) ?_
          refine E_call (f := 12) (args := #[.slice aaX aX.length caX]) (w_laws_toInt64S h12 aX aaX caX (raX.at H21.ext) _ _ hx11) (by kernel_rfl) (fun v8 h13 hp8 => ?_)
          obtain ⟨a6, c6, rfl, H23⟩ := hp8
          have H24 : Hold h h13 [own cd2 a6 x12.length c6 x12, own cd23 a5 x10.length c5 x10, box b2 26 [.int .i64 x7.1.Num, .int .i64 x7.1.Den], own cd2 a4 x6.length c4 x6, own cd23 a3 x5.length c3 x5, box b1 26 [.int .i64 x4.1.Num, .int .i64 x4.1.Den], own cd2 a2 x3.length c2 x3, own cd23 a1 x2.length c1 x2] := H21.call H23 rfl
          obtain ⟨x13, hx12, hF⟩ := M.bind_some hF
          refine Run_y (.bool x13) (by kernel_rfl) (Y_callq (f := 16) (args := #[.slice a4 x6.length c4, .slice a6 x12.length c6]) (v := .bool x13) (by kernel_rfl) (w_laws_eqInt64S h13 x6 a4 c4 (H24.rd 3 rfl) x12 a6 c6 (H24.rd 0 rfl) _ _ hx12)) ?_
          refine Run_b [.bool (!x13)] 4 _ (by kernel_rfl) (fun w => by kernel_rfl) ?_
          refine Run_nil (by kernel_rfl) ?_
          refine Run_keep [56] (L' := [(56, .bool (!x13))]) (by kernel_rfl) ?_
          refine Run_cond (b := !x13) (by kernel_rfl) (fun hb6 => ?_) (fun hb6 => ?_)
          · have hF := (M.ite_some hF).1 hb6
            refine Run_seq ?_
            refine Run_reg 1 (by kernel_rfl) (L' := [(4, .bool false)]) ?_ ?_
            · refine QRun_b [.bool false] 0 _ (by kernel_rfl) (fun w => by kernel_rfl) ?_
              exact QRun_done [4] (by kernel_rfl) (by kernel_rfl)
            have hF := M.ret_some hF
            subst hF
            have H25 : Hold h h13 [] := H24.pick [] (by kernel_rfl)
            exact Run_ret1 rfl (ResV_tmp (v := .bool false) (by kernel_rfl)) ⟨rfl, H25⟩
          · have hF := (M.ite_some hF).2 hb6
            refine Run_skip ?_
            refine Run_seq ?_
            refine Run_reg 1 (by kernel_rfl) (L' := [(4, .bool true)]) ?_ ?_
            · refine QRun_b [.bool true] 0 _ (by kernel_rfl) (fun w => by kernel_rfl) ?_
              exact QRun_done [4] (by kernel_rfl) (by kernel_rfl)
            have hF := M.ret_some hF
            subst hF
            have H26 : Hold h h13 [] := H24.pick [] (by kernel_rfl)
            exact Run_ret1 rfl (ResV_tmp (v := .bool true) (by kernel_rfl)) ⟨rfl, H26⟩

end Go.Proofs.Ytjdcdcipilhmeaa
