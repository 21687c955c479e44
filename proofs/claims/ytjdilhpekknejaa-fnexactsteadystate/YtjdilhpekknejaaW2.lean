/-
  Walks: each Go function, called with what reads as plain data, returns what its plain program computes.
  Conditions: None beyond the given statement.
-/
import Derived.Test.YtjdilhpekknejaaW1
namespace Go.Proofs.Ytjdilhpekknejaa
open Go
attribute [local irreducible] setL setB opA fineI idleI fineB evB okB markB markBs readyB readyBs chainB lk rho pickL dropSlot tailOK
set_option maxRecDepth 100000 in
set_option maxHeartbeats 4000000 in
theorem w_impl_orbit_grow_B (h hE : Heap) (it : Item) (o : TOrbit) (bo : Nat) (aomatrix : Option Addr) (comatrix : Nat) (romatrix : Rd cd29 h (Lt h) aomatrix comatrix o.matrix) (aolist : Option Addr) (colist : Nat) (index : Int) (HM : Hold h hE [box bo 88 [.slice aomatrix o.matrix.length comatrix, .slice aolist o.list.length colist], own cd22 aolist o.list.length colist o.list, it]) (n : Nat) (r : Bool × TOrbit) (hF : impl_orbit_grow_B o index n = some r) :
    Fn Try.prog 79 #[.pointer (some ⟨bo, 0, none⟩), .int .i64 index] hE fun v h' => ∃ (a0 : Option Addr) (c0 : Nat), v = .bool r.1 ∧ Hold h h' [box bo 88 [.slice aomatrix o.matrix.length comatrix, .slice a0 r.2.list.length c0], own cd22 a0 r.2.list.length c0 r.2.list, it] := by
  unfold impl_orbit_grow_B at hF
  refine Fn_enter (args := [.pointer (some ⟨bo, 0, none⟩), .int .i64 index]) Try.func79 rfl (by kernel_rfl) (by kernel_rfl) (fun w0 _ => ?_)
  refine Run_seq ?_
  refine Run_reg 1 (by kernel_rfl) (L' := [(0, .pointer (some ⟨bo, 0, none⟩)), (1, .int .i64 index)]) ?_ ?_
  · refine QRun_b [.bool false] 0 _ (by kernel_rfl) (fun w => by kernel_rfl) ?_
    exact QRun_done [0, 1] (by kernel_rfl) (by kernel_rfl)
  refine Run_seq ?_
  obtain ⟨x1, gx1, hF⟩ := M.bind_some hF
  refine Run_join (fun L' h' => ∃ (s2 : (List (List (List Int)))) (a2 : Option Addr) (c2 : Nat), x1 = .inl s2 ∧ L' = [] ∧ Hold h h' [box bo 88 [.slice aomatrix o.matrix.length comatrix, .slice a2 s2.length c2], own cd22 a2 s2.length c2 s2, it]) ?_ ?_
  · rintro _ h2 ⟨s2, a2, c2, es2, rfl, H2⟩
    have hF := M.cont_inl' hF es2
    refine Run_seq ?_
    refine Run_reg 1 (by kernel_rfl) (L' := [(4, .bool true)]) ?_ ?_
    · refine QRun_b [.bool true] 0 _ (by kernel_rfl) (fun w => by kernel_rfl) ?_
      exact QRun_done [4] (by kernel_rfl) (by kernel_rfl)
    have hF := M.ret_some hF
    subst hF
    have H33 : Hold h h2 [own cd22 a2 s2.length c2 s2, box bo 88 [.slice aomatrix o.matrix.length comatrix, .slice a2 s2.length c2], it] := H2.pick [1, 0, 2] (by kernel_rfl)
    have H34 : Hold h h2 [box bo 88 [.slice aomatrix o.matrix.length comatrix, .slice a2 s2.length c2], own cd22 a2 s2.length c2 s2, it] := H33.pick [1, 0, 2] (by kernel_rfl)
    exact Run_ret1 rfl (ResV_tmp (v := .bool true) (by kernel_rfl)) ⟨a2, c2, rfl, H34⟩
  · refine Run_block ?_
    have H35 : Hold h hE [own cd22 aolist o.list.length colist o.list, box bo 88 [.slice aomatrix o.matrix.length comatrix, .slice aolist o.list.length colist], it] := HM.pick [1, 0, 2] (by kernel_rfl)
    have H36 : Hold h hE [box bo 88 [.slice aomatrix o.matrix.length comatrix, .slice aolist o.list.length colist], own cd22 aolist o.list.length colist o.list, it] := H35.pick [1, 0, 2] (by kernel_rfl)
    refine Run_keep [0, 1] (L' := [(0, .pointer (some ⟨bo, 0, none⟩)), (1, .int .i64 index)]) (by kernel_rfl) ?_
    refine Run_loop (fun m L' h' => ∃ (s1 : (List (List (List Int)))) (a1 : Option Addr) (c1 : Nat), M.loopN _ n m s1 = some x1 ∧ L' = [(0, .pointer (some ⟨bo, 0, none⟩)), (1, .int .i64 index)] ∧ Hold h h' [box bo 88 [.slice aomatrix o.matrix.length comatrix, .slice a1 s1.length c1], own cd22 a1 s1.length c1 s1, it]) n ⟨o.list, aolist, colist, gx1, rfl, H36⟩ ?_
    rintro my1 _ h1 ⟨s1, a1, c1, gx1, rfl, H1⟩
    obtain ⟨my1, y1, rfl, hB1, hgoy1, houty1⟩ := M.loop_some gx1
    refine Run_seq ?_
    refine Run_seq ?_
    refine Run_reg 7 (by kernel_rfl) (L' := [(0, .pointer (some ⟨bo, 0, none⟩)), (1, .int .i64 index), (13, .bool (decide ((s1.length : Int) ≤ index)))]) ?_ ?_
    · refine QRun_b [.pointer (some ⟨bo, 0, none⟩), .pointer (some ⟨bo, 0, none⟩), .pointer (some ⟨bo, 1, none⟩)] 0 _ (by kernel_rfl) (fun w => by kernel_rfl) ?_
      refine QRun_y (.slice a1 s1.length c1) (by kernel_rfl) (Y_load1 (t := 86) (p := ⟨bo, 1, none⟩) (v := .slice a1 s1.length c1) (by kernel_rfl) (fun w => by kernel_rfl) (H1.cell 0 rfl rfl)) ?_
      refine QRun_b [.int .i64 (s1.length : Int), .int .i64 index, .bool (decide ((s1.length : Int) ≤ index))] 4 _ (by kernel_rfl) (fun w => by kernel_rfl) ?_
      exact QRun_done [0, 1, 13] (by kernel_rfl) (by kernel_rfl)
    refine Run_cond (b := decide ((s1.length : Int) ≤ index)) (by kernel_rfl) (fun hb1 => ?_) (fun hb1 => ?_)
    · have hB1 := (M.ite_some hB1).1 hb1
      refine Run_skip ?_
      refine Run_block ?_
      refine Run_seq ?_
      obtain ⟨x2, hx1, hB1⟩ := M.bind_some hB1
      obtain ⟨hx1l, hx1u, hx1⟩ := M.idx_some hx1
      have H3 : Hold h h1 [own cd22 a1 s1.length c1 s1, box bo 88 [.slice aomatrix o.matrix.length comatrix, .slice a1 s1.length c1], it] := H1.pick [1, 0, 2] (by kernel_rfl)
      have H4 := H3.toRows
      obtain ⟨a3, c3, H5⟩ := H4.pinRow hx1
      have H6 : Hold h h1 [box bo 88 [.slice aomatrix o.matrix.length comatrix, .slice a1 s1.length c1], rowsP cd29 22 a1 s1.length c1 s1 [((w64 ((s1.length : Int) - 1)).toNat, a3, x2.length, c3, x2)], it] := H5.pick [1, 0, 2] (by kernel_rfl)
      refine Run_D (fun x => Hold h x [box bo 88 [.slice aomatrix o.matrix.length comatrix, .slice a1 s1.length c1], rowsP cd29 22 a1 s1.length c1 s1 [((w64 ((s1.length : Int) - 1)).toNat, a3, x2.length, c3, x2)], it]) (fun x => Hold h x [box bo 88 [.slice aomatrix o.matrix.length comatrix, .slice a1 s1.length c1], rowsP cd29 22 a1 s1.length c1 s1 [((w64 ((s1.length : Int) - 1)).toNat, a3, x2.length, c3, x2)], it]) mixed (by kernel_rfl) H6 Hold.stable (fun x Hy => (show Hold h x [box bo 88 [.slice aomatrix o.matrix.length comatrix, .slice a1 s1.length c1], rowsP cd29 22 a1 s1.length c1 s1 [((w64 ((s1.length : Int) - 1)).toNat, a3, x2.length, c3, x2)], it] from Hy).pick [0, 1, 2] (by kernel_rfl)) ?_
      refine DR_b 20 [.pointer (some ⟨bo, 0, none⟩), .pointer (some ⟨bo, 0, none⟩), .pointer (some ⟨bo, 0, none⟩)] 0 (by kernel_rfl) (by kernel_rfl) (by kernel_rfl) (fun w => by kernel_rfl) ?_
      refine DR_y 19 (i := 3) (.slice aomatrix o.matrix.length comatrix) (by kernel_rfl) (by kernel_rfl) (by kernel_rfl) (fun hx Hx => (YE.of (Y_load1 (t := 22) (p := ⟨bo, 0, none⟩) (v := .slice aomatrix o.matrix.length comatrix) (by kernel_rfl) (fun w => by kernel_rfl) (Hx.cell 0 rfl rfl)))) ?_
      refine DR_b 16 [.pointer (some ⟨bo, 0, none⟩), .pointer (some ⟨bo, 0, none⟩), .pointer (some ⟨bo, 1, none⟩)] 4 (by kernel_rfl) (by kernel_rfl) (by kernel_rfl) (fun w => by kernel_rfl) ?_
      refine DR_y 15 (i := 7) (.slice a1 s1.length c1) (by kernel_rfl) (by kernel_rfl) (by kernel_rfl) (fun hx Hx => (YE.of (Y_load1 (t := 86) (p := ⟨bo, 1, none⟩) (v := .slice a1 s1.length c1) (by kernel_rfl) (fun w => by kernel_rfl) (Hx.cell 0 rfl rfl)))) ?_
      refine DR_b 12 [.pointer (some ⟨bo, 0, none⟩), .pointer (some ⟨bo, 0, none⟩), .pointer (some ⟨bo, 1, none⟩)] 8 (by kernel_rfl) (by kernel_rfl) (by kernel_rfl) (fun w => by kernel_rfl) ?_
      refine DR_y 11 (i := 11) (.slice a1 s1.length c1) (by kernel_rfl) (by kernel_rfl) (by kernel_rfl) (fun hx Hx => (YE.of (Y_load1 (t := 86) (p := ⟨bo, 1, none⟩) (v := .slice a1 s1.length c1) (by kernel_rfl) (fun w => by kernel_rfl) (Hx.cell 0 rfl rfl)))) ?_
      refine DR_b 9 [.int .i64 (s1.length : Int), .int .i64 (w64 ((s1.length : Int) - 1))] 12 (by kernel_rfl) (by kernel_rfl) (by kernel_rfl) (fun w => by kernel_rfl) ?_
      refine DR_y 8 (i := 14) (.pointer (some (adr a1 ((w64 ((s1.length : Int) - 1)).toNat * 1)))) (by kernel_rfl) (by kernel_rfl) (by kernel_rfl) (fun hx Hx => (YE.of (Y_idx (t := 86) (e := 22) (sz := 1) (a := a1) (n := s1.length) (cap := c1) (kk := .i64) (i := w64 ((s1.length : Int) - 1)) (by kernel_rfl) Try.underlying86 (by kernel_rfl) ((H1.rd 1 rfl).cell hx1).1 hx1l hx1u))) ?_
      refine DR_y 7 (i := 15) (.slice a3 x2.length c3) (by kernel_rfl) (by kernel_rfl) (by kernel_rfl) (fun hx Hx => (YE.of (Y_load1 (t := 22) (p := adr a1 ((w64 ((s1.length : Int) - 1)).toNat * 1)) (v := .slice a3 x2.length c3) (by kernel_rfl) (fun w => by kernel_rfl) (Hx.cellPin 1 rfl 0 rfl)))) ?_
      refine DR_e 6 16 (by kernel_rfl) (by kernel_rfl) (by kernel_rfl) (fun h3 H7 => ?_)
      have H8 : Hold h h3 [box bo 88 [.slice aomatrix o.matrix.length comatrix, .slice a1 s1.length c1], rowsP cd29 22 a1 s1.length c1 s1 [((w64 ((s1.length : Int) - 1)).toNat, a3, x2.length, c3, x2)], it] := H7
      obtain ⟨x3, hx2, hB1⟩ := M.bind_some hB1
      refine E_call (f := 111) (args := #[.slice aomatrix o.matrix.length comatrix, .slice a3 x2.length c3]) (w_impl_multiply h3 o.matrix aomatrix comatrix (romatrix.at H8.ext) x2 a3 c3 (H8.rdPin 1 rfl 0 rfl) _ _ hx2) (by kernel_rfl) (fun v1 h4 hp1 => ?_)
      obtain ⟨a4, c4, rfl, H9⟩ := hp1
      have H10 : Hold h h4 [own cd29 a4 x3.length c4 x3, box bo 88 [.slice aomatrix o.matrix.length comatrix, .slice a1 s1.length c1], rowsP cd29 22 a1 s1.length c1 s1 [((w64 ((s1.length : Int) - 1)).toNat, a3, x2.length, c3, x2)], it] := H8.call H9 rfl
      refine ⟨fun x => Hold h x [box bo 88 [.slice aomatrix o.matrix.length comatrix, .slice a1 s1.length c1], rowsP cd29 22 a1 s1.length c1 s1 [((w64 ((s1.length : Int) - 1)).toNat, a3, x2.length, c3, x2)], it], fun x => Hold h x [own cd29 a4 x3.length c4 x3, box bo 88 [.slice aomatrix o.matrix.length comatrix, .slice a1 s1.length c1], rowsP cd29 22 a1 s1.length c1 s1 [((w64 ((s1.length : Int) - 1)).toNat, a3, x2.length, c3, x2)], it], H10, Hold.stable, fun x Hy => (show Hold h x [own cd29 a4 x3.length c4 x3, box bo 88 [.slice aomatrix o.matrix.length comatrix, .slice a1 s1.length c1], rowsP cd29 22 a1 s1.length c1 s1 [((w64 ((s1.length : Int) - 1)).toNat, a3, x2.length, c3, x2)], it] from Hy).pick [1, 2, 3] (by kernel_rfl), fun x Hy => (show Hold h x [box bo 88 [.slice aomatrix o.matrix.length comatrix, .slice a1 s1.length c1], rowsP cd29 22 a1 s1.length c1 s1 [((w64 ((s1.length : Int) - 1)).toNat, a3, x2.length, c3, x2)], it] from Hy).pick [0, 1, 2] (by kernel_rfl), ?_⟩
      refine DR_e 5 17 (by kernel_rfl) (by kernel_rfl) (by kernel_rfl) (fun h5 H11 => ?_)
      have H12 : Hold h h5 [own cd29 a4 x3.length c4 x3, box bo 88 [.slice aomatrix o.matrix.length comatrix, .slice a1 s1.length c1], rowsP cd29 22 a1 s1.length c1 s1 [((w64 ((s1.length : Int) - 1)).toNat, a3, x2.length, c3, x2)], it] := H11
      obtain ⟨x4, hx3, hB1⟩ := M.bind_some hB1
      refine E_call (f := 110) (args := #[.slice a4 x3.length c4]) (w_impl_checkedMatrix h5 x3 a4 c4 (H12.rd 0 rfl) _ _ hx3) (by kernel_rfl) (fun v2 h6 hp2 => ?_)
      obtain ⟨a5, c5, rfl, hd1, H13⟩ := hp2
      have H14 : Hold h h6 [own cd29 a4 x3.length c4 x3, box bo 88 [.slice aomatrix o.matrix.length comatrix, .slice a1 s1.length c1], rowsP cd29 22 a1 s1.length c1 s1 [((w64 ((s1.length : Int) - 1)).toNat, a3, x2.length, c3, x2)], it] := H12.call H13 rfl
      have H15 := H14.alias hd1
      refine ⟨fun x => Hold h x [box bo 88 [.slice aomatrix o.matrix.length comatrix, .slice a1 s1.length c1], rowsP cd29 22 a1 s1.length c1 s1 [((w64 ((s1.length : Int) - 1)).toNat, a3, x2.length, c3, x2)], it], fun x => Hold h x [own cd29 a5 x4.1.length c5 x4.1, box bo 88 [.slice aomatrix o.matrix.length comatrix, .slice a1 s1.length c1], rowsP cd29 22 a1 s1.length c1 s1 [((w64 ((s1.length : Int) - 1)).toNat, a3, x2.length, c3, x2)], it], H15, Hold.stable, fun x Hy => (show Hold h x [own cd29 a5 x4.1.length c5 x4.1, box bo 88 [.slice aomatrix o.matrix.length comatrix, .slice a1 s1.length c1], rowsP cd29 22 a1 s1.length c1 s1 [((w64 ((s1.length : Int) - 1)).toNat, a3, x2.length, c3, x2)], it] from Hy).pick [1, 2, 3] (by kernel_rfl), fun x Hy => (show Hold h x [box bo 88 [.slice aomatrix o.matrix.length comatrix, .slice a1 s1.length c1], rowsP cd29 22 a1 s1.length c1 s1 [((w64 ((s1.length : Int) - 1)).toNat, a3, x2.length, c3, x2)], it] from Hy).pick [0, 1, 2] (by kernel_rfl), ?_⟩
      refine DR_b 0 [.tuple #[.slice a5 x4.1.length c5, .int .i64 x4.2], .slice a5 x4.1.length c5, .int .i64 x4.2, .slice a5 x4.1.length c5, .int .i64 x4.2] 18 (by kernel_rfl) (by kernel_rfl) (by kernel_rfl) (fun w => by kernel_rfl) ?_
      refine DR_tail (i := 23) (by kernel_rfl) (by kernel_rfl) (by kernel_rfl) (fun h7 H16 => ?_)
      have H17 : Hold h h7 [own cd29 a5 x4.1.length c5 x4.1, box bo 88 [.slice aomatrix o.matrix.length comatrix, .slice a1 s1.length c1], rowsP cd29 22 a1 s1.length c1 s1 [((w64 ((s1.length : Int) - 1)).toNat, a3, x2.length, c3, x2)], it] := H16
      refine Run_nil (by kernel_rfl) ?_
      refine Run_keep [0, 1, 5, 6] (L' := [(0, .pointer (some ⟨bo, 0, none⟩)), (1, .int .i64 index), (5, .slice a5 x4.1.length c5), (6, .int .i64 x4.2)]) (by kernel_rfl) ?_
      refine Run_seq ?_
      refine Run_seq ?_
      refine Run_reg 2 (by kernel_rfl) (L' := [(0, .pointer (some ⟨bo, 0, none⟩)), (1, .int .i64 index), (5, .slice a5 x4.1.length c5), (36, .bool (x4.2 != 0))]) ?_ ?_
      · refine QRun_b [.int .i64 x4.2, .bool (x4.2 != 0)] 0 _ (by kernel_rfl) (fun w => by kernel_rfl) ?_
        exact QRun_done [0, 1, 5, 36] (by kernel_rfl) (by kernel_rfl)
      refine Run_cond (b := x4.2 != 0) (by kernel_rfl) (fun hb2 => ?_) (fun hb2 => ?_)
      · have hB1 := (M.ite_some hB1).1 hb2
        refine Run_seq ?_
        refine Run_reg 1 (by kernel_rfl) (L' := [(4, .bool false)]) ?_ ?_
        · refine QRun_b [.bool false] 0 _ (by kernel_rfl) (fun w => by kernel_rfl) ?_
          exact QRun_done [4] (by kernel_rfl) (by kernel_rfl)
        have hB1 := M.ret_some hB1
        have gx1 := houty1 _ hB1.symm
        have hF := M.cont_inr' hF gx1
        have hF := M.ret_some hF
        subst hF
        have H18 : Hold h h7 [rowsP cd29 22 a1 s1.length c1 s1 [((w64 ((s1.length : Int) - 1)).toNat, a3, x2.length, c3, x2)], own cd29 a5 x4.1.length c5 x4.1, box bo 88 [.slice aomatrix o.matrix.length comatrix, .slice a1 s1.length c1], it] := H17.pick [2, 0, 1, 3] (by kernel_rfl)
        have H19 := H18.ofRows
        have H20 : Hold h h7 [box bo 88 [.slice aomatrix o.matrix.length comatrix, .slice a1 s1.length c1], own cd22 a1 s1.length c1 s1, it] := H19.pick [2, 0, 3] (by kernel_rfl)
        exact Run_ret1 rfl (ResV_tmp (v := .bool false) (by kernel_rfl)) ⟨a1, c1, rfl, H20⟩
      · have hB1 := (M.ite_some hB1).2 hb2
        refine Run_skip ?_
        refine Run_ops ?_
        refine Run_b [.pointer (some ⟨bo, 0, none⟩), .pointer (some ⟨bo, 0, none⟩), .pointer (some ⟨bo, 0, none⟩), .pointer (some ⟨bo, 1, none⟩)] 0 _ (by kernel_rfl) (fun w => by kernel_rfl) ?_
        refine Run_y (.slice a1 s1.length c1) (by kernel_rfl) (Y_load1 (t := 86) (p := ⟨bo, 1, none⟩) (v := .slice a1 s1.length c1) (by kernel_rfl) (fun w => by kernel_rfl) (H17.cell 1 rfl rfl)) ?_
        refine Run_b [.slice a5 x4.1.length c5] 5 _ (by kernel_rfl) (fun w => by kernel_rfl) ?_
        refine Run_E (by kernel_rfl) ?_
        refine E_lit1 (ey := 22) (n := x4.1.length) H17 (fun w => by kernel_rfl) rfl (fun a6 h8 H21 => ?_)
        obtain ⟨l1, hl1, hB1⟩ := M.bind_some hB1
        have hl1 := M.app_some hl1
        have H22 : Hold h h8 [rowsP cd29 22 a1 s1.length c1 s1 [((w64 ((s1.length : Int) - 1)).toNat, a3, x2.length, c3, x2)], own cd22 a6 1 1 [x4.1], box bo 88 [.slice aomatrix o.matrix.length comatrix, .slice a1 s1.length c1], it] := H21.pick [2, 0, 1, 3] (by kernel_rfl)
        have H23 := H22.ofRows
        have H24 : Hold h h8 [own cd22 a6 1 1 [x4.1], own cd22 a1 s1.length c1 s1, box bo 88 [.slice aomatrix o.matrix.length comatrix, .slice a1 s1.length c1], it] := H23.pick [1, 0, 2, 3] (by kernel_rfl)
        have H25 : Hold h h8 [own cd22 a1 s1.length c1 s1, own cd22 a6 1 1 [x4.1], box bo 88 [.slice aomatrix o.matrix.length comatrix, .slice a1 s1.length c1], it] := H24.pick [1, 0, 2, 3] (by kernel_rfl)
        refine Run_E (by kernel_rfl) ?_
        refine E_app (C := cd22) (t := 86) (ty := 86) (n := s1.length) (m := 1) H25 cd22_ti rfl Try.underlying86 (by decide) (by kernel_rfl) hl1 (fun a7 c6 h9 H26 => ?_)
        refine Run_b [.pointer (some ⟨bo, 0, none⟩), .pointer (some ⟨bo, 1, none⟩)] 8 _ (by kernel_rfl) (fun w => by kernel_rfl) ?_
        have H28 : Hold h h9 [box bo 88 [.slice aomatrix o.matrix.length comatrix, .slice a1 s1.length c1], own cd22 a7 l1.length c6 l1, it] := H26.pick [1, 0, 2] (by kernel_rfl)
        refine Run_E (by kernel_rfl) ?_
        refine E_bput (t := 86) (off := 1) (us := [.slice aomatrix o.matrix.length comatrix, .slice a7 l1.length c6]) (v := .slice a7 l1.length c6) H28 (by kernel_rfl) (by kernel_rfl) rfl (by kernel_rfl) rfl (fun h10 H27 => ?_)
        refine Run_nil (by kernel_rfl) ?_
        refine Run_keep [0, 1] (L' := [(0, .pointer (some ⟨bo, 0, none⟩)), (1, .int .i64 index)]) (by kernel_rfl) ?_
        refine Run_blk ?_
        have H29 : Hold h h10 [own cd22 a7 l1.length c6 l1, box bo 88 [.slice aomatrix o.matrix.length comatrix, .slice a7 l1.length c6], it] := H27.pick [1, 0, 2] (by kernel_rfl)
        have H30 : Hold h h10 [box bo 88 [.slice aomatrix o.matrix.length comatrix, .slice a7 l1.length c6], own cd22 a7 l1.length c6 l1, it] := H29.pick [1, 0, 2] (by kernel_rfl)
        have hB1 := M.ret_some hB1
        have gx1 := hgoy1 _ hB1.symm
        exact Run_again [0, 1] (by kernel_rfl) my1 (Nat.lt_succ_self _) ⟨l1, a7, c6, gx1, rfl, H30⟩
    · have hB1 := (M.ite_some hB1).2 hb1
      refine Run_exit (k' := _) rfl ?_
      have H31 : Hold h h1 [own cd22 a1 s1.length c1 s1, box bo 88 [.slice aomatrix o.matrix.length comatrix, .slice a1 s1.length c1], it] := H1.pick [1, 0, 2] (by kernel_rfl)
      have H32 : Hold h h1 [box bo 88 [.slice aomatrix o.matrix.length comatrix, .slice a1 s1.length c1], own cd22 a1 s1.length c1 s1, it] := H31.pick [1, 0, 2] (by kernel_rfl)
      have hB1 := M.ret_some hB1
      have gx1 := houty1 _ hB1.symm
      subst gx1
      exact Run_fall [] (by kernel_rfl) ⟨s1, a1, c1, rfl, rfl, H32⟩

set_option maxRecDepth 100000 in
set_option maxHeartbeats 4000000 in
theorem w_impl_orbit_firstRepeat_B (h hE : Heap) (it : Item) (o : TOrbit) (bo : Nat) (aomatrix : Option Addr) (comatrix : Nat) (romatrix : Rd cd29 h (Lt h) aomatrix comatrix o.matrix) (aolist : Option Addr) (colist : Nat) (HM : Hold h hE [box bo 88 [.slice aomatrix o.matrix.length comatrix, .slice aolist o.list.length colist], own cd22 aolist o.list.length colist o.list, it]) (n : Nat) (r : TRepeat × Int × TOrbit) (hF : impl_orbit_firstRepeat_B o n = some r) :
    Fn Try.prog 88 #[.pointer (some ⟨bo, 0, none⟩)] hE fun v h' => ∃ (a0 : Option Addr) (c0 : Nat), v = .tuple #[.agg #[.int .i64 r.1.at_, .int .i64 r.1.period, .int .i64 r.1.growth], .int .i64 r.2.1] ∧ Hold h h' [box bo 88 [.slice aomatrix o.matrix.length comatrix, .slice a0 r.2.2.list.length c0], own cd22 a0 r.2.2.list.length c0 r.2.2.list, it] := by
  unfold impl_orbit_firstRepeat_B at hF
  refine Fn_enter (args := [.pointer (some ⟨bo, 0, none⟩)]) Try.func88 rfl (by kernel_rfl) (by kernel_rfl) (fun w0 _ => ?_)
  refine Run_seq ?_
  refine Run_ops ?_
  refine Run_E (by kernel_rfl) ?_
  refine E_box (ty := 94) (cs := [.int .i64 0, .int .i64 0, .int .i64 0]) HM (fun w => by kernel_rfl) (fun b1 h1 H1 => ?_)
  refine Run_b [.int .i64 0] 1 _ (by kernel_rfl) (fun w => by kernel_rfl) ?_
  refine Run_nil (by kernel_rfl) ?_
  refine Run_keep [0, 2] (L' := [(0, .pointer (some ⟨bo, 0, none⟩)), (2, .pointer (some ⟨b1, 0, none⟩))]) (by kernel_rfl) ?_
  refine Run_seq ?_
  refine Run_seq ?_
  refine Run_reg 1 (by kernel_rfl) (L' := [(0, .pointer (some ⟨bo, 0, none⟩)), (2, .pointer (some ⟨b1, 0, none⟩)), (8, .int .i64 0)]) ?_ ?_
  · refine QRun_b [.int .i64 0] 0 _ (by kernel_rfl) (fun w => by kernel_rfl) ?_
    exact QRun_done [0, 2, 8] (by kernel_rfl) (by kernel_rfl)
  obtain ⟨x1, gx1, hF⟩ := M.bind_some hF
  obtain ⟨hloy1, hhiy1, gx1⟩ := M.for_start gx1
  refine Run_join (fun L' h' => ∃ (s2 : (List (List (List Int)))) (a2 : Option Addr) (c2 : Nat), x1 = .inl s2 ∧ L' = [(2, .pointer (some ⟨b1, 0, none⟩))] ∧ Hold h h' [box bo 88 [.slice aomatrix o.matrix.length comatrix, .slice a2 s2.length c2], own cd22 a2 s2.length c2 s2, box b1 94 [.int .i64 0, .int .i64 0, .int .i64 0], it]) ?_ ?_
  · rintro _ h3 ⟨s2, a2, c2, es2, rfl, H3⟩
    have hF := M.cont_inl' hF es2
    refine Run_seq ?_
    refine Run_ops ?_
    refine Run_b [.agg #[.int .i64 0, .int .i64 0, .int .i64 0]] 0 _ (by kernel_rfl) (fun w => by kernel_rfl) ?_
    have H39 : Hold h h3 [box b1 94 [.int .i64 0, .int .i64 0, .int .i64 0], box bo 88 [.slice aomatrix o.matrix.length comatrix, .slice a2 s2.length c2], own cd22 a2 s2.length c2 s2, it] := H3.pick [2, 0, 1, 3] (by kernel_rfl)
    refine Run_E (by kernel_rfl) ?_
    refine E_bput (t := 94) (off := 0) (us := [.int .i64 0, .int .i64 0, .int .i64 0]) (v := .agg #[.int .i64 0, .int .i64 0, .int .i64 0]) H39 (by kernel_rfl) (by kernel_rfl) rfl (by kernel_rfl) rfl (fun h9 H38 => ?_)
    refine Run_b [.int .i64 4] 2 _ (by kernel_rfl) (fun w => by kernel_rfl) ?_
    refine Run_nil (by kernel_rfl) ?_
    refine Run_keep [2, 3] (L' := [(2, .pointer (some ⟨b1, 0, none⟩)), (3, .int .i64 4)]) (by kernel_rfl) ?_
    have hF := M.ret_some hF
    subst hF
    have H40 : Hold h h9 [own cd22 a2 s2.length c2 s2, box b1 94 [.int .i64 0, .int .i64 0, .int .i64 0], box bo 88 [.slice aomatrix o.matrix.length comatrix, .slice a2 s2.length c2], it] := H38.pick [2, 0, 1, 3] (by kernel_rfl)
    have H41 : Hold h h9 [box bo 88 [.slice aomatrix o.matrix.length comatrix, .slice a2 s2.length c2], own cd22 a2 s2.length c2 s2, it] := H40.pick [2, 0, 3] (by kernel_rfl)
    exact Run_ret2 rfl (ResV_cell (n := 3) (cs := [.int .i64 0, .int .i64 0, .int .i64 0]) (by kernel_rfl) (fun w => by kernel_rfl) (by kernel_rfl) rfl (H38.cells (n := 3) (off := 0) 0 rfl rfl)) (ResV_tmp (v := .int .i64 4) (by kernel_rfl)) ⟨a2, c2, rfl, H41⟩
  · refine Run_block ?_
    have H42 : Hold h h1 [own cd22 aolist o.list.length colist o.list, box b1 94 [.int .i64 0, .int .i64 0, .int .i64 0], box bo 88 [.slice aomatrix o.matrix.length comatrix, .slice aolist o.list.length colist], it] := H1.pick [2, 0, 1, 3] (by kernel_rfl)
    have H43 : Hold h h1 [box bo 88 [.slice aomatrix o.matrix.length comatrix, .slice aolist o.list.length colist], own cd22 aolist o.list.length colist o.list, box b1 94 [.int .i64 0, .int .i64 0, .int .i64 0], it] := H42.pick [2, 0, 1, 3] (by kernel_rfl)
    refine Run_keep [0, 2, 8] (L' := [(0, .pointer (some ⟨bo, 0, none⟩)), (2, .pointer (some ⟨b1, 0, none⟩)), (8, .int .i64 0)]) (by kernel_rfl) ?_
    refine Run_loop (fun m L' h' => ∃ (i1 : Int) (s1 : (List (List (List Int)))) (a1 : Option Addr) (c1 : Nat), 0 ≤ i1 ∧ M.forN 100 _ _ n m i1 s1 = some x1 ∧ L' = [(0, .pointer (some ⟨bo, 0, none⟩)), (2, .pointer (some ⟨b1, 0, none⟩)), (8, .int .i64 i1)] ∧ Hold h h' [box bo 88 [.slice aomatrix o.matrix.length comatrix, .slice a1 s1.length c1], own cd22 a1 s1.length c1 s1, box b1 94 [.int .i64 0, .int .i64 0, .int .i64 0], it]) (100 - 0 : Int).toNat ⟨0, o.list, aolist, colist, Int.le_refl _, gx1, rfl, H43⟩ ?_
    rintro my1 _ h2 ⟨i1, s1, a1, c1, hloy1', gx1, rfl, H2⟩
    refine Run_seq ?_
    refine Run_reg 1 (by kernel_rfl) (L' := [(0, .pointer (some ⟨bo, 0, none⟩)), (2, .pointer (some ⟨b1, 0, none⟩)), (8, .int .i64 i1), (9, .bool (decide (i1 < 100)))]) ?_ ?_
    · refine QRun_b [.bool (decide (i1 < 100))] 0 _ (by kernel_rfl) (fun w => by kernel_rfl) ?_
      exact QRun_done [0, 2, 8, 9] (by kernel_rfl) (by kernel_rfl)
    refine Run_seq ?_
    refine Run_cond (b := decide (i1 < 100)) (by kernel_rfl) (fun hb1 => ?_) (fun hb1 => ?_)
    · obtain ⟨my1, y1, rfl, hB1, hgoy1, houty1⟩ := M.for_go gx1 hb1
      have hlty1 := of_decide_eq_true hb1
      refine Run_skip ?_
      refine Run_seq ?_
      refine Run_block ?_
      refine Run_seq ?_
      refine Run_reg 2 (by kernel_rfl) (L' := [(0, .pointer (some ⟨bo, 0, none⟩)), (2, .pointer (some ⟨b1, 0, none⟩)), (4, .int .i64 i1), (8, .int .i64 i1)]) ?_ ?_
      · refine QRun_b [.int .i64 i1, .int .i64 i1] 0 _ (by kernel_rfl) (fun w => by kernel_rfl) ?_
        exact QRun_done [0, 2, 4, 8] (by kernel_rfl) (by kernel_rfl)
      refine Run_seq ?_
      refine Run_reg 1 (by kernel_rfl) (L' := [(0, .pointer (some ⟨bo, 0, none⟩)), (2, .pointer (some ⟨b1, 0, none⟩)), (4, .int .i64 i1), (5, .int .i64 1), (8, .int .i64 i1)]) ?_ ?_
      · refine QRun_b [.int .i64 1] 0 _ (by kernel_rfl) (fun w => by kernel_rfl) ?_
        exact QRun_done [0, 2, 4, 5, 8] (by kernel_rfl) (by kernel_rfl)
      obtain ⟨x2, gx2, hB1⟩ := M.bind_some hB1
      refine Run_join (fun L' h' => ∃ (s4 : (List (List (List Int))) × Int) (a4 : Option Addr) (c4 : Nat), x2 = .inl s4 ∧ L' = [(0, .pointer (some ⟨bo, 0, none⟩)), (2, .pointer (some ⟨b1, 0, none⟩)), (8, .int .i64 i1)] ∧ Hold h h' [box bo 88 [.slice aomatrix o.matrix.length comatrix, .slice a4 s4.1.length c4], own cd22 a4 s4.1.length c4 s4.1, box b1 94 [.int .i64 0, .int .i64 0, .int .i64 0], it]) ?_ ?_
      · rintro _ h5 ⟨s4, a4, c4, es4, rfl, H5⟩
        have hB1 := M.cont_inl' hB1 es4
        refine Run_blk ?_
        refine Run_reg 2 (by kernel_rfl) (L' := [(0, .pointer (some ⟨bo, 0, none⟩)), (2, .pointer (some ⟨b1, 0, none⟩)), (8, .int .i64 (i1 + 1))]) ?_ ?_
        · refine QRun_y (.int .i64 (i1 + 1)) (by kernel_rfl) (Y_eq (v := .int .i64 (w64 (i1 + 1))) (Y_pure (fun w => by kernel_rfl)) (by rw [w64_eq _ (by omega)])) ?_
          refine QRun_b [.int .i64 (i1 + 1)] 1 _ (by kernel_rfl) (fun w => by kernel_rfl) ?_
          exact QRun_done [0, 2, 8] (by kernel_rfl) (by kernel_rfl)
        have H32 : Hold h h5 [own cd22 a4 s4.1.length c4 s4.1, box bo 88 [.slice aomatrix o.matrix.length comatrix, .slice a4 s4.1.length c4], box b1 94 [.int .i64 0, .int .i64 0, .int .i64 0], it] := H5.pick [1, 0, 2, 3] (by kernel_rfl)
        have H33 : Hold h h5 [box bo 88 [.slice aomatrix o.matrix.length comatrix, .slice a4 s4.1.length c4], own cd22 a4 s4.1.length c4 s4.1, box b1 94 [.int .i64 0, .int .i64 0, .int .i64 0], it] := H32.pick [1, 0, 2, 3] (by kernel_rfl)
        have hB1 := M.ret_some hB1
        have gx1 := hgoy1 _ hB1.symm
        exact Run_again [0, 2, 8] (by kernel_rfl) my1 (Nat.lt_succ_self _) ⟨i1 + 1, s4.1, a4, c4, by omega, gx1, rfl, H33⟩
      · refine Run_block ?_
        have H34 : Hold h h2 [own cd22 a1 s1.length c1 s1, box bo 88 [.slice aomatrix o.matrix.length comatrix, .slice a1 s1.length c1], box b1 94 [.int .i64 0, .int .i64 0, .int .i64 0], it] := H2.pick [1, 0, 2, 3] (by kernel_rfl)
        have H35 : Hold h h2 [box bo 88 [.slice aomatrix o.matrix.length comatrix, .slice a1 s1.length c1], own cd22 a1 s1.length c1 s1, box b1 94 [.int .i64 0, .int .i64 0, .int .i64 0], it] := H34.pick [1, 0, 2, 3] (by kernel_rfl)
        refine Run_keep [0, 2, 4, 5, 8] (L' := [(0, .pointer (some ⟨bo, 0, none⟩)), (2, .pointer (some ⟨b1, 0, none⟩)), (4, .int .i64 i1), (5, .int .i64 1), (8, .int .i64 i1)]) (by kernel_rfl) ?_
        refine Run_loop (fun m L' h' => ∃ (s3 : (List (List (List Int))) × Int) (a3 : Option Addr) (c3 : Nat), M.loopN _ n m s3 = some x2 ∧ L' = [(0, .pointer (some ⟨bo, 0, none⟩)), (2, .pointer (some ⟨b1, 0, none⟩)), (4, .int .i64 i1), (5, .int .i64 s3.2), (8, .int .i64 i1)] ∧ Hold h h' [box bo 88 [.slice aomatrix o.matrix.length comatrix, .slice a3 s3.1.length c3], own cd22 a3 s3.1.length c3 s3.1, box b1 94 [.int .i64 0, .int .i64 0, .int .i64 0], it]) n ⟨(s1, 1), a1, c1, gx2, rfl, H35⟩ ?_
        rintro my2 _ h4 ⟨s3, a3, c3, gx2, rfl, H4⟩
        obtain ⟨my2, y2, rfl, hB2, hgoy2, houty2⟩ := M.loop_some gx2
        refine Run_seq ?_
        refine Run_seq ?_
        refine Run_reg 4 (by kernel_rfl) (L' := [(0, .pointer (some ⟨bo, 0, none⟩)), (2, .pointer (some ⟨b1, 0, none⟩)), (4, .int .i64 i1), (5, .int .i64 s3.2), (8, .int .i64 i1), (14, .bool (decide ((w64 (i1 + s3.2)) ≤ 100)))]) ?_ ?_
        · refine QRun_b [.int .i64 i1, .int .i64 s3.2, .int .i64 (w64 (i1 + s3.2)), .bool (decide ((w64 (i1 + s3.2)) ≤ 100))] 0 _ (by kernel_rfl) (fun w => by kernel_rfl) ?_
          exact QRun_done [0, 2, 4, 5, 8, 14] (by kernel_rfl) (by kernel_rfl)
        refine Run_cond (b := decide ((w64 (i1 + s3.2)) ≤ 100)) (by kernel_rfl) (fun hb2 => ?_) (fun hb2 => ?_)
        · have hB2 := (M.ite_some hB2).1 hb2
          refine Run_skip ?_
          refine Run_seq ?_
          refine Run_block ?_
          refine Run_seq ?_
          refine Run_seq ?_
          refine Run_ops ?_
          refine Run_b [.pointer (some ⟨bo, 0, none⟩), .int .i64 i1, .int .i64 s3.2, .int .i64 (w64 (i1 + s3.2))] 0 _ (by kernel_rfl) (fun w => by kernel_rfl) ?_
          obtain ⟨x3, hx1, hB2⟩ := M.bind_some hB2
          have H6 : Hold h h4 [own cd22 a3 s3.1.length c3 s3.1, box bo 88 [.slice aomatrix o.matrix.length comatrix, .slice a3 s3.1.length c3], box b1 94 [.int .i64 0, .int .i64 0, .int .i64 0], it] := H4.pick [1, 0, 2, 3] (by kernel_rfl)
          have H7 : Hold h h4 [box bo 88 [.slice aomatrix o.matrix.length comatrix, .slice a3 s3.1.length c3], own cd22 a3 s3.1.length c3 s3.1, box b1 94 [.int .i64 0, .int .i64 0, .int .i64 0], it] := H6.pick [1, 0, 2, 3] (by kernel_rfl)
          have H8 : Hold h h4 [box bo 88 [.slice aomatrix o.matrix.length comatrix, .slice a3 s3.1.length c3], own cd22 a3 s3.1.length c3 s3.1, bun [box b1 94 [.int .i64 0, .int .i64 0, .int .i64 0], it]] := Hold.bundle (S := [box bo 88 [.slice aomatrix o.matrix.length comatrix, .slice a3 s3.1.length c3], own cd22 a3 s3.1.length c3 s3.1]) (R := [box b1 94 [.int .i64 0, .int .i64 0, .int .i64 0], it]) H7
          refine Run_E (by kernel_rfl) ?_
          refine E_call (f := 79) (args := #[.pointer (some ⟨bo, 0, none⟩), .int .i64 (w64 (i1 + s3.2))]) (w_impl_orbit_grow_B h h4 _ (⟨o.matrix, s3.1⟩ : TOrbit) bo aomatrix comatrix romatrix a3 c3 (w64 (i1 + s3.2)) H8 _ _ hx1) (by kernel_rfl) (fun v1 h6 hp1 => ?_)
          obtain ⟨a5, c5, rfl, H9⟩ := hp1
          have H10 : Hold h h6 [box bo 88 [.slice aomatrix o.matrix.length comatrix, .slice a5 x3.2.list.length c5], own cd22 a5 x3.2.list.length c5 x3.2.list, box b1 94 [.int .i64 0, .int .i64 0, .int .i64 0], it] := Hold.unbundle (S := [box bo 88 [.slice aomatrix o.matrix.length comatrix, .slice a5 x3.2.list.length c5], own cd22 a5 x3.2.list.length c5 x3.2.list]) (R := [box b1 94 [.int .i64 0, .int .i64 0, .int .i64 0], it]) H9 (Hold.tailBase (S := [box bo 88 [.slice aomatrix o.matrix.length comatrix, .slice a3 s3.1.length c3], own cd22 a3 s3.1.length c3 s3.1]) (R := [box b1 94 [.int .i64 0, .int .i64 0, .int .i64 0], it]) H7)
          refine Run_b [.bool (!x3.1)] 5 _ (by kernel_rfl) (fun w => by kernel_rfl) ?_
          refine Run_nil (by kernel_rfl) ?_
          refine Run_keep [0, 2, 4, 5, 8, 22] (L' := [(0, .pointer (some ⟨bo, 0, none⟩)), (2, .pointer (some ⟨b1, 0, none⟩)), (4, .int .i64 i1), (5, .int .i64 s3.2), (8, .int .i64 i1), (22, .bool (!x3.1))]) (by kernel_rfl) ?_
          refine Run_cond (b := !x3.1) (by kernel_rfl) (fun hb3 => ?_) (fun hb3 => ?_)
          · have hB2 := (M.ite_some hB2).1 hb3
            refine Run_seq ?_
            refine Run_ops ?_
            refine Run_b [.agg #[.int .i64 0, .int .i64 0, .int .i64 0]] 0 _ (by kernel_rfl) (fun w => by kernel_rfl) ?_
            have H12 : Hold h h6 [box b1 94 [.int .i64 0, .int .i64 0, .int .i64 0], box bo 88 [.slice aomatrix o.matrix.length comatrix, .slice a5 x3.2.list.length c5], own cd22 a5 x3.2.list.length c5 x3.2.list, it] := H10.pick [2, 0, 1, 3] (by kernel_rfl)
            refine Run_E (by kernel_rfl) ?_
            refine E_bput (t := 94) (off := 0) (us := [.int .i64 0, .int .i64 0, .int .i64 0]) (v := .agg #[.int .i64 0, .int .i64 0, .int .i64 0]) H12 (by kernel_rfl) (by kernel_rfl) rfl (by kernel_rfl) rfl (fun h7 H11 => ?_)
            refine Run_b [.int .i64 3] 2 _ (by kernel_rfl) (fun w => by kernel_rfl) ?_
            refine Run_nil (by kernel_rfl) ?_
            refine Run_keep [2, 3] (L' := [(2, .pointer (some ⟨b1, 0, none⟩)), (3, .int .i64 3)]) (by kernel_rfl) ?_
            have hB2 := M.ret_some hB2
            have gx2 := houty2 _ hB2.symm
            have hB1 := M.cont_inr' hB1 gx2
            have hB1 := M.ret_some hB1
            have gx1 := houty1 _ hB1.symm
            have hF := M.cont_inr' hF gx1
            have hF := M.ret_some hF
            subst hF
            have H13 : Hold h h7 [own cd22 a5 x3.2.list.length c5 x3.2.list, box b1 94 [.int .i64 0, .int .i64 0, .int .i64 0], box bo 88 [.slice aomatrix o.matrix.length comatrix, .slice a5 x3.2.list.length c5], it] := H11.pick [2, 0, 1, 3] (by kernel_rfl)
            have H14 : Hold h h7 [box bo 88 [.slice aomatrix o.matrix.length comatrix, .slice a5 x3.2.list.length c5], own cd22 a5 x3.2.list.length c5 x3.2.list, it] := H13.pick [2, 0, 3] (by kernel_rfl)
            exact Run_ret2 rfl (ResV_cell (n := 3) (cs := [.int .i64 0, .int .i64 0, .int .i64 0]) (by kernel_rfl) (fun w => by kernel_rfl) (by kernel_rfl) rfl (H11.cells (n := 3) (off := 0) 0 rfl rfl)) (ResV_tmp (v := .int .i64 3) (by kernel_rfl)) ⟨a5, c5, rfl, H14⟩
          · have hB2 := (M.ite_some hB2).2 hb3
            refine Run_skip ?_
            refine Run_seq ?_
            obtain ⟨x4, hx2, hB2⟩ := M.bind_some hB2
            obtain ⟨hx2l, hx2u, hx2⟩ := M.idx_some hx2
            have H15 : Hold h h6 [own cd22 a5 x3.2.list.length c5 x3.2.list, box bo 88 [.slice aomatrix o.matrix.length comatrix, .slice a5 x3.2.list.length c5], box b1 94 [.int .i64 0, .int .i64 0, .int .i64 0], it] := H10.pick [1, 0, 2, 3] (by kernel_rfl)
            have H16 := H15.toRows
            obtain ⟨a6, c6, H17⟩ := H16.pinRow hx2
            have H18 : Hold h h6 [box bo 88 [.slice aomatrix o.matrix.length comatrix, .slice a5 x3.2.list.length c5], rowsP cd29 22 a5 x3.2.list.length c5 x3.2.list [(i1.toNat, a6, x4.length, c6, x4)], box b1 94 [.int .i64 0, .int .i64 0, .int .i64 0], it] := H17.pick [1, 0, 2, 3] (by kernel_rfl)
            obtain ⟨x5, hx3, hB2⟩ := M.bind_some hB2
            obtain ⟨hx3l, hx3u, hx3⟩ := M.idx_some hx3
            have H19 : Hold h h6 [rowsP cd29 22 a5 x3.2.list.length c5 x3.2.list [(i1.toNat, a6, x4.length, c6, x4)], box bo 88 [.slice aomatrix o.matrix.length comatrix, .slice a5 x3.2.list.length c5], box b1 94 [.int .i64 0, .int .i64 0, .int .i64 0], it] := H18.pick [1, 0, 2, 3] (by kernel_rfl)
            obtain ⟨a7, c7, H20⟩ := H19.pinRow hx3
            have H21 : Hold h h6 [box bo 88 [.slice aomatrix o.matrix.length comatrix, .slice a5 x3.2.list.length c5], rowsP cd29 22 a5 x3.2.list.length c5 x3.2.list [((w64 (i1 + s3.2)).toNat, a7, x5.length, c7, x5), (i1.toNat, a6, x4.length, c6, x4)], box b1 94 [.int .i64 0, .int .i64 0, .int .i64 0], it] := H20.pick [1, 0, 2, 3] (by kernel_rfl)
            obtain ⟨x6, hx4, hB2⟩ := M.bind_some hB2
            refine Run_draw 22 mixed (by kernel_rfl) (by kernel_rfl) (L' := [(0, .pointer (some ⟨bo, 0, none⟩)), (2, .pointer (some ⟨b1, 0, none⟩)), (4, .int .i64 i1), (5, .int .i64 s3.2), (6, .int .i64 x6.1), (7, .bool x6.2), (8, .int .i64 i1)]) ?_ ?_
            · refine QRun_b [.pointer (some ⟨bo, 0, none⟩), .pointer (some ⟨bo, 0, none⟩), .pointer (some ⟨bo, 1, none⟩)] 0 _ (by kernel_rfl) (fun w => by kernel_rfl) ?_
              refine QRun_y (.slice a5 x3.2.list.length c5) (by kernel_rfl) (Y_load1 (t := 86) (p := ⟨bo, 1, none⟩) (v := .slice a5 x3.2.list.length c5) (by kernel_rfl) (fun w => by kernel_rfl) (H10.cell 0 rfl rfl)) ?_
              refine QRun_b [.int .i64 i1] 4 _ (by kernel_rfl) (fun w => by kernel_rfl) ?_
              refine QRun_y (.pointer (some (adr a5 (i1.toNat * 1)))) (by kernel_rfl) (Y_idx (t := 86) (e := 22) (sz := 1) (a := a5) (n := x3.2.list.length) (cap := c5) (kk := .i64) (i := i1) (by kernel_rfl) Try.underlying86 (by kernel_rfl) ((H10.rd 1 rfl).cell hx2).1 hx2l hx2u) ?_
              refine QRun_y (.slice a6 x4.length c6) (by kernel_rfl) (Y_load1 (t := 22) (p := adr a5 (i1.toNat * 1)) (v := .slice a6 x4.length c6) (by kernel_rfl) (fun w => by kernel_rfl) (H18.cellPin 1 rfl 0 rfl)) ?_
              refine QRun_b [.pointer (some ⟨bo, 0, none⟩), .pointer (some ⟨bo, 0, none⟩), .pointer (some ⟨bo, 1, none⟩)] 7 _ (by kernel_rfl) (fun w => by kernel_rfl) ?_
              refine QRun_y (.slice a5 x3.2.list.length c5) (by kernel_rfl) (Y_load1 (t := 86) (p := ⟨bo, 1, none⟩) (v := .slice a5 x3.2.list.length c5) (by kernel_rfl) (fun w => by kernel_rfl) (H18.cell 0 rfl rfl)) ?_
              refine QRun_b [.int .i64 i1, .int .i64 s3.2, .int .i64 (w64 (i1 + s3.2))] 11 _ (by kernel_rfl) (fun w => by kernel_rfl) ?_
              refine QRun_y (.pointer (some (adr a5 ((w64 (i1 + s3.2)).toNat * 1)))) (by kernel_rfl) (Y_idx (t := 86) (e := 22) (sz := 1) (a := a5) (n := x3.2.list.length) (cap := c5) (kk := .i64) (i := w64 (i1 + s3.2)) (by kernel_rfl) Try.underlying86 (by kernel_rfl) ((H18.rdRows 1 rfl).cell hx3).1 hx3l hx3u) ?_
              refine QRun_y (.slice a7 x5.length c7) (by kernel_rfl) (Y_load1 (t := 22) (p := adr a5 ((w64 (i1 + s3.2)).toNat * 1)) (v := .slice a7 x5.length c7) (by kernel_rfl) (fun w => by kernel_rfl) (H21.cellPin 1 rfl 0 rfl)) ?_
              refine QRun_y (.tuple #[.int .i64 x6.1, .bool x6.2]) (by kernel_rfl) (Y_callq (f := 80) (args := #[.slice a6 x4.length c6, .slice a7 x5.length c7]) (v := .tuple #[.int .i64 x6.1, .bool x6.2]) (by kernel_rfl) (w_impl_growthBetween h6 x4 a6 c6 (H21.rdPin 1 rfl 1 rfl) x5 a7 c7 (H21.rdPin 1 rfl 0 rfl) _ _ hx4)) ?_
              refine QRun_b [.tuple #[.int .i64 x6.1, .bool x6.2], .int .i64 x6.1, .bool x6.2, .int .i64 x6.1, .bool x6.2] 17 _ (by kernel_rfl) (fun w => by kernel_rfl) ?_
              exact QRun_done [0, 2, 4, 5, 6, 7, 8] (by kernel_rfl) (by kernel_rfl)
            refine Run_seq ?_
            refine Run_reg 1 (by kernel_rfl) (L' := [(0, .pointer (some ⟨bo, 0, none⟩)), (2, .pointer (some ⟨b1, 0, none⟩)), (4, .int .i64 i1), (5, .int .i64 s3.2), (6, .int .i64 x6.1), (8, .int .i64 i1), (44, .bool x6.2)]) ?_ ?_
            · refine QRun_b [.bool x6.2] 0 _ (by kernel_rfl) (fun w => by kernel_rfl) ?_
              exact QRun_done [0, 2, 4, 5, 6, 8, 44] (by kernel_rfl) (by kernel_rfl)
            refine Run_cond (b := x6.2) (by kernel_rfl) (fun hb4 => ?_) (fun hb4 => ?_)
            · have hB2 := (M.ite_some hB2).1 hb4
              refine Run_seq ?_
              refine Run_ops ?_
              refine Run_b [.int .i64 i1, .int .i64 s3.2, .int .i64 x6.1, .agg #[.int .i64 i1, .int .i64 s3.2, .int .i64 x6.1]] 0 _ (by kernel_rfl) (fun w => by kernel_rfl) ?_
              have H23 : Hold h h6 [box b1 94 [.int .i64 0, .int .i64 0, .int .i64 0], box bo 88 [.slice aomatrix o.matrix.length comatrix, .slice a5 x3.2.list.length c5], rowsP cd29 22 a5 x3.2.list.length c5 x3.2.list [((w64 (i1 + s3.2)).toNat, a7, x5.length, c7, x5), (i1.toNat, a6, x4.length, c6, x4)], it] := H21.pick [2, 0, 1, 3] (by kernel_rfl)
              refine Run_E (by kernel_rfl) ?_
              refine E_bput (t := 94) (off := 0) (us := [.int .i64 i1, .int .i64 s3.2, .int .i64 x6.1]) (v := .agg #[.int .i64 i1, .int .i64 s3.2, .int .i64 x6.1]) H23 (by kernel_rfl) (by kernel_rfl) rfl (by kernel_rfl) rfl (fun h8 H22 => ?_)
              refine Run_b [.int .i64 0] 5 _ (by kernel_rfl) (fun w => by kernel_rfl) ?_
              refine Run_nil (by kernel_rfl) ?_
              refine Run_keep [2, 3] (L' := [(2, .pointer (some ⟨b1, 0, none⟩)), (3, .int .i64 0)]) (by kernel_rfl) ?_
              have hB2 := M.ret_some hB2
              have gx2 := houty2 _ hB2.symm
              have hB1 := M.cont_inr' hB1 gx2
              have hB1 := M.ret_some hB1
              have gx1 := houty1 _ hB1.symm
              have hF := M.cont_inr' hF gx1
              have hF := M.ret_some hF
              subst hF
              have H24 : Hold h h8 [rowsP cd29 22 a5 x3.2.list.length c5 x3.2.list [((w64 (i1 + s3.2)).toNat, a7, x5.length, c7, x5), (i1.toNat, a6, x4.length, c6, x4)], box b1 94 [.int .i64 i1, .int .i64 s3.2, .int .i64 x6.1], box bo 88 [.slice aomatrix o.matrix.length comatrix, .slice a5 x3.2.list.length c5], it] := H22.pick [2, 0, 1, 3] (by kernel_rfl)
              have H25 := H24.ofRows
              have H26 : Hold h h8 [box bo 88 [.slice aomatrix o.matrix.length comatrix, .slice a5 x3.2.list.length c5], own cd22 a5 x3.2.list.length c5 x3.2.list, it] := H25.pick [2, 0, 3] (by kernel_rfl)
              exact Run_ret2 rfl (ResV_cell (n := 3) (cs := [.int .i64 i1, .int .i64 s3.2, .int .i64 x6.1]) (by kernel_rfl) (fun w => by kernel_rfl) (by kernel_rfl) rfl (H22.cells (n := 3) (off := 0) 0 rfl rfl)) (ResV_tmp (v := .int .i64 0) (by kernel_rfl)) ⟨a5, c5, rfl, H26⟩
            · have hB2 := (M.ite_some hB2).2 hb4
              refine Run_skip ?_
              refine Run_blk ?_
              refine Run_reg 3 (by kernel_rfl) (L' := [(0, .pointer (some ⟨bo, 0, none⟩)), (2, .pointer (some ⟨b1, 0, none⟩)), (4, .int .i64 i1), (5, .int .i64 (w64 (s3.2 + 1))), (8, .int .i64 i1)]) ?_ ?_
              · refine QRun_b [.int .i64 s3.2, .int .i64 (w64 (s3.2 + 1)), .int .i64 (w64 (s3.2 + 1))] 0 _ (by kernel_rfl) (fun w => by kernel_rfl) ?_
                exact QRun_done [0, 2, 4, 5, 8] (by kernel_rfl) (by kernel_rfl)
              have H27 : Hold h h6 [rowsP cd29 22 a5 x3.2.list.length c5 x3.2.list [((w64 (i1 + s3.2)).toNat, a7, x5.length, c7, x5), (i1.toNat, a6, x4.length, c6, x4)], box bo 88 [.slice aomatrix o.matrix.length comatrix, .slice a5 x3.2.list.length c5], box b1 94 [.int .i64 0, .int .i64 0, .int .i64 0], it] := H21.pick [1, 0, 2, 3] (by kernel_rfl)
              have H28 := H27.ofRows
              have H29 : Hold h h6 [box bo 88 [.slice aomatrix o.matrix.length comatrix, .slice a5 x3.2.list.length c5], own cd22 a5 x3.2.list.length c5 x3.2.list, box b1 94 [.int .i64 0, .int .i64 0, .int .i64 0], it] := H28.pick [1, 0, 2, 3] (by kernel_rfl)
              have hB2 := M.ret_some hB2
              have gx2 := hgoy2 _ hB2.symm
              exact Run_again [0, 2, 4, 5, 8] (by kernel_rfl) my2 (Nat.lt_succ_self _) ⟨(x3.2.list, (w64 (s3.2 + 1))), a5, c5, gx2, rfl, H29⟩
        · have hB2 := (M.ite_some hB2).2 hb2
          refine Run_exit (k' := _) rfl ?_
          have H30 : Hold h h4 [own cd22 a3 s3.1.length c3 s3.1, box bo 88 [.slice aomatrix o.matrix.length comatrix, .slice a3 s3.1.length c3], box b1 94 [.int .i64 0, .int .i64 0, .int .i64 0], it] := H4.pick [1, 0, 2, 3] (by kernel_rfl)
          have H31 : Hold h h4 [box bo 88 [.slice aomatrix o.matrix.length comatrix, .slice a3 s3.1.length c3], own cd22 a3 s3.1.length c3 s3.1, box b1 94 [.int .i64 0, .int .i64 0, .int .i64 0], it] := H30.pick [1, 0, 2, 3] (by kernel_rfl)
          have hB2 := M.ret_some hB2
          have gx2 := houty2 _ hB2.symm
          subst gx2
          exact Run_fall [0, 2, 8] (by kernel_rfl) ⟨(s3.1, s3.2), a3, c3, rfl, rfl, H31⟩
    · have gx1 := M.for_end gx1 hb1
      subst gx1
      refine Run_exit (k' := _) rfl ?_
      have H36 : Hold h h2 [own cd22 a1 s1.length c1 s1, box bo 88 [.slice aomatrix o.matrix.length comatrix, .slice a1 s1.length c1], box b1 94 [.int .i64 0, .int .i64 0, .int .i64 0], it] := H2.pick [1, 0, 2, 3] (by kernel_rfl)
      have H37 : Hold h h2 [box bo 88 [.slice aomatrix o.matrix.length comatrix, .slice a1 s1.length c1], own cd22 a1 s1.length c1 s1, box b1 94 [.int .i64 0, .int .i64 0, .int .i64 0], it] := H36.pick [1, 0, 2, 3] (by kernel_rfl)
      exact Run_fall [2] (by kernel_rfl) ⟨s1, a1, c1, rfl, rfl, H37⟩

set_option maxRecDepth 100000 in
set_option maxHeartbeats 4000000 in
theorem w_impl_SteadyState (h : Heap) (a_ : List (List Int)) (aa_ : Option Addr) (ca_ : Nat) (ra_ : Rd cd29 h (Lt h) aa_ ca_ a_) (x_ : List Int) (ax_ : Option Addr) (cx_ : Nat) (rx_ : Rd cd2 h (Lt h) ax_ cx_ x_) (n : Nat) (r : (List Int) × Int) (hF : impl_SteadyState a_ x_ n = some r) :
    Fn Try.prog 34 #[.slice aa_ a_.length ca_, .slice ax_ x_.length cx_] h fun v h' => ∃ (a0 : Option Addr) (c0 : Nat), v = .tuple #[.slice a0 r.1.length c0, .int .i64 r.2] ∧ Hold h h' [own cd2 a0 r.1.length c0 r.1] := by
  unfold impl_SteadyState at hF
  refine Fn_enter (args := [.slice aa_ a_.length ca_, .slice ax_ x_.length cx_]) Try.func34 rfl (by kernel_rfl) (by kernel_rfl) (fun w0 _ => ?_)
  have H0 := Hold.init h
  refine Run_seq ?_
  refine Run_reg 2 (by kernel_rfl) (L' := [(0, .slice aa_ a_.length ca_), (1, .slice ax_ x_.length cx_)]) ?_ ?_
  · refine QRun_b [.slice none 0 0, .int .i64 0] 0 _ (by kernel_rfl) (fun w => by kernel_rfl) ?_
    exact QRun_done [0, 1] (by kernel_rfl) (by kernel_rfl)
  refine Run_seq ?_
  refine Run_seq ?_
  obtain ⟨x1, hx1, hF⟩ := M.bind_some hF
  refine Run_regC (j := 4) (C := fun x => Hold h x []) (by kernel_rfl) H0 (L' := [(0, .slice aa_ a_.length ca_), (1, .slice ax_ x_.length cx_), (6, .int .i64 x1)]) ?_ (fun h1 H1 => ?_)
  · refine QRun_b [.slice aa_ a_.length ca_, .slice ax_ x_.length cx_] 0 _ (by kernel_rfl) (fun w => by kernel_rfl) ?_
    refine QRun_y (.int .i64 x1) (by kernel_rfl) (Y_call (f := 84) (args := #[.slice aa_ a_.length ca_, .slice ax_ x_.length cx_]) (v := .int .i64 x1) (by kernel_rfl) fun hx Hx => (w_impl_checkOrbit hx a_ aa_ ca_ (ra_.at Hx.ext) x_ ax_ cx_ (rx_.at Hx.ext) _ _ hx1).mono fun _ _ ⟨e, H'⟩ => ⟨e, Hx.call H' rfl⟩) ?_
    refine QRun_b [.int .i64 x1] 3 _ (by kernel_rfl) (fun w => by kernel_rfl) ?_
    exact QRun_done [0, 1, 6] (by kernel_rfl) (by kernel_rfl)
  have H2 : Hold h h1 [] := H1
  refine Run_seq ?_
  refine Run_reg 2 (by kernel_rfl) (L' := [(0, .slice aa_ a_.length ca_), (1, .slice ax_ x_.length cx_), (6, .int .i64 x1), (16, .bool (x1 != 0))]) ?_ ?_
  · refine QRun_b [.int .i64 x1, .bool (x1 != 0)] 0 _ (by kernel_rfl) (fun w => by kernel_rfl) ?_
    exact QRun_done [0, 1, 6, 16] (by kernel_rfl) (by kernel_rfl)
  refine Run_cond (b := x1 != 0) (by kernel_rfl) (fun hb1 => ?_) (fun hb1 => ?_)
  · have hF := (M.ite_some hF).1 hb1
    refine Run_seq ?_
    refine Run_reg 3 (by kernel_rfl) (L' := [(4, .slice none 0 0), (5, .int .i64 x1)]) ?_ ?_
    · refine QRun_b [.int .i64 x1, .slice none 0 0, .int .i64 x1] 0 _ (by kernel_rfl) (fun w => by kernel_rfl) ?_
      exact QRun_done [4, 5] (by kernel_rfl) (by kernel_rfl)
    have hF := M.ret_some hF
    subst hF
    have H3 := H2.empty cd2
    exact Run_ret2 rfl (ResV_tmp (v := .slice none 0 0) (by kernel_rfl)) (ResV_tmp (v := .int .i64 x1) (by kernel_rfl)) ⟨none, 0, rfl, H3⟩
  · have hF := (M.ite_some hF).2 hb1
    refine Run_skip ?_
    refine Run_seq ?_
    refine Run_ops ?_
    refine Run_b [.slice aa_ a_.length ca_, .slice ax_ x_.length cx_] 0 _ (by kernel_rfl) (fun w => by kernel_rfl) ?_
    obtain ⟨x2, hx2, hF⟩ := M.bind_some hF
    refine Run_E (by kernel_rfl) ?_
    refine E_call (f := 85) (args := #[.slice aa_ a_.length ca_, .slice ax_ x_.length cx_]) (w_impl_vectorOrbit h1 a_ aa_ ca_ (ra_.at H2.ext) x_ ax_ cx_ (rx_.at H2.ext) _ _ hx2) (by kernel_rfl) (fun v1 h2 hp1 => ?_)
    obtain ⟨b1, a1, c1, a2, c2, rfl, hd1, H4⟩ := hp1
    have H5 : Hold h h2 [box b1 88 [.slice a1 x2.matrix.length c1, .slice a2 x2.list.length c2], own cd22 a2 x2.list.length c2 x2.list] := H2.call H4 rfl
    have r1 := ra_.alias hd1
    refine Run_b [.pointer (some ⟨b1, 0, none⟩)] 3 _ (by kernel_rfl) (fun w => by kernel_rfl) ?_
    refine Run_nil (by kernel_rfl) ?_
    refine Run_keep [7] (L' := [(7, .pointer (some ⟨b1, 0, none⟩))]) (by kernel_rfl) ?_
    refine Run_seq ?_
    refine Run_ops ?_
    refine Run_b [.pointer (some ⟨b1, 0, none⟩)] 0 _ (by kernel_rfl) (fun w => by kernel_rfl) ?_
    obtain ⟨x3, hx3, hF⟩ := M.bind_some hF
    have H6 : Hold h h2 [own cd22 a2 x2.list.length c2 x2.list, box b1 88 [.slice a1 x2.matrix.length c1, .slice a2 x2.list.length c2]] := H5.pick [1, 0] (by kernel_rfl)
    have H7 : Hold h h2 [box b1 88 [.slice a1 x2.matrix.length c1, .slice a2 x2.list.length c2], own cd22 a2 x2.list.length c2 x2.list] := H6.pick [1, 0] (by kernel_rfl)
    have H8 : Hold h h2 [box b1 88 [.slice a1 x2.matrix.length c1, .slice a2 x2.list.length c2], own cd22 a2 x2.list.length c2 x2.list, bun []] := Hold.bundle (S := [box b1 88 [.slice a1 x2.matrix.length c1, .slice a2 x2.list.length c2], own cd22 a2 x2.list.length c2 x2.list]) (R := []) H7
    refine Run_E (by kernel_rfl) ?_
    refine E_call (f := 88) (args := #[.pointer (some ⟨b1, 0, none⟩)]) (w_impl_orbit_firstRepeat_B h h2 _ x2 b1 a1 c1 r1 a2 c2 H8 _ _ hx3) (by kernel_rfl) (fun v2 h3 hp2 => ?_)
    obtain ⟨a3, c3, rfl, H9⟩ := hp2
    have H10 : Hold h h3 [box b1 88 [.slice a1 x2.matrix.length c1, .slice a3 x3.2.2.list.length c3], own cd22 a3 x3.2.2.list.length c3 x3.2.2.list] := Hold.unbundle (S := [box b1 88 [.slice a1 x2.matrix.length c1, .slice a3 x3.2.2.list.length c3], own cd22 a3 x3.2.2.list.length c3 x3.2.2.list]) (R := []) H9 (Hold.tailBase (S := [box b1 88 [.slice a1 x2.matrix.length c1, .slice a2 x2.list.length c2], own cd22 a2 x2.list.length c2 x2.list]) (R := []) H7)
    refine Run_b [.tuple #[.agg #[.int .i64 x3.1.at_, .int .i64 x3.1.period, .int .i64 x3.1.growth], .int .i64 x3.2.1], .agg #[.int .i64 x3.1.at_, .int .i64 x3.1.period, .int .i64 x3.1.growth], .int .i64 x3.2.1] 2 _ (by kernel_rfl) (fun w => by kernel_rfl) ?_
    refine Run_E (by kernel_rfl) ?_
    refine E_box (ty := 94) (cs := [.int .i64 0, .int .i64 0, .int .i64 0]) H10 (fun w => by kernel_rfl) (fun b2 h4 H11 => ?_)
    refine Run_E (by kernel_rfl) ?_
    refine E_bput (t := 94) (off := 0) (us := [.int .i64 x3.1.at_, .int .i64 x3.1.period, .int .i64 x3.1.growth]) (v := .agg #[.int .i64 x3.1.at_, .int .i64 x3.1.period, .int .i64 x3.1.growth]) H11 (by kernel_rfl) (by kernel_rfl) rfl (by kernel_rfl) rfl (fun h5 H12 => ?_)
    refine Run_b [.int .i64 x3.2.1] 7 _ (by kernel_rfl) (fun w => by kernel_rfl) ?_
    refine Run_nil (by kernel_rfl) ?_
    refine Run_keep [7, 8, 9] (L' := [(7, .pointer (some ⟨b1, 0, none⟩)), (8, .pointer (some ⟨b2, 0, none⟩)), (9, .int .i64 x3.2.1)]) (by kernel_rfl) ?_
    refine Run_seq ?_
    refine Run_seq ?_
    refine Run_reg 2 (by kernel_rfl) (L' := [(7, .pointer (some ⟨b1, 0, none⟩)), (8, .pointer (some ⟨b2, 0, none⟩)), (9, .int .i64 x3.2.1), (27, .bool (x3.2.1 != 0))]) ?_ ?_
    · refine QRun_b [.int .i64 x3.2.1, .bool (x3.2.1 != 0)] 0 _ (by kernel_rfl) (fun w => by kernel_rfl) ?_
      exact QRun_done [7, 8, 9, 27] (by kernel_rfl) (by kernel_rfl)
    refine Run_cond (b := x3.2.1 != 0) (by kernel_rfl) (fun hb2 => ?_) (fun hb2 => ?_)
    · have hF := (M.ite_some hF).1 hb2
      refine Run_seq ?_
      refine Run_reg 3 (by kernel_rfl) (L' := [(4, .slice none 0 0), (5, .int .i64 x3.2.1)]) ?_ ?_
      · refine QRun_b [.int .i64 x3.2.1, .slice none 0 0, .int .i64 x3.2.1] 0 _ (by kernel_rfl) (fun w => by kernel_rfl) ?_
        exact QRun_done [4, 5] (by kernel_rfl) (by kernel_rfl)
      have hF := M.ret_some hF
      subst hF
      have H13 := H12.empty cd2
      have H14 : Hold h h5 [own cd2 none 0 0 []] := H13.pick [0] (by kernel_rfl)
      exact Run_ret2 rfl (ResV_tmp (v := .slice none 0 0) (by kernel_rfl)) (ResV_tmp (v := .int .i64 x3.2.1) (by kernel_rfl)) ⟨none, 0, rfl, H14⟩
    · have hF := (M.ite_some hF).2 hb2
      refine Run_skip ?_
      refine Run_seq ?_
      obtain ⟨x4, hx4, hF⟩ := M.bind_some hF
      obtain ⟨hx4l, hx4u, hx4⟩ := M.idx_some hx4
      have H15 : Hold h h5 [own cd22 a3 x3.2.2.list.length c3 x3.2.2.list, box b2 94 [.int .i64 x3.1.at_, .int .i64 x3.1.period, .int .i64 x3.1.growth], box b1 88 [.slice a1 x2.matrix.length c1, .slice a3 x3.2.2.list.length c3]] := H12.pick [2, 0, 1] (by kernel_rfl)
      have H16 := H15.toRows
      obtain ⟨a4, c4, H17⟩ := H16.pinRow hx4
      have H18 : Hold h h5 [box b2 94 [.int .i64 x3.1.at_, .int .i64 x3.1.period, .int .i64 x3.1.growth], box b1 88 [.slice a1 x2.matrix.length c1, .slice a3 x3.2.2.list.length c3], rowsP cd29 22 a3 x3.2.2.list.length c3 x3.2.2.list [(x3.1.at_.toNat, a4, x4.length, c4, x4)]] := H17.pick [1, 2, 0] (by kernel_rfl)
      refine Run_D (fun x => Hold h x [box b2 94 [.int .i64 x3.1.at_, .int .i64 x3.1.period, .int .i64 x3.1.growth], box b1 88 [.slice a1 x2.matrix.length c1, .slice a3 x3.2.2.list.length c3], rowsP cd29 22 a3 x3.2.2.list.length c3 x3.2.2.list [(x3.1.at_.toNat, a4, x4.length, c4, x4)]]) (fun x => Hold h x [box b2 94 [.int .i64 x3.1.at_, .int .i64 x3.1.period, .int .i64 x3.1.growth], box b1 88 [.slice a1 x2.matrix.length c1, .slice a3 x3.2.2.list.length c3], rowsP cd29 22 a3 x3.2.2.list.length c3 x3.2.2.list [(x3.1.at_.toNat, a4, x4.length, c4, x4)]]) mixed (by kernel_rfl) H18 Hold.stable (fun x Hy => (show Hold h x [box b2 94 [.int .i64 x3.1.at_, .int .i64 x3.1.period, .int .i64 x3.1.growth], box b1 88 [.slice a1 x2.matrix.length c1, .slice a3 x3.2.2.list.length c3], rowsP cd29 22 a3 x3.2.2.list.length c3 x3.2.2.list [(x3.1.at_.toNat, a4, x4.length, c4, x4)]] from Hy).pick [0, 1, 2] (by kernel_rfl)) ?_
      refine DR_b 9 [.pointer (some ⟨b1, 0, none⟩), .pointer (some ⟨b1, 0, none⟩), .pointer (some ⟨b1, 1, none⟩)] 0 (by kernel_rfl) (by kernel_rfl) (by kernel_rfl) (fun w => by kernel_rfl) ?_
      refine DR_y 8 (i := 3) (.slice a3 x3.2.2.list.length c3) (by kernel_rfl) (by kernel_rfl) (by kernel_rfl) (fun hx Hx => (YE.of (Y_load1 (t := 86) (p := ⟨b1, 1, none⟩) (v := .slice a3 x3.2.2.list.length c3) (by kernel_rfl) (fun w => by kernel_rfl) (Hx.cell 1 rfl rfl)))) ?_
      refine DR_b 7 [.pointer (some ⟨b2, 0, none⟩)] 4 (by kernel_rfl) (by kernel_rfl) (by kernel_rfl) (fun w => by kernel_rfl) ?_
      refine DR_y 6 (i := 5) (.int .i64 x3.1.at_) (by kernel_rfl) (by kernel_rfl) (by kernel_rfl) (fun hx Hx => (YE.of (Y_load1 (t := 2) (p := ⟨b2, 0, none⟩) (v := .int .i64 x3.1.at_) (by kernel_rfl) (fun w => by kernel_rfl) (Hx.cell 0 rfl rfl)))) ?_
      refine DR_y 5 (i := 6) (.pointer (some (adr a3 (x3.1.at_.toNat * 1)))) (by kernel_rfl) (by kernel_rfl) (by kernel_rfl) (fun hx Hx => (YE.of (Y_idx (t := 86) (e := 22) (sz := 1) (a := a3) (n := x3.2.2.list.length) (cap := c3) (kk := .i64) (i := x3.1.at_) (by kernel_rfl) Try.underlying86 (by kernel_rfl) ((H12.rd 2 rfl).cell hx4).1 hx4l hx4u))) ?_
      refine DR_y 4 (i := 7) (.slice a4 x4.length c4) (by kernel_rfl) (by kernel_rfl) (by kernel_rfl) (fun hx Hx => (YE.of (Y_load1 (t := 22) (p := adr a3 (x3.1.at_.toNat * 1)) (v := .slice a4 x4.length c4) (by kernel_rfl) (fun w => by kernel_rfl) (Hx.cellPin 2 rfl 0 rfl)))) ?_
      refine DR_tail (i := 8) (by kernel_rfl) (by kernel_rfl) (by kernel_rfl) (fun h6 H19 => ?_)
      have H20 : Hold h h6 [box b2 94 [.int .i64 x3.1.at_, .int .i64 x3.1.period, .int .i64 x3.1.growth], box b1 88 [.slice a1 x2.matrix.length c1, .slice a3 x3.2.2.list.length c3], rowsP cd29 22 a3 x3.2.2.list.length c3 x3.2.2.list [(x3.1.at_.toNat, a4, x4.length, c4, x4)]] := H19
      obtain ⟨x5, hx5, hF⟩ := M.bind_some hF
      refine Run_E (by kernel_rfl) ?_
      refine E_call (f := 86) (args := #[.slice a4 x4.length c4]) (w_impl_transposed h6 x4 a4 c4 (H20.rdPin 2 rfl 0 rfl) _ _ hx5) (by kernel_rfl) (fun v3 h7 hp3 => ?_)
      obtain ⟨a5, c5, rfl, H21⟩ := hp3
      have H22 : Hold h h7 [own cd29 a5 x5.length c5 x5, box b2 94 [.int .i64 x3.1.at_, .int .i64 x3.1.period, .int .i64 x3.1.growth], box b1 88 [.slice a1 x2.matrix.length c1, .slice a3 x3.2.2.list.length c3], rowsP cd29 22 a3 x3.2.2.list.length c3 x3.2.2.list [(x3.1.at_.toNat, a4, x4.length, c4, x4)]] := H20.call H21 rfl
      obtain ⟨x6, hx6, hF⟩ := M.bind_some hF
      obtain ⟨hx6l, hx6u, hx6⟩ := M.idx_some hx6
      obtain ⟨a6, c6, hc1, H23⟩ := H22.takeRow hx6
      refine Run_y (.pointer (some (adr a5 (0 * 1)))) (by kernel_rfl) (Y_idx (t := 22) (e := 29) (sz := 1) (a := a5) (n := x5.length) (cap := c5) (kk := .i64) (i := 0) (by kernel_rfl) Try.underlying22 (by kernel_rfl) ((H22.rd 0 rfl).cell hx6).1 hx6l hx6u) ?_
      refine Run_y (.slice a6 x6.length c6) (by kernel_rfl) (Y_load1 (t := 29) (p := adr a5 (0 * 1)) (v := .slice a6 x6.length c6) (by kernel_rfl) (fun w => by kernel_rfl) hc1) ?_
      refine Run_b [.slice a6 x6.length c6] 11 _ (by kernel_rfl) (fun w => by kernel_rfl) ?_
      refine Run_nil (by kernel_rfl) ?_
      refine Run_keep [10] (L' := [(10, .slice a6 x6.length c6)]) (by kernel_rfl) ?_
      refine Run_seq ?_
      refine Run_seq ?_
      obtain ⟨x7, hx7, hF⟩ := M.bind_some hF
      refine Run_reg 3 (by kernel_rfl) (L' := [(10, .slice a6 x6.length c6), (11, .int .i64 x7)]) ?_ ?_
      · refine QRun_b [.slice a6 x6.length c6] 0 _ (by kernel_rfl) (fun w => by kernel_rfl) ?_
        refine QRun_y (.int .i64 x7) (by kernel_rfl) (Y_callq (f := 97) (args := #[.slice a6 x6.length c6]) (v := .int .i64 x7) (by kernel_rfl) (w_impl_sumOf h7 x6 a6 c6 (H23.rd 0 rfl) _ _ hx7)) ?_
        refine QRun_b [.int .i64 x7] 2 _ (by kernel_rfl) (fun w => by kernel_rfl) ?_
        exact QRun_done [10, 11] (by kernel_rfl) (by kernel_rfl)
      refine Run_seq ?_
      refine Run_reg 2 (by kernel_rfl) (L' := [(10, .slice a6 x6.length c6), (11, .int .i64 x7), (43, .bool (x7 != (-1000000000000000)))]) ?_ ?_
      · refine QRun_b [.int .i64 x7, .bool (x7 != (-1000000000000000))] 0 _ (by kernel_rfl) (fun w => by kernel_rfl) ?_
        exact QRun_done [10, 11, 43] (by kernel_rfl) (by kernel_rfl)
      obtain ⟨s1, gs1, hF⟩ := M.bind_some hF
      refine Run_join (fun L' h' => ∃ (a8 : Option Addr), ∃ (c8 : Nat), L' = [(10, .slice a8 s1.length c8)] ∧ Hold h h' [own cd2 a8 s1.length c8 s1]) ?_ ?_
      · rintro _ h9 ⟨a8, c8, rfl, H26⟩
        refine Run_seq ?_
        refine Run_ops ?_
        refine Run_b [.slice a8 s1.length c8] 0 _ (by kernel_rfl) (fun w => by kernel_rfl) ?_
        obtain ⟨x9, hx9, hF⟩ := M.bind_some hF
        refine Run_E (by kernel_rfl) ?_
        refine E_call (f := 99) (args := #[.slice a8 s1.length c8]) (w_impl_checkedVector h9 s1 a8 c8 (H26.rd 0 rfl) _ _ hx9) (by kernel_rfl) (fun v5 h10 hp5 => ?_)
        obtain ⟨a9, c9, rfl, hd2, H29⟩ := hp5
        have H30 : Hold h h10 [own cd2 a8 s1.length c8 s1] := H26.call H29 rfl
        have H31 := H30.alias hd2
        refine Run_b [.slice a9 x9.1.length c9, .int .i64 x9.2, .slice a9 x9.1.length c9, .int .i64 x9.2] 2 _ (by kernel_rfl) (fun w => by kernel_rfl) ?_
        refine Run_nil (by kernel_rfl) ?_
        refine Run_keep [4, 5] (L' := [(4, .slice a9 x9.1.length c9), (5, .int .i64 x9.2)]) (by kernel_rfl) ?_
        have hF := M.ret_some hF
        subst hF
        exact Run_ret2 rfl (ResV_tmp (v := .slice a9 x9.1.length c9) (by kernel_rfl)) (ResV_tmp (v := .int .i64 x9.2) (by kernel_rfl)) ⟨a9, c9, rfl, H31⟩
      · refine Run_cond (b := x7 != (-1000000000000000)) (by kernel_rfl) (fun hb3 => ?_) (fun hb3 => ?_)
        · have gs1 := (M.ite_some gs1).1 hb3
          refine Run_ops ?_
          refine Run_b [.slice a6 x6.length c6, .int .i64 x7, .int .i64 (w64 (0 - x7))] 0 _ (by kernel_rfl) (fun w => by kernel_rfl) ?_
          obtain ⟨x8, hx8, gs1⟩ := M.bind_some gs1
          refine Run_E (by kernel_rfl) ?_
          refine E_call (f := 98) (args := #[.slice a6 x6.length c6, .int .i64 (w64 (0 - x7))]) (w_impl_shiftedVector h7 x6 a6 c6 (H23.rd 0 rfl) (w64 (0 - x7)) _ _ hx8) (by kernel_rfl) (fun v4 h8 hp4 => ?_)
          obtain ⟨a7, c7, rfl, H24⟩ := hp4
          have H25 : Hold h h8 [own cd2 a7 x8.length c7 x8, own cd2 a6 x6.length c6 x6, rest cd2 29 a5 x5.length c5 x5 0 a6 x6.length c6, box b2 94 [.int .i64 x3.1.at_, .int .i64 x3.1.period, .int .i64 x3.1.growth], box b1 88 [.slice a1 x2.matrix.length c1, .slice a3 x3.2.2.list.length c3], rowsP cd29 22 a3 x3.2.2.list.length c3 x3.2.2.list [(x3.1.at_.toNat, a4, x4.length, c4, x4)]] := H23.call H24 rfl
          refine Run_b [.slice a7 x8.length c7] 4 _ (by kernel_rfl) (fun w => by kernel_rfl) ?_
          refine Run_nil (by kernel_rfl) ?_
          refine Run_keep [10] (L' := [(10, .slice a7 x8.length c7)]) (by kernel_rfl) ?_
          have H27 : Hold h h8 [own cd2 a7 x8.length c7 x8] := H25.pick [0] (by kernel_rfl)
          have gs1 := M.ret_some gs1
          subst gs1
          exact Run_fall [10] (by kernel_rfl) ⟨a7, c7, rfl, H27⟩
        · have gs1 := (M.ite_some gs1).2 hb3
          refine Run_skip ?_
          have H28 : Hold h h7 [own cd2 a6 x6.length c6 x6] := H23.pick [0] (by kernel_rfl)
          have gs1 := M.ret_some gs1
          subst gs1
          exact Run_fall [10] (by kernel_rfl) ⟨a6, c6, rfl, H28⟩

set_option maxRecDepth 100000 in
set_option maxHeartbeats 4000000 in
theorem w_laws_eqInt64S (h : Heap) (a_ : List Int) {Sa_ : Bs} (aa_ : Option Addr) (ca_ : Nat) (ra_ : Rd cd2 h Sa_ aa_ ca_ a_) (b : List Int) {Sb : Bs} (ab : Option Addr) (cb : Nat) (rb : Rd cd2 h Sb ab cb b) (n : Nat) (r : Bool) (hF : laws_eqInt64S a_ b n = some r) :
    Fn Try.prog 23 #[.slice aa_ a_.length ca_, .slice ab b.length cb] h fun v h' => v = .bool r ∧ h' = h := by
  unfold laws_eqInt64S at hF
  refine Fn_enter (args := [.slice aa_ a_.length ca_, .slice ab b.length cb]) Try.func23 rfl (by kernel_rfl) (by kernel_rfl) (fun w0 _ => ?_)
  refine Run_seq ?_
  refine Run_reg 1 (by kernel_rfl) (L' := [(0, .slice aa_ a_.length ca_), (1, .slice ab b.length cb)]) ?_ ?_
  · refine QRun_b [.bool false] 0 _ (by kernel_rfl) (fun w => by kernel_rfl) ?_
    exact QRun_done [0, 1] (by kernel_rfl) (by kernel_rfl)
  refine Run_seq ?_
  refine Run_seq ?_
  refine Run_reg 5 (by kernel_rfl) (L' := [(0, .slice aa_ a_.length ca_), (1, .slice ab b.length cb), (10, .bool ((a_.length : Int) != (b.length : Int)))]) ?_ ?_
  · refine QRun_b [.slice aa_ a_.length ca_, .int .i64 (a_.length : Int), .slice ab b.length cb, .int .i64 (b.length : Int), .bool ((a_.length : Int) != (b.length : Int))] 0 _ (by kernel_rfl) (fun w => by kernel_rfl) ?_
    exact QRun_done [0, 1, 10] (by kernel_rfl) (by kernel_rfl)
  refine Run_cond (b := (a_.length : Int) != (b.length : Int)) (by kernel_rfl) (fun hb1 => ?_) (fun hb1 => ?_)
  · have hF := (M.ite_some hF).1 hb1
    refine Run_seq ?_
    refine Run_reg 1 (by kernel_rfl) (L' := [(4, .bool false)]) ?_ ?_
    · refine QRun_b [.bool false] 0 _ (by kernel_rfl) (fun w => by kernel_rfl) ?_
      exact QRun_done [4] (by kernel_rfl) (by kernel_rfl)
    have hF := M.ret_some hF
    subst hF
    exact Run_ret1 rfl (ResV_tmp (v := .bool false) (by kernel_rfl)) ⟨rfl, rfl⟩
  · have hF := (M.ite_some hF).2 hb1
    refine Run_skip ?_
    refine Run_seq ?_
    refine Run_seq ?_
    refine Run_reg 1 (by kernel_rfl) (L' := [(0, .slice aa_ a_.length ca_), (1, .slice ab b.length cb), (5, .int .i64 0)]) ?_ ?_
    · refine QRun_b [.int .i64 0] 0 _ (by kernel_rfl) (fun w => by kernel_rfl) ?_
      exact QRun_done [0, 1, 5] (by kernel_rfl) (by kernel_rfl)
    obtain ⟨x1, gx1, hF⟩ := M.bind_some hF
    obtain ⟨hloy1, hhiy1, gx1⟩ := M.for_start gx1
    refine Run_join (fun L' h' => ∃ (s2 : Unit), x1 = .inl s2 ∧ L' = [] ∧ h = h') ?_ ?_
    · rintro _ _ ⟨s2, es2, rfl, rfl⟩
      have hF := M.cont_inl' hF es2
      refine Run_seq ?_
      refine Run_reg 1 (by kernel_rfl) (L' := [(4, .bool true)]) ?_ ?_
      · refine QRun_b [.bool true] 0 _ (by kernel_rfl) (fun w => by kernel_rfl) ?_
        exact QRun_done [4] (by kernel_rfl) (by kernel_rfl)
      have hF := M.ret_some hF
      subst hF
      exact Run_ret1 rfl (ResV_tmp (v := .bool true) (by kernel_rfl)) ⟨rfl, rfl⟩
    · refine Run_block ?_
      refine Run_keep [0, 1, 5] (L' := [(0, .slice aa_ a_.length ca_), (1, .slice ab b.length cb), (5, .int .i64 0)]) (by kernel_rfl) ?_
      refine Run_loop (fun m L' h' => ∃ (i1 : Int) (s1 : Unit), 0 ≤ i1 ∧ M.forN (a_.length : Int) _ _ n m i1 s1 = some x1 ∧ L' = [(0, .slice aa_ a_.length ca_), (1, .slice ab b.length cb), (5, .int .i64 i1)] ∧ h = h') ((a_.length : Int) - 0 : Int).toNat ⟨0, (), Int.le_refl _, gx1, rfl, rfl⟩ ?_
      rintro my1 _ _ ⟨i1, s1, hloy1', gx1, rfl, rfl⟩
      refine Run_seq ?_
      refine Run_seq ?_
      refine Run_reg 4 (by kernel_rfl) (L' := [(0, .slice aa_ a_.length ca_), (1, .slice ab b.length cb), (5, .int .i64 i1), (14, .bool (decide (i1 < (a_.length : Int))))]) ?_ ?_
      · refine QRun_b [.int .i64 i1, .slice aa_ a_.length ca_, .int .i64 (a_.length : Int), .bool (decide (i1 < (a_.length : Int)))] 0 _ (by kernel_rfl) (fun w => by kernel_rfl) ?_
        exact QRun_done [0, 1, 5, 14] (by kernel_rfl) (by kernel_rfl)
      refine Run_cond (b := decide (i1 < (a_.length : Int))) (by kernel_rfl) (fun hb2 => ?_) (fun hb2 => ?_)
      · obtain ⟨my1, y1, rfl, hB1, hgoy1, houty1⟩ := M.for_go gx1 hb2
        have hlty1 := of_decide_eq_true hb2
        refine Run_skip ?_
        refine Run_seq ?_
        refine Run_block ?_
        refine Run_seq ?_
        obtain ⟨x2, hx1, hB1⟩ := M.bind_some hB1
        obtain ⟨hx1l, hx1u, hx1⟩ := M.idx_some hx1
        obtain ⟨x3, hx2, hB1⟩ := M.bind_some hB1
        obtain ⟨hx2l, hx2u, hx2⟩ := M.idx_some hx2
        refine Run_draw 9 mixed (by kernel_rfl) (by kernel_rfl) (L' := [(0, .slice aa_ a_.length ca_), (1, .slice ab b.length cb), (5, .int .i64 i1), (25, .bool (x2 != x3))]) ?_ ?_
        · refine QRun_b [.slice aa_ a_.length ca_, .int .i64 i1] 0 _ (by kernel_rfl) (fun w => by kernel_rfl) ?_
          refine QRun_y (.pointer (some (adr aa_ (i1.toNat * 1)))) (by kernel_rfl) (Y_idx (t := 29) (e := 2) (sz := 1) (a := aa_) (n := a_.length) (cap := ca_) (kk := .i64) (i := i1) (by kernel_rfl) Try.underlying29 (by kernel_rfl) (ra_.cell hx1).1 hx1l hx1u) ?_
          refine QRun_y (.int .i64 x2) (by kernel_rfl) (Y_load1 (t := 2) (p := adr aa_ (i1.toNat * 1)) (v := .int .i64 x2) (by kernel_rfl) (fun w => by kernel_rfl) (cd2_cell ra_ hx1)) ?_
          refine QRun_b [.slice ab b.length cb, .int .i64 i1] 4 _ (by kernel_rfl) (fun w => by kernel_rfl) ?_
          refine QRun_y (.pointer (some (adr ab (i1.toNat * 1)))) (by kernel_rfl) (Y_idx (t := 29) (e := 2) (sz := 1) (a := ab) (n := b.length) (cap := cb) (kk := .i64) (i := i1) (by kernel_rfl) Try.underlying29 (by kernel_rfl) (rb.cell hx2).1 hx2l hx2u) ?_
          refine QRun_y (.int .i64 x3) (by kernel_rfl) (Y_load1 (t := 2) (p := adr ab (i1.toNat * 1)) (v := .int .i64 x3) (by kernel_rfl) (fun w => by kernel_rfl) (cd2_cell rb hx2)) ?_
          refine QRun_b [.bool (x2 != x3)] 8 _ (by kernel_rfl) (fun w => by kernel_rfl) ?_
          exact QRun_done [0, 1, 5, 25] (by kernel_rfl) (by kernel_rfl)
        refine Run_cond (b := x2 != x3) (by kernel_rfl) (fun hb3 => ?_) (fun hb3 => ?_)
        · have hB1 := (M.ite_some hB1).1 hb3
          refine Run_seq ?_
          refine Run_reg 1 (by kernel_rfl) (L' := [(4, .bool false)]) ?_ ?_
          · refine QRun_b [.bool false] 0 _ (by kernel_rfl) (fun w => by kernel_rfl) ?_
            exact QRun_done [4] (by kernel_rfl) (by kernel_rfl)
          have hB1 := M.ret_some hB1
          have gx1 := houty1 _ hB1.symm
          have hF := M.cont_inr' hF gx1
          have hF := M.ret_some hF
          subst hF
          exact Run_ret1 rfl (ResV_tmp (v := .bool false) (by kernel_rfl)) ⟨rfl, rfl⟩
        · have hB1 := (M.ite_some hB1).2 hb3
          refine Run_skip ?_
          refine Run_blk ?_
          refine Run_reg 3 (by kernel_rfl) (L' := [(0, .slice aa_ a_.length ca_), (1, .slice ab b.length cb), (5, .int .i64 (i1 + 1))]) ?_ ?_
          · refine QRun_b [.int .i64 i1] 0 _ (by kernel_rfl) (fun w => by kernel_rfl) ?_
            refine QRun_y (.int .i64 (i1 + 1)) (by kernel_rfl) (Y_eq (v := .int .i64 (w64 (i1 + 1))) (Y_pure (fun w => by kernel_rfl)) (by rw [w64_eq _ (by omega)])) ?_
            refine QRun_b [.int .i64 (i1 + 1)] 2 _ (by kernel_rfl) (fun w => by kernel_rfl) ?_
            exact QRun_done [0, 1, 5] (by kernel_rfl) (by kernel_rfl)
          have hB1 := M.ret_some hB1
          have gx1 := hgoy1 _ hB1.symm
          exact Run_again [0, 1, 5] (by kernel_rfl) my1 (Nat.lt_succ_self _) ⟨i1 + 1, (), by omega, gx1, rfl, rfl⟩
      · have gx1 := M.for_end gx1 hb2
        subst gx1
        refine Run_exit (k' := _) rfl ?_
        exact Run_fall [] (by kernel_rfl) ⟨(), rfl, rfl, rfl⟩

set_option maxRecDepth 100000 in
set_option maxHeartbeats 4000000 in
theorem w_laws_eqInt64SS (h : Heap) (a_ : List (List Int)) {Sa_ : Bs} (aa_ : Option Addr) (ca_ : Nat) (ra_ : Rd cd29 h Sa_ aa_ ca_ a_) (b : List (List Int)) {Sb : Bs} (ab : Option Addr) (cb : Nat) (rb : Rd cd29 h Sb ab cb b) (n : Nat) (r : Bool) (hF : laws_eqInt64SS a_ b n = some r) :
    Fn Try.prog 19 #[.slice aa_ a_.length ca_, .slice ab b.length cb] h fun v h' => v = .bool r ∧ h' = h := by
  unfold laws_eqInt64SS at hF
  refine Fn_enter (args := [.slice aa_ a_.length ca_, .slice ab b.length cb]) Try.func19 rfl (by kernel_rfl) (by kernel_rfl) (fun w0 _ => ?_)
  refine Run_seq ?_
  refine Run_reg 1 (by kernel_rfl) (L' := [(0, .slice aa_ a_.length ca_), (1, .slice ab b.length cb)]) ?_ ?_
  · refine QRun_b [.bool false] 0 _ (by kernel_rfl) (fun w => by kernel_rfl) ?_
    exact QRun_done [0, 1] (by kernel_rfl) (by kernel_rfl)
  refine Run_seq ?_
  refine Run_seq ?_
  refine Run_reg 5 (by kernel_rfl) (L' := [(0, .slice aa_ a_.length ca_), (1, .slice ab b.length cb), (10, .bool ((a_.length : Int) != (b.length : Int)))]) ?_ ?_
  · refine QRun_b [.slice aa_ a_.length ca_, .int .i64 (a_.length : Int), .slice ab b.length cb, .int .i64 (b.length : Int), .bool ((a_.length : Int) != (b.length : Int))] 0 _ (by kernel_rfl) (fun w => by kernel_rfl) ?_
    exact QRun_done [0, 1, 10] (by kernel_rfl) (by kernel_rfl)
  refine Run_cond (b := (a_.length : Int) != (b.length : Int)) (by kernel_rfl) (fun hb1 => ?_) (fun hb1 => ?_)
  · have hF := (M.ite_some hF).1 hb1
    refine Run_seq ?_
    refine Run_reg 1 (by kernel_rfl) (L' := [(4, .bool false)]) ?_ ?_
    · refine QRun_b [.bool false] 0 _ (by kernel_rfl) (fun w => by kernel_rfl) ?_
      exact QRun_done [4] (by kernel_rfl) (by kernel_rfl)
    have hF := M.ret_some hF
    subst hF
    exact Run_ret1 rfl (ResV_tmp (v := .bool false) (by kernel_rfl)) ⟨rfl, rfl⟩
  · have hF := (M.ite_some hF).2 hb1
    refine Run_skip ?_
    refine Run_seq ?_
    refine Run_seq ?_
    refine Run_reg 1 (by kernel_rfl) (L' := [(0, .slice aa_ a_.length ca_), (1, .slice ab b.length cb), (5, .int .i64 0)]) ?_ ?_
    · refine QRun_b [.int .i64 0] 0 _ (by kernel_rfl) (fun w => by kernel_rfl) ?_
      exact QRun_done [0, 1, 5] (by kernel_rfl) (by kernel_rfl)
    obtain ⟨x1, gx1, hF⟩ := M.bind_some hF
    obtain ⟨hloy1, hhiy1, gx1⟩ := M.for_start gx1
    refine Run_join (fun L' h' => ∃ (s2 : Unit), x1 = .inl s2 ∧ L' = [] ∧ h = h') ?_ ?_
    · rintro _ _ ⟨s2, es2, rfl, rfl⟩
      have hF := M.cont_inl' hF es2
      refine Run_seq ?_
      refine Run_reg 1 (by kernel_rfl) (L' := [(4, .bool true)]) ?_ ?_
      · refine QRun_b [.bool true] 0 _ (by kernel_rfl) (fun w => by kernel_rfl) ?_
        exact QRun_done [4] (by kernel_rfl) (by kernel_rfl)
      have hF := M.ret_some hF
      subst hF
      exact Run_ret1 rfl (ResV_tmp (v := .bool true) (by kernel_rfl)) ⟨rfl, rfl⟩
    · refine Run_block ?_
      refine Run_keep [0, 1, 5] (L' := [(0, .slice aa_ a_.length ca_), (1, .slice ab b.length cb), (5, .int .i64 0)]) (by kernel_rfl) ?_
      refine Run_loop (fun m L' h' => ∃ (i1 : Int) (s1 : Unit), 0 ≤ i1 ∧ M.forN (a_.length : Int) _ _ n m i1 s1 = some x1 ∧ L' = [(0, .slice aa_ a_.length ca_), (1, .slice ab b.length cb), (5, .int .i64 i1)] ∧ h = h') ((a_.length : Int) - 0 : Int).toNat ⟨0, (), Int.le_refl _, gx1, rfl, rfl⟩ ?_
      rintro my1 _ _ ⟨i1, s1, hloy1', gx1, rfl, rfl⟩
      refine Run_seq ?_
      refine Run_seq ?_
      refine Run_reg 4 (by kernel_rfl) (L' := [(0, .slice aa_ a_.length ca_), (1, .slice ab b.length cb), (5, .int .i64 i1), (14, .bool (decide (i1 < (a_.length : Int))))]) ?_ ?_
      · refine QRun_b [.int .i64 i1, .slice aa_ a_.length ca_, .int .i64 (a_.length : Int), .bool (decide (i1 < (a_.length : Int)))] 0 _ (by kernel_rfl) (fun w => by kernel_rfl) ?_
        exact QRun_done [0, 1, 5, 14] (by kernel_rfl) (by kernel_rfl)
      refine Run_cond (b := decide (i1 < (a_.length : Int))) (by kernel_rfl) (fun hb2 => ?_) (fun hb2 => ?_)
      · obtain ⟨my1, y1, rfl, hB1, hgoy1, houty1⟩ := M.for_go gx1 hb2
        have hlty1 := of_decide_eq_true hb2
        refine Run_skip ?_
        refine Run_seq ?_
        refine Run_block ?_
        refine Run_seq ?_
        obtain ⟨x2, hx1, hB1⟩ := M.bind_some hB1
        obtain ⟨hx1l, hx1u, hx1⟩ := M.idx_some hx1
        obtain ⟨a1, c1, hc1, r1⟩ := ra_.row hx1
        obtain ⟨x3, hx2, hB1⟩ := M.bind_some hB1
        obtain ⟨hx2l, hx2u, hx2⟩ := M.idx_some hx2
        obtain ⟨a2, c2, hc2, r2⟩ := rb.row hx2
        obtain ⟨x4, hx3, hB1⟩ := M.bind_some hB1
        refine Run_draw 10 mixed (by kernel_rfl) (by kernel_rfl) (L' := [(0, .slice aa_ a_.length ca_), (1, .slice ab b.length cb), (5, .int .i64 i1), (26, .bool (!x4))]) ?_ ?_
        · refine QRun_b [.slice aa_ a_.length ca_, .int .i64 i1] 0 _ (by kernel_rfl) (fun w => by kernel_rfl) ?_
          refine QRun_y (.pointer (some (adr aa_ (i1.toNat * 1)))) (by kernel_rfl) (Y_idx (t := 22) (e := 29) (sz := 1) (a := aa_) (n := a_.length) (cap := ca_) (kk := .i64) (i := i1) (by kernel_rfl) Try.underlying22 (by kernel_rfl) (ra_.cell hx1).1 hx1l hx1u) ?_
          refine QRun_y (.slice a1 x2.length c1) (by kernel_rfl) (Y_load1 (t := 29) (p := adr aa_ (i1.toNat * 1)) (v := .slice a1 x2.length c1) (by kernel_rfl) (fun w => by kernel_rfl) hc1) ?_
          refine QRun_b [.slice ab b.length cb, .int .i64 i1] 4 _ (by kernel_rfl) (fun w => by kernel_rfl) ?_
          refine QRun_y (.pointer (some (adr ab (i1.toNat * 1)))) (by kernel_rfl) (Y_idx (t := 22) (e := 29) (sz := 1) (a := ab) (n := b.length) (cap := cb) (kk := .i64) (i := i1) (by kernel_rfl) Try.underlying22 (by kernel_rfl) (rb.cell hx2).1 hx2l hx2u) ?_
          refine QRun_y (.slice a2 x3.length c2) (by kernel_rfl) (Y_load1 (t := 29) (p := adr ab (i1.toNat * 1)) (v := .slice a2 x3.length c2) (by kernel_rfl) (fun w => by kernel_rfl) hc2) ?_
          refine QRun_y (.bool x4) (by kernel_rfl) (Y_callq (f := 23) (args := #[.slice a1 x2.length c1, .slice a2 x3.length c2]) (v := .bool x4) (by kernel_rfl) (w_laws_eqInt64S h x2 a1 c1 r1 x3 a2 c2 r2 _ _ hx3)) ?_
          refine QRun_b [.bool (!x4)] 9 _ (by kernel_rfl) (fun w => by kernel_rfl) ?_
          exact QRun_done [0, 1, 5, 26] (by kernel_rfl) (by kernel_rfl)
        refine Run_cond (b := !x4) (by kernel_rfl) (fun hb3 => ?_) (fun hb3 => ?_)
        · have hB1 := (M.ite_some hB1).1 hb3
          refine Run_seq ?_
          refine Run_reg 1 (by kernel_rfl) (L' := [(4, .bool false)]) ?_ ?_
          · refine QRun_b [.bool false] 0 _ (by kernel_rfl) (fun w => by kernel_rfl) ?_
            exact QRun_done [4] (by kernel_rfl) (by kernel_rfl)
          have hB1 := M.ret_some hB1
          have gx1 := houty1 _ hB1.symm
          have hF := M.cont_inr' hF gx1
          have hF := M.ret_some hF
          subst hF
          exact Run_ret1 rfl (ResV_tmp (v := .bool false) (by kernel_rfl)) ⟨rfl, rfl⟩
        · have hB1 := (M.ite_some hB1).2 hb3
          refine Run_skip ?_
          refine Run_blk ?_
          refine Run_reg 3 (by kernel_rfl) (L' := [(0, .slice aa_ a_.length ca_), (1, .slice ab b.length cb), (5, .int .i64 (i1 + 1))]) ?_ ?_
          · refine QRun_b [.int .i64 i1] 0 _ (by kernel_rfl) (fun w => by kernel_rfl) ?_
            refine QRun_y (.int .i64 (i1 + 1)) (by kernel_rfl) (Y_eq (v := .int .i64 (w64 (i1 + 1))) (Y_pure (fun w => by kernel_rfl)) (by rw [w64_eq _ (by omega)])) ?_
            refine QRun_b [.int .i64 (i1 + 1)] 2 _ (by kernel_rfl) (fun w => by kernel_rfl) ?_
            exact QRun_done [0, 1, 5] (by kernel_rfl) (by kernel_rfl)
          have hB1 := M.ret_some hB1
          have gx1 := hgoy1 _ hB1.symm
          exact Run_again [0, 1, 5] (by kernel_rfl) my1 (Nat.lt_succ_self _) ⟨i1 + 1, (), by omega, gx1, rfl, rfl⟩
      · have gx1 := M.for_end gx1 hb2
        subst gx1
        refine Run_exit (k' := _) rfl ?_
        exact Run_fall [] (by kernel_rfl) ⟨(), rfl, rfl, rfl⟩

set_option maxRecDepth 100000 in
set_option maxHeartbeats 4000000 in
theorem w_laws_heldInt64S (h : Heap) (a_ : List Int) {Sa_ : Bs} (aa_ : Option Addr) (ca_ : Nat) (ra_ : Rd cd2 h Sa_ aa_ ca_ a_) (k_ : Int) (n : Nat) (r : Int) (hF : laws_heldInt64S a_ k_ n = some r) :
    Fn Try.prog 35 #[.slice aa_ a_.length ca_, .int .i64 k_] h fun v h' => v = .int .i64 r ∧ h' = h := by
  unfold laws_heldInt64S at hF
  refine Fn_enter (args := [.slice aa_ a_.length ca_, .int .i64 k_]) Try.func35 rfl (by kernel_rfl) (by kernel_rfl) (fun w0 _ => ?_)
  refine Run_seq ?_
  refine Run_reg 1 (by kernel_rfl) (L' := [(0, .slice aa_ a_.length ca_), (1, .int .i64 k_)]) ?_ ?_
  · refine QRun_b [.int .i64 0] 0 _ (by kernel_rfl) (fun w => by kernel_rfl) ?_
    exact QRun_done [0, 1] (by kernel_rfl) (by kernel_rfl)
  refine Run_seq ?_
  refine Run_seq ?_
  refine Run_reg 1 (by kernel_rfl) (L' := [(0, .slice aa_ a_.length ca_), (1, .int .i64 k_), (5, .int .i64 0)]) ?_ ?_
  · refine QRun_b [.int .i64 0] 0 _ (by kernel_rfl) (fun w => by kernel_rfl) ?_
    exact QRun_done [0, 1, 5] (by kernel_rfl) (by kernel_rfl)
  obtain ⟨x1, gx1, hF⟩ := M.bind_some hF
  obtain ⟨hloy1, hhiy1, gx1⟩ := M.for_start gx1
  refine Run_join (fun L' h' => ∃ (s2 : Int), x1 = .inl s2 ∧ L' = [(1, .int .i64 s2)] ∧ h = h') ?_ ?_
  · rintro _ _ ⟨s2, es2, rfl, rfl⟩
    have hF := M.cont_inl' hF es2
    refine Run_seq ?_
    refine Run_reg 2 (by kernel_rfl) (L' := [(4, .int .i64 s2)]) ?_ ?_
    · refine QRun_b [.int .i64 s2, .int .i64 s2] 0 _ (by kernel_rfl) (fun w => by kernel_rfl) ?_
      exact QRun_done [4] (by kernel_rfl) (by kernel_rfl)
    have hF := M.ret_some hF
    subst hF
    exact Run_ret1 rfl (ResV_tmp (v := .int .i64 s2) (by kernel_rfl)) ⟨rfl, rfl⟩
  · refine Run_block ?_
    refine Run_keep [0, 1, 5] (L' := [(0, .slice aa_ a_.length ca_), (1, .int .i64 k_), (5, .int .i64 0)]) (by kernel_rfl) ?_
    refine Run_loop (fun m L' h' => ∃ (i1 : Int) (s1 : Int), 0 ≤ i1 ∧ M.forN (a_.length : Int) _ _ n m i1 s1 = some x1 ∧ L' = [(0, .slice aa_ a_.length ca_), (1, .int .i64 s1), (5, .int .i64 i1)] ∧ h = h') ((a_.length : Int) - 0 : Int).toNat ⟨0, k_, Int.le_refl _, gx1, rfl, rfl⟩ ?_
    rintro my1 _ _ ⟨i1, s1, hloy1', gx1, rfl, rfl⟩
    refine Run_seq ?_
    refine Run_seq ?_
    refine Run_reg 4 (by kernel_rfl) (L' := [(0, .slice aa_ a_.length ca_), (1, .int .i64 s1), (5, .int .i64 i1), (9, .bool (decide (i1 < (a_.length : Int))))]) ?_ ?_
    · refine QRun_b [.int .i64 i1, .slice aa_ a_.length ca_, .int .i64 (a_.length : Int), .bool (decide (i1 < (a_.length : Int)))] 0 _ (by kernel_rfl) (fun w => by kernel_rfl) ?_
      exact QRun_done [0, 1, 5, 9] (by kernel_rfl) (by kernel_rfl)
    refine Run_cond (b := decide (i1 < (a_.length : Int))) (by kernel_rfl) (fun hb1 => ?_) (fun hb1 => ?_)
    · obtain ⟨my1, y1, rfl, hB1, hgoy1, houty1⟩ := M.for_go gx1 hb1
      have hlty1 := of_decide_eq_true hb1
      refine Run_skip ?_
      refine Run_seq ?_
      refine Run_block ?_
      refine Run_seq ?_
      refine Run_seq ?_
      obtain ⟨x2, hx1, hB1⟩ := M.bind_some hB1
      obtain ⟨hx1l, hx1u, hx1⟩ := M.idx_some hx1
      refine Run_reg 6 (by kernel_rfl) (L' := [(0, .slice aa_ a_.length ca_), (1, .int .i64 s1), (5, .int .i64 i1), (17, .bool (x2 != s1))]) ?_ ?_
      · refine QRun_b [.slice aa_ a_.length ca_, .int .i64 i1] 0 _ (by kernel_rfl) (fun w => by kernel_rfl) ?_
        refine QRun_y (.pointer (some (adr aa_ (i1.toNat * 1)))) (by kernel_rfl) (Y_idx (t := 29) (e := 2) (sz := 1) (a := aa_) (n := a_.length) (cap := ca_) (kk := .i64) (i := i1) (by kernel_rfl) Try.underlying29 (by kernel_rfl) (ra_.cell hx1).1 hx1l hx1u) ?_
        refine QRun_y (.int .i64 x2) (by kernel_rfl) (Y_load1 (t := 2) (p := adr aa_ (i1.toNat * 1)) (v := .int .i64 x2) (by kernel_rfl) (fun w => by kernel_rfl) (cd2_cell ra_ hx1)) ?_
        refine QRun_b [.int .i64 s1, .bool (x2 != s1)] 4 _ (by kernel_rfl) (fun w => by kernel_rfl) ?_
        exact QRun_done [0, 1, 5, 17] (by kernel_rfl) (by kernel_rfl)
      refine Run_cond (b := x2 != s1) (by kernel_rfl) (fun hb2 => ?_) (fun hb2 => ?_)
      · have hB1 := (M.ite_some hB1).1 hb2
        refine Run_seq ?_
        refine Run_reg 1 (by kernel_rfl) (L' := [(4, .int .i64 (-1))]) ?_ ?_
        · refine QRun_b [.int .i64 (-1)] 0 _ (by kernel_rfl) (fun w => by kernel_rfl) ?_
          exact QRun_done [4] (by kernel_rfl) (by kernel_rfl)
        have hB1 := M.ret_some hB1
        have gx1 := houty1 _ hB1.symm
        have hF := M.cont_inr' hF gx1
        have hF := M.ret_some hF
        subst hF
        exact Run_ret1 rfl (ResV_tmp (v := .int .i64 (-1)) (by kernel_rfl)) ⟨rfl, rfl⟩
      · have hB1 := (M.ite_some hB1).2 hb2
        refine Run_skip ?_
        refine Run_reg 3 (by kernel_rfl) (L' := [(0, .slice aa_ a_.length ca_), (1, .int .i64 (w64 (s1 + 1))), (5, .int .i64 i1)]) ?_ ?_
        · refine QRun_b [.int .i64 s1, .int .i64 (w64 (s1 + 1)), .int .i64 (w64 (s1 + 1))] 0 _ (by kernel_rfl) (fun w => by kernel_rfl) ?_
          exact QRun_done [0, 1, 5] (by kernel_rfl) (by kernel_rfl)
        refine Run_blk ?_
        refine Run_reg 3 (by kernel_rfl) (L' := [(0, .slice aa_ a_.length ca_), (1, .int .i64 (w64 (s1 + 1))), (5, .int .i64 (i1 + 1))]) ?_ ?_
        · refine QRun_b [.int .i64 i1] 0 _ (by kernel_rfl) (fun w => by kernel_rfl) ?_
          refine QRun_y (.int .i64 (i1 + 1)) (by kernel_rfl) (Y_eq (v := .int .i64 (w64 (i1 + 1))) (Y_pure (fun w => by kernel_rfl)) (by rw [w64_eq _ (by omega)])) ?_
          refine QRun_b [.int .i64 (i1 + 1)] 2 _ (by kernel_rfl) (fun w => by kernel_rfl) ?_
          exact QRun_done [0, 1, 5] (by kernel_rfl) (by kernel_rfl)
        have hB1 := M.ret_some hB1
        have gx1 := hgoy1 _ hB1.symm
        exact Run_again [0, 1, 5] (by kernel_rfl) my1 (Nat.lt_succ_self _) ⟨i1 + 1, (w64 (s1 + 1)), by omega, gx1, rfl, rfl⟩
    · have gx1 := M.for_end gx1 hb1
      subst gx1
      refine Run_exit (k' := _) rfl ?_
      exact Run_fall [1] (by kernel_rfl) ⟨s1, rfl, rfl, rfl⟩

set_option maxRecDepth 100000 in
set_option maxHeartbeats 4000000 in
theorem w_laws_markInt64S (h hE : Heap) (it : Item) (a_ : List Int) (aa_ : Option Addr) (ca_ : Nat) (k_ : Int) (HM : Hold h hE [own cd2 aa_ a_.length ca_ a_, it]) (n : Nat) (r : Int × (List Int)) (hF : laws_markInt64S a_ k_ n = some r) :
    Fn Try.prog 25 #[.slice aa_ a_.length ca_, .int .i64 k_] hE fun v h' => v = .int .i64 r.1 ∧ Hold h h' [own cd2 aa_ a_.length ca_ r.2, it] := by
  unfold laws_markInt64S at hF
  refine Fn_enter (args := [.slice aa_ a_.length ca_, .int .i64 k_]) Try.func25 rfl (by kernel_rfl) (by kernel_rfl) (fun w0 _ => ?_)
  refine Run_seq ?_
  refine Run_reg 1 (by kernel_rfl) (L' := [(0, .slice aa_ a_.length ca_), (1, .int .i64 k_)]) ?_ ?_
  · refine QRun_b [.int .i64 0] 0 _ (by kernel_rfl) (fun w => by kernel_rfl) ?_
    exact QRun_done [0, 1] (by kernel_rfl) (by kernel_rfl)
  refine Run_seq ?_
  refine Run_seq ?_
  refine Run_reg 1 (by kernel_rfl) (L' := [(0, .slice aa_ a_.length ca_), (1, .int .i64 k_), (5, .int .i64 0)]) ?_ ?_
  · refine QRun_b [.int .i64 0] 0 _ (by kernel_rfl) (fun w => by kernel_rfl) ?_
    exact QRun_done [0, 1, 5] (by kernel_rfl) (by kernel_rfl)
  obtain ⟨x1, gx1, hF⟩ := M.bind_some hF
  obtain ⟨hloy1, hhiy1, gx1⟩ := M.for_start gx1
  refine Run_join (fun L' h' => L' = [(1, .int .i64 x1.2)] ∧ Hold h h' [own cd2 aa_ a_.length ca_ x1.1, it]) ?_ ?_
  · rintro _ h2 ⟨rfl, H2⟩
    refine Run_seq ?_
    refine Run_reg 2 (by kernel_rfl) (L' := [(4, .int .i64 x1.2)]) ?_ ?_
    · refine QRun_b [.int .i64 x1.2, .int .i64 x1.2] 0 _ (by kernel_rfl) (fun w => by kernel_rfl) ?_
      exact QRun_done [4] (by kernel_rfl) (by kernel_rfl)
    have hF := M.ret_some hF
    subst hF
    exact Run_ret1 rfl (ResV_tmp (v := .int .i64 x1.2) (by kernel_rfl)) ⟨rfl, H2⟩
  · refine Run_block ?_
    refine Run_keep [0, 1, 5] (L' := [(0, .slice aa_ a_.length ca_), (1, .int .i64 k_), (5, .int .i64 0)]) (by kernel_rfl) ?_
    refine Run_loop (fun m L' h' => ∃ (i1 : Int) (s1 : (List Int) × Int), 0 ≤ i1 ∧ M.forN (a_.length : Int) _ _ n m i1 s1 = some x1 ∧ L' = [(0, .slice aa_ a_.length ca_), (1, .int .i64 s1.2), (5, .int .i64 i1)] ∧ Hold h h' [own cd2 aa_ a_.length ca_ s1.1, it]) ((a_.length : Int) - 0 : Int).toNat ⟨0, (a_, k_), Int.le_refl _, gx1, rfl, HM⟩ ?_
    rintro my1 _ h1 ⟨i1, s1, hloy1', gx1, rfl, H1⟩
    refine Run_seq ?_
    refine Run_seq ?_
    refine Run_reg 4 (by kernel_rfl) (L' := [(0, .slice aa_ a_.length ca_), (1, .int .i64 s1.2), (5, .int .i64 i1), (9, .bool (decide (i1 < (a_.length : Int))))]) ?_ ?_
    · refine QRun_b [.int .i64 i1, .slice aa_ a_.length ca_, .int .i64 (a_.length : Int), .bool (decide (i1 < (a_.length : Int)))] 0 _ (by kernel_rfl) (fun w => by kernel_rfl) ?_
      exact QRun_done [0, 1, 5, 9] (by kernel_rfl) (by kernel_rfl)
    refine Run_cond (b := decide (i1 < (a_.length : Int))) (by kernel_rfl) (fun hb1 => ?_) (fun hb1 => ?_)
    · obtain ⟨my1, y1, rfl, hB1, hgoy1, houty1⟩ := M.for_go gx1 hb1
      have hlty1 := of_decide_eq_true hb1
      refine Run_skip ?_
      refine Run_seq ?_
      refine Run_block ?_
      refine Run_seq ?_
      refine Run_ops ?_
      obtain ⟨x2, hx1, hB1⟩ := M.bind_some hB1
      obtain ⟨hx1l, hx1u, hx1⟩ := M.idx_some hx1
      refine Run_b [.slice aa_ a_.length ca_, .int .i64 i1, .int .i64 s1.2] 0 _ (by kernel_rfl) (fun w => by kernel_rfl) ?_
      refine Run_y (.pointer (some (adr aa_ (i1.toNat * 1)))) (by kernel_rfl) (Y_idx (t := 29) (e := 2) (sz := 1) (a := aa_) (n := a_.length) (cap := ca_) (kk := .i64) (i := i1) (by kernel_rfl) Try.underlying29 (by kernel_rfl) ((H1.rd 0 rfl).cell hx1).1 hx1l (by rw [← (H1.len 0 rfl)]; exact hx1u)) ?_
      obtain ⟨l1, hu1, hB1⟩ := M.bind_some hB1
      have hu1 := M.upd_some hu1
      refine Run_E (by kernel_rfl) ?_
      refine E_put (C := cd2) (t := 2) (sz := 1) (j := i1) (x := s1.2) (v := .int .i64 s1.2) H1 cd2_flat (by kernel_rfl) rfl (cd2_own _) (by kernel_rfl) hu1 (fun h3 H3 => ?_)
      refine Run_nil (by kernel_rfl) ?_
      refine Run_keep [0, 1, 5] (L' := [(0, .slice aa_ a_.length ca_), (1, .int .i64 s1.2), (5, .int .i64 i1)]) (by kernel_rfl) ?_
      refine Run_reg 3 (by kernel_rfl) (L' := [(0, .slice aa_ a_.length ca_), (1, .int .i64 (w64 (s1.2 + 1))), (5, .int .i64 i1)]) ?_ ?_
      · refine QRun_b [.int .i64 s1.2, .int .i64 (w64 (s1.2 + 1)), .int .i64 (w64 (s1.2 + 1))] 0 _ (by kernel_rfl) (fun w => by kernel_rfl) ?_
        exact QRun_done [0, 1, 5] (by kernel_rfl) (by kernel_rfl)
      refine Run_blk ?_
      refine Run_reg 3 (by kernel_rfl) (L' := [(0, .slice aa_ a_.length ca_), (1, .int .i64 (w64 (s1.2 + 1))), (5, .int .i64 (i1 + 1))]) ?_ ?_
      · refine QRun_b [.int .i64 i1] 0 _ (by kernel_rfl) (fun w => by kernel_rfl) ?_
        refine QRun_y (.int .i64 (i1 + 1)) (by kernel_rfl) (Y_eq (v := .int .i64 (w64 (i1 + 1))) (Y_pure (fun w => by kernel_rfl)) (by rw [w64_eq _ (by omega)])) ?_
        refine QRun_b [.int .i64 (i1 + 1)] 2 _ (by kernel_rfl) (fun w => by kernel_rfl) ?_
        exact QRun_done [0, 1, 5] (by kernel_rfl) (by kernel_rfl)
      have hB1 := M.ret_some hB1
      have gx1 := hgoy1 _ hB1.symm
      exact Run_again [0, 1, 5] (by kernel_rfl) my1 (Nat.lt_succ_self _) ⟨i1 + 1, (l1, (w64 (s1.2 + 1))), by omega, gx1, rfl, H3⟩
    · have gx1 := M.for_end gx1 hb1
      subst gx1
      refine Run_exit (k' := _) rfl ?_
      exact Run_fall [1] (by kernel_rfl) ⟨rfl, H1⟩

set_option maxRecDepth 100000 in
set_option maxHeartbeats 4000000 in
theorem w_laws_markInt64SS (h hE : Heap) (it : Item) (a_ : List (List Int)) (aa_ : Option Addr) (ca_ : Nat) (k_ : Int) (HM : Hold h hE [own cd29 aa_ a_.length ca_ a_, it]) (n : Nat) (r : Int × (List (List Int))) (hF : laws_markInt64SS a_ k_ n = some r) :
    Fn Try.prog 24 #[.slice aa_ a_.length ca_, .int .i64 k_] hE fun v h' => v = .int .i64 r.1 ∧ Hold h h' [own cd29 aa_ a_.length ca_ r.2, it] := by
  unfold laws_markInt64SS at hF
  refine Fn_enter (args := [.slice aa_ a_.length ca_, .int .i64 k_]) Try.func24 rfl (by kernel_rfl) (by kernel_rfl) (fun w0 _ => ?_)
  refine Run_seq ?_
  refine Run_reg 1 (by kernel_rfl) (L' := [(0, .slice aa_ a_.length ca_), (1, .int .i64 k_)]) ?_ ?_
  · refine QRun_b [.int .i64 0] 0 _ (by kernel_rfl) (fun w => by kernel_rfl) ?_
    exact QRun_done [0, 1] (by kernel_rfl) (by kernel_rfl)
  refine Run_seq ?_
  refine Run_seq ?_
  refine Run_reg 1 (by kernel_rfl) (L' := [(0, .slice aa_ a_.length ca_), (1, .int .i64 k_), (5, .int .i64 0)]) ?_ ?_
  · refine QRun_b [.int .i64 0] 0 _ (by kernel_rfl) (fun w => by kernel_rfl) ?_
    exact QRun_done [0, 1, 5] (by kernel_rfl) (by kernel_rfl)
  obtain ⟨x1, gx1, hF⟩ := M.bind_some hF
  obtain ⟨hloy1, hhiy1, gx1⟩ := M.for_start gx1
  refine Run_join (fun L' h' => L' = [(1, .int .i64 x1.2)] ∧ Hold h h' [own cd29 aa_ a_.length ca_ x1.1, it]) ?_ ?_
  · rintro _ h2 ⟨rfl, H2⟩
    refine Run_seq ?_
    refine Run_reg 2 (by kernel_rfl) (L' := [(4, .int .i64 x1.2)]) ?_ ?_
    · refine QRun_b [.int .i64 x1.2, .int .i64 x1.2] 0 _ (by kernel_rfl) (fun w => by kernel_rfl) ?_
      exact QRun_done [4] (by kernel_rfl) (by kernel_rfl)
    have hF := M.ret_some hF
    subst hF
    exact Run_ret1 rfl (ResV_tmp (v := .int .i64 x1.2) (by kernel_rfl)) ⟨rfl, H2⟩
  · refine Run_block ?_
    refine Run_keep [0, 1, 5] (L' := [(0, .slice aa_ a_.length ca_), (1, .int .i64 k_), (5, .int .i64 0)]) (by kernel_rfl) ?_
    refine Run_loop (fun m L' h' => ∃ (i1 : Int) (s1 : (List (List Int)) × Int), 0 ≤ i1 ∧ M.forN (a_.length : Int) _ _ n m i1 s1 = some x1 ∧ L' = [(0, .slice aa_ a_.length ca_), (1, .int .i64 s1.2), (5, .int .i64 i1)] ∧ Hold h h' [own cd29 aa_ a_.length ca_ s1.1, it]) ((a_.length : Int) - 0 : Int).toNat ⟨0, (a_, k_), Int.le_refl _, gx1, rfl, HM⟩ ?_
    rintro my1 _ h1 ⟨i1, s1, hloy1', gx1, rfl, H1⟩
    refine Run_seq ?_
    refine Run_seq ?_
    refine Run_reg 4 (by kernel_rfl) (L' := [(0, .slice aa_ a_.length ca_), (1, .int .i64 s1.2), (5, .int .i64 i1), (9, .bool (decide (i1 < (a_.length : Int))))]) ?_ ?_
    · refine QRun_b [.int .i64 i1, .slice aa_ a_.length ca_, .int .i64 (a_.length : Int), .bool (decide (i1 < (a_.length : Int)))] 0 _ (by kernel_rfl) (fun w => by kernel_rfl) ?_
      exact QRun_done [0, 1, 5, 9] (by kernel_rfl) (by kernel_rfl)
    refine Run_cond (b := decide (i1 < (a_.length : Int))) (by kernel_rfl) (fun hb1 => ?_) (fun hb1 => ?_)
    · obtain ⟨my1, y1, rfl, hB1, hgoy1, houty1⟩ := M.for_go gx1 hb1
      have hlty1 := of_decide_eq_true hb1
      refine Run_skip ?_
      refine Run_seq ?_
      refine Run_block ?_
      refine Run_ops ?_
      obtain ⟨x2, hx1, hB1⟩ := M.bind_some hB1
      obtain ⟨hx1l, hx1u, hx1⟩ := M.idx_some hx1
      have H3 := H1.toRows
      obtain ⟨a1, c1, H4⟩ := H3.pinRow hx1
      refine Run_b [.slice aa_ a_.length ca_, .int .i64 i1] 0 _ (by kernel_rfl) (fun w => by kernel_rfl) ?_
      refine Run_y (.pointer (some (adr aa_ (i1.toNat * 1)))) (by kernel_rfl) (Y_idx (t := 22) (e := 29) (sz := 1) (a := aa_) (n := a_.length) (cap := ca_) (kk := .i64) (i := i1) (by kernel_rfl) Try.underlying22 (by kernel_rfl) ((H1.rd 0 rfl).cell hx1).1 hx1l (by rw [← (H1.len 0 rfl)]; exact hx1u)) ?_
      refine Run_y (.slice a1 x2.length c1) (by kernel_rfl) (Y_load1 (t := 29) (p := adr aa_ (i1.toNat * 1)) (v := .slice a1 x2.length c1) (by kernel_rfl) (fun w => by kernel_rfl) (H4.cellPin 0 rfl 0 rfl)) ?_
      refine Run_b [.int .i64 s1.2] 4 _ (by kernel_rfl) (fun w => by kernel_rfl) ?_
      obtain ⟨x3, hx2, hB1⟩ := M.bind_some hB1
      have hc1 := H4.cellPin 0 rfl 0 rfl
      have hr1 := H4.getPin 0 rfl 0 rfl
      have H6 := H4.ofRows
      obtain ⟨a2, c2, hc2, H5⟩ := H6.takeRow hr1
      have ha1 := hc2.symm.trans hc1
      simp only [Option.some.injEq, Value.slice.injEq, true_and] at ha1
      obtain ⟨rfl, rfl⟩ := ha1
      have H7 : Hold h h1 [own cd2 a2 x2.length c2 x2, bun [rest cd2 29 aa_ a_.length ca_ s1.1 i1.toNat a2 x2.length c2, it]] := Hold.bundle (S := [own cd2 a2 x2.length c2 x2]) (R := [rest cd2 29 aa_ a_.length ca_ s1.1 i1.toNat a2 x2.length c2, it]) H5
      refine Run_E (by kernel_rfl) ?_
      refine E_call (f := 25) (args := #[.slice a2 x2.length c2, .int .i64 s1.2]) (w_laws_markInt64S h h1 _ x2 a2 c2 s1.2 H7 _ _ hx2) (by kernel_rfl) (fun v1 h3 hp1 => ?_)
      obtain ⟨rfl, H8⟩ := hp1
      have H9 : Hold h h3 [own cd2 a2 x2.length c2 x3.2, rest cd2 29 aa_ a_.length ca_ s1.1 i1.toNat a2 x2.length c2, it] := Hold.unbundle (S := [own cd2 a2 x2.length c2 x3.2]) (R := [rest cd2 29 aa_ a_.length ca_ s1.1 i1.toNat a2 x2.length c2, it]) H8 (Hold.tailBase (S := [own cd2 a2 x2.length c2 x2]) (R := [rest cd2 29 aa_ a_.length ca_ s1.1 i1.toNat a2 x2.length c2, it]) H5)
      have H10 : Hold h h3 [own cd29 aa_ a_.length ca_ (s1.1.set i1.toNat x3.2), it] := Hold.putRow H9
      refine Run_b [.int .i64 x3.1] 6 _ (by kernel_rfl) (fun w => by kernel_rfl) ?_
      refine Run_nil (by kernel_rfl) ?_
      refine Run_keep [0, 1, 5] (L' := [(0, .slice aa_ a_.length ca_), (1, .int .i64 x3.1), (5, .int .i64 i1)]) (by kernel_rfl) ?_
      refine Run_blk ?_
      refine Run_reg 3 (by kernel_rfl) (L' := [(0, .slice aa_ a_.length ca_), (1, .int .i64 x3.1), (5, .int .i64 (i1 + 1))]) ?_ ?_
      · refine QRun_b [.int .i64 i1] 0 _ (by kernel_rfl) (fun w => by kernel_rfl) ?_
        refine QRun_y (.int .i64 (i1 + 1)) (by kernel_rfl) (Y_eq (v := .int .i64 (w64 (i1 + 1))) (Y_pure (fun w => by kernel_rfl)) (by rw [w64_eq _ (by omega)])) ?_
        refine QRun_b [.int .i64 (i1 + 1)] 2 _ (by kernel_rfl) (fun w => by kernel_rfl) ?_
        exact QRun_done [0, 1, 5] (by kernel_rfl) (by kernel_rfl)
      have hB1 := M.ret_some hB1
      have gx1 := hgoy1 _ hB1.symm
      exact Run_again [0, 1, 5] (by kernel_rfl) my1 (Nat.lt_succ_self _) ⟨i1 + 1, ((s1.1.set i1.toNat x3.2), x3.1), by omega, gx1, rfl, H10⟩
    · have gx1 := M.for_end gx1 hb1
      subst gx1
      refine Run_exit (k' := _) rfl ?_
      exact Run_fall [1] (by kernel_rfl) ⟨rfl, H1⟩

set_option maxRecDepth 100000 in
set_option maxHeartbeats 4000000 in
theorem w_laws_FnExactSteadyState (h : Heap) (aA : List (List Int)) (aaA : Option Addr) (caA : Nat) (raA : Rd cd29 h (Lt h) aaA caA aA) (aX : List Int) (aaX : Option Addr) (caX : Nat) (raX : Rd cd2 h (Lt h) aaX caX aX) (n : Nat) (r : Bool) (hF : laws_FnExactSteadyState aA aX n = some r) :
    Fn Try.prog 8 #[.slice aaA aA.length caA, .slice aaX aX.length caX] h fun v h' => v = .bool r ∧ Hold h h' [] := by
  unfold laws_FnExactSteadyState at hF
  refine Fn_enter (args := [.slice aaA aA.length caA, .slice aaX aX.length caX]) Try.func8 rfl (by kernel_rfl) (by kernel_rfl) (fun w0 _ => ?_)
  have H0 := Hold.init h
  refine Run_seq ?_
  refine Run_reg 1 (by kernel_rfl) (L' := [(0, .slice aaA aA.length caA), (1, .slice aaX aX.length caX)]) ?_ ?_
  · refine QRun_b [.bool false] 0 _ (by kernel_rfl) (fun w => by kernel_rfl) ?_
    exact QRun_done [0, 1] (by kernel_rfl) (by kernel_rfl)
  refine Run_seq ?_
  refine Run_seq ?_
  refine Run_reg 3 (by kernel_rfl) (L' := [(0, .slice aaA aA.length caA), (1, .slice aaX aX.length caX), (19, .bool (decide (1048576 < (aX.length : Int))))]) ?_ ?_
  · refine QRun_b [.slice aaX aX.length caX, .int .i64 (aX.length : Int), .bool (decide (1048576 < (aX.length : Int)))] 0 _ (by kernel_rfl) (fun w => by kernel_rfl) ?_
    exact QRun_done [0, 1, 19] (by kernel_rfl) (by kernel_rfl)
  refine Run_cond (b := decide (1048576 < (aX.length : Int))) (by kernel_rfl) (fun hb1 => ?_) (fun hb1 => ?_)
  · have hF := (M.ite_some hF).1 hb1
    refine Run_seq ?_
    refine Run_reg 1 (by kernel_rfl) (L' := [(4, .bool true)]) ?_ ?_
    · refine QRun_b [.bool true] 0 _ (by kernel_rfl) (fun w => by kernel_rfl) ?_
      exact QRun_done [4] (by kernel_rfl) (by kernel_rfl)
    have hF := M.ret_some hF
    subst hF
    exact Run_ret1 rfl (ResV_tmp (v := .bool true) (by kernel_rfl)) ⟨rfl, H0⟩
  · have hF := (M.ite_some hF).2 hb1
    refine Run_skip ?_
    refine Run_seq ?_
    refine Run_reg 1 (by kernel_rfl) (L' := [(0, .slice aaA aA.length caA), (1, .slice aaX aX.length caX), (5, .int .i64 1048576)]) ?_ ?_
    · refine QRun_b [.int .i64 1048576] 0 _ (by kernel_rfl) (fun w => by kernel_rfl) ?_
      exact QRun_done [0, 1, 5] (by kernel_rfl) (by kernel_rfl)
    refine Run_seq ?_
    obtain ⟨x1, hx1, hF⟩ := M.bind_some hF
    refine Run_reg 4 (by kernel_rfl) (L' := [(0, .slice aaA aA.length caA), (1, .slice aaX aX.length caX), (5, .int .i64 x1)]) ?_ ?_
    · refine QRun_b [.slice aaA aA.length caA, .int .i64 1048576] 0 _ (by kernel_rfl) (fun w => by kernel_rfl) ?_
      refine QRun_y (.int .i64 x1) (by kernel_rfl) (Y_callq (f := 15) (args := #[.slice aaA aA.length caA, .int .i64 1048576]) (v := .int .i64 x1) (by kernel_rfl) (w_laws_szInt64SS h aA aaA caA raA 1048576 _ _ hx1)) ?_
      refine QRun_b [.int .i64 x1] 3 _ (by kernel_rfl) (fun w => by kernel_rfl) ?_
      exact QRun_done [0, 1, 5] (by kernel_rfl) (by kernel_rfl)
    refine Run_seq ?_
    refine Run_seq ?_
    refine Run_reg 2 (by kernel_rfl) (L' := [(0, .slice aaA aA.length caA), (1, .slice aaX aX.length caX), (24, .bool (decide (x1 < 0)))]) ?_ ?_
    · refine QRun_b [.int .i64 x1, .bool (decide (x1 < 0))] 0 _ (by kernel_rfl) (fun w => by kernel_rfl) ?_
      exact QRun_done [0, 1, 24] (by kernel_rfl) (by kernel_rfl)
    refine Run_cond (b := decide (x1 < 0)) (by kernel_rfl) (fun hb2 => ?_) (fun hb2 => ?_)
    · have hF := (M.ite_some hF).1 hb2
      refine Run_seq ?_
      refine Run_reg 1 (by kernel_rfl) (L' := [(4, .bool true)]) ?_ ?_
      · refine QRun_b [.bool true] 0 _ (by kernel_rfl) (fun w => by kernel_rfl) ?_
        exact QRun_done [4] (by kernel_rfl) (by kernel_rfl)
      have hF := M.ret_some hF
      subst hF
      exact Run_ret1 rfl (ResV_tmp (v := .bool true) (by kernel_rfl)) ⟨rfl, H0⟩
    · have hF := (M.ite_some hF).2 hb2
      refine Run_skip ?_
      refine Run_seq ?_
      refine Run_ops ?_
      refine Run_b [.slice aaA aA.length caA] 0 _ (by kernel_rfl) (fun w => by kernel_rfl) ?_
      obtain ⟨x2, hx2, hF⟩ := M.bind_some hF
      refine Run_E (by kernel_rfl) ?_
      refine E_call (f := 17) (args := #[.slice aaA aA.length caA]) (w_laws_toInt64SS h aA aaA caA raA _ _ hx2) (by kernel_rfl) (fun v1 h1 hp1 => ?_)
      obtain ⟨a1, c1, rfl, H1⟩ := hp1
      have H2 : Hold h h1 [own cd29 a1 x2.length c1 x2] := H0.call H1 rfl
      refine Run_b [.slice aaX aX.length caX] 2 _ (by kernel_rfl) (fun w => by kernel_rfl) ?_
      obtain ⟨x3, hx3, hF⟩ := M.bind_some hF
      refine Run_E (by kernel_rfl) ?_
      refine E_call (f := 21) (args := #[.slice aaX aX.length caX]) (w_laws_toInt64S h1 aX aaX caX (raX.at H2.ext) _ _ hx3) (by kernel_rfl) (fun v2 h2 hp2 => ?_)
      obtain ⟨a2, c2, rfl, H3⟩ := hp2
      have H4 : Hold h h2 [own cd2 a2 x3.length c2 x3, own cd29 a1 x2.length c1 x2] := H2.call H3 rfl
      obtain ⟨x4, hx4, hF⟩ := M.bind_some hF
      refine Run_E (by kernel_rfl) ?_
      refine E_call (f := 33) (args := #[.slice a1 x2.length c1, .slice a2 x3.length c2]) (w_spec_SteadyState h2 x2 a1 c1 (H4.rd 1 rfl) x3 a2 c2 (H4.rd 0 rfl) _ _ hx4) (by kernel_rfl) (fun v3 h3 hp3 => ?_)
      obtain ⟨a3, c3, rfl, H5⟩ := hp3
      have H6 : Hold h h3 [own cd2 a3 x4.1.length c3 x4.1, own cd2 a2 x3.length c2 x3, own cd29 a1 x2.length c1 x2] := H4.call H5 rfl
      refine Run_b [.tuple #[.slice a3 x4.1.length c3, .int .i64 x4.2], .slice a3 x4.1.length c3, .int .i64 x4.2, .slice a3 x4.1.length c3, .int .i64 x4.2] 5 _ (by kernel_rfl) (fun w => by kernel_rfl) ?_
      refine Run_nil (by kernel_rfl) ?_
      refine Run_keep [0, 1, 6, 7] (L' := [(0, .slice aaA aA.length caA), (1, .slice aaX aX.length caX), (6, .slice a3 x4.1.length c3), (7, .int .i64 x4.2)]) (by kernel_rfl) ?_
      refine Run_seq ?_
      refine Run_ops ?_
      refine Run_b [.slice aaA aA.length caA] 0 _ (by kernel_rfl) (fun w => by kernel_rfl) ?_
      obtain ⟨x5, hx5, hF⟩ := M.bind_some hF
      refine Run_E (by kernel_rfl) ?_
      refine E_call (f := 17) (args := #[.slice aaA aA.length caA]) (w_laws_toInt64SS h3 aA aaA caA (raA.at H6.ext) _ _ hx5) (by kernel_rfl) (fun v4 h4 hp4 => ?_)
      obtain ⟨a4, c4, rfl, H7⟩ := hp4
      have H8 : Hold h h4 [own cd29 a4 x5.length c4 x5, own cd2 a3 x4.1.length c3 x4.1, own cd2 a2 x3.length c2 x3, own cd29 a1 x2.length c1 x2] := H6.call H7 rfl
      refine Run_b [.slice a4 x5.length c4] 2 _ (by kernel_rfl) (fun w => by kernel_rfl) ?_
      refine Run_nil (by kernel_rfl) ?_
      refine Run_keep [0, 1, 6, 7, 8] (L' := [(0, .slice aaA aA.length caA), (1, .slice aaX aX.length caX), (6, .slice a3 x4.1.length c3), (7, .int .i64 x4.2), (8, .slice a4 x5.length c4)]) (by kernel_rfl) ?_
      refine Run_seq ?_
      refine Run_ops ?_
      refine Run_b [.slice aaX aX.length caX] 0 _ (by kernel_rfl) (fun w => by kernel_rfl) ?_
      obtain ⟨x6, hx6, hF⟩ := M.bind_some hF
      refine Run_E (by kernel_rfl) ?_
      refine E_call (f := 21) (args := #[.slice aaX aX.length caX]) (w_laws_toInt64S h4 aX aaX caX (raX.at H8.ext) _ _ hx6) (by kernel_rfl) (fun v5 h5 hp5 => ?_)
      obtain ⟨a5, c5, rfl, H9⟩ := hp5
      have H10 : Hold h h5 [own cd2 a5 x6.length c5 x6, own cd29 a4 x5.length c4 x5, own cd2 a3 x4.1.length c3 x4.1, own cd2 a2 x3.length c2 x3, own cd29 a1 x2.length c1 x2] := H8.call H9 rfl
      refine Run_b [.slice a5 x6.length c5] 2 _ (by kernel_rfl) (fun w => by kernel_rfl) ?_
      refine Run_nil (by kernel_rfl) ?_
      refine Run_keep [0, 1, 6, 7, 8, 9] (L' := [(0, .slice aaA aA.length caA), (1, .slice aaX aX.length caX), (6, .slice a3 x4.1.length c3), (7, .int .i64 x4.2), (8, .slice a4 x5.length c4), (9, .slice a5 x6.length c5)]) (by kernel_rfl) ?_
      refine Run_seq ?_
      refine Run_ops ?_
      refine Run_b [.slice a4 x5.length c4, .slice a5 x6.length c5] 0 _ (by kernel_rfl) (fun w => by kernel_rfl) ?_
      obtain ⟨x7, hx7, hF⟩ := M.bind_some hF
      refine Run_E (by kernel_rfl) ?_
      refine E_call (f := 34) (args := #[.slice a4 x5.length c4, .slice a5 x6.length c5]) (w_impl_SteadyState h5 x5 a4 c4 (H10.rd 1 rfl) x6 a5 c5 (H10.rd 0 rfl) _ _ hx7) (by kernel_rfl) (fun v6 h6 hp6 => ?_)
      obtain ⟨a6, c6, rfl, H11⟩ := hp6
      have H12 : Hold h h6 [own cd2 a6 x7.1.length c6 x7.1, own cd2 a5 x6.length c5 x6, own cd29 a4 x5.length c4 x5, own cd2 a3 x4.1.length c3 x4.1, own cd2 a2 x3.length c2 x3, own cd29 a1 x2.length c1 x2] := H10.call H11 rfl
      refine Run_b [.tuple #[.slice a6 x7.1.length c6, .int .i64 x7.2], .slice a6 x7.1.length c6, .int .i64 x7.2, .slice a6 x7.1.length c6, .int .i64 x7.2] 3 _ (by kernel_rfl) (fun w => by kernel_rfl) ?_
      refine Run_nil (by kernel_rfl) ?_
      refine Run_keep [0, 1, 6, 7, 8, 9, 10, 11] (L' := [(0, .slice aaA aA.length caA), (1, .slice aaX aX.length caX), (6, .slice a3 x4.1.length c3), (7, .int .i64 x4.2), (8, .slice a4 x5.length c4), (9, .slice a5 x6.length c5), (10, .slice a6 x7.1.length c6), (11, .int .i64 x7.2)]) (by kernel_rfl) ?_
      refine Run_seq ?_
      refine Run_seq ?_
      obtain ⟨x8, hx8, hF⟩ := M.bind_some hF
      refine Run_reg 9 (by kernel_rfl) (L' := [(0, .slice aaA aA.length caA), (1, .slice aaX aX.length caX), (6, .slice a3 x4.1.length c3), (7, .int .i64 x4.2), (8, .slice a4 x5.length c4), (9, .slice a5 x6.length c5), (10, .slice a6 x7.1.length c6), (11, .int .i64 x7.2), (51, .bool ((!x8) || (x7.2 != x4.2)))]) ?_ ?_
      · refine QRun_b [.slice a6 x7.1.length c6, .slice a3 x4.1.length c3] 0 _ (by kernel_rfl) (fun w => by kernel_rfl) ?_
        refine QRun_y (.bool x8) (by kernel_rfl) (Y_callq (f := 23) (args := #[.slice a6 x7.1.length c6, .slice a3 x4.1.length c3]) (v := .bool x8) (by kernel_rfl) (w_laws_eqInt64S h6 x7.1 a6 c6 (H12.rd 0 rfl) x4.1 a3 c3 (H12.rd 3 rfl) _ _ hx8)) ?_
        refine QRun_b [.bool (!x8)] 3 _ (by kernel_rfl) (fun w => by kernel_rfl) ?_
        refine QRun_seq 9 [(0, .slice aaA aA.length caA), (1, .slice aaX aX.length caX), (6, .slice a3 x4.1.length c3), (7, .int .i64 x4.2), (8, .slice a4 x5.length c4), (9, .slice a5 x6.length c5), (10, .slice a6 x7.1.length c6), (11, .int .i64 x7.2), (51, .bool ((!x8) || (x7.2 != x4.2)))] ?_ ?_
        · rcases Bool.eq_false_or_eq_true (!x8) with hb3 | hb3
          · refine QRun_bool (!x8) true (by kernel_rfl) (fun w => by kernel_rfl) hb3 ?_
            refine QRun_n (by kernel_rfl) ?_
            refine QRun_n (by kernel_rfl) ?_
            refine QRun_n (by kernel_rfl) ?_
            refine QRun_bool true ((!x8) || (x7.2 != x4.2)) (by kernel_rfl) (fun w => by kernel_rfl) (by rw [hb3]; rfl) ?_
            exact QRun_done [0, 1, 6, 7, 8, 9, 10, 11, 51] (by kernel_rfl) (by kernel_rfl)
          · refine QRun_bool (!x8) false (by kernel_rfl) (fun w => by kernel_rfl) hb3 ?_
            refine QRun_b [.int .i64 x7.2, .int .i64 x4.2, .bool (x7.2 != x4.2)] 5 _ (by kernel_rfl) (fun w => by kernel_rfl) ?_
            refine QRun_bool (x7.2 != x4.2) ((!x8) || (x7.2 != x4.2)) (by kernel_rfl) (fun w => by kernel_rfl) (by rw [hb3]; rfl) ?_
            exact QRun_done [0, 1, 6, 7, 8, 9, 10, 11, 51] (by kernel_rfl) (by kernel_rfl)
        exact QRun_done [0, 1, 6, 7, 8, 9, 10, 11, 51] (by kernel_rfl) (by kernel_rfl)
      refine Run_cond (b := (!x8) || (x7.2 != x4.2)) (by kernel_rfl) (fun hb4 => ?_) (fun hb4 => ?_)
      · have hF := (M.ite_some hF).1 hb4
        refine Run_seq ?_
        refine Run_reg 1 (by kernel_rfl) (L' := [(4, .bool false)]) ?_ ?_
        · refine QRun_b [.bool false] 0 _ (by kernel_rfl) (fun w => by kernel_rfl) ?_
          exact QRun_done [4] (by kernel_rfl) (by kernel_rfl)
        have hF := M.ret_some hF
        subst hF
        have H13 : Hold h h6 [] := H12.pick [] (by kernel_rfl)
        exact Run_ret1 rfl (ResV_tmp (v := .bool false) (by kernel_rfl)) ⟨rfl, H13⟩
      · have hF := (M.ite_some hF).2 hb4
        refine Run_skip ?_
        refine Run_seq ?_
        refine Run_seq ?_
        refine Run_ops ?_
        refine Run_b [.slice a4 x5.length c4, .slice aaA aA.length caA] 0 _ (by kernel_rfl) (fun w => by kernel_rfl) ?_
        obtain ⟨x10, hx9, hF⟩ := M.bind_some hF
        refine Run_E (by kernel_rfl) ?_
        refine E_call (f := 17) (args := #[.slice aaA aA.length caA]) (w_laws_toInt64SS h6 aA aaA caA (raA.at H12.ext) _ _ hx9) (by kernel_rfl) (fun v7 h7 hp7 => ?_)
        obtain ⟨a7, c7, rfl, H14⟩ := hp7
        have H15 : Hold h h7 [own cd29 a7 x10.length c7 x10, own cd2 a6 x7.1.length c6 x7.1, own cd2 a5 x6.length c5 x6, own cd29 a4 x5.length c4 x5, own cd2 a3 x4.1.length c3 x4.1, own cd2 a2 x3.length c2 x3, own cd29 a1 x2.length c1 x2] := H12.call H14 rfl
        obtain ⟨x11, hx10, hF⟩ := M.bind_some hF
        refine Run_y (.bool x11) (by kernel_rfl) (Y_callq (f := 19) (args := #[.slice a4 x5.length c4, .slice a7 x10.length c7]) (v := .bool x11) (by kernel_rfl) (w_laws_eqInt64SS h7 x5 a4 c4 (H15.rd 3 rfl) x10 a7 c7 (H15.rd 0 rfl) _ _ hx10)) ?_
        refine Run_b [.bool (!x11)] 4 _ (by kernel_rfl) (fun w => by kernel_rfl) ?_
        refine Run_nil (by kernel_rfl) ?_
        refine Run_keep [0, 1, 6, 7, 8, 9, 10, 11, 56] (L' := [(0, .slice aaA aA.length caA), (1, .slice aaX aX.length caX), (6, .slice a3 x4.1.length c3), (7, .int .i64 x4.2), (8, .slice a4 x5.length c4), (9, .slice a5 x6.length c5), (10, .slice a6 x7.1.length c6), (11, .int .i64 x7.2), (56, .bool (!x11))]) (by kernel_rfl) ?_
        refine Run_cond (b := !x11) (by kernel_rfl) (fun hb5 => ?_) (fun hb5 => ?_)
        · have hF := (M.ite_some hF).1 hb5
          refine Run_seq ?_
          refine Run_reg 1 (by kernel_rfl) (L' := [(4, .bool false)]) ?_ ?_
          · refine QRun_b [.bool false] 0 _ (by kernel_rfl) (fun w => by kernel_rfl) ?_
            exact QRun_done [4] (by kernel_rfl) (by kernel_rfl)
          have hF := M.ret_some hF
          subst hF
          have H16 : Hold h h7 [] := H15.pick [] (by kernel_rfl)
          exact Run_ret1 rfl (ResV_tmp (v := .bool false) (by kernel_rfl)) ⟨rfl, H16⟩
        · have hF := (M.ite_some hF).2 hb5
          refine Run_skip ?_
          refine Run_seq ?_
          refine Run_seq ?_
          refine Run_ops ?_
          refine Run_b [.slice a5 x6.length c5, .slice aaX aX.length caX] 0 _ (by kernel_rfl) (fun w => by kernel_rfl) ?_
          obtain ⟨x12, hx11, hF⟩ := M.bind_some hF
          refine Run_E (by kernel_rfl) ?_
          refine E_call (f := 21) (args := #[.slice aaX aX.length caX]) (w_laws_toInt64S h7 aX aaX caX (raX.at H15.ext) _ _ hx11) (by kernel_rfl) (fun v8 h8 hp8 => ?_)
          obtain ⟨a8, c8, rfl, H17⟩ := hp8
          have H18 : Hold h h8 [own cd2 a8 x12.length c8 x12, own cd29 a7 x10.length c7 x10, own cd2 a6 x7.1.length c6 x7.1, own cd2 a5 x6.length c5 x6, own cd29 a4 x5.length c4 x5, own cd2 a3 x4.1.length c3 x4.1, own cd2 a2 x3.length c2 x3, own cd29 a1 x2.length c1 x2] := H15.call H17 rfl
          obtain ⟨x13, hx12, hF⟩ := M.bind_some hF
          refine Run_y (.bool x13) (by kernel_rfl) (Y_callq (f := 23) (args := #[.slice a5 x6.length c5, .slice a8 x12.length c8]) (v := .bool x13) (by kernel_rfl) (w_laws_eqInt64S h8 x6 a5 c5 (H18.rd 3 rfl) x12 a8 c8 (H18.rd 0 rfl) _ _ hx12)) ?_
          refine Run_b [.bool (!x13)] 4 _ (by kernel_rfl) (fun w => by kernel_rfl) ?_
          refine Run_nil (by kernel_rfl) ?_
          refine Run_keep [0, 1, 6, 7, 8, 9, 10, 11, 61] (L' := [(0, .slice aaA aA.length caA), (1, .slice aaX aX.length caX), (6, .slice a3 x4.1.length c3), (7, .int .i64 x4.2), (8, .slice a4 x5.length c4), (9, .slice a5 x6.length c5), (10, .slice a6 x7.1.length c6), (11, .int .i64 x7.2), (61, .bool (!x13))]) (by kernel_rfl) ?_
          refine Run_cond (b := !x13) (by kernel_rfl) (fun hb6 => ?_) (fun hb6 => ?_)
          · have hF := (M.ite_some hF).1 hb6
            refine Run_seq ?_
            refine Run_reg 1 (by kernel_rfl) (L' := [(4, .bool false)]) ?_ ?_
            · refine QRun_b [.bool false] 0 _ (by kernel_rfl) (fun w => by kernel_rfl) ?_
              exact QRun_done [4] (by kernel_rfl) (by kernel_rfl)
            have hF := M.ret_some hF
            subst hF
            have H19 : Hold h h8 [] := H18.pick [] (by kernel_rfl)
            exact Run_ret1 rfl (ResV_tmp (v := .bool false) (by kernel_rfl)) ⟨rfl, H19⟩
          · have hF := (M.ite_some hF).2 hb6
            refine Run_skip ?_
            refine Run_seq ?_
            refine Run_reg 1 (by kernel_rfl) (L' := [(0, .slice aaA aA.length caA), (1, .slice aaX aX.length caX), (6, .slice a3 x4.1.length c3), (7, .int .i64 x4.2), (8, .slice a4 x5.length c4), (9, .slice a5 x6.length c5), (10, .slice a6 x7.1.length c6), (11, .int .i64 x7.2), (12, .int .i64 1)]) ?_ ?_
            · refine QRun_b [.int .i64 1] 0 _ (by kernel_rfl) (fun w => by kernel_rfl) ?_
              exact QRun_done [0, 1, 6, 7, 8, 9, 10, 11, 12] (by kernel_rfl) (by kernel_rfl)
            refine Run_seq ?_
            refine Run_ops ?_
            refine Run_b [.slice a4 x5.length c4, .int .i64 1] 0 _ (by kernel_rfl) (fun w => by kernel_rfl) ?_
            obtain ⟨x14, hx13, hF⟩ := M.bind_some hF
            have H20 : Hold h h8 [own cd29 a4 x5.length c4 x5, own cd2 a8 x12.length c8 x12, own cd29 a7 x10.length c7 x10, own cd2 a6 x7.1.length c6 x7.1, own cd2 a5 x6.length c5 x6, own cd2 a3 x4.1.length c3 x4.1, own cd2 a2 x3.length c2 x3, own cd29 a1 x2.length c1 x2] := H18.pick [4, 0, 1, 2, 3, 5, 6, 7] (by kernel_rfl)
            have H21 : Hold h h8 [own cd29 a4 x5.length c4 x5, bun [own cd2 a8 x12.length c8 x12, own cd29 a7 x10.length c7 x10, own cd2 a6 x7.1.length c6 x7.1, own cd2 a5 x6.length c5 x6, own cd2 a3 x4.1.length c3 x4.1, own cd2 a2 x3.length c2 x3, own cd29 a1 x2.length c1 x2]] := Hold.bundle (S := [own cd29 a4 x5.length c4 x5]) (R := [own cd2 a8 x12.length c8 x12, own cd29 a7 x10.length c7 x10, own cd2 a6 x7.1.length c6 x7.1, own cd2 a5 x6.length c5 x6, own cd2 a3 x4.1.length c3 x4.1, own cd2 a2 x3.length c2 x3, own cd29 a1 x2.length c1 x2]) H20
            refine Run_E (by kernel_rfl) ?_
            refine E_call (f := 24) (args := #[.slice a4 x5.length c4, .int .i64 1]) (w_laws_markInt64SS h h8 _ x5 a4 c4 1 H21 _ _ hx13) (by kernel_rfl) (fun v9 h9 hp9 => ?_)
            obtain ⟨rfl, H22⟩ := hp9
            have H23 : Hold h h9 [own cd29 a4 x5.length c4 x14.2, own cd2 a8 x12.length c8 x12, own cd29 a7 x10.length c7 x10, own cd2 a6 x7.1.length c6 x7.1, own cd2 a5 x6.length c5 x6, own cd2 a3 x4.1.length c3 x4.1, own cd2 a2 x3.length c2 x3, own cd29 a1 x2.length c1 x2] := Hold.unbundle (S := [own cd29 a4 x5.length c4 x14.2]) (R := [own cd2 a8 x12.length c8 x12, own cd29 a7 x10.length c7 x10, own cd2 a6 x7.1.length c6 x7.1, own cd2 a5 x6.length c5 x6, own cd2 a3 x4.1.length c3 x4.1, own cd2 a2 x3.length c2 x3, own cd29 a1 x2.length c1 x2]) H22 (Hold.tailBase (S := [own cd29 a4 x5.length c4 x5]) (R := [own cd2 a8 x12.length c8 x12, own cd29 a7 x10.length c7 x10, own cd2 a6 x7.1.length c6 x7.1, own cd2 a5 x6.length c5 x6, own cd2 a3 x4.1.length c3 x4.1, own cd2 a2 x3.length c2 x3, own cd29 a1 x2.length c1 x2]) H20)
            refine Run_b [.int .i64 x14.1] 3 _ (by kernel_rfl) (fun w => by kernel_rfl) ?_
            refine Run_nil (by kernel_rfl) ?_
            refine Run_keep [0, 1, 6, 7, 9, 10, 11, 12] (L' := [(0, .slice aaA aA.length caA), (1, .slice aaX aX.length caX), (6, .slice a3 x4.1.length c3), (7, .int .i64 x4.2), (9, .slice a5 x6.length c5), (10, .slice a6 x7.1.length c6), (11, .int .i64 x7.2), (12, .int .i64 x14.1)]) (by kernel_rfl) ?_
            refine Run_seq ?_
            refine Run_ops ?_
            refine Run_b [.slice a5 x6.length c5, .int .i64 x14.1] 0 _ (by kernel_rfl) (fun w => by kernel_rfl) ?_
            obtain ⟨x15, hx14, hF⟩ := M.bind_some hF
            have H24 : Hold h h9 [own cd2 a5 x6.length c5 x6, own cd29 a4 x5.length c4 x14.2, own cd2 a8 x12.length c8 x12, own cd29 a7 x10.length c7 x10, own cd2 a6 x7.1.length c6 x7.1, own cd2 a3 x4.1.length c3 x4.1, own cd2 a2 x3.length c2 x3, own cd29 a1 x2.length c1 x2] := H23.pick [4, 0, 1, 2, 3, 5, 6, 7] (by kernel_rfl)
            have H25 : Hold h h9 [own cd2 a5 x6.length c5 x6, bun [own cd29 a4 x5.length c4 x14.2, own cd2 a8 x12.length c8 x12, own cd29 a7 x10.length c7 x10, own cd2 a6 x7.1.length c6 x7.1, own cd2 a3 x4.1.length c3 x4.1, own cd2 a2 x3.length c2 x3, own cd29 a1 x2.length c1 x2]] := Hold.bundle (S := [own cd2 a5 x6.length c5 x6]) (R := [own cd29 a4 x5.length c4 x14.2, own cd2 a8 x12.length c8 x12, own cd29 a7 x10.length c7 x10, own cd2 a6 x7.1.length c6 x7.1, own cd2 a3 x4.1.length c3 x4.1, own cd2 a2 x3.length c2 x3, own cd29 a1 x2.length c1 x2]) H24
            refine Run_E (by kernel_rfl) ?_
            refine E_call (f := 25) (args := #[.slice a5 x6.length c5, .int .i64 x14.1]) (w_laws_markInt64S h h9 _ x6 a5 c5 x14.1 H25 _ _ hx14) (by kernel_rfl) (fun v10 h10 hp10 => ?_)
            obtain ⟨rfl, H26⟩ := hp10
            have H27 : Hold h h10 [own cd2 a5 x6.length c5 x15.2, own cd29 a4 x5.length c4 x14.2, own cd2 a8 x12.length c8 x12, own cd29 a7 x10.length c7 x10, own cd2 a6 x7.1.length c6 x7.1, own cd2 a3 x4.1.length c3 x4.1, own cd2 a2 x3.length c2 x3, own cd29 a1 x2.length c1 x2] := Hold.unbundle (S := [own cd2 a5 x6.length c5 x15.2]) (R := [own cd29 a4 x5.length c4 x14.2, own cd2 a8 x12.length c8 x12, own cd29 a7 x10.length c7 x10, own cd2 a6 x7.1.length c6 x7.1, own cd2 a3 x4.1.length c3 x4.1, own cd2 a2 x3.length c2 x3, own cd29 a1 x2.length c1 x2]) H26 (Hold.tailBase (S := [own cd2 a5 x6.length c5 x6]) (R := [own cd29 a4 x5.length c4 x14.2, own cd2 a8 x12.length c8 x12, own cd29 a7 x10.length c7 x10, own cd2 a6 x7.1.length c6 x7.1, own cd2 a3 x4.1.length c3 x4.1, own cd2 a2 x3.length c2 x3, own cd29 a1 x2.length c1 x2]) H24)
            refine Run_b [.int .i64 x15.1] 3 _ (by kernel_rfl) (fun w => by kernel_rfl) ?_
            refine Run_nil (by kernel_rfl) ?_
            refine Run_keep [0, 1, 6, 7, 10, 11, 12] (L' := [(0, .slice aaA aA.length caA), (1, .slice aaX aX.length caX), (6, .slice a3 x4.1.length c3), (7, .int .i64 x4.2), (10, .slice a6 x7.1.length c6), (11, .int .i64 x7.2), (12, .int .i64 x15.1)]) (by kernel_rfl) ?_
            refine Run_seq ?_
            refine Run_seq ?_
            obtain ⟨x16, gx16, hF⟩ := M.bind_some hF
            refine Run_reg 13 (by kernel_rfl) (L' := [(0, .slice aaA aA.length caA), (1, .slice aaX aX.length caX), (6, .slice a3 x4.1.length c3), (7, .int .i64 x4.2), (10, .slice a6 x7.1.length c6), (80, .bool (x16 || (x7.2 != x4.2)))]) ?_ ?_
            · refine QRun_b [.int .i64 x15.1, .bool (decide (x15.1 < 0))] 0 _ (by kernel_rfl) (fun w => by kernel_rfl) ?_
              refine QRun_seq 8 [(0, .slice aaA aA.length caA), (1, .slice aaX aX.length caX), (6, .slice a3 x4.1.length c3), (7, .int .i64 x4.2), (10, .slice a6 x7.1.length c6), (11, .int .i64 x7.2), (75, .bool x16)] ?_ ?_
              · rcases Bool.eq_false_or_eq_true (decide (x15.1 < 0)) with hb7 | hb7
                · refine QRun_bool (decide (x15.1 < 0)) true (by kernel_rfl) (fun w => by kernel_rfl) hb7 ?_
                  have gx16 := M.ret_some ((M.ite_some gx16).1 hb7)
                  refine QRun_n (by kernel_rfl) ?_
                  refine QRun_n (by kernel_rfl) ?_
                  refine QRun_n (by kernel_rfl) ?_
                  refine QRun_n (by kernel_rfl) ?_
                  refine QRun_bool true x16 (by kernel_rfl) (fun w => by kernel_rfl) gx16 ?_
                  exact QRun_done [0, 1, 6, 7, 10, 11, 75] (by kernel_rfl) (by kernel_rfl)
                · refine QRun_bool (decide (x15.1 < 0)) false (by kernel_rfl) (fun w => by kernel_rfl) hb7 ?_
                  have gx16 := (M.ite_some gx16).2 hb7
                  obtain ⟨x17, hx15, gx16⟩ := M.bind_some gx16
                  have gx16 := M.ret_some gx16
                  refine QRun_b [.slice a6 x7.1.length c6, .slice a3 x4.1.length c3] 3 _ (by kernel_rfl) (fun w => by kernel_rfl) ?_
                  refine QRun_y (.bool x17) (by kernel_rfl) (Y_callq (f := 23) (args := #[.slice a6 x7.1.length c6, .slice a3 x4.1.length c3]) (v := .bool x17) (by kernel_rfl) (w_laws_eqInt64S h10 x7.1 a6 c6 (H27.rd 4 rfl) x4.1 a3 c3 (H27.rd 5 rfl) _ _ hx15)) ?_
                  refine QRun_b [.bool (!x17)] 6 _ (by kernel_rfl) (fun w => by kernel_rfl) ?_
                  refine QRun_bool (!x17) x16 (by kernel_rfl) (fun w => by kernel_rfl) gx16 ?_
                  exact QRun_done [0, 1, 6, 7, 10, 11, 75] (by kernel_rfl) (by kernel_rfl)
              refine QRun_seq 13 [(0, .slice aaA aA.length caA), (1, .slice aaX aX.length caX), (6, .slice a3 x4.1.length c3), (7, .int .i64 x4.2), (10, .slice a6 x7.1.length c6), (80, .bool (x16 || (x7.2 != x4.2)))] ?_ ?_
              · rcases Bool.eq_false_or_eq_true x16 with hb8 | hb8
                · refine QRun_bool x16 true (by kernel_rfl) (fun w => by kernel_rfl) hb8 ?_
                  refine QRun_n (by kernel_rfl) ?_
                  refine QRun_n (by kernel_rfl) ?_
                  refine QRun_n (by kernel_rfl) ?_
                  refine QRun_bool true (x16 || (x7.2 != x4.2)) (by kernel_rfl) (fun w => by kernel_rfl) (by rw [hb8]; rfl) ?_
                  exact QRun_done [0, 1, 6, 7, 10, 80] (by kernel_rfl) (by kernel_rfl)
                · refine QRun_bool x16 false (by kernel_rfl) (fun w => by kernel_rfl) hb8 ?_
                  refine QRun_b [.int .i64 x7.2, .int .i64 x4.2, .bool (x7.2 != x4.2)] 9 _ (by kernel_rfl) (fun w => by kernel_rfl) ?_
                  refine QRun_bool (x7.2 != x4.2) (x16 || (x7.2 != x4.2)) (by kernel_rfl) (fun w => by kernel_rfl) (by rw [hb8]; rfl) ?_
                  exact QRun_done [0, 1, 6, 7, 10, 80] (by kernel_rfl) (by kernel_rfl)
              exact QRun_done [0, 1, 6, 7, 10, 80] (by kernel_rfl) (by kernel_rfl)
            refine Run_cond (b := x16 || (x7.2 != x4.2)) (by kernel_rfl) (fun hb9 => ?_) (fun hb9 => ?_)
            · have hF := (M.ite_some hF).1 hb9
              refine Run_seq ?_
              refine Run_reg 1 (by kernel_rfl) (L' := [(4, .bool false)]) ?_ ?_
              · refine QRun_b [.bool false] 0 _ (by kernel_rfl) (fun w => by kernel_rfl) ?_
                exact QRun_done [4] (by kernel_rfl) (by kernel_rfl)
              have hF := M.ret_some hF
              subst hF
              have H28 : Hold h h10 [] := H27.pick [] (by kernel_rfl)
              exact Run_ret1 rfl (ResV_tmp (v := .bool false) (by kernel_rfl)) ⟨rfl, H28⟩
            · have hF := (M.ite_some hF).2 hb9
              refine Run_skip ?_
              refine Run_seq ?_
              refine Run_reg 1 (by kernel_rfl) (L' := [(0, .slice aaA aA.length caA), (1, .slice aaX aX.length caX), (6, .slice a3 x4.1.length c3), (7, .int .i64 x4.2), (10, .slice a6 x7.1.length c6), (13, .int .i64 1)]) ?_ ?_
              · refine QRun_b [.int .i64 1] 0 _ (by kernel_rfl) (fun w => by kernel_rfl) ?_
                exact QRun_done [0, 1, 6, 7, 10, 13] (by kernel_rfl) (by kernel_rfl)
              refine Run_seq ?_
              refine Run_ops ?_
              refine Run_b [.slice a6 x7.1.length c6, .int .i64 1] 0 _ (by kernel_rfl) (fun w => by kernel_rfl) ?_
              obtain ⟨x19, hx16, hF⟩ := M.bind_some hF
              have H29 : Hold h h10 [own cd2 a6 x7.1.length c6 x7.1, own cd2 a5 x6.length c5 x15.2, own cd29 a4 x5.length c4 x14.2, own cd2 a8 x12.length c8 x12, own cd29 a7 x10.length c7 x10, own cd2 a3 x4.1.length c3 x4.1, own cd2 a2 x3.length c2 x3, own cd29 a1 x2.length c1 x2] := H27.pick [4, 0, 1, 2, 3, 5, 6, 7] (by kernel_rfl)
              have H30 : Hold h h10 [own cd2 a6 x7.1.length c6 x7.1, bun [own cd2 a5 x6.length c5 x15.2, own cd29 a4 x5.length c4 x14.2, own cd2 a8 x12.length c8 x12, own cd29 a7 x10.length c7 x10, own cd2 a3 x4.1.length c3 x4.1, own cd2 a2 x3.length c2 x3, own cd29 a1 x2.length c1 x2]] := Hold.bundle (S := [own cd2 a6 x7.1.length c6 x7.1]) (R := [own cd2 a5 x6.length c5 x15.2, own cd29 a4 x5.length c4 x14.2, own cd2 a8 x12.length c8 x12, own cd29 a7 x10.length c7 x10, own cd2 a3 x4.1.length c3 x4.1, own cd2 a2 x3.length c2 x3, own cd29 a1 x2.length c1 x2]) H29
              refine Run_E (by kernel_rfl) ?_
              refine E_call (f := 25) (args := #[.slice a6 x7.1.length c6, .int .i64 1]) (w_laws_markInt64S h h10 _ x7.1 a6 c6 1 H30 _ _ hx16) (by kernel_rfl) (fun v11 h11 hp11 => ?_)
              obtain ⟨rfl, H31⟩ := hp11
              have H32 : Hold h h11 [own cd2 a6 x7.1.length c6 x19.2, own cd2 a5 x6.length c5 x15.2, own cd29 a4 x5.length c4 x14.2, own cd2 a8 x12.length c8 x12, own cd29 a7 x10.length c7 x10, own cd2 a3 x4.1.length c3 x4.1, own cd2 a2 x3.length c2 x3, own cd29 a1 x2.length c1 x2] := Hold.unbundle (S := [own cd2 a6 x7.1.length c6 x19.2]) (R := [own cd2 a5 x6.length c5 x15.2, own cd29 a4 x5.length c4 x14.2, own cd2 a8 x12.length c8 x12, own cd29 a7 x10.length c7 x10, own cd2 a3 x4.1.length c3 x4.1, own cd2 a2 x3.length c2 x3, own cd29 a1 x2.length c1 x2]) H31 (Hold.tailBase (S := [own cd2 a6 x7.1.length c6 x7.1]) (R := [own cd2 a5 x6.length c5 x15.2, own cd29 a4 x5.length c4 x14.2, own cd2 a8 x12.length c8 x12, own cd29 a7 x10.length c7 x10, own cd2 a3 x4.1.length c3 x4.1, own cd2 a2 x3.length c2 x3, own cd29 a1 x2.length c1 x2]) H29)
              refine Run_b [.int .i64 x19.1] 3 _ (by kernel_rfl) (fun w => by kernel_rfl) ?_
              refine Run_nil (by kernel_rfl) ?_
              refine Run_keep [0, 1, 6, 7, 10, 13] (L' := [(0, .slice aaA aA.length caA), (1, .slice aaX aX.length caX), (6, .slice a3 x4.1.length c3), (7, .int .i64 x4.2), (10, .slice a6 x7.1.length c6), (13, .int .i64 x19.1)]) (by kernel_rfl) ?_
              refine Run_seq ?_
              refine Run_reg 1 (by kernel_rfl) (L' := [(0, .slice aaA aA.length caA), (1, .slice aaX aX.length caX), (6, .slice a3 x4.1.length c3), (7, .int .i64 x4.2), (10, .slice a6 x7.1.length c6), (13, .int .i64 x19.1), (14, .int .i64 1)]) ?_ ?_
              · refine QRun_b [.int .i64 1] 0 _ (by kernel_rfl) (fun w => by kernel_rfl) ?_
                exact QRun_done [0, 1, 6, 7, 10, 13, 14] (by kernel_rfl) (by kernel_rfl)
              refine Run_seq ?_
              obtain ⟨x20, hx17, hF⟩ := M.bind_some hF
              refine Run_reg 4 (by kernel_rfl) (L' := [(0, .slice aaA aA.length caA), (1, .slice aaX aX.length caX), (6, .slice a3 x4.1.length c3), (7, .int .i64 x4.2), (10, .slice a6 x7.1.length c6), (13, .int .i64 x19.1), (14, .int .i64 x20)]) ?_ ?_
              · refine QRun_b [.slice a6 x7.1.length c6, .int .i64 1] 0 _ (by kernel_rfl) (fun w => by kernel_rfl) ?_
                refine QRun_y (.int .i64 x20) (by kernel_rfl) (Y_callq (f := 35) (args := #[.slice a6 x7.1.length c6, .int .i64 1]) (v := .int .i64 x20) (by kernel_rfl) (Fn.arg (w_laws_heldInt64S h11 x19.2 a6 c6 (H32.rd 0 rfl) 1 _ _ hx17) (by simp only [(H32.len 0 rfl)]))) ?_
                refine QRun_b [.int .i64 x20] 3 _ (by kernel_rfl) (fun w => by kernel_rfl) ?_
                exact QRun_done [0, 1, 6, 7, 10, 13, 14] (by kernel_rfl) (by kernel_rfl)
              refine Run_seq ?_
              refine Run_seq ?_
              refine Run_reg 2 (by kernel_rfl) (L' := [(0, .slice aaA aA.length caA), (1, .slice aaX aX.length caX), (6, .slice a3 x4.1.length c3), (7, .int .i64 x4.2), (10, .slice a6 x7.1.length c6), (13, .int .i64 x19.1), (14, .int .i64 x20), (88, .bool (decide (x20 < 0)))]) ?_ ?_
              · refine QRun_b [.int .i64 x20, .bool (decide (x20 < 0))] 0 _ (by kernel_rfl) (fun w => by kernel_rfl) ?_
                exact QRun_done [0, 1, 6, 7, 10, 13, 14, 88] (by kernel_rfl) (by kernel_rfl)
              refine Run_cond (b := decide (x20 < 0)) (by kernel_rfl) (fun hb10 => ?_) (fun hb10 => ?_)
              · have hF := (M.ite_some hF).1 hb10
                refine Run_seq ?_
                refine Run_reg 1 (by kernel_rfl) (L' := [(4, .bool false)]) ?_ ?_
                · refine QRun_b [.bool false] 0 _ (by kernel_rfl) (fun w => by kernel_rfl) ?_
                  exact QRun_done [4] (by kernel_rfl) (by kernel_rfl)
                have hF := M.ret_some hF
                subst hF
                have H33 : Hold h h11 [] := H32.pick [] (by kernel_rfl)
                exact Run_ret1 rfl (ResV_tmp (v := .bool false) (by kernel_rfl)) ⟨rfl, H33⟩
              · have hF := (M.ite_some hF).2 hb10
                refine Run_skip ?_
                refine Run_seq ?_
                refine Run_seq ?_
                refine Run_reg 3 (by kernel_rfl) (L' := [(0, .slice aaA aA.length caA), (1, .slice aaX aX.length caX), (6, .slice a3 x4.1.length c3), (7, .int .i64 x4.2), (10, .slice a6 x7.1.length c6), (13, .int .i64 x19.1), (91, .bool (x20 != x19.1))]) ?_ ?_
                · refine QRun_b [.int .i64 x20, .int .i64 x19.1, .bool (x20 != x19.1)] 0 _ (by kernel_rfl) (fun w => by kernel_rfl) ?_
                  exact QRun_done [0, 1, 6, 7, 10, 13, 91] (by kernel_rfl) (by kernel_rfl)
                refine Run_cond (b := x20 != x19.1) (by kernel_rfl) (fun hb11 => ?_) (fun hb11 => ?_)
                · have hF := (M.ite_some hF).1 hb11
                  refine Run_seq ?_
                  refine Run_reg 1 (by kernel_rfl) (L' := [(4, .bool false)]) ?_ ?_
                  · refine QRun_b [.bool false] 0 _ (by kernel_rfl) (fun w => by kernel_rfl) ?_
                    exact QRun_done [4] (by kernel_rfl) (by kernel_rfl)
                  have hF := M.ret_some hF
                  subst hF
                  have H34 : Hold h h11 [] := H32.pick [] (by kernel_rfl)
                  exact Run_ret1 rfl (ResV_tmp (v := .bool false) (by kernel_rfl)) ⟨rfl, H34⟩
                · have hF := (M.ite_some hF).2 hb11
                  refine Run_skip ?_
                  refine Run_seq ?_
                  refine Run_ops ?_
                  refine Run_b [.slice aaA aA.length caA] 0 _ (by kernel_rfl) (fun w => by kernel_rfl) ?_
                  obtain ⟨x21, hx18, hF⟩ := M.bind_some hF
                  refine Run_E (by kernel_rfl) ?_
                  refine E_call (f := 17) (args := #[.slice aaA aA.length caA]) (w_laws_toInt64SS h11 aA aaA caA (raA.at H32.ext) _ _ hx18) (by kernel_rfl) (fun v12 h12 hp12 => ?_)
                  obtain ⟨a9, c9, rfl, H35⟩ := hp12
                  have H36 : Hold h h12 [own cd29 a9 x21.length c9 x21, own cd2 a6 x7.1.length c6 x19.2, own cd2 a5 x6.length c5 x15.2, own cd29 a4 x5.length c4 x14.2, own cd2 a8 x12.length c8 x12, own cd29 a7 x10.length c7 x10, own cd2 a3 x4.1.length c3 x4.1, own cd2 a2 x3.length c2 x3, own cd29 a1 x2.length c1 x2] := H32.call H35 rfl
                  refine Run_b [.slice aaX aX.length caX] 2 _ (by kernel_rfl) (fun w => by kernel_rfl) ?_
                  obtain ⟨x22, hx19, hF⟩ := M.bind_some hF
                  refine Run_E (by kernel_rfl) ?_
                  refine E_call (f := 21) (args := #[.slice aaX aX.length caX]) (w_laws_toInt64S h12 aX aaX caX (raX.at H36.ext) _ _ hx19) (by kernel_rfl) (fun v13 h13 hp13 => ?_)
                  obtain ⟨a10, c10, rfl, H37⟩ := hp13
                  have H38 : Hold h h13 [own cd2 a10 x22.length c10 x22, own cd29 a9 x21.length c9 x21, own cd2 a6 x7.1.length c6 x19.2, own cd2 a5 x6.length c5 x15.2, own cd29 a4 x5.length c4 x14.2, own cd2 a8 x12.length c8 x12, own cd29 a7 x10.length c7 x10, own cd2 a3 x4.1.length c3 x4.1, own cd2 a2 x3.length c2 x3, own cd29 a1 x2.length c1 x2] := H36.call H37 rfl
                  obtain ⟨x23, hx20, hF⟩ := M.bind_some hF
                  refine Run_E (by kernel_rfl) ?_
                  refine E_call (f := 34) (args := #[.slice a9 x21.length c9, .slice a10 x22.length c10]) (w_impl_SteadyState h13 x21 a9 c9 (H38.rd 1 rfl) x22 a10 c10 (H38.rd 0 rfl) _ _ hx20) (by kernel_rfl) (fun v14 h14 hp14 => ?_)
                  obtain ⟨a11, c11, rfl, H39⟩ := hp14
                  have H40 : Hold h h14 [own cd2 a11 x23.1.length c11 x23.1, own cd2 a10 x22.length c10 x22, own cd29 a9 x21.length c9 x21, own cd2 a6 x7.1.length c6 x19.2, own cd2 a5 x6.length c5 x15.2, own cd29 a4 x5.length c4 x14.2, own cd2 a8 x12.length c8 x12, own cd29 a7 x10.length c7 x10, own cd2 a3 x4.1.length c3 x4.1, own cd2 a2 x3.length c2 x3, own cd29 a1 x2.length c1 x2] := H38.call H39 rfl
                  refine Run_b [.tuple #[.slice a11 x23.1.length c11, .int .i64 x23.2], .slice a11 x23.1.length c11, .int .i64 x23.2, .slice a11 x23.1.length c11, .int .i64 x23.2] 5 _ (by kernel_rfl) (fun w => by kernel_rfl) ?_
                  refine Run_nil (by kernel_rfl) ?_
                  refine Run_keep [6, 7, 10, 13, 15, 16] (L' := [(6, .slice a3 x4.1.length c3), (7, .int .i64 x4.2), (10, .slice a6 x7.1.length c6), (13, .int .i64 x19.1), (15, .slice a11 x23.1.length c11), (16, .int .i64 x23.2)]) (by kernel_rfl) ?_
                  refine Run_seq ?_
                  refine Run_seq ?_
                  obtain ⟨x24, hx21, hF⟩ := M.bind_some hF
                  refine Run_reg 9 (by kernel_rfl) (L' := [(10, .slice a6 x7.1.length c6), (13, .int .i64 x19.1), (108, .bool ((!x24) || (x23.2 != x4.2)))]) ?_ ?_
                  · refine QRun_b [.slice a11 x23.1.length c11, .slice a3 x4.1.length c3] 0 _ (by kernel_rfl) (fun w => by kernel_rfl) ?_
                    refine QRun_y (.bool x24) (by kernel_rfl) (Y_callq (f := 23) (args := #[.slice a11 x23.1.length c11, .slice a3 x4.1.length c3]) (v := .bool x24) (by kernel_rfl) (w_laws_eqInt64S h14 x23.1 a11 c11 (H40.rd 0 rfl) x4.1 a3 c3 (H40.rd 8 rfl) _ _ hx21)) ?_
                    refine QRun_b [.bool (!x24)] 3 _ (by kernel_rfl) (fun w => by kernel_rfl) ?_
                    refine QRun_seq 9 [(10, .slice a6 x7.1.length c6), (13, .int .i64 x19.1), (108, .bool ((!x24) || (x23.2 != x4.2)))] ?_ ?_
                    · rcases Bool.eq_false_or_eq_true (!x24) with hb12 | hb12
                      · refine QRun_bool (!x24) true (by kernel_rfl) (fun w => by kernel_rfl) hb12 ?_
                        refine QRun_n (by kernel_rfl) ?_
                        refine QRun_n (by kernel_rfl) ?_
                        refine QRun_n (by kernel_rfl) ?_
                        refine QRun_bool true ((!x24) || (x23.2 != x4.2)) (by kernel_rfl) (fun w => by kernel_rfl) (by rw [hb12]; rfl) ?_
                        exact QRun_done [10, 13, 108] (by kernel_rfl) (by kernel_rfl)
                      · refine QRun_bool (!x24) false (by kernel_rfl) (fun w => by kernel_rfl) hb12 ?_
                        refine QRun_b [.int .i64 x23.2, .int .i64 x4.2, .bool (x23.2 != x4.2)] 5 _ (by kernel_rfl) (fun w => by kernel_rfl) ?_
                        refine QRun_bool (x23.2 != x4.2) ((!x24) || (x23.2 != x4.2)) (by kernel_rfl) (fun w => by kernel_rfl) (by rw [hb12]; rfl) ?_
                        exact QRun_done [10, 13, 108] (by kernel_rfl) (by kernel_rfl)
                    exact QRun_done [10, 13, 108] (by kernel_rfl) (by kernel_rfl)
                  refine Run_cond (b := (!x24) || (x23.2 != x4.2)) (by kernel_rfl) (fun hb13 => ?_) (fun hb13 => ?_)
                  · have hF := (M.ite_some hF).1 hb13
                    refine Run_seq ?_
                    refine Run_reg 1 (by kernel_rfl) (L' := [(4, .bool false)]) ?_ ?_
                    · refine QRun_b [.bool false] 0 _ (by kernel_rfl) (fun w => by kernel_rfl) ?_
                      exact QRun_done [4] (by kernel_rfl) (by kernel_rfl)
                    have hF := M.ret_some hF
                    subst hF
                    have H41 : Hold h h14 [] := H40.pick [] (by kernel_rfl)
                    exact Run_ret1 rfl (ResV_tmp (v := .bool false) (by kernel_rfl)) ⟨rfl, H41⟩
                  · have hF := (M.ite_some hF).2 hb13
                    refine Run_skip ?_
                    refine Run_seq ?_
                    refine Run_reg 1 (by kernel_rfl) (L' := [(10, .slice a6 x7.1.length c6), (13, .int .i64 x19.1), (14, .int .i64 1)]) ?_ ?_
                    · refine QRun_b [.int .i64 1] 0 _ (by kernel_rfl) (fun w => by kernel_rfl) ?_
                      exact QRun_done [10, 13, 14] (by kernel_rfl) (by kernel_rfl)
                    refine Run_seq ?_
                    obtain ⟨x26, hx22, hF⟩ := M.bind_some hF
                    refine Run_reg 4 (by kernel_rfl) (L' := [(13, .int .i64 x19.1), (14, .int .i64 x26)]) ?_ ?_
                    · refine QRun_b [.slice a6 x7.1.length c6, .int .i64 1] 0 _ (by kernel_rfl) (fun w => by kernel_rfl) ?_
                      refine QRun_y (.int .i64 x26) (by kernel_rfl) (Y_callq (f := 35) (args := #[.slice a6 x7.1.length c6, .int .i64 1]) (v := .int .i64 x26) (by kernel_rfl) (Fn.arg (w_laws_heldInt64S h14 x19.2 a6 c6 (H40.rd 3 rfl) 1 _ _ hx22) (by simp only [(H40.len 3 rfl)]))) ?_
                      refine QRun_b [.int .i64 x26] 3 _ (by kernel_rfl) (fun w => by kernel_rfl) ?_
                      exact QRun_done [13, 14] (by kernel_rfl) (by kernel_rfl)
                    refine Run_seq ?_
                    refine Run_seq ?_
                    refine Run_reg 2 (by kernel_rfl) (L' := [(13, .int .i64 x19.1), (14, .int .i64 x26), (113, .bool (decide (x26 < 0)))]) ?_ ?_
                    · refine QRun_b [.int .i64 x26, .bool (decide (x26 < 0))] 0 _ (by kernel_rfl) (fun w => by kernel_rfl) ?_
                      exact QRun_done [13, 14, 113] (by kernel_rfl) (by kernel_rfl)
                    refine Run_cond (b := decide (x26 < 0)) (by kernel_rfl) (fun hb14 => ?_) (fun hb14 => ?_)
                    · have hF := (M.ite_some hF).1 hb14
                      refine Run_seq ?_
                      refine Run_reg 1 (by kernel_rfl) (L' := [(4, .bool false)]) ?_ ?_
                      · refine QRun_b [.bool false] 0 _ (by kernel_rfl) (fun w => by kernel_rfl) ?_
                        exact QRun_done [4] (by kernel_rfl) (by kernel_rfl)
                      have hF := M.ret_some hF
                      subst hF
                      have H42 : Hold h h14 [] := H40.pick [] (by kernel_rfl)
                      exact Run_ret1 rfl (ResV_tmp (v := .bool false) (by kernel_rfl)) ⟨rfl, H42⟩
                    · have hF := (M.ite_some hF).2 hb14
                      refine Run_skip ?_
                      refine Run_seq ?_
                      refine Run_seq ?_
                      refine Run_reg 3 (by kernel_rfl) (L' := [(116, .bool (x26 != x19.1))]) ?_ ?_
                      · refine QRun_b [.int .i64 x26, .int .i64 x19.1, .bool (x26 != x19.1)] 0 _ (by kernel_rfl) (fun w => by kernel_rfl) ?_
                        exact QRun_done [116] (by kernel_rfl) (by kernel_rfl)
                      refine Run_cond (b := x26 != x19.1) (by kernel_rfl) (fun hb15 => ?_) (fun hb15 => ?_)
                      · have hF := (M.ite_some hF).1 hb15
                        refine Run_seq ?_
                        refine Run_reg 1 (by kernel_rfl) (L' := [(4, .bool false)]) ?_ ?_
                        · refine QRun_b [.bool false] 0 _ (by kernel_rfl) (fun w => by kernel_rfl) ?_
                          exact QRun_done [4] (by kernel_rfl) (by kernel_rfl)
                        have hF := M.ret_some hF
                        subst hF
                        have H43 : Hold h h14 [] := H40.pick [] (by kernel_rfl)
                        exact Run_ret1 rfl (ResV_tmp (v := .bool false) (by kernel_rfl)) ⟨rfl, H43⟩
                      · have hF := (M.ite_some hF).2 hb15
                        refine Run_skip ?_
                        refine Run_seq ?_
                        refine Run_reg 1 (by kernel_rfl) (L' := [(4, .bool true)]) ?_ ?_
                        · refine QRun_b [.bool true] 0 _ (by kernel_rfl) (fun w => by kernel_rfl) ?_
                          exact QRun_done [4] (by kernel_rfl) (by kernel_rfl)
                        have hF := M.ret_some hF
                        subst hF
                        have H44 : Hold h h14 [] := H40.pick [] (by kernel_rfl)
                        exact Run_ret1 rfl (ResV_tmp (v := .bool true) (by kernel_rfl)) ⟨rfl, H44⟩

end Go.Proofs.Ytjdilhpekknejaa
