/-
  Walks: each Go function, called with what reads as plain data, returns what its plain program computes.
  Conditions: None beyond the given statement.
-/
import Derived.Test.YtfhphkiggdepaaaDoorW2
namespace Go.Proofs.YtfhphkiggdepaaaDoor
open Go
attribute [local irreducible] setL setB opA fineI idleI fineB evB okB markB markBs readyB readyBs chainB lk rho pickL dropSlot tailOK
set_option maxRecDepth 100000
set_option maxHeartbeats 4000000
theorem w_impl_DropPlace (h : Heap) (g : TGraph) (agPlaces : Option Addr) (cgPlaces : Nat) (rgPlaces : Rd cd28 h (Lt h) agPlaces cgPlaces g.Places) (i : Int) (n : Nat) (r : TGraph × Int) (hF : impl_DropPlace g i n = some r) :
  Fn Tryd.prog 16 #[.agg #[iV g.Events, .slice agPlaces g.Places.length cgPlaces], iV i] h fun v h' => ∃ (a0 : Option Addr) (c0 : Nat), v = .tuple #[.agg #[iV r.1.Events, .slice a0 r.1.Places.length c0], iV r.2] ∧ Hold h h' [own cd28 a0 r.1.Places.length c0 r.1.Places] := by
 unfold impl_DropPlace at hF
 refine Zo [.agg #[iV g.Events, .slice agPlaces g.Places.length cgPlaces], iV i] Tryd.func16 rfl (fun w0 _ => ?_)
 have H0 := Hold.init h
 refine Zs ?_
 refine Run_ops ?_
 refine Ze ?_
 refine E_box (ty := 26) (cs := [iV g.Events, .slice agPlaces g.Places.length cgPlaces]) H0 (fun w => by kernel_rfl) (fun b1 h1 H1 => ?_)
 refine Ze ?_
 refine E_box (ty := 26) (cs := [iV 0, .slice none 0 0]) H1 (fun w => by kernel_rfl) (fun b2 h2 H2 => ?_)
 refine Zr [iV 0] 2 ?_
 refine Zx ?_
 refine Zk [1, 2, 4] [(1, iV i), (2, pV b1), (4, pV b2)] ?_
 refine Zs ?_
 refine Zs ?_
 obtain ⟨x1, hx1, hF⟩ := M.bind_some hF
 refine Run_regC (j := 3) (C := fun x => Hold h x [box b2 26 [iV 0, .slice none 0 0], box b1 26 [iV g.Events, .slice agPlaces g.Places.length cgPlaces]]) (by kernel_rfl) H2 (L' := [(1, iV i), (2, pV b1), (4, pV b2), (9, .bool (!x1))]) ?_ (fun h3 H3 => ?_)
 ·refine Zy (.agg #[iV g.Events, .slice agPlaces g.Places.length cgPlaces]) (Y_cls fun hx Hx => (Y_loadA (t := 26) (n := 2) (p := ⟨b1, 0, none⟩) (cs := [iV g.Events, .slice agPlaces g.Places.length cgPlaces]) (by kernel_rfl) (fun w => by kernel_rfl) (by kernel_rfl) rfl (Hx.cells (n := 2) (off := 0) 1 rfl rfl))) ?_
  refine Zy (.bool x1) (Y_call (f := 15) (args := #[.agg #[iV g.Events, .slice agPlaces g.Places.length cgPlaces]]) (v := .bool x1) (by kernel_rfl) fun hx Hx => (w_impl_IsEventGraph hx g agPlaces cgPlaces (rgPlaces.at Hx.ext) _ _ hx1).mono fun _ _ ⟨e, H'⟩ => ⟨e, Hx.call H' rfl⟩) ?_
  refine Zb [.bool (!x1)] 2 ?_
  exact Zd [1, 2, 4, 9]
 have H4 := H3
 refine Zc (!x1) (fun hb1 => ?_) (fun hb1 => ?_)
 ·have hF := (M.ite_some hF).1 hb1
  refine Zs ?_
  refine Run_ops ?_
  refine Zr [.agg #[iV 0, .slice none 0 0]] 0 ?_
  refine Ze ?_
  refine ZP 26 0 [iV 0, .slice none 0 0] (.agg #[iV 0, .slice none 0 0]) H4 (fun h4 H5 => ?_)
  refine Zr [iV 1] 2 ?_
  refine Zx ?_
  refine Zk [4, 5] [(4, pV b2), (5, iV 1)] ?_
  have hF := M.ret_some hF
  subst hF
  have H6 := H5.empty cd28
  have H7 : Hold h h4 [own cd28 none 0 0 []] := H6.pk [0]
  exact Run_ret2 rfl (ResV_cell (n := 2) (cs := [iV 0, .slice none 0 0]) (by kernel_rfl) (fun w => by kernel_rfl) (by kernel_rfl) rfl (H5.cells (n := 2) (off := 0) 0 rfl rfl)) (Zt (iV 1)) ⟨none, 0, rfl, H7⟩
 ·have hF := (M.ite_some hF).2 hb1
  refine Run_skip ?_
  refine Zs ?_
  refine Zs ?_
  obtain ⟨x2, hx2, hF⟩ := M.bind_some hF
  refine Zg 7 [(1, iV i), (2, pV b1), (4, pV b2), (17, .bool (!x2))] ?_ ?_
  ·refine Zb [iV i, .pointer (some ⟨b1, 1, none⟩)] 0 ?_
   refine Zy (.slice agPlaces g.Places.length cgPlaces) (Zl 24 (⟨b1, 1, none⟩) (.slice agPlaces g.Places.length cgPlaces) (H4.cell 1 rfl rfl)) ?_
   refine Zb [iV (g.Places.length : Int), iV (w64 ((g.Places.length : Int) - 1))] 3 ?_
   refine Zy (.bool x2) (ZQ 39 #[iV i, iV 0, iV (w64 ((g.Places.length : Int) - 1))] (w_impl_within h3 i 0 (w64 ((g.Places.length : Int) - 1)) _ _ hx2)) ?_
   refine Zb [.bool (!x2)] 6 ?_
   exact Zd [1, 2, 4, 17]
  refine Zc (!x2) (fun hb2 => ?_) (fun hb2 => ?_)
  ·have hF := (M.ite_some hF).1 hb2
   refine Zs ?_
   refine Run_ops ?_
   refine Zr [.agg #[iV 0, .slice none 0 0]] 0 ?_
   refine Ze ?_
   refine ZP 26 0 [iV 0, .slice none 0 0] (.agg #[iV 0, .slice none 0 0]) H4 (fun h5 H8 => ?_)
   refine Zr [iV 2] 2 ?_
   refine Zx ?_
   refine Zk [4, 5] [(4, pV b2), (5, iV 2)] ?_
   have hF := M.ret_some hF
   subst hF
   have H9 := H8.empty cd28
   have H10 : Hold h h5 [own cd28 none 0 0 []] := H9.pk [0]
   exact Run_ret2 rfl (ResV_cell (n := 2) (cs := [iV 0, .slice none 0 0]) (by kernel_rfl) (fun w => by kernel_rfl) (by kernel_rfl) rfl (H8.cells (n := 2) (off := 0) 0 rfl rfl)) (Zt (iV 2)) ⟨none, 0, rfl, H10⟩
  ·have hF := (M.ite_some hF).2 hb2
   refine Run_skip ?_
   refine Zs ?_
   refine Run_ops ?_
   refine Zz (.agg #[iV g.Events, .slice agPlaces g.Places.length cgPlaces]) (Y_loadA (t := 26) (n := 2) (p := ⟨b1, 0, none⟩) (cs := [iV g.Events, .slice agPlaces g.Places.length cgPlaces]) (by kernel_rfl) (fun w => by kernel_rfl) (by kernel_rfl) rfl (H4.cells (n := 2) (off := 0) 1 rfl rfl)) ?_
   obtain ⟨x3, hx3, hF⟩ := M.bind_some hF
   refine Ze ?_
   refine ZC 25 #[.agg #[iV g.Events, .slice agPlaces g.Places.length cgPlaces]] (w_impl_cloneGraph h3 g agPlaces cgPlaces (rgPlaces.at H4.ext) _ _ hx3) (fun v1 h6 hp1 => ?_)
   obtain ⟨a1, c1, rfl, H11⟩ := hp1
   have H12 : Hold h h6 [own cd28 a1 x3.Places.length c1 x3.Places, box b2 26 [iV 0, .slice none 0 0], box b1 26 [iV g.Events, .slice agPlaces g.Places.length cgPlaces]] := H4.call H11 rfl
   refine Ze ?_
   refine E_box (ty := 26) (cs := [iV 0, .slice none 0 0]) H12 (fun w => by kernel_rfl) (fun b3 h7 H13 => ?_)
   refine Ze ?_
   refine ZP 26 0 [iV x3.Events, .slice a1 x3.Places.length c1] (.agg #[iV x3.Events, .slice a1 x3.Places.length c1]) H13 (fun h8 H14 => ?_)
   refine Zx ?_
   refine Zk [1, 4, 6] [(1, iV i), (4, pV b2), (6, pV b3)] ?_
   refine Zs ?_
   refine Run_ops ?_
   refine Zr [.pointer (some ⟨b3, 1, none⟩)] 0 ?_
   refine Zz (.slice a1 x3.Places.length c1) (Zl 24 (⟨b3, 1, none⟩) (.slice a1 x3.Places.length c1) (H14.cell 0 rfl rfl)) ?_
   refine Zr [iV i, iV i, iV (w64 (i + 1))] 2 ?_
   obtain ⟨x4, hx4, hF⟩ := M.bind_some hF
   have H15 : Hold h h8 [own cd28 a1 x3.Places.length c1 x3.Places, box b3 26 [iV x3.Events, .slice a1 x3.Places.length c1], box b2 26 [iV 0, .slice none 0 0], box b1 26 [iV g.Events, .slice agPlaces g.Places.length cgPlaces]] := H14.pk [1, 0, 2, 3]
   have H16 : Hold h h8 [own cd28 a1 x3.Places.length c1 x3.Places, bun [box b3 26 [iV x3.Events, .slice a1 x3.Places.length c1], box b2 26 [iV 0, .slice none 0 0], box b1 26 [iV g.Events, .slice agPlaces g.Places.length cgPlaces]]] := H15.bd 1
   refine Ze ?_
   refine ZC 42 #[.slice a1 x3.Places.length c1, iV i, iV (w64 (i + 1))] (w_slices_Delete_Place h h8 _ x3.Places a1 c1 i (w64 (i + 1)) H16 _ _ hx4) (fun v2 h9 hp2 => ?_)
   obtain ⟨a2, c2, rfl, H17⟩ := hp2
   have H18 : Hold h h9 [own cd28 a2 x4.length c2 x4, box b3 26 [iV x3.Events, .slice a1 x3.Places.length c1], box b2 26 [iV 0, .slice none 0 0], box b1 26 [iV g.Events, .slice agPlaces g.Places.length cgPlaces]] := H17.ub (js := _) 1 1 H15
   refine Zr [.pointer (some ⟨b3, 1, none⟩)] 6 ?_
   have H20 : Hold h h9 [box b3 26 [iV x3.Events, .slice a1 x3.Places.length c1], own cd28 a2 x4.length c2 x4, box b2 26 [iV 0, .slice none 0 0], box b1 26 [iV g.Events, .slice agPlaces g.Places.length cgPlaces]] := H18.pk [1, 0, 2, 3]
   refine Ze ?_
   refine ZP 24 1 [iV x3.Events, .slice a2 x4.length c2] (.slice a2 x4.length c2) H20 (fun h10 H19 => ?_)
   refine Zx ?_
   refine Zk [4, 6] [(4, pV b2), (6, pV b3)] ?_
   refine Zs ?_
   refine Run_ops ?_
   refine Zz (.agg #[iV x3.Events, .slice a2 x4.length c2]) (Y_loadA (t := 26) (n := 2) (p := ⟨b3, 0, none⟩) (cs := [iV x3.Events, .slice a2 x4.length c2]) (by kernel_rfl) (fun w => by kernel_rfl) (by kernel_rfl) rfl (H19.cells (n := 2) (off := 0) 0 rfl rfl)) ?_
   have H22 : Hold h h10 [box b2 26 [iV 0, .slice none 0 0], box b3 26 [iV x3.Events, .slice a2 x4.length c2], own cd28 a2 x4.length c2 x4, box b1 26 [iV g.Events, .slice agPlaces g.Places.length cgPlaces]] := H19.pk [2, 0, 1, 3]
   refine Ze ?_
   refine ZP 26 0 [iV x3.Events, .slice a2 x4.length c2] (.agg #[iV x3.Events, .slice a2 x4.length c2]) H22 (fun h11 H21 => ?_)
   refine Zr [iV 0] 2 ?_
   refine Zx ?_
   refine Zk [4, 5] [(4, pV b2), (5, iV 0)] ?_
   have hF := M.ret_some hF
   subst hF
   have H23 : Hold h h11 [own cd28 a2 x4.length c2 x4, box b2 26 [iV x3.Events, .slice a2 x4.length c2], box b3 26 [iV x3.Events, .slice a2 x4.length c2], box b1 26 [iV g.Events, .slice agPlaces g.Places.length cgPlaces]] := H21.pk [2, 0, 1, 3]
   have H24 : Hold h h11 [own cd28 a2 x4.length c2 x4] := H23.pk [0]
   exact Run_ret2 rfl (ResV_cell (n := 2) (cs := [iV x3.Events, .slice a2 x4.length c2]) (by kernel_rfl) (fun w => by kernel_rfl) (by kernel_rfl) rfl (H21.cells (n := 2) (off := 0) 0 rfl rfl)) (Zt (iV 0)) ⟨a2, c2, rfl, H24⟩

theorem w_laws_FnGraphs (h : Heap) (gl : Gl Tryd.prog h) (tb : Tab Tryd.prog h) (code : List Int) (acode : Option Addr) (ccode : Nat) (rcode : Rd cd5 h (Lt h) acode ccode code) (n : Nat) (r : Bool) (hF : laws_FnGraphs code n = some r) :
  Fn Tryd.prog 3 #[.slice acode code.length ccode] h fun v h' => v = .bool r ∧ Hold h h' [] := by
 unfold laws_FnGraphs at hF
 refine Zo [.slice acode code.length ccode] Tryd.func3 rfl (fun w0 _ => ?_)
 have H0 := Hold.init h
 refine Zs ?_
 refine Zq [.bool false] [0] [(0, .slice acode code.length ccode)] ?_
 refine Zs ?_
 refine Zs ?_
 obtain ⟨x1, hx1, hF⟩ := M.bind_some hF
 refine Zg 2 [(0, .slice acode code.length ccode), (20, .bool x1)] ?_ ?_
 ·refine Zb [.slice acode code.length ccode] 0 ?_
  refine Zy (.bool x1) (ZQ 5 #[.slice acode code.length ccode] (w_laws_big h code acode ccode rcode _ _ hx1)) ?_
  exact Zd [0, 20]
 refine Zc (x1) (fun hb1 => ?_) (fun hb1 => ?_)
 ·have hF := (M.ite_some hF).1 hb1
  refine Zs ?_
  refine Zq [.bool true] [2] [(2, .bool true)] ?_
  have hF := M.ret_some hF
  subst hF
  exact Run_ret1 rfl (Zt (.bool true)) ⟨rfl, H0⟩
 ·have hF := (M.ite_some hF).2 hb1
  refine Run_skip ?_
  refine Zs ?_
  refine Run_ops ?_
  refine Zr [.slice acode code.length ccode] 0 ?_
  obtain ⟨x2, hx2, hF⟩ := M.bind_some hF
  refine Ze ?_
  refine ZC 6 #[.slice acode code.length ccode] (w_spec_DrawAddPlace h code acode ccode rcode _ _ hx2) (fun v1 h1 hp1 => ?_)
  obtain ⟨a1, c1, rfl, H1⟩ := hp1
  have H2 : Hold h h1 [own cd28 a1 x2.1.Places.length c1 x2.1.Places] := H0.call H1 rfl
  refine Zr [.tuple #[.agg #[iV x2.1.Events, .slice a1 x2.1.Places.length c1], .agg #[iV x2.2.From, iV x2.2.To, iV x2.2.Delay, iV x2.2.Tokens]], .agg #[iV x2.1.Events, .slice a1 x2.1.Places.length c1], .agg #[iV x2.2.From, iV x2.2.To, iV x2.2.Delay, iV x2.2.Tokens]] 2 ?_
  refine Ze ?_
  refine E_box (ty := 26) (cs := [iV 0, .slice none 0 0]) H2 (fun w => by kernel_rfl) (fun b1 h2 H3 => ?_)
  refine Ze ?_
  refine E_box (ty := 28) (cs := [iV 0, iV 0, iV 0, iV 0]) H3 (fun w => by kernel_rfl) (fun b2 h3 H4 => ?_)
  have H6 : Hold h h3 [box b1 26 [iV 0, .slice none 0 0], box b2 28 [iV 0, iV 0, iV 0, iV 0], own cd28 a1 x2.1.Places.length c1 x2.1.Places] := H4.pk [1, 0, 2]
  refine Ze ?_
  refine ZP 26 0 [iV x2.1.Events, .slice a1 x2.1.Places.length c1] (.agg #[iV x2.1.Events, .slice a1 x2.1.Places.length c1]) H6 (fun h4 H5 => ?_)
  have H8 : Hold h h4 [box b2 28 [iV 0, iV 0, iV 0, iV 0], box b1 26 [iV x2.1.Events, .slice a1 x2.1.Places.length c1], own cd28 a1 x2.1.Places.length c1 x2.1.Places] := H5.pk [1, 0, 2]
  refine Ze ?_
  refine ZP 28 0 [iV x2.2.From, iV x2.2.To, iV x2.2.Delay, iV x2.2.Tokens] (.agg #[iV x2.2.From, iV x2.2.To, iV x2.2.Delay, iV x2.2.Tokens]) H8 (fun h5 H7 => ?_)
  refine Zx ?_
  refine Zk [0, 3, 4] [(0, .slice acode code.length ccode), (3, pV b1), (4, pV b2)] ?_
  refine Zs ?_
  refine Run_ops ?_
  refine Zz (.agg #[iV x2.1.Events, .slice a1 x2.1.Places.length c1]) (Y_loadA (t := 26) (n := 2) (p := ⟨b1, 0, none⟩) (cs := [iV x2.1.Events, .slice a1 x2.1.Places.length c1]) (by kernel_rfl) (fun w => by kernel_rfl) (by kernel_rfl) rfl (H7.cells (n := 2) (off := 0) 1 rfl rfl)) ?_
  refine Zz (.agg #[iV x2.2.From, iV x2.2.To, iV x2.2.Delay, iV x2.2.Tokens]) (Y_loadA (t := 28) (n := 4) (p := ⟨b2, 0, none⟩) (cs := [iV x2.2.From, iV x2.2.To, iV x2.2.Delay, iV x2.2.Tokens]) (by kernel_rfl) (fun w => by kernel_rfl) (by kernel_rfl) rfl (H7.cells (n := 4) (off := 0) 0 rfl rfl)) ?_
  obtain ⟨x3, hx3, hF⟩ := M.bind_some hF
  refine Ze ?_
  refine ZC 7 #[.agg #[iV x2.1.Events, .slice a1 x2.1.Places.length c1], .agg #[iV x2.2.From, iV x2.2.To, iV x2.2.Delay, iV x2.2.Tokens]] (w_impl_AddPlace h5 x2.1 a1 c1 (H7.rd 2 rfl) x2.2 _ _ hx3) (fun v2 h6 hp2 => ?_)
  obtain ⟨a2, c2, rfl, H9⟩ := hp2
  have H10 : Hold h h6 [own cd28 a2 x3.1.Places.length c2 x3.1.Places, box b2 28 [iV x2.2.From, iV x2.2.To, iV x2.2.Delay, iV x2.2.Tokens], box b1 26 [iV x2.1.Events, .slice a1 x2.1.Places.length c1], own cd28 a1 x2.1.Places.length c1 x2.1.Places] := H7.call H9 rfl
  refine Zr [.tuple #[.agg #[iV x3.1.Events, .slice a2 x3.1.Places.length c2], iV x3.2], .agg #[iV x3.1.Events, .slice a2 x3.1.Places.length c2], iV x3.2] 3 ?_
  refine Ze ?_
  refine E_box (ty := 26) (cs := [iV 0, .slice none 0 0]) H10 (fun w => by kernel_rfl) (fun b3 h7 H11 => ?_)
  refine Ze ?_
  refine ZP 26 0 [iV x3.1.Events, .slice a2 x3.1.Places.length c2] (.agg #[iV x3.1.Events, .slice a2 x3.1.Places.length c2]) H11 (fun h8 H12 => ?_)
  refine Zr [iV x3.2] 8 ?_
  refine Zx ?_
  refine Zk [0, 3, 4, 5, 6] [(0, .slice acode code.length ccode), (3, pV b1), (4, pV b2), (5, pV b3), (6, iV x3.2)] ?_
  refine Zs ?_
  refine Run_ops ?_
  refine Zz (.agg #[iV x2.1.Events, .slice a1 x2.1.Places.length c1]) (Y_loadA (t := 26) (n := 2) (p := ⟨b1, 0, none⟩) (cs := [iV x2.1.Events, .slice a1 x2.1.Places.length c1]) (by kernel_rfl) (fun w => by kernel_rfl) (by kernel_rfl) rfl (H12.cells (n := 2) (off := 0) 3 rfl rfl)) ?_
  refine Zz (.agg #[iV x2.2.From, iV x2.2.To, iV x2.2.Delay, iV x2.2.Tokens]) (Y_loadA (t := 28) (n := 4) (p := ⟨b2, 0, none⟩) (cs := [iV x2.2.From, iV x2.2.To, iV x2.2.Delay, iV x2.2.Tokens]) (by kernel_rfl) (fun w => by kernel_rfl) (by kernel_rfl) rfl (H12.cells (n := 4) (off := 0) 2 rfl rfl)) ?_
  obtain ⟨x4, hx4, hF⟩ := M.bind_some hF
  refine Ze ?_
  refine ZC 8 #[.agg #[iV x2.1.Events, .slice a1 x2.1.Places.length c1], .agg #[iV x2.2.From, iV x2.2.To, iV x2.2.Delay, iV x2.2.Tokens]] (w_spec_AddPlace h8 x2.1 a1 c1 (H12.rd 4 rfl) x2.2 _ _ hx4) (fun v3 h9 hp3 => ?_)
  obtain ⟨a3, c3, rfl, H13⟩ := hp3
  have H14 : Hold h h9 [own cd28 a3 x4.1.Places.length c3 x4.1.Places, box b3 26 [iV x3.1.Events, .slice a2 x3.1.Places.length c2], own cd28 a2 x3.1.Places.length c2 x3.1.Places, box b2 28 [iV x2.2.From, iV x2.2.To, iV x2.2.Delay, iV x2.2.Tokens], box b1 26 [iV x2.1.Events, .slice a1 x2.1.Places.length c1], own cd28 a1 x2.1.Places.length c1 x2.1.Places] := H12.call H13 rfl
  refine Zr [.tuple #[.agg #[iV x4.1.Events, .slice a3 x4.1.Places.length c3], iV x4.2], .agg #[iV x4.1.Events, .slice a3 x4.1.Places.length c3], iV x4.2] 3 ?_
  refine Ze ?_
  refine E_box (ty := 26) (cs := [iV 0, .slice none 0 0]) H14 (fun w => by kernel_rfl) (fun b4 h10 H15 => ?_)
  refine Ze ?_
  refine ZP 26 0 [iV x4.1.Events, .slice a3 x4.1.Places.length c3] (.agg #[iV x4.1.Events, .slice a3 x4.1.Places.length c3]) H15 (fun h11 H16 => ?_)
  refine Zr [iV x4.2] 8 ?_
  refine Zx ?_
  refine Zk [0, 3, 5, 6, 7, 8] [(0, .slice acode code.length ccode), (3, pV b1), (5, pV b3), (6, iV x3.2), (7, pV b4), (8, iV x4.2)] ?_
  refine Zs ?_
  obtain ⟨x5, hx5, hF⟩ := M.bind_some hF
  refine Run_regC (j := 3) (C := fun x => Hold h x [box b4 26 [iV x4.1.Events, .slice a3 x4.1.Places.length c3], own cd28 a3 x4.1.Places.length c3 x4.1.Places, box b3 26 [iV x3.1.Events, .slice a2 x3.1.Places.length c2], own cd28 a2 x3.1.Places.length c2 x3.1.Places, box b2 28 [iV x2.2.From, iV x2.2.To, iV x2.2.Delay, iV x2.2.Tokens], box b1 26 [iV x2.1.Events, .slice a1 x2.1.Places.length c1], own cd28 a1 x2.1.Places.length c1 x2.1.Places]) (by kernel_rfl) H16 (L' := [(0, .slice acode code.length ccode), (3, pV b1), (5, pV b3), (6, iV x3.2), (7, pV b4), (8, iV x4.2), (9, .string x5)]) ?_ (fun h12 H17 => ?_)
  ·refine Zy (.agg #[iV x2.1.Events, .slice a1 x2.1.Places.length c1]) (Y_cls fun hx Hx => (Y_loadA (t := 26) (n := 2) (p := ⟨b1, 0, none⟩) (cs := [iV x2.1.Events, .slice a1 x2.1.Places.length c1]) (by kernel_rfl) (fun w => by kernel_rfl) (by kernel_rfl) rfl (Hx.cells (n := 2) (off := 0) 5 rfl rfl))) ?_
   refine Zy (.string x5) (Y_call (f := 9) (args := #[.agg #[iV x2.1.Events, .slice a1 x2.1.Places.length c1]]) (v := .string x5) (by kernel_rfl) fun hx Hx => (w_impl_GraphText hx (tb.at Hx.ext) x2.1 a1 c1 (Hx.rd 6 rfl) _ _ hx5).mono fun _ _ ⟨e, H'⟩ => ⟨e, Hx.call H' rfl⟩) ?_
   refine Zb [.string x5] 2 ?_
   exact Zd [0, 3, 5, 6, 7, 8, 9]
  have H18 := H17
  refine Zs ?_
  refine Run_ops ?_
  refine Zr [.string x5] 0 ?_
  obtain ⟨x6, hx6, hF⟩ := M.bind_some hF
  refine Ze ?_
  refine ZC 10 #[.string x5] (w_impl_ReadGraph h12 (gl.at H18.ext) (tb.at H18.ext) x5 _ _ hx6) (fun v4 h13 hp4 => ?_)
  obtain ⟨a4, c4, rfl, H19⟩ := hp4
  have H20 : Hold h h13 [own cd28 a4 x6.1.Places.length c4 x6.1.Places, box b4 26 [iV x4.1.Events, .slice a3 x4.1.Places.length c3], own cd28 a3 x4.1.Places.length c3 x4.1.Places, box b3 26 [iV x3.1.Events, .slice a2 x3.1.Places.length c2], own cd28 a2 x3.1.Places.length c2 x3.1.Places, box b2 28 [iV x2.2.From, iV x2.2.To, iV x2.2.Delay, iV x2.2.Tokens], box b1 26 [iV x2.1.Events, .slice a1 x2.1.Places.length c1], own cd28 a1 x2.1.Places.length c1 x2.1.Places] := H18.call H19 rfl
  refine Zr [.tuple #[.agg #[iV x6.1.Events, .slice a4 x6.1.Places.length c4], .bool x6.2], .agg #[iV x6.1.Events, .slice a4 x6.1.Places.length c4], .bool x6.2] 2 ?_
  refine Ze ?_
  refine E_box (ty := 26) (cs := [iV 0, .slice none 0 0]) H20 (fun w => by kernel_rfl) (fun b5 h14 H21 => ?_)
  refine Ze ?_
  refine ZP 26 0 [iV x6.1.Events, .slice a4 x6.1.Places.length c4] (.agg #[iV x6.1.Events, .slice a4 x6.1.Places.length c4]) H21 (fun h15 H22 => ?_)
  refine Zr [.bool x6.2] 7 ?_
  refine Zx ?_
  refine Zk [0, 3, 5, 6, 7, 8, 9, 10, 11] [(0, .slice acode code.length ccode), (3, pV b1), (5, pV b3), (6, iV x3.2), (7, pV b4), (8, iV x4.2), (9, .string x5), (10, pV b5), (11, .bool x6.2)] ?_
  refine Zs ?_
  obtain ⟨x7, hx7, hF⟩ := M.bind_some hF
  refine Run_regC (j := 3) (C := fun x => Hold h x [box b5 26 [iV x6.1.Events, .slice a4 x6.1.Places.length c4], own cd28 a4 x6.1.Places.length c4 x6.1.Places, box b4 26 [iV x4.1.Events, .slice a3 x4.1.Places.length c3], own cd28 a3 x4.1.Places.length c3 x4.1.Places, box b3 26 [iV x3.1.Events, .slice a2 x3.1.Places.length c2], own cd28 a2 x3.1.Places.length c2 x3.1.Places, box b2 28 [iV x2.2.From, iV x2.2.To, iV x2.2.Delay, iV x2.2.Tokens], box b1 26 [iV x2.1.Events, .slice a1 x2.1.Places.length c1], own cd28 a1 x2.1.Places.length c1 x2.1.Places]) (by kernel_rfl) H22 (L' := [(3, pV b1), (5, pV b3), (6, iV x3.2), (7, pV b4), (8, iV x4.2), (9, .string x5), (10, pV b5), (11, .bool x6.2), (12, .string x7)]) ?_ (fun h16 H23 => ?_)
  ·refine Zb [.slice acode code.length ccode] 0 ?_
   refine Zy (.string x7) (Y_call (f := 11) (args := #[.slice acode code.length ccode]) (v := .string x7) (by kernel_rfl) fun hx Hx => (w_spec_DrawReadGraph hx code acode ccode (rcode.at Hx.ext) _ _ hx7).mono fun _ _ ⟨e, H'⟩ => ⟨e, Hx.call H' rfl⟩) ?_
   refine Zb [.string x7] 2 ?_
   exact Zd [3, 5, 6, 7, 8, 9, 10, 11, 12]
  have H24 := H23
  refine Zs ?_
  refine Run_ops ?_
  refine Zr [.string x7] 0 ?_
  obtain ⟨x8, hx8, hF⟩ := M.bind_some hF
  refine Ze ?_
  refine ZC 10 #[.string x7] (w_impl_ReadGraph h16 (gl.at H24.ext) (tb.at H24.ext) x7 _ _ hx8) (fun v5 h17 hp5 => ?_)
  obtain ⟨a5, c5, rfl, H25⟩ := hp5
  have H26 : Hold h h17 [own cd28 a5 x8.1.Places.length c5 x8.1.Places, box b5 26 [iV x6.1.Events, .slice a4 x6.1.Places.length c4], own cd28 a4 x6.1.Places.length c4 x6.1.Places, box b4 26 [iV x4.1.Events, .slice a3 x4.1.Places.length c3], own cd28 a3 x4.1.Places.length c3 x4.1.Places, box b3 26 [iV x3.1.Events, .slice a2 x3.1.Places.length c2], own cd28 a2 x3.1.Places.length c2 x3.1.Places, box b2 28 [iV x2.2.From, iV x2.2.To, iV x2.2.Delay, iV x2.2.Tokens], box b1 26 [iV x2.1.Events, .slice a1 x2.1.Places.length c1], own cd28 a1 x2.1.Places.length c1 x2.1.Places] := H24.call H25 rfl
  refine Zr [.tuple #[.agg #[iV x8.1.Events, .slice a5 x8.1.Places.length c5], .bool x8.2], .agg #[iV x8.1.Events, .slice a5 x8.1.Places.length c5], .bool x8.2] 2 ?_
  refine Ze ?_
  refine E_box (ty := 26) (cs := [iV 0, .slice none 0 0]) H26 (fun w => by kernel_rfl) (fun b6 h18 H27 => ?_)
  refine Ze ?_
  refine ZP 26 0 [iV x8.1.Events, .slice a5 x8.1.Places.length c5] (.agg #[iV x8.1.Events, .slice a5 x8.1.Places.length c5]) H27 (fun h19 H28 => ?_)
  refine Zr [.bool x8.2] 7 ?_
  refine Zx ?_
  refine Zk [3, 5, 6, 7, 8, 9, 10, 11, 12, 13, 14] [(3, pV b1), (5, pV b3), (6, iV x3.2), (7, pV b4), (8, iV x4.2), (9, .string x5), (10, pV b5), (11, .bool x6.2), (12, .string x7), (13, pV b6), (14, .bool x8.2)] ?_
  refine Zs ?_
  refine Run_ops ?_
  refine Zr [.string x7] 0 ?_
  obtain ⟨x9, hx9, hF⟩ := M.bind_some hF
  refine Ze ?_
  refine ZC 12 #[.string x7] (w_spec_ReadGraph h19 x7 _ _ hx9) (fun v6 h20 hp6 => ?_)
  obtain ⟨a6, c6, rfl, H29⟩ := hp6
  have H30 : Hold h h20 [own cd28 a6 x9.1.Places.length c6 x9.1.Places, box b6 26 [iV x8.1.Events, .slice a5 x8.1.Places.length c5], own cd28 a5 x8.1.Places.length c5 x8.1.Places, box b5 26 [iV x6.1.Events, .slice a4 x6.1.Places.length c4], own cd28 a4 x6.1.Places.length c4 x6.1.Places, box b4 26 [iV x4.1.Events, .slice a3 x4.1.Places.length c3], own cd28 a3 x4.1.Places.length c3 x4.1.Places, box b3 26 [iV x3.1.Events, .slice a2 x3.1.Places.length c2], own cd28 a2 x3.1.Places.length c2 x3.1.Places, box b2 28 [iV x2.2.From, iV x2.2.To, iV x2.2.Delay, iV x2.2.Tokens], box b1 26 [iV x2.1.Events, .slice a1 x2.1.Places.length c1], own cd28 a1 x2.1.Places.length c1 x2.1.Places] := H28.call H29 rfl
  refine Zr [.tuple #[.agg #[iV x9.1.Events, .slice a6 x9.1.Places.length c6], .bool x9.2], .agg #[iV x9.1.Events, .slice a6 x9.1.Places.length c6], .bool x9.2] 2 ?_
  refine Ze ?_
  refine E_box (ty := 26) (cs := [iV 0, .slice none 0 0]) H30 (fun w => by kernel_rfl) (fun b7 h21 H31 => ?_)
  refine Ze ?_
  refine ZP 26 0 [iV x9.1.Events, .slice a6 x9.1.Places.length c6] (.agg #[iV x9.1.Events, .slice a6 x9.1.Places.length c6]) H31 (fun h22 H32 => ?_)
  refine Zr [.bool x9.2] 7 ?_
  refine Zx ?_
  refine Zk [3, 5, 6, 7, 8, 9, 10, 11, 12, 13, 14, 15, 16] [(3, pV b1), (5, pV b3), (6, iV x3.2), (7, pV b4), (8, iV x4.2), (9, .string x5), (10, pV b5), (11, .bool x6.2), (12, .string x7), (13, pV b6), (14, .bool x8.2), (15, pV b7), (16, .bool x9.2)] ?_
  refine Zs ?_
  refine Zs ?_
  obtain ⟨x10, gx10, hF⟩ := M.bind_some hF
  obtain ⟨x12, gx12, hF⟩ := M.bind_some hF
  obtain ⟨x15, gx15, hF⟩ := M.bind_some hF
  obtain ⟨x18, gx18, hF⟩ := M.bind_some hF
  obtain ⟨x21, gx21, hF⟩ := M.bind_some hF
  obtain ⟨x24, gx24, hF⟩ := M.bind_some hF
  refine Run_regC (j := 56) (C := fun x => Hold h x [box b7 26 [iV x9.1.Events, .slice a6 x9.1.Places.length c6], own cd28 a6 x9.1.Places.length c6 x9.1.Places, box b6 26 [iV x8.1.Events, .slice a5 x8.1.Places.length c5], own cd28 a5 x8.1.Places.length c5 x8.1.Places, box b5 26 [iV x6.1.Events, .slice a4 x6.1.Places.length c4], own cd28 a4 x6.1.Places.length c4 x6.1.Places, box b4 26 [iV x4.1.Events, .slice a3 x4.1.Places.length c3], own cd28 a3 x4.1.Places.length c3 x4.1.Places, box b3 26 [iV x3.1.Events, .slice a2 x3.1.Places.length c2], own cd28 a2 x3.1.Places.length c2 x3.1.Places, box b2 28 [iV x2.2.From, iV x2.2.To, iV x2.2.Delay, iV x2.2.Tokens], box b1 26 [iV x2.1.Events, .slice a1 x2.1.Places.length c1], own cd28 a1 x2.1.Places.length c1 x2.1.Places]) (by kernel_rfl) H32 (L' := [(3, pV b1), (5, pV b3), (6, iV x3.2), (112, .bool x24)]) ?_ (fun h23 H33 => ?_)
  ·refine Zb [iV x3.2, iV x4.2, .bool (x3.2 != x4.2)] 0 ?_
   refine QRun_seq 9 [(3, pV b1), (5, pV b3), (6, iV x3.2), (9, .string x5), (10, pV b5), (11, .bool x6.2), (12, .string x7), (13, pV b6), (14, .bool x8.2), (15, pV b7), (16, .bool x9.2), (65, .bool x10)] ?_ ?_
   ·rcases Bool.eq_false_or_eq_true (x3.2 != x4.2) with hb2 | hb2
    ·refine Zv (x3.2 != x4.2) true hb2 ?_
     have gx10 := M.ret_some ((M.ite_some gx10).1 hb2)
     refine Zn ?_
     refine Zn ?_
     refine Zn ?_
     refine Zn ?_
     refine Zv true x10 gx10 ?_
     exact Zd [3, 5, 6, 9, 10, 11, 12, 13, 14, 15, 16, 65]
    ·refine Zv (x3.2 != x4.2) false hb2 ?_
     have gx10 := (M.ite_some gx10).2 hb2
     obtain ⟨x11, hx10, gx10⟩ := M.bind_some gx10
     have gx10 := M.ret_some gx10
     refine Zy (.agg #[iV x3.1.Events, .slice a2 x3.1.Places.length c2]) (Y_cls fun hx Hx => (Y_loadA (t := 26) (n := 2) (p := ⟨b3, 0, none⟩) (cs := [iV x3.1.Events, .slice a2 x3.1.Places.length c2]) (by kernel_rfl) (fun w => by kernel_rfl) (by kernel_rfl) rfl (Hx.cells (n := 2) (off := 0) 8 rfl rfl))) ?_
     refine Zy (.agg #[iV x4.1.Events, .slice a3 x4.1.Places.length c3]) (Y_cls fun hx Hx => (Y_loadA (t := 26) (n := 2) (p := ⟨b4, 0, none⟩) (cs := [iV x4.1.Events, .slice a3 x4.1.Places.length c3]) (by kernel_rfl) (fun w => by kernel_rfl) (by kernel_rfl) rfl (Hx.cells (n := 2) (off := 0) 6 rfl rfl))) ?_
     refine Zy (.bool x11) (Y_call (f := 13) (args := #[.agg #[iV x3.1.Events, .slice a2 x3.1.Places.length c2], .agg #[iV x4.1.Events, .slice a3 x4.1.Places.length c3]]) (v := .bool x11) (by kernel_rfl) fun hx Hx => (w_laws_likeGraphs9 hx x3.1 a2 c2 (Hx.rd 9 rfl) x4.1 a3 c3 (Hx.rd 7 rfl) _ _ hx10).mono fun _ _ ⟨e, H'⟩ => ⟨e, Hx.call H' rfl⟩) ?_
     refine Zb [.bool (!x11)] 7 ?_
     refine Zv (!x11) x10 gx10 ?_
     exact Zd [3, 5, 6, 9, 10, 11, 12, 13, 14, 15, 16, 65]
   refine QRun_seq 15 [(3, pV b1), (5, pV b3), (6, iV x3.2), (9, .string x5), (10, pV b5), (11, .bool x6.2), (12, .string x7), (13, pV b6), (14, .bool x8.2), (15, pV b7), (16, .bool x9.2), (71, .bool x12)] ?_ ?_
   ·rcases Bool.eq_false_or_eq_true x10 with hb3 | hb3
    ·refine Zv x10 true hb3 ?_
     have gx12 := M.ret_some ((M.ite_some gx12).1 hb3)
     refine Zn ?_
     refine Zn ?_
     refine Zn ?_
     refine Zn ?_
     refine Zv true x12 gx12 ?_
     exact Zd [3, 5, 6, 9, 10, 11, 12, 13, 14, 15, 16, 71]
    ·refine Zv x10 false hb3 ?_
     have gx12 := (M.ite_some gx12).2 hb3
     obtain ⟨x13, hx11, gx12⟩ := M.bind_some gx12
     have gx12 := M.ret_some gx12
     refine Zb [.string x5] 10 ?_
     refine Zy (.agg #[iV x2.1.Events, .slice a1 x2.1.Places.length c1]) (Y_cls fun hx Hx => (Y_loadA (t := 26) (n := 2) (p := ⟨b1, 0, none⟩) (cs := [iV x2.1.Events, .slice a1 x2.1.Places.length c1]) (by kernel_rfl) (fun w => by kernel_rfl) (by kernel_rfl) rfl (Hx.cells (n := 2) (off := 0) 11 rfl rfl))) ?_
     refine Zy (.string x13) (Y_call (f := 14) (args := #[.agg #[iV x2.1.Events, .slice a1 x2.1.Places.length c1]]) (v := .string x13) (by kernel_rfl) fun hx Hx => (w_spec_GraphText hx x2.1 a1 c1 (Hx.rd 12 rfl) _ _ hx11).mono fun _ _ ⟨e, H'⟩ => ⟨e, Hx.call H' rfl⟩) ?_
     refine Zb [.bool (!(x5.toList == x13.toList))] 13 ?_
     refine Zv (!(x5.toList == x13.toList)) x12 gx12 ?_
     exact Zd [3, 5, 6, 9, 10, 11, 12, 13, 14, 15, 16, 71]
   refine QRun_seq 21 [(3, pV b1), (5, pV b3), (6, iV x3.2), (10, pV b5), (11, .bool x6.2), (12, .string x7), (13, pV b6), (14, .bool x8.2), (15, pV b7), (16, .bool x9.2), (77, .bool (x12 || (!(x6.2 == (!(x5.toList == (⟨#[]⟩ : ByteArray).toList))))))] ?_ ?_
   ·rcases Bool.eq_false_or_eq_true x12 with hb4 | hb4
    ·refine Zv x12 true hb4 ?_
     refine Zn ?_
     refine Zn ?_
     refine Zn ?_
     refine Zn ?_
     refine QRun_bool true (x12 || (!(x6.2 == (!(x5.toList == (⟨#[]⟩ : ByteArray).toList))))) (by kernel_rfl) (fun w => by kernel_rfl) (by rw [hb4]; rfl) ?_
     exact Zd [3, 5, 6, 10, 11, 12, 13, 14, 15, 16, 77]
    ·refine Zv x12 false hb4 ?_
     refine Zb [.bool x6.2, .string x5, .bool (!(x5.toList == (⟨#[]⟩ : ByteArray).toList)), .bool (!(x6.2 == (!(x5.toList == (⟨#[]⟩ : ByteArray).toList))))] 16 ?_
     refine QRun_bool (!(x6.2 == (!(x5.toList == (⟨#[]⟩ : ByteArray).toList)))) (x12 || (!(x6.2 == (!(x5.toList == (⟨#[]⟩ : ByteArray).toList))))) (by kernel_rfl) (fun w => by kernel_rfl) (by rw [hb4]; rfl) ?_
     exact Zd [3, 5, 6, 10, 11, 12, 13, 14, 15, 16, 77]
   refine QRun_seq 30 [(3, pV b1), (5, pV b3), (6, iV x3.2), (11, .bool x6.2), (12, .string x7), (13, pV b6), (14, .bool x8.2), (15, pV b7), (16, .bool x9.2), (86, .bool x15)] ?_ ?_
   ·rcases Bool.eq_false_or_eq_true (x12 || (!(x6.2 == (!(x5.toList == (⟨#[]⟩ : ByteArray).toList))))) with hb5 | hb5
    ·refine Zv (x12 || (!(x6.2 == (!(x5.toList == (⟨#[]⟩ : ByteArray).toList))))) true hb5 ?_
     have gx15 := M.ret_some ((M.ite_some gx15).1 hb5)
     refine Zn ?_
     refine Zn ?_
     refine Zn ?_
     refine Zn ?_
     refine Zn ?_
     refine Zn ?_
     refine Zn ?_
     refine Zv true x15 gx15 ?_
     exact Zd [3, 5, 6, 11, 12, 13, 14, 15, 16, 86]
    ·refine Zv (x12 || (!(x6.2 == (!(x5.toList == (⟨#[]⟩ : ByteArray).toList))))) false hb5 ?_
     have gx15 := (M.ite_some gx15).2 hb5
     obtain ⟨x16, gx16, gx15⟩ := M.bind_some gx15
     have gx15 := M.ret_some gx15
     refine Zb [.bool x6.2] 22 ?_
     refine QRun_seq 29 [(3, pV b1), (5, pV b3), (6, iV x3.2), (11, .bool x6.2), (12, .string x7), (13, pV b6), (14, .bool x8.2), (15, pV b7), (16, .bool x9.2), (78, .bool false), (85, .bool x16)] ?_ ?_
     ·rcases Bool.eq_false_or_eq_true x6.2 with hb6 | hb6
      ·refine Zv x6.2 true hb6 ?_
       have gx16 := (M.ite_some gx16).1 hb6
       obtain ⟨x17, hx12, gx16⟩ := M.bind_some gx16
       have gx16 := M.ret_some gx16
       refine Zy (.agg #[iV x6.1.Events, .slice a4 x6.1.Places.length c4]) (Y_cls fun hx Hx => (Y_loadA (t := 26) (n := 2) (p := ⟨b5, 0, none⟩) (cs := [iV x6.1.Events, .slice a4 x6.1.Places.length c4]) (by kernel_rfl) (fun w => by kernel_rfl) (by kernel_rfl) rfl (Hx.cells (n := 2) (off := 0) 4 rfl rfl))) ?_
       refine Zy (.agg #[iV x2.1.Events, .slice a1 x2.1.Places.length c1]) (Y_cls fun hx Hx => (Y_loadA (t := 26) (n := 2) (p := ⟨b1, 0, none⟩) (cs := [iV x2.1.Events, .slice a1 x2.1.Places.length c1]) (by kernel_rfl) (fun w => by kernel_rfl) (by kernel_rfl) rfl (Hx.cells (n := 2) (off := 0) 11 rfl rfl))) ?_
       refine Zy (.bool x17) (Y_call (f := 13) (args := #[.agg #[iV x6.1.Events, .slice a4 x6.1.Places.length c4], .agg #[iV x2.1.Events, .slice a1 x2.1.Places.length c1]]) (v := .bool x17) (by kernel_rfl) fun hx Hx => (w_laws_likeGraphs9 hx x6.1 a4 c4 (Hx.rd 5 rfl) x2.1 a1 c1 (Hx.rd 12 rfl) _ _ hx12).mono fun _ _ ⟨e, H'⟩ => ⟨e, Hx.call H' rfl⟩) ?_
       refine Zb [.bool (!x17)] 27 ?_
       refine Zv (!x17) x16 gx16 ?_
       exact Zd [3, 5, 6, 11, 12, 13, 14, 15, 16, 78, 85]
      ·refine Zv x6.2 false hb6 ?_
       have gx16 := M.ret_some ((M.ite_some gx16).2 hb6)
       refine Zn ?_
       refine Zn ?_
       refine Zn ?_
       refine Zn ?_
       refine Zv false x16 gx16 ?_
       exact Zd [3, 5, 6, 11, 12, 13, 14, 15, 16, 78, 85]
     refine Zv x16 x15 gx15 ?_
     exact Zd [3, 5, 6, 11, 12, 13, 14, 15, 16, 86]
   refine QRun_seq 36 [(3, pV b1), (5, pV b3), (6, iV x3.2), (11, .bool x6.2), (12, .string x7), (13, pV b6), (14, .bool x8.2), (16, .bool x9.2), (92, .bool x18)] ?_ ?_
   ·rcases Bool.eq_false_or_eq_true x15 with hb7 | hb7
    ·refine Zv x15 true hb7 ?_
     have gx18 := M.ret_some ((M.ite_some gx18).1 hb7)
     refine Zn ?_
     refine Zn ?_
     refine Zn ?_
     refine Zn ?_
     refine Zv true x18 gx18 ?_
     exact Zd [3, 5, 6, 11, 12, 13, 14, 16, 92]
    ·refine Zv x15 false hb7 ?_
     have gx18 := (M.ite_some gx18).2 hb7
     obtain ⟨x19, hx13, gx18⟩ := M.bind_some gx18
     have gx18 := M.ret_some gx18
     refine Zy (.agg #[iV x8.1.Events, .slice a5 x8.1.Places.length c5]) (Y_cls fun hx Hx => (Y_loadA (t := 26) (n := 2) (p := ⟨b6, 0, none⟩) (cs := [iV x8.1.Events, .slice a5 x8.1.Places.length c5]) (by kernel_rfl) (fun w => by kernel_rfl) (by kernel_rfl) rfl (Hx.cells (n := 2) (off := 0) 2 rfl rfl))) ?_
     refine Zy (.agg #[iV x9.1.Events, .slice a6 x9.1.Places.length c6]) (Y_cls fun hx Hx => (Y_loadA (t := 26) (n := 2) (p := ⟨b7, 0, none⟩) (cs := [iV x9.1.Events, .slice a6 x9.1.Places.length c6]) (by kernel_rfl) (fun w => by kernel_rfl) (by kernel_rfl) rfl (Hx.cells (n := 2) (off := 0) 0 rfl rfl))) ?_
     refine Zy (.bool x19) (Y_call (f := 13) (args := #[.agg #[iV x8.1.Events, .slice a5 x8.1.Places.length c5], .agg #[iV x9.1.Events, .slice a6 x9.1.Places.length c6]]) (v := .bool x19) (by kernel_rfl) fun hx Hx => (w_laws_likeGraphs9 hx x8.1 a5 c5 (Hx.rd 3 rfl) x9.1 a6 c6 (Hx.rd 1 rfl) _ _ hx13).mono fun _ _ ⟨e, H'⟩ => ⟨e, Hx.call H' rfl⟩) ?_
     refine Zb [.bool (!x19)] 34 ?_
     refine Zv (!x19) x18 gx18 ?_
     exact Zd [3, 5, 6, 11, 12, 13, 14, 16, 92]
   refine QRun_seq 41 [(3, pV b1), (5, pV b3), (6, iV x3.2), (11, .bool x6.2), (12, .string x7), (13, pV b6), (14, .bool x8.2), (97, .bool (x18 || (!(x8.2 == x9.2))))] ?_ ?_
   ·rcases Bool.eq_false_or_eq_true x18 with hb8 | hb8
    ·refine Zv x18 true hb8 ?_
     refine Zn ?_
     refine Zn ?_
     refine Zn ?_
     refine QRun_bool true (x18 || (!(x8.2 == x9.2))) (by kernel_rfl) (fun w => by kernel_rfl) (by rw [hb8]; rfl) ?_
     exact Zd [3, 5, 6, 11, 12, 13, 14, 97]
    ·refine Zv x18 false hb8 ?_
     refine Zb [.bool x8.2, .bool x9.2, .bool (!(x8.2 == x9.2))] 37 ?_
     refine QRun_bool (!(x8.2 == x9.2)) (x18 || (!(x8.2 == x9.2))) (by kernel_rfl) (fun w => by kernel_rfl) (by rw [hb8]; rfl) ?_
     exact Zd [3, 5, 6, 11, 12, 13, 14, 97]
   refine QRun_seq 50 [(3, pV b1), (5, pV b3), (6, iV x3.2), (11, .bool x6.2), (106, .bool x21)] ?_ ?_
   ·rcases Bool.eq_false_or_eq_true (x18 || (!(x8.2 == x9.2))) with hb9 | hb9
    ·refine Zv (x18 || (!(x8.2 == x9.2))) true hb9 ?_
     have gx21 := M.ret_some ((M.ite_some gx21).1 hb9)
     refine Zn ?_
     refine Zn ?_
     refine Zn ?_
     refine Zn ?_
     refine Zn ?_
     refine Zn ?_
     refine Zn ?_
     refine Zv true x21 gx21 ?_
     exact Zd [3, 5, 6, 11, 106]
    ·refine Zv (x18 || (!(x8.2 == x9.2))) false hb9 ?_
     have gx21 := (M.ite_some gx21).2 hb9
     obtain ⟨x22, gx22, gx21⟩ := M.bind_some gx21
     have gx21 := M.ret_some gx21
     refine Zb [.bool x8.2] 42 ?_
     refine QRun_seq 49 [(3, pV b1), (5, pV b3), (6, iV x3.2), (11, .bool x6.2), (98, .bool false), (105, .bool x22)] ?_ ?_
     ·rcases Bool.eq_false_or_eq_true x8.2 with hb10 | hb10
      ·refine Zv x8.2 true hb10 ?_
       have gx22 := (M.ite_some gx22).1 hb10
       obtain ⟨x23, hx14, gx22⟩ := M.bind_some gx22
       have gx22 := M.ret_some gx22
       refine Zy (.agg #[iV x8.1.Events, .slice a5 x8.1.Places.length c5]) (Y_cls fun hx Hx => (Y_loadA (t := 26) (n := 2) (p := ⟨b6, 0, none⟩) (cs := [iV x8.1.Events, .slice a5 x8.1.Places.length c5]) (by kernel_rfl) (fun w => by kernel_rfl) (by kernel_rfl) rfl (Hx.cells (n := 2) (off := 0) 2 rfl rfl))) ?_
       refine Zy (.string x23) (Y_call (f := 9) (args := #[.agg #[iV x8.1.Events, .slice a5 x8.1.Places.length c5]]) (v := .string x23) (by kernel_rfl) fun hx Hx => (w_impl_GraphText hx (tb.at Hx.ext) x8.1 a5 c5 (Hx.rd 3 rfl) _ _ hx14).mono fun _ _ ⟨e, H'⟩ => ⟨e, Hx.call H' rfl⟩) ?_
       refine Zb [.string x7, .bool (!(x23.toList == x7.toList))] 46 ?_
       refine Zv (!(x23.toList == x7.toList)) x22 gx22 ?_
       exact Zd [3, 5, 6, 11, 98, 105]
      ·refine Zv x8.2 false hb10 ?_
       have gx22 := M.ret_some ((M.ite_some gx22).2 hb10)
       refine Zn ?_
       refine Zn ?_
       refine Zn ?_
       refine Zn ?_
       refine Zv false x22 gx22 ?_
       exact Zd [3, 5, 6, 11, 98, 105]
     refine Zv x22 x21 gx21 ?_
     exact Zd [3, 5, 6, 11, 106]
   refine QRun_seq 56 [(3, pV b1), (5, pV b3), (6, iV x3.2), (112, .bool x24)] ?_ ?_
   ·rcases Bool.eq_false_or_eq_true x21 with hb11 | hb11
    ·refine Zv x21 true hb11 ?_
     have gx24 := M.ret_some ((M.ite_some gx24).1 hb11)
     refine Zn ?_
     refine Zn ?_
     refine Zn ?_
     refine Zn ?_
     refine Zv true x24 gx24 ?_
     exact Zd [3, 5, 6, 112]
    ·refine Zv x21 false hb11 ?_
     have gx24 := (M.ite_some gx24).2 hb11
     obtain ⟨x25, hx15, gx24⟩ := M.bind_some gx24
     have gx24 := M.ret_some gx24
     refine Zy (.agg #[iV x2.1.Events, .slice a1 x2.1.Places.length c1]) (Y_cls fun hx Hx => (Y_loadA (t := 26) (n := 2) (p := ⟨b1, 0, none⟩) (cs := [iV x2.1.Events, .slice a1 x2.1.Places.length c1]) (by kernel_rfl) (fun w => by kernel_rfl) (by kernel_rfl) rfl (Hx.cells (n := 2) (off := 0) 11 rfl rfl))) ?_
     refine Zy (.bool x25) (Y_call (f := 15) (args := #[.agg #[iV x2.1.Events, .slice a1 x2.1.Places.length c1]]) (v := .bool x25) (by kernel_rfl) fun hx Hx => (w_impl_IsEventGraph hx x2.1 a1 c1 (Hx.rd 12 rfl) _ _ hx15).mono fun _ _ ⟨e, H'⟩ => ⟨e, Hx.call H' rfl⟩) ?_
     refine Zb [.bool x6.2, .bool (!(x25 == x6.2))] 53 ?_
     refine Zv (!(x25 == x6.2)) x24 gx24 ?_
     exact Zd [3, 5, 6, 112]
   exact Zd [3, 5, 6, 112]
  have H34 := H33
  refine Zc (x24) (fun hb12 => ?_) (fun hb12 => ?_)
  ·have hF := (M.ite_some hF).1 hb12
   refine Zs ?_
   refine Zq [.bool false] [2] [(2, .bool false)] ?_
   have hF := M.ret_some hF
   subst hF
   have H35 : Hold h h23 [] := H34.pk []
   exact Run_ret1 rfl (Zt (.bool false)) ⟨rfl, H35⟩
  ·have hF := (M.ite_some hF).2 hb12
   refine Run_skip ?_
   refine Zs ?_
   refine Zs ?_
   refine Zq [iV x3.2, .bool (x3.2 != 0)] [3, 5, 114] [(3, pV b1), (5, pV b3), (114, .bool (x3.2 != 0))] ?_
   refine Zc (x3.2 != 0) (fun hb13 => ?_) (fun hb13 => ?_)
   ·have hF := (M.ite_some hF).1 hb13
    refine Zs ?_
    refine Zq [.bool true] [2] [(2, .bool true)] ?_
    have hF := M.ret_some hF
    subst hF
    have H36 : Hold h h23 [] := H34.pk []
    exact Run_ret1 rfl (Zt (.bool true)) ⟨rfl, H36⟩
   ·have hF := (M.ite_some hF).2 hb13
    refine Run_skip ?_
    refine Zs ?_
    refine Run_ops ?_
    refine Zz (.agg #[iV x3.1.Events, .slice a2 x3.1.Places.length c2]) (Y_loadA (t := 26) (n := 2) (p := ⟨b3, 0, none⟩) (cs := [iV x3.1.Events, .slice a2 x3.1.Places.length c2]) (by kernel_rfl) (fun w => by kernel_rfl) (by kernel_rfl) rfl (H34.cells (n := 2) (off := 0) 8 rfl rfl)) ?_
    refine Zr [.pointer (some ⟨b1, 1, none⟩)] 1 ?_
    refine Zz (.slice a1 x2.1.Places.length c1) (Zl 24 (⟨b1, 1, none⟩) (.slice a1 x2.1.Places.length c1) (H34.cell 11 rfl rfl)) ?_
    refine Zr [iV (x2.1.Places.length : Int)] 3 ?_
    obtain ⟨x26, hx16, hF⟩ := M.bind_some hF
    refine Ze ?_
    refine ZC 16 #[.agg #[iV x3.1.Events, .slice a2 x3.1.Places.length c2], iV (x2.1.Places.length : Int)] (w_impl_DropPlace h23 x3.1 a2 c2 (H34.rd 9 rfl) (x2.1.Places.length : Int) _ _ hx16) (fun v7 h24 hp7 => ?_)
    obtain ⟨a7, c7, rfl, H37⟩ := hp7
    have H38 : Hold h h24 [own cd28 a7 x26.1.Places.length c7 x26.1.Places, box b7 26 [iV x9.1.Events, .slice a6 x9.1.Places.length c6], own cd28 a6 x9.1.Places.length c6 x9.1.Places, box b6 26 [iV x8.1.Events, .slice a5 x8.1.Places.length c5], own cd28 a5 x8.1.Places.length c5 x8.1.Places, box b5 26 [iV x6.1.Events, .slice a4 x6.1.Places.length c4], own cd28 a4 x6.1.Places.length c4 x6.1.Places, box b4 26 [iV x4.1.Events, .slice a3 x4.1.Places.length c3], own cd28 a3 x4.1.Places.length c3 x4.1.Places, box b3 26 [iV x3.1.Events, .slice a2 x3.1.Places.length c2], own cd28 a2 x3.1.Places.length c2 x3.1.Places, box b2 28 [iV x2.2.From, iV x2.2.To, iV x2.2.Delay, iV x2.2.Tokens], box b1 26 [iV x2.1.Events, .slice a1 x2.1.Places.length c1], own cd28 a1 x2.1.Places.length c1 x2.1.Places] := H34.call H37 rfl
    refine Zr [.tuple #[.agg #[iV x26.1.Events, .slice a7 x26.1.Places.length c7], iV x26.2], .agg #[iV x26.1.Events, .slice a7 x26.1.Places.length c7], iV x26.2] 5 ?_
    refine Ze ?_
    refine E_box (ty := 26) (cs := [iV 0, .slice none 0 0]) H38 (fun w => by kernel_rfl) (fun b8 h25 H39 => ?_)
    refine Ze ?_
    refine ZP 26 0 [iV x26.1.Events, .slice a7 x26.1.Places.length c7] (.agg #[iV x26.1.Events, .slice a7 x26.1.Places.length c7]) H39 (fun h26 H40 => ?_)
    refine Zr [iV x26.2] 10 ?_
    refine Zx ?_
    refine Zk [3, 17, 18] [(3, pV b1), (17, pV b8), (18, iV x26.2)] ?_
    refine Zs ?_
    obtain ⟨x27, gx27, hF⟩ := M.bind_some hF
    refine Run_regC (j := 8) (C := fun x => Hold h x [box b8 26 [iV x26.1.Events, .slice a7 x26.1.Places.length c7], own cd28 a7 x26.1.Places.length c7 x26.1.Places, box b7 26 [iV x9.1.Events, .slice a6 x9.1.Places.length c6], own cd28 a6 x9.1.Places.length c6 x9.1.Places, box b6 26 [iV x8.1.Events, .slice a5 x8.1.Places.length c5], own cd28 a5 x8.1.Places.length c5 x8.1.Places, box b5 26 [iV x6.1.Events, .slice a4 x6.1.Places.length c4], own cd28 a4 x6.1.Places.length c4 x6.1.Places, box b4 26 [iV x4.1.Events, .slice a3 x4.1.Places.length c3], own cd28 a3 x4.1.Places.length c3 x4.1.Places, box b3 26 [iV x3.1.Events, .slice a2 x3.1.Places.length c2], own cd28 a2 x3.1.Places.length c2 x3.1.Places, box b2 28 [iV x2.2.From, iV x2.2.To, iV x2.2.Delay, iV x2.2.Tokens], box b1 26 [iV x2.1.Events, .slice a1 x2.1.Places.length c1], own cd28 a1 x2.1.Places.length c1 x2.1.Places]) (by kernel_rfl) H40 (L' := [(2, .bool x27)]) ?_ (fun h27 H41 => ?_)
    ·refine Zb [iV x26.2, .bool (x26.2 == 0)] 0 ?_
     refine QRun_seq 7 [(129, .bool x27)] ?_ ?_
     ·rcases Bool.eq_false_or_eq_true (x26.2 == 0) with hb14 | hb14
      ·refine Zv (x26.2 == 0) true hb14 ?_
       have gx27 := (M.ite_some gx27).1 hb14
       obtain ⟨x28, hx17, gx27⟩ := M.bind_some gx27
       have gx27 := M.ret_some gx27
       refine Zy (.agg #[iV x26.1.Events, .slice a7 x26.1.Places.length c7]) (Y_cls fun hx Hx => (Y_loadA (t := 26) (n := 2) (p := ⟨b8, 0, none⟩) (cs := [iV x26.1.Events, .slice a7 x26.1.Places.length c7]) (by kernel_rfl) (fun w => by kernel_rfl) (by kernel_rfl) rfl (Hx.cells (n := 2) (off := 0) 0 rfl rfl))) ?_
       refine Zy (.agg #[iV x2.1.Events, .slice a1 x2.1.Places.length c1]) (Y_cls fun hx Hx => (Y_loadA (t := 26) (n := 2) (p := ⟨b1, 0, none⟩) (cs := [iV x2.1.Events, .slice a1 x2.1.Places.length c1]) (by kernel_rfl) (fun w => by kernel_rfl) (by kernel_rfl) rfl (Hx.cells (n := 2) (off := 0) 13 rfl rfl))) ?_
       refine Zy (.bool x28) (Y_call (f := 13) (args := #[.agg #[iV x26.1.Events, .slice a7 x26.1.Places.length c7], .agg #[iV x2.1.Events, .slice a1 x2.1.Places.length c1]]) (v := .bool x28) (by kernel_rfl) fun hx Hx => (w_laws_likeGraphs9 hx x26.1 a7 c7 (Hx.rd 1 rfl) x2.1 a1 c1 (Hx.rd 14 rfl) _ _ hx17).mono fun _ _ ⟨e, H'⟩ => ⟨e, Hx.call H' rfl⟩) ?_
       refine Zv x28 x27 gx27 ?_
       exact Zd [129]
      ·refine Zv (x26.2 == 0) false hb14 ?_
       have gx27 := M.ret_some ((M.ite_some gx27).2 hb14)
       refine Zn ?_
       refine Zn ?_
       refine Zn ?_
       refine Zv false x27 gx27 ?_
       exact Zd [129]
     refine Zb [.bool x27] 7 ?_
     exact Zd [2]
    have H42 := H41
    have hF := M.ret_some hF
    subst hF
    have H43 : Hold h h27 [] := H42.pk []
    exact Run_ret1 rfl (Zt (.bool x27)) ⟨rfl, H43⟩

end Go.Proofs.YtfhphkiggdepaaaDoor
