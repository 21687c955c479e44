/-
  Walks: each Go function, called with what reads as plain data, returns what its plain program computes.
  Conditions: None beyond the given statement.
-/
import Derived.Test.YtelopfgolahlpaaW0
namespace Go.Proofs.Ytelopfgolahlpaa
open Go
attribute [local irreducible] setL setB opA fineI idleI fineB evB okB markB markBs readyB readyBs chainB lk rho pickL dropSlot tailOK
set_option maxRecDepth 100000
set_option maxHeartbeats 4000000
theorem w_laws_FnExactSimplifyGraph (h : Heap) (aG : TGraph) (aaGPlaces : Option Addr) (caGPlaces : Nat) (raGPlaces : Rd cd110 h (Lt h) aaGPlaces caGPlaces aG.Places) (n : Nat) (r : Bool) (hF : laws_FnExactSimplifyGraph aG n = some r) :
  Fn Try.prog 3 #[.agg #[iV aG.Events, .slice aaGPlaces aG.Places.length caGPlaces]] h fun v h' => v = .bool r ∧ Hold h h' [] := by
 unfold laws_FnExactSimplifyGraph at hF
 refine Zo [.agg #[iV aG.Events, .slice aaGPlaces aG.Places.length caGPlaces]] Try.func3 rfl (fun w0 _ => ?_)
 have H0 := Hold.init h
 refine Zs ?_
 refine Run_ops ?_
 refine Ze ?_
 refine E_box (ty := 24) (cs := [iV aG.Events, .slice aaGPlaces aG.Places.length caGPlaces]) H0 (fun w => by kernel_rfl) (fun b1 h1 H1 => ?_)
 refine Zr [.bool false] 1 ?_
 refine Zx ?_
 refine Zk [1] [(1, pV b1)] ?_
 refine Zs ?_
 refine Zq [iV 1048576] [1, 3] [(1, pV b1), (3, iV 1048576)] ?_
 refine Zs ?_
 obtain ⟨x1, hx1, hF⟩ := M.bind_some hF
 refine Run_regC (j := 4) (C := fun x => Hold h x [box b1 24 [iV aG.Events, .slice aaGPlaces aG.Places.length caGPlaces]]) (by kernel_rfl) H1 (L' := [(1, pV b1), (3, iV x1)]) ?_ (fun h2 H2 => ?_)
 ·refine Zy (.agg #[iV aG.Events, .slice aaGPlaces aG.Places.length caGPlaces]) (Y_cls fun hx Hx => (Y_loadA (t := 24) (n := 2) (p := ⟨b1, 0, none⟩) (cs := [iV aG.Events, .slice aaGPlaces aG.Places.length caGPlaces]) (by kernel_rfl) (fun w => by kernel_rfl) (by kernel_rfl) rfl (Hx.cells (n := 2) (off := 0) 0 rfl rfl))) ?_
  refine Zb [iV 1048576] 1 ?_
  refine Zy (iV x1) (Y_call (f := 6) (args := #[.agg #[iV aG.Events, .slice aaGPlaces aG.Places.length caGPlaces], iV 1048576]) (v := iV x1) (by kernel_rfl) fun hx Hx => (w_laws_szEventGraph hx aG aaGPlaces caGPlaces (raGPlaces.at Hx.ext) 1048576 _ _ hx1).mono fun _ _ ⟨e, H'⟩ => ⟨e, Hx.call H' rfl⟩) ?_
  refine Zb [iV x1] 3 ?_
  exact Zd [1, 3]
 have H3 : Hold h h2 [box b1 24 [iV aG.Events, .slice aaGPlaces aG.Places.length caGPlaces]] := H2
 refine Zs ?_
 refine Zs ?_
 refine Zq [iV x1, .bool (decide (x1 < 0))] [1, 18] [(1, pV b1), (18, .bool (decide (x1 < 0)))] ?_
 refine Zc (decide (x1 < 0)) (fun hb1 => ?_) (fun hb1 => ?_)
 ·have hF := (M.ite_some hF).1 hb1
  refine Zs ?_
  refine Zq [.bool true] [2] [(2, .bool true)] ?_
  have hF := M.ret_some hF
  subst hF
  have H4 : Hold h h2 [] := H3.pk []
  exact Run_ret1 rfl (Zt (.bool true)) ⟨rfl, H4⟩
 ·have hF := (M.ite_some hF).2 hb1
  refine Run_skip ?_
  refine Zs ?_
  refine Run_ops ?_
  refine Zz (.agg #[iV aG.Events, .slice aaGPlaces aG.Places.length caGPlaces]) (Y_loadA (t := 24) (n := 2) (p := ⟨b1, 0, none⟩) (cs := [iV aG.Events, .slice aaGPlaces aG.Places.length caGPlaces]) (by kernel_rfl) (fun w => by kernel_rfl) (by kernel_rfl) rfl (H3.cells (n := 2) (off := 0) 0 rfl rfl)) ?_
  obtain ⟨x2, hx2, hF⟩ := M.bind_some hF
  refine Ze ?_
  refine ZC 8 #[.agg #[iV aG.Events, .slice aaGPlaces aG.Places.length caGPlaces]] (w_laws_toEventGraph h2 aG aaGPlaces caGPlaces (raGPlaces.at H3.ext) _ _ hx2) (fun v1 h3 hp1 => ?_)
  obtain ⟨a1, c1, rfl, H5⟩ := hp1
  have H6 : Hold h h3 [own cd60 a1 x2.Places.length c1 x2.Places, box b1 24 [iV aG.Events, .slice aaGPlaces aG.Places.length caGPlaces]] := H3.call H5 rfl
  obtain ⟨x3, hx3, hF⟩ := M.bind_some hF
  refine Ze ?_
  refine ZC 7 #[.agg #[iV x2.Events, .slice a1 x2.Places.length c1]] (w_spec_SimplifyGraph h3 x2 a1 c1 (H6.rd 0 rfl) _ _ hx3) (fun v2 h4 hp2 => ?_)
  obtain ⟨a2, c2, rfl, H7⟩ := hp2
  have H8 : Hold h h4 [own cd60 a2 x3.1.Places.length c2 x3.1.Places, own cd60 a1 x2.Places.length c1 x2.Places, box b1 24 [iV aG.Events, .slice aaGPlaces aG.Places.length caGPlaces]] := H6.call H7 rfl
  refine Zr [.tuple #[.agg #[iV x3.1.Events, .slice a2 x3.1.Places.length c2], iV x3.2], .agg #[iV x3.1.Events, .slice a2 x3.1.Places.length c2], iV x3.2] 3 ?_
  refine Ze ?_
  refine E_box (ty := 28) (cs := [iV 0, .slice none 0 0]) H8 (fun w => by kernel_rfl) (fun b2 h5 H9 => ?_)
  refine Ze ?_
  refine ZP 28 0 [iV x3.1.Events, .slice a2 x3.1.Places.length c2] (.agg #[iV x3.1.Events, .slice a2 x3.1.Places.length c2]) H9 (fun h6 H10 => ?_)
  refine Zr [iV x3.2] 8 ?_
  refine Zx ?_
  refine Zk [1, 4, 5] [(1, pV b1), (4, pV b2), (5, iV x3.2)] ?_
  refine Zs ?_
  refine Run_ops ?_
  refine Zz (.agg #[iV aG.Events, .slice aaGPlaces aG.Places.length caGPlaces]) (Y_loadA (t := 24) (n := 2) (p := ⟨b1, 0, none⟩) (cs := [iV aG.Events, .slice aaGPlaces aG.Places.length caGPlaces]) (by kernel_rfl) (fun w => by kernel_rfl) (by kernel_rfl) rfl (H10.cells (n := 2) (off := 0) 3 rfl rfl)) ?_
  obtain ⟨x4, hx4, hF⟩ := M.bind_some hF
  refine Ze ?_
  refine ZC 8 #[.agg #[iV aG.Events, .slice aaGPlaces aG.Places.length caGPlaces]] (w_laws_toEventGraph h6 aG aaGPlaces caGPlaces (raGPlaces.at H10.ext) _ _ hx4) (fun v3 h7 hp3 => ?_)
  obtain ⟨a3, c3, rfl, H11⟩ := hp3
  have H12 : Hold h h7 [own cd60 a3 x4.Places.length c3 x4.Places, box b2 28 [iV x3.1.Events, .slice a2 x3.1.Places.length c2], own cd60 a2 x3.1.Places.length c2 x3.1.Places, own cd60 a1 x2.Places.length c1 x2.Places, box b1 24 [iV aG.Events, .slice aaGPlaces aG.Places.length caGPlaces]] := H10.call H11 rfl
  refine Ze ?_
  refine E_box (ty := 28) (cs := [iV 0, .slice none 0 0]) H12 (fun w => by kernel_rfl) (fun b3 h8 H13 => ?_)
  refine Ze ?_
  refine ZP 28 0 [iV x4.Events, .slice a3 x4.Places.length c3] (.agg #[iV x4.Events, .slice a3 x4.Places.length c3]) H13 (fun h9 H14 => ?_)
  refine Zx ?_
  refine Zk [1, 4, 5, 6] [(1, pV b1), (4, pV b2), (5, iV x3.2), (6, pV b3)] ?_
  refine Zs ?_
  refine Run_ops ?_
  refine Zz (.agg #[iV x4.Events, .slice a3 x4.Places.length c3]) (Y_loadA (t := 28) (n := 2) (p := ⟨b3, 0, none⟩) (cs := [iV x4.Events, .slice a3 x4.Places.length c3]) (by kernel_rfl) (fun w => by kernel_rfl) (by kernel_rfl) rfl (H14.cells (n := 2) (off := 0) 0 rfl rfl)) ?_
  obtain ⟨x5, hx5, hF⟩ := M.bind_some hF
  refine Ze ?_
  refine ZC 9 #[.agg #[iV x4.Events, .slice a3 x4.Places.length c3]] (w_impl_SimplifyGraph h9 x4 a3 c3 (H14.rd 1 rfl) _ _ hx5) (fun v4 h10 hp4 => ?_)
  obtain ⟨a4, c4, rfl, H15⟩ := hp4
  have H16 : Hold h h10 [own cd60 a4 x5.1.Places.length c4 x5.1.Places, box b3 28 [iV x4.Events, .slice a3 x4.Places.length c3], own cd60 a3 x4.Places.length c3 x4.Places, box b2 28 [iV x3.1.Events, .slice a2 x3.1.Places.length c2], own cd60 a2 x3.1.Places.length c2 x3.1.Places, own cd60 a1 x2.Places.length c1 x2.Places, box b1 24 [iV aG.Events, .slice aaGPlaces aG.Places.length caGPlaces]] := H14.call H15 rfl
  refine Zr [.tuple #[.agg #[iV x5.1.Events, .slice a4 x5.1.Places.length c4], iV x5.2], .agg #[iV x5.1.Events, .slice a4 x5.1.Places.length c4], iV x5.2] 2 ?_
  refine Ze ?_
  refine E_box (ty := 28) (cs := [iV 0, .slice none 0 0]) H16 (fun w => by kernel_rfl) (fun b4 h11 H17 => ?_)
  refine Ze ?_
  refine ZP 28 0 [iV x5.1.Events, .slice a4 x5.1.Places.length c4] (.agg #[iV x5.1.Events, .slice a4 x5.1.Places.length c4]) H17 (fun h12 H18 => ?_)
  refine Zr [iV x5.2] 7 ?_
  refine Zx ?_
  refine Zk [1, 4, 5, 6, 7, 8] [(1, pV b1), (4, pV b2), (5, iV x3.2), (6, pV b3), (7, pV b4), (8, iV x5.2)] ?_
  refine Zs ?_
  refine Zs ?_
  obtain ⟨x6, hx6, hF⟩ := M.bind_some hF
  refine Run_regC (j := 9) (C := fun x => Hold h x [box b4 28 [iV x5.1.Events, .slice a4 x5.1.Places.length c4], own cd60 a4 x5.1.Places.length c4 x5.1.Places, box b3 28 [iV x4.Events, .slice a3 x4.Places.length c3], own cd60 a3 x4.Places.length c3 x4.Places, box b2 28 [iV x3.1.Events, .slice a2 x3.1.Places.length c2], own cd60 a2 x3.1.Places.length c2 x3.1.Places, own cd60 a1 x2.Places.length c1 x2.Places, box b1 24 [iV aG.Events, .slice aaGPlaces aG.Places.length caGPlaces]]) (by kernel_rfl) H18 (L' := [(1, pV b1), (4, pV b2), (5, iV x3.2), (6, pV b3), (7, pV b4), (8, iV x5.2), (40, .bool ((!x6) || (x5.2 != x3.2)))]) ?_ (fun h13 H19 => ?_)
  ·refine Zy (.agg #[iV x5.1.Events, .slice a4 x5.1.Places.length c4]) (Y_cls fun hx Hx => (Y_loadA (t := 28) (n := 2) (p := ⟨b4, 0, none⟩) (cs := [iV x5.1.Events, .slice a4 x5.1.Places.length c4]) (by kernel_rfl) (fun w => by kernel_rfl) (by kernel_rfl) rfl (Hx.cells (n := 2) (off := 0) 0 rfl rfl))) ?_
   refine Zy (.agg #[iV x3.1.Events, .slice a2 x3.1.Places.length c2]) (Y_cls fun hx Hx => (Y_loadA (t := 28) (n := 2) (p := ⟨b2, 0, none⟩) (cs := [iV x3.1.Events, .slice a2 x3.1.Places.length c2]) (by kernel_rfl) (fun w => by kernel_rfl) (by kernel_rfl) rfl (Hx.cells (n := 2) (off := 0) 4 rfl rfl))) ?_
   refine Zy (.bool x6) (Y_call (f := 10) (args := #[.agg #[iV x5.1.Events, .slice a4 x5.1.Places.length c4], .agg #[iV x3.1.Events, .slice a2 x3.1.Places.length c2]]) (v := .bool x6) (by kernel_rfl) fun hx Hx => (w_laws_eqEventGraph hx x5.1 a4 c4 (Hx.rd 1 rfl) x3.1 a2 c2 (Hx.rd 5 rfl) _ _ hx6).mono fun _ _ ⟨e, H'⟩ => ⟨e, Hx.call H' rfl⟩) ?_
   refine Zb [.bool (!x6)] 3 ?_
   refine QRun_seq 9 [(1, pV b1), (4, pV b2), (5, iV x3.2), (6, pV b3), (7, pV b4), (8, iV x5.2), (40, .bool ((!x6) || (x5.2 != x3.2)))] ?_ ?_
   ·rcases Bool.eq_false_or_eq_true (!x6) with hb2 | hb2
    ·refine Zv (!x6) true hb2 ?_
     refine Zn ?_
     refine Zn ?_
     refine Zn ?_
     refine QRun_bool true ((!x6) || (x5.2 != x3.2)) (by kernel_rfl) (fun w => by kernel_rfl) (by rw [hb2]; rfl) ?_
     exact Zd [1, 4, 5, 6, 7, 8, 40]
    ·refine Zv (!x6) false hb2 ?_
     refine Zb [iV x5.2, iV x3.2, .bool (x5.2 != x3.2)] 5 ?_
     refine QRun_bool (x5.2 != x3.2) ((!x6) || (x5.2 != x3.2)) (by kernel_rfl) (fun w => by kernel_rfl) (by rw [hb2]; rfl) ?_
     exact Zd [1, 4, 5, 6, 7, 8, 40]
   exact Zd [1, 4, 5, 6, 7, 8, 40]
  have H20 : Hold h h13 [box b4 28 [iV x5.1.Events, .slice a4 x5.1.Places.length c4], own cd60 a4 x5.1.Places.length c4 x5.1.Places, box b3 28 [iV x4.Events, .slice a3 x4.Places.length c3], own cd60 a3 x4.Places.length c3 x4.Places, box b2 28 [iV x3.1.Events, .slice a2 x3.1.Places.length c2], own cd60 a2 x3.1.Places.length c2 x3.1.Places, own cd60 a1 x2.Places.length c1 x2.Places, box b1 24 [iV aG.Events, .slice aaGPlaces aG.Places.length caGPlaces]] := H19
  refine Zc ((!x6) || (x5.2 != x3.2)) (fun hb3 => ?_) (fun hb3 => ?_)
  ·have hF := (M.ite_some hF).1 hb3
   refine Zs ?_
   refine Zq [.bool false] [2] [(2, .bool false)] ?_
   have hF := M.ret_some hF
   subst hF
   have H21 : Hold h h13 [] := H20.pk []
   exact Run_ret1 rfl (Zt (.bool false)) ⟨rfl, H21⟩
  ·have hF := (M.ite_some hF).2 hb3
   refine Run_skip ?_
   refine Zs ?_
   refine Zs ?_
   refine Run_D (fun x => Hold h x [box b4 28 [iV x5.1.Events, .slice a4 x5.1.Places.length c4], own cd60 a4 x5.1.Places.length c4 x5.1.Places, box b3 28 [iV x4.Events, .slice a3 x4.Places.length c3], own cd60 a3 x4.Places.length c3 x4.Places, box b2 28 [iV x3.1.Events, .slice a2 x3.1.Places.length c2], own cd60 a2 x3.1.Places.length c2 x3.1.Places, own cd60 a1 x2.Places.length c1 x2.Places, box b1 24 [iV aG.Events, .slice aaGPlaces aG.Places.length caGPlaces]]) (fun x => Hold h x [box b4 28 [iV x5.1.Events, .slice a4 x5.1.Places.length c4], own cd60 a4 x5.1.Places.length c4 x5.1.Places, box b3 28 [iV x4.Events, .slice a3 x4.Places.length c3], own cd60 a3 x4.Places.length c3 x4.Places, box b2 28 [iV x3.1.Events, .slice a2 x3.1.Places.length c2], own cd60 a2 x3.1.Places.length c2 x3.1.Places, own cd60 a1 x2.Places.length c1 x2.Places, box b1 24 [iV aG.Events, .slice aaGPlaces aG.Places.length caGPlaces]]) mixed (by kernel_rfl) H20 Hold.stable (fun x Hy => (show Hold h x [box b4 28 [iV x5.1.Events, .slice a4 x5.1.Places.length c4], own cd60 a4 x5.1.Places.length c4 x5.1.Places, box b3 28 [iV x4.Events, .slice a3 x4.Places.length c3], own cd60 a3 x4.Places.length c3 x4.Places, box b2 28 [iV x3.1.Events, .slice a2 x3.1.Places.length c2], own cd60 a2 x3.1.Places.length c2 x3.1.Places, own cd60 a1 x2.Places.length c1 x2.Places, box b1 24 [iV aG.Events, .slice aaGPlaces aG.Places.length caGPlaces]] from Hy).pk [0, 1, 2, 3, 4, 5, 6, 7]) ?_
   refine ZY 4 0 (.agg #[iV x4.Events, .slice a3 x4.Places.length c3]) (fun hx Hx => (YE.of (Y_loadA (t := 28) (n := 2) (p := ⟨b3, 0, none⟩) (cs := [iV x4.Events, .slice a3 x4.Places.length c3]) (by kernel_rfl) (fun w => by kernel_rfl) (by kernel_rfl) rfl (Hx.cells (n := 2) (off := 0) 2 rfl rfl)))) ?_
   refine ZY 3 1 (.agg #[iV aG.Events, .slice aaGPlaces aG.Places.length caGPlaces]) (fun hx Hx => (YE.of (Y_loadA (t := 24) (n := 2) (p := ⟨b1, 0, none⟩) (cs := [iV aG.Events, .slice aaGPlaces aG.Places.length caGPlaces]) (by kernel_rfl) (fun w => by kernel_rfl) (by kernel_rfl) rfl (Hx.cells (n := 2) (off := 0) 7 rfl rfl)))) ?_
   refine ZE 2 2 (fun h14 H22 => ?_)
   have H23 : Hold h h14 [box b4 28 [iV x5.1.Events, .slice a4 x5.1.Places.length c4], own cd60 a4 x5.1.Places.length c4 x5.1.Places, box b3 28 [iV x4.Events, .slice a3 x4.Places.length c3], own cd60 a3 x4.Places.length c3 x4.Places, box b2 28 [iV x3.1.Events, .slice a2 x3.1.Places.length c2], own cd60 a2 x3.1.Places.length c2 x3.1.Places, own cd60 a1 x2.Places.length c1 x2.Places, box b1 24 [iV aG.Events, .slice aaGPlaces aG.Places.length caGPlaces]] := H22
   obtain ⟨x8, hx7, hF⟩ := M.bind_some hF
   refine ZC 8 #[.agg #[iV aG.Events, .slice aaGPlaces aG.Places.length caGPlaces]] (w_laws_toEventGraph h14 aG aaGPlaces caGPlaces (raGPlaces.at H23.ext) _ _ hx7) (fun v5 h15 hp5 => ?_)
   obtain ⟨a5, c5, rfl, H24⟩ := hp5
   have H25 : Hold h h15 [own cd60 a5 x8.Places.length c5 x8.Places, box b4 28 [iV x5.1.Events, .slice a4 x5.1.Places.length c4], own cd60 a4 x5.1.Places.length c4 x5.1.Places, box b3 28 [iV x4.Events, .slice a3 x4.Places.length c3], own cd60 a3 x4.Places.length c3 x4.Places, box b2 28 [iV x3.1.Events, .slice a2 x3.1.Places.length c2], own cd60 a2 x3.1.Places.length c2 x3.1.Places, own cd60 a1 x2.Places.length c1 x2.Places, box b1 24 [iV aG.Events, .slice aaGPlaces aG.Places.length caGPlaces]] := H23.call H24 rfl
   refine ⟨fun x => Hold h x [box b4 28 [iV x5.1.Events, .slice a4 x5.1.Places.length c4], own cd60 a4 x5.1.Places.length c4 x5.1.Places, box b3 28 [iV x4.Events, .slice a3 x4.Places.length c3], own cd60 a3 x4.Places.length c3 x4.Places, box b2 28 [iV x3.1.Events, .slice a2 x3.1.Places.length c2], own cd60 a2 x3.1.Places.length c2 x3.1.Places, own cd60 a1 x2.Places.length c1 x2.Places, box b1 24 [iV aG.Events, .slice aaGPlaces aG.Places.length caGPlaces], own cd60 a5 x8.Places.length c5 x8.Places], fun x => Hold h x [own cd60 a5 x8.Places.length c5 x8.Places, box b4 28 [iV x5.1.Events, .slice a4 x5.1.Places.length c4], own cd60 a4 x5.1.Places.length c4 x5.1.Places, box b3 28 [iV x4.Events, .slice a3 x4.Places.length c3], own cd60 a3 x4.Places.length c3 x4.Places, box b2 28 [iV x3.1.Events, .slice a2 x3.1.Places.length c2], own cd60 a2 x3.1.Places.length c2 x3.1.Places, own cd60 a1 x2.Places.length c1 x2.Places, box b1 24 [iV aG.Events, .slice aaGPlaces aG.Places.length caGPlaces]], H25, Hold.stable, fun x Hy => (show Hold h x [own cd60 a5 x8.Places.length c5 x8.Places, box b4 28 [iV x5.1.Events, .slice a4 x5.1.Places.length c4], own cd60 a4 x5.1.Places.length c4 x5.1.Places, box b3 28 [iV x4.Events, .slice a3 x4.Places.length c3], own cd60 a3 x4.Places.length c3 x4.Places, box b2 28 [iV x3.1.Events, .slice a2 x3.1.Places.length c2], own cd60 a2 x3.1.Places.length c2 x3.1.Places, own cd60 a1 x2.Places.length c1 x2.Places, box b1 24 [iV aG.Events, .slice aaGPlaces aG.Places.length caGPlaces]] from Hy).pk [1, 2, 3, 4, 5, 6, 7, 8, 0], fun x Hy => (show Hold h x [box b4 28 [iV x5.1.Events, .slice a4 x5.1.Places.length c4], own cd60 a4 x5.1.Places.length c4 x5.1.Places, box b3 28 [iV x4.Events, .slice a3 x4.Places.length c3], own cd60 a3 x4.Places.length c3 x4.Places, box b2 28 [iV x3.1.Events, .slice a2 x3.1.Places.length c2], own cd60 a2 x3.1.Places.length c2 x3.1.Places, own cd60 a1 x2.Places.length c1 x2.Places, box b1 24 [iV aG.Events, .slice aaGPlaces aG.Places.length caGPlaces], own cd60 a5 x8.Places.length c5 x8.Places] from Hy).pk [0, 1, 2, 3, 4, 5, 6, 7], ?_⟩
   obtain ⟨x9, hx8, hF⟩ := M.bind_some hF
   refine ZY 1 3 (.bool x9) (fun hx Hx => (YE_call (f := 10) (args := #[.agg #[iV x4.Events, .slice a3 x4.Places.length c3], .agg #[iV x8.Events, .slice a5 x8.Places.length c5]]) (v := .bool x9) (by kernel_rfl) ((w_laws_eqEventGraph hx x4 a3 c3 (Hx.rd 3 rfl) x8 a5 c5 (Hx.rd 8 rfl) _ _ hx8).mono fun _ _ ⟨e, H'⟩ => ⟨e, H'.ext⟩))) ?_
   refine ZB 0 [.bool (!x9)] 4 ?_
   refine ZT 5 (fun h16 H26 => ?_)
   have H27 : Hold h h16 [own cd60 a5 x8.Places.length c5 x8.Places, box b4 28 [iV x5.1.Events, .slice a4 x5.1.Places.length c4], own cd60 a4 x5.1.Places.length c4 x5.1.Places, box b3 28 [iV x4.Events, .slice a3 x4.Places.length c3], own cd60 a3 x4.Places.length c3 x4.Places, box b2 28 [iV x3.1.Events, .slice a2 x3.1.Places.length c2], own cd60 a2 x3.1.Places.length c2 x3.1.Places, own cd60 a1 x2.Places.length c1 x2.Places, box b1 24 [iV aG.Events, .slice aaGPlaces aG.Places.length caGPlaces]] := H26
   refine Zx ?_
   refine Zk [1, 4, 5, 6, 7, 8, 45] [(1, pV b1), (4, pV b2), (5, iV x3.2), (6, pV b3), (7, pV b4), (8, iV x5.2), (45, .bool (!x9))] ?_
   refine Zc (!x9) (fun hb4 => ?_) (fun hb4 => ?_)
   ·have hF := (M.ite_some hF).1 hb4
    refine Zs ?_
    refine Zq [.bool false] [2] [(2, .bool false)] ?_
    have hF := M.ret_some hF
    subst hF
    have H28 : Hold h h16 [] := H27.pk []
    exact Run_ret1 rfl (Zt (.bool false)) ⟨rfl, H28⟩
   ·have hF := (M.ite_some hF).2 hb4
    refine Run_skip ?_
    refine Zs ?_
    refine Zq [iV 1] [1, 4, 5, 6, 7, 8, 9] [(1, pV b1), (4, pV b2), (5, iV x3.2), (6, pV b3), (7, pV b4), (8, iV x5.2), (9, iV 1)] ?_
    refine Zs ?_
    refine Run_ops ?_
    refine Zz (.agg #[iV x4.Events, .slice a3 x4.Places.length c3]) (Y_loadA (t := 28) (n := 2) (p := ⟨b3, 0, none⟩) (cs := [iV x4.Events, .slice a3 x4.Places.length c3]) (by kernel_rfl) (fun w => by kernel_rfl) (by kernel_rfl) rfl (H27.cells (n := 2) (off := 0) 3 rfl rfl)) ?_
    refine Zr [iV 1] 1 ?_
    obtain ⟨x10, hx9, hF⟩ := M.bind_some hF
    have H29 : Hold h h16 [own cd60 a3 x4.Places.length c3 x4.Places, own cd60 a5 x8.Places.length c5 x8.Places, box b4 28 [iV x5.1.Events, .slice a4 x5.1.Places.length c4], own cd60 a4 x5.1.Places.length c4 x5.1.Places, box b3 28 [iV x4.Events, .slice a3 x4.Places.length c3], box b2 28 [iV x3.1.Events, .slice a2 x3.1.Places.length c2], own cd60 a2 x3.1.Places.length c2 x3.1.Places, own cd60 a1 x2.Places.length c1 x2.Places, box b1 24 [iV aG.Events, .slice aaGPlaces aG.Places.length caGPlaces]] := H27.pk [4, 0, 1, 2, 3, 5, 6, 7, 8]
    have H30 : Hold h h16 [own cd60 a3 x4.Places.length c3 x4.Places, bun [own cd60 a5 x8.Places.length c5 x8.Places, box b4 28 [iV x5.1.Events, .slice a4 x5.1.Places.length c4], own cd60 a4 x5.1.Places.length c4 x5.1.Places, box b3 28 [iV x4.Events, .slice a3 x4.Places.length c3], box b2 28 [iV x3.1.Events, .slice a2 x3.1.Places.length c2], own cd60 a2 x3.1.Places.length c2 x3.1.Places, own cd60 a1 x2.Places.length c1 x2.Places, box b1 24 [iV aG.Events, .slice aaGPlaces aG.Places.length caGPlaces]]] := Hold.bundle (S := [own cd60 a3 x4.Places.length c3 x4.Places]) (R := [own cd60 a5 x8.Places.length c5 x8.Places, box b4 28 [iV x5.1.Events, .slice a4 x5.1.Places.length c4], own cd60 a4 x5.1.Places.length c4 x5.1.Places, box b3 28 [iV x4.Events, .slice a3 x4.Places.length c3], box b2 28 [iV x3.1.Events, .slice a2 x3.1.Places.length c2], own cd60 a2 x3.1.Places.length c2 x3.1.Places, own cd60 a1 x2.Places.length c1 x2.Places, box b1 24 [iV aG.Events, .slice aaGPlaces aG.Places.length caGPlaces]]) H29
    refine Ze ?_
    refine ZC 11 #[.agg #[iV x4.Events, .slice a3 x4.Places.length c3], iV 1] (w_laws_markEventGraph h h16 _ x4 a3 c3 1 H30 _ _ hx9) (fun v6 h17 hp6 => ?_)
    obtain ⟨rfl, H31⟩ := hp6
    have H32 : Hold h h17 [own cd60 a3 x4.Places.length c3 x10.2, own cd60 a5 x8.Places.length c5 x8.Places, box b4 28 [iV x5.1.Events, .slice a4 x5.1.Places.length c4], own cd60 a4 x5.1.Places.length c4 x5.1.Places, box b3 28 [iV x4.Events, .slice a3 x4.Places.length c3], box b2 28 [iV x3.1.Events, .slice a2 x3.1.Places.length c2], own cd60 a2 x3.1.Places.length c2 x3.1.Places, own cd60 a1 x2.Places.length c1 x2.Places, box b1 24 [iV aG.Events, .slice aaGPlaces aG.Places.length caGPlaces]] := Hold.unbundle (S := [own cd60 a3 x4.Places.length c3 x10.2]) (R := [own cd60 a5 x8.Places.length c5 x8.Places, box b4 28 [iV x5.1.Events, .slice a4 x5.1.Places.length c4], own cd60 a4 x5.1.Places.length c4 x5.1.Places, box b3 28 [iV x4.Events, .slice a3 x4.Places.length c3], box b2 28 [iV x3.1.Events, .slice a2 x3.1.Places.length c2], own cd60 a2 x3.1.Places.length c2 x3.1.Places, own cd60 a1 x2.Places.length c1 x2.Places, box b1 24 [iV aG.Events, .slice aaGPlaces aG.Places.length caGPlaces]]) H31 (Hold.tailBase (S := [own cd60 a3 x4.Places.length c3 x4.Places]) (R := [own cd60 a5 x8.Places.length c5 x8.Places, box b4 28 [iV x5.1.Events, .slice a4 x5.1.Places.length c4], own cd60 a4 x5.1.Places.length c4 x5.1.Places, box b3 28 [iV x4.Events, .slice a3 x4.Places.length c3], box b2 28 [iV x3.1.Events, .slice a2 x3.1.Places.length c2], own cd60 a2 x3.1.Places.length c2 x3.1.Places, own cd60 a1 x2.Places.length c1 x2.Places, box b1 24 [iV aG.Events, .slice aaGPlaces aG.Places.length caGPlaces]]) H29)
    refine Zr [iV x10.1] 3 ?_
    refine Zx ?_
    refine Zk [1, 4, 5, 7, 8, 9] [(1, pV b1), (4, pV b2), (5, iV x3.2), (7, pV b4), (8, iV x5.2), (9, iV x10.1)] ?_
    refine Zs ?_
    refine Zs ?_
    obtain ⟨x11, gx11, hF⟩ := M.bind_some hF
    refine Run_regC (j := 13) (C := fun x => Hold h x [own cd60 a3 x4.Places.length c3 x10.2, own cd60 a5 x8.Places.length c5 x8.Places, box b4 28 [iV x5.1.Events, .slice a4 x5.1.Places.length c4], own cd60 a4 x5.1.Places.length c4 x5.1.Places, box b3 28 [iV x4.Events, .slice a3 x4.Places.length c3], box b2 28 [iV x3.1.Events, .slice a2 x3.1.Places.length c2], own cd60 a2 x3.1.Places.length c2 x3.1.Places, own cd60 a1 x2.Places.length c1 x2.Places, box b1 24 [iV aG.Events, .slice aaGPlaces aG.Places.length caGPlaces]]) (by kernel_rfl) H32 (L' := [(1, pV b1), (4, pV b2), (5, iV x3.2), (7, pV b4), (61, .bool (x11 || (x5.2 != x3.2)))]) ?_ (fun h18 H33 => ?_)
    ·refine Zb [iV x10.1, .bool (decide (x10.1 < 0))] 0 ?_
     refine QRun_seq 8 [(1, pV b1), (4, pV b2), (5, iV x3.2), (7, pV b4), (8, iV x5.2), (56, .bool x11)] ?_ ?_
     ·rcases Bool.eq_false_or_eq_true (decide (x10.1 < 0)) with hb5 | hb5
      ·refine Zv (decide (x10.1 < 0)) true hb5 ?_
       have gx11 := M.ret_some ((M.ite_some gx11).1 hb5)
       refine Zn ?_
       refine Zn ?_
       refine Zn ?_
       refine Zn ?_
       refine Zv true x11 gx11 ?_
       exact Zd [1, 4, 5, 7, 8, 56]
      ·refine Zv (decide (x10.1 < 0)) false hb5 ?_
       have gx11 := (M.ite_some gx11).2 hb5
       obtain ⟨x12, hx10, gx11⟩ := M.bind_some gx11
       have gx11 := M.ret_some gx11
       refine Zy (.agg #[iV x5.1.Events, .slice a4 x5.1.Places.length c4]) (Y_cls fun hx Hx => (Y_loadA (t := 28) (n := 2) (p := ⟨b4, 0, none⟩) (cs := [iV x5.1.Events, .slice a4 x5.1.Places.length c4]) (by kernel_rfl) (fun w => by kernel_rfl) (by kernel_rfl) rfl (Hx.cells (n := 2) (off := 0) 2 rfl rfl))) ?_
       refine Zy (.agg #[iV x3.1.Events, .slice a2 x3.1.Places.length c2]) (Y_cls fun hx Hx => (Y_loadA (t := 28) (n := 2) (p := ⟨b2, 0, none⟩) (cs := [iV x3.1.Events, .slice a2 x3.1.Places.length c2]) (by kernel_rfl) (fun w => by kernel_rfl) (by kernel_rfl) rfl (Hx.cells (n := 2) (off := 0) 5 rfl rfl))) ?_
       refine Zy (.bool x12) (Y_call (f := 10) (args := #[.agg #[iV x5.1.Events, .slice a4 x5.1.Places.length c4], .agg #[iV x3.1.Events, .slice a2 x3.1.Places.length c2]]) (v := .bool x12) (by kernel_rfl) fun hx Hx => (w_laws_eqEventGraph hx x5.1 a4 c4 (Hx.rd 3 rfl) x3.1 a2 c2 (Hx.rd 6 rfl) _ _ hx10).mono fun _ _ ⟨e, H'⟩ => ⟨e, Hx.call H' rfl⟩) ?_
       refine Zb [.bool (!x12)] 6 ?_
       refine Zv (!x12) x11 gx11 ?_
       exact Zd [1, 4, 5, 7, 8, 56]
     refine QRun_seq 13 [(1, pV b1), (4, pV b2), (5, iV x3.2), (7, pV b4), (61, .bool (x11 || (x5.2 != x3.2)))] ?_ ?_
     ·rcases Bool.eq_false_or_eq_true x11 with hb6 | hb6
      ·refine Zv x11 true hb6 ?_
       refine Zn ?_
       refine Zn ?_
       refine Zn ?_
       refine QRun_bool true (x11 || (x5.2 != x3.2)) (by kernel_rfl) (fun w => by kernel_rfl) (by rw [hb6]; rfl) ?_
       exact Zd [1, 4, 5, 7, 61]
      ·refine Zv x11 false hb6 ?_
       refine Zb [iV x5.2, iV x3.2, .bool (x5.2 != x3.2)] 9 ?_
       refine QRun_bool (x5.2 != x3.2) (x11 || (x5.2 != x3.2)) (by kernel_rfl) (fun w => by kernel_rfl) (by rw [hb6]; rfl) ?_
       exact Zd [1, 4, 5, 7, 61]
     exact Zd [1, 4, 5, 7, 61]
    have H34 : Hold h h18 [own cd60 a3 x4.Places.length c3 x10.2, own cd60 a5 x8.Places.length c5 x8.Places, box b4 28 [iV x5.1.Events, .slice a4 x5.1.Places.length c4], own cd60 a4 x5.1.Places.length c4 x5.1.Places, box b3 28 [iV x4.Events, .slice a3 x4.Places.length c3], box b2 28 [iV x3.1.Events, .slice a2 x3.1.Places.length c2], own cd60 a2 x3.1.Places.length c2 x3.1.Places, own cd60 a1 x2.Places.length c1 x2.Places, box b1 24 [iV aG.Events, .slice aaGPlaces aG.Places.length caGPlaces]] := H33
    refine Zc (x11 || (x5.2 != x3.2)) (fun hb7 => ?_) (fun hb7 => ?_)
    ·have hF := (M.ite_some hF).1 hb7
     refine Zs ?_
     refine Zq [.bool false] [2] [(2, .bool false)] ?_
     have hF := M.ret_some hF
     subst hF
     have H35 : Hold h h18 [] := H34.pk []
     exact Run_ret1 rfl (Zt (.bool false)) ⟨rfl, H35⟩
    ·have hF := (M.ite_some hF).2 hb7
     refine Run_skip ?_
     refine Zs ?_
     refine Zq [iV 1] [1, 4, 5, 7, 10] [(1, pV b1), (4, pV b2), (5, iV x3.2), (7, pV b4), (10, iV 1)] ?_
     refine Zs ?_
     refine Run_ops ?_
     refine Zz (.agg #[iV x5.1.Events, .slice a4 x5.1.Places.length c4]) (Y_loadA (t := 28) (n := 2) (p := ⟨b4, 0, none⟩) (cs := [iV x5.1.Events, .slice a4 x5.1.Places.length c4]) (by kernel_rfl) (fun w => by kernel_rfl) (by kernel_rfl) rfl (H34.cells (n := 2) (off := 0) 2 rfl rfl)) ?_
     refine Zr [iV 1] 1 ?_
     obtain ⟨x14, hx11, hF⟩ := M.bind_some hF
     have H36 : Hold h h18 [own cd60 a4 x5.1.Places.length c4 x5.1.Places, own cd60 a3 x4.Places.length c3 x10.2, own cd60 a5 x8.Places.length c5 x8.Places, box b4 28 [iV x5.1.Events, .slice a4 x5.1.Places.length c4], box b3 28 [iV x4.Events, .slice a3 x4.Places.length c3], box b2 28 [iV x3.1.Events, .slice a2 x3.1.Places.length c2], own cd60 a2 x3.1.Places.length c2 x3.1.Places, own cd60 a1 x2.Places.length c1 x2.Places, box b1 24 [iV aG.Events, .slice aaGPlaces aG.Places.length caGPlaces]] := H34.pk [3, 0, 1, 2, 4, 5, 6, 7, 8]
     have H37 : Hold h h18 [own cd60 a4 x5.1.Places.length c4 x5.1.Places, bun [own cd60 a3 x4.Places.length c3 x10.2, own cd60 a5 x8.Places.length c5 x8.Places, box b4 28 [iV x5.1.Events, .slice a4 x5.1.Places.length c4], box b3 28 [iV x4.Events, .slice a3 x4.Places.length c3], box b2 28 [iV x3.1.Events, .slice a2 x3.1.Places.length c2], own cd60 a2 x3.1.Places.length c2 x3.1.Places, own cd60 a1 x2.Places.length c1 x2.Places, box b1 24 [iV aG.Events, .slice aaGPlaces aG.Places.length caGPlaces]]] := Hold.bundle (S := [own cd60 a4 x5.1.Places.length c4 x5.1.Places]) (R := [own cd60 a3 x4.Places.length c3 x10.2, own cd60 a5 x8.Places.length c5 x8.Places, box b4 28 [iV x5.1.Events, .slice a4 x5.1.Places.length c4], box b3 28 [iV x4.Events, .slice a3 x4.Places.length c3], box b2 28 [iV x3.1.Events, .slice a2 x3.1.Places.length c2], own cd60 a2 x3.1.Places.length c2 x3.1.Places, own cd60 a1 x2.Places.length c1 x2.Places, box b1 24 [iV aG.Events, .slice aaGPlaces aG.Places.length caGPlaces]]) H36
     refine Ze ?_
     refine ZC 11 #[.agg #[iV x5.1.Events, .slice a4 x5.1.Places.length c4], iV 1] (w_laws_markEventGraph h h18 _ x5.1 a4 c4 1 H37 _ _ hx11) (fun v7 h19 hp7 => ?_)
     obtain ⟨rfl, H38⟩ := hp7
     have H39 : Hold h h19 [own cd60 a4 x5.1.Places.length c4 x14.2, own cd60 a3 x4.Places.length c3 x10.2, own cd60 a5 x8.Places.length c5 x8.Places, box b4 28 [iV x5.1.Events, .slice a4 x5.1.Places.length c4], box b3 28 [iV x4.Events, .slice a3 x4.Places.length c3], box b2 28 [iV x3.1.Events, .slice a2 x3.1.Places.length c2], own cd60 a2 x3.1.Places.length c2 x3.1.Places, own cd60 a1 x2.Places.length c1 x2.Places, box b1 24 [iV aG.Events, .slice aaGPlaces aG.Places.length caGPlaces]] := Hold.unbundle (S := [own cd60 a4 x5.1.Places.length c4 x14.2]) (R := [own cd60 a3 x4.Places.length c3 x10.2, own cd60 a5 x8.Places.length c5 x8.Places, box b4 28 [iV x5.1.Events, .slice a4 x5.1.Places.length c4], box b3 28 [iV x4.Events, .slice a3 x4.Places.length c3], box b2 28 [iV x3.1.Events, .slice a2 x3.1.Places.length c2], own cd60 a2 x3.1.Places.length c2 x3.1.Places, own cd60 a1 x2.Places.length c1 x2.Places, box b1 24 [iV aG.Events, .slice aaGPlaces aG.Places.length caGPlaces]]) H38 (Hold.tailBase (S := [own cd60 a4 x5.1.Places.length c4 x5.1.Places]) (R := [own cd60 a3 x4.Places.length c3 x10.2, own cd60 a5 x8.Places.length c5 x8.Places, box b4 28 [iV x5.1.Events, .slice a4 x5.1.Places.length c4], box b3 28 [iV x4.Events, .slice a3 x4.Places.length c3], box b2 28 [iV x3.1.Events, .slice a2 x3.1.Places.length c2], own cd60 a2 x3.1.Places.length c2 x3.1.Places, own cd60 a1 x2.Places.length c1 x2.Places, box b1 24 [iV aG.Events, .slice aaGPlaces aG.Places.length caGPlaces]]) H36)
     refine Zr [iV x14.1] 3 ?_
     refine Zx ?_
     refine Zk [1, 4, 5, 7, 10] [(1, pV b1), (4, pV b2), (5, iV x3.2), (7, pV b4), (10, iV x14.1)] ?_
     refine Zs ?_
     refine Zq [iV 1] [1, 4, 5, 7, 10, 11] [(1, pV b1), (4, pV b2), (5, iV x3.2), (7, pV b4), (10, iV x14.1), (11, iV 1)] ?_
     refine Zs ?_
     obtain ⟨x15, hx12, hF⟩ := M.bind_some hF
     refine Run_regC (j := 4) (C := fun x => Hold h x [own cd60 a4 x5.1.Places.length c4 x14.2, own cd60 a3 x4.Places.length c3 x10.2, own cd60 a5 x8.Places.length c5 x8.Places, box b4 28 [iV x5.1.Events, .slice a4 x5.1.Places.length c4], box b3 28 [iV x4.Events, .slice a3 x4.Places.length c3], box b2 28 [iV x3.1.Events, .slice a2 x3.1.Places.length c2], own cd60 a2 x3.1.Places.length c2 x3.1.Places, own cd60 a1 x2.Places.length c1 x2.Places, box b1 24 [iV aG.Events, .slice aaGPlaces aG.Places.length caGPlaces]]) (by kernel_rfl) H39 (L' := [(1, pV b1), (4, pV b2), (5, iV x3.2), (7, pV b4), (10, iV x14.1), (11, iV x15)]) ?_ (fun h20 H40 => ?_)
     ·refine Zy (.agg #[iV x5.1.Events, .slice a4 x5.1.Places.length c4]) (Y_cls fun hx Hx => (Y_loadA (t := 28) (n := 2) (p := ⟨b4, 0, none⟩) (cs := [iV x5.1.Events, .slice a4 x5.1.Places.length c4]) (by kernel_rfl) (fun w => by kernel_rfl) (by kernel_rfl) rfl (Hx.cells (n := 2) (off := 0) 3 rfl rfl))) ?_
      refine Zb [iV 1] 1 ?_
      refine Zy (iV x15) (Y_call (f := 12) (args := #[.agg #[iV x5.1.Events, .slice a4 x5.1.Places.length c4], iV 1]) (v := iV x15) (by kernel_rfl) fun hx Hx => (Fn.arg (w_laws_heldEventGraph hx (⟨x5.1.Events, x14.2⟩ : TGraph) a4 c4 (Hx.rd 0 rfl) 1 _ _ hx12) (by simp only [(Hx.len 0 rfl)])).mono fun _ _ ⟨e, H'⟩ => ⟨e, Hx.call H' rfl⟩) ?_
      refine Zb [iV x15] 3 ?_
      exact Zd [1, 4, 5, 7, 10, 11]
     have H41 : Hold h h20 [own cd60 a4 x5.1.Places.length c4 x14.2, own cd60 a3 x4.Places.length c3 x10.2, own cd60 a5 x8.Places.length c5 x8.Places, box b4 28 [iV x5.1.Events, .slice a4 x5.1.Places.length c4], box b3 28 [iV x4.Events, .slice a3 x4.Places.length c3], box b2 28 [iV x3.1.Events, .slice a2 x3.1.Places.length c2], own cd60 a2 x3.1.Places.length c2 x3.1.Places, own cd60 a1 x2.Places.length c1 x2.Places, box b1 24 [iV aG.Events, .slice aaGPlaces aG.Places.length caGPlaces]] := H40
     refine Zs ?_
     refine Zs ?_
     refine Zq [iV x15, .bool (decide (x15 < 0))] [1, 4, 5, 7, 10, 11, 69] [(1, pV b1), (4, pV b2), (5, iV x3.2), (7, pV b4), (10, iV x14.1), (11, iV x15), (69, .bool (decide (x15 < 0)))] ?_
     refine Zc (decide (x15 < 0)) (fun hb8 => ?_) (fun hb8 => ?_)
     ·have hF := (M.ite_some hF).1 hb8
      refine Zs ?_
      refine Zq [.bool false] [2] [(2, .bool false)] ?_
      have hF := M.ret_some hF
      subst hF
      have H42 : Hold h h20 [] := H41.pk []
      exact Run_ret1 rfl (Zt (.bool false)) ⟨rfl, H42⟩
     ·have hF := (M.ite_some hF).2 hb8
      refine Run_skip ?_
      refine Zs ?_
      refine Zs ?_
      refine Zq [iV x15, iV x14.1, .bool (x15 != x14.1)] [1, 4, 5, 7, 10, 72] [(1, pV b1), (4, pV b2), (5, iV x3.2), (7, pV b4), (10, iV x14.1), (72, .bool (x15 != x14.1))] ?_
      refine Zc (x15 != x14.1) (fun hb9 => ?_) (fun hb9 => ?_)
      ·have hF := (M.ite_some hF).1 hb9
       refine Zs ?_
       refine Zq [.bool false] [2] [(2, .bool false)] ?_
       have hF := M.ret_some hF
       subst hF
       have H43 : Hold h h20 [] := H41.pk []
       exact Run_ret1 rfl (Zt (.bool false)) ⟨rfl, H43⟩
      ·have hF := (M.ite_some hF).2 hb9
       refine Run_skip ?_
       refine Zs ?_
       refine Run_ops ?_
       refine Zz (.agg #[iV aG.Events, .slice aaGPlaces aG.Places.length caGPlaces]) (Y_loadA (t := 24) (n := 2) (p := ⟨b1, 0, none⟩) (cs := [iV aG.Events, .slice aaGPlaces aG.Places.length caGPlaces]) (by kernel_rfl) (fun w => by kernel_rfl) (by kernel_rfl) rfl (H41.cells (n := 2) (off := 0) 8 rfl rfl)) ?_
       obtain ⟨x16, hx13, hF⟩ := M.bind_some hF
       refine Ze ?_
       refine ZC 8 #[.agg #[iV aG.Events, .slice aaGPlaces aG.Places.length caGPlaces]] (w_laws_toEventGraph h20 aG aaGPlaces caGPlaces (raGPlaces.at H41.ext) _ _ hx13) (fun v8 h21 hp8 => ?_)
       obtain ⟨a6, c6, rfl, H44⟩ := hp8
       have H45 : Hold h h21 [own cd60 a6 x16.Places.length c6 x16.Places, own cd60 a4 x5.1.Places.length c4 x14.2, own cd60 a3 x4.Places.length c3 x10.2, own cd60 a5 x8.Places.length c5 x8.Places, box b4 28 [iV x5.1.Events, .slice a4 x5.1.Places.length c4], box b3 28 [iV x4.Events, .slice a3 x4.Places.length c3], box b2 28 [iV x3.1.Events, .slice a2 x3.1.Places.length c2], own cd60 a2 x3.1.Places.length c2 x3.1.Places, own cd60 a1 x2.Places.length c1 x2.Places, box b1 24 [iV aG.Events, .slice aaGPlaces aG.Places.length caGPlaces]] := H41.call H44 rfl
       obtain ⟨x17, hx14, hF⟩ := M.bind_some hF
       refine Ze ?_
       refine ZC 9 #[.agg #[iV x16.Events, .slice a6 x16.Places.length c6]] (w_impl_SimplifyGraph h21 x16 a6 c6 (H45.rd 0 rfl) _ _ hx14) (fun v9 h22 hp9 => ?_)
       obtain ⟨a7, c7, rfl, H46⟩ := hp9
       have H47 : Hold h h22 [own cd60 a7 x17.1.Places.length c7 x17.1.Places, own cd60 a6 x16.Places.length c6 x16.Places, own cd60 a4 x5.1.Places.length c4 x14.2, own cd60 a3 x4.Places.length c3 x10.2, own cd60 a5 x8.Places.length c5 x8.Places, box b4 28 [iV x5.1.Events, .slice a4 x5.1.Places.length c4], box b3 28 [iV x4.Events, .slice a3 x4.Places.length c3], box b2 28 [iV x3.1.Events, .slice a2 x3.1.Places.length c2], own cd60 a2 x3.1.Places.length c2 x3.1.Places, own cd60 a1 x2.Places.length c1 x2.Places, box b1 24 [iV aG.Events, .slice aaGPlaces aG.Places.length caGPlaces]] := H45.call H46 rfl
       refine Zr [.tuple #[.agg #[iV x17.1.Events, .slice a7 x17.1.Places.length c7], iV x17.2], .agg #[iV x17.1.Events, .slice a7 x17.1.Places.length c7], iV x17.2] 3 ?_
       refine Ze ?_
       refine E_box (ty := 28) (cs := [iV 0, .slice none 0 0]) H47 (fun w => by kernel_rfl) (fun b5 h23 H48 => ?_)
       refine Ze ?_
       refine ZP 28 0 [iV x17.1.Events, .slice a7 x17.1.Places.length c7] (.agg #[iV x17.1.Events, .slice a7 x17.1.Places.length c7]) H48 (fun h24 H49 => ?_)
       refine Zr [iV x17.2] 8 ?_
       refine Zx ?_
       refine Zk [4, 5, 7, 10, 12, 13] [(4, pV b2), (5, iV x3.2), (7, pV b4), (10, iV x14.1), (12, pV b5), (13, iV x17.2)] ?_
       refine Zs ?_
       refine Zs ?_
       obtain ⟨x18, hx15, hF⟩ := M.bind_some hF
       refine Run_regC (j := 9) (C := fun x => Hold h x [box b5 28 [iV x17.1.Events, .slice a7 x17.1.Places.length c7], own cd60 a7 x17.1.Places.length c7 x17.1.Places, own cd60 a6 x16.Places.length c6 x16.Places, own cd60 a4 x5.1.Places.length c4 x14.2, own cd60 a3 x4.Places.length c3 x10.2, own cd60 a5 x8.Places.length c5 x8.Places, box b4 28 [iV x5.1.Events, .slice a4 x5.1.Places.length c4], box b3 28 [iV x4.Events, .slice a3 x4.Places.length c3], box b2 28 [iV x3.1.Events, .slice a2 x3.1.Places.length c2], own cd60 a2 x3.1.Places.length c2 x3.1.Places, own cd60 a1 x2.Places.length c1 x2.Places, box b1 24 [iV aG.Events, .slice aaGPlaces aG.Places.length caGPlaces]]) (by kernel_rfl) H49 (L' := [(7, pV b4), (10, iV x14.1), (87, .bool ((!x18) || (x17.2 != x3.2)))]) ?_ (fun h25 H50 => ?_)
       ·refine Zy (.agg #[iV x17.1.Events, .slice a7 x17.1.Places.length c7]) (Y_cls fun hx Hx => (Y_loadA (t := 28) (n := 2) (p := ⟨b5, 0, none⟩) (cs := [iV x17.1.Events, .slice a7 x17.1.Places.length c7]) (by kernel_rfl) (fun w => by kernel_rfl) (by kernel_rfl) rfl (Hx.cells (n := 2) (off := 0) 0 rfl rfl))) ?_
        refine Zy (.agg #[iV x3.1.Events, .slice a2 x3.1.Places.length c2]) (Y_cls fun hx Hx => (Y_loadA (t := 28) (n := 2) (p := ⟨b2, 0, none⟩) (cs := [iV x3.1.Events, .slice a2 x3.1.Places.length c2]) (by kernel_rfl) (fun w => by kernel_rfl) (by kernel_rfl) rfl (Hx.cells (n := 2) (off := 0) 8 rfl rfl))) ?_
        refine Zy (.bool x18) (Y_call (f := 10) (args := #[.agg #[iV x17.1.Events, .slice a7 x17.1.Places.length c7], .agg #[iV x3.1.Events, .slice a2 x3.1.Places.length c2]]) (v := .bool x18) (by kernel_rfl) fun hx Hx => (w_laws_eqEventGraph hx x17.1 a7 c7 (Hx.rd 1 rfl) x3.1 a2 c2 (Hx.rd 9 rfl) _ _ hx15).mono fun _ _ ⟨e, H'⟩ => ⟨e, Hx.call H' rfl⟩) ?_
        refine Zb [.bool (!x18)] 3 ?_
        refine QRun_seq 9 [(7, pV b4), (10, iV x14.1), (87, .bool ((!x18) || (x17.2 != x3.2)))] ?_ ?_
        ·rcases Bool.eq_false_or_eq_true (!x18) with hb10 | hb10
         ·refine Zv (!x18) true hb10 ?_
          refine Zn ?_
          refine Zn ?_
          refine Zn ?_
          refine QRun_bool true ((!x18) || (x17.2 != x3.2)) (by kernel_rfl) (fun w => by kernel_rfl) (by rw [hb10]; rfl) ?_
          exact Zd [7, 10, 87]
         ·refine Zv (!x18) false hb10 ?_
          refine Zb [iV x17.2, iV x3.2, .bool (x17.2 != x3.2)] 5 ?_
          refine QRun_bool (x17.2 != x3.2) ((!x18) || (x17.2 != x3.2)) (by kernel_rfl) (fun w => by kernel_rfl) (by rw [hb10]; rfl) ?_
          exact Zd [7, 10, 87]
        exact Zd [7, 10, 87]
       have H51 : Hold h h25 [box b5 28 [iV x17.1.Events, .slice a7 x17.1.Places.length c7], own cd60 a7 x17.1.Places.length c7 x17.1.Places, own cd60 a6 x16.Places.length c6 x16.Places, own cd60 a4 x5.1.Places.length c4 x14.2, own cd60 a3 x4.Places.length c3 x10.2, own cd60 a5 x8.Places.length c5 x8.Places, box b4 28 [iV x5.1.Events, .slice a4 x5.1.Places.length c4], box b3 28 [iV x4.Events, .slice a3 x4.Places.length c3], box b2 28 [iV x3.1.Events, .slice a2 x3.1.Places.length c2], own cd60 a2 x3.1.Places.length c2 x3.1.Places, own cd60 a1 x2.Places.length c1 x2.Places, box b1 24 [iV aG.Events, .slice aaGPlaces aG.Places.length caGPlaces]] := H50
       refine Zc ((!x18) || (x17.2 != x3.2)) (fun hb11 => ?_) (fun hb11 => ?_)
       ·have hF := (M.ite_some hF).1 hb11
        refine Zs ?_
        refine Zq [.bool false] [2] [(2, .bool false)] ?_
        have hF := M.ret_some hF
        subst hF
        have H52 : Hold h h25 [] := H51.pk []
        exact Run_ret1 rfl (Zt (.bool false)) ⟨rfl, H52⟩
       ·have hF := (M.ite_some hF).2 hb11
        refine Run_skip ?_
        refine Zs ?_
        refine Zq [iV 1] [7, 10, 11] [(7, pV b4), (10, iV x14.1), (11, iV 1)] ?_
        refine Zs ?_
        obtain ⟨x20, hx16, hF⟩ := M.bind_some hF
        refine Run_regC (j := 4) (C := fun x => Hold h x [box b5 28 [iV x17.1.Events, .slice a7 x17.1.Places.length c7], own cd60 a7 x17.1.Places.length c7 x17.1.Places, own cd60 a6 x16.Places.length c6 x16.Places, own cd60 a4 x5.1.Places.length c4 x14.2, own cd60 a3 x4.Places.length c3 x10.2, own cd60 a5 x8.Places.length c5 x8.Places, box b4 28 [iV x5.1.Events, .slice a4 x5.1.Places.length c4], box b3 28 [iV x4.Events, .slice a3 x4.Places.length c3], box b2 28 [iV x3.1.Events, .slice a2 x3.1.Places.length c2], own cd60 a2 x3.1.Places.length c2 x3.1.Places, own cd60 a1 x2.Places.length c1 x2.Places, box b1 24 [iV aG.Events, .slice aaGPlaces aG.Places.length caGPlaces]]) (by kernel_rfl) H51 (L' := [(10, iV x14.1), (11, iV x20)]) ?_ (fun h26 H53 => ?_)
        ·refine Zy (.agg #[iV x5.1.Events, .slice a4 x5.1.Places.length c4]) (Y_cls fun hx Hx => (Y_loadA (t := 28) (n := 2) (p := ⟨b4, 0, none⟩) (cs := [iV x5.1.Events, .slice a4 x5.1.Places.length c4]) (by kernel_rfl) (fun w => by kernel_rfl) (by kernel_rfl) rfl (Hx.cells (n := 2) (off := 0) 6 rfl rfl))) ?_
         refine Zb [iV 1] 1 ?_
         refine Zy (iV x20) (Y_call (f := 12) (args := #[.agg #[iV x5.1.Events, .slice a4 x5.1.Places.length c4], iV 1]) (v := iV x20) (by kernel_rfl) fun hx Hx => (Fn.arg (w_laws_heldEventGraph hx (⟨x5.1.Events, x14.2⟩ : TGraph) a4 c4 (Hx.rd 3 rfl) 1 _ _ hx16) (by simp only [(Hx.len 3 rfl)])).mono fun _ _ ⟨e, H'⟩ => ⟨e, Hx.call H' rfl⟩) ?_
         refine Zb [iV x20] 3 ?_
         exact Zd [10, 11]
        have H54 : Hold h h26 [box b5 28 [iV x17.1.Events, .slice a7 x17.1.Places.length c7], own cd60 a7 x17.1.Places.length c7 x17.1.Places, own cd60 a6 x16.Places.length c6 x16.Places, own cd60 a4 x5.1.Places.length c4 x14.2, own cd60 a3 x4.Places.length c3 x10.2, own cd60 a5 x8.Places.length c5 x8.Places, box b4 28 [iV x5.1.Events, .slice a4 x5.1.Places.length c4], box b3 28 [iV x4.Events, .slice a3 x4.Places.length c3], box b2 28 [iV x3.1.Events, .slice a2 x3.1.Places.length c2], own cd60 a2 x3.1.Places.length c2 x3.1.Places, own cd60 a1 x2.Places.length c1 x2.Places, box b1 24 [iV aG.Events, .slice aaGPlaces aG.Places.length caGPlaces]] := H53
        refine Zs ?_
        refine Zs ?_
        refine Zq [iV x20, .bool (decide (x20 < 0))] [10, 11, 92] [(10, iV x14.1), (11, iV x20), (92, .bool (decide (x20 < 0)))] ?_
        refine Zc (decide (x20 < 0)) (fun hb12 => ?_) (fun hb12 => ?_)
        ·have hF := (M.ite_some hF).1 hb12
         refine Zs ?_
         refine Zq [.bool false] [2] [(2, .bool false)] ?_
         have hF := M.ret_some hF
         subst hF
         have H55 : Hold h h26 [] := H54.pk []
         exact Run_ret1 rfl (Zt (.bool false)) ⟨rfl, H55⟩
        ·have hF := (M.ite_some hF).2 hb12
         refine Run_skip ?_
         refine Zs ?_
         refine Zs ?_
         refine Zq [iV x20, iV x14.1, .bool (x20 != x14.1)] [95] [(95, .bool (x20 != x14.1))] ?_
         refine Zc (x20 != x14.1) (fun hb13 => ?_) (fun hb13 => ?_)
         ·have hF := (M.ite_some hF).1 hb13
          refine Zs ?_
          refine Zq [.bool false] [2] [(2, .bool false)] ?_
          have hF := M.ret_some hF
          subst hF
          have H56 : Hold h h26 [] := H54.pk []
          exact Run_ret1 rfl (Zt (.bool false)) ⟨rfl, H56⟩
         ·have hF := (M.ite_some hF).2 hb13
          refine Run_skip ?_
          refine Zs ?_
          refine Zq [.bool true] [2] [(2, .bool true)] ?_
          have hF := M.ret_some hF
          subst hF
          have H57 : Hold h h26 [] := H54.pk []
          exact Run_ret1 rfl (Zt (.bool true)) ⟨rfl, H57⟩

end Go.Proofs.Ytelopfgolahlpaa
