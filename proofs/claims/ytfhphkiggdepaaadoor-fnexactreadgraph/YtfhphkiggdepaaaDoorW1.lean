/-
  Walks: each Go function, called with what reads as plain data, returns what its plain program computes.
  Conditions: None beyond the given statement.
-/
import Derived.Test.YtfhphkiggdepaaaDoorW0
namespace Go.Proofs.YtfhphkiggdepaaaDoor
open Go
attribute [local irreducible] setL setB opA fineI idleI fineB evB okB markB markBs readyB readyBs chainB lk rho pickL dropSlot tailOK
set_option maxRecDepth 100000
set_option maxHeartbeats 4000000
theorem w_laws_FnExactReadGraph (h : Heap) (gl : Gl Tryd.prog h) (tb : Tab Tryd.prog h) (aS : ByteArray) (n : Nat) (r : Bool) (hF : laws_FnExactReadGraph aS n = some r) :
  Fn Tryd.prog 4 #[.string aS] h fun v h' => v = .bool r ∧ Hold h h' [] := by
 unfold laws_FnExactReadGraph at hF
 refine Zo [.string aS] Tryd.func4 rfl (fun w0 _ => ?_)
 have H0 := Hold.init h
 refine Zs ?_
 refine Zq [.bool false] [0] [(0, .string aS)] ?_
 refine Zs ?_
 refine Zs ?_
 refine Zq [.string aS, iV (aS.size : Int), .bool (decide (1048576 < (aS.size : Int)))] [0, 13] [(0, .string aS), (13, .bool (decide (1048576 < (aS.size : Int))))] ?_
 refine Zc (decide (1048576 < (aS.size : Int))) (fun hb1 => ?_) (fun hb1 => ?_)
 ·have hF := (M.ite_some hF).1 hb1
  refine Zs ?_
  refine Zq [.bool true] [2] [(2, .bool true)] ?_
  have hF := M.ret_some hF
  subst hF
  exact Run_ret1 rfl (Zt (.bool true)) ⟨rfl, H0⟩
 ·have hF := (M.ite_some hF).2 hb1
  refine Run_skip ?_
  refine Zs ?_
  refine Run_ops ?_
  refine Zr [.string aS] 0 ?_
  obtain ⟨x1, hx1, hF⟩ := M.bind_some hF
  refine Ze ?_
  refine ZC 12 #[.string aS] (w_spec_ReadGraph h aS _ _ hx1) (fun v1 h1 hp1 => ?_)
  obtain ⟨a1, c1, rfl, H1⟩ := hp1
  have H2 : Hold h h1 [own cd28 a1 x1.1.Places.length c1 x1.1.Places] := H0.call H1 rfl
  refine Zr [.tuple #[.agg #[iV x1.1.Events, .slice a1 x1.1.Places.length c1], .bool x1.2], .agg #[iV x1.1.Events, .slice a1 x1.1.Places.length c1], .bool x1.2] 2 ?_
  refine Ze ?_
  refine E_box (ty := 26) (cs := [iV 0, .slice none 0 0]) H2 (fun w => by kernel_rfl) (fun b1 h2 H3 => ?_)
  refine Ze ?_
  refine ZP 26 0 [iV x1.1.Events, .slice a1 x1.1.Places.length c1] (.agg #[iV x1.1.Events, .slice a1 x1.1.Places.length c1]) H3 (fun h3 H4 => ?_)
  refine Zr [.bool x1.2] 7 ?_
  refine Zx ?_
  refine Zk [0, 3, 4] [(0, .string aS), (3, pV b1), (4, .bool x1.2)] ?_
  refine Zs ?_
  refine Run_ops ?_
  refine Zr [.string aS] 0 ?_
  obtain ⟨x2, hx2, hF⟩ := M.bind_some hF
  refine Ze ?_
  refine ZC 10 #[.string aS] (w_impl_ReadGraph h3 (gl.at H4.ext) (tb.at H4.ext) aS _ _ hx2) (fun v2 h4 hp2 => ?_)
  obtain ⟨a2, c2, rfl, H5⟩ := hp2
  have H6 : Hold h h4 [own cd28 a2 x2.1.Places.length c2 x2.1.Places, box b1 26 [iV x1.1.Events, .slice a1 x1.1.Places.length c1], own cd28 a1 x1.1.Places.length c1 x1.1.Places] := H4.call H5 rfl
  refine Zr [.tuple #[.agg #[iV x2.1.Events, .slice a2 x2.1.Places.length c2], .bool x2.2], .agg #[iV x2.1.Events, .slice a2 x2.1.Places.length c2], .bool x2.2] 2 ?_
  refine Ze ?_
  refine E_box (ty := 26) (cs := [iV 0, .slice none 0 0]) H6 (fun w => by kernel_rfl) (fun b2 h5 H7 => ?_)
  refine Ze ?_
  refine ZP 26 0 [iV x2.1.Events, .slice a2 x2.1.Places.length c2] (.agg #[iV x2.1.Events, .slice a2 x2.1.Places.length c2]) H7 (fun h6 H8 => ?_)
  refine Zr [.bool x2.2] 7 ?_
  refine Zx ?_
  refine Zk [0, 3, 4, 5, 6] [(0, .string aS), (3, pV b1), (4, .bool x1.2), (5, pV b2), (6, .bool x2.2)] ?_
  refine Zs ?_
  refine Zs ?_
  obtain ⟨x3, hx3, hF⟩ := M.bind_some hF
  refine Run_regC (j := 9) (C := fun x => Hold h x [box b2 26 [iV x2.1.Events, .slice a2 x2.1.Places.length c2], own cd28 a2 x2.1.Places.length c2 x2.1.Places, box b1 26 [iV x1.1.Events, .slice a1 x1.1.Places.length c1], own cd28 a1 x1.1.Places.length c1 x1.1.Places]) (by kernel_rfl) H8 (L' := [(0, .string aS), (3, pV b1), (4, .bool x1.2), (5, pV b2), (32, .bool ((!x3) || (!(x2.2 == x1.2))))]) ?_ (fun h7 H9 => ?_)
  ·refine Zy (.agg #[iV x2.1.Events, .slice a2 x2.1.Places.length c2]) (Y_cls fun hx Hx => (Y_loadA (t := 26) (n := 2) (p := ⟨b2, 0, none⟩) (cs := [iV x2.1.Events, .slice a2 x2.1.Places.length c2]) (by kernel_rfl) (fun w => by kernel_rfl) (by kernel_rfl) rfl (Hx.cells (n := 2) (off := 0) 0 rfl rfl))) ?_
   refine Zy (.agg #[iV x1.1.Events, .slice a1 x1.1.Places.length c1]) (Y_cls fun hx Hx => (Y_loadA (t := 26) (n := 2) (p := ⟨b1, 0, none⟩) (cs := [iV x1.1.Events, .slice a1 x1.1.Places.length c1]) (by kernel_rfl) (fun w => by kernel_rfl) (by kernel_rfl) rfl (Hx.cells (n := 2) (off := 0) 2 rfl rfl))) ?_
   refine Zy (.bool x3) (Y_call (f := 17) (args := #[.agg #[iV x2.1.Events, .slice a2 x2.1.Places.length c2], .agg #[iV x1.1.Events, .slice a1 x1.1.Places.length c1]]) (v := .bool x3) (by kernel_rfl) fun hx Hx => (w_laws_eqEventGraph hx x2.1 a2 c2 (Hx.rd 1 rfl) x1.1 a1 c1 (Hx.rd 3 rfl) _ _ hx3).mono fun _ _ ⟨e, H'⟩ => ⟨e, Hx.call H' rfl⟩) ?_
   refine Zb [.bool (!x3)] 3 ?_
   refine QRun_seq 9 [(0, .string aS), (3, pV b1), (4, .bool x1.2), (5, pV b2), (32, .bool ((!x3) || (!(x2.2 == x1.2))))] ?_ ?_
   ·rcases Bool.eq_false_or_eq_true (!x3) with hb2 | hb2
    ·refine Zv (!x3) true hb2 ?_
     refine Zn ?_
     refine Zn ?_
     refine Zn ?_
     refine QRun_bool true ((!x3) || (!(x2.2 == x1.2))) (by kernel_rfl) (fun w => by kernel_rfl) (by rw [hb2]; rfl) ?_
     exact Zd [0, 3, 4, 5, 32]
    ·refine Zv (!x3) false hb2 ?_
     refine Zb [.bool x2.2, .bool x1.2, .bool (!(x2.2 == x1.2))] 5 ?_
     refine QRun_bool (!(x2.2 == x1.2)) ((!x3) || (!(x2.2 == x1.2))) (by kernel_rfl) (fun w => by kernel_rfl) (by rw [hb2]; rfl) ?_
     exact Zd [0, 3, 4, 5, 32]
   exact Zd [0, 3, 4, 5, 32]
  have H10 := H9
  refine Zc ((!x3) || (!(x2.2 == x1.2))) (fun hb3 => ?_) (fun hb3 => ?_)
  ·have hF := (M.ite_some hF).1 hb3
   refine Zs ?_
   refine Zq [.bool false] [2] [(2, .bool false)] ?_
   have hF := M.ret_some hF
   subst hF
   have H11 : Hold h h7 [] := H10.pk []
   exact Run_ret1 rfl (Zt (.bool false)) ⟨rfl, H11⟩
  ·have hF := (M.ite_some hF).2 hb3
   refine Run_skip ?_
   refine Zs ?_
   refine Zq [iV 1] [0, 3, 4, 5, 7] [(0, .string aS), (3, pV b1), (4, .bool x1.2), (5, pV b2), (7, iV 1)] ?_
   refine Zs ?_
   refine Run_ops ?_
   refine Zz (.agg #[iV x2.1.Events, .slice a2 x2.1.Places.length c2]) (Y_loadA (t := 26) (n := 2) (p := ⟨b2, 0, none⟩) (cs := [iV x2.1.Events, .slice a2 x2.1.Places.length c2]) (by kernel_rfl) (fun w => by kernel_rfl) (by kernel_rfl) rfl (H10.cells (n := 2) (off := 0) 0 rfl rfl)) ?_
   refine Zr [iV 1] 1 ?_
   obtain ⟨x5, hx4, hF⟩ := M.bind_some hF
   have H12 : Hold h h7 [own cd28 a2 x2.1.Places.length c2 x2.1.Places, box b2 26 [iV x2.1.Events, .slice a2 x2.1.Places.length c2], box b1 26 [iV x1.1.Events, .slice a1 x1.1.Places.length c1], own cd28 a1 x1.1.Places.length c1 x1.1.Places] := H10.pk [1, 0, 2, 3]
   have H13 : Hold h h7 [own cd28 a2 x2.1.Places.length c2 x2.1.Places, bun [box b2 26 [iV x2.1.Events, .slice a2 x2.1.Places.length c2], box b1 26 [iV x1.1.Events, .slice a1 x1.1.Places.length c1], own cd28 a1 x1.1.Places.length c1 x1.1.Places]] := H12.bd 1
   refine Ze ?_
   refine ZC 18 #[.agg #[iV x2.1.Events, .slice a2 x2.1.Places.length c2], iV 1] (w_laws_markEventGraph h h7 _ x2.1 a2 c2 1 H13 _ _ hx4) (fun v3 h8 hp3 => ?_)
   obtain ⟨rfl, H14⟩ := hp3
   have H15 : Hold h h8 [own cd28 a2 x2.1.Places.length c2 x5.2, box b2 26 [iV x2.1.Events, .slice a2 x2.1.Places.length c2], box b1 26 [iV x1.1.Events, .slice a1 x1.1.Places.length c1], own cd28 a1 x1.1.Places.length c1 x1.1.Places] := H14.ub (js := _) 1 1 H12
   refine Zr [iV x5.1] 3 ?_
   refine Zx ?_
   refine Zk [0, 3, 4, 5, 7] [(0, .string aS), (3, pV b1), (4, .bool x1.2), (5, pV b2), (7, iV x5.1)] ?_
   refine Zs ?_
   refine Zq [iV 1] [0, 3, 4, 5, 7, 8] [(0, .string aS), (3, pV b1), (4, .bool x1.2), (5, pV b2), (7, iV x5.1), (8, iV 1)] ?_
   refine Zs ?_
   obtain ⟨x6, hx5, hF⟩ := M.bind_some hF
   refine Run_regC (j := 4) (C := fun x => Hold h x [own cd28 a2 x2.1.Places.length c2 x5.2, box b2 26 [iV x2.1.Events, .slice a2 x2.1.Places.length c2], box b1 26 [iV x1.1.Events, .slice a1 x1.1.Places.length c1], own cd28 a1 x1.1.Places.length c1 x1.1.Places]) (by kernel_rfl) H15 (L' := [(0, .string aS), (3, pV b1), (4, .bool x1.2), (5, pV b2), (7, iV x5.1), (8, iV x6)]) ?_ (fun h9 H16 => ?_)
   ·refine Zy (.agg #[iV x2.1.Events, .slice a2 x2.1.Places.length c2]) (Y_cls fun hx Hx => (Y_loadA (t := 26) (n := 2) (p := ⟨b2, 0, none⟩) (cs := [iV x2.1.Events, .slice a2 x2.1.Places.length c2]) (by kernel_rfl) (fun w => by kernel_rfl) (by kernel_rfl) rfl (Hx.cells (n := 2) (off := 0) 1 rfl rfl))) ?_
    refine Zb [iV 1] 1 ?_
    refine Zy (iV x6) (Y_call (f := 19) (args := #[.agg #[iV x2.1.Events, .slice a2 x2.1.Places.length c2], iV 1]) (v := iV x6) (by kernel_rfl) fun hx Hx => (Fn.arg (w_laws_heldEventGraph hx (⟨x2.1.Events, x5.2⟩ : TGraph) a2 c2 (Hx.rd 0 rfl) 1 _ _ hx5) (by simp only [(Hx.len 0 rfl)])).mono fun _ _ ⟨e, H'⟩ => ⟨e, Hx.call H' rfl⟩) ?_
    refine Zb [iV x6] 3 ?_
    exact Zd [0, 3, 4, 5, 7, 8]
   have H17 := H16
   refine Zs ?_
   refine Zs ?_
   refine Zq [iV x6, .bool (decide (x6 < 0))] [0, 3, 4, 5, 7, 8, 40] [(0, .string aS), (3, pV b1), (4, .bool x1.2), (5, pV b2), (7, iV x5.1), (8, iV x6), (40, .bool (decide (x6 < 0)))] ?_
   refine Zc (decide (x6 < 0)) (fun hb4 => ?_) (fun hb4 => ?_)
   ·have hF := (M.ite_some hF).1 hb4
    refine Zs ?_
    refine Zq [.bool false] [2] [(2, .bool false)] ?_
    have hF := M.ret_some hF
    subst hF
    have H18 : Hold h h9 [] := H17.pk []
    exact Run_ret1 rfl (Zt (.bool false)) ⟨rfl, H18⟩
   ·have hF := (M.ite_some hF).2 hb4
    refine Run_skip ?_
    refine Zs ?_
    refine Zs ?_
    refine Zq [iV x6, iV x5.1, .bool (x6 != x5.1)] [0, 3, 4, 5, 7, 43] [(0, .string aS), (3, pV b1), (4, .bool x1.2), (5, pV b2), (7, iV x5.1), (43, .bool (x6 != x5.1))] ?_
    refine Zc (x6 != x5.1) (fun hb5 => ?_) (fun hb5 => ?_)
    ·have hF := (M.ite_some hF).1 hb5
     refine Zs ?_
     refine Zq [.bool false] [2] [(2, .bool false)] ?_
     have hF := M.ret_some hF
     subst hF
     have H19 : Hold h h9 [] := H17.pk []
     exact Run_ret1 rfl (Zt (.bool false)) ⟨rfl, H19⟩
    ·have hF := (M.ite_some hF).2 hb5
     refine Run_skip ?_
     refine Zs ?_
     refine Run_ops ?_
     refine Zr [.string aS] 0 ?_
     obtain ⟨x7, hx6, hF⟩ := M.bind_some hF
     refine Ze ?_
     refine ZC 10 #[.string aS] (w_impl_ReadGraph h9 (gl.at H17.ext) (tb.at H17.ext) aS _ _ hx6) (fun v4 h10 hp4 => ?_)
     obtain ⟨a3, c3, rfl, H20⟩ := hp4
     have H21 : Hold h h10 [own cd28 a3 x7.1.Places.length c3 x7.1.Places, own cd28 a2 x2.1.Places.length c2 x5.2, box b2 26 [iV x2.1.Events, .slice a2 x2.1.Places.length c2], box b1 26 [iV x1.1.Events, .slice a1 x1.1.Places.length c1], own cd28 a1 x1.1.Places.length c1 x1.1.Places] := H17.call H20 rfl
     refine Zr [.tuple #[.agg #[iV x7.1.Events, .slice a3 x7.1.Places.length c3], .bool x7.2], .agg #[iV x7.1.Events, .slice a3 x7.1.Places.length c3], .bool x7.2] 2 ?_
     refine Ze ?_
     refine E_box (ty := 26) (cs := [iV 0, .slice none 0 0]) H21 (fun w => by kernel_rfl) (fun b3 h11 H22 => ?_)
     refine Ze ?_
     refine ZP 26 0 [iV x7.1.Events, .slice a3 x7.1.Places.length c3] (.agg #[iV x7.1.Events, .slice a3 x7.1.Places.length c3]) H22 (fun h12 H23 => ?_)
     refine Zr [.bool x7.2] 7 ?_
     refine Zx ?_
     refine Zk [3, 4, 5, 7, 9, 10] [(3, pV b1), (4, .bool x1.2), (5, pV b2), (7, iV x5.1), (9, pV b3), (10, .bool x7.2)] ?_
     refine Zs ?_
     refine Zs ?_
     obtain ⟨x8, hx7, hF⟩ := M.bind_some hF
     refine Run_regC (j := 9) (C := fun x => Hold h x [box b3 26 [iV x7.1.Events, .slice a3 x7.1.Places.length c3], own cd28 a3 x7.1.Places.length c3 x7.1.Places, own cd28 a2 x2.1.Places.length c2 x5.2, box b2 26 [iV x2.1.Events, .slice a2 x2.1.Places.length c2], box b1 26 [iV x1.1.Events, .slice a1 x1.1.Places.length c1], own cd28 a1 x1.1.Places.length c1 x1.1.Places]) (by kernel_rfl) H23 (L' := [(5, pV b2), (7, iV x5.1), (57, .bool ((!x8) || (!(x7.2 == x1.2))))]) ?_ (fun h13 H24 => ?_)
     ·refine Zy (.agg #[iV x7.1.Events, .slice a3 x7.1.Places.length c3]) (Y_cls fun hx Hx => (Y_loadA (t := 26) (n := 2) (p := ⟨b3, 0, none⟩) (cs := [iV x7.1.Events, .slice a3 x7.1.Places.length c3]) (by kernel_rfl) (fun w => by kernel_rfl) (by kernel_rfl) rfl (Hx.cells (n := 2) (off := 0) 0 rfl rfl))) ?_
      refine Zy (.agg #[iV x1.1.Events, .slice a1 x1.1.Places.length c1]) (Y_cls fun hx Hx => (Y_loadA (t := 26) (n := 2) (p := ⟨b1, 0, none⟩) (cs := [iV x1.1.Events, .slice a1 x1.1.Places.length c1]) (by kernel_rfl) (fun w => by kernel_rfl) (by kernel_rfl) rfl (Hx.cells (n := 2) (off := 0) 4 rfl rfl))) ?_
      refine Zy (.bool x8) (Y_call (f := 17) (args := #[.agg #[iV x7.1.Events, .slice a3 x7.1.Places.length c3], .agg #[iV x1.1.Events, .slice a1 x1.1.Places.length c1]]) (v := .bool x8) (by kernel_rfl) fun hx Hx => (w_laws_eqEventGraph hx x7.1 a3 c3 (Hx.rd 1 rfl) x1.1 a1 c1 (Hx.rd 5 rfl) _ _ hx7).mono fun _ _ ⟨e, H'⟩ => ⟨e, Hx.call H' rfl⟩) ?_
      refine Zb [.bool (!x8)] 3 ?_
      refine QRun_seq 9 [(5, pV b2), (7, iV x5.1), (57, .bool ((!x8) || (!(x7.2 == x1.2))))] ?_ ?_
      ·rcases Bool.eq_false_or_eq_true (!x8) with hb6 | hb6
       ·refine Zv (!x8) true hb6 ?_
        refine Zn ?_
        refine Zn ?_
        refine Zn ?_
        refine QRun_bool true ((!x8) || (!(x7.2 == x1.2))) (by kernel_rfl) (fun w => by kernel_rfl) (by rw [hb6]; rfl) ?_
        exact Zd [5, 7, 57]
       ·refine Zv (!x8) false hb6 ?_
        refine Zb [.bool x7.2, .bool x1.2, .bool (!(x7.2 == x1.2))] 5 ?_
        refine QRun_bool (!(x7.2 == x1.2)) ((!x8) || (!(x7.2 == x1.2))) (by kernel_rfl) (fun w => by kernel_rfl) (by rw [hb6]; rfl) ?_
        exact Zd [5, 7, 57]
      exact Zd [5, 7, 57]
     have H25 := H24
     refine Zc ((!x8) || (!(x7.2 == x1.2))) (fun hb7 => ?_) (fun hb7 => ?_)
     ·have hF := (M.ite_some hF).1 hb7
      refine Zs ?_
      refine Zq [.bool false] [2] [(2, .bool false)] ?_
      have hF := M.ret_some hF
      subst hF
      have H26 : Hold h h13 [] := H25.pk []
      exact Run_ret1 rfl (Zt (.bool false)) ⟨rfl, H26⟩
     ·have hF := (M.ite_some hF).2 hb7
      refine Run_skip ?_
      refine Zs ?_
      refine Zq [iV 1] [5, 7, 8] [(5, pV b2), (7, iV x5.1), (8, iV 1)] ?_
      refine Zs ?_
      obtain ⟨x10, hx8, hF⟩ := M.bind_some hF
      refine Run_regC (j := 4) (C := fun x => Hold h x [box b3 26 [iV x7.1.Events, .slice a3 x7.1.Places.length c3], own cd28 a3 x7.1.Places.length c3 x7.1.Places, own cd28 a2 x2.1.Places.length c2 x5.2, box b2 26 [iV x2.1.Events, .slice a2 x2.1.Places.length c2], box b1 26 [iV x1.1.Events, .slice a1 x1.1.Places.length c1], own cd28 a1 x1.1.Places.length c1 x1.1.Places]) (by kernel_rfl) H25 (L' := [(7, iV x5.1), (8, iV x10)]) ?_ (fun h14 H27 => ?_)
      ·refine Zy (.agg #[iV x2.1.Events, .slice a2 x2.1.Places.length c2]) (Y_cls fun hx Hx => (Y_loadA (t := 26) (n := 2) (p := ⟨b2, 0, none⟩) (cs := [iV x2.1.Events, .slice a2 x2.1.Places.length c2]) (by kernel_rfl) (fun w => by kernel_rfl) (by kernel_rfl) rfl (Hx.cells (n := 2) (off := 0) 3 rfl rfl))) ?_
       refine Zb [iV 1] 1 ?_
       refine Zy (iV x10) (Y_call (f := 19) (args := #[.agg #[iV x2.1.Events, .slice a2 x2.1.Places.length c2], iV 1]) (v := iV x10) (by kernel_rfl) fun hx Hx => (Fn.arg (w_laws_heldEventGraph hx (⟨x2.1.Events, x5.2⟩ : TGraph) a2 c2 (Hx.rd 2 rfl) 1 _ _ hx8) (by simp only [(Hx.len 2 rfl)])).mono fun _ _ ⟨e, H'⟩ => ⟨e, Hx.call H' rfl⟩) ?_
       refine Zb [iV x10] 3 ?_
       exact Zd [7, 8]
      have H28 := H27
      refine Zs ?_
      refine Zs ?_
      refine Zq [iV x10, .bool (decide (x10 < 0))] [7, 8, 62] [(7, iV x5.1), (8, iV x10), (62, .bool (decide (x10 < 0)))] ?_
      refine Zc (decide (x10 < 0)) (fun hb8 => ?_) (fun hb8 => ?_)
      ·have hF := (M.ite_some hF).1 hb8
       refine Zs ?_
       refine Zq [.bool false] [2] [(2, .bool false)] ?_
       have hF := M.ret_some hF
       subst hF
       have H29 : Hold h h14 [] := H28.pk []
       exact Run_ret1 rfl (Zt (.bool false)) ⟨rfl, H29⟩
      ·have hF := (M.ite_some hF).2 hb8
       refine Run_skip ?_
       refine Zs ?_
       refine Zs ?_
       refine Zq [iV x10, iV x5.1, .bool (x10 != x5.1)] [65] [(65, .bool (x10 != x5.1))] ?_
       refine Zc (x10 != x5.1) (fun hb9 => ?_) (fun hb9 => ?_)
       ·have hF := (M.ite_some hF).1 hb9
        refine Zs ?_
        refine Zq [.bool false] [2] [(2, .bool false)] ?_
        have hF := M.ret_some hF
        subst hF
        have H30 : Hold h h14 [] := H28.pk []
        exact Run_ret1 rfl (Zt (.bool false)) ⟨rfl, H30⟩
       ·have hF := (M.ite_some hF).2 hb9
        refine Run_skip ?_
        refine Zs ?_
        refine Zq [.bool true] [2] [(2, .bool true)] ?_
        have hF := M.ret_some hF
        subst hF
        have H31 : Hold h h14 [] := H28.pk []
        exact Run_ret1 rfl (Zt (.bool true)) ⟨rfl, H31⟩

end Go.Proofs.YtfhphkiggdepaaaDoor
