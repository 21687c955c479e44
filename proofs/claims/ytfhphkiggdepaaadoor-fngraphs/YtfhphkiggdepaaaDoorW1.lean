/-
  Walks: each Go function, called with what reads as plain data, returns what its plain program computes.
  Conditions: None beyond the given statement.
-/
import Derived.Test.YtfhphkiggdepaaaDoorW0
namespace Go.Proofs.YtfhphkiggdepaaaDoor
open Go
attribute [local irreducible] setL setB opA fineI idleI fineB evB okB markB markBs readyB readyBs chainB lk rho pickL dropSlot tailOK
set_option maxRecDepth 100000
set_option maxHeartbeats 4000000
theorem w_spec_DrawAddPlace (h : Heap) (code : List Int) (acode : Option Addr) (ccode : Nat) (rcode : Rd cd5 h (Lt h) acode ccode code) (n : Nat) (r : TGraph × TPlace) (hF : spec_DrawAddPlace code n = some r) :
  Fn Tryd.prog 6 #[.slice acode code.length ccode] h fun v h' => ∃ (a0 : Option Addr) (c0 : Nat), v = .tuple #[.agg #[iV r.1.Events, .slice a0 r.1.Places.length c0], .agg #[iV r.2.From, iV r.2.To, iV r.2.Delay, iV r.2.Tokens]] ∧ Hold h h' [own cd28 a0 r.1.Places.length c0 r.1.Places] := by
 unfold spec_DrawAddPlace at hF
 refine Zo [.slice acode code.length ccode] Tryd.func6 rfl (fun w0 _ => ?_)
 have H0 := Hold.init h
 refine Zs ?_
 refine Run_ops ?_
 refine Ze ?_
 refine E_box (ty := 26) (cs := [iV 0, .slice none 0 0]) H0 (fun w => by kernel_rfl) (fun b1 h1 H1 => ?_)
 refine Ze ?_
 refine E_box (ty := 28) (cs := [iV 0, iV 0, iV 0, iV 0]) H1 (fun w => by kernel_rfl) (fun b2 h2 H2 => ?_)
 refine Zx ?_
 refine Zk [0, 2, 3] [(0, .slice acode code.length ccode), (2, pV b1), (3, pV b2)] ?_
 refine Zs ?_
 refine Run_ops ?_
 refine Zr [.slice acode code.length ccode] 0 ?_
 obtain ⟨x1, hx1, hF⟩ := M.bind_some hF
 refine Ze ?_
 refine ZC 20 #[.slice acode code.length ccode] (w_spec_l01From h2 code acode ccode (rcode.at H2.ext) _ _ hx1) (fun v1 h3 hp1 => ?_)
 obtain ⟨b3, a1, c1, rfl, hd1, H3⟩ := hp1
 have H4 : Hold h h3 [box b3 67 [.slice a1 x1.code.length c1, iV x1.at_, iV x1.seed], box b2 28 [iV 0, iV 0, iV 0, iV 0], box b1 26 [iV 0, .slice none 0 0]] := H2.call H3 rfl
 have r1 := rcode.alias hd1
 refine Zr [pV b3] 2 ?_
 refine Zx ?_
 refine Zk [2, 3, 4] [(2, pV b1), (3, pV b2), (4, pV b3)] ?_
 refine Zs ?_
 refine Run_ops ?_
 refine Zr [pV b3] 0 ?_
 obtain ⟨x2, hx2, hF⟩ := M.bind_some hF
 have H5 : Hold h h3 [box b3 67 [.slice a1 x1.code.length c1, iV x1.at_, iV x1.seed], bun [box b2 28 [iV 0, iV 0, iV 0, iV 0], box b1 26 [iV 0, .slice none 0 0]]] := H4.bd 1
 refine Ze ?_
 refine ZC 21 #[pV b3] (w_spec_l11Draw h h3 _ x1 b3 a1 c1 r1 H5 _ _ hx2) (fun v2 h4 hp2 => ?_)
 obtain ⟨a2, c2, rfl, H6⟩ := hp2
 have H7 : Hold h h4 [own cd28 a2 x2.1.Places.length c2 x2.1.Places, box b3 67 [.slice a1 x1.code.length c1, iV x2.2.at_, iV x2.2.seed], box b2 28 [iV 0, iV 0, iV 0, iV 0], box b1 26 [iV 0, .slice none 0 0]] := H6.ub (js := _) 2 1 H4
 refine Ze ?_
 refine E_box (ty := 26) (cs := [iV 0, .slice none 0 0]) H7 (fun w => by kernel_rfl) (fun b4 h5 H8 => ?_)
 refine Ze ?_
 refine ZP 26 0 [iV x2.1.Events, .slice a2 x2.1.Places.length c2] (.agg #[iV x2.1.Events, .slice a2 x2.1.Places.length c2]) H8 (fun h6 H9 => ?_)
 refine Zx ?_
 refine Zk [2, 3, 4, 5] [(2, pV b1), (3, pV b2), (4, pV b3), (5, pV b4)] ?_
 refine Zs ?_
 refine Zs ?_
 refine Run_ops ?_
 refine Zr [pV b3] 0 ?_
 obtain ⟨x3, hx3, hF⟩ := M.bind_some hF
 have H10 : Hold h h6 [box b3 67 [.slice a1 x1.code.length c1, iV x2.2.at_, iV x2.2.seed], box b4 26 [iV x2.1.Events, .slice a2 x2.1.Places.length c2], own cd28 a2 x2.1.Places.length c2 x2.1.Places, box b2 28 [iV 0, iV 0, iV 0, iV 0], box b1 26 [iV 0, .slice none 0 0]] := H9.pk [2, 0, 1, 3, 4]
 have H11 : Hold h h6 [box b3 67 [.slice a1 x1.code.length c1, iV x2.2.at_, iV x2.2.seed], bun [box b4 26 [iV x2.1.Events, .slice a2 x2.1.Places.length c2], own cd28 a2 x2.1.Places.length c2 x2.1.Places, box b2 28 [iV 0, iV 0, iV 0, iV 0], box b1 26 [iV 0, .slice none 0 0]]] := H10.bd 1
 refine Ze ?_
 refine ZC 22 #[pV b3, iV 10] (w_spec_l01Next h h6 _ (⟨x1.code, x2.2.at_, x2.2.seed⟩ : TL01source) b3 a1 c1 r1 10 H11 _ _ hx3) (fun v3 h7 hp3 => ?_)
 obtain ⟨rfl, H12⟩ := hp3
 have H13 : Hold h h7 [box b3 67 [.slice a1 x1.code.length c1, iV x3.2.at_, iV x3.2.seed], box b4 26 [iV x2.1.Events, .slice a2 x2.1.Places.length c2], own cd28 a2 x2.1.Places.length c2 x2.1.Places, box b2 28 [iV 0, iV 0, iV 0, iV 0], box b1 26 [iV 0, .slice none 0 0]] := H12.ub (js := _) 1 1 H10
 refine Zr [.bool (x3.1 == 0)] 2 ?_
 refine Zx ?_
 refine Zk [2, 3, 4, 5, 12] [(2, pV b1), (3, pV b2), (4, pV b3), (5, pV b4), (12, .bool (x3.1 == 0))] ?_
 refine Zc (x3.1 == 0) (fun hb1 => ?_) (fun hb1 => ?_)
 ·have hF := (M.ite_some hF).1 hb1
  refine Zs ?_
  obtain ⟨s1, gs1, hF⟩ := M.bind_some hF
  refine Run_join (fun L' h' => L' = [(2, pV b1), (3, pV b2)] ∧ Hold h h' [box b1 26 [iV x2.1.Events, .slice a2 x2.1.Places.length c2], own cd28 a2 x2.1.Places.length c2 x2.1.Places, box b2 28 [iV s1.From, iV s1.To, iV s1.Delay, iV s1.Tokens]]) ?_ ?_
  ·rintro _ h202 ⟨rfl, H528⟩
   have hF := M.ret_some hF
   subst hF
   have H906 : Hold h h202 [own cd28 a2 x2.1.Places.length c2 x2.1.Places, box b1 26 [iV x2.1.Events, .slice a2 x2.1.Places.length c2], box b2 28 [iV s1.From, iV s1.To, iV s1.Delay, iV s1.Tokens]] := H528.pk [1, 0, 2]
   have H907 : Hold h h202 [own cd28 a2 x2.1.Places.length c2 x2.1.Places] := H906.pk [0]
   exact Run_ret2 rfl (ResV_cell (n := 2) (cs := [iV x2.1.Events, .slice a2 x2.1.Places.length c2]) (by kernel_rfl) (fun w => by kernel_rfl) (by kernel_rfl) rfl (H528.cells (n := 2) (off := 0) 0 rfl rfl)) (ResV_cell (n := 4) (cs := [iV s1.From, iV s1.To, iV s1.Delay, iV s1.Tokens]) (by kernel_rfl) (fun w => by kernel_rfl) (by kernel_rfl) rfl (H528.cells (n := 4) (off := 0) 2 rfl rfl)) ⟨a2, c2, rfl, H907⟩
  ·refine Run_D (fun x => Hold h x [box b4 26 [iV x2.1.Events, .slice a2 x2.1.Places.length c2], own cd28 a2 x2.1.Places.length c2 x2.1.Places, box b2 28 [iV 0, iV 0, iV 0, iV 0]]) (fun x => Hold h x [box b3 67 [.slice a1 x1.code.length c1, iV x3.2.at_, iV x3.2.seed], box b4 26 [iV x2.1.Events, .slice a2 x2.1.Places.length c2], own cd28 a2 x2.1.Places.length c2 x2.1.Places, box b2 28 [iV 0, iV 0, iV 0, iV 0], box b1 26 [iV 0, .slice none 0 0]]) mixed (by kernel_rfl) H13 Hold.stable (fun x Hy => (show Hold h x [box b3 67 [.slice a1 x1.code.length c1, iV x3.2.at_, iV x3.2.seed], box b4 26 [iV x2.1.Events, .slice a2 x2.1.Places.length c2], own cd28 a2 x2.1.Places.length c2 x2.1.Places, box b2 28 [iV 0, iV 0, iV 0, iV 0], box b1 26 [iV 0, .slice none 0 0]] from Hy).pk [1, 2, 3]) ?_
   refine ZY 14 0 (.agg #[iV x2.1.Events, .slice a2 x2.1.Places.length c2]) (fun hx Hx => (YE.of (Y_loadA (t := 26) (n := 2) (p := ⟨b4, 0, none⟩) (cs := [iV x2.1.Events, .slice a2 x2.1.Places.length c2]) (by kernel_rfl) (fun w => by kernel_rfl) (by kernel_rfl) rfl (Hx.cells (n := 2) (off := 0) 0 rfl rfl)))) ?_
   refine ZB 12 [pV b3, pV b4] 1 ?_
   refine ZY 11 3 (iV x2.1.Events) (fun hx Hx => (YE.of (Zl 2 (⟨b4, 0, none⟩) (iV x2.1.Events) (Hx.cell 0 rfl rfl)))) ?_
   refine ZB 10 [pV b3] 6 ?_
   refine ZB 9 [pV b3] 9 ?_
   refine DR_e3 8 4 7 10 (by kernel_rfl) (by kernel_rfl) (by kernel_rfl) (by kernel_rfl) (by kernel_rfl) ?_ ?_ ?_
   ·intro h8 H14
    have H15 := H14
    refine E_lit (C := cd2) (n := 3) (l := ([0, x2.1.Events, (-1)] : List Int)) (cs := [iV 0, iV x2.1.Events, iV (-1)]) H15 (fun w => by kernel_rfl) (Enc.consE (cd2_own 0 _) (Enc.consE (cd2_own x2.1.Events _) (Enc.consE (cd2_own (-1) _) (Enc.nil _ _) rfl) rfl) rfl) rfl (by decide) (fun a3 h9 H16 => ?_)
    refine ZA [box b4 26 [iV x2.1.Events, .slice a2 x2.1.Places.length c2], own cd28 a2 x2.1.Places.length c2 x2.1.Places, box b2 28 [iV 0, iV 0, iV 0, iV 0]] [2, 3, 4] [0, 1, 2] H16 ?_
    refine DR_e3 7 5 7 10 (by kernel_rfl) (by kernel_rfl) (by kernel_rfl) (by kernel_rfl) (by kernel_rfl) ?_ ?_ ?_
    ·intro h10 H17
     have H18 := H17
     obtain ⟨x4, hx4, gs1⟩ := M.bind_some gs1
     have hn1 := (H18.len 0 rfl)
     have H19 : Hold h h10 [own cd2 a3 (([0, x2.1.Events, (-1)] : List Int).length) 3 ([0, x2.1.Events, (-1)] : List Int), box b3 67 [.slice a1 x1.code.length c1, iV x3.2.at_, iV x3.2.seed], box b4 26 [iV x2.1.Events, .slice a2 x2.1.Places.length c2], own cd28 a2 x2.1.Places.length c2 x2.1.Places, box b2 28 [iV 0, iV 0, iV 0, iV 0], box b1 26 [iV 0, .slice none 0 0]] := by rw [hn1]; exact H18
     have H20 : Hold h h10 [box b3 67 [.slice a1 x1.code.length c1, iV x3.2.at_, iV x3.2.seed], own cd2 a3 (([0, x2.1.Events, (-1)] : List Int).length) 3 ([0, x2.1.Events, (-1)] : List Int), box b4 26 [iV x2.1.Events, .slice a2 x2.1.Places.length c2], own cd28 a2 x2.1.Places.length c2 x2.1.Places, box b2 28 [iV 0, iV 0, iV 0, iV 0], box b1 26 [iV 0, .slice none 0 0]] := H19.pk [1, 0, 2, 3, 4, 5]
     have H21 : Hold h h10 [box b3 67 [.slice a1 x1.code.length c1, iV x3.2.at_, iV x3.2.seed], own cd2 a3 (([0, x2.1.Events, (-1)] : List Int).length) 3 ([0, x2.1.Events, (-1)] : List Int), bun [box b4 26 [iV x2.1.Events, .slice a2 x2.1.Places.length c2], own cd28 a2 x2.1.Places.length c2 x2.1.Places, box b2 28 [iV 0, iV 0, iV 0, iV 0], box b1 26 [iV 0, .slice none 0 0]]] := H20.bd 2
     refine ZC 23 #[pV b3, .slice a3 3 3] (Fn.arg (w_spec_l01Pick h h10 _ (⟨x1.code, x3.2.at_, x3.2.seed⟩ : TL01source) b3 a1 c1 r1 ([0, x2.1.Events, (-1)] : List Int) a3 3 H21 _ _ hx4) (by simp only [hn1])) (fun v4 h11 hp4 => ?_)
     obtain ⟨rfl, H22⟩ := hp4
     have H23 : Hold h h11 [box b3 67 [.slice a1 x1.code.length c1, iV x4.2.1.at_, iV x4.2.1.seed], own cd2 a3 (([0, x2.1.Events, (-1)] : List Int).length) 3 x4.2.2, box b4 26 [iV x2.1.Events, .slice a2 x2.1.Places.length c2], own cd28 a2 x2.1.Places.length c2 x2.1.Places, box b2 28 [iV 0, iV 0, iV 0, iV 0], box b1 26 [iV 0, .slice none 0 0]] := H22.ub (js := _) 2 2 H20
     refine ZA [box b4 26 [iV x2.1.Events, .slice a2 x2.1.Places.length c2], own cd28 a2 x2.1.Places.length c2 x2.1.Places, box b2 28 [iV 0, iV 0, iV 0, iV 0]] [2, 3, 4] [0, 1, 2] H23 ?_
     refine DR_e2 6 7 10 (by kernel_rfl) (by kernel_rfl) (by kernel_rfl) (by kernel_rfl) ?_ ?_
     ·intro h12 H24
      have H25 := H24
      refine E_lit (C := cd2) (n := 3) (l := ([0, 1000, 1001] : List Int)) (cs := [iV 0, iV 1000, iV 1001]) H25 (fun w => by kernel_rfl) (Enc.consE (cd2_own 0 _) (Enc.consE (cd2_own 1000 _) (Enc.consE (cd2_own 1001 _) (Enc.nil _ _) rfl) rfl) rfl) rfl (by decide) (fun a4 h13 H26 => ?_)
      refine ZA [box b4 26 [iV x2.1.Events, .slice a2 x2.1.Places.length c2], own cd28 a2 x2.1.Places.length c2 x2.1.Places, box b2 28 [iV 0, iV 0, iV 0, iV 0]] [3, 4, 5] [0, 1, 2] H26 ?_
      refine DR_e2 5 8 10 (by kernel_rfl) (by kernel_rfl) (by kernel_rfl) (by kernel_rfl) ?_ ?_
      ·intro h14 H27
       have H28 := H27
       obtain ⟨x5, hx5, gs1⟩ := M.bind_some gs1
       have hn2 := (H28.len 0 rfl)
       have H29 : Hold h h14 [own cd2 a4 (([0, 1000, 1001] : List Int).length) 3 ([0, 1000, 1001] : List Int), box b3 67 [.slice a1 x1.code.length c1, iV x4.2.1.at_, iV x4.2.1.seed], own cd2 a3 (([0, x2.1.Events, (-1)] : List Int).length) 3 x4.2.2, box b4 26 [iV x2.1.Events, .slice a2 x2.1.Places.length c2], own cd28 a2 x2.1.Places.length c2 x2.1.Places, box b2 28 [iV 0, iV 0, iV 0, iV 0], box b1 26 [iV 0, .slice none 0 0]] := by rw [hn2]; exact H28
       have H30 : Hold h h14 [box b3 67 [.slice a1 x1.code.length c1, iV x4.2.1.at_, iV x4.2.1.seed], own cd2 a4 (([0, 1000, 1001] : List Int).length) 3 ([0, 1000, 1001] : List Int), own cd2 a3 (([0, x2.1.Events, (-1)] : List Int).length) 3 x4.2.2, box b4 26 [iV x2.1.Events, .slice a2 x2.1.Places.length c2], own cd28 a2 x2.1.Places.length c2 x2.1.Places, box b2 28 [iV 0, iV 0, iV 0, iV 0], box b1 26 [iV 0, .slice none 0 0]] := H29.pk [1, 0, 2, 3, 4, 5, 6]
       have H31 : Hold h h14 [box b3 67 [.slice a1 x1.code.length c1, iV x4.2.1.at_, iV x4.2.1.seed], own cd2 a4 (([0, 1000, 1001] : List Int).length) 3 ([0, 1000, 1001] : List Int), bun [own cd2 a3 (([0, x2.1.Events, (-1)] : List Int).length) 3 x4.2.2, box b4 26 [iV x2.1.Events, .slice a2 x2.1.Places.length c2], own cd28 a2 x2.1.Places.length c2 x2.1.Places, box b2 28 [iV 0, iV 0, iV 0, iV 0], box b1 26 [iV 0, .slice none 0 0]]] := H30.bd 2
       refine ZC 23 #[pV b3, .slice a4 3 3] (Fn.arg (w_spec_l01Pick h h14 _ (⟨x1.code, x4.2.1.at_, x4.2.1.seed⟩ : TL01source) b3 a1 c1 r1 ([0, 1000, 1001] : List Int) a4 3 H31 _ _ hx5) (by simp only [hn2])) (fun v5 h15 hp5 => ?_)
       obtain ⟨rfl, H32⟩ := hp5
       have H33 : Hold h h15 [box b3 67 [.slice a1 x1.code.length c1, iV x5.2.1.at_, iV x5.2.1.seed], own cd2 a4 (([0, 1000, 1001] : List Int).length) 3 x5.2.2, own cd2 a3 (([0, x2.1.Events, (-1)] : List Int).length) 3 x4.2.2, box b4 26 [iV x2.1.Events, .slice a2 x2.1.Places.length c2], own cd28 a2 x2.1.Places.length c2 x2.1.Places, box b2 28 [iV 0, iV 0, iV 0, iV 0], box b1 26 [iV 0, .slice none 0 0]] := H32.ub (js := _) 2 2 H30
       refine ZA [box b4 26 [iV x2.1.Events, .slice a2 x2.1.Places.length c2], own cd28 a2 x2.1.Places.length c2 x2.1.Places, box b2 28 [iV 0, iV 0, iV 0, iV 0]] [3, 4, 5] [0, 1, 2] H33 ?_
       refine ZE 4 10 (fun h16 H34 => ?_)
       have H35 := H34
       refine E_lit (C := cd2) (n := 2) (l := ([0, 6] : List Int)) (cs := [iV 0, iV 6]) H35 (fun w => by kernel_rfl) (Enc.consE (cd2_own 0 _) (Enc.consE (cd2_own 6 _) (Enc.nil _ _) rfl) rfl) rfl (by decide) (fun a5 h17 H36 => ?_)
       refine ZA [box b4 26 [iV x2.1.Events, .slice a2 x2.1.Places.length c2], own cd28 a2 x2.1.Places.length c2 x2.1.Places, box b2 28 [iV 0, iV 0, iV 0, iV 0]] [4, 5, 6] [0, 1, 2] H36 ?_
       refine ZE 3 11 (fun h18 H37 => ?_)
       have H38 := H37
       obtain ⟨x6, hx6, gs1⟩ := M.bind_some gs1
       have hn3 := (H38.len 0 rfl)
       have H39 : Hold h h18 [own cd2 a5 (([0, 6] : List Int).length) 2 ([0, 6] : List Int), box b3 67 [.slice a1 x1.code.length c1, iV x5.2.1.at_, iV x5.2.1.seed], own cd2 a4 (([0, 1000, 1001] : List Int).length) 3 x5.2.2, own cd2 a3 (([0, x2.1.Events, (-1)] : List Int).length) 3 x4.2.2, box b4 26 [iV x2.1.Events, .slice a2 x2.1.Places.length c2], own cd28 a2 x2.1.Places.length c2 x2.1.Places, box b2 28 [iV 0, iV 0, iV 0, iV 0], box b1 26 [iV 0, .slice none 0 0]] := by rw [hn3]; exact H38
       have H40 : Hold h h18 [box b3 67 [.slice a1 x1.code.length c1, iV x5.2.1.at_, iV x5.2.1.seed], own cd2 a5 (([0, 6] : List Int).length) 2 ([0, 6] : List Int), own cd2 a4 (([0, 1000, 1001] : List Int).length) 3 x5.2.2, own cd2 a3 (([0, x2.1.Events, (-1)] : List Int).length) 3 x4.2.2, box b4 26 [iV x2.1.Events, .slice a2 x2.1.Places.length c2], own cd28 a2 x2.1.Places.length c2 x2.1.Places, box b2 28 [iV 0, iV 0, iV 0, iV 0], box b1 26 [iV 0, .slice none 0 0]] := H39.pk [1, 0, 2, 3, 4, 5, 6, 7]
       have H41 : Hold h h18 [box b3 67 [.slice a1 x1.code.length c1, iV x5.2.1.at_, iV x5.2.1.seed], own cd2 a5 (([0, 6] : List Int).length) 2 ([0, 6] : List Int), bun [own cd2 a4 (([0, 1000, 1001] : List Int).length) 3 x5.2.2, own cd2 a3 (([0, x2.1.Events, (-1)] : List Int).length) 3 x4.2.2, box b4 26 [iV x2.1.Events, .slice a2 x2.1.Places.length c2], own cd28 a2 x2.1.Places.length c2 x2.1.Places, box b2 28 [iV 0, iV 0, iV 0, iV 0], box b1 26 [iV 0, .slice none 0 0]]] := H40.bd 2
       refine ZC 23 #[pV b3, .slice a5 2 2] (Fn.arg (w_spec_l01Pick h h18 _ (⟨x1.code, x5.2.1.at_, x5.2.1.seed⟩ : TL01source) b3 a1 c1 r1 ([0, 6] : List Int) a5 2 H41 _ _ hx6) (by simp only [hn3])) (fun v6 h19 hp6 => ?_)
       obtain ⟨rfl, H42⟩ := hp6
       have H43 : Hold h h19 [box b3 67 [.slice a1 x1.code.length c1, iV x6.2.1.at_, iV x6.2.1.seed], own cd2 a5 (([0, 6] : List Int).length) 2 x6.2.2, own cd2 a4 (([0, 1000, 1001] : List Int).length) 3 x5.2.2, own cd2 a3 (([0, x2.1.Events, (-1)] : List Int).length) 3 x4.2.2, box b4 26 [iV x2.1.Events, .slice a2 x2.1.Places.length c2], own cd28 a2 x2.1.Places.length c2 x2.1.Places, box b2 28 [iV 0, iV 0, iV 0, iV 0], box b1 26 [iV 0, .slice none 0 0]] := H42.ub (js := _) 2 2 H40
       refine ZA [box b4 26 [iV x2.1.Events, .slice a2 x2.1.Places.length c2], own cd28 a2 x2.1.Places.length c2 x2.1.Places, box b2 28 [iV 0, iV 0, iV 0, iV 0]] [4, 5, 6] [0, 1, 2] H43 ?_
       refine ZB 2 [.agg #[iV x4.1, iV 0, iV x5.1, iV x6.1]] 12 ?_
       refine ZE 1 13 (fun h20 H44 => ?_)
       have H45 := H44
       have H47 : Hold h h20 [box b1 26 [iV 0, .slice none 0 0], box b3 67 [.slice a1 x1.code.length c1, iV x6.2.1.at_, iV x6.2.1.seed], own cd2 a5 (([0, 6] : List Int).length) 2 x6.2.2, own cd2 a4 (([0, 1000, 1001] : List Int).length) 3 x5.2.2, own cd2 a3 (([0, x2.1.Events, (-1)] : List Int).length) 3 x4.2.2, box b4 26 [iV x2.1.Events, .slice a2 x2.1.Places.length c2], own cd28 a2 x2.1.Places.length c2 x2.1.Places, box b2 28 [iV 0, iV 0, iV 0, iV 0]] := H45.pk [7, 0, 1, 2, 3, 4, 5, 6]
       refine ZP 26 0 [iV x2.1.Events, .slice a2 x2.1.Places.length c2] (.agg #[iV x2.1.Events, .slice a2 x2.1.Places.length c2]) H47 (fun h21 H46 => ?_)
       refine ZA [box b4 26 [iV x2.1.Events, .slice a2 x2.1.Places.length c2], own cd28 a2 x2.1.Places.length c2 x2.1.Places, box b2 28 [iV 0, iV 0, iV 0, iV 0]] [5, 6, 7] [0, 1, 2] H46 ?_
       refine ZT 14 (fun h22 H48 => ?_)
       have H49 := H48
       have H51 : Hold h h22 [box b2 28 [iV 0, iV 0, iV 0, iV 0], box b1 26 [iV x2.1.Events, .slice a2 x2.1.Places.length c2], box b3 67 [.slice a1 x1.code.length c1, iV x6.2.1.at_, iV x6.2.1.seed], own cd2 a5 (([0, 6] : List Int).length) 2 x6.2.2, own cd2 a4 (([0, 1000, 1001] : List Int).length) 3 x5.2.2, own cd2 a3 (([0, x2.1.Events, (-1)] : List Int).length) 3 x4.2.2, box b4 26 [iV x2.1.Events, .slice a2 x2.1.Places.length c2], own cd28 a2 x2.1.Places.length c2 x2.1.Places] := H49.pk [7, 0, 1, 2, 3, 4, 5, 6]
       refine Ze ?_
       refine ZP 28 0 [iV x4.1, iV 0, iV x5.1, iV x6.1] (.agg #[iV x4.1, iV 0, iV x5.1, iV x6.1]) H51 (fun h23 H50 => ?_)
       refine Zx ?_
       refine Zk [2, 3] [(2, pV b1), (3, pV b2)] ?_
       have H891 : Hold h h23 [box b1 26 [iV x2.1.Events, .slice a2 x2.1.Places.length c2], own cd28 a2 x2.1.Places.length c2 x2.1.Places, box b2 28 [iV x4.1, iV 0, iV x5.1, iV x6.1]] := H50.pk [1, 7, 0]
       have gs1 := M.ret_some gs1
       subst gs1
       exact Zf [2, 3] ⟨rfl, H891⟩
      ·intro h24 H52
       have H53 := H52
       refine E_lit (C := cd2) (n := 2) (l := ([0, 6] : List Int)) (cs := [iV 0, iV 6]) H53 (fun w => by kernel_rfl) (Enc.consE (cd2_own 0 _) (Enc.consE (cd2_own 6 _) (Enc.nil _ _) rfl) rfl) rfl (by decide) (fun a6 h25 H54 => ?_)
       refine ZA [box b4 26 [iV x2.1.Events, .slice a2 x2.1.Places.length c2], own cd28 a2 x2.1.Places.length c2 x2.1.Places, box b2 28 [iV 0, iV 0, iV 0, iV 0]] [4, 5, 6] [0, 1, 2] H54 ?_
       refine ZE 4 8 (fun h26 H55 => ?_)
       have H56 := H55
       obtain ⟨x7, hx7, gs1⟩ := M.bind_some gs1
       have H57 : Hold h h26 [own cd2 a4 3 3 ([0, 1000, 1001] : List Int), own cd2 a6 2 2 ([0, 6] : List Int), box b3 67 [.slice a1 x1.code.length c1, iV x4.2.1.at_, iV x4.2.1.seed], own cd2 a3 (([0, x2.1.Events, (-1)] : List Int).length) 3 x4.2.2, box b4 26 [iV x2.1.Events, .slice a2 x2.1.Places.length c2], own cd28 a2 x2.1.Places.length c2 x2.1.Places, box b2 28 [iV 0, iV 0, iV 0, iV 0], box b1 26 [iV 0, .slice none 0 0]] := H56.pk [1, 0, 2, 3, 4, 5, 6, 7]
       have hn4 := (H57.len 0 rfl)
       have H58 : Hold h h26 [own cd2 a4 (([0, 1000, 1001] : List Int).length) 3 ([0, 1000, 1001] : List Int), own cd2 a6 2 2 ([0, 6] : List Int), box b3 67 [.slice a1 x1.code.length c1, iV x4.2.1.at_, iV x4.2.1.seed], own cd2 a3 (([0, x2.1.Events, (-1)] : List Int).length) 3 x4.2.2, box b4 26 [iV x2.1.Events, .slice a2 x2.1.Places.length c2], own cd28 a2 x2.1.Places.length c2 x2.1.Places, box b2 28 [iV 0, iV 0, iV 0, iV 0], box b1 26 [iV 0, .slice none 0 0]] := by rw [hn4]; exact H57
       have H59 : Hold h h26 [box b3 67 [.slice a1 x1.code.length c1, iV x4.2.1.at_, iV x4.2.1.seed], own cd2 a4 (([0, 1000, 1001] : List Int).length) 3 ([0, 1000, 1001] : List Int), own cd2 a6 2 2 ([0, 6] : List Int), own cd2 a3 (([0, x2.1.Events, (-1)] : List Int).length) 3 x4.2.2, box b4 26 [iV x2.1.Events, .slice a2 x2.1.Places.length c2], own cd28 a2 x2.1.Places.length c2 x2.1.Places, box b2 28 [iV 0, iV 0, iV 0, iV 0], box b1 26 [iV 0, .slice none 0 0]] := H58.pk [2, 0, 1, 3, 4, 5, 6, 7]
       have H60 : Hold h h26 [box b3 67 [.slice a1 x1.code.length c1, iV x4.2.1.at_, iV x4.2.1.seed], own cd2 a4 (([0, 1000, 1001] : List Int).length) 3 ([0, 1000, 1001] : List Int), bun [own cd2 a6 2 2 ([0, 6] : List Int), own cd2 a3 (([0, x2.1.Events, (-1)] : List Int).length) 3 x4.2.2, box b4 26 [iV x2.1.Events, .slice a2 x2.1.Places.length c2], own cd28 a2 x2.1.Places.length c2 x2.1.Places, box b2 28 [iV 0, iV 0, iV 0, iV 0], box b1 26 [iV 0, .slice none 0 0]]] := H59.bd 2
       refine ZC 23 #[pV b3, .slice a4 3 3] (Fn.arg (w_spec_l01Pick h h26 _ (⟨x1.code, x4.2.1.at_, x4.2.1.seed⟩ : TL01source) b3 a1 c1 r1 ([0, 1000, 1001] : List Int) a4 3 H60 _ _ hx7) (by simp only [hn4])) (fun v7 h27 hp7 => ?_)
       obtain ⟨rfl, H61⟩ := hp7
       have H62 : Hold h h27 [box b3 67 [.slice a1 x1.code.length c1, iV x7.2.1.at_, iV x7.2.1.seed], own cd2 a4 (([0, 1000, 1001] : List Int).length) 3 x7.2.2, own cd2 a6 2 2 ([0, 6] : List Int), own cd2 a3 (([0, x2.1.Events, (-1)] : List Int).length) 3 x4.2.2, box b4 26 [iV x2.1.Events, .slice a2 x2.1.Places.length c2], own cd28 a2 x2.1.Places.length c2 x2.1.Places, box b2 28 [iV 0, iV 0, iV 0, iV 0], box b1 26 [iV 0, .slice none 0 0]] := H61.ub (js := _) 2 2 H59
       refine ZA [box b4 26 [iV x2.1.Events, .slice a2 x2.1.Places.length c2], own cd28 a2 x2.1.Places.length c2 x2.1.Places, box b2 28 [iV 0, iV 0, iV 0, iV 0]] [4, 5, 6] [0, 1, 2] H62 ?_
       refine ZE 3 11 (fun h28 H63 => ?_)
       have H64 := H63
       obtain ⟨x8, hx8, gs1⟩ := M.bind_some gs1
       have H65 : Hold h h28 [own cd2 a6 2 2 ([0, 6] : List Int), box b3 67 [.slice a1 x1.code.length c1, iV x7.2.1.at_, iV x7.2.1.seed], own cd2 a4 (([0, 1000, 1001] : List Int).length) 3 x7.2.2, own cd2 a3 (([0, x2.1.Events, (-1)] : List Int).length) 3 x4.2.2, box b4 26 [iV x2.1.Events, .slice a2 x2.1.Places.length c2], own cd28 a2 x2.1.Places.length c2 x2.1.Places, box b2 28 [iV 0, iV 0, iV 0, iV 0], box b1 26 [iV 0, .slice none 0 0]] := H64.pk [2, 0, 1, 3, 4, 5, 6, 7]
       have hn5 := (H65.len 0 rfl)
       have H66 : Hold h h28 [own cd2 a6 (([0, 6] : List Int).length) 2 ([0, 6] : List Int), box b3 67 [.slice a1 x1.code.length c1, iV x7.2.1.at_, iV x7.2.1.seed], own cd2 a4 (([0, 1000, 1001] : List Int).length) 3 x7.2.2, own cd2 a3 (([0, x2.1.Events, (-1)] : List Int).length) 3 x4.2.2, box b4 26 [iV x2.1.Events, .slice a2 x2.1.Places.length c2], own cd28 a2 x2.1.Places.length c2 x2.1.Places, box b2 28 [iV 0, iV 0, iV 0, iV 0], box b1 26 [iV 0, .slice none 0 0]] := by rw [hn5]; exact H65
       have H67 : Hold h h28 [box b3 67 [.slice a1 x1.code.length c1, iV x7.2.1.at_, iV x7.2.1.seed], own cd2 a6 (([0, 6] : List Int).length) 2 ([0, 6] : List Int), own cd2 a4 (([0, 1000, 1001] : List Int).length) 3 x7.2.2, own cd2 a3 (([0, x2.1.Events, (-1)] : List Int).length) 3 x4.2.2, box b4 26 [iV x2.1.Events, .slice a2 x2.1.Places.length c2], own cd28 a2 x2.1.Places.length c2 x2.1.Places, box b2 28 [iV 0, iV 0, iV 0, iV 0], box b1 26 [iV 0, .slice none 0 0]] := H66.pk [1, 0, 2, 3, 4, 5, 6, 7]
       have H68 : Hold h h28 [box b3 67 [.slice a1 x1.code.length c1, iV x7.2.1.at_, iV x7.2.1.seed], own cd2 a6 (([0, 6] : List Int).length) 2 ([0, 6] : List Int), bun [own cd2 a4 (([0, 1000, 1001] : List Int).length) 3 x7.2.2, own cd2 a3 (([0, x2.1.Events, (-1)] : List Int).length) 3 x4.2.2, box b4 26 [iV x2.1.Events, .slice a2 x2.1.Places.length c2], own cd28 a2 x2.1.Places.length c2 x2.1.Places, box b2 28 [iV 0, iV 0, iV 0, iV 0], box b1 26 [iV 0, .slice none 0 0]]] := H67.bd 2
       refine ZC 23 #[pV b3, .slice a6 2 2] (Fn.arg (w_spec_l01Pick h h28 _ (⟨x1.code, x7.2.1.at_, x7.2.1.seed⟩ : TL01source) b3 a1 c1 r1 ([0, 6] : List Int) a6 2 H68 _ _ hx8) (by simp only [hn5])) (fun v8 h29 hp8 => ?_)
       obtain ⟨rfl, H69⟩ := hp8
       have H70 : Hold h h29 [box b3 67 [.slice a1 x1.code.length c1, iV x8.2.1.at_, iV x8.2.1.seed], own cd2 a6 (([0, 6] : List Int).length) 2 x8.2.2, own cd2 a4 (([0, 1000, 1001] : List Int).length) 3 x7.2.2, own cd2 a3 (([0, x2.1.Events, (-1)] : List Int).length) 3 x4.2.2, box b4 26 [iV x2.1.Events, .slice a2 x2.1.Places.length c2], own cd28 a2 x2.1.Places.length c2 x2.1.Places, box b2 28 [iV 0, iV 0, iV 0, iV 0], box b1 26 [iV 0, .slice none 0 0]] := H69.ub (js := _) 2 2 H67
       refine ZA [box b4 26 [iV x2.1.Events, .slice a2 x2.1.Places.length c2], own cd28 a2 x2.1.Places.length c2 x2.1.Places, box b2 28 [iV 0, iV 0, iV 0, iV 0]] [4, 5, 6] [0, 1, 2] H70 ?_
       refine ZB 2 [.agg #[iV x4.1, iV 0, iV x7.1, iV x8.1]] 12 ?_
       refine ZE 1 13 (fun h30 H71 => ?_)
       have H72 := H71
       have H74 : Hold h h30 [box b1 26 [iV 0, .slice none 0 0], box b3 67 [.slice a1 x1.code.length c1, iV x8.2.1.at_, iV x8.2.1.seed], own cd2 a6 (([0, 6] : List Int).length) 2 x8.2.2, own cd2 a4 (([0, 1000, 1001] : List Int).length) 3 x7.2.2, own cd2 a3 (([0, x2.1.Events, (-1)] : List Int).length) 3 x4.2.2, box b4 26 [iV x2.1.Events, .slice a2 x2.1.Places.length c2], own cd28 a2 x2.1.Places.length c2 x2.1.Places, box b2 28 [iV 0, iV 0, iV 0, iV 0]] := H72.pk [7, 0, 1, 2, 3, 4, 5, 6]
       refine ZP 26 0 [iV x2.1.Events, .slice a2 x2.1.Places.length c2] (.agg #[iV x2.1.Events, .slice a2 x2.1.Places.length c2]) H74 (fun h31 H73 => ?_)
       refine ZA [box b4 26 [iV x2.1.Events, .slice a2 x2.1.Places.length c2], own cd28 a2 x2.1.Places.length c2 x2.1.Places, box b2 28 [iV 0, iV 0, iV 0, iV 0]] [5, 6, 7] [0, 1, 2] H73 ?_
       refine ZT 14 (fun h32 H75 => ?_)
       have H76 := H75
       have H78 : Hold h h32 [box b2 28 [iV 0, iV 0, iV 0, iV 0], box b1 26 [iV x2.1.Events, .slice a2 x2.1.Places.length c2], box b3 67 [.slice a1 x1.code.length c1, iV x8.2.1.at_, iV x8.2.1.seed], own cd2 a6 (([0, 6] : List Int).length) 2 x8.2.2, own cd2 a4 (([0, 1000, 1001] : List Int).length) 3 x7.2.2, own cd2 a3 (([0, x2.1.Events, (-1)] : List Int).length) 3 x4.2.2, box b4 26 [iV x2.1.Events, .slice a2 x2.1.Places.length c2], own cd28 a2 x2.1.Places.length c2 x2.1.Places] := H76.pk [7, 0, 1, 2, 3, 4, 5, 6]
       refine Ze ?_
       refine ZP 28 0 [iV x4.1, iV 0, iV x7.1, iV x8.1] (.agg #[iV x4.1, iV 0, iV x7.1, iV x8.1]) H78 (fun h33 H77 => ?_)
       refine Zx ?_
       refine Zk [2, 3] [(2, pV b1), (3, pV b2)] ?_
       have H892 : Hold h h33 [box b1 26 [iV x2.1.Events, .slice a2 x2.1.Places.length c2], own cd28 a2 x2.1.Places.length c2 x2.1.Places, box b2 28 [iV x4.1, iV 0, iV x7.1, iV x8.1]] := H77.pk [1, 7, 0]
       have gs1 := M.ret_some gs1
       subst gs1
       exact Zf [2, 3] ⟨rfl, H892⟩
     ·intro h34 H79
      have H80 := H79
      refine E_lit (C := cd2) (n := 2) (l := ([0, 6] : List Int)) (cs := [iV 0, iV 6]) H80 (fun w => by kernel_rfl) (Enc.consE (cd2_own 0 _) (Enc.consE (cd2_own 6 _) (Enc.nil _ _) rfl) rfl) rfl (by decide) (fun a7 h35 H81 => ?_)
      refine ZA [box b4 26 [iV x2.1.Events, .slice a2 x2.1.Places.length c2], own cd28 a2 x2.1.Places.length c2 x2.1.Places, box b2 28 [iV 0, iV 0, iV 0, iV 0]] [3, 4, 5] [0, 1, 2] H81 ?_
      refine ZE 5 7 (fun h36 H82 => ?_)
      have H83 := H82
      refine E_lit (C := cd2) (n := 3) (l := ([0, 1000, 1001] : List Int)) (cs := [iV 0, iV 1000, iV 1001]) H83 (fun w => by kernel_rfl) (Enc.consE (cd2_own 0 _) (Enc.consE (cd2_own 1000 _) (Enc.consE (cd2_own 1001 _) (Enc.nil _ _) rfl) rfl) rfl) rfl (by decide) (fun a8 h37 H84 => ?_)
      refine ZA [box b4 26 [iV x2.1.Events, .slice a2 x2.1.Places.length c2], own cd28 a2 x2.1.Places.length c2 x2.1.Places, box b2 28 [iV 0, iV 0, iV 0, iV 0]] [4, 5, 6] [0, 1, 2] H84 ?_
      refine ZE 4 8 (fun h38 H85 => ?_)
      have H86 := H85
      obtain ⟨x9, hx9, gs1⟩ := M.bind_some gs1
      have hn6 := (H86.len 0 rfl)
      have H87 : Hold h h38 [own cd2 a8 (([0, 1000, 1001] : List Int).length) 3 ([0, 1000, 1001] : List Int), own cd2 a7 2 2 ([0, 6] : List Int), box b3 67 [.slice a1 x1.code.length c1, iV x4.2.1.at_, iV x4.2.1.seed], own cd2 a3 (([0, x2.1.Events, (-1)] : List Int).length) 3 x4.2.2, box b4 26 [iV x2.1.Events, .slice a2 x2.1.Places.length c2], own cd28 a2 x2.1.Places.length c2 x2.1.Places, box b2 28 [iV 0, iV 0, iV 0, iV 0], box b1 26 [iV 0, .slice none 0 0]] := by rw [hn6]; exact H86
      have H88 : Hold h h38 [box b3 67 [.slice a1 x1.code.length c1, iV x4.2.1.at_, iV x4.2.1.seed], own cd2 a8 (([0, 1000, 1001] : List Int).length) 3 ([0, 1000, 1001] : List Int), own cd2 a7 2 2 ([0, 6] : List Int), own cd2 a3 (([0, x2.1.Events, (-1)] : List Int).length) 3 x4.2.2, box b4 26 [iV x2.1.Events, .slice a2 x2.1.Places.length c2], own cd28 a2 x2.1.Places.length c2 x2.1.Places, box b2 28 [iV 0, iV 0, iV 0, iV 0], box b1 26 [iV 0, .slice none 0 0]] := H87.pk [2, 0, 1, 3, 4, 5, 6, 7]
      have H89 : Hold h h38 [box b3 67 [.slice a1 x1.code.length c1, iV x4.2.1.at_, iV x4.2.1.seed], own cd2 a8 (([0, 1000, 1001] : List Int).length) 3 ([0, 1000, 1001] : List Int), bun [own cd2 a7 2 2 ([0, 6] : List Int), own cd2 a3 (([0, x2.1.Events, (-1)] : List Int).length) 3 x4.2.2, box b4 26 [iV x2.1.Events, .slice a2 x2.1.Places.length c2], own cd28 a2 x2.1.Places.length c2 x2.1.Places, box b2 28 [iV 0, iV 0, iV 0, iV 0], box b1 26 [iV 0, .slice none 0 0]]] := H88.bd 2
      refine ZC 23 #[pV b3, .slice a8 3 3] (Fn.arg (w_spec_l01Pick h h38 _ (⟨x1.code, x4.2.1.at_, x4.2.1.seed⟩ : TL01source) b3 a1 c1 r1 ([0, 1000, 1001] : List Int) a8 3 H89 _ _ hx9) (by simp only [hn6])) (fun v9 h39 hp9 => ?_)
      obtain ⟨rfl, H90⟩ := hp9
      have H91 : Hold h h39 [box b3 67 [.slice a1 x1.code.length c1, iV x9.2.1.at_, iV x9.2.1.seed], own cd2 a8 (([0, 1000, 1001] : List Int).length) 3 x9.2.2, own cd2 a7 2 2 ([0, 6] : List Int), own cd2 a3 (([0, x2.1.Events, (-1)] : List Int).length) 3 x4.2.2, box b4 26 [iV x2.1.Events, .slice a2 x2.1.Places.length c2], own cd28 a2 x2.1.Places.length c2 x2.1.Places, box b2 28 [iV 0, iV 0, iV 0, iV 0], box b1 26 [iV 0, .slice none 0 0]] := H90.ub (js := _) 2 2 H88
      refine ZA [box b4 26 [iV x2.1.Events, .slice a2 x2.1.Places.length c2], own cd28 a2 x2.1.Places.length c2 x2.1.Places, box b2 28 [iV 0, iV 0, iV 0, iV 0]] [4, 5, 6] [0, 1, 2] H91 ?_
      refine ZE 3 11 (fun h40 H92 => ?_)
      have H93 := H92
      obtain ⟨x10, hx10, gs1⟩ := M.bind_some gs1
      have H94 : Hold h h40 [own cd2 a7 2 2 ([0, 6] : List Int), box b3 67 [.slice a1 x1.code.length c1, iV x9.2.1.at_, iV x9.2.1.seed], own cd2 a8 (([0, 1000, 1001] : List Int).length) 3 x9.2.2, own cd2 a3 (([0, x2.1.Events, (-1)] : List Int).length) 3 x4.2.2, box b4 26 [iV x2.1.Events, .slice a2 x2.1.Places.length c2], own cd28 a2 x2.1.Places.length c2 x2.1.Places, box b2 28 [iV 0, iV 0, iV 0, iV 0], box b1 26 [iV 0, .slice none 0 0]] := H93.pk [2, 0, 1, 3, 4, 5, 6, 7]
      have hn7 := (H94.len 0 rfl)
      have H95 : Hold h h40 [own cd2 a7 (([0, 6] : List Int).length) 2 ([0, 6] : List Int), box b3 67 [.slice a1 x1.code.length c1, iV x9.2.1.at_, iV x9.2.1.seed], own cd2 a8 (([0, 1000, 1001] : List Int).length) 3 x9.2.2, own cd2 a3 (([0, x2.1.Events, (-1)] : List Int).length) 3 x4.2.2, box b4 26 [iV x2.1.Events, .slice a2 x2.1.Places.length c2], own cd28 a2 x2.1.Places.length c2 x2.1.Places, box b2 28 [iV 0, iV 0, iV 0, iV 0], box b1 26 [iV 0, .slice none 0 0]] := by rw [hn7]; exact H94
      have H96 : Hold h h40 [box b3 67 [.slice a1 x1.code.length c1, iV x9.2.1.at_, iV x9.2.1.seed], own cd2 a7 (([0, 6] : List Int).length) 2 ([0, 6] : List Int), own cd2 a8 (([0, 1000, 1001] : List Int).length) 3 x9.2.2, own cd2 a3 (([0, x2.1.Events, (-1)] : List Int).length) 3 x4.2.2, box b4 26 [iV x2.1.Events, .slice a2 x2.1.Places.length c2], own cd28 a2 x2.1.Places.length c2 x2.1.Places, box b2 28 [iV 0, iV 0, iV 0, iV 0], box b1 26 [iV 0, .slice none 0 0]] := H95.pk [1, 0, 2, 3, 4, 5, 6, 7]
      have H97 : Hold h h40 [box b3 67 [.slice a1 x1.code.length c1, iV x9.2.1.at_, iV x9.2.1.seed], own cd2 a7 (([0, 6] : List Int).length) 2 ([0, 6] : List Int), bun [own cd2 a8 (([0, 1000, 1001] : List Int).length) 3 x9.2.2, own cd2 a3 (([0, x2.1.Events, (-1)] : List Int).length) 3 x4.2.2, box b4 26 [iV x2.1.Events, .slice a2 x2.1.Places.length c2], own cd28 a2 x2.1.Places.length c2 x2.1.Places, box b2 28 [iV 0, iV 0, iV 0, iV 0], box b1 26 [iV 0, .slice none 0 0]]] := H96.bd 2
      refine ZC 23 #[pV b3, .slice a7 2 2] (Fn.arg (w_spec_l01Pick h h40 _ (⟨x1.code, x9.2.1.at_, x9.2.1.seed⟩ : TL01source) b3 a1 c1 r1 ([0, 6] : List Int) a7 2 H97 _ _ hx10) (by simp only [hn7])) (fun v10 h41 hp10 => ?_)
      obtain ⟨rfl, H98⟩ := hp10
      have H99 : Hold h h41 [box b3 67 [.slice a1 x1.code.length c1, iV x10.2.1.at_, iV x10.2.1.seed], own cd2 a7 (([0, 6] : List Int).length) 2 x10.2.2, own cd2 a8 (([0, 1000, 1001] : List Int).length) 3 x9.2.2, own cd2 a3 (([0, x2.1.Events, (-1)] : List Int).length) 3 x4.2.2, box b4 26 [iV x2.1.Events, .slice a2 x2.1.Places.length c2], own cd28 a2 x2.1.Places.length c2 x2.1.Places, box b2 28 [iV 0, iV 0, iV 0, iV 0], box b1 26 [iV 0, .slice none 0 0]] := H98.ub (js := _) 2 2 H96
      refine ZA [box b4 26 [iV x2.1.Events, .slice a2 x2.1.Places.length c2], own cd28 a2 x2.1.Places.length c2 x2.1.Places, box b2 28 [iV 0, iV 0, iV 0, iV 0]] [4, 5, 6] [0, 1, 2] H99 ?_
      refine ZB 2 [.agg #[iV x4.1, iV 0, iV x9.1, iV x10.1]] 12 ?_
      refine ZE 1 13 (fun h42 H100 => ?_)
      have H101 := H100
      have H103 : Hold h h42 [box b1 26 [iV 0, .slice none 0 0], box b3 67 [.slice a1 x1.code.length c1, iV x10.2.1.at_, iV x10.2.1.seed], own cd2 a7 (([0, 6] : List Int).length) 2 x10.2.2, own cd2 a8 (([0, 1000, 1001] : List Int).length) 3 x9.2.2, own cd2 a3 (([0, x2.1.Events, (-1)] : List Int).length) 3 x4.2.2, box b4 26 [iV x2.1.Events, .slice a2 x2.1.Places.length c2], own cd28 a2 x2.1.Places.length c2 x2.1.Places, box b2 28 [iV 0, iV 0, iV 0, iV 0]] := H101.pk [7, 0, 1, 2, 3, 4, 5, 6]
      refine ZP 26 0 [iV x2.1.Events, .slice a2 x2.1.Places.length c2] (.agg #[iV x2.1.Events, .slice a2 x2.1.Places.length c2]) H103 (fun h43 H102 => ?_)
      refine ZA [box b4 26 [iV x2.1.Events, .slice a2 x2.1.Places.length c2], own cd28 a2 x2.1.Places.length c2 x2.1.Places, box b2 28 [iV 0, iV 0, iV 0, iV 0]] [5, 6, 7] [0, 1, 2] H102 ?_
      refine ZT 14 (fun h44 H104 => ?_)
      have H105 := H104
      have H107 : Hold h h44 [box b2 28 [iV 0, iV 0, iV 0, iV 0], box b1 26 [iV x2.1.Events, .slice a2 x2.1.Places.length c2], box b3 67 [.slice a1 x1.code.length c1, iV x10.2.1.at_, iV x10.2.1.seed], own cd2 a7 (([0, 6] : List Int).length) 2 x10.2.2, own cd2 a8 (([0, 1000, 1001] : List Int).length) 3 x9.2.2, own cd2 a3 (([0, x2.1.Events, (-1)] : List Int).length) 3 x4.2.2, box b4 26 [iV x2.1.Events, .slice a2 x2.1.Places.length c2], own cd28 a2 x2.1.Places.length c2 x2.1.Places] := H105.pk [7, 0, 1, 2, 3, 4, 5, 6]
      refine Ze ?_
      refine ZP 28 0 [iV x4.1, iV 0, iV x9.1, iV x10.1] (.agg #[iV x4.1, iV 0, iV x9.1, iV x10.1]) H107 (fun h45 H106 => ?_)
      refine Zx ?_
      refine Zk [2, 3] [(2, pV b1), (3, pV b2)] ?_
      have H893 : Hold h h45 [box b1 26 [iV x2.1.Events, .slice a2 x2.1.Places.length c2], own cd28 a2 x2.1.Places.length c2 x2.1.Places, box b2 28 [iV x4.1, iV 0, iV x9.1, iV x10.1]] := H106.pk [1, 7, 0]
      have gs1 := M.ret_some gs1
      subst gs1
      exact Zf [2, 3] ⟨rfl, H893⟩
    ·intro h46 H108
     have H109 := H108
     refine E_lit (C := cd2) (n := 3) (l := ([0, 1000, 1001] : List Int)) (cs := [iV 0, iV 1000, iV 1001]) H109 (fun w => by kernel_rfl) (Enc.consE (cd2_own 0 _) (Enc.consE (cd2_own 1000 _) (Enc.consE (cd2_own 1001 _) (Enc.nil _ _) rfl) rfl) rfl) rfl (by decide) (fun a9 h47 H110 => ?_)
     refine ZA [box b4 26 [iV x2.1.Events, .slice a2 x2.1.Places.length c2], own cd28 a2 x2.1.Places.length c2 x2.1.Places, box b2 28 [iV 0, iV 0, iV 0, iV 0]] [3, 4, 5] [0, 1, 2] H110 ?_
     refine DR_e2 6 5 10 (by kernel_rfl) (by kernel_rfl) (by kernel_rfl) (by kernel_rfl) ?_ ?_
     ·intro h48 H111
      have H112 := H111
      obtain ⟨x11, hx11, gs1⟩ := M.bind_some gs1
      have H113 : Hold h h48 [own cd2 a3 3 3 ([0, x2.1.Events, (-1)] : List Int), own cd2 a9 3 3 ([0, 1000, 1001] : List Int), box b3 67 [.slice a1 x1.code.length c1, iV x3.2.at_, iV x3.2.seed], box b4 26 [iV x2.1.Events, .slice a2 x2.1.Places.length c2], own cd28 a2 x2.1.Places.length c2 x2.1.Places, box b2 28 [iV 0, iV 0, iV 0, iV 0], box b1 26 [iV 0, .slice none 0 0]] := H112.pk [1, 0, 2, 3, 4, 5, 6]
      have hn8 := (H113.len 0 rfl)
      have H114 : Hold h h48 [own cd2 a3 (([0, x2.1.Events, (-1)] : List Int).length) 3 ([0, x2.1.Events, (-1)] : List Int), own cd2 a9 3 3 ([0, 1000, 1001] : List Int), box b3 67 [.slice a1 x1.code.length c1, iV x3.2.at_, iV x3.2.seed], box b4 26 [iV x2.1.Events, .slice a2 x2.1.Places.length c2], own cd28 a2 x2.1.Places.length c2 x2.1.Places, box b2 28 [iV 0, iV 0, iV 0, iV 0], box b1 26 [iV 0, .slice none 0 0]] := by rw [hn8]; exact H113
      have H115 : Hold h h48 [box b3 67 [.slice a1 x1.code.length c1, iV x3.2.at_, iV x3.2.seed], own cd2 a3 (([0, x2.1.Events, (-1)] : List Int).length) 3 ([0, x2.1.Events, (-1)] : List Int), own cd2 a9 3 3 ([0, 1000, 1001] : List Int), box b4 26 [iV x2.1.Events, .slice a2 x2.1.Places.length c2], own cd28 a2 x2.1.Places.length c2 x2.1.Places, box b2 28 [iV 0, iV 0, iV 0, iV 0], box b1 26 [iV 0, .slice none 0 0]] := H114.pk [2, 0, 1, 3, 4, 5, 6]
      have H116 : Hold h h48 [box b3 67 [.slice a1 x1.code.length c1, iV x3.2.at_, iV x3.2.seed], own cd2 a3 (([0, x2.1.Events, (-1)] : List Int).length) 3 ([0, x2.1.Events, (-1)] : List Int), bun [own cd2 a9 3 3 ([0, 1000, 1001] : List Int), box b4 26 [iV x2.1.Events, .slice a2 x2.1.Places.length c2], own cd28 a2 x2.1.Places.length c2 x2.1.Places, box b2 28 [iV 0, iV 0, iV 0, iV 0], box b1 26 [iV 0, .slice none 0 0]]] := H115.bd 2
      refine ZC 23 #[pV b3, .slice a3 3 3] (Fn.arg (w_spec_l01Pick h h48 _ (⟨x1.code, x3.2.at_, x3.2.seed⟩ : TL01source) b3 a1 c1 r1 ([0, x2.1.Events, (-1)] : List Int) a3 3 H116 _ _ hx11) (by simp only [hn8])) (fun v11 h49 hp11 => ?_)
      obtain ⟨rfl, H117⟩ := hp11
      have H118 : Hold h h49 [box b3 67 [.slice a1 x1.code.length c1, iV x11.2.1.at_, iV x11.2.1.seed], own cd2 a3 (([0, x2.1.Events, (-1)] : List Int).length) 3 x11.2.2, own cd2 a9 3 3 ([0, 1000, 1001] : List Int), box b4 26 [iV x2.1.Events, .slice a2 x2.1.Places.length c2], own cd28 a2 x2.1.Places.length c2 x2.1.Places, box b2 28 [iV 0, iV 0, iV 0, iV 0], box b1 26 [iV 0, .slice none 0 0]] := H117.ub (js := _) 2 2 H115
      refine ZA [box b4 26 [iV x2.1.Events, .slice a2 x2.1.Places.length c2], own cd28 a2 x2.1.Places.length c2 x2.1.Places, box b2 28 [iV 0, iV 0, iV 0, iV 0]] [3, 4, 5] [0, 1, 2] H118 ?_
      refine DR_e2 5 8 10 (by kernel_rfl) (by kernel_rfl) (by kernel_rfl) (by kernel_rfl) ?_ ?_
      ·intro h50 H119
       have H120 := H119
       obtain ⟨x12, hx12, gs1⟩ := M.bind_some gs1
       have H121 : Hold h h50 [own cd2 a9 3 3 ([0, 1000, 1001] : List Int), box b3 67 [.slice a1 x1.code.length c1, iV x11.2.1.at_, iV x11.2.1.seed], own cd2 a3 (([0, x2.1.Events, (-1)] : List Int).length) 3 x11.2.2, box b4 26 [iV x2.1.Events, .slice a2 x2.1.Places.length c2], own cd28 a2 x2.1.Places.length c2 x2.1.Places, box b2 28 [iV 0, iV 0, iV 0, iV 0], box b1 26 [iV 0, .slice none 0 0]] := H120.pk [2, 0, 1, 3, 4, 5, 6]
       have hn9 := (H121.len 0 rfl)
       have H122 : Hold h h50 [own cd2 a9 (([0, 1000, 1001] : List Int).length) 3 ([0, 1000, 1001] : List Int), box b3 67 [.slice a1 x1.code.length c1, iV x11.2.1.at_, iV x11.2.1.seed], own cd2 a3 (([0, x2.1.Events, (-1)] : List Int).length) 3 x11.2.2, box b4 26 [iV x2.1.Events, .slice a2 x2.1.Places.length c2], own cd28 a2 x2.1.Places.length c2 x2.1.Places, box b2 28 [iV 0, iV 0, iV 0, iV 0], box b1 26 [iV 0, .slice none 0 0]] := by rw [hn9]; exact H121
       have H123 : Hold h h50 [box b3 67 [.slice a1 x1.code.length c1, iV x11.2.1.at_, iV x11.2.1.seed], own cd2 a9 (([0, 1000, 1001] : List Int).length) 3 ([0, 1000, 1001] : List Int), own cd2 a3 (([0, x2.1.Events, (-1)] : List Int).length) 3 x11.2.2, box b4 26 [iV x2.1.Events, .slice a2 x2.1.Places.length c2], own cd28 a2 x2.1.Places.length c2 x2.1.Places, box b2 28 [iV 0, iV 0, iV 0, iV 0], box b1 26 [iV 0, .slice none 0 0]] := H122.pk [1, 0, 2, 3, 4, 5, 6]
       have H124 : Hold h h50 [box b3 67 [.slice a1 x1.code.length c1, iV x11.2.1.at_, iV x11.2.1.seed], own cd2 a9 (([0, 1000, 1001] : List Int).length) 3 ([0, 1000, 1001] : List Int), bun [own cd2 a3 (([0, x2.1.Events, (-1)] : List Int).length) 3 x11.2.2, box b4 26 [iV x2.1.Events, .slice a2 x2.1.Places.length c2], own cd28 a2 x2.1.Places.length c2 x2.1.Places, box b2 28 [iV 0, iV 0, iV 0, iV 0], box b1 26 [iV 0, .slice none 0 0]]] := H123.bd 2
       refine ZC 23 #[pV b3, .slice a9 3 3] (Fn.arg (w_spec_l01Pick h h50 _ (⟨x1.code, x11.2.1.at_, x11.2.1.seed⟩ : TL01source) b3 a1 c1 r1 ([0, 1000, 1001] : List Int) a9 3 H124 _ _ hx12) (by simp only [hn9])) (fun v12 h51 hp12 => ?_)
       obtain ⟨rfl, H125⟩ := hp12
       have H126 : Hold h h51 [box b3 67 [.slice a1 x1.code.length c1, iV x12.2.1.at_, iV x12.2.1.seed], own cd2 a9 (([0, 1000, 1001] : List Int).length) 3 x12.2.2, own cd2 a3 (([0, x2.1.Events, (-1)] : List Int).length) 3 x11.2.2, box b4 26 [iV x2.1.Events, .slice a2 x2.1.Places.length c2], own cd28 a2 x2.1.Places.length c2 x2.1.Places, box b2 28 [iV 0, iV 0, iV 0, iV 0], box b1 26 [iV 0, .slice none 0 0]] := H125.ub (js := _) 2 2 H123
       refine ZA [box b4 26 [iV x2.1.Events, .slice a2 x2.1.Places.length c2], own cd28 a2 x2.1.Places.length c2 x2.1.Places, box b2 28 [iV 0, iV 0, iV 0, iV 0]] [3, 4, 5] [0, 1, 2] H126 ?_
       refine ZE 4 10 (fun h52 H127 => ?_)
       have H128 := H127
       refine E_lit (C := cd2) (n := 2) (l := ([0, 6] : List Int)) (cs := [iV 0, iV 6]) H128 (fun w => by kernel_rfl) (Enc.consE (cd2_own 0 _) (Enc.consE (cd2_own 6 _) (Enc.nil _ _) rfl) rfl) rfl (by decide) (fun a10 h53 H129 => ?_)
       refine ZA [box b4 26 [iV x2.1.Events, .slice a2 x2.1.Places.length c2], own cd28 a2 x2.1.Places.length c2 x2.1.Places, box b2 28 [iV 0, iV 0, iV 0, iV 0]] [4, 5, 6] [0, 1, 2] H129 ?_
       refine ZE 3 11 (fun h54 H130 => ?_)
       have H131 := H130
       obtain ⟨x13, hx13, gs1⟩ := M.bind_some gs1
       have hn10 := (H131.len 0 rfl)
       have H132 : Hold h h54 [own cd2 a10 (([0, 6] : List Int).length) 2 ([0, 6] : List Int), box b3 67 [.slice a1 x1.code.length c1, iV x12.2.1.at_, iV x12.2.1.seed], own cd2 a9 (([0, 1000, 1001] : List Int).length) 3 x12.2.2, own cd2 a3 (([0, x2.1.Events, (-1)] : List Int).length) 3 x11.2.2, box b4 26 [iV x2.1.Events, .slice a2 x2.1.Places.length c2], own cd28 a2 x2.1.Places.length c2 x2.1.Places, box b2 28 [iV 0, iV 0, iV 0, iV 0], box b1 26 [iV 0, .slice none 0 0]] := by rw [hn10]; exact H131
       have H133 : Hold h h54 [box b3 67 [.slice a1 x1.code.length c1, iV x12.2.1.at_, iV x12.2.1.seed], own cd2 a10 (([0, 6] : List Int).length) 2 ([0, 6] : List Int), own cd2 a9 (([0, 1000, 1001] : List Int).length) 3 x12.2.2, own cd2 a3 (([0, x2.1.Events, (-1)] : List Int).length) 3 x11.2.2, box b4 26 [iV x2.1.Events, .slice a2 x2.1.Places.length c2], own cd28 a2 x2.1.Places.length c2 x2.1.Places, box b2 28 [iV 0, iV 0, iV 0, iV 0], box b1 26 [iV 0, .slice none 0 0]] := H132.pk [1, 0, 2, 3, 4, 5, 6, 7]
       have H134 : Hold h h54 [box b3 67 [.slice a1 x1.code.length c1, iV x12.2.1.at_, iV x12.2.1.seed], own cd2 a10 (([0, 6] : List Int).length) 2 ([0, 6] : List Int), bun [own cd2 a9 (([0, 1000, 1001] : List Int).length) 3 x12.2.2, own cd2 a3 (([0, x2.1.Events, (-1)] : List Int).length) 3 x11.2.2, box b4 26 [iV x2.1.Events, .slice a2 x2.1.Places.length c2], own cd28 a2 x2.1.Places.length c2 x2.1.Places, box b2 28 [iV 0, iV 0, iV 0, iV 0], box b1 26 [iV 0, .slice none 0 0]]] := H133.bd 2
       refine ZC 23 #[pV b3, .slice a10 2 2] (Fn.arg (w_spec_l01Pick h h54 _ (⟨x1.code, x12.2.1.at_, x12.2.1.seed⟩ : TL01source) b3 a1 c1 r1 ([0, 6] : List Int) a10 2 H134 _ _ hx13) (by simp only [hn10])) (fun v13 h55 hp13 => ?_)
       obtain ⟨rfl, H135⟩ := hp13
       have H136 : Hold h h55 [box b3 67 [.slice a1 x1.code.length c1, iV x13.2.1.at_, iV x13.2.1.seed], own cd2 a10 (([0, 6] : List Int).length) 2 x13.2.2, own cd2 a9 (([0, 1000, 1001] : List Int).length) 3 x12.2.2, own cd2 a3 (([0, x2.1.Events, (-1)] : List Int).length) 3 x11.2.2, box b4 26 [iV x2.1.Events, .slice a2 x2.1.Places.length c2], own cd28 a2 x2.1.Places.length c2 x2.1.Places, box b2 28 [iV 0, iV 0, iV 0, iV 0], box b1 26 [iV 0, .slice none 0 0]] := H135.ub (js := _) 2 2 H133
       refine ZA [box b4 26 [iV x2.1.Events, .slice a2 x2.1.Places.length c2], own cd28 a2 x2.1.Places.length c2 x2.1.Places, box b2 28 [iV 0, iV 0, iV 0, iV 0]] [4, 5, 6] [0, 1, 2] H136 ?_
       refine ZB 2 [.agg #[iV x11.1, iV 0, iV x12.1, iV x13.1]] 12 ?_
       refine ZE 1 13 (fun h56 H137 => ?_)
       have H138 := H137
       have H140 : Hold h h56 [box b1 26 [iV 0, .slice none 0 0], box b3 67 [.slice a1 x1.code.length c1, iV x13.2.1.at_, iV x13.2.1.seed], own cd2 a10 (([0, 6] : List Int).length) 2 x13.2.2, own cd2 a9 (([0, 1000, 1001] : List Int).length) 3 x12.2.2, own cd2 a3 (([0, x2.1.Events, (-1)] : List Int).length) 3 x11.2.2, box b4 26 [iV x2.1.Events, .slice a2 x2.1.Places.length c2], own cd28 a2 x2.1.Places.length c2 x2.1.Places, box b2 28 [iV 0, iV 0, iV 0, iV 0]] := H138.pk [7, 0, 1, 2, 3, 4, 5, 6]
       refine ZP 26 0 [iV x2.1.Events, .slice a2 x2.1.Places.length c2] (.agg #[iV x2.1.Events, .slice a2 x2.1.Places.length c2]) H140 (fun h57 H139 => ?_)
       refine ZA [box b4 26 [iV x2.1.Events, .slice a2 x2.1.Places.length c2], own cd28 a2 x2.1.Places.length c2 x2.1.Places, box b2 28 [iV 0, iV 0, iV 0, iV 0]] [5, 6, 7] [0, 1, 2] H139 ?_
       refine ZT 14 (fun h58 H141 => ?_)
       have H142 := H141
       have H144 : Hold h h58 [box b2 28 [iV 0, iV 0, iV 0, iV 0], box b1 26 [iV x2.1.Events, .slice a2 x2.1.Places.length c2], box b3 67 [.slice a1 x1.code.length c1, iV x13.2.1.at_, iV x13.2.1.seed], own cd2 a10 (([0, 6] : List Int).length) 2 x13.2.2, own cd2 a9 (([0, 1000, 1001] : List Int).length) 3 x12.2.2, own cd2 a3 (([0, x2.1.Events, (-1)] : List Int).length) 3 x11.2.2, box b4 26 [iV x2.1.Events, .slice a2 x2.1.Places.length c2], own cd28 a2 x2.1.Places.length c2 x2.1.Places] := H142.pk [7, 0, 1, 2, 3, 4, 5, 6]
       refine Ze ?_
       refine ZP 28 0 [iV x11.1, iV 0, iV x12.1, iV x13.1] (.agg #[iV x11.1, iV 0, iV x12.1, iV x13.1]) H144 (fun h59 H143 => ?_)
       refine Zx ?_
       refine Zk [2, 3] [(2, pV b1), (3, pV b2)] ?_
       have H894 : Hold h h59 [box b1 26 [iV x2.1.Events, .slice a2 x2.1.Places.length c2], own cd28 a2 x2.1.Places.length c2 x2.1.Places, box b2 28 [iV x11.1, iV 0, iV x12.1, iV x13.1]] := H143.pk [1, 7, 0]
       have gs1 := M.ret_some gs1
       subst gs1
       exact Zf [2, 3] ⟨rfl, H894⟩
      ·intro h60 H145
       have H146 := H145
       refine E_lit (C := cd2) (n := 2) (l := ([0, 6] : List Int)) (cs := [iV 0, iV 6]) H146 (fun w => by kernel_rfl) (Enc.consE (cd2_own 0 _) (Enc.consE (cd2_own 6 _) (Enc.nil _ _) rfl) rfl) rfl (by decide) (fun a11 h61 H147 => ?_)
       refine ZA [box b4 26 [iV x2.1.Events, .slice a2 x2.1.Places.length c2], own cd28 a2 x2.1.Places.length c2 x2.1.Places, box b2 28 [iV 0, iV 0, iV 0, iV 0]] [4, 5, 6] [0, 1, 2] H147 ?_
       refine ZE 4 8 (fun h62 H148 => ?_)
       have H149 := H148
       obtain ⟨x14, hx14, gs1⟩ := M.bind_some gs1
       have H150 : Hold h h62 [own cd2 a9 3 3 ([0, 1000, 1001] : List Int), own cd2 a11 2 2 ([0, 6] : List Int), box b3 67 [.slice a1 x1.code.length c1, iV x11.2.1.at_, iV x11.2.1.seed], own cd2 a3 (([0, x2.1.Events, (-1)] : List Int).length) 3 x11.2.2, box b4 26 [iV x2.1.Events, .slice a2 x2.1.Places.length c2], own cd28 a2 x2.1.Places.length c2 x2.1.Places, box b2 28 [iV 0, iV 0, iV 0, iV 0], box b1 26 [iV 0, .slice none 0 0]] := H149.pk [3, 0, 1, 2, 4, 5, 6, 7]
       have hn11 := (H150.len 0 rfl)
       have H151 : Hold h h62 [own cd2 a9 (([0, 1000, 1001] : List Int).length) 3 ([0, 1000, 1001] : List Int), own cd2 a11 2 2 ([0, 6] : List Int), box b3 67 [.slice a1 x1.code.length c1, iV x11.2.1.at_, iV x11.2.1.seed], own cd2 a3 (([0, x2.1.Events, (-1)] : List Int).length) 3 x11.2.2, box b4 26 [iV x2.1.Events, .slice a2 x2.1.Places.length c2], own cd28 a2 x2.1.Places.length c2 x2.1.Places, box b2 28 [iV 0, iV 0, iV 0, iV 0], box b1 26 [iV 0, .slice none 0 0]] := by rw [hn11]; exact H150
       have H152 : Hold h h62 [box b3 67 [.slice a1 x1.code.length c1, iV x11.2.1.at_, iV x11.2.1.seed], own cd2 a9 (([0, 1000, 1001] : List Int).length) 3 ([0, 1000, 1001] : List Int), own cd2 a11 2 2 ([0, 6] : List Int), own cd2 a3 (([0, x2.1.Events, (-1)] : List Int).length) 3 x11.2.2, box b4 26 [iV x2.1.Events, .slice a2 x2.1.Places.length c2], own cd28 a2 x2.1.Places.length c2 x2.1.Places, box b2 28 [iV 0, iV 0, iV 0, iV 0], box b1 26 [iV 0, .slice none 0 0]] := H151.pk [2, 0, 1, 3, 4, 5, 6, 7]
       have H153 : Hold h h62 [box b3 67 [.slice a1 x1.code.length c1, iV x11.2.1.at_, iV x11.2.1.seed], own cd2 a9 (([0, 1000, 1001] : List Int).length) 3 ([0, 1000, 1001] : List Int), bun [own cd2 a11 2 2 ([0, 6] : List Int), own cd2 a3 (([0, x2.1.Events, (-1)] : List Int).length) 3 x11.2.2, box b4 26 [iV x2.1.Events, .slice a2 x2.1.Places.length c2], own cd28 a2 x2.1.Places.length c2 x2.1.Places, box b2 28 [iV 0, iV 0, iV 0, iV 0], box b1 26 [iV 0, .slice none 0 0]]] := H152.bd 2
       refine ZC 23 #[pV b3, .slice a9 3 3] (Fn.arg (w_spec_l01Pick h h62 _ (⟨x1.code, x11.2.1.at_, x11.2.1.seed⟩ : TL01source) b3 a1 c1 r1 ([0, 1000, 1001] : List Int) a9 3 H153 _ _ hx14) (by simp only [hn11])) (fun v14 h63 hp14 => ?_)
       obtain ⟨rfl, H154⟩ := hp14
       have H155 : Hold h h63 [box b3 67 [.slice a1 x1.code.length c1, iV x14.2.1.at_, iV x14.2.1.seed], own cd2 a9 (([0, 1000, 1001] : List Int).length) 3 x14.2.2, own cd2 a11 2 2 ([0, 6] : List Int), own cd2 a3 (([0, x2.1.Events, (-1)] : List Int).length) 3 x11.2.2, box b4 26 [iV x2.1.Events, .slice a2 x2.1.Places.length c2], own cd28 a2 x2.1.Places.length c2 x2.1.Places, box b2 28 [iV 0, iV 0, iV 0, iV 0], box b1 26 [iV 0, .slice none 0 0]] := H154.ub (js := _) 2 2 H152
       refine ZA [box b4 26 [iV x2.1.Events, .slice a2 x2.1.Places.length c2], own cd28 a2 x2.1.Places.length c2 x2.1.Places, box b2 28 [iV 0, iV 0, iV 0, iV 0]] [4, 5, 6] [0, 1, 2] H155 ?_
       refine ZE 3 11 (fun h64 H156 => ?_)
       have H157 := H156
       obtain ⟨x15, hx15, gs1⟩ := M.bind_some gs1
       have H158 : Hold h h64 [own cd2 a11 2 2 ([0, 6] : List Int), box b3 67 [.slice a1 x1.code.length c1, iV x14.2.1.at_, iV x14.2.1.seed], own cd2 a9 (([0, 1000, 1001] : List Int).length) 3 x14.2.2, own cd2 a3 (([0, x2.1.Events, (-1)] : List Int).length) 3 x11.2.2, box b4 26 [iV x2.1.Events, .slice a2 x2.1.Places.length c2], own cd28 a2 x2.1.Places.length c2 x2.1.Places, box b2 28 [iV 0, iV 0, iV 0, iV 0], box b1 26 [iV 0, .slice none 0 0]] := H157.pk [2, 0, 1, 3, 4, 5, 6, 7]
       have hn12 := (H158.len 0 rfl)
       have H159 : Hold h h64 [own cd2 a11 (([0, 6] : List Int).length) 2 ([0, 6] : List Int), box b3 67 [.slice a1 x1.code.length c1, iV x14.2.1.at_, iV x14.2.1.seed], own cd2 a9 (([0, 1000, 1001] : List Int).length) 3 x14.2.2, own cd2 a3 (([0, x2.1.Events, (-1)] : List Int).length) 3 x11.2.2, box b4 26 [iV x2.1.Events, .slice a2 x2.1.Places.length c2], own cd28 a2 x2.1.Places.length c2 x2.1.Places, box b2 28 [iV 0, iV 0, iV 0, iV 0], box b1 26 [iV 0, .slice none 0 0]] := by rw [hn12]; exact H158
       have H160 : Hold h h64 [box b3 67 [.slice a1 x1.code.length c1, iV x14.2.1.at_, iV x14.2.1.seed], own cd2 a11 (([0, 6] : List Int).length) 2 ([0, 6] : List Int), own cd2 a9 (([0, 1000, 1001] : List Int).length) 3 x14.2.2, own cd2 a3 (([0, x2.1.Events, (-1)] : List Int).length) 3 x11.2.2, box b4 26 [iV x2.1.Events, .slice a2 x2.1.Places.length c2], own cd28 a2 x2.1.Places.length c2 x2.1.Places, box b2 28 [iV 0, iV 0, iV 0, iV 0], box b1 26 [iV 0, .slice none 0 0]] := H159.pk [1, 0, 2, 3, 4, 5, 6, 7]
       have H161 : Hold h h64 [box b3 67 [.slice a1 x1.code.length c1, iV x14.2.1.at_, iV x14.2.1.seed], own cd2 a11 (([0, 6] : List Int).length) 2 ([0, 6] : List Int), bun [own cd2 a9 (([0, 1000, 1001] : List Int).length) 3 x14.2.2, own cd2 a3 (([0, x2.1.Events, (-1)] : List Int).length) 3 x11.2.2, box b4 26 [iV x2.1.Events, .slice a2 x2.1.Places.length c2], own cd28 a2 x2.1.Places.length c2 x2.1.Places, box b2 28 [iV 0, iV 0, iV 0, iV 0], box b1 26 [iV 0, .slice none 0 0]]] := H160.bd 2
       refine ZC 23 #[pV b3, .slice a11 2 2] (Fn.arg (w_spec_l01Pick h h64 _ (⟨x1.code, x14.2.1.at_, x14.2.1.seed⟩ : TL01source) b3 a1 c1 r1 ([0, 6] : List Int) a11 2 H161 _ _ hx15) (by simp only [hn12])) (fun v15 h65 hp15 => ?_)
       obtain ⟨rfl, H162⟩ := hp15
       have H163 : Hold h h65 [box b3 67 [.slice a1 x1.code.length c1, iV x15.2.1.at_, iV x15.2.1.seed], own cd2 a11 (([0, 6] : List Int).length) 2 x15.2.2, own cd2 a9 (([0, 1000, 1001] : List Int).length) 3 x14.2.2, own cd2 a3 (([0, x2.1.Events, (-1)] : List Int).length) 3 x11.2.2, box b4 26 [iV x2.1.Events, .slice a2 x2.1.Places.length c2], own cd28 a2 x2.1.Places.length c2 x2.1.Places, box b2 28 [iV 0, iV 0, iV 0, iV 0], box b1 26 [iV 0, .slice none 0 0]] := H162.ub (js := _) 2 2 H160
       refine ZA [box b4 26 [iV x2.1.Events, .slice a2 x2.1.Places.length c2], own cd28 a2 x2.1.Places.length c2 x2.1.Places, box b2 28 [iV 0, iV 0, iV 0, iV 0]] [4, 5, 6] [0, 1, 2] H163 ?_
       refine ZB 2 [.agg #[iV x11.1, iV 0, iV x14.1, iV x15.1]] 12 ?_
       refine ZE 1 13 (fun h66 H164 => ?_)
       have H165 := H164
       have H167 : Hold h h66 [box b1 26 [iV 0, .slice none 0 0], box b3 67 [.slice a1 x1.code.length c1, iV x15.2.1.at_, iV x15.2.1.seed], own cd2 a11 (([0, 6] : List Int).length) 2 x15.2.2, own cd2 a9 (([0, 1000, 1001] : List Int).length) 3 x14.2.2, own cd2 a3 (([0, x2.1.Events, (-1)] : List Int).length) 3 x11.2.2, box b4 26 [iV x2.1.Events, .slice a2 x2.1.Places.length c2], own cd28 a2 x2.1.Places.length c2 x2.1.Places, box b2 28 [iV 0, iV 0, iV 0, iV 0]] := H165.pk [7, 0, 1, 2, 3, 4, 5, 6]
       refine ZP 26 0 [iV x2.1.Events, .slice a2 x2.1.Places.length c2] (.agg #[iV x2.1.Events, .slice a2 x2.1.Places.length c2]) H167 (fun h67 H166 => ?_)
       refine ZA [box b4 26 [iV x2.1.Events, .slice a2 x2.1.Places.length c2], own cd28 a2 x2.1.Places.length c2 x2.1.Places, box b2 28 [iV 0, iV 0, iV 0, iV 0]] [5, 6, 7] [0, 1, 2] H166 ?_
       refine ZT 14 (fun h68 H168 => ?_)
       have H169 := H168
       have H171 : Hold h h68 [box b2 28 [iV 0, iV 0, iV 0, iV 0], box b1 26 [iV x2.1.Events, .slice a2 x2.1.Places.length c2], box b3 67 [.slice a1 x1.code.length c1, iV x15.2.1.at_, iV x15.2.1.seed], own cd2 a11 (([0, 6] : List Int).length) 2 x15.2.2, own cd2 a9 (([0, 1000, 1001] : List Int).length) 3 x14.2.2, own cd2 a3 (([0, x2.1.Events, (-1)] : List Int).length) 3 x11.2.2, box b4 26 [iV x2.1.Events, .slice a2 x2.1.Places.length c2], own cd28 a2 x2.1.Places.length c2 x2.1.Places] := H169.pk [7, 0, 1, 2, 3, 4, 5, 6]
       refine Ze ?_
       refine ZP 28 0 [iV x11.1, iV 0, iV x14.1, iV x15.1] (.agg #[iV x11.1, iV 0, iV x14.1, iV x15.1]) H171 (fun h69 H170 => ?_)
       refine Zx ?_
       refine Zk [2, 3] [(2, pV b1), (3, pV b2)] ?_
       have H895 : Hold h h69 [box b1 26 [iV x2.1.Events, .slice a2 x2.1.Places.length c2], own cd28 a2 x2.1.Places.length c2 x2.1.Places, box b2 28 [iV x11.1, iV 0, iV x14.1, iV x15.1]] := H170.pk [1, 7, 0]
       have gs1 := M.ret_some gs1
       subst gs1
       exact Zf [2, 3] ⟨rfl, H895⟩
     ·intro h70 H172
      have H173 := H172
      refine E_lit (C := cd2) (n := 2) (l := ([0, 6] : List Int)) (cs := [iV 0, iV 6]) H173 (fun w => by kernel_rfl) (Enc.consE (cd2_own 0 _) (Enc.consE (cd2_own 6 _) (Enc.nil _ _) rfl) rfl) rfl (by decide) (fun a12 h71 H174 => ?_)
      refine ZA [box b4 26 [iV x2.1.Events, .slice a2 x2.1.Places.length c2], own cd28 a2 x2.1.Places.length c2 x2.1.Places, box b2 28 [iV 0, iV 0, iV 0, iV 0]] [4, 5, 6] [0, 1, 2] H174 ?_
      refine ZE 5 5 (fun h72 H175 => ?_)
      have H176 := H175
      obtain ⟨x16, hx16, gs1⟩ := M.bind_some gs1
      have H177 : Hold h h72 [own cd2 a3 3 3 ([0, x2.1.Events, (-1)] : List Int), own cd2 a12 2 2 ([0, 6] : List Int), own cd2 a9 3 3 ([0, 1000, 1001] : List Int), box b3 67 [.slice a1 x1.code.length c1, iV x3.2.at_, iV x3.2.seed], box b4 26 [iV x2.1.Events, .slice a2 x2.1.Places.length c2], own cd28 a2 x2.1.Places.length c2 x2.1.Places, box b2 28 [iV 0, iV 0, iV 0, iV 0], box b1 26 [iV 0, .slice none 0 0]] := H176.pk [2, 0, 1, 3, 4, 5, 6, 7]
      have hn13 := (H177.len 0 rfl)
      have H178 : Hold h h72 [own cd2 a3 (([0, x2.1.Events, (-1)] : List Int).length) 3 ([0, x2.1.Events, (-1)] : List Int), own cd2 a12 2 2 ([0, 6] : List Int), own cd2 a9 3 3 ([0, 1000, 1001] : List Int), box b3 67 [.slice a1 x1.code.length c1, iV x3.2.at_, iV x3.2.seed], box b4 26 [iV x2.1.Events, .slice a2 x2.1.Places.length c2], own cd28 a2 x2.1.Places.length c2 x2.1.Places, box b2 28 [iV 0, iV 0, iV 0, iV 0], box b1 26 [iV 0, .slice none 0 0]] := by rw [hn13]; exact H177
      have H179 : Hold h h72 [box b3 67 [.slice a1 x1.code.length c1, iV x3.2.at_, iV x3.2.seed], own cd2 a3 (([0, x2.1.Events, (-1)] : List Int).length) 3 ([0, x2.1.Events, (-1)] : List Int), own cd2 a12 2 2 ([0, 6] : List Int), own cd2 a9 3 3 ([0, 1000, 1001] : List Int), box b4 26 [iV x2.1.Events, .slice a2 x2.1.Places.length c2], own cd28 a2 x2.1.Places.length c2 x2.1.Places, box b2 28 [iV 0, iV 0, iV 0, iV 0], box b1 26 [iV 0, .slice none 0 0]] := H178.pk [3, 0, 1, 2, 4, 5, 6, 7]
      have H180 : Hold h h72 [box b3 67 [.slice a1 x1.code.length c1, iV x3.2.at_, iV x3.2.seed], own cd2 a3 (([0, x2.1.Events, (-1)] : List Int).length) 3 ([0, x2.1.Events, (-1)] : List Int), bun [own cd2 a12 2 2 ([0, 6] : List Int), own cd2 a9 3 3 ([0, 1000, 1001] : List Int), box b4 26 [iV x2.1.Events, .slice a2 x2.1.Places.length c2], own cd28 a2 x2.1.Places.length c2 x2.1.Places, box b2 28 [iV 0, iV 0, iV 0, iV 0], box b1 26 [iV 0, .slice none 0 0]]] := H179.bd 2
      refine ZC 23 #[pV b3, .slice a3 3 3] (Fn.arg (w_spec_l01Pick h h72 _ (⟨x1.code, x3.2.at_, x3.2.seed⟩ : TL01source) b3 a1 c1 r1 ([0, x2.1.Events, (-1)] : List Int) a3 3 H180 _ _ hx16) (by simp only [hn13])) (fun v16 h73 hp16 => ?_)
      obtain ⟨rfl, H181⟩ := hp16
      have H182 : Hold h h73 [box b3 67 [.slice a1 x1.code.length c1, iV x16.2.1.at_, iV x16.2.1.seed], own cd2 a3 (([0, x2.1.Events, (-1)] : List Int).length) 3 x16.2.2, own cd2 a12 2 2 ([0, 6] : List Int), own cd2 a9 3 3 ([0, 1000, 1001] : List Int), box b4 26 [iV x2.1.Events, .slice a2 x2.1.Places.length c2], own cd28 a2 x2.1.Places.length c2 x2.1.Places, box b2 28 [iV 0, iV 0, iV 0, iV 0], box b1 26 [iV 0, .slice none 0 0]] := H181.ub (js := _) 2 2 H179
      refine ZA [box b4 26 [iV x2.1.Events, .slice a2 x2.1.Places.length c2], own cd28 a2 x2.1.Places.length c2 x2.1.Places, box b2 28 [iV 0, iV 0, iV 0, iV 0]] [4, 5, 6] [0, 1, 2] H182 ?_
      refine ZE 4 8 (fun h74 H183 => ?_)
      have H184 := H183
      obtain ⟨x17, hx17, gs1⟩ := M.bind_some gs1
      have H185 : Hold h h74 [own cd2 a9 3 3 ([0, 1000, 1001] : List Int), box b3 67 [.slice a1 x1.code.length c1, iV x16.2.1.at_, iV x16.2.1.seed], own cd2 a3 (([0, x2.1.Events, (-1)] : List Int).length) 3 x16.2.2, own cd2 a12 2 2 ([0, 6] : List Int), box b4 26 [iV x2.1.Events, .slice a2 x2.1.Places.length c2], own cd28 a2 x2.1.Places.length c2 x2.1.Places, box b2 28 [iV 0, iV 0, iV 0, iV 0], box b1 26 [iV 0, .slice none 0 0]] := H184.pk [3, 0, 1, 2, 4, 5, 6, 7]
      have hn14 := (H185.len 0 rfl)
      have H186 : Hold h h74 [own cd2 a9 (([0, 1000, 1001] : List Int).length) 3 ([0, 1000, 1001] : List Int), box b3 67 [.slice a1 x1.code.length c1, iV x16.2.1.at_, iV x16.2.1.seed], own cd2 a3 (([0, x2.1.Events, (-1)] : List Int).length) 3 x16.2.2, own cd2 a12 2 2 ([0, 6] : List Int), box b4 26 [iV x2.1.Events, .slice a2 x2.1.Places.length c2], own cd28 a2 x2.1.Places.length c2 x2.1.Places, box b2 28 [iV 0, iV 0, iV 0, iV 0], box b1 26 [iV 0, .slice none 0 0]] := by rw [hn14]; exact H185
      have H187 : Hold h h74 [box b3 67 [.slice a1 x1.code.length c1, iV x16.2.1.at_, iV x16.2.1.seed], own cd2 a9 (([0, 1000, 1001] : List Int).length) 3 ([0, 1000, 1001] : List Int), own cd2 a3 (([0, x2.1.Events, (-1)] : List Int).length) 3 x16.2.2, own cd2 a12 2 2 ([0, 6] : List Int), box b4 26 [iV x2.1.Events, .slice a2 x2.1.Places.length c2], own cd28 a2 x2.1.Places.length c2 x2.1.Places, box b2 28 [iV 0, iV 0, iV 0, iV 0], box b1 26 [iV 0, .slice none 0 0]] := H186.pk [1, 0, 2, 3, 4, 5, 6, 7]
      have H188 : Hold h h74 [box b3 67 [.slice a1 x1.code.length c1, iV x16.2.1.at_, iV x16.2.1.seed], own cd2 a9 (([0, 1000, 1001] : List Int).length) 3 ([0, 1000, 1001] : List Int), bun [own cd2 a3 (([0, x2.1.Events, (-1)] : List Int).length) 3 x16.2.2, own cd2 a12 2 2 ([0, 6] : List Int), box b4 26 [iV x2.1.Events, .slice a2 x2.1.Places.length c2], own cd28 a2 x2.1.Places.length c2 x2.1.Places, box b2 28 [iV 0, iV 0, iV 0, iV 0], box b1 26 [iV 0, .slice none 0 0]]] := H187.bd 2
      refine ZC 23 #[pV b3, .slice a9 3 3] (Fn.arg (w_spec_l01Pick h h74 _ (⟨x1.code, x16.2.1.at_, x16.2.1.seed⟩ : TL01source) b3 a1 c1 r1 ([0, 1000, 1001] : List Int) a9 3 H188 _ _ hx17) (by simp only [hn14])) (fun v17 h75 hp17 => ?_)
      obtain ⟨rfl, H189⟩ := hp17
      have H190 : Hold h h75 [box b3 67 [.slice a1 x1.code.length c1, iV x17.2.1.at_, iV x17.2.1.seed], own cd2 a9 (([0, 1000, 1001] : List Int).length) 3 x17.2.2, own cd2 a3 (([0, x2.1.Events, (-1)] : List Int).length) 3 x16.2.2, own cd2 a12 2 2 ([0, 6] : List Int), box b4 26 [iV x2.1.Events, .slice a2 x2.1.Places.length c2], own cd28 a2 x2.1.Places.length c2 x2.1.Places, box b2 28 [iV 0, iV 0, iV 0, iV 0], box b1 26 [iV 0, .slice none 0 0]] := H189.ub (js := _) 2 2 H187
      refine ZA [box b4 26 [iV x2.1.Events, .slice a2 x2.1.Places.length c2], own cd28 a2 x2.1.Places.length c2 x2.1.Places, box b2 28 [iV 0, iV 0, iV 0, iV 0]] [4, 5, 6] [0, 1, 2] H190 ?_
      refine ZE 3 11 (fun h76 H191 => ?_)
      have H192 := H191
      obtain ⟨x18, hx18, gs1⟩ := M.bind_some gs1
      have H193 : Hold h h76 [own cd2 a12 2 2 ([0, 6] : List Int), box b3 67 [.slice a1 x1.code.length c1, iV x17.2.1.at_, iV x17.2.1.seed], own cd2 a9 (([0, 1000, 1001] : List Int).length) 3 x17.2.2, own cd2 a3 (([0, x2.1.Events, (-1)] : List Int).length) 3 x16.2.2, box b4 26 [iV x2.1.Events, .slice a2 x2.1.Places.length c2], own cd28 a2 x2.1.Places.length c2 x2.1.Places, box b2 28 [iV 0, iV 0, iV 0, iV 0], box b1 26 [iV 0, .slice none 0 0]] := H192.pk [3, 0, 1, 2, 4, 5, 6, 7]
      have hn15 := (H193.len 0 rfl)
      have H194 : Hold h h76 [own cd2 a12 (([0, 6] : List Int).length) 2 ([0, 6] : List Int), box b3 67 [.slice a1 x1.code.length c1, iV x17.2.1.at_, iV x17.2.1.seed], own cd2 a9 (([0, 1000, 1001] : List Int).length) 3 x17.2.2, own cd2 a3 (([0, x2.1.Events, (-1)] : List Int).length) 3 x16.2.2, box b4 26 [iV x2.1.Events, .slice a2 x2.1.Places.length c2], own cd28 a2 x2.1.Places.length c2 x2.1.Places, box b2 28 [iV 0, iV 0, iV 0, iV 0], box b1 26 [iV 0, .slice none 0 0]] := by rw [hn15]; exact H193
      have H195 : Hold h h76 [box b3 67 [.slice a1 x1.code.length c1, iV x17.2.1.at_, iV x17.2.1.seed], own cd2 a12 (([0, 6] : List Int).length) 2 ([0, 6] : List Int), own cd2 a9 (([0, 1000, 1001] : List Int).length) 3 x17.2.2, own cd2 a3 (([0, x2.1.Events, (-1)] : List Int).length) 3 x16.2.2, box b4 26 [iV x2.1.Events, .slice a2 x2.1.Places.length c2], own cd28 a2 x2.1.Places.length c2 x2.1.Places, box b2 28 [iV 0, iV 0, iV 0, iV 0], box b1 26 [iV 0, .slice none 0 0]] := H194.pk [1, 0, 2, 3, 4, 5, 6, 7]
      have H196 : Hold h h76 [box b3 67 [.slice a1 x1.code.length c1, iV x17.2.1.at_, iV x17.2.1.seed], own cd2 a12 (([0, 6] : List Int).length) 2 ([0, 6] : List Int), bun [own cd2 a9 (([0, 1000, 1001] : List Int).length) 3 x17.2.2, own cd2 a3 (([0, x2.1.Events, (-1)] : List Int).length) 3 x16.2.2, box b4 26 [iV x2.1.Events, .slice a2 x2.1.Places.length c2], own cd28 a2 x2.1.Places.length c2 x2.1.Places, box b2 28 [iV 0, iV 0, iV 0, iV 0], box b1 26 [iV 0, .slice none 0 0]]] := H195.bd 2
      refine ZC 23 #[pV b3, .slice a12 2 2] (Fn.arg (w_spec_l01Pick h h76 _ (⟨x1.code, x17.2.1.at_, x17.2.1.seed⟩ : TL01source) b3 a1 c1 r1 ([0, 6] : List Int) a12 2 H196 _ _ hx18) (by simp only [hn15])) (fun v18 h77 hp18 => ?_)
      obtain ⟨rfl, H197⟩ := hp18
      have H198 : Hold h h77 [box b3 67 [.slice a1 x1.code.length c1, iV x18.2.1.at_, iV x18.2.1.seed], own cd2 a12 (([0, 6] : List Int).length) 2 x18.2.2, own cd2 a9 (([0, 1000, 1001] : List Int).length) 3 x17.2.2, own cd2 a3 (([0, x2.1.Events, (-1)] : List Int).length) 3 x16.2.2, box b4 26 [iV x2.1.Events, .slice a2 x2.1.Places.length c2], own cd28 a2 x2.1.Places.length c2 x2.1.Places, box b2 28 [iV 0, iV 0, iV 0, iV 0], box b1 26 [iV 0, .slice none 0 0]] := H197.ub (js := _) 2 2 H195
      refine ZA [box b4 26 [iV x2.1.Events, .slice a2 x2.1.Places.length c2], own cd28 a2 x2.1.Places.length c2 x2.1.Places, box b2 28 [iV 0, iV 0, iV 0, iV 0]] [4, 5, 6] [0, 1, 2] H198 ?_
      refine ZB 2 [.agg #[iV x16.1, iV 0, iV x17.1, iV x18.1]] 12 ?_
      refine ZE 1 13 (fun h78 H199 => ?_)
      have H200 := H199
      have H202 : Hold h h78 [box b1 26 [iV 0, .slice none 0 0], box b3 67 [.slice a1 x1.code.length c1, iV x18.2.1.at_, iV x18.2.1.seed], own cd2 a12 (([0, 6] : List Int).length) 2 x18.2.2, own cd2 a9 (([0, 1000, 1001] : List Int).length) 3 x17.2.2, own cd2 a3 (([0, x2.1.Events, (-1)] : List Int).length) 3 x16.2.2, box b4 26 [iV x2.1.Events, .slice a2 x2.1.Places.length c2], own cd28 a2 x2.1.Places.length c2 x2.1.Places, box b2 28 [iV 0, iV 0, iV 0, iV 0]] := H200.pk [7, 0, 1, 2, 3, 4, 5, 6]
      refine ZP 26 0 [iV x2.1.Events, .slice a2 x2.1.Places.length c2] (.agg #[iV x2.1.Events, .slice a2 x2.1.Places.length c2]) H202 (fun h79 H201 => ?_)
      refine ZA [box b4 26 [iV x2.1.Events, .slice a2 x2.1.Places.length c2], own cd28 a2 x2.1.Places.length c2 x2.1.Places, box b2 28 [iV 0, iV 0, iV 0, iV 0]] [5, 6, 7] [0, 1, 2] H201 ?_
      refine ZT 14 (fun h80 H203 => ?_)
      have H204 := H203
      have H206 : Hold h h80 [box b2 28 [iV 0, iV 0, iV 0, iV 0], box b1 26 [iV x2.1.Events, .slice a2 x2.1.Places.length c2], box b3 67 [.slice a1 x1.code.length c1, iV x18.2.1.at_, iV x18.2.1.seed], own cd2 a12 (([0, 6] : List Int).length) 2 x18.2.2, own cd2 a9 (([0, 1000, 1001] : List Int).length) 3 x17.2.2, own cd2 a3 (([0, x2.1.Events, (-1)] : List Int).length) 3 x16.2.2, box b4 26 [iV x2.1.Events, .slice a2 x2.1.Places.length c2], own cd28 a2 x2.1.Places.length c2 x2.1.Places] := H204.pk [7, 0, 1, 2, 3, 4, 5, 6]
      refine Ze ?_
      refine ZP 28 0 [iV x16.1, iV 0, iV x17.1, iV x18.1] (.agg #[iV x16.1, iV 0, iV x17.1, iV x18.1]) H206 (fun h81 H205 => ?_)
      refine Zx ?_
      refine Zk [2, 3] [(2, pV b1), (3, pV b2)] ?_
      have H896 : Hold h h81 [box b1 26 [iV x2.1.Events, .slice a2 x2.1.Places.length c2], own cd28 a2 x2.1.Places.length c2 x2.1.Places, box b2 28 [iV x16.1, iV 0, iV x17.1, iV x18.1]] := H205.pk [1, 7, 0]
      have gs1 := M.ret_some gs1
      subst gs1
      exact Zf [2, 3] ⟨rfl, H896⟩
    ·intro h82 H207
     have H208 := H207
     refine E_lit (C := cd2) (n := 2) (l := ([0, 6] : List Int)) (cs := [iV 0, iV 6]) H208 (fun w => by kernel_rfl) (Enc.consE (cd2_own 0 _) (Enc.consE (cd2_own 6 _) (Enc.nil _ _) rfl) rfl) rfl (by decide) (fun a13 h83 H209 => ?_)
     refine ZA [box b4 26 [iV x2.1.Events, .slice a2 x2.1.Places.length c2], own cd28 a2 x2.1.Places.length c2 x2.1.Places, box b2 28 [iV 0, iV 0, iV 0, iV 0]] [3, 4, 5] [0, 1, 2] H209 ?_
     refine DR_e2 6 5 7 (by kernel_rfl) (by kernel_rfl) (by kernel_rfl) (by kernel_rfl) ?_ ?_
     ·intro h84 H210
      have H211 := H210
      obtain ⟨x19, hx19, gs1⟩ := M.bind_some gs1
      have H212 : Hold h h84 [own cd2 a3 3 3 ([0, x2.1.Events, (-1)] : List Int), own cd2 a13 2 2 ([0, 6] : List Int), box b3 67 [.slice a1 x1.code.length c1, iV x3.2.at_, iV x3.2.seed], box b4 26 [iV x2.1.Events, .slice a2 x2.1.Places.length c2], own cd28 a2 x2.1.Places.length c2 x2.1.Places, box b2 28 [iV 0, iV 0, iV 0, iV 0], box b1 26 [iV 0, .slice none 0 0]] := H211.pk [1, 0, 2, 3, 4, 5, 6]
      have hn16 := (H212.len 0 rfl)
      have H213 : Hold h h84 [own cd2 a3 (([0, x2.1.Events, (-1)] : List Int).length) 3 ([0, x2.1.Events, (-1)] : List Int), own cd2 a13 2 2 ([0, 6] : List Int), box b3 67 [.slice a1 x1.code.length c1, iV x3.2.at_, iV x3.2.seed], box b4 26 [iV x2.1.Events, .slice a2 x2.1.Places.length c2], own cd28 a2 x2.1.Places.length c2 x2.1.Places, box b2 28 [iV 0, iV 0, iV 0, iV 0], box b1 26 [iV 0, .slice none 0 0]] := by rw [hn16]; exact H212
      have H214 : Hold h h84 [box b3 67 [.slice a1 x1.code.length c1, iV x3.2.at_, iV x3.2.seed], own cd2 a3 (([0, x2.1.Events, (-1)] : List Int).length) 3 ([0, x2.1.Events, (-1)] : List Int), own cd2 a13 2 2 ([0, 6] : List Int), box b4 26 [iV x2.1.Events, .slice a2 x2.1.Places.length c2], own cd28 a2 x2.1.Places.length c2 x2.1.Places, box b2 28 [iV 0, iV 0, iV 0, iV 0], box b1 26 [iV 0, .slice none 0 0]] := H213.pk [2, 0, 1, 3, 4, 5, 6]
      have H215 : Hold h h84 [box b3 67 [.slice a1 x1.code.length c1, iV x3.2.at_, iV x3.2.seed], own cd2 a3 (([0, x2.1.Events, (-1)] : List Int).length) 3 ([0, x2.1.Events, (-1)] : List Int), bun [own cd2 a13 2 2 ([0, 6] : List Int), box b4 26 [iV x2.1.Events, .slice a2 x2.1.Places.length c2], own cd28 a2 x2.1.Places.length c2 x2.1.Places, box b2 28 [iV 0, iV 0, iV 0, iV 0], box b1 26 [iV 0, .slice none 0 0]]] := H214.bd 2
      refine ZC 23 #[pV b3, .slice a3 3 3] (Fn.arg (w_spec_l01Pick h h84 _ (⟨x1.code, x3.2.at_, x3.2.seed⟩ : TL01source) b3 a1 c1 r1 ([0, x2.1.Events, (-1)] : List Int) a3 3 H215 _ _ hx19) (by simp only [hn16])) (fun v19 h85 hp19 => ?_)
      obtain ⟨rfl, H216⟩ := hp19
      have H217 : Hold h h85 [box b3 67 [.slice a1 x1.code.length c1, iV x19.2.1.at_, iV x19.2.1.seed], own cd2 a3 (([0, x2.1.Events, (-1)] : List Int).length) 3 x19.2.2, own cd2 a13 2 2 ([0, 6] : List Int), box b4 26 [iV x2.1.Events, .slice a2 x2.1.Places.length c2], own cd28 a2 x2.1.Places.length c2 x2.1.Places, box b2 28 [iV 0, iV 0, iV 0, iV 0], box b1 26 [iV 0, .slice none 0 0]] := H216.ub (js := _) 2 2 H214
      refine ZA [box b4 26 [iV x2.1.Events, .slice a2 x2.1.Places.length c2], own cd28 a2 x2.1.Places.length c2 x2.1.Places, box b2 28 [iV 0, iV 0, iV 0, iV 0]] [3, 4, 5] [0, 1, 2] H217 ?_
      refine ZE 5 7 (fun h86 H218 => ?_)
      have H219 := H218
      refine E_lit (C := cd2) (n := 3) (l := ([0, 1000, 1001] : List Int)) (cs := [iV 0, iV 1000, iV 1001]) H219 (fun w => by kernel_rfl) (Enc.consE (cd2_own 0 _) (Enc.consE (cd2_own 1000 _) (Enc.consE (cd2_own 1001 _) (Enc.nil _ _) rfl) rfl) rfl) rfl (by decide) (fun a14 h87 H220 => ?_)
      refine ZA [box b4 26 [iV x2.1.Events, .slice a2 x2.1.Places.length c2], own cd28 a2 x2.1.Places.length c2 x2.1.Places, box b2 28 [iV 0, iV 0, iV 0, iV 0]] [4, 5, 6] [0, 1, 2] H220 ?_
      refine ZE 4 8 (fun h88 H221 => ?_)
      have H222 := H221
      obtain ⟨x20, hx20, gs1⟩ := M.bind_some gs1
      have hn17 := (H222.len 0 rfl)
      have H223 : Hold h h88 [own cd2 a14 (([0, 1000, 1001] : List Int).length) 3 ([0, 1000, 1001] : List Int), box b3 67 [.slice a1 x1.code.length c1, iV x19.2.1.at_, iV x19.2.1.seed], own cd2 a3 (([0, x2.1.Events, (-1)] : List Int).length) 3 x19.2.2, own cd2 a13 2 2 ([0, 6] : List Int), box b4 26 [iV x2.1.Events, .slice a2 x2.1.Places.length c2], own cd28 a2 x2.1.Places.length c2 x2.1.Places, box b2 28 [iV 0, iV 0, iV 0, iV 0], box b1 26 [iV 0, .slice none 0 0]] := by rw [hn17]; exact H222
      have H224 : Hold h h88 [box b3 67 [.slice a1 x1.code.length c1, iV x19.2.1.at_, iV x19.2.1.seed], own cd2 a14 (([0, 1000, 1001] : List Int).length) 3 ([0, 1000, 1001] : List Int), own cd2 a3 (([0, x2.1.Events, (-1)] : List Int).length) 3 x19.2.2, own cd2 a13 2 2 ([0, 6] : List Int), box b4 26 [iV x2.1.Events, .slice a2 x2.1.Places.length c2], own cd28 a2 x2.1.Places.length c2 x2.1.Places, box b2 28 [iV 0, iV 0, iV 0, iV 0], box b1 26 [iV 0, .slice none 0 0]] := H223.pk [1, 0, 2, 3, 4, 5, 6, 7]
      have H225 : Hold h h88 [box b3 67 [.slice a1 x1.code.length c1, iV x19.2.1.at_, iV x19.2.1.seed], own cd2 a14 (([0, 1000, 1001] : List Int).length) 3 ([0, 1000, 1001] : List Int), bun [own cd2 a3 (([0, x2.1.Events, (-1)] : List Int).length) 3 x19.2.2, own cd2 a13 2 2 ([0, 6] : List Int), box b4 26 [iV x2.1.Events, .slice a2 x2.1.Places.length c2], own cd28 a2 x2.1.Places.length c2 x2.1.Places, box b2 28 [iV 0, iV 0, iV 0, iV 0], box b1 26 [iV 0, .slice none 0 0]]] := H224.bd 2
      refine ZC 23 #[pV b3, .slice a14 3 3] (Fn.arg (w_spec_l01Pick h h88 _ (⟨x1.code, x19.2.1.at_, x19.2.1.seed⟩ : TL01source) b3 a1 c1 r1 ([0, 1000, 1001] : List Int) a14 3 H225 _ _ hx20) (by simp only [hn17])) (fun v20 h89 hp20 => ?_)
      obtain ⟨rfl, H226⟩ := hp20
      have H227 : Hold h h89 [box b3 67 [.slice a1 x1.code.length c1, iV x20.2.1.at_, iV x20.2.1.seed], own cd2 a14 (([0, 1000, 1001] : List Int).length) 3 x20.2.2, own cd2 a3 (([0, x2.1.Events, (-1)] : List Int).length) 3 x19.2.2, own cd2 a13 2 2 ([0, 6] : List Int), box b4 26 [iV x2.1.Events, .slice a2 x2.1.Places.length c2], own cd28 a2 x2.1.Places.length c2 x2.1.Places, box b2 28 [iV 0, iV 0, iV 0, iV 0], box b1 26 [iV 0, .slice none 0 0]] := H226.ub (js := _) 2 2 H224
      refine ZA [box b4 26 [iV x2.1.Events, .slice a2 x2.1.Places.length c2], own cd28 a2 x2.1.Places.length c2 x2.1.Places, box b2 28 [iV 0, iV 0, iV 0, iV 0]] [4, 5, 6] [0, 1, 2] H227 ?_
      refine ZE 3 11 (fun h90 H228 => ?_)
      have H229 := H228
      obtain ⟨x21, hx21, gs1⟩ := M.bind_some gs1
      have H230 : Hold h h90 [own cd2 a13 2 2 ([0, 6] : List Int), box b3 67 [.slice a1 x1.code.length c1, iV x20.2.1.at_, iV x20.2.1.seed], own cd2 a14 (([0, 1000, 1001] : List Int).length) 3 x20.2.2, own cd2 a3 (([0, x2.1.Events, (-1)] : List Int).length) 3 x19.2.2, box b4 26 [iV x2.1.Events, .slice a2 x2.1.Places.length c2], own cd28 a2 x2.1.Places.length c2 x2.1.Places, box b2 28 [iV 0, iV 0, iV 0, iV 0], box b1 26 [iV 0, .slice none 0 0]] := H229.pk [3, 0, 1, 2, 4, 5, 6, 7]
      have hn18 := (H230.len 0 rfl)
      have H231 : Hold h h90 [own cd2 a13 (([0, 6] : List Int).length) 2 ([0, 6] : List Int), box b3 67 [.slice a1 x1.code.length c1, iV x20.2.1.at_, iV x20.2.1.seed], own cd2 a14 (([0, 1000, 1001] : List Int).length) 3 x20.2.2, own cd2 a3 (([0, x2.1.Events, (-1)] : List Int).length) 3 x19.2.2, box b4 26 [iV x2.1.Events, .slice a2 x2.1.Places.length c2], own cd28 a2 x2.1.Places.length c2 x2.1.Places, box b2 28 [iV 0, iV 0, iV 0, iV 0], box b1 26 [iV 0, .slice none 0 0]] := by rw [hn18]; exact H230
      have H232 : Hold h h90 [box b3 67 [.slice a1 x1.code.length c1, iV x20.2.1.at_, iV x20.2.1.seed], own cd2 a13 (([0, 6] : List Int).length) 2 ([0, 6] : List Int), own cd2 a14 (([0, 1000, 1001] : List Int).length) 3 x20.2.2, own cd2 a3 (([0, x2.1.Events, (-1)] : List Int).length) 3 x19.2.2, box b4 26 [iV x2.1.Events, .slice a2 x2.1.Places.length c2], own cd28 a2 x2.1.Places.length c2 x2.1.Places, box b2 28 [iV 0, iV 0, iV 0, iV 0], box b1 26 [iV 0, .slice none 0 0]] := H231.pk [1, 0, 2, 3, 4, 5, 6, 7]
      have H233 : Hold h h90 [box b3 67 [.slice a1 x1.code.length c1, iV x20.2.1.at_, iV x20.2.1.seed], own cd2 a13 (([0, 6] : List Int).length) 2 ([0, 6] : List Int), bun [own cd2 a14 (([0, 1000, 1001] : List Int).length) 3 x20.2.2, own cd2 a3 (([0, x2.1.Events, (-1)] : List Int).length) 3 x19.2.2, box b4 26 [iV x2.1.Events, .slice a2 x2.1.Places.length c2], own cd28 a2 x2.1.Places.length c2 x2.1.Places, box b2 28 [iV 0, iV 0, iV 0, iV 0], box b1 26 [iV 0, .slice none 0 0]]] := H232.bd 2
      refine ZC 23 #[pV b3, .slice a13 2 2] (Fn.arg (w_spec_l01Pick h h90 _ (⟨x1.code, x20.2.1.at_, x20.2.1.seed⟩ : TL01source) b3 a1 c1 r1 ([0, 6] : List Int) a13 2 H233 _ _ hx21) (by simp only [hn18])) (fun v21 h91 hp21 => ?_)
      obtain ⟨rfl, H234⟩ := hp21
      have H235 : Hold h h91 [box b3 67 [.slice a1 x1.code.length c1, iV x21.2.1.at_, iV x21.2.1.seed], own cd2 a13 (([0, 6] : List Int).length) 2 x21.2.2, own cd2 a14 (([0, 1000, 1001] : List Int).length) 3 x20.2.2, own cd2 a3 (([0, x2.1.Events, (-1)] : List Int).length) 3 x19.2.2, box b4 26 [iV x2.1.Events, .slice a2 x2.1.Places.length c2], own cd28 a2 x2.1.Places.length c2 x2.1.Places, box b2 28 [iV 0, iV 0, iV 0, iV 0], box b1 26 [iV 0, .slice none 0 0]] := H234.ub (js := _) 2 2 H232
      refine ZA [box b4 26 [iV x2.1.Events, .slice a2 x2.1.Places.length c2], own cd28 a2 x2.1.Places.length c2 x2.1.Places, box b2 28 [iV 0, iV 0, iV 0, iV 0]] [4, 5, 6] [0, 1, 2] H235 ?_
      refine ZB 2 [.agg #[iV x19.1, iV 0, iV x20.1, iV x21.1]] 12 ?_
      refine ZE 1 13 (fun h92 H236 => ?_)
      have H237 := H236
      have H239 : Hold h h92 [box b1 26 [iV 0, .slice none 0 0], box b3 67 [.slice a1 x1.code.length c1, iV x21.2.1.at_, iV x21.2.1.seed], own cd2 a13 (([0, 6] : List Int).length) 2 x21.2.2, own cd2 a14 (([0, 1000, 1001] : List Int).length) 3 x20.2.2, own cd2 a3 (([0, x2.1.Events, (-1)] : List Int).length) 3 x19.2.2, box b4 26 [iV x2.1.Events, .slice a2 x2.1.Places.length c2], own cd28 a2 x2.1.Places.length c2 x2.1.Places, box b2 28 [iV 0, iV 0, iV 0, iV 0]] := H237.pk [7, 0, 1, 2, 3, 4, 5, 6]
      refine ZP 26 0 [iV x2.1.Events, .slice a2 x2.1.Places.length c2] (.agg #[iV x2.1.Events, .slice a2 x2.1.Places.length c2]) H239 (fun h93 H238 => ?_)
      refine ZA [box b4 26 [iV x2.1.Events, .slice a2 x2.1.Places.length c2], own cd28 a2 x2.1.Places.length c2 x2.1.Places, box b2 28 [iV 0, iV 0, iV 0, iV 0]] [5, 6, 7] [0, 1, 2] H238 ?_
      refine ZT 14 (fun h94 H240 => ?_)
      have H241 := H240
      have H243 : Hold h h94 [box b2 28 [iV 0, iV 0, iV 0, iV 0], box b1 26 [iV x2.1.Events, .slice a2 x2.1.Places.length c2], box b3 67 [.slice a1 x1.code.length c1, iV x21.2.1.at_, iV x21.2.1.seed], own cd2 a13 (([0, 6] : List Int).length) 2 x21.2.2, own cd2 a14 (([0, 1000, 1001] : List Int).length) 3 x20.2.2, own cd2 a3 (([0, x2.1.Events, (-1)] : List Int).length) 3 x19.2.2, box b4 26 [iV x2.1.Events, .slice a2 x2.1.Places.length c2], own cd28 a2 x2.1.Places.length c2 x2.1.Places] := H241.pk [7, 0, 1, 2, 3, 4, 5, 6]
      refine Ze ?_
      refine ZP 28 0 [iV x19.1, iV 0, iV x20.1, iV x21.1] (.agg #[iV x19.1, iV 0, iV x20.1, iV x21.1]) H243 (fun h95 H242 => ?_)
      refine Zx ?_
      refine Zk [2, 3] [(2, pV b1), (3, pV b2)] ?_
      have H897 : Hold h h95 [box b1 26 [iV x2.1.Events, .slice a2 x2.1.Places.length c2], own cd28 a2 x2.1.Places.length c2 x2.1.Places, box b2 28 [iV x19.1, iV 0, iV x20.1, iV x21.1]] := H242.pk [1, 7, 0]
      have gs1 := M.ret_some gs1
      subst gs1
      exact Zf [2, 3] ⟨rfl, H897⟩
     ·intro h96 H244
      have H245 := H244
      refine E_lit (C := cd2) (n := 3) (l := ([0, 1000, 1001] : List Int)) (cs := [iV 0, iV 1000, iV 1001]) H245 (fun w => by kernel_rfl) (Enc.consE (cd2_own 0 _) (Enc.consE (cd2_own 1000 _) (Enc.consE (cd2_own 1001 _) (Enc.nil _ _) rfl) rfl) rfl) rfl (by decide) (fun a15 h97 H246 => ?_)
      refine ZA [box b4 26 [iV x2.1.Events, .slice a2 x2.1.Places.length c2], own cd28 a2 x2.1.Places.length c2 x2.1.Places, box b2 28 [iV 0, iV 0, iV 0, iV 0]] [4, 5, 6] [0, 1, 2] H246 ?_
      refine ZE 5 5 (fun h98 H247 => ?_)
      have H248 := H247
      obtain ⟨x22, hx22, gs1⟩ := M.bind_some gs1
      have H249 : Hold h h98 [own cd2 a3 3 3 ([0, x2.1.Events, (-1)] : List Int), own cd2 a15 3 3 ([0, 1000, 1001] : List Int), own cd2 a13 2 2 ([0, 6] : List Int), box b3 67 [.slice a1 x1.code.length c1, iV x3.2.at_, iV x3.2.seed], box b4 26 [iV x2.1.Events, .slice a2 x2.1.Places.length c2], own cd28 a2 x2.1.Places.length c2 x2.1.Places, box b2 28 [iV 0, iV 0, iV 0, iV 0], box b1 26 [iV 0, .slice none 0 0]] := H248.pk [2, 0, 1, 3, 4, 5, 6, 7]
      have hn19 := (H249.len 0 rfl)
      have H250 : Hold h h98 [own cd2 a3 (([0, x2.1.Events, (-1)] : List Int).length) 3 ([0, x2.1.Events, (-1)] : List Int), own cd2 a15 3 3 ([0, 1000, 1001] : List Int), own cd2 a13 2 2 ([0, 6] : List Int), box b3 67 [.slice a1 x1.code.length c1, iV x3.2.at_, iV x3.2.seed], box b4 26 [iV x2.1.Events, .slice a2 x2.1.Places.length c2], own cd28 a2 x2.1.Places.length c2 x2.1.Places, box b2 28 [iV 0, iV 0, iV 0, iV 0], box b1 26 [iV 0, .slice none 0 0]] := by rw [hn19]; exact H249
      have H251 : Hold h h98 [box b3 67 [.slice a1 x1.code.length c1, iV x3.2.at_, iV x3.2.seed], own cd2 a3 (([0, x2.1.Events, (-1)] : List Int).length) 3 ([0, x2.1.Events, (-1)] : List Int), own cd2 a15 3 3 ([0, 1000, 1001] : List Int), own cd2 a13 2 2 ([0, 6] : List Int), box b4 26 [iV x2.1.Events, .slice a2 x2.1.Places.length c2], own cd28 a2 x2.1.Places.length c2 x2.1.Places, box b2 28 [iV 0, iV 0, iV 0, iV 0], box b1 26 [iV 0, .slice none 0 0]] := H250.pk [3, 0, 1, 2, 4, 5, 6, 7]
      have H252 : Hold h h98 [box b3 67 [.slice a1 x1.code.length c1, iV x3.2.at_, iV x3.2.seed], own cd2 a3 (([0, x2.1.Events, (-1)] : List Int).length) 3 ([0, x2.1.Events, (-1)] : List Int), bun [own cd2 a15 3 3 ([0, 1000, 1001] : List Int), own cd2 a13 2 2 ([0, 6] : List Int), box b4 26 [iV x2.1.Events, .slice a2 x2.1.Places.length c2], own cd28 a2 x2.1.Places.length c2 x2.1.Places, box b2 28 [iV 0, iV 0, iV 0, iV 0], box b1 26 [iV 0, .slice none 0 0]]] := H251.bd 2
      refine ZC 23 #[pV b3, .slice a3 3 3] (Fn.arg (w_spec_l01Pick h h98 _ (⟨x1.code, x3.2.at_, x3.2.seed⟩ : TL01source) b3 a1 c1 r1 ([0, x2.1.Events, (-1)] : List Int) a3 3 H252 _ _ hx22) (by simp only [hn19])) (fun v22 h99 hp22 => ?_)
      obtain ⟨rfl, H253⟩ := hp22
      have H254 : Hold h h99 [box b3 67 [.slice a1 x1.code.length c1, iV x22.2.1.at_, iV x22.2.1.seed], own cd2 a3 (([0, x2.1.Events, (-1)] : List Int).length) 3 x22.2.2, own cd2 a15 3 3 ([0, 1000, 1001] : List Int), own cd2 a13 2 2 ([0, 6] : List Int), box b4 26 [iV x2.1.Events, .slice a2 x2.1.Places.length c2], own cd28 a2 x2.1.Places.length c2 x2.1.Places, box b2 28 [iV 0, iV 0, iV 0, iV 0], box b1 26 [iV 0, .slice none 0 0]] := H253.ub (js := _) 2 2 H251
      refine ZA [box b4 26 [iV x2.1.Events, .slice a2 x2.1.Places.length c2], own cd28 a2 x2.1.Places.length c2 x2.1.Places, box b2 28 [iV 0, iV 0, iV 0, iV 0]] [4, 5, 6] [0, 1, 2] H254 ?_
      refine ZE 4 8 (fun h100 H255 => ?_)
      have H256 := H255
      obtain ⟨x23, hx23, gs1⟩ := M.bind_some gs1
      have H257 : Hold h h100 [own cd2 a15 3 3 ([0, 1000, 1001] : List Int), box b3 67 [.slice a1 x1.code.length c1, iV x22.2.1.at_, iV x22.2.1.seed], own cd2 a3 (([0, x2.1.Events, (-1)] : List Int).length) 3 x22.2.2, own cd2 a13 2 2 ([0, 6] : List Int), box b4 26 [iV x2.1.Events, .slice a2 x2.1.Places.length c2], own cd28 a2 x2.1.Places.length c2 x2.1.Places, box b2 28 [iV 0, iV 0, iV 0, iV 0], box b1 26 [iV 0, .slice none 0 0]] := H256.pk [2, 0, 1, 3, 4, 5, 6, 7]
      have hn20 := (H257.len 0 rfl)
      have H258 : Hold h h100 [own cd2 a15 (([0, 1000, 1001] : List Int).length) 3 ([0, 1000, 1001] : List Int), box b3 67 [.slice a1 x1.code.length c1, iV x22.2.1.at_, iV x22.2.1.seed], own cd2 a3 (([0, x2.1.Events, (-1)] : List Int).length) 3 x22.2.2, own cd2 a13 2 2 ([0, 6] : List Int), box b4 26 [iV x2.1.Events, .slice a2 x2.1.Places.length c2], own cd28 a2 x2.1.Places.length c2 x2.1.Places, box b2 28 [iV 0, iV 0, iV 0, iV 0], box b1 26 [iV 0, .slice none 0 0]] := by rw [hn20]; exact H257
      have H259 : Hold h h100 [box b3 67 [.slice a1 x1.code.length c1, iV x22.2.1.at_, iV x22.2.1.seed], own cd2 a15 (([0, 1000, 1001] : List Int).length) 3 ([0, 1000, 1001] : List Int), own cd2 a3 (([0, x2.1.Events, (-1)] : List Int).length) 3 x22.2.2, own cd2 a13 2 2 ([0, 6] : List Int), box b4 26 [iV x2.1.Events, .slice a2 x2.1.Places.length c2], own cd28 a2 x2.1.Places.length c2 x2.1.Places, box b2 28 [iV 0, iV 0, iV 0, iV 0], box b1 26 [iV 0, .slice none 0 0]] := H258.pk [1, 0, 2, 3, 4, 5, 6, 7]
      have H260 : Hold h h100 [box b3 67 [.slice a1 x1.code.length c1, iV x22.2.1.at_, iV x22.2.1.seed], own cd2 a15 (([0, 1000, 1001] : List Int).length) 3 ([0, 1000, 1001] : List Int), bun [own cd2 a3 (([0, x2.1.Events, (-1)] : List Int).length) 3 x22.2.2, own cd2 a13 2 2 ([0, 6] : List Int), box b4 26 [iV x2.1.Events, .slice a2 x2.1.Places.length c2], own cd28 a2 x2.1.Places.length c2 x2.1.Places, box b2 28 [iV 0, iV 0, iV 0, iV 0], box b1 26 [iV 0, .slice none 0 0]]] := H259.bd 2
      refine ZC 23 #[pV b3, .slice a15 3 3] (Fn.arg (w_spec_l01Pick h h100 _ (⟨x1.code, x22.2.1.at_, x22.2.1.seed⟩ : TL01source) b3 a1 c1 r1 ([0, 1000, 1001] : List Int) a15 3 H260 _ _ hx23) (by simp only [hn20])) (fun v23 h101 hp23 => ?_)
      obtain ⟨rfl, H261⟩ := hp23
      have H262 : Hold h h101 [box b3 67 [.slice a1 x1.code.length c1, iV x23.2.1.at_, iV x23.2.1.seed], own cd2 a15 (([0, 1000, 1001] : List Int).length) 3 x23.2.2, own cd2 a3 (([0, x2.1.Events, (-1)] : List Int).length) 3 x22.2.2, own cd2 a13 2 2 ([0, 6] : List Int), box b4 26 [iV x2.1.Events, .slice a2 x2.1.Places.length c2], own cd28 a2 x2.1.Places.length c2 x2.1.Places, box b2 28 [iV 0, iV 0, iV 0, iV 0], box b1 26 [iV 0, .slice none 0 0]] := H261.ub (js := _) 2 2 H259
      refine ZA [box b4 26 [iV x2.1.Events, .slice a2 x2.1.Places.length c2], own cd28 a2 x2.1.Places.length c2 x2.1.Places, box b2 28 [iV 0, iV 0, iV 0, iV 0]] [4, 5, 6] [0, 1, 2] H262 ?_
      refine ZE 3 11 (fun h102 H263 => ?_)
      have H264 := H263
      obtain ⟨x24, hx24, gs1⟩ := M.bind_some gs1
      have H265 : Hold h h102 [own cd2 a13 2 2 ([0, 6] : List Int), box b3 67 [.slice a1 x1.code.length c1, iV x23.2.1.at_, iV x23.2.1.seed], own cd2 a15 (([0, 1000, 1001] : List Int).length) 3 x23.2.2, own cd2 a3 (([0, x2.1.Events, (-1)] : List Int).length) 3 x22.2.2, box b4 26 [iV x2.1.Events, .slice a2 x2.1.Places.length c2], own cd28 a2 x2.1.Places.length c2 x2.1.Places, box b2 28 [iV 0, iV 0, iV 0, iV 0], box b1 26 [iV 0, .slice none 0 0]] := H264.pk [3, 0, 1, 2, 4, 5, 6, 7]
      have hn21 := (H265.len 0 rfl)
      have H266 : Hold h h102 [own cd2 a13 (([0, 6] : List Int).length) 2 ([0, 6] : List Int), box b3 67 [.slice a1 x1.code.length c1, iV x23.2.1.at_, iV x23.2.1.seed], own cd2 a15 (([0, 1000, 1001] : List Int).length) 3 x23.2.2, own cd2 a3 (([0, x2.1.Events, (-1)] : List Int).length) 3 x22.2.2, box b4 26 [iV x2.1.Events, .slice a2 x2.1.Places.length c2], own cd28 a2 x2.1.Places.length c2 x2.1.Places, box b2 28 [iV 0, iV 0, iV 0, iV 0], box b1 26 [iV 0, .slice none 0 0]] := by rw [hn21]; exact H265
      have H267 : Hold h h102 [box b3 67 [.slice a1 x1.code.length c1, iV x23.2.1.at_, iV x23.2.1.seed], own cd2 a13 (([0, 6] : List Int).length) 2 ([0, 6] : List Int), own cd2 a15 (([0, 1000, 1001] : List Int).length) 3 x23.2.2, own cd2 a3 (([0, x2.1.Events, (-1)] : List Int).length) 3 x22.2.2, box b4 26 [iV x2.1.Events, .slice a2 x2.1.Places.length c2], own cd28 a2 x2.1.Places.length c2 x2.1.Places, box b2 28 [iV 0, iV 0, iV 0, iV 0], box b1 26 [iV 0, .slice none 0 0]] := H266.pk [1, 0, 2, 3, 4, 5, 6, 7]
      have H268 : Hold h h102 [box b3 67 [.slice a1 x1.code.length c1, iV x23.2.1.at_, iV x23.2.1.seed], own cd2 a13 (([0, 6] : List Int).length) 2 ([0, 6] : List Int), bun [own cd2 a15 (([0, 1000, 1001] : List Int).length) 3 x23.2.2, own cd2 a3 (([0, x2.1.Events, (-1)] : List Int).length) 3 x22.2.2, box b4 26 [iV x2.1.Events, .slice a2 x2.1.Places.length c2], own cd28 a2 x2.1.Places.length c2 x2.1.Places, box b2 28 [iV 0, iV 0, iV 0, iV 0], box b1 26 [iV 0, .slice none 0 0]]] := H267.bd 2
      refine ZC 23 #[pV b3, .slice a13 2 2] (Fn.arg (w_spec_l01Pick h h102 _ (⟨x1.code, x23.2.1.at_, x23.2.1.seed⟩ : TL01source) b3 a1 c1 r1 ([0, 6] : List Int) a13 2 H268 _ _ hx24) (by simp only [hn21])) (fun v24 h103 hp24 => ?_)
      obtain ⟨rfl, H269⟩ := hp24
      have H270 : Hold h h103 [box b3 67 [.slice a1 x1.code.length c1, iV x24.2.1.at_, iV x24.2.1.seed], own cd2 a13 (([0, 6] : List Int).length) 2 x24.2.2, own cd2 a15 (([0, 1000, 1001] : List Int).length) 3 x23.2.2, own cd2 a3 (([0, x2.1.Events, (-1)] : List Int).length) 3 x22.2.2, box b4 26 [iV x2.1.Events, .slice a2 x2.1.Places.length c2], own cd28 a2 x2.1.Places.length c2 x2.1.Places, box b2 28 [iV 0, iV 0, iV 0, iV 0], box b1 26 [iV 0, .slice none 0 0]] := H269.ub (js := _) 2 2 H267
      refine ZA [box b4 26 [iV x2.1.Events, .slice a2 x2.1.Places.length c2], own cd28 a2 x2.1.Places.length c2 x2.1.Places, box b2 28 [iV 0, iV 0, iV 0, iV 0]] [4, 5, 6] [0, 1, 2] H270 ?_
      refine ZB 2 [.agg #[iV x22.1, iV 0, iV x23.1, iV x24.1]] 12 ?_
      refine ZE 1 13 (fun h104 H271 => ?_)
      have H272 := H271
      have H274 : Hold h h104 [box b1 26 [iV 0, .slice none 0 0], box b3 67 [.slice a1 x1.code.length c1, iV x24.2.1.at_, iV x24.2.1.seed], own cd2 a13 (([0, 6] : List Int).length) 2 x24.2.2, own cd2 a15 (([0, 1000, 1001] : List Int).length) 3 x23.2.2, own cd2 a3 (([0, x2.1.Events, (-1)] : List Int).length) 3 x22.2.2, box b4 26 [iV x2.1.Events, .slice a2 x2.1.Places.length c2], own cd28 a2 x2.1.Places.length c2 x2.1.Places, box b2 28 [iV 0, iV 0, iV 0, iV 0]] := H272.pk [7, 0, 1, 2, 3, 4, 5, 6]
      refine ZP 26 0 [iV x2.1.Events, .slice a2 x2.1.Places.length c2] (.agg #[iV x2.1.Events, .slice a2 x2.1.Places.length c2]) H274 (fun h105 H273 => ?_)
      refine ZA [box b4 26 [iV x2.1.Events, .slice a2 x2.1.Places.length c2], own cd28 a2 x2.1.Places.length c2 x2.1.Places, box b2 28 [iV 0, iV 0, iV 0, iV 0]] [5, 6, 7] [0, 1, 2] H273 ?_
      refine ZT 14 (fun h106 H275 => ?_)
      have H276 := H275
      have H278 : Hold h h106 [box b2 28 [iV 0, iV 0, iV 0, iV 0], box b1 26 [iV x2.1.Events, .slice a2 x2.1.Places.length c2], box b3 67 [.slice a1 x1.code.length c1, iV x24.2.1.at_, iV x24.2.1.seed], own cd2 a13 (([0, 6] : List Int).length) 2 x24.2.2, own cd2 a15 (([0, 1000, 1001] : List Int).length) 3 x23.2.2, own cd2 a3 (([0, x2.1.Events, (-1)] : List Int).length) 3 x22.2.2, box b4 26 [iV x2.1.Events, .slice a2 x2.1.Places.length c2], own cd28 a2 x2.1.Places.length c2 x2.1.Places] := H276.pk [7, 0, 1, 2, 3, 4, 5, 6]
      refine Ze ?_
      refine ZP 28 0 [iV x22.1, iV 0, iV x23.1, iV x24.1] (.agg #[iV x22.1, iV 0, iV x23.1, iV x24.1]) H278 (fun h107 H277 => ?_)
      refine Zx ?_
      refine Zk [2, 3] [(2, pV b1), (3, pV b2)] ?_
      have H898 : Hold h h107 [box b1 26 [iV x2.1.Events, .slice a2 x2.1.Places.length c2], own cd28 a2 x2.1.Places.length c2 x2.1.Places, box b2 28 [iV x22.1, iV 0, iV x23.1, iV x24.1]] := H277.pk [1, 7, 0]
      have gs1 := M.ret_some gs1
      subst gs1
      exact Zf [2, 3] ⟨rfl, H898⟩
   ·intro h108 H279
    have H280 := H279
    refine E_lit (C := cd2) (n := 3) (l := ([0, 1000, 1001] : List Int)) (cs := [iV 0, iV 1000, iV 1001]) H280 (fun w => by kernel_rfl) (Enc.consE (cd2_own 0 _) (Enc.consE (cd2_own 1000 _) (Enc.consE (cd2_own 1001 _) (Enc.nil _ _) rfl) rfl) rfl) rfl (by decide) (fun a16 h109 H281 => ?_)
    refine ZA [box b4 26 [iV x2.1.Events, .slice a2 x2.1.Places.length c2], own cd28 a2 x2.1.Places.length c2 x2.1.Places, box b2 28 [iV 0, iV 0, iV 0, iV 0]] [2, 3, 4] [0, 1, 2] H281 ?_
    refine DR_e2 7 4 10 (by kernel_rfl) (by kernel_rfl) (by kernel_rfl) (by kernel_rfl) ?_ ?_
    ·intro h110 H282
     have H283 := H282
     refine E_lit (C := cd2) (n := 3) (l := ([0, x2.1.Events, (-1)] : List Int)) (cs := [iV 0, iV x2.1.Events, iV (-1)]) H283 (fun w => by kernel_rfl) (Enc.consE (cd2_own 0 _) (Enc.consE (cd2_own x2.1.Events _) (Enc.consE (cd2_own (-1) _) (Enc.nil _ _) rfl) rfl) rfl) rfl (by decide) (fun a17 h111 H284 => ?_)
     refine ZA [box b4 26 [iV x2.1.Events, .slice a2 x2.1.Places.length c2], own cd28 a2 x2.1.Places.length c2 x2.1.Places, box b2 28 [iV 0, iV 0, iV 0, iV 0]] [3, 4, 5] [0, 1, 2] H284 ?_
     refine DR_e2 6 5 10 (by kernel_rfl) (by kernel_rfl) (by kernel_rfl) (by kernel_rfl) ?_ ?_
     ·intro h112 H285
      have H286 := H285
      obtain ⟨x25, hx25, gs1⟩ := M.bind_some gs1
      have hn22 := (H286.len 0 rfl)
      have H287 : Hold h h112 [own cd2 a17 (([0, x2.1.Events, (-1)] : List Int).length) 3 ([0, x2.1.Events, (-1)] : List Int), own cd2 a16 3 3 ([0, 1000, 1001] : List Int), box b3 67 [.slice a1 x1.code.length c1, iV x3.2.at_, iV x3.2.seed], box b4 26 [iV x2.1.Events, .slice a2 x2.1.Places.length c2], own cd28 a2 x2.1.Places.length c2 x2.1.Places, box b2 28 [iV 0, iV 0, iV 0, iV 0], box b1 26 [iV 0, .slice none 0 0]] := by rw [hn22]; exact H286
      have H288 : Hold h h112 [box b3 67 [.slice a1 x1.code.length c1, iV x3.2.at_, iV x3.2.seed], own cd2 a17 (([0, x2.1.Events, (-1)] : List Int).length) 3 ([0, x2.1.Events, (-1)] : List Int), own cd2 a16 3 3 ([0, 1000, 1001] : List Int), box b4 26 [iV x2.1.Events, .slice a2 x2.1.Places.length c2], own cd28 a2 x2.1.Places.length c2 x2.1.Places, box b2 28 [iV 0, iV 0, iV 0, iV 0], box b1 26 [iV 0, .slice none 0 0]] := H287.pk [2, 0, 1, 3, 4, 5, 6]
      have H289 : Hold h h112 [box b3 67 [.slice a1 x1.code.length c1, iV x3.2.at_, iV x3.2.seed], own cd2 a17 (([0, x2.1.Events, (-1)] : List Int).length) 3 ([0, x2.1.Events, (-1)] : List Int), bun [own cd2 a16 3 3 ([0, 1000, 1001] : List Int), box b4 26 [iV x2.1.Events, .slice a2 x2.1.Places.length c2], own cd28 a2 x2.1.Places.length c2 x2.1.Places, box b2 28 [iV 0, iV 0, iV 0, iV 0], box b1 26 [iV 0, .slice none 0 0]]] := H288.bd 2
      refine ZC 23 #[pV b3, .slice a17 3 3] (Fn.arg (w_spec_l01Pick h h112 _ (⟨x1.code, x3.2.at_, x3.2.seed⟩ : TL01source) b3 a1 c1 r1 ([0, x2.1.Events, (-1)] : List Int) a17 3 H289 _ _ hx25) (by simp only [hn22])) (fun v25 h113 hp25 => ?_)
      obtain ⟨rfl, H290⟩ := hp25
      have H291 : Hold h h113 [box b3 67 [.slice a1 x1.code.length c1, iV x25.2.1.at_, iV x25.2.1.seed], own cd2 a17 (([0, x2.1.Events, (-1)] : List Int).length) 3 x25.2.2, own cd2 a16 3 3 ([0, 1000, 1001] : List Int), box b4 26 [iV x2.1.Events, .slice a2 x2.1.Places.length c2], own cd28 a2 x2.1.Places.length c2 x2.1.Places, box b2 28 [iV 0, iV 0, iV 0, iV 0], box b1 26 [iV 0, .slice none 0 0]] := H290.ub (js := _) 2 2 H288
      refine ZA [box b4 26 [iV x2.1.Events, .slice a2 x2.1.Places.length c2], own cd28 a2 x2.1.Places.length c2 x2.1.Places, box b2 28 [iV 0, iV 0, iV 0, iV 0]] [3, 4, 5] [0, 1, 2] H291 ?_
      refine DR_e2 5 8 10 (by kernel_rfl) (by kernel_rfl) (by kernel_rfl) (by kernel_rfl) ?_ ?_
      ·intro h114 H292
       have H293 := H292
       obtain ⟨x26, hx26, gs1⟩ := M.bind_some gs1
       have H294 : Hold h h114 [own cd2 a16 3 3 ([0, 1000, 1001] : List Int), box b3 67 [.slice a1 x1.code.length c1, iV x25.2.1.at_, iV x25.2.1.seed], own cd2 a17 (([0, x2.1.Events, (-1)] : List Int).length) 3 x25.2.2, box b4 26 [iV x2.1.Events, .slice a2 x2.1.Places.length c2], own cd28 a2 x2.1.Places.length c2 x2.1.Places, box b2 28 [iV 0, iV 0, iV 0, iV 0], box b1 26 [iV 0, .slice none 0 0]] := H293.pk [2, 0, 1, 3, 4, 5, 6]
       have hn23 := (H294.len 0 rfl)
       have H295 : Hold h h114 [own cd2 a16 (([0, 1000, 1001] : List Int).length) 3 ([0, 1000, 1001] : List Int), box b3 67 [.slice a1 x1.code.length c1, iV x25.2.1.at_, iV x25.2.1.seed], own cd2 a17 (([0, x2.1.Events, (-1)] : List Int).length) 3 x25.2.2, box b4 26 [iV x2.1.Events, .slice a2 x2.1.Places.length c2], own cd28 a2 x2.1.Places.length c2 x2.1.Places, box b2 28 [iV 0, iV 0, iV 0, iV 0], box b1 26 [iV 0, .slice none 0 0]] := by rw [hn23]; exact H294
       have H296 : Hold h h114 [box b3 67 [.slice a1 x1.code.length c1, iV x25.2.1.at_, iV x25.2.1.seed], own cd2 a16 (([0, 1000, 1001] : List Int).length) 3 ([0, 1000, 1001] : List Int), own cd2 a17 (([0, x2.1.Events, (-1)] : List Int).length) 3 x25.2.2, box b4 26 [iV x2.1.Events, .slice a2 x2.1.Places.length c2], own cd28 a2 x2.1.Places.length c2 x2.1.Places, box b2 28 [iV 0, iV 0, iV 0, iV 0], box b1 26 [iV 0, .slice none 0 0]] := H295.pk [1, 0, 2, 3, 4, 5, 6]
       have H297 : Hold h h114 [box b3 67 [.slice a1 x1.code.length c1, iV x25.2.1.at_, iV x25.2.1.seed], own cd2 a16 (([0, 1000, 1001] : List Int).length) 3 ([0, 1000, 1001] : List Int), bun [own cd2 a17 (([0, x2.1.Events, (-1)] : List Int).length) 3 x25.2.2, box b4 26 [iV x2.1.Events, .slice a2 x2.1.Places.length c2], own cd28 a2 x2.1.Places.length c2 x2.1.Places, box b2 28 [iV 0, iV 0, iV 0, iV 0], box b1 26 [iV 0, .slice none 0 0]]] := H296.bd 2
       refine ZC 23 #[pV b3, .slice a16 3 3] (Fn.arg (w_spec_l01Pick h h114 _ (⟨x1.code, x25.2.1.at_, x25.2.1.seed⟩ : TL01source) b3 a1 c1 r1 ([0, 1000, 1001] : List Int) a16 3 H297 _ _ hx26) (by simp only [hn23])) (fun v26 h115 hp26 => ?_)
       obtain ⟨rfl, H298⟩ := hp26
       have H299 : Hold h h115 [box b3 67 [.slice a1 x1.code.length c1, iV x26.2.1.at_, iV x26.2.1.seed], own cd2 a16 (([0, 1000, 1001] : List Int).length) 3 x26.2.2, own cd2 a17 (([0, x2.1.Events, (-1)] : List Int).length) 3 x25.2.2, box b4 26 [iV x2.1.Events, .slice a2 x2.1.Places.length c2], own cd28 a2 x2.1.Places.length c2 x2.1.Places, box b2 28 [iV 0, iV 0, iV 0, iV 0], box b1 26 [iV 0, .slice none 0 0]] := H298.ub (js := _) 2 2 H296
       refine ZA [box b4 26 [iV x2.1.Events, .slice a2 x2.1.Places.length c2], own cd28 a2 x2.1.Places.length c2 x2.1.Places, box b2 28 [iV 0, iV 0, iV 0, iV 0]] [3, 4, 5] [0, 1, 2] H299 ?_
       refine ZE 4 10 (fun h116 H300 => ?_)
       have H301 := H300
       refine E_lit (C := cd2) (n := 2) (l := ([0, 6] : List Int)) (cs := [iV 0, iV 6]) H301 (fun w => by kernel_rfl) (Enc.consE (cd2_own 0 _) (Enc.consE (cd2_own 6 _) (Enc.nil _ _) rfl) rfl) rfl (by decide) (fun a18 h117 H302 => ?_)
       refine ZA [box b4 26 [iV x2.1.Events, .slice a2 x2.1.Places.length c2], own cd28 a2 x2.1.Places.length c2 x2.1.Places, box b2 28 [iV 0, iV 0, iV 0, iV 0]] [4, 5, 6] [0, 1, 2] H302 ?_
       refine ZE 3 11 (fun h118 H303 => ?_)
       have H304 := H303
       obtain ⟨x27, hx27, gs1⟩ := M.bind_some gs1
       have hn24 := (H304.len 0 rfl)
       have H305 : Hold h h118 [own cd2 a18 (([0, 6] : List Int).length) 2 ([0, 6] : List Int), box b3 67 [.slice a1 x1.code.length c1, iV x26.2.1.at_, iV x26.2.1.seed], own cd2 a16 (([0, 1000, 1001] : List Int).length) 3 x26.2.2, own cd2 a17 (([0, x2.1.Events, (-1)] : List Int).length) 3 x25.2.2, box b4 26 [iV x2.1.Events, .slice a2 x2.1.Places.length c2], own cd28 a2 x2.1.Places.length c2 x2.1.Places, box b2 28 [iV 0, iV 0, iV 0, iV 0], box b1 26 [iV 0, .slice none 0 0]] := by rw [hn24]; exact H304
       have H306 : Hold h h118 [box b3 67 [.slice a1 x1.code.length c1, iV x26.2.1.at_, iV x26.2.1.seed], own cd2 a18 (([0, 6] : List Int).length) 2 ([0, 6] : List Int), own cd2 a16 (([0, 1000, 1001] : List Int).length) 3 x26.2.2, own cd2 a17 (([0, x2.1.Events, (-1)] : List Int).length) 3 x25.2.2, box b4 26 [iV x2.1.Events, .slice a2 x2.1.Places.length c2], own cd28 a2 x2.1.Places.length c2 x2.1.Places, box b2 28 [iV 0, iV 0, iV 0, iV 0], box b1 26 [iV 0, .slice none 0 0]] := H305.pk [1, 0, 2, 3, 4, 5, 6, 7]
       have H307 : Hold h h118 [box b3 67 [.slice a1 x1.code.length c1, iV x26.2.1.at_, iV x26.2.1.seed], own cd2 a18 (([0, 6] : List Int).length) 2 ([0, 6] : List Int), bun [own cd2 a16 (([0, 1000, 1001] : List Int).length) 3 x26.2.2, own cd2 a17 (([0, x2.1.Events, (-1)] : List Int).length) 3 x25.2.2, box b4 26 [iV x2.1.Events, .slice a2 x2.1.Places.length c2], own cd28 a2 x2.1.Places.length c2 x2.1.Places, box b2 28 [iV 0, iV 0, iV 0, iV 0], box b1 26 [iV 0, .slice none 0 0]]] := H306.bd 2
       refine ZC 23 #[pV b3, .slice a18 2 2] (Fn.arg (w_spec_l01Pick h h118 _ (⟨x1.code, x26.2.1.at_, x26.2.1.seed⟩ : TL01source) b3 a1 c1 r1 ([0, 6] : List Int) a18 2 H307 _ _ hx27) (by simp only [hn24])) (fun v27 h119 hp27 => ?_)
       obtain ⟨rfl, H308⟩ := hp27
       have H309 : Hold h h119 [box b3 67 [.slice a1 x1.code.length c1, iV x27.2.1.at_, iV x27.2.1.seed], own cd2 a18 (([0, 6] : List Int).length) 2 x27.2.2, own cd2 a16 (([0, 1000, 1001] : List Int).length) 3 x26.2.2, own cd2 a17 (([0, x2.1.Events, (-1)] : List Int).length) 3 x25.2.2, box b4 26 [iV x2.1.Events, .slice a2 x2.1.Places.length c2], own cd28 a2 x2.1.Places.length c2 x2.1.Places, box b2 28 [iV 0, iV 0, iV 0, iV 0], box b1 26 [iV 0, .slice none 0 0]] := H308.ub (js := _) 2 2 H306
       refine ZA [box b4 26 [iV x2.1.Events, .slice a2 x2.1.Places.length c2], own cd28 a2 x2.1.Places.length c2 x2.1.Places, box b2 28 [iV 0, iV 0, iV 0, iV 0]] [4, 5, 6] [0, 1, 2] H309 ?_
       refine ZB 2 [.agg #[iV x25.1, iV 0, iV x26.1, iV x27.1]] 12 ?_
       refine ZE 1 13 (fun h120 H310 => ?_)
       have H311 := H310
       have H313 : Hold h h120 [box b1 26 [iV 0, .slice none 0 0], box b3 67 [.slice a1 x1.code.length c1, iV x27.2.1.at_, iV x27.2.1.seed], own cd2 a18 (([0, 6] : List Int).length) 2 x27.2.2, own cd2 a16 (([0, 1000, 1001] : List Int).length) 3 x26.2.2, own cd2 a17 (([0, x2.1.Events, (-1)] : List Int).length) 3 x25.2.2, box b4 26 [iV x2.1.Events, .slice a2 x2.1.Places.length c2], own cd28 a2 x2.1.Places.length c2 x2.1.Places, box b2 28 [iV 0, iV 0, iV 0, iV 0]] := H311.pk [7, 0, 1, 2, 3, 4, 5, 6]
       refine ZP 26 0 [iV x2.1.Events, .slice a2 x2.1.Places.length c2] (.agg #[iV x2.1.Events, .slice a2 x2.1.Places.length c2]) H313 (fun h121 H312 => ?_)
       refine ZA [box b4 26 [iV x2.1.Events, .slice a2 x2.1.Places.length c2], own cd28 a2 x2.1.Places.length c2 x2.1.Places, box b2 28 [iV 0, iV 0, iV 0, iV 0]] [5, 6, 7] [0, 1, 2] H312 ?_
       refine ZT 14 (fun h122 H314 => ?_)
       have H315 := H314
       have H317 : Hold h h122 [box b2 28 [iV 0, iV 0, iV 0, iV 0], box b1 26 [iV x2.1.Events, .slice a2 x2.1.Places.length c2], box b3 67 [.slice a1 x1.code.length c1, iV x27.2.1.at_, iV x27.2.1.seed], own cd2 a18 (([0, 6] : List Int).length) 2 x27.2.2, own cd2 a16 (([0, 1000, 1001] : List Int).length) 3 x26.2.2, own cd2 a17 (([0, x2.1.Events, (-1)] : List Int).length) 3 x25.2.2, box b4 26 [iV x2.1.Events, .slice a2 x2.1.Places.length c2], own cd28 a2 x2.1.Places.length c2 x2.1.Places] := H315.pk [7, 0, 1, 2, 3, 4, 5, 6]
       refine Ze ?_
       refine ZP 28 0 [iV x25.1, iV 0, iV x26.1, iV x27.1] (.agg #[iV x25.1, iV 0, iV x26.1, iV x27.1]) H317 (fun h123 H316 => ?_)
       refine Zx ?_
       refine Zk [2, 3] [(2, pV b1), (3, pV b2)] ?_
       have H899 : Hold h h123 [box b1 26 [iV x2.1.Events, .slice a2 x2.1.Places.length c2], own cd28 a2 x2.1.Places.length c2 x2.1.Places, box b2 28 [iV x25.1, iV 0, iV x26.1, iV x27.1]] := H316.pk [1, 7, 0]
       have gs1 := M.ret_some gs1
       subst gs1
       exact Zf [2, 3] ⟨rfl, H899⟩
      ·intro h124 H318
       have H319 := H318
       refine E_lit (C := cd2) (n := 2) (l := ([0, 6] : List Int)) (cs := [iV 0, iV 6]) H319 (fun w => by kernel_rfl) (Enc.consE (cd2_own 0 _) (Enc.consE (cd2_own 6 _) (Enc.nil _ _) rfl) rfl) rfl (by decide) (fun a19 h125 H320 => ?_)
       refine ZA [box b4 26 [iV x2.1.Events, .slice a2 x2.1.Places.length c2], own cd28 a2 x2.1.Places.length c2 x2.1.Places, box b2 28 [iV 0, iV 0, iV 0, iV 0]] [4, 5, 6] [0, 1, 2] H320 ?_
       refine ZE 4 8 (fun h126 H321 => ?_)
       have H322 := H321
       obtain ⟨x28, hx28, gs1⟩ := M.bind_some gs1
       have H323 : Hold h h126 [own cd2 a16 3 3 ([0, 1000, 1001] : List Int), own cd2 a19 2 2 ([0, 6] : List Int), box b3 67 [.slice a1 x1.code.length c1, iV x25.2.1.at_, iV x25.2.1.seed], own cd2 a17 (([0, x2.1.Events, (-1)] : List Int).length) 3 x25.2.2, box b4 26 [iV x2.1.Events, .slice a2 x2.1.Places.length c2], own cd28 a2 x2.1.Places.length c2 x2.1.Places, box b2 28 [iV 0, iV 0, iV 0, iV 0], box b1 26 [iV 0, .slice none 0 0]] := H322.pk [3, 0, 1, 2, 4, 5, 6, 7]
       have hn25 := (H323.len 0 rfl)
       have H324 : Hold h h126 [own cd2 a16 (([0, 1000, 1001] : List Int).length) 3 ([0, 1000, 1001] : List Int), own cd2 a19 2 2 ([0, 6] : List Int), box b3 67 [.slice a1 x1.code.length c1, iV x25.2.1.at_, iV x25.2.1.seed], own cd2 a17 (([0, x2.1.Events, (-1)] : List Int).length) 3 x25.2.2, box b4 26 [iV x2.1.Events, .slice a2 x2.1.Places.length c2], own cd28 a2 x2.1.Places.length c2 x2.1.Places, box b2 28 [iV 0, iV 0, iV 0, iV 0], box b1 26 [iV 0, .slice none 0 0]] := by rw [hn25]; exact H323
       have H325 : Hold h h126 [box b3 67 [.slice a1 x1.code.length c1, iV x25.2.1.at_, iV x25.2.1.seed], own cd2 a16 (([0, 1000, 1001] : List Int).length) 3 ([0, 1000, 1001] : List Int), own cd2 a19 2 2 ([0, 6] : List Int), own cd2 a17 (([0, x2.1.Events, (-1)] : List Int).length) 3 x25.2.2, box b4 26 [iV x2.1.Events, .slice a2 x2.1.Places.length c2], own cd28 a2 x2.1.Places.length c2 x2.1.Places, box b2 28 [iV 0, iV 0, iV 0, iV 0], box b1 26 [iV 0, .slice none 0 0]] := H324.pk [2, 0, 1, 3, 4, 5, 6, 7]
       have H326 : Hold h h126 [box b3 67 [.slice a1 x1.code.length c1, iV x25.2.1.at_, iV x25.2.1.seed], own cd2 a16 (([0, 1000, 1001] : List Int).length) 3 ([0, 1000, 1001] : List Int), bun [own cd2 a19 2 2 ([0, 6] : List Int), own cd2 a17 (([0, x2.1.Events, (-1)] : List Int).length) 3 x25.2.2, box b4 26 [iV x2.1.Events, .slice a2 x2.1.Places.length c2], own cd28 a2 x2.1.Places.length c2 x2.1.Places, box b2 28 [iV 0, iV 0, iV 0, iV 0], box b1 26 [iV 0, .slice none 0 0]]] := H325.bd 2
       refine ZC 23 #[pV b3, .slice a16 3 3] (Fn.arg (w_spec_l01Pick h h126 _ (⟨x1.code, x25.2.1.at_, x25.2.1.seed⟩ : TL01source) b3 a1 c1 r1 ([0, 1000, 1001] : List Int) a16 3 H326 _ _ hx28) (by simp only [hn25])) (fun v28 h127 hp28 => ?_)
       obtain ⟨rfl, H327⟩ := hp28
       have H328 : Hold h h127 [box b3 67 [.slice a1 x1.code.length c1, iV x28.2.1.at_, iV x28.2.1.seed], own cd2 a16 (([0, 1000, 1001] : List Int).length) 3 x28.2.2, own cd2 a19 2 2 ([0, 6] : List Int), own cd2 a17 (([0, x2.1.Events, (-1)] : List Int).length) 3 x25.2.2, box b4 26 [iV x2.1.Events, .slice a2 x2.1.Places.length c2], own cd28 a2 x2.1.Places.length c2 x2.1.Places, box b2 28 [iV 0, iV 0, iV 0, iV 0], box b1 26 [iV 0, .slice none 0 0]] := H327.ub (js := _) 2 2 H325
       refine ZA [box b4 26 [iV x2.1.Events, .slice a2 x2.1.Places.length c2], own cd28 a2 x2.1.Places.length c2 x2.1.Places, box b2 28 [iV 0, iV 0, iV 0, iV 0]] [4, 5, 6] [0, 1, 2] H328 ?_
       refine ZE 3 11 (fun h128 H329 => ?_)
       have H330 := H329
       obtain ⟨x29, hx29, gs1⟩ := M.bind_some gs1
       have H331 : Hold h h128 [own cd2 a19 2 2 ([0, 6] : List Int), box b3 67 [.slice a1 x1.code.length c1, iV x28.2.1.at_, iV x28.2.1.seed], own cd2 a16 (([0, 1000, 1001] : List Int).length) 3 x28.2.2, own cd2 a17 (([0, x2.1.Events, (-1)] : List Int).length) 3 x25.2.2, box b4 26 [iV x2.1.Events, .slice a2 x2.1.Places.length c2], own cd28 a2 x2.1.Places.length c2 x2.1.Places, box b2 28 [iV 0, iV 0, iV 0, iV 0], box b1 26 [iV 0, .slice none 0 0]] := H330.pk [2, 0, 1, 3, 4, 5, 6, 7]
       have hn26 := (H331.len 0 rfl)
       have H332 : Hold h h128 [own cd2 a19 (([0, 6] : List Int).length) 2 ([0, 6] : List Int), box b3 67 [.slice a1 x1.code.length c1, iV x28.2.1.at_, iV x28.2.1.seed], own cd2 a16 (([0, 1000, 1001] : List Int).length) 3 x28.2.2, own cd2 a17 (([0, x2.1.Events, (-1)] : List Int).length) 3 x25.2.2, box b4 26 [iV x2.1.Events, .slice a2 x2.1.Places.length c2], own cd28 a2 x2.1.Places.length c2 x2.1.Places, box b2 28 [iV 0, iV 0, iV 0, iV 0], box b1 26 [iV 0, .slice none 0 0]] := by rw [hn26]; exact H331
       have H333 : Hold h h128 [box b3 67 [.slice a1 x1.code.length c1, iV x28.2.1.at_, iV x28.2.1.seed], own cd2 a19 (([0, 6] : List Int).length) 2 ([0, 6] : List Int), own cd2 a16 (([0, 1000, 1001] : List Int).length) 3 x28.2.2, own cd2 a17 (([0, x2.1.Events, (-1)] : List Int).length) 3 x25.2.2, box b4 26 [iV x2.1.Events, .slice a2 x2.1.Places.length c2], own cd28 a2 x2.1.Places.length c2 x2.1.Places, box b2 28 [iV 0, iV 0, iV 0, iV 0], box b1 26 [iV 0, .slice none 0 0]] := H332.pk [1, 0, 2, 3, 4, 5, 6, 7]
       have H334 : Hold h h128 [box b3 67 [.slice a1 x1.code.length c1, iV x28.2.1.at_, iV x28.2.1.seed], own cd2 a19 (([0, 6] : List Int).length) 2 ([0, 6] : List Int), bun [own cd2 a16 (([0, 1000, 1001] : List Int).length) 3 x28.2.2, own cd2 a17 (([0, x2.1.Events, (-1)] : List Int).length) 3 x25.2.2, box b4 26 [iV x2.1.Events, .slice a2 x2.1.Places.length c2], own cd28 a2 x2.1.Places.length c2 x2.1.Places, box b2 28 [iV 0, iV 0, iV 0, iV 0], box b1 26 [iV 0, .slice none 0 0]]] := H333.bd 2
       refine ZC 23 #[pV b3, .slice a19 2 2] (Fn.arg (w_spec_l01Pick h h128 _ (⟨x1.code, x28.2.1.at_, x28.2.1.seed⟩ : TL01source) b3 a1 c1 r1 ([0, 6] : List Int) a19 2 H334 _ _ hx29) (by simp only [hn26])) (fun v29 h129 hp29 => ?_)
       obtain ⟨rfl, H335⟩ := hp29
       have H336 : Hold h h129 [box b3 67 [.slice a1 x1.code.length c1, iV x29.2.1.at_, iV x29.2.1.seed], own cd2 a19 (([0, 6] : List Int).length) 2 x29.2.2, own cd2 a16 (([0, 1000, 1001] : List Int).length) 3 x28.2.2, own cd2 a17 (([0, x2.1.Events, (-1)] : List Int).length) 3 x25.2.2, box b4 26 [iV x2.1.Events, .slice a2 x2.1.Places.length c2], own cd28 a2 x2.1.Places.length c2 x2.1.Places, box b2 28 [iV 0, iV 0, iV 0, iV 0], box b1 26 [iV 0, .slice none 0 0]] := H335.ub (js := _) 2 2 H333
       refine ZA [box b4 26 [iV x2.1.Events, .slice a2 x2.1.Places.length c2], own cd28 a2 x2.1.Places.length c2 x2.1.Places, box b2 28 [iV 0, iV 0, iV 0, iV 0]] [4, 5, 6] [0, 1, 2] H336 ?_
       refine ZB 2 [.agg #[iV x25.1, iV 0, iV x28.1, iV x29.1]] 12 ?_
       refine ZE 1 13 (fun h130 H337 => ?_)
       have H338 := H337
       have H340 : Hold h h130 [box b1 26 [iV 0, .slice none 0 0], box b3 67 [.slice a1 x1.code.length c1, iV x29.2.1.at_, iV x29.2.1.seed], own cd2 a19 (([0, 6] : List Int).length) 2 x29.2.2, own cd2 a16 (([0, 1000, 1001] : List Int).length) 3 x28.2.2, own cd2 a17 (([0, x2.1.Events, (-1)] : List Int).length) 3 x25.2.2, box b4 26 [iV x2.1.Events, .slice a2 x2.1.Places.length c2], own cd28 a2 x2.1.Places.length c2 x2.1.Places, box b2 28 [iV 0, iV 0, iV 0, iV 0]] := H338.pk [7, 0, 1, 2, 3, 4, 5, 6]
       refine ZP 26 0 [iV x2.1.Events, .slice a2 x2.1.Places.length c2] (.agg #[iV x2.1.Events, .slice a2 x2.1.Places.length c2]) H340 (fun h131 H339 => ?_)
       refine ZA [box b4 26 [iV x2.1.Events, .slice a2 x2.1.Places.length c2], own cd28 a2 x2.1.Places.length c2 x2.1.Places, box b2 28 [iV 0, iV 0, iV 0, iV 0]] [5, 6, 7] [0, 1, 2] H339 ?_
       refine ZT 14 (fun h132 H341 => ?_)
       have H342 := H341
       have H344 : Hold h h132 [box b2 28 [iV 0, iV 0, iV 0, iV 0], box b1 26 [iV x2.1.Events, .slice a2 x2.1.Places.length c2], box b3 67 [.slice a1 x1.code.length c1, iV x29.2.1.at_, iV x29.2.1.seed], own cd2 a19 (([0, 6] : List Int).length) 2 x29.2.2, own cd2 a16 (([0, 1000, 1001] : List Int).length) 3 x28.2.2, own cd2 a17 (([0, x2.1.Events, (-1)] : List Int).length) 3 x25.2.2, box b4 26 [iV x2.1.Events, .slice a2 x2.1.Places.length c2], own cd28 a2 x2.1.Places.length c2 x2.1.Places] := H342.pk [7, 0, 1, 2, 3, 4, 5, 6]
       refine Ze ?_
       refine ZP 28 0 [iV x25.1, iV 0, iV x28.1, iV x29.1] (.agg #[iV x25.1, iV 0, iV x28.1, iV x29.1]) H344 (fun h133 H343 => ?_)
       refine Zx ?_
       refine Zk [2, 3] [(2, pV b1), (3, pV b2)] ?_
       have H900 : Hold h h133 [box b1 26 [iV x2.1.Events, .slice a2 x2.1.Places.length c2], own cd28 a2 x2.1.Places.length c2 x2.1.Places, box b2 28 [iV x25.1, iV 0, iV x28.1, iV x29.1]] := H343.pk [1, 7, 0]
       have gs1 := M.ret_some gs1
       subst gs1
       exact Zf [2, 3] ⟨rfl, H900⟩
     ·intro h134 H345
      have H346 := H345
      refine E_lit (C := cd2) (n := 2) (l := ([0, 6] : List Int)) (cs := [iV 0, iV 6]) H346 (fun w => by kernel_rfl) (Enc.consE (cd2_own 0 _) (Enc.consE (cd2_own 6 _) (Enc.nil _ _) rfl) rfl) rfl (by decide) (fun a20 h135 H347 => ?_)
      refine ZA [box b4 26 [iV x2.1.Events, .slice a2 x2.1.Places.length c2], own cd28 a2 x2.1.Places.length c2 x2.1.Places, box b2 28 [iV 0, iV 0, iV 0, iV 0]] [4, 5, 6] [0, 1, 2] H347 ?_
      refine ZE 5 5 (fun h136 H348 => ?_)
      have H349 := H348
      obtain ⟨x30, hx30, gs1⟩ := M.bind_some gs1
      have H350 : Hold h h136 [own cd2 a17 3 3 ([0, x2.1.Events, (-1)] : List Int), own cd2 a20 2 2 ([0, 6] : List Int), own cd2 a16 3 3 ([0, 1000, 1001] : List Int), box b3 67 [.slice a1 x1.code.length c1, iV x3.2.at_, iV x3.2.seed], box b4 26 [iV x2.1.Events, .slice a2 x2.1.Places.length c2], own cd28 a2 x2.1.Places.length c2 x2.1.Places, box b2 28 [iV 0, iV 0, iV 0, iV 0], box b1 26 [iV 0, .slice none 0 0]] := H349.pk [1, 0, 2, 3, 4, 5, 6, 7]
      have hn27 := (H350.len 0 rfl)
      have H351 : Hold h h136 [own cd2 a17 (([0, x2.1.Events, (-1)] : List Int).length) 3 ([0, x2.1.Events, (-1)] : List Int), own cd2 a20 2 2 ([0, 6] : List Int), own cd2 a16 3 3 ([0, 1000, 1001] : List Int), box b3 67 [.slice a1 x1.code.length c1, iV x3.2.at_, iV x3.2.seed], box b4 26 [iV x2.1.Events, .slice a2 x2.1.Places.length c2], own cd28 a2 x2.1.Places.length c2 x2.1.Places, box b2 28 [iV 0, iV 0, iV 0, iV 0], box b1 26 [iV 0, .slice none 0 0]] := by rw [hn27]; exact H350
      have H352 : Hold h h136 [box b3 67 [.slice a1 x1.code.length c1, iV x3.2.at_, iV x3.2.seed], own cd2 a17 (([0, x2.1.Events, (-1)] : List Int).length) 3 ([0, x2.1.Events, (-1)] : List Int), own cd2 a20 2 2 ([0, 6] : List Int), own cd2 a16 3 3 ([0, 1000, 1001] : List Int), box b4 26 [iV x2.1.Events, .slice a2 x2.1.Places.length c2], own cd28 a2 x2.1.Places.length c2 x2.1.Places, box b2 28 [iV 0, iV 0, iV 0, iV 0], box b1 26 [iV 0, .slice none 0 0]] := H351.pk [3, 0, 1, 2, 4, 5, 6, 7]
      have H353 : Hold h h136 [box b3 67 [.slice a1 x1.code.length c1, iV x3.2.at_, iV x3.2.seed], own cd2 a17 (([0, x2.1.Events, (-1)] : List Int).length) 3 ([0, x2.1.Events, (-1)] : List Int), bun [own cd2 a20 2 2 ([0, 6] : List Int), own cd2 a16 3 3 ([0, 1000, 1001] : List Int), box b4 26 [iV x2.1.Events, .slice a2 x2.1.Places.length c2], own cd28 a2 x2.1.Places.length c2 x2.1.Places, box b2 28 [iV 0, iV 0, iV 0, iV 0], box b1 26 [iV 0, .slice none 0 0]]] := H352.bd 2
      refine ZC 23 #[pV b3, .slice a17 3 3] (Fn.arg (w_spec_l01Pick h h136 _ (⟨x1.code, x3.2.at_, x3.2.seed⟩ : TL01source) b3 a1 c1 r1 ([0, x2.1.Events, (-1)] : List Int) a17 3 H353 _ _ hx30) (by simp only [hn27])) (fun v30 h137 hp30 => ?_)
      obtain ⟨rfl, H354⟩ := hp30
      have H355 : Hold h h137 [box b3 67 [.slice a1 x1.code.length c1, iV x30.2.1.at_, iV x30.2.1.seed], own cd2 a17 (([0, x2.1.Events, (-1)] : List Int).length) 3 x30.2.2, own cd2 a20 2 2 ([0, 6] : List Int), own cd2 a16 3 3 ([0, 1000, 1001] : List Int), box b4 26 [iV x2.1.Events, .slice a2 x2.1.Places.length c2], own cd28 a2 x2.1.Places.length c2 x2.1.Places, box b2 28 [iV 0, iV 0, iV 0, iV 0], box b1 26 [iV 0, .slice none 0 0]] := H354.ub (js := _) 2 2 H352
      refine ZA [box b4 26 [iV x2.1.Events, .slice a2 x2.1.Places.length c2], own cd28 a2 x2.1.Places.length c2 x2.1.Places, box b2 28 [iV 0, iV 0, iV 0, iV 0]] [4, 5, 6] [0, 1, 2] H355 ?_
      refine ZE 4 8 (fun h138 H356 => ?_)
      have H357 := H356
      obtain ⟨x31, hx31, gs1⟩ := M.bind_some gs1
      have H358 : Hold h h138 [own cd2 a16 3 3 ([0, 1000, 1001] : List Int), box b3 67 [.slice a1 x1.code.length c1, iV x30.2.1.at_, iV x30.2.1.seed], own cd2 a17 (([0, x2.1.Events, (-1)] : List Int).length) 3 x30.2.2, own cd2 a20 2 2 ([0, 6] : List Int), box b4 26 [iV x2.1.Events, .slice a2 x2.1.Places.length c2], own cd28 a2 x2.1.Places.length c2 x2.1.Places, box b2 28 [iV 0, iV 0, iV 0, iV 0], box b1 26 [iV 0, .slice none 0 0]] := H357.pk [3, 0, 1, 2, 4, 5, 6, 7]
      have hn28 := (H358.len 0 rfl)
      have H359 : Hold h h138 [own cd2 a16 (([0, 1000, 1001] : List Int).length) 3 ([0, 1000, 1001] : List Int), box b3 67 [.slice a1 x1.code.length c1, iV x30.2.1.at_, iV x30.2.1.seed], own cd2 a17 (([0, x2.1.Events, (-1)] : List Int).length) 3 x30.2.2, own cd2 a20 2 2 ([0, 6] : List Int), box b4 26 [iV x2.1.Events, .slice a2 x2.1.Places.length c2], own cd28 a2 x2.1.Places.length c2 x2.1.Places, box b2 28 [iV 0, iV 0, iV 0, iV 0], box b1 26 [iV 0, .slice none 0 0]] := by rw [hn28]; exact H358
      have H360 : Hold h h138 [box b3 67 [.slice a1 x1.code.length c1, iV x30.2.1.at_, iV x30.2.1.seed], own cd2 a16 (([0, 1000, 1001] : List Int).length) 3 ([0, 1000, 1001] : List Int), own cd2 a17 (([0, x2.1.Events, (-1)] : List Int).length) 3 x30.2.2, own cd2 a20 2 2 ([0, 6] : List Int), box b4 26 [iV x2.1.Events, .slice a2 x2.1.Places.length c2], own cd28 a2 x2.1.Places.length c2 x2.1.Places, box b2 28 [iV 0, iV 0, iV 0, iV 0], box b1 26 [iV 0, .slice none 0 0]] := H359.pk [1, 0, 2, 3, 4, 5, 6, 7]
      have H361 : Hold h h138 [box b3 67 [.slice a1 x1.code.length c1, iV x30.2.1.at_, iV x30.2.1.seed], own cd2 a16 (([0, 1000, 1001] : List Int).length) 3 ([0, 1000, 1001] : List Int), bun [own cd2 a17 (([0, x2.1.Events, (-1)] : List Int).length) 3 x30.2.2, own cd2 a20 2 2 ([0, 6] : List Int), box b4 26 [iV x2.1.Events, .slice a2 x2.1.Places.length c2], own cd28 a2 x2.1.Places.length c2 x2.1.Places, box b2 28 [iV 0, iV 0, iV 0, iV 0], box b1 26 [iV 0, .slice none 0 0]]] := H360.bd 2
      refine ZC 23 #[pV b3, .slice a16 3 3] (Fn.arg (w_spec_l01Pick h h138 _ (⟨x1.code, x30.2.1.at_, x30.2.1.seed⟩ : TL01source) b3 a1 c1 r1 ([0, 1000, 1001] : List Int) a16 3 H361 _ _ hx31) (by simp only [hn28])) (fun v31 h139 hp31 => ?_)
      obtain ⟨rfl, H362⟩ := hp31
      have H363 : Hold h h139 [box b3 67 [.slice a1 x1.code.length c1, iV x31.2.1.at_, iV x31.2.1.seed], own cd2 a16 (([0, 1000, 1001] : List Int).length) 3 x31.2.2, own cd2 a17 (([0, x2.1.Events, (-1)] : List Int).length) 3 x30.2.2, own cd2 a20 2 2 ([0, 6] : List Int), box b4 26 [iV x2.1.Events, .slice a2 x2.1.Places.length c2], own cd28 a2 x2.1.Places.length c2 x2.1.Places, box b2 28 [iV 0, iV 0, iV 0, iV 0], box b1 26 [iV 0, .slice none 0 0]] := H362.ub (js := _) 2 2 H360
      refine ZA [box b4 26 [iV x2.1.Events, .slice a2 x2.1.Places.length c2], own cd28 a2 x2.1.Places.length c2 x2.1.Places, box b2 28 [iV 0, iV 0, iV 0, iV 0]] [4, 5, 6] [0, 1, 2] H363 ?_
      refine ZE 3 11 (fun h140 H364 => ?_)
      have H365 := H364
      obtain ⟨x32, hx32, gs1⟩ := M.bind_some gs1
      have H366 : Hold h h140 [own cd2 a20 2 2 ([0, 6] : List Int), box b3 67 [.slice a1 x1.code.length c1, iV x31.2.1.at_, iV x31.2.1.seed], own cd2 a16 (([0, 1000, 1001] : List Int).length) 3 x31.2.2, own cd2 a17 (([0, x2.1.Events, (-1)] : List Int).length) 3 x30.2.2, box b4 26 [iV x2.1.Events, .slice a2 x2.1.Places.length c2], own cd28 a2 x2.1.Places.length c2 x2.1.Places, box b2 28 [iV 0, iV 0, iV 0, iV 0], box b1 26 [iV 0, .slice none 0 0]] := H365.pk [3, 0, 1, 2, 4, 5, 6, 7]
      have hn29 := (H366.len 0 rfl)
      have H367 : Hold h h140 [own cd2 a20 (([0, 6] : List Int).length) 2 ([0, 6] : List Int), box b3 67 [.slice a1 x1.code.length c1, iV x31.2.1.at_, iV x31.2.1.seed], own cd2 a16 (([0, 1000, 1001] : List Int).length) 3 x31.2.2, own cd2 a17 (([0, x2.1.Events, (-1)] : List Int).length) 3 x30.2.2, box b4 26 [iV x2.1.Events, .slice a2 x2.1.Places.length c2], own cd28 a2 x2.1.Places.length c2 x2.1.Places, box b2 28 [iV 0, iV 0, iV 0, iV 0], box b1 26 [iV 0, .slice none 0 0]] := by rw [hn29]; exact H366
      have H368 : Hold h h140 [box b3 67 [.slice a1 x1.code.length c1, iV x31.2.1.at_, iV x31.2.1.seed], own cd2 a20 (([0, 6] : List Int).length) 2 ([0, 6] : List Int), own cd2 a16 (([0, 1000, 1001] : List Int).length) 3 x31.2.2, own cd2 a17 (([0, x2.1.Events, (-1)] : List Int).length) 3 x30.2.2, box b4 26 [iV x2.1.Events, .slice a2 x2.1.Places.length c2], own cd28 a2 x2.1.Places.length c2 x2.1.Places, box b2 28 [iV 0, iV 0, iV 0, iV 0], box b1 26 [iV 0, .slice none 0 0]] := H367.pk [1, 0, 2, 3, 4, 5, 6, 7]
      have H369 : Hold h h140 [box b3 67 [.slice a1 x1.code.length c1, iV x31.2.1.at_, iV x31.2.1.seed], own cd2 a20 (([0, 6] : List Int).length) 2 ([0, 6] : List Int), bun [own cd2 a16 (([0, 1000, 1001] : List Int).length) 3 x31.2.2, own cd2 a17 (([0, x2.1.Events, (-1)] : List Int).length) 3 x30.2.2, box b4 26 [iV x2.1.Events, .slice a2 x2.1.Places.length c2], own cd28 a2 x2.1.Places.length c2 x2.1.Places, box b2 28 [iV 0, iV 0, iV 0, iV 0], box b1 26 [iV 0, .slice none 0 0]]] := H368.bd 2
      refine ZC 23 #[pV b3, .slice a20 2 2] (Fn.arg (w_spec_l01Pick h h140 _ (⟨x1.code, x31.2.1.at_, x31.2.1.seed⟩ : TL01source) b3 a1 c1 r1 ([0, 6] : List Int) a20 2 H369 _ _ hx32) (by simp only [hn29])) (fun v32 h141 hp32 => ?_)
      obtain ⟨rfl, H370⟩ := hp32
      have H371 : Hold h h141 [box b3 67 [.slice a1 x1.code.length c1, iV x32.2.1.at_, iV x32.2.1.seed], own cd2 a20 (([0, 6] : List Int).length) 2 x32.2.2, own cd2 a16 (([0, 1000, 1001] : List Int).length) 3 x31.2.2, own cd2 a17 (([0, x2.1.Events, (-1)] : List Int).length) 3 x30.2.2, box b4 26 [iV x2.1.Events, .slice a2 x2.1.Places.length c2], own cd28 a2 x2.1.Places.length c2 x2.1.Places, box b2 28 [iV 0, iV 0, iV 0, iV 0], box b1 26 [iV 0, .slice none 0 0]] := H370.ub (js := _) 2 2 H368
      refine ZA [box b4 26 [iV x2.1.Events, .slice a2 x2.1.Places.length c2], own cd28 a2 x2.1.Places.length c2 x2.1.Places, box b2 28 [iV 0, iV 0, iV 0, iV 0]] [4, 5, 6] [0, 1, 2] H371 ?_
      refine ZB 2 [.agg #[iV x30.1, iV 0, iV x31.1, iV x32.1]] 12 ?_
      refine ZE 1 13 (fun h142 H372 => ?_)
      have H373 := H372
      have H375 : Hold h h142 [box b1 26 [iV 0, .slice none 0 0], box b3 67 [.slice a1 x1.code.length c1, iV x32.2.1.at_, iV x32.2.1.seed], own cd2 a20 (([0, 6] : List Int).length) 2 x32.2.2, own cd2 a16 (([0, 1000, 1001] : List Int).length) 3 x31.2.2, own cd2 a17 (([0, x2.1.Events, (-1)] : List Int).length) 3 x30.2.2, box b4 26 [iV x2.1.Events, .slice a2 x2.1.Places.length c2], own cd28 a2 x2.1.Places.length c2 x2.1.Places, box b2 28 [iV 0, iV 0, iV 0, iV 0]] := H373.pk [7, 0, 1, 2, 3, 4, 5, 6]
      refine ZP 26 0 [iV x2.1.Events, .slice a2 x2.1.Places.length c2] (.agg #[iV x2.1.Events, .slice a2 x2.1.Places.length c2]) H375 (fun h143 H374 => ?_)
      refine ZA [box b4 26 [iV x2.1.Events, .slice a2 x2.1.Places.length c2], own cd28 a2 x2.1.Places.length c2 x2.1.Places, box b2 28 [iV 0, iV 0, iV 0, iV 0]] [5, 6, 7] [0, 1, 2] H374 ?_
      refine ZT 14 (fun h144 H376 => ?_)
      have H377 := H376
      have H379 : Hold h h144 [box b2 28 [iV 0, iV 0, iV 0, iV 0], box b1 26 [iV x2.1.Events, .slice a2 x2.1.Places.length c2], box b3 67 [.slice a1 x1.code.length c1, iV x32.2.1.at_, iV x32.2.1.seed], own cd2 a20 (([0, 6] : List Int).length) 2 x32.2.2, own cd2 a16 (([0, 1000, 1001] : List Int).length) 3 x31.2.2, own cd2 a17 (([0, x2.1.Events, (-1)] : List Int).length) 3 x30.2.2, box b4 26 [iV x2.1.Events, .slice a2 x2.1.Places.length c2], own cd28 a2 x2.1.Places.length c2 x2.1.Places] := H377.pk [7, 0, 1, 2, 3, 4, 5, 6]
      refine Ze ?_
      refine ZP 28 0 [iV x30.1, iV 0, iV x31.1, iV x32.1] (.agg #[iV x30.1, iV 0, iV x31.1, iV x32.1]) H379 (fun h145 H378 => ?_)
      refine Zx ?_
      refine Zk [2, 3] [(2, pV b1), (3, pV b2)] ?_
      have H901 : Hold h h145 [box b1 26 [iV x2.1.Events, .slice a2 x2.1.Places.length c2], own cd28 a2 x2.1.Places.length c2 x2.1.Places, box b2 28 [iV x30.1, iV 0, iV x31.1, iV x32.1]] := H378.pk [1, 7, 0]
      have gs1 := M.ret_some gs1
      subst gs1
      exact Zf [2, 3] ⟨rfl, H901⟩
    ·intro h146 H380
     have H381 := H380
     refine E_lit (C := cd2) (n := 2) (l := ([0, 6] : List Int)) (cs := [iV 0, iV 6]) H381 (fun w => by kernel_rfl) (Enc.consE (cd2_own 0 _) (Enc.consE (cd2_own 6 _) (Enc.nil _ _) rfl) rfl) rfl (by decide) (fun a21 h147 H382 => ?_)
     refine ZA [box b4 26 [iV x2.1.Events, .slice a2 x2.1.Places.length c2], own cd28 a2 x2.1.Places.length c2 x2.1.Places, box b2 28 [iV 0, iV 0, iV 0, iV 0]] [3, 4, 5] [0, 1, 2] H382 ?_
     refine ZE 6 4 (fun h148 H383 => ?_)
     have H384 := H383
     refine E_lit (C := cd2) (n := 3) (l := ([0, x2.1.Events, (-1)] : List Int)) (cs := [iV 0, iV x2.1.Events, iV (-1)]) H384 (fun w => by kernel_rfl) (Enc.consE (cd2_own 0 _) (Enc.consE (cd2_own x2.1.Events _) (Enc.consE (cd2_own (-1) _) (Enc.nil _ _) rfl) rfl) rfl) rfl (by decide) (fun a22 h149 H385 => ?_)
     refine ZA [box b4 26 [iV x2.1.Events, .slice a2 x2.1.Places.length c2], own cd28 a2 x2.1.Places.length c2 x2.1.Places, box b2 28 [iV 0, iV 0, iV 0, iV 0]] [4, 5, 6] [0, 1, 2] H385 ?_
     refine ZE 5 5 (fun h150 H386 => ?_)
     have H387 := H386
     obtain ⟨x33, hx33, gs1⟩ := M.bind_some gs1
     have hn30 := (H387.len 0 rfl)
     have H388 : Hold h h150 [own cd2 a22 (([0, x2.1.Events, (-1)] : List Int).length) 3 ([0, x2.1.Events, (-1)] : List Int), own cd2 a21 2 2 ([0, 6] : List Int), own cd2 a16 3 3 ([0, 1000, 1001] : List Int), box b3 67 [.slice a1 x1.code.length c1, iV x3.2.at_, iV x3.2.seed], box b4 26 [iV x2.1.Events, .slice a2 x2.1.Places.length c2], own cd28 a2 x2.1.Places.length c2 x2.1.Places, box b2 28 [iV 0, iV 0, iV 0, iV 0], box b1 26 [iV 0, .slice none 0 0]] := by rw [hn30]; exact H387
     have H389 : Hold h h150 [box b3 67 [.slice a1 x1.code.length c1, iV x3.2.at_, iV x3.2.seed], own cd2 a22 (([0, x2.1.Events, (-1)] : List Int).length) 3 ([0, x2.1.Events, (-1)] : List Int), own cd2 a21 2 2 ([0, 6] : List Int), own cd2 a16 3 3 ([0, 1000, 1001] : List Int), box b4 26 [iV x2.1.Events, .slice a2 x2.1.Places.length c2], own cd28 a2 x2.1.Places.length c2 x2.1.Places, box b2 28 [iV 0, iV 0, iV 0, iV 0], box b1 26 [iV 0, .slice none 0 0]] := H388.pk [3, 0, 1, 2, 4, 5, 6, 7]
     have H390 : Hold h h150 [box b3 67 [.slice a1 x1.code.length c1, iV x3.2.at_, iV x3.2.seed], own cd2 a22 (([0, x2.1.Events, (-1)] : List Int).length) 3 ([0, x2.1.Events, (-1)] : List Int), bun [own cd2 a21 2 2 ([0, 6] : List Int), own cd2 a16 3 3 ([0, 1000, 1001] : List Int), box b4 26 [iV x2.1.Events, .slice a2 x2.1.Places.length c2], own cd28 a2 x2.1.Places.length c2 x2.1.Places, box b2 28 [iV 0, iV 0, iV 0, iV 0], box b1 26 [iV 0, .slice none 0 0]]] := H389.bd 2
     refine ZC 23 #[pV b3, .slice a22 3 3] (Fn.arg (w_spec_l01Pick h h150 _ (⟨x1.code, x3.2.at_, x3.2.seed⟩ : TL01source) b3 a1 c1 r1 ([0, x2.1.Events, (-1)] : List Int) a22 3 H390 _ _ hx33) (by simp only [hn30])) (fun v33 h151 hp33 => ?_)
     obtain ⟨rfl, H391⟩ := hp33
     have H392 : Hold h h151 [box b3 67 [.slice a1 x1.code.length c1, iV x33.2.1.at_, iV x33.2.1.seed], own cd2 a22 (([0, x2.1.Events, (-1)] : List Int).length) 3 x33.2.2, own cd2 a21 2 2 ([0, 6] : List Int), own cd2 a16 3 3 ([0, 1000, 1001] : List Int), box b4 26 [iV x2.1.Events, .slice a2 x2.1.Places.length c2], own cd28 a2 x2.1.Places.length c2 x2.1.Places, box b2 28 [iV 0, iV 0, iV 0, iV 0], box b1 26 [iV 0, .slice none 0 0]] := H391.ub (js := _) 2 2 H389
     refine ZA [box b4 26 [iV x2.1.Events, .slice a2 x2.1.Places.length c2], own cd28 a2 x2.1.Places.length c2 x2.1.Places, box b2 28 [iV 0, iV 0, iV 0, iV 0]] [4, 5, 6] [0, 1, 2] H392 ?_
     refine ZE 4 8 (fun h152 H393 => ?_)
     have H394 := H393
     obtain ⟨x34, hx34, gs1⟩ := M.bind_some gs1
     have H395 : Hold h h152 [own cd2 a16 3 3 ([0, 1000, 1001] : List Int), box b3 67 [.slice a1 x1.code.length c1, iV x33.2.1.at_, iV x33.2.1.seed], own cd2 a22 (([0, x2.1.Events, (-1)] : List Int).length) 3 x33.2.2, own cd2 a21 2 2 ([0, 6] : List Int), box b4 26 [iV x2.1.Events, .slice a2 x2.1.Places.length c2], own cd28 a2 x2.1.Places.length c2 x2.1.Places, box b2 28 [iV 0, iV 0, iV 0, iV 0], box b1 26 [iV 0, .slice none 0 0]] := H394.pk [3, 0, 1, 2, 4, 5, 6, 7]
     have hn31 := (H395.len 0 rfl)
     have H396 : Hold h h152 [own cd2 a16 (([0, 1000, 1001] : List Int).length) 3 ([0, 1000, 1001] : List Int), box b3 67 [.slice a1 x1.code.length c1, iV x33.2.1.at_, iV x33.2.1.seed], own cd2 a22 (([0, x2.1.Events, (-1)] : List Int).length) 3 x33.2.2, own cd2 a21 2 2 ([0, 6] : List Int), box b4 26 [iV x2.1.Events, .slice a2 x2.1.Places.length c2], own cd28 a2 x2.1.Places.length c2 x2.1.Places, box b2 28 [iV 0, iV 0, iV 0, iV 0], box b1 26 [iV 0, .slice none 0 0]] := by rw [hn31]; exact H395
     have H397 : Hold h h152 [box b3 67 [.slice a1 x1.code.length c1, iV x33.2.1.at_, iV x33.2.1.seed], own cd2 a16 (([0, 1000, 1001] : List Int).length) 3 ([0, 1000, 1001] : List Int), own cd2 a22 (([0, x2.1.Events, (-1)] : List Int).length) 3 x33.2.2, own cd2 a21 2 2 ([0, 6] : List Int), box b4 26 [iV x2.1.Events, .slice a2 x2.1.Places.length c2], own cd28 a2 x2.1.Places.length c2 x2.1.Places, box b2 28 [iV 0, iV 0, iV 0, iV 0], box b1 26 [iV 0, .slice none 0 0]] := H396.pk [1, 0, 2, 3, 4, 5, 6, 7]
     have H398 : Hold h h152 [box b3 67 [.slice a1 x1.code.length c1, iV x33.2.1.at_, iV x33.2.1.seed], own cd2 a16 (([0, 1000, 1001] : List Int).length) 3 ([0, 1000, 1001] : List Int), bun [own cd2 a22 (([0, x2.1.Events, (-1)] : List Int).length) 3 x33.2.2, own cd2 a21 2 2 ([0, 6] : List Int), box b4 26 [iV x2.1.Events, .slice a2 x2.1.Places.length c2], own cd28 a2 x2.1.Places.length c2 x2.1.Places, box b2 28 [iV 0, iV 0, iV 0, iV 0], box b1 26 [iV 0, .slice none 0 0]]] := H397.bd 2
     refine ZC 23 #[pV b3, .slice a16 3 3] (Fn.arg (w_spec_l01Pick h h152 _ (⟨x1.code, x33.2.1.at_, x33.2.1.seed⟩ : TL01source) b3 a1 c1 r1 ([0, 1000, 1001] : List Int) a16 3 H398 _ _ hx34) (by simp only [hn31])) (fun v34 h153 hp34 => ?_)
     obtain ⟨rfl, H399⟩ := hp34
     have H400 : Hold h h153 [box b3 67 [.slice a1 x1.code.length c1, iV x34.2.1.at_, iV x34.2.1.seed], own cd2 a16 (([0, 1000, 1001] : List Int).length) 3 x34.2.2, own cd2 a22 (([0, x2.1.Events, (-1)] : List Int).length) 3 x33.2.2, own cd2 a21 2 2 ([0, 6] : List Int), box b4 26 [iV x2.1.Events, .slice a2 x2.1.Places.length c2], own cd28 a2 x2.1.Places.length c2 x2.1.Places, box b2 28 [iV 0, iV 0, iV 0, iV 0], box b1 26 [iV 0, .slice none 0 0]] := H399.ub (js := _) 2 2 H397
     refine ZA [box b4 26 [iV x2.1.Events, .slice a2 x2.1.Places.length c2], own cd28 a2 x2.1.Places.length c2 x2.1.Places, box b2 28 [iV 0, iV 0, iV 0, iV 0]] [4, 5, 6] [0, 1, 2] H400 ?_
     refine ZE 3 11 (fun h154 H401 => ?_)
     have H402 := H401
     obtain ⟨x35, hx35, gs1⟩ := M.bind_some gs1
     have H403 : Hold h h154 [own cd2 a21 2 2 ([0, 6] : List Int), box b3 67 [.slice a1 x1.code.length c1, iV x34.2.1.at_, iV x34.2.1.seed], own cd2 a16 (([0, 1000, 1001] : List Int).length) 3 x34.2.2, own cd2 a22 (([0, x2.1.Events, (-1)] : List Int).length) 3 x33.2.2, box b4 26 [iV x2.1.Events, .slice a2 x2.1.Places.length c2], own cd28 a2 x2.1.Places.length c2 x2.1.Places, box b2 28 [iV 0, iV 0, iV 0, iV 0], box b1 26 [iV 0, .slice none 0 0]] := H402.pk [3, 0, 1, 2, 4, 5, 6, 7]
     have hn32 := (H403.len 0 rfl)
     have H404 : Hold h h154 [own cd2 a21 (([0, 6] : List Int).length) 2 ([0, 6] : List Int), box b3 67 [.slice a1 x1.code.length c1, iV x34.2.1.at_, iV x34.2.1.seed], own cd2 a16 (([0, 1000, 1001] : List Int).length) 3 x34.2.2, own cd2 a22 (([0, x2.1.Events, (-1)] : List Int).length) 3 x33.2.2, box b4 26 [iV x2.1.Events, .slice a2 x2.1.Places.length c2], own cd28 a2 x2.1.Places.length c2 x2.1.Places, box b2 28 [iV 0, iV 0, iV 0, iV 0], box b1 26 [iV 0, .slice none 0 0]] := by rw [hn32]; exact H403
     have H405 : Hold h h154 [box b3 67 [.slice a1 x1.code.length c1, iV x34.2.1.at_, iV x34.2.1.seed], own cd2 a21 (([0, 6] : List Int).length) 2 ([0, 6] : List Int), own cd2 a16 (([0, 1000, 1001] : List Int).length) 3 x34.2.2, own cd2 a22 (([0, x2.1.Events, (-1)] : List Int).length) 3 x33.2.2, box b4 26 [iV x2.1.Events, .slice a2 x2.1.Places.length c2], own cd28 a2 x2.1.Places.length c2 x2.1.Places, box b2 28 [iV 0, iV 0, iV 0, iV 0], box b1 26 [iV 0, .slice none 0 0]] := H404.pk [1, 0, 2, 3, 4, 5, 6, 7]
     have H406 : Hold h h154 [box b3 67 [.slice a1 x1.code.length c1, iV x34.2.1.at_, iV x34.2.1.seed], own cd2 a21 (([0, 6] : List Int).length) 2 ([0, 6] : List Int), bun [own cd2 a16 (([0, 1000, 1001] : List Int).length) 3 x34.2.2, own cd2 a22 (([0, x2.1.Events, (-1)] : List Int).length) 3 x33.2.2, box b4 26 [iV x2.1.Events, .slice a2 x2.1.Places.length c2], own cd28 a2 x2.1.Places.length c2 x2.1.Places, box b2 28 [iV 0, iV 0, iV 0, iV 0], box b1 26 [iV 0, .slice none 0 0]]] := H405.bd 2
     refine ZC 23 #[pV b3, .slice a21 2 2] (Fn.arg (w_spec_l01Pick h h154 _ (⟨x1.code, x34.2.1.at_, x34.2.1.seed⟩ : TL01source) b3 a1 c1 r1 ([0, 6] : List Int) a21 2 H406 _ _ hx35) (by simp only [hn32])) (fun v35 h155 hp35 => ?_)
     obtain ⟨rfl, H407⟩ := hp35
     have H408 : Hold h h155 [box b3 67 [.slice a1 x1.code.length c1, iV x35.2.1.at_, iV x35.2.1.seed], own cd2 a21 (([0, 6] : List Int).length) 2 x35.2.2, own cd2 a16 (([0, 1000, 1001] : List Int).length) 3 x34.2.2, own cd2 a22 (([0, x2.1.Events, (-1)] : List Int).length) 3 x33.2.2, box b4 26 [iV x2.1.Events, .slice a2 x2.1.Places.length c2], own cd28 a2 x2.1.Places.length c2 x2.1.Places, box b2 28 [iV 0, iV 0, iV 0, iV 0], box b1 26 [iV 0, .slice none 0 0]] := H407.ub (js := _) 2 2 H405
     refine ZA [box b4 26 [iV x2.1.Events, .slice a2 x2.1.Places.length c2], own cd28 a2 x2.1.Places.length c2 x2.1.Places, box b2 28 [iV 0, iV 0, iV 0, iV 0]] [4, 5, 6] [0, 1, 2] H408 ?_
     refine ZB 2 [.agg #[iV x33.1, iV 0, iV x34.1, iV x35.1]] 12 ?_
     refine ZE 1 13 (fun h156 H409 => ?_)
     have H410 := H409
     have H412 : Hold h h156 [box b1 26 [iV 0, .slice none 0 0], box b3 67 [.slice a1 x1.code.length c1, iV x35.2.1.at_, iV x35.2.1.seed], own cd2 a21 (([0, 6] : List Int).length) 2 x35.2.2, own cd2 a16 (([0, 1000, 1001] : List Int).length) 3 x34.2.2, own cd2 a22 (([0, x2.1.Events, (-1)] : List Int).length) 3 x33.2.2, box b4 26 [iV x2.1.Events, .slice a2 x2.1.Places.length c2], own cd28 a2 x2.1.Places.length c2 x2.1.Places, box b2 28 [iV 0, iV 0, iV 0, iV 0]] := H410.pk [7, 0, 1, 2, 3, 4, 5, 6]
     refine ZP 26 0 [iV x2.1.Events, .slice a2 x2.1.Places.length c2] (.agg #[iV x2.1.Events, .slice a2 x2.1.Places.length c2]) H412 (fun h157 H411 => ?_)
     refine ZA [box b4 26 [iV x2.1.Events, .slice a2 x2.1.Places.length c2], own cd28 a2 x2.1.Places.length c2 x2.1.Places, box b2 28 [iV 0, iV 0, iV 0, iV 0]] [5, 6, 7] [0, 1, 2] H411 ?_
     refine ZT 14 (fun h158 H413 => ?_)
     have H414 := H413
     have H416 : Hold h h158 [box b2 28 [iV 0, iV 0, iV 0, iV 0], box b1 26 [iV x2.1.Events, .slice a2 x2.1.Places.length c2], box b3 67 [.slice a1 x1.code.length c1, iV x35.2.1.at_, iV x35.2.1.seed], own cd2 a21 (([0, 6] : List Int).length) 2 x35.2.2, own cd2 a16 (([0, 1000, 1001] : List Int).length) 3 x34.2.2, own cd2 a22 (([0, x2.1.Events, (-1)] : List Int).length) 3 x33.2.2, box b4 26 [iV x2.1.Events, .slice a2 x2.1.Places.length c2], own cd28 a2 x2.1.Places.length c2 x2.1.Places] := H414.pk [7, 0, 1, 2, 3, 4, 5, 6]
     refine Ze ?_
     refine ZP 28 0 [iV x33.1, iV 0, iV x34.1, iV x35.1] (.agg #[iV x33.1, iV 0, iV x34.1, iV x35.1]) H416 (fun h159 H415 => ?_)
     refine Zx ?_
     refine Zk [2, 3] [(2, pV b1), (3, pV b2)] ?_
     have H902 : Hold h h159 [box b1 26 [iV x2.1.Events, .slice a2 x2.1.Places.length c2], own cd28 a2 x2.1.Places.length c2 x2.1.Places, box b2 28 [iV x33.1, iV 0, iV x34.1, iV x35.1]] := H415.pk [1, 7, 0]
     have gs1 := M.ret_some gs1
     subst gs1
     exact Zf [2, 3] ⟨rfl, H902⟩
   ·intro h160 H417
    have H418 := H417
    refine E_lit (C := cd2) (n := 2) (l := ([0, 6] : List Int)) (cs := [iV 0, iV 6]) H418 (fun w => by kernel_rfl) (Enc.consE (cd2_own 0 _) (Enc.consE (cd2_own 6 _) (Enc.nil _ _) rfl) rfl) rfl (by decide) (fun a23 h161 H419 => ?_)
    refine ZA [box b4 26 [iV x2.1.Events, .slice a2 x2.1.Places.length c2], own cd28 a2 x2.1.Places.length c2 x2.1.Places, box b2 28 [iV 0, iV 0, iV 0, iV 0]] [2, 3, 4] [0, 1, 2] H419 ?_
    refine DR_e2 7 4 7 (by kernel_rfl) (by kernel_rfl) (by kernel_rfl) (by kernel_rfl) ?_ ?_
    ·intro h162 H420
     have H421 := H420
     refine E_lit (C := cd2) (n := 3) (l := ([0, x2.1.Events, (-1)] : List Int)) (cs := [iV 0, iV x2.1.Events, iV (-1)]) H421 (fun w => by kernel_rfl) (Enc.consE (cd2_own 0 _) (Enc.consE (cd2_own x2.1.Events _) (Enc.consE (cd2_own (-1) _) (Enc.nil _ _) rfl) rfl) rfl) rfl (by decide) (fun a24 h163 H422 => ?_)
     refine ZA [box b4 26 [iV x2.1.Events, .slice a2 x2.1.Places.length c2], own cd28 a2 x2.1.Places.length c2 x2.1.Places, box b2 28 [iV 0, iV 0, iV 0, iV 0]] [3, 4, 5] [0, 1, 2] H422 ?_
     refine DR_e2 6 5 7 (by kernel_rfl) (by kernel_rfl) (by kernel_rfl) (by kernel_rfl) ?_ ?_
     ·intro h164 H423
      have H424 := H423
      obtain ⟨x36, hx36, gs1⟩ := M.bind_some gs1
      have hn33 := (H424.len 0 rfl)
      have H425 : Hold h h164 [own cd2 a24 (([0, x2.1.Events, (-1)] : List Int).length) 3 ([0, x2.1.Events, (-1)] : List Int), own cd2 a23 2 2 ([0, 6] : List Int), box b3 67 [.slice a1 x1.code.length c1, iV x3.2.at_, iV x3.2.seed], box b4 26 [iV x2.1.Events, .slice a2 x2.1.Places.length c2], own cd28 a2 x2.1.Places.length c2 x2.1.Places, box b2 28 [iV 0, iV 0, iV 0, iV 0], box b1 26 [iV 0, .slice none 0 0]] := by rw [hn33]; exact H424
      have H426 : Hold h h164 [box b3 67 [.slice a1 x1.code.length c1, iV x3.2.at_, iV x3.2.seed], own cd2 a24 (([0, x2.1.Events, (-1)] : List Int).length) 3 ([0, x2.1.Events, (-1)] : List Int), own cd2 a23 2 2 ([0, 6] : List Int), box b4 26 [iV x2.1.Events, .slice a2 x2.1.Places.length c2], own cd28 a2 x2.1.Places.length c2 x2.1.Places, box b2 28 [iV 0, iV 0, iV 0, iV 0], box b1 26 [iV 0, .slice none 0 0]] := H425.pk [2, 0, 1, 3, 4, 5, 6]
      have H427 : Hold h h164 [box b3 67 [.slice a1 x1.code.length c1, iV x3.2.at_, iV x3.2.seed], own cd2 a24 (([0, x2.1.Events, (-1)] : List Int).length) 3 ([0, x2.1.Events, (-1)] : List Int), bun [own cd2 a23 2 2 ([0, 6] : List Int), box b4 26 [iV x2.1.Events, .slice a2 x2.1.Places.length c2], own cd28 a2 x2.1.Places.length c2 x2.1.Places, box b2 28 [iV 0, iV 0, iV 0, iV 0], box b1 26 [iV 0, .slice none 0 0]]] := H426.bd 2
      refine ZC 23 #[pV b3, .slice a24 3 3] (Fn.arg (w_spec_l01Pick h h164 _ (⟨x1.code, x3.2.at_, x3.2.seed⟩ : TL01source) b3 a1 c1 r1 ([0, x2.1.Events, (-1)] : List Int) a24 3 H427 _ _ hx36) (by simp only [hn33])) (fun v36 h165 hp36 => ?_)
      obtain ⟨rfl, H428⟩ := hp36
      have H429 : Hold h h165 [box b3 67 [.slice a1 x1.code.length c1, iV x36.2.1.at_, iV x36.2.1.seed], own cd2 a24 (([0, x2.1.Events, (-1)] : List Int).length) 3 x36.2.2, own cd2 a23 2 2 ([0, 6] : List Int), box b4 26 [iV x2.1.Events, .slice a2 x2.1.Places.length c2], own cd28 a2 x2.1.Places.length c2 x2.1.Places, box b2 28 [iV 0, iV 0, iV 0, iV 0], box b1 26 [iV 0, .slice none 0 0]] := H428.ub (js := _) 2 2 H426
      refine ZA [box b4 26 [iV x2.1.Events, .slice a2 x2.1.Places.length c2], own cd28 a2 x2.1.Places.length c2 x2.1.Places, box b2 28 [iV 0, iV 0, iV 0, iV 0]] [3, 4, 5] [0, 1, 2] H429 ?_
      refine ZE 5 7 (fun h166 H430 => ?_)
      have H431 := H430
      refine E_lit (C := cd2) (n := 3) (l := ([0, 1000, 1001] : List Int)) (cs := [iV 0, iV 1000, iV 1001]) H431 (fun w => by kernel_rfl) (Enc.consE (cd2_own 0 _) (Enc.consE (cd2_own 1000 _) (Enc.consE (cd2_own 1001 _) (Enc.nil _ _) rfl) rfl) rfl) rfl (by decide) (fun a25 h167 H432 => ?_)
      refine ZA [box b4 26 [iV x2.1.Events, .slice a2 x2.1.Places.length c2], own cd28 a2 x2.1.Places.length c2 x2.1.Places, box b2 28 [iV 0, iV 0, iV 0, iV 0]] [4, 5, 6] [0, 1, 2] H432 ?_
      refine ZE 4 8 (fun h168 H433 => ?_)
      have H434 := H433
      obtain ⟨x37, hx37, gs1⟩ := M.bind_some gs1
      have hn34 := (H434.len 0 rfl)
      have H435 : Hold h h168 [own cd2 a25 (([0, 1000, 1001] : List Int).length) 3 ([0, 1000, 1001] : List Int), box b3 67 [.slice a1 x1.code.length c1, iV x36.2.1.at_, iV x36.2.1.seed], own cd2 a24 (([0, x2.1.Events, (-1)] : List Int).length) 3 x36.2.2, own cd2 a23 2 2 ([0, 6] : List Int), box b4 26 [iV x2.1.Events, .slice a2 x2.1.Places.length c2], own cd28 a2 x2.1.Places.length c2 x2.1.Places, box b2 28 [iV 0, iV 0, iV 0, iV 0], box b1 26 [iV 0, .slice none 0 0]] := by rw [hn34]; exact H434
      have H436 : Hold h h168 [box b3 67 [.slice a1 x1.code.length c1, iV x36.2.1.at_, iV x36.2.1.seed], own cd2 a25 (([0, 1000, 1001] : List Int).length) 3 ([0, 1000, 1001] : List Int), own cd2 a24 (([0, x2.1.Events, (-1)] : List Int).length) 3 x36.2.2, own cd2 a23 2 2 ([0, 6] : List Int), box b4 26 [iV x2.1.Events, .slice a2 x2.1.Places.length c2], own cd28 a2 x2.1.Places.length c2 x2.1.Places, box b2 28 [iV 0, iV 0, iV 0, iV 0], box b1 26 [iV 0, .slice none 0 0]] := H435.pk [1, 0, 2, 3, 4, 5, 6, 7]
      have H437 : Hold h h168 [box b3 67 [.slice a1 x1.code.length c1, iV x36.2.1.at_, iV x36.2.1.seed], own cd2 a25 (([0, 1000, 1001] : List Int).length) 3 ([0, 1000, 1001] : List Int), bun [own cd2 a24 (([0, x2.1.Events, (-1)] : List Int).length) 3 x36.2.2, own cd2 a23 2 2 ([0, 6] : List Int), box b4 26 [iV x2.1.Events, .slice a2 x2.1.Places.length c2], own cd28 a2 x2.1.Places.length c2 x2.1.Places, box b2 28 [iV 0, iV 0, iV 0, iV 0], box b1 26 [iV 0, .slice none 0 0]]] := H436.bd 2
      refine ZC 23 #[pV b3, .slice a25 3 3] (Fn.arg (w_spec_l01Pick h h168 _ (⟨x1.code, x36.2.1.at_, x36.2.1.seed⟩ : TL01source) b3 a1 c1 r1 ([0, 1000, 1001] : List Int) a25 3 H437 _ _ hx37) (by simp only [hn34])) (fun v37 h169 hp37 => ?_)
      obtain ⟨rfl, H438⟩ := hp37
      have H439 : Hold h h169 [box b3 67 [.slice a1 x1.code.length c1, iV x37.2.1.at_, iV x37.2.1.seed], own cd2 a25 (([0, 1000, 1001] : List Int).length) 3 x37.2.2, own cd2 a24 (([0, x2.1.Events, (-1)] : List Int).length) 3 x36.2.2, own cd2 a23 2 2 ([0, 6] : List Int), box b4 26 [iV x2.1.Events, .slice a2 x2.1.Places.length c2], own cd28 a2 x2.1.Places.length c2 x2.1.Places, box b2 28 [iV 0, iV 0, iV 0, iV 0], box b1 26 [iV 0, .slice none 0 0]] := H438.ub (js := _) 2 2 H436
      refine ZA [box b4 26 [iV x2.1.Events, .slice a2 x2.1.Places.length c2], own cd28 a2 x2.1.Places.length c2 x2.1.Places, box b2 28 [iV 0, iV 0, iV 0, iV 0]] [4, 5, 6] [0, 1, 2] H439 ?_
      refine ZE 3 11 (fun h170 H440 => ?_)
      have H441 := H440
      obtain ⟨x38, hx38, gs1⟩ := M.bind_some gs1
      have H442 : Hold h h170 [own cd2 a23 2 2 ([0, 6] : List Int), box b3 67 [.slice a1 x1.code.length c1, iV x37.2.1.at_, iV x37.2.1.seed], own cd2 a25 (([0, 1000, 1001] : List Int).length) 3 x37.2.2, own cd2 a24 (([0, x2.1.Events, (-1)] : List Int).length) 3 x36.2.2, box b4 26 [iV x2.1.Events, .slice a2 x2.1.Places.length c2], own cd28 a2 x2.1.Places.length c2 x2.1.Places, box b2 28 [iV 0, iV 0, iV 0, iV 0], box b1 26 [iV 0, .slice none 0 0]] := H441.pk [3, 0, 1, 2, 4, 5, 6, 7]
      have hn35 := (H442.len 0 rfl)
      have H443 : Hold h h170 [own cd2 a23 (([0, 6] : List Int).length) 2 ([0, 6] : List Int), box b3 67 [.slice a1 x1.code.length c1, iV x37.2.1.at_, iV x37.2.1.seed], own cd2 a25 (([0, 1000, 1001] : List Int).length) 3 x37.2.2, own cd2 a24 (([0, x2.1.Events, (-1)] : List Int).length) 3 x36.2.2, box b4 26 [iV x2.1.Events, .slice a2 x2.1.Places.length c2], own cd28 a2 x2.1.Places.length c2 x2.1.Places, box b2 28 [iV 0, iV 0, iV 0, iV 0], box b1 26 [iV 0, .slice none 0 0]] := by rw [hn35]; exact H442
      have H444 : Hold h h170 [box b3 67 [.slice a1 x1.code.length c1, iV x37.2.1.at_, iV x37.2.1.seed], own cd2 a23 (([0, 6] : List Int).length) 2 ([0, 6] : List Int), own cd2 a25 (([0, 1000, 1001] : List Int).length) 3 x37.2.2, own cd2 a24 (([0, x2.1.Events, (-1)] : List Int).length) 3 x36.2.2, box b4 26 [iV x2.1.Events, .slice a2 x2.1.Places.length c2], own cd28 a2 x2.1.Places.length c2 x2.1.Places, box b2 28 [iV 0, iV 0, iV 0, iV 0], box b1 26 [iV 0, .slice none 0 0]] := H443.pk [1, 0, 2, 3, 4, 5, 6, 7]
      have H445 : Hold h h170 [box b3 67 [.slice a1 x1.code.length c1, iV x37.2.1.at_, iV x37.2.1.seed], own cd2 a23 (([0, 6] : List Int).length) 2 ([0, 6] : List Int), bun [own cd2 a25 (([0, 1000, 1001] : List Int).length) 3 x37.2.2, own cd2 a24 (([0, x2.1.Events, (-1)] : List Int).length) 3 x36.2.2, box b4 26 [iV x2.1.Events, .slice a2 x2.1.Places.length c2], own cd28 a2 x2.1.Places.length c2 x2.1.Places, box b2 28 [iV 0, iV 0, iV 0, iV 0], box b1 26 [iV 0, .slice none 0 0]]] := H444.bd 2
      refine ZC 23 #[pV b3, .slice a23 2 2] (Fn.arg (w_spec_l01Pick h h170 _ (⟨x1.code, x37.2.1.at_, x37.2.1.seed⟩ : TL01source) b3 a1 c1 r1 ([0, 6] : List Int) a23 2 H445 _ _ hx38) (by simp only [hn35])) (fun v38 h171 hp38 => ?_)
      obtain ⟨rfl, H446⟩ := hp38
      have H447 : Hold h h171 [box b3 67 [.slice a1 x1.code.length c1, iV x38.2.1.at_, iV x38.2.1.seed], own cd2 a23 (([0, 6] : List Int).length) 2 x38.2.2, own cd2 a25 (([0, 1000, 1001] : List Int).length) 3 x37.2.2, own cd2 a24 (([0, x2.1.Events, (-1)] : List Int).length) 3 x36.2.2, box b4 26 [iV x2.1.Events, .slice a2 x2.1.Places.length c2], own cd28 a2 x2.1.Places.length c2 x2.1.Places, box b2 28 [iV 0, iV 0, iV 0, iV 0], box b1 26 [iV 0, .slice none 0 0]] := H446.ub (js := _) 2 2 H444
      refine ZA [box b4 26 [iV x2.1.Events, .slice a2 x2.1.Places.length c2], own cd28 a2 x2.1.Places.length c2 x2.1.Places, box b2 28 [iV 0, iV 0, iV 0, iV 0]] [4, 5, 6] [0, 1, 2] H447 ?_
      refine ZB 2 [.agg #[iV x36.1, iV 0, iV x37.1, iV x38.1]] 12 ?_
      refine ZE 1 13 (fun h172 H448 => ?_)
      have H449 := H448
      have H451 : Hold h h172 [box b1 26 [iV 0, .slice none 0 0], box b3 67 [.slice a1 x1.code.length c1, iV x38.2.1.at_, iV x38.2.1.seed], own cd2 a23 (([0, 6] : List Int).length) 2 x38.2.2, own cd2 a25 (([0, 1000, 1001] : List Int).length) 3 x37.2.2, own cd2 a24 (([0, x2.1.Events, (-1)] : List Int).length) 3 x36.2.2, box b4 26 [iV x2.1.Events, .slice a2 x2.1.Places.length c2], own cd28 a2 x2.1.Places.length c2 x2.1.Places, box b2 28 [iV 0, iV 0, iV 0, iV 0]] := H449.pk [7, 0, 1, 2, 3, 4, 5, 6]
      refine ZP 26 0 [iV x2.1.Events, .slice a2 x2.1.Places.length c2] (.agg #[iV x2.1.Events, .slice a2 x2.1.Places.length c2]) H451 (fun h173 H450 => ?_)
      refine ZA [box b4 26 [iV x2.1.Events, .slice a2 x2.1.Places.length c2], own cd28 a2 x2.1.Places.length c2 x2.1.Places, box b2 28 [iV 0, iV 0, iV 0, iV 0]] [5, 6, 7] [0, 1, 2] H450 ?_
      refine ZT 14 (fun h174 H452 => ?_)
      have H453 := H452
      have H455 : Hold h h174 [box b2 28 [iV 0, iV 0, iV 0, iV 0], box b1 26 [iV x2.1.Events, .slice a2 x2.1.Places.length c2], box b3 67 [.slice a1 x1.code.length c1, iV x38.2.1.at_, iV x38.2.1.seed], own cd2 a23 (([0, 6] : List Int).length) 2 x38.2.2, own cd2 a25 (([0, 1000, 1001] : List Int).length) 3 x37.2.2, own cd2 a24 (([0, x2.1.Events, (-1)] : List Int).length) 3 x36.2.2, box b4 26 [iV x2.1.Events, .slice a2 x2.1.Places.length c2], own cd28 a2 x2.1.Places.length c2 x2.1.Places] := H453.pk [7, 0, 1, 2, 3, 4, 5, 6]
      refine Ze ?_
      refine ZP 28 0 [iV x36.1, iV 0, iV x37.1, iV x38.1] (.agg #[iV x36.1, iV 0, iV x37.1, iV x38.1]) H455 (fun h175 H454 => ?_)
      refine Zx ?_
      refine Zk [2, 3] [(2, pV b1), (3, pV b2)] ?_
      have H903 : Hold h h175 [box b1 26 [iV x2.1.Events, .slice a2 x2.1.Places.length c2], own cd28 a2 x2.1.Places.length c2 x2.1.Places, box b2 28 [iV x36.1, iV 0, iV x37.1, iV x38.1]] := H454.pk [1, 7, 0]
      have gs1 := M.ret_some gs1
      subst gs1
      exact Zf [2, 3] ⟨rfl, H903⟩
     ·intro h176 H456
      have H457 := H456
      refine E_lit (C := cd2) (n := 3) (l := ([0, 1000, 1001] : List Int)) (cs := [iV 0, iV 1000, iV 1001]) H457 (fun w => by kernel_rfl) (Enc.consE (cd2_own 0 _) (Enc.consE (cd2_own 1000 _) (Enc.consE (cd2_own 1001 _) (Enc.nil _ _) rfl) rfl) rfl) rfl (by decide) (fun a26 h177 H458 => ?_)
      refine ZA [box b4 26 [iV x2.1.Events, .slice a2 x2.1.Places.length c2], own cd28 a2 x2.1.Places.length c2 x2.1.Places, box b2 28 [iV 0, iV 0, iV 0, iV 0]] [4, 5, 6] [0, 1, 2] H458 ?_
      refine ZE 5 5 (fun h178 H459 => ?_)
      have H460 := H459
      obtain ⟨x39, hx39, gs1⟩ := M.bind_some gs1
      have H461 : Hold h h178 [own cd2 a24 3 3 ([0, x2.1.Events, (-1)] : List Int), own cd2 a26 3 3 ([0, 1000, 1001] : List Int), own cd2 a23 2 2 ([0, 6] : List Int), box b3 67 [.slice a1 x1.code.length c1, iV x3.2.at_, iV x3.2.seed], box b4 26 [iV x2.1.Events, .slice a2 x2.1.Places.length c2], own cd28 a2 x2.1.Places.length c2 x2.1.Places, box b2 28 [iV 0, iV 0, iV 0, iV 0], box b1 26 [iV 0, .slice none 0 0]] := H460.pk [1, 0, 2, 3, 4, 5, 6, 7]
      have hn36 := (H461.len 0 rfl)
      have H462 : Hold h h178 [own cd2 a24 (([0, x2.1.Events, (-1)] : List Int).length) 3 ([0, x2.1.Events, (-1)] : List Int), own cd2 a26 3 3 ([0, 1000, 1001] : List Int), own cd2 a23 2 2 ([0, 6] : List Int), box b3 67 [.slice a1 x1.code.length c1, iV x3.2.at_, iV x3.2.seed], box b4 26 [iV x2.1.Events, .slice a2 x2.1.Places.length c2], own cd28 a2 x2.1.Places.length c2 x2.1.Places, box b2 28 [iV 0, iV 0, iV 0, iV 0], box b1 26 [iV 0, .slice none 0 0]] := by rw [hn36]; exact H461
      have H463 : Hold h h178 [box b3 67 [.slice a1 x1.code.length c1, iV x3.2.at_, iV x3.2.seed], own cd2 a24 (([0, x2.1.Events, (-1)] : List Int).length) 3 ([0, x2.1.Events, (-1)] : List Int), own cd2 a26 3 3 ([0, 1000, 1001] : List Int), own cd2 a23 2 2 ([0, 6] : List Int), box b4 26 [iV x2.1.Events, .slice a2 x2.1.Places.length c2], own cd28 a2 x2.1.Places.length c2 x2.1.Places, box b2 28 [iV 0, iV 0, iV 0, iV 0], box b1 26 [iV 0, .slice none 0 0]] := H462.pk [3, 0, 1, 2, 4, 5, 6, 7]
      have H464 : Hold h h178 [box b3 67 [.slice a1 x1.code.length c1, iV x3.2.at_, iV x3.2.seed], own cd2 a24 (([0, x2.1.Events, (-1)] : List Int).length) 3 ([0, x2.1.Events, (-1)] : List Int), bun [own cd2 a26 3 3 ([0, 1000, 1001] : List Int), own cd2 a23 2 2 ([0, 6] : List Int), box b4 26 [iV x2.1.Events, .slice a2 x2.1.Places.length c2], own cd28 a2 x2.1.Places.length c2 x2.1.Places, box b2 28 [iV 0, iV 0, iV 0, iV 0], box b1 26 [iV 0, .slice none 0 0]]] := H463.bd 2
      refine ZC 23 #[pV b3, .slice a24 3 3] (Fn.arg (w_spec_l01Pick h h178 _ (⟨x1.code, x3.2.at_, x3.2.seed⟩ : TL01source) b3 a1 c1 r1 ([0, x2.1.Events, (-1)] : List Int) a24 3 H464 _ _ hx39) (by simp only [hn36])) (fun v39 h179 hp39 => ?_)
      obtain ⟨rfl, H465⟩ := hp39
      have H466 : Hold h h179 [box b3 67 [.slice a1 x1.code.length c1, iV x39.2.1.at_, iV x39.2.1.seed], own cd2 a24 (([0, x2.1.Events, (-1)] : List Int).length) 3 x39.2.2, own cd2 a26 3 3 ([0, 1000, 1001] : List Int), own cd2 a23 2 2 ([0, 6] : List Int), box b4 26 [iV x2.1.Events, .slice a2 x2.1.Places.length c2], own cd28 a2 x2.1.Places.length c2 x2.1.Places, box b2 28 [iV 0, iV 0, iV 0, iV 0], box b1 26 [iV 0, .slice none 0 0]] := H465.ub (js := _) 2 2 H463
      refine ZA [box b4 26 [iV x2.1.Events, .slice a2 x2.1.Places.length c2], own cd28 a2 x2.1.Places.length c2 x2.1.Places, box b2 28 [iV 0, iV 0, iV 0, iV 0]] [4, 5, 6] [0, 1, 2] H466 ?_
      refine ZE 4 8 (fun h180 H467 => ?_)
      have H468 := H467
      obtain ⟨x40, hx40, gs1⟩ := M.bind_some gs1
      have H469 : Hold h h180 [own cd2 a26 3 3 ([0, 1000, 1001] : List Int), box b3 67 [.slice a1 x1.code.length c1, iV x39.2.1.at_, iV x39.2.1.seed], own cd2 a24 (([0, x2.1.Events, (-1)] : List Int).length) 3 x39.2.2, own cd2 a23 2 2 ([0, 6] : List Int), box b4 26 [iV x2.1.Events, .slice a2 x2.1.Places.length c2], own cd28 a2 x2.1.Places.length c2 x2.1.Places, box b2 28 [iV 0, iV 0, iV 0, iV 0], box b1 26 [iV 0, .slice none 0 0]] := H468.pk [2, 0, 1, 3, 4, 5, 6, 7]
      have hn37 := (H469.len 0 rfl)
      have H470 : Hold h h180 [own cd2 a26 (([0, 1000, 1001] : List Int).length) 3 ([0, 1000, 1001] : List Int), box b3 67 [.slice a1 x1.code.length c1, iV x39.2.1.at_, iV x39.2.1.seed], own cd2 a24 (([0, x2.1.Events, (-1)] : List Int).length) 3 x39.2.2, own cd2 a23 2 2 ([0, 6] : List Int), box b4 26 [iV x2.1.Events, .slice a2 x2.1.Places.length c2], own cd28 a2 x2.1.Places.length c2 x2.1.Places, box b2 28 [iV 0, iV 0, iV 0, iV 0], box b1 26 [iV 0, .slice none 0 0]] := by rw [hn37]; exact H469
      have H471 : Hold h h180 [box b3 67 [.slice a1 x1.code.length c1, iV x39.2.1.at_, iV x39.2.1.seed], own cd2 a26 (([0, 1000, 1001] : List Int).length) 3 ([0, 1000, 1001] : List Int), own cd2 a24 (([0, x2.1.Events, (-1)] : List Int).length) 3 x39.2.2, own cd2 a23 2 2 ([0, 6] : List Int), box b4 26 [iV x2.1.Events, .slice a2 x2.1.Places.length c2], own cd28 a2 x2.1.Places.length c2 x2.1.Places, box b2 28 [iV 0, iV 0, iV 0, iV 0], box b1 26 [iV 0, .slice none 0 0]] := H470.pk [1, 0, 2, 3, 4, 5, 6, 7]
      have H472 : Hold h h180 [box b3 67 [.slice a1 x1.code.length c1, iV x39.2.1.at_, iV x39.2.1.seed], own cd2 a26 (([0, 1000, 1001] : List Int).length) 3 ([0, 1000, 1001] : List Int), bun [own cd2 a24 (([0, x2.1.Events, (-1)] : List Int).length) 3 x39.2.2, own cd2 a23 2 2 ([0, 6] : List Int), box b4 26 [iV x2.1.Events, .slice a2 x2.1.Places.length c2], own cd28 a2 x2.1.Places.length c2 x2.1.Places, box b2 28 [iV 0, iV 0, iV 0, iV 0], box b1 26 [iV 0, .slice none 0 0]]] := H471.bd 2
      refine ZC 23 #[pV b3, .slice a26 3 3] (Fn.arg (w_spec_l01Pick h h180 _ (⟨x1.code, x39.2.1.at_, x39.2.1.seed⟩ : TL01source) b3 a1 c1 r1 ([0, 1000, 1001] : List Int) a26 3 H472 _ _ hx40) (by simp only [hn37])) (fun v40 h181 hp40 => ?_)
      obtain ⟨rfl, H473⟩ := hp40
      have H474 : Hold h h181 [box b3 67 [.slice a1 x1.code.length c1, iV x40.2.1.at_, iV x40.2.1.seed], own cd2 a26 (([0, 1000, 1001] : List Int).length) 3 x40.2.2, own cd2 a24 (([0, x2.1.Events, (-1)] : List Int).length) 3 x39.2.2, own cd2 a23 2 2 ([0, 6] : List Int), box b4 26 [iV x2.1.Events, .slice a2 x2.1.Places.length c2], own cd28 a2 x2.1.Places.length c2 x2.1.Places, box b2 28 [iV 0, iV 0, iV 0, iV 0], box b1 26 [iV 0, .slice none 0 0]] := H473.ub (js := _) 2 2 H471
      refine ZA [box b4 26 [iV x2.1.Events, .slice a2 x2.1.Places.length c2], own cd28 a2 x2.1.Places.length c2 x2.1.Places, box b2 28 [iV 0, iV 0, iV 0, iV 0]] [4, 5, 6] [0, 1, 2] H474 ?_
      refine ZE 3 11 (fun h182 H475 => ?_)
      have H476 := H475
      obtain ⟨x41, hx41, gs1⟩ := M.bind_some gs1
      have H477 : Hold h h182 [own cd2 a23 2 2 ([0, 6] : List Int), box b3 67 [.slice a1 x1.code.length c1, iV x40.2.1.at_, iV x40.2.1.seed], own cd2 a26 (([0, 1000, 1001] : List Int).length) 3 x40.2.2, own cd2 a24 (([0, x2.1.Events, (-1)] : List Int).length) 3 x39.2.2, box b4 26 [iV x2.1.Events, .slice a2 x2.1.Places.length c2], own cd28 a2 x2.1.Places.length c2 x2.1.Places, box b2 28 [iV 0, iV 0, iV 0, iV 0], box b1 26 [iV 0, .slice none 0 0]] := H476.pk [3, 0, 1, 2, 4, 5, 6, 7]
      have hn38 := (H477.len 0 rfl)
      have H478 : Hold h h182 [own cd2 a23 (([0, 6] : List Int).length) 2 ([0, 6] : List Int), box b3 67 [.slice a1 x1.code.length c1, iV x40.2.1.at_, iV x40.2.1.seed], own cd2 a26 (([0, 1000, 1001] : List Int).length) 3 x40.2.2, own cd2 a24 (([0, x2.1.Events, (-1)] : List Int).length) 3 x39.2.2, box b4 26 [iV x2.1.Events, .slice a2 x2.1.Places.length c2], own cd28 a2 x2.1.Places.length c2 x2.1.Places, box b2 28 [iV 0, iV 0, iV 0, iV 0], box b1 26 [iV 0, .slice none 0 0]] := by rw [hn38]; exact H477
      have H479 : Hold h h182 [box b3 67 [.slice a1 x1.code.length c1, iV x40.2.1.at_, iV x40.2.1.seed], own cd2 a23 (([0, 6] : List Int).length) 2 ([0, 6] : List Int), own cd2 a26 (([0, 1000, 1001] : List Int).length) 3 x40.2.2, own cd2 a24 (([0, x2.1.Events, (-1)] : List Int).length) 3 x39.2.2, box b4 26 [iV x2.1.Events, .slice a2 x2.1.Places.length c2], own cd28 a2 x2.1.Places.length c2 x2.1.Places, box b2 28 [iV 0, iV 0, iV 0, iV 0], box b1 26 [iV 0, .slice none 0 0]] := H478.pk [1, 0, 2, 3, 4, 5, 6, 7]
      have H480 : Hold h h182 [box b3 67 [.slice a1 x1.code.length c1, iV x40.2.1.at_, iV x40.2.1.seed], own cd2 a23 (([0, 6] : List Int).length) 2 ([0, 6] : List Int), bun [own cd2 a26 (([0, 1000, 1001] : List Int).length) 3 x40.2.2, own cd2 a24 (([0, x2.1.Events, (-1)] : List Int).length) 3 x39.2.2, box b4 26 [iV x2.1.Events, .slice a2 x2.1.Places.length c2], own cd28 a2 x2.1.Places.length c2 x2.1.Places, box b2 28 [iV 0, iV 0, iV 0, iV 0], box b1 26 [iV 0, .slice none 0 0]]] := H479.bd 2
      refine ZC 23 #[pV b3, .slice a23 2 2] (Fn.arg (w_spec_l01Pick h h182 _ (⟨x1.code, x40.2.1.at_, x40.2.1.seed⟩ : TL01source) b3 a1 c1 r1 ([0, 6] : List Int) a23 2 H480 _ _ hx41) (by simp only [hn38])) (fun v41 h183 hp41 => ?_)
      obtain ⟨rfl, H481⟩ := hp41
      have H482 : Hold h h183 [box b3 67 [.slice a1 x1.code.length c1, iV x41.2.1.at_, iV x41.2.1.seed], own cd2 a23 (([0, 6] : List Int).length) 2 x41.2.2, own cd2 a26 (([0, 1000, 1001] : List Int).length) 3 x40.2.2, own cd2 a24 (([0, x2.1.Events, (-1)] : List Int).length) 3 x39.2.2, box b4 26 [iV x2.1.Events, .slice a2 x2.1.Places.length c2], own cd28 a2 x2.1.Places.length c2 x2.1.Places, box b2 28 [iV 0, iV 0, iV 0, iV 0], box b1 26 [iV 0, .slice none 0 0]] := H481.ub (js := _) 2 2 H479
      refine ZA [box b4 26 [iV x2.1.Events, .slice a2 x2.1.Places.length c2], own cd28 a2 x2.1.Places.length c2 x2.1.Places, box b2 28 [iV 0, iV 0, iV 0, iV 0]] [4, 5, 6] [0, 1, 2] H482 ?_
      refine ZB 2 [.agg #[iV x39.1, iV 0, iV x40.1, iV x41.1]] 12 ?_
      refine ZE 1 13 (fun h184 H483 => ?_)
      have H484 := H483
      have H486 : Hold h h184 [box b1 26 [iV 0, .slice none 0 0], box b3 67 [.slice a1 x1.code.length c1, iV x41.2.1.at_, iV x41.2.1.seed], own cd2 a23 (([0, 6] : List Int).length) 2 x41.2.2, own cd2 a26 (([0, 1000, 1001] : List Int).length) 3 x40.2.2, own cd2 a24 (([0, x2.1.Events, (-1)] : List Int).length) 3 x39.2.2, box b4 26 [iV x2.1.Events, .slice a2 x2.1.Places.length c2], own cd28 a2 x2.1.Places.length c2 x2.1.Places, box b2 28 [iV 0, iV 0, iV 0, iV 0]] := H484.pk [7, 0, 1, 2, 3, 4, 5, 6]
      refine ZP 26 0 [iV x2.1.Events, .slice a2 x2.1.Places.length c2] (.agg #[iV x2.1.Events, .slice a2 x2.1.Places.length c2]) H486 (fun h185 H485 => ?_)
      refine ZA [box b4 26 [iV x2.1.Events, .slice a2 x2.1.Places.length c2], own cd28 a2 x2.1.Places.length c2 x2.1.Places, box b2 28 [iV 0, iV 0, iV 0, iV 0]] [5, 6, 7] [0, 1, 2] H485 ?_
      refine ZT 14 (fun h186 H487 => ?_)
      have H488 := H487
      have H490 : Hold h h186 [box b2 28 [iV 0, iV 0, iV 0, iV 0], box b1 26 [iV x2.1.Events, .slice a2 x2.1.Places.length c2], box b3 67 [.slice a1 x1.code.length c1, iV x41.2.1.at_, iV x41.2.1.seed], own cd2 a23 (([0, 6] : List Int).length) 2 x41.2.2, own cd2 a26 (([0, 1000, 1001] : List Int).length) 3 x40.2.2, own cd2 a24 (([0, x2.1.Events, (-1)] : List Int).length) 3 x39.2.2, box b4 26 [iV x2.1.Events, .slice a2 x2.1.Places.length c2], own cd28 a2 x2.1.Places.length c2 x2.1.Places] := H488.pk [7, 0, 1, 2, 3, 4, 5, 6]
      refine Ze ?_
      refine ZP 28 0 [iV x39.1, iV 0, iV x40.1, iV x41.1] (.agg #[iV x39.1, iV 0, iV x40.1, iV x41.1]) H490 (fun h187 H489 => ?_)
      refine Zx ?_
      refine Zk [2, 3] [(2, pV b1), (3, pV b2)] ?_
      have H904 : Hold h h187 [box b1 26 [iV x2.1.Events, .slice a2 x2.1.Places.length c2], own cd28 a2 x2.1.Places.length c2 x2.1.Places, box b2 28 [iV x39.1, iV 0, iV x40.1, iV x41.1]] := H489.pk [1, 7, 0]
      have gs1 := M.ret_some gs1
      subst gs1
      exact Zf [2, 3] ⟨rfl, H904⟩
    ·intro h188 H491
     have H492 := H491
     refine E_lit (C := cd2) (n := 3) (l := ([0, 1000, 1001] : List Int)) (cs := [iV 0, iV 1000, iV 1001]) H492 (fun w => by kernel_rfl) (Enc.consE (cd2_own 0 _) (Enc.consE (cd2_own 1000 _) (Enc.consE (cd2_own 1001 _) (Enc.nil _ _) rfl) rfl) rfl) rfl (by decide) (fun a27 h189 H493 => ?_)
     refine ZA [box b4 26 [iV x2.1.Events, .slice a2 x2.1.Places.length c2], own cd28 a2 x2.1.Places.length c2 x2.1.Places, box b2 28 [iV 0, iV 0, iV 0, iV 0]] [3, 4, 5] [0, 1, 2] H493 ?_
     refine ZE 6 4 (fun h190 H494 => ?_)
     have H495 := H494
     refine E_lit (C := cd2) (n := 3) (l := ([0, x2.1.Events, (-1)] : List Int)) (cs := [iV 0, iV x2.1.Events, iV (-1)]) H495 (fun w => by kernel_rfl) (Enc.consE (cd2_own 0 _) (Enc.consE (cd2_own x2.1.Events _) (Enc.consE (cd2_own (-1) _) (Enc.nil _ _) rfl) rfl) rfl) rfl (by decide) (fun a28 h191 H496 => ?_)
     refine ZA [box b4 26 [iV x2.1.Events, .slice a2 x2.1.Places.length c2], own cd28 a2 x2.1.Places.length c2 x2.1.Places, box b2 28 [iV 0, iV 0, iV 0, iV 0]] [4, 5, 6] [0, 1, 2] H496 ?_
     refine ZE 5 5 (fun h192 H497 => ?_)
     have H498 := H497
     obtain ⟨x42, hx42, gs1⟩ := M.bind_some gs1
     have hn39 := (H498.len 0 rfl)
     have H499 : Hold h h192 [own cd2 a28 (([0, x2.1.Events, (-1)] : List Int).length) 3 ([0, x2.1.Events, (-1)] : List Int), own cd2 a27 3 3 ([0, 1000, 1001] : List Int), own cd2 a23 2 2 ([0, 6] : List Int), box b3 67 [.slice a1 x1.code.length c1, iV x3.2.at_, iV x3.2.seed], box b4 26 [iV x2.1.Events, .slice a2 x2.1.Places.length c2], own cd28 a2 x2.1.Places.length c2 x2.1.Places, box b2 28 [iV 0, iV 0, iV 0, iV 0], box b1 26 [iV 0, .slice none 0 0]] := by rw [hn39]; exact H498
     have H500 : Hold h h192 [box b3 67 [.slice a1 x1.code.length c1, iV x3.2.at_, iV x3.2.seed], own cd2 a28 (([0, x2.1.Events, (-1)] : List Int).length) 3 ([0, x2.1.Events, (-1)] : List Int), own cd2 a27 3 3 ([0, 1000, 1001] : List Int), own cd2 a23 2 2 ([0, 6] : List Int), box b4 26 [iV x2.1.Events, .slice a2 x2.1.Places.length c2], own cd28 a2 x2.1.Places.length c2 x2.1.Places, box b2 28 [iV 0, iV 0, iV 0, iV 0], box b1 26 [iV 0, .slice none 0 0]] := H499.pk [3, 0, 1, 2, 4, 5, 6, 7]
     have H501 : Hold h h192 [box b3 67 [.slice a1 x1.code.length c1, iV x3.2.at_, iV x3.2.seed], own cd2 a28 (([0, x2.1.Events, (-1)] : List Int).length) 3 ([0, x2.1.Events, (-1)] : List Int), bun [own cd2 a27 3 3 ([0, 1000, 1001] : List Int), own cd2 a23 2 2 ([0, 6] : List Int), box b4 26 [iV x2.1.Events, .slice a2 x2.1.Places.length c2], own cd28 a2 x2.1.Places.length c2 x2.1.Places, box b2 28 [iV 0, iV 0, iV 0, iV 0], box b1 26 [iV 0, .slice none 0 0]]] := H500.bd 2
     refine ZC 23 #[pV b3, .slice a28 3 3] (Fn.arg (w_spec_l01Pick h h192 _ (⟨x1.code, x3.2.at_, x3.2.seed⟩ : TL01source) b3 a1 c1 r1 ([0, x2.1.Events, (-1)] : List Int) a28 3 H501 _ _ hx42) (by simp only [hn39])) (fun v42 h193 hp42 => ?_)
     obtain ⟨rfl, H502⟩ := hp42
     have H503 : Hold h h193 [box b3 67 [.slice a1 x1.code.length c1, iV x42.2.1.at_, iV x42.2.1.seed], own cd2 a28 (([0, x2.1.Events, (-1)] : List Int).length) 3 x42.2.2, own cd2 a27 3 3 ([0, 1000, 1001] : List Int), own cd2 a23 2 2 ([0, 6] : List Int), box b4 26 [iV x2.1.Events, .slice a2 x2.1.Places.length c2], own cd28 a2 x2.1.Places.length c2 x2.1.Places, box b2 28 [iV 0, iV 0, iV 0, iV 0], box b1 26 [iV 0, .slice none 0 0]] := H502.ub (js := _) 2 2 H500
     refine ZA [box b4 26 [iV x2.1.Events, .slice a2 x2.1.Places.length c2], own cd28 a2 x2.1.Places.length c2 x2.1.Places, box b2 28 [iV 0, iV 0, iV 0, iV 0]] [4, 5, 6] [0, 1, 2] H503 ?_
     refine ZE 4 8 (fun h194 H504 => ?_)
     have H505 := H504
     obtain ⟨x43, hx43, gs1⟩ := M.bind_some gs1
     have H506 : Hold h h194 [own cd2 a27 3 3 ([0, 1000, 1001] : List Int), box b3 67 [.slice a1 x1.code.length c1, iV x42.2.1.at_, iV x42.2.1.seed], own cd2 a28 (([0, x2.1.Events, (-1)] : List Int).length) 3 x42.2.2, own cd2 a23 2 2 ([0, 6] : List Int), box b4 26 [iV x2.1.Events, .slice a2 x2.1.Places.length c2], own cd28 a2 x2.1.Places.length c2 x2.1.Places, box b2 28 [iV 0, iV 0, iV 0, iV 0], box b1 26 [iV 0, .slice none 0 0]] := H505.pk [2, 0, 1, 3, 4, 5, 6, 7]
     have hn40 := (H506.len 0 rfl)
     have H507 : Hold h h194 [own cd2 a27 (([0, 1000, 1001] : List Int).length) 3 ([0, 1000, 1001] : List Int), box b3 67 [.slice a1 x1.code.length c1, iV x42.2.1.at_, iV x42.2.1.seed], own cd2 a28 (([0, x2.1.Events, (-1)] : List Int).length) 3 x42.2.2, own cd2 a23 2 2 ([0, 6] : List Int), box b4 26 [iV x2.1.Events, .slice a2 x2.1.Places.length c2], own cd28 a2 x2.1.Places.length c2 x2.1.Places, box b2 28 [iV 0, iV 0, iV 0, iV 0], box b1 26 [iV 0, .slice none 0 0]] := by rw [hn40]; exact H506
     have H508 : Hold h h194 [box b3 67 [.slice a1 x1.code.length c1, iV x42.2.1.at_, iV x42.2.1.seed], own cd2 a27 (([0, 1000, 1001] : List Int).length) 3 ([0, 1000, 1001] : List Int), own cd2 a28 (([0, x2.1.Events, (-1)] : List Int).length) 3 x42.2.2, own cd2 a23 2 2 ([0, 6] : List Int), box b4 26 [iV x2.1.Events, .slice a2 x2.1.Places.length c2], own cd28 a2 x2.1.Places.length c2 x2.1.Places, box b2 28 [iV 0, iV 0, iV 0, iV 0], box b1 26 [iV 0, .slice none 0 0]] := H507.pk [1, 0, 2, 3, 4, 5, 6, 7]
     have H509 : Hold h h194 [box b3 67 [.slice a1 x1.code.length c1, iV x42.2.1.at_, iV x42.2.1.seed], own cd2 a27 (([0, 1000, 1001] : List Int).length) 3 ([0, 1000, 1001] : List Int), bun [own cd2 a28 (([0, x2.1.Events, (-1)] : List Int).length) 3 x42.2.2, own cd2 a23 2 2 ([0, 6] : List Int), box b4 26 [iV x2.1.Events, .slice a2 x2.1.Places.length c2], own cd28 a2 x2.1.Places.length c2 x2.1.Places, box b2 28 [iV 0, iV 0, iV 0, iV 0], box b1 26 [iV 0, .slice none 0 0]]] := H508.bd 2
     refine ZC 23 #[pV b3, .slice a27 3 3] (Fn.arg (w_spec_l01Pick h h194 _ (⟨x1.code, x42.2.1.at_, x42.2.1.seed⟩ : TL01source) b3 a1 c1 r1 ([0, 1000, 1001] : List Int) a27 3 H509 _ _ hx43) (by simp only [hn40])) (fun v43 h195 hp43 => ?_)
     obtain ⟨rfl, H510⟩ := hp43
     have H511 : Hold h h195 [box b3 67 [.slice a1 x1.code.length c1, iV x43.2.1.at_, iV x43.2.1.seed], own cd2 a27 (([0, 1000, 1001] : List Int).length) 3 x43.2.2, own cd2 a28 (([0, x2.1.Events, (-1)] : List Int).length) 3 x42.2.2, own cd2 a23 2 2 ([0, 6] : List Int), box b4 26 [iV x2.1.Events, .slice a2 x2.1.Places.length c2], own cd28 a2 x2.1.Places.length c2 x2.1.Places, box b2 28 [iV 0, iV 0, iV 0, iV 0], box b1 26 [iV 0, .slice none 0 0]] := H510.ub (js := _) 2 2 H508
     refine ZA [box b4 26 [iV x2.1.Events, .slice a2 x2.1.Places.length c2], own cd28 a2 x2.1.Places.length c2 x2.1.Places, box b2 28 [iV 0, iV 0, iV 0, iV 0]] [4, 5, 6] [0, 1, 2] H511 ?_
     refine ZE 3 11 (fun h196 H512 => ?_)
     have H513 := H512
     obtain ⟨x44, hx44, gs1⟩ := M.bind_some gs1
     have H514 : Hold h h196 [own cd2 a23 2 2 ([0, 6] : List Int), box b3 67 [.slice a1 x1.code.length c1, iV x43.2.1.at_, iV x43.2.1.seed], own cd2 a27 (([0, 1000, 1001] : List Int).length) 3 x43.2.2, own cd2 a28 (([0, x2.1.Events, (-1)] : List Int).length) 3 x42.2.2, box b4 26 [iV x2.1.Events, .slice a2 x2.1.Places.length c2], own cd28 a2 x2.1.Places.length c2 x2.1.Places, box b2 28 [iV 0, iV 0, iV 0, iV 0], box b1 26 [iV 0, .slice none 0 0]] := H513.pk [3, 0, 1, 2, 4, 5, 6, 7]
     have hn41 := (H514.len 0 rfl)
     have H515 : Hold h h196 [own cd2 a23 (([0, 6] : List Int).length) 2 ([0, 6] : List Int), box b3 67 [.slice a1 x1.code.length c1, iV x43.2.1.at_, iV x43.2.1.seed], own cd2 a27 (([0, 1000, 1001] : List Int).length) 3 x43.2.2, own cd2 a28 (([0, x2.1.Events, (-1)] : List Int).length) 3 x42.2.2, box b4 26 [iV x2.1.Events, .slice a2 x2.1.Places.length c2], own cd28 a2 x2.1.Places.length c2 x2.1.Places, box b2 28 [iV 0, iV 0, iV 0, iV 0], box b1 26 [iV 0, .slice none 0 0]] := by rw [hn41]; exact H514
     have H516 : Hold h h196 [box b3 67 [.slice a1 x1.code.length c1, iV x43.2.1.at_, iV x43.2.1.seed], own cd2 a23 (([0, 6] : List Int).length) 2 ([0, 6] : List Int), own cd2 a27 (([0, 1000, 1001] : List Int).length) 3 x43.2.2, own cd2 a28 (([0, x2.1.Events, (-1)] : List Int).length) 3 x42.2.2, box b4 26 [iV x2.1.Events, .slice a2 x2.1.Places.length c2], own cd28 a2 x2.1.Places.length c2 x2.1.Places, box b2 28 [iV 0, iV 0, iV 0, iV 0], box b1 26 [iV 0, .slice none 0 0]] := H515.pk [1, 0, 2, 3, 4, 5, 6, 7]
     have H517 : Hold h h196 [box b3 67 [.slice a1 x1.code.length c1, iV x43.2.1.at_, iV x43.2.1.seed], own cd2 a23 (([0, 6] : List Int).length) 2 ([0, 6] : List Int), bun [own cd2 a27 (([0, 1000, 1001] : List Int).length) 3 x43.2.2, own cd2 a28 (([0, x2.1.Events, (-1)] : List Int).length) 3 x42.2.2, box b4 26 [iV x2.1.Events, .slice a2 x2.1.Places.length c2], own cd28 a2 x2.1.Places.length c2 x2.1.Places, box b2 28 [iV 0, iV 0, iV 0, iV 0], box b1 26 [iV 0, .slice none 0 0]]] := H516.bd 2
     refine ZC 23 #[pV b3, .slice a23 2 2] (Fn.arg (w_spec_l01Pick h h196 _ (⟨x1.code, x43.2.1.at_, x43.2.1.seed⟩ : TL01source) b3 a1 c1 r1 ([0, 6] : List Int) a23 2 H517 _ _ hx44) (by simp only [hn41])) (fun v44 h197 hp44 => ?_)
     obtain ⟨rfl, H518⟩ := hp44
     have H519 : Hold h h197 [box b3 67 [.slice a1 x1.code.length c1, iV x44.2.1.at_, iV x44.2.1.seed], own cd2 a23 (([0, 6] : List Int).length) 2 x44.2.2, own cd2 a27 (([0, 1000, 1001] : List Int).length) 3 x43.2.2, own cd2 a28 (([0, x2.1.Events, (-1)] : List Int).length) 3 x42.2.2, box b4 26 [iV x2.1.Events, .slice a2 x2.1.Places.length c2], own cd28 a2 x2.1.Places.length c2 x2.1.Places, box b2 28 [iV 0, iV 0, iV 0, iV 0], box b1 26 [iV 0, .slice none 0 0]] := H518.ub (js := _) 2 2 H516
     refine ZA [box b4 26 [iV x2.1.Events, .slice a2 x2.1.Places.length c2], own cd28 a2 x2.1.Places.length c2 x2.1.Places, box b2 28 [iV 0, iV 0, iV 0, iV 0]] [4, 5, 6] [0, 1, 2] H519 ?_
     refine ZB 2 [.agg #[iV x42.1, iV 0, iV x43.1, iV x44.1]] 12 ?_
     refine ZE 1 13 (fun h198 H520 => ?_)
     have H521 := H520
     have H523 : Hold h h198 [box b1 26 [iV 0, .slice none 0 0], box b3 67 [.slice a1 x1.code.length c1, iV x44.2.1.at_, iV x44.2.1.seed], own cd2 a23 (([0, 6] : List Int).length) 2 x44.2.2, own cd2 a27 (([0, 1000, 1001] : List Int).length) 3 x43.2.2, own cd2 a28 (([0, x2.1.Events, (-1)] : List Int).length) 3 x42.2.2, box b4 26 [iV x2.1.Events, .slice a2 x2.1.Places.length c2], own cd28 a2 x2.1.Places.length c2 x2.1.Places, box b2 28 [iV 0, iV 0, iV 0, iV 0]] := H521.pk [7, 0, 1, 2, 3, 4, 5, 6]
     refine ZP 26 0 [iV x2.1.Events, .slice a2 x2.1.Places.length c2] (.agg #[iV x2.1.Events, .slice a2 x2.1.Places.length c2]) H523 (fun h199 H522 => ?_)
     refine ZA [box b4 26 [iV x2.1.Events, .slice a2 x2.1.Places.length c2], own cd28 a2 x2.1.Places.length c2 x2.1.Places, box b2 28 [iV 0, iV 0, iV 0, iV 0]] [5, 6, 7] [0, 1, 2] H522 ?_
     refine ZT 14 (fun h200 H524 => ?_)
     have H525 := H524
     have H527 : Hold h h200 [box b2 28 [iV 0, iV 0, iV 0, iV 0], box b1 26 [iV x2.1.Events, .slice a2 x2.1.Places.length c2], box b3 67 [.slice a1 x1.code.length c1, iV x44.2.1.at_, iV x44.2.1.seed], own cd2 a23 (([0, 6] : List Int).length) 2 x44.2.2, own cd2 a27 (([0, 1000, 1001] : List Int).length) 3 x43.2.2, own cd2 a28 (([0, x2.1.Events, (-1)] : List Int).length) 3 x42.2.2, box b4 26 [iV x2.1.Events, .slice a2 x2.1.Places.length c2], own cd28 a2 x2.1.Places.length c2 x2.1.Places] := H525.pk [7, 0, 1, 2, 3, 4, 5, 6]
     refine Ze ?_
     refine ZP 28 0 [iV x42.1, iV 0, iV x43.1, iV x44.1] (.agg #[iV x42.1, iV 0, iV x43.1, iV x44.1]) H527 (fun h201 H526 => ?_)
     refine Zx ?_
     refine Zk [2, 3] [(2, pV b1), (3, pV b2)] ?_
     have H905 : Hold h h201 [box b1 26 [iV x2.1.Events, .slice a2 x2.1.Places.length c2], own cd28 a2 x2.1.Places.length c2 x2.1.Places, box b2 28 [iV x42.1, iV 0, iV x43.1, iV x44.1]] := H526.pk [1, 7, 0]
     have gs1 := M.ret_some gs1
     subst gs1
     exact Zf [2, 3] ⟨rfl, H905⟩
 ·have hF := (M.ite_some hF).2 hb1
  refine Run_skip ?_
  refine Zs ?_
  refine Run_D (fun x => Hold h x [box b4 26 [iV x2.1.Events, .slice a2 x2.1.Places.length c2], own cd28 a2 x2.1.Places.length c2 x2.1.Places, box b2 28 [iV 0, iV 0, iV 0, iV 0]]) (fun x => Hold h x [box b3 67 [.slice a1 x1.code.length c1, iV x3.2.at_, iV x3.2.seed], box b4 26 [iV x2.1.Events, .slice a2 x2.1.Places.length c2], own cd28 a2 x2.1.Places.length c2 x2.1.Places, box b2 28 [iV 0, iV 0, iV 0, iV 0], box b1 26 [iV 0, .slice none 0 0]]) mixed (by kernel_rfl) H13 Hold.stable (fun x Hy => (show Hold h x [box b3 67 [.slice a1 x1.code.length c1, iV x3.2.at_, iV x3.2.seed], box b4 26 [iV x2.1.Events, .slice a2 x2.1.Places.length c2], own cd28 a2 x2.1.Places.length c2 x2.1.Places, box b2 28 [iV 0, iV 0, iV 0, iV 0], box b1 26 [iV 0, .slice none 0 0]] from Hy).pk [1, 2, 3]) ?_
  refine ZY 15 0 (.agg #[iV x2.1.Events, .slice a2 x2.1.Places.length c2]) (fun hx Hx => (YE.of (Y_loadA (t := 26) (n := 2) (p := ⟨b4, 0, none⟩) (cs := [iV x2.1.Events, .slice a2 x2.1.Places.length c2]) (by kernel_rfl) (fun w => by kernel_rfl) (by kernel_rfl) rfl (Hx.cells (n := 2) (off := 0) 0 rfl rfl)))) ?_
  refine ZB 13 [pV b3, pV b4] 1 ?_
  refine ZY 12 3 (iV x2.1.Events) (fun hx Hx => (YE.of (Zl 2 (⟨b4, 0, none⟩) (iV x2.1.Events) (Hx.cell 0 rfl rfl)))) ?_
  refine ZB 10 [pV b3, pV b4] 5 ?_
  refine ZY 9 7 (iV x2.1.Events) (fun hx Hx => (YE.of (Zl 2 (⟨b4, 0, none⟩) (iV x2.1.Events) (Hx.cell 0 rfl rfl)))) ?_
  refine ZB 8 [pV b3] 9 ?_
  refine ZB 7 [pV b3] 11 ?_
  refine ZE 6 4 (fun h203 H908 => ?_)
  have H909 := H908
  obtain ⟨x45, hx45, hF⟩ := M.bind_some hF
  have H910 : Hold h h203 [box b3 67 [.slice a1 x1.code.length c1, iV x3.2.at_, iV x3.2.seed], bun [box b4 26 [iV x2.1.Events, .slice a2 x2.1.Places.length c2], own cd28 a2 x2.1.Places.length c2 x2.1.Places, box b2 28 [iV 0, iV 0, iV 0, iV 0], box b1 26 [iV 0, .slice none 0 0]]] := H909.bd 1
  refine ZC 22 #[pV b3, iV x2.1.Events] (w_spec_l01Next h h203 _ (⟨x1.code, x3.2.at_, x3.2.seed⟩ : TL01source) b3 a1 c1 r1 x2.1.Events H910 _ _ hx45) (fun v45 h204 hp45 => ?_)
  obtain ⟨rfl, H911⟩ := hp45
  have H912 : Hold h h204 [box b3 67 [.slice a1 x1.code.length c1, iV x45.2.at_, iV x45.2.seed], box b4 26 [iV x2.1.Events, .slice a2 x2.1.Places.length c2], own cd28 a2 x2.1.Places.length c2 x2.1.Places, box b2 28 [iV 0, iV 0, iV 0, iV 0], box b1 26 [iV 0, .slice none 0 0]] := H911.ub (js := _) 1 1 H909
  refine ZA [box b4 26 [iV x2.1.Events, .slice a2 x2.1.Places.length c2], own cd28 a2 x2.1.Places.length c2 x2.1.Places, box b2 28 [iV 0, iV 0, iV 0, iV 0]] [1, 2, 3] [0, 1, 2] H912 ?_
  refine ZE 5 8 (fun h205 H913 => ?_)
  have H914 := H913
  obtain ⟨x46, hx46, hF⟩ := M.bind_some hF
  have H915 : Hold h h205 [box b3 67 [.slice a1 x1.code.length c1, iV x45.2.at_, iV x45.2.seed], bun [box b4 26 [iV x2.1.Events, .slice a2 x2.1.Places.length c2], own cd28 a2 x2.1.Places.length c2 x2.1.Places, box b2 28 [iV 0, iV 0, iV 0, iV 0], box b1 26 [iV 0, .slice none 0 0]]] := H914.bd 1
  refine ZC 22 #[pV b3, iV x2.1.Events] (w_spec_l01Next h h205 _ (⟨x1.code, x45.2.at_, x45.2.seed⟩ : TL01source) b3 a1 c1 r1 x2.1.Events H915 _ _ hx46) (fun v46 h206 hp46 => ?_)
  obtain ⟨rfl, H916⟩ := hp46
  have H917 : Hold h h206 [box b3 67 [.slice a1 x1.code.length c1, iV x46.2.at_, iV x46.2.seed], box b4 26 [iV x2.1.Events, .slice a2 x2.1.Places.length c2], own cd28 a2 x2.1.Places.length c2 x2.1.Places, box b2 28 [iV 0, iV 0, iV 0, iV 0], box b1 26 [iV 0, .slice none 0 0]] := H916.ub (js := _) 1 1 H914
  refine ZA [box b4 26 [iV x2.1.Events, .slice a2 x2.1.Places.length c2], own cd28 a2 x2.1.Places.length c2 x2.1.Places, box b2 28 [iV 0, iV 0, iV 0, iV 0]] [1, 2, 3] [0, 1, 2] H917 ?_
  refine ZE 4 10 (fun h207 H918 => ?_)
  have H919 := H918
  obtain ⟨x47, hx47, hF⟩ := M.bind_some hF
  have H920 : Hold h h207 [box b3 67 [.slice a1 x1.code.length c1, iV x46.2.at_, iV x46.2.seed], bun [box b4 26 [iV x2.1.Events, .slice a2 x2.1.Places.length c2], own cd28 a2 x2.1.Places.length c2 x2.1.Places, box b2 28 [iV 0, iV 0, iV 0, iV 0], box b1 26 [iV 0, .slice none 0 0]]] := H919.bd 1
  refine ZC 22 #[pV b3, iV 20] (w_spec_l01Next h h207 _ (⟨x1.code, x46.2.at_, x46.2.seed⟩ : TL01source) b3 a1 c1 r1 20 H920 _ _ hx47) (fun v47 h208 hp47 => ?_)
  obtain ⟨rfl, H921⟩ := hp47
  have H922 : Hold h h208 [box b3 67 [.slice a1 x1.code.length c1, iV x47.2.at_, iV x47.2.seed], box b4 26 [iV x2.1.Events, .slice a2 x2.1.Places.length c2], own cd28 a2 x2.1.Places.length c2 x2.1.Places, box b2 28 [iV 0, iV 0, iV 0, iV 0], box b1 26 [iV 0, .slice none 0 0]] := H921.ub (js := _) 1 1 H919
  refine ZA [box b4 26 [iV x2.1.Events, .slice a2 x2.1.Places.length c2], own cd28 a2 x2.1.Places.length c2 x2.1.Places, box b2 28 [iV 0, iV 0, iV 0, iV 0]] [1, 2, 3] [0, 1, 2] H922 ?_
  refine ZE 3 12 (fun h209 H923 => ?_)
  have H924 := H923
  obtain ⟨x48, hx48, hF⟩ := M.bind_some hF
  have H925 : Hold h h209 [box b3 67 [.slice a1 x1.code.length c1, iV x47.2.at_, iV x47.2.seed], bun [box b4 26 [iV x2.1.Events, .slice a2 x2.1.Places.length c2], own cd28 a2 x2.1.Places.length c2 x2.1.Places, box b2 28 [iV 0, iV 0, iV 0, iV 0], box b1 26 [iV 0, .slice none 0 0]]] := H924.bd 1
  refine ZC 22 #[pV b3, iV 4] (w_spec_l01Next h h209 _ (⟨x1.code, x47.2.at_, x47.2.seed⟩ : TL01source) b3 a1 c1 r1 4 H925 _ _ hx48) (fun v48 h210 hp48 => ?_)
  obtain ⟨rfl, H926⟩ := hp48
  have H927 : Hold h h210 [box b3 67 [.slice a1 x1.code.length c1, iV x48.2.at_, iV x48.2.seed], box b4 26 [iV x2.1.Events, .slice a2 x2.1.Places.length c2], own cd28 a2 x2.1.Places.length c2 x2.1.Places, box b2 28 [iV 0, iV 0, iV 0, iV 0], box b1 26 [iV 0, .slice none 0 0]] := H926.ub (js := _) 1 1 H924
  refine ZA [box b4 26 [iV x2.1.Events, .slice a2 x2.1.Places.length c2], own cd28 a2 x2.1.Places.length c2 x2.1.Places, box b2 28 [iV 0, iV 0, iV 0, iV 0]] [1, 2, 3] [0, 1, 2] H927 ?_
  refine ZB 2 [.agg #[iV x45.1, iV x46.1, iV x47.1, iV x48.1]] 13 ?_
  refine ZE 1 14 (fun h211 H928 => ?_)
  have H929 := H928
  have H931 : Hold h h211 [box b1 26 [iV 0, .slice none 0 0], box b3 67 [.slice a1 x1.code.length c1, iV x48.2.at_, iV x48.2.seed], box b4 26 [iV x2.1.Events, .slice a2 x2.1.Places.length c2], own cd28 a2 x2.1.Places.length c2 x2.1.Places, box b2 28 [iV 0, iV 0, iV 0, iV 0]] := H929.pk [4, 0, 1, 2, 3]
  refine ZP 26 0 [iV x2.1.Events, .slice a2 x2.1.Places.length c2] (.agg #[iV x2.1.Events, .slice a2 x2.1.Places.length c2]) H931 (fun h212 H930 => ?_)
  refine ZA [box b4 26 [iV x2.1.Events, .slice a2 x2.1.Places.length c2], own cd28 a2 x2.1.Places.length c2 x2.1.Places, box b2 28 [iV 0, iV 0, iV 0, iV 0]] [2, 3, 4] [0, 1, 2] H930 ?_
  refine ZT 15 (fun h213 H932 => ?_)
  have H933 := H932
  have H935 : Hold h h213 [box b2 28 [iV 0, iV 0, iV 0, iV 0], box b1 26 [iV x2.1.Events, .slice a2 x2.1.Places.length c2], box b3 67 [.slice a1 x1.code.length c1, iV x48.2.at_, iV x48.2.seed], box b4 26 [iV x2.1.Events, .slice a2 x2.1.Places.length c2], own cd28 a2 x2.1.Places.length c2 x2.1.Places] := H933.pk [4, 0, 1, 2, 3]
  refine Ze ?_
  refine ZP 28 0 [iV x45.1, iV x46.1, iV x47.1, iV x48.1] (.agg #[iV x45.1, iV x46.1, iV x47.1, iV x48.1]) H935 (fun h214 H934 => ?_)
  refine Zx ?_
  refine Zk [2, 3] [(2, pV b1), (3, pV b2)] ?_
  have hF := M.ret_some hF
  subst hF
  have H936 : Hold h h214 [own cd28 a2 x2.1.Places.length c2 x2.1.Places, box b2 28 [iV x45.1, iV x46.1, iV x47.1, iV x48.1], box b1 26 [iV x2.1.Events, .slice a2 x2.1.Places.length c2], box b3 67 [.slice a1 x1.code.length c1, iV x48.2.at_, iV x48.2.seed], box b4 26 [iV x2.1.Events, .slice a2 x2.1.Places.length c2]] := H934.pk [4, 0, 1, 2, 3]
  have H937 : Hold h h214 [own cd28 a2 x2.1.Places.length c2 x2.1.Places] := H936.pk [0]
  exact Run_ret2 rfl (ResV_cell (n := 2) (cs := [iV x2.1.Events, .slice a2 x2.1.Places.length c2]) (by kernel_rfl) (fun w => by kernel_rfl) (by kernel_rfl) rfl (H934.cells (n := 2) (off := 0) 1 rfl rfl)) (ResV_cell (n := 4) (cs := [iV x45.1, iV x46.1, iV x47.1, iV x48.1]) (by kernel_rfl) (fun w => by kernel_rfl) (by kernel_rfl) rfl (H934.cells (n := 4) (off := 0) 0 rfl rfl)) ⟨a2, c2, rfl, H937⟩

theorem w_impl_within (h : Heap) (n_ : Int) (low : Int) (high : Int) (n : Nat) (r : Bool) (hF : impl_within n_ low high n = some r) :
  Fn Tryd.prog 39 #[iV n_, iV low, iV high] h fun v h' => v = .bool r ∧ h' = h := by
 unfold impl_within at hF
 refine Zo [iV n_, iV low, iV high] Tryd.func39 rfl (fun w0 _ => ?_)
 refine Zs ?_
 refine Zq [.bool false] [0, 1, 2] [(0, iV n_), (1, iV low), (2, iV high)] ?_
 refine Zs ?_
 refine Zg 9 [(6, .bool ((decide (low ≤ n_)) && (decide (n_ ≤ high))))] ?_ ?_
 ·refine Zb [iV n_, iV low, .bool (decide (low ≤ n_))] 0 ?_
  refine QRun_seq 8 [(14, .bool ((decide (low ≤ n_)) && (decide (n_ ≤ high))))] ?_ ?_
  ·rcases Bool.eq_false_or_eq_true (decide (low ≤ n_)) with hb1 | hb1
   ·refine Zv (decide (low ≤ n_)) true hb1 ?_
    refine Zb [iV n_, iV high, .bool (decide (n_ ≤ high))] 4 ?_
    refine QRun_bool (decide (n_ ≤ high)) ((decide (low ≤ n_)) && (decide (n_ ≤ high))) (by kernel_rfl) (fun w => by kernel_rfl) (by rw [hb1]; rfl) ?_
    exact Zd [14]
   ·refine Zv (decide (low ≤ n_)) false hb1 ?_
    refine Zn ?_
    refine Zn ?_
    refine Zn ?_
    refine QRun_bool false ((decide (low ≤ n_)) && (decide (n_ ≤ high))) (by kernel_rfl) (fun w => by kernel_rfl) (by rw [hb1]; rfl) ?_
    exact Zd [14]
  refine Zb [.bool ((decide (low ≤ n_)) && (decide (n_ ≤ high)))] 8 ?_
  exact Zd [6]
 have hF := M.ret_some hF
 subst hF
 exact Run_ret1 rfl (Zt (.bool ((decide (low ≤ n_)) && (decide (n_ ≤ high))))) ⟨rfl, rfl⟩

theorem w_impl_isEvent (h : Heap) (g : TGraph) (agPlaces : Option Addr) (cgPlaces : Nat) (rgPlaces : Rd cd28 h (Lt h) agPlaces cgPlaces g.Places) (event : Int) (n : Nat) (r : Bool) (hF : impl_isEvent g event n = some r) :
  Fn Tryd.prog 46 #[.agg #[iV g.Events, .slice agPlaces g.Places.length cgPlaces], iV event] h fun v h' => v = .bool r ∧ Hold h h' [] := by
 unfold impl_isEvent at hF
 refine Zo [.agg #[iV g.Events, .slice agPlaces g.Places.length cgPlaces], iV event] Tryd.func46 rfl (fun w0 _ => ?_)
 have H0 := Hold.init h
 refine Zs ?_
 refine Run_ops ?_
 refine Ze ?_
 refine E_box (ty := 26) (cs := [iV g.Events, .slice agPlaces g.Places.length cgPlaces]) H0 (fun w => by kernel_rfl) (fun b1 h1 H1 => ?_)
 refine Zr [.bool false] 1 ?_
 refine Zx ?_
 refine Zk [1, 2] [(1, iV event), (2, pV b1)] ?_
 refine Zs ?_
 obtain ⟨x1, hx1, hF⟩ := M.bind_some hF
 refine Zg 6 [(4, .bool x1)] ?_ ?_
 ·refine Zb [iV event, pV b1] 0 ?_
  refine Zy (iV g.Events) (Zl 2 (⟨b1, 0, none⟩) (iV g.Events) (H1.cell 0 rfl rfl)) ?_
  refine Zb [iV (w64 (g.Events - 1))] 3 ?_
  refine Zy (.bool x1) (ZQ 39 #[iV event, iV 0, iV (w64 (g.Events - 1))] (w_impl_within h1 event 0 (w64 (g.Events - 1)) _ _ hx1)) ?_
  refine Zb [.bool x1] 5 ?_
  exact Zd [4]
 have hF := M.ret_some hF
 subst hF
 have H2 : Hold h h1 [] := H1.pk []
 exact Run_ret1 rfl (Zt (.bool x1)) ⟨rfl, H2⟩

theorem w_impl_isPlace (h : Heap) (g : TGraph) (agPlaces : Option Addr) (cgPlaces : Nat) (rgPlaces : Rd cd28 h (Lt h) agPlaces cgPlaces g.Places) (p : TPlace) (n : Nat) (r : Bool) (hF : impl_isPlace g p n = some r) :
  Fn Tryd.prog 24 #[.agg #[iV g.Events, .slice agPlaces g.Places.length cgPlaces], .agg #[iV p.From, iV p.To, iV p.Delay, iV p.Tokens]] h fun v h' => v = .bool r ∧ Hold h h' [] := by
 unfold impl_isPlace at hF
 refine Zo [.agg #[iV g.Events, .slice agPlaces g.Places.length cgPlaces], .agg #[iV p.From, iV p.To, iV p.Delay, iV p.Tokens]] Tryd.func24 rfl (fun w0 _ => ?_)
 have H0 := Hold.init h
 refine Zs ?_
 refine Run_ops ?_
 refine Ze ?_
 refine E_box (ty := 26) (cs := [iV g.Events, .slice agPlaces g.Places.length cgPlaces]) H0 (fun w => by kernel_rfl) (fun b1 h1 H1 => ?_)
 refine Ze ?_
 refine E_box (ty := 28) (cs := [iV p.From, iV p.To, iV p.Delay, iV p.Tokens]) H1 (fun w => by kernel_rfl) (fun b2 h2 H2 => ?_)
 refine Zr [.bool false] 2 ?_
 refine Zx ?_
 refine Zk [2, 3] [(2, pV b1), (3, pV b2)] ?_
 refine Zs ?_
 obtain ⟨x1, hx1, hF⟩ := M.bind_some hF
 obtain ⟨x2, gx2, hF⟩ := M.bind_some hF
 obtain ⟨x4, gx4, hF⟩ := M.bind_some hF
 obtain ⟨x6, gx6, hF⟩ := M.bind_some hF
 refine Run_regC (j := 21) (C := fun x => Hold h x [box b2 28 [iV p.From, iV p.To, iV p.Delay, iV p.Tokens], box b1 26 [iV g.Events, .slice agPlaces g.Places.length cgPlaces]]) (by kernel_rfl) H2 (L' := [(4, .bool x6)]) ?_ (fun h3 H3 => ?_)
 ·refine Zy (.agg #[iV g.Events, .slice agPlaces g.Places.length cgPlaces]) (Y_cls fun hx Hx => (Y_loadA (t := 26) (n := 2) (p := ⟨b1, 0, none⟩) (cs := [iV g.Events, .slice agPlaces g.Places.length cgPlaces]) (by kernel_rfl) (fun w => by kernel_rfl) (by kernel_rfl) rfl (Hx.cells (n := 2) (off := 0) 1 rfl rfl))) ?_
  refine Zb [pV b2] 1 ?_
  refine Zy (iV p.From) (Y_cls fun hx Hx => (Zl 2 (⟨b2, 0, none⟩) (iV p.From) (Hx.cell 0 rfl rfl))) ?_
  refine Zy (.bool x1) (Y_call (f := 46) (args := #[.agg #[iV g.Events, .slice agPlaces g.Places.length cgPlaces], iV p.From]) (v := .bool x1) (by kernel_rfl) fun hx Hx => (w_impl_isEvent hx g agPlaces cgPlaces (rgPlaces.at Hx.ext) p.From _ _ hx1).mono fun _ _ ⟨e, H'⟩ => ⟨e, Hx.call H' rfl⟩) ?_
  refine QRun_seq 10 [(3, pV b2), (14, .bool x2)] ?_ ?_
  ·rcases Bool.eq_false_or_eq_true x1 with hb1 | hb1
   ·refine Zv x1 true hb1 ?_
    have gx2 := (M.ite_some gx2).1 hb1
    obtain ⟨x3, hx2, gx2⟩ := M.bind_some gx2
    have gx2 := M.ret_some gx2
    refine Zy (.agg #[iV g.Events, .slice agPlaces g.Places.length cgPlaces]) (Y_cls fun hx Hx => (Y_loadA (t := 26) (n := 2) (p := ⟨b1, 0, none⟩) (cs := [iV g.Events, .slice agPlaces g.Places.length cgPlaces]) (by kernel_rfl) (fun w => by kernel_rfl) (by kernel_rfl) rfl (Hx.cells (n := 2) (off := 0) 1 rfl rfl))) ?_
    refine Zb [.pointer (some ⟨b2, 1, none⟩)] 6 ?_
    refine Zy (iV p.To) (Y_cls fun hx Hx => (Zl 2 (⟨b2, 1, none⟩) (iV p.To) (Hx.cell 0 rfl rfl))) ?_
    refine Zy (.bool x3) (Y_call (f := 46) (args := #[.agg #[iV g.Events, .slice agPlaces g.Places.length cgPlaces], iV p.To]) (v := .bool x3) (by kernel_rfl) fun hx Hx => (w_impl_isEvent hx g agPlaces cgPlaces (rgPlaces.at Hx.ext) p.To _ _ hx2).mono fun _ _ ⟨e, H'⟩ => ⟨e, Hx.call H' rfl⟩) ?_
    refine Zv x3 x2 gx2 ?_
    exact Zd [3, 14]
   ·refine Zv x1 false hb1 ?_
    have gx2 := M.ret_some ((M.ite_some gx2).2 hb1)
    refine Zn ?_
    refine Zn ?_
    refine Zn ?_
    refine Zn ?_
    refine Zv false x2 gx2 ?_
    exact Zd [3, 14]
  refine QRun_seq 15 [(3, pV b2), (19, .bool x4)] ?_ ?_
  ·rcases Bool.eq_false_or_eq_true x2 with hb2 | hb2
   ·refine Zv x2 true hb2 ?_
    have gx4 := (M.ite_some gx4).1 hb2
    obtain ⟨x5, hx3, gx4⟩ := M.bind_some gx4
    have gx4 := M.ret_some gx4
    refine Zb [.pointer (some ⟨b2, 2, none⟩)] 11 ?_
    refine Zy (iV p.Delay) (Y_cls fun hx Hx => (Zl 2 (⟨b2, 2, none⟩) (iV p.Delay) (Hx.cell 0 rfl rfl))) ?_
    refine Zy (.bool x5) (Y_cls fun hx Hx => (ZQ 39 #[iV p.Delay, iV 0, iV 1000] (w_impl_within hx p.Delay 0 1000 _ _ hx3))) ?_
    refine Zv x5 x4 gx4 ?_
    exact Zd [3, 19]
   ·refine Zv x2 false hb2 ?_
    have gx4 := M.ret_some ((M.ite_some gx4).2 hb2)
    refine Zn ?_
    refine Zn ?_
    refine Zn ?_
    refine Zv false x4 gx4 ?_
    exact Zd [3, 19]
  refine QRun_seq 20 [(24, .bool x6)] ?_ ?_
  ·rcases Bool.eq_false_or_eq_true x4 with hb3 | hb3
   ·refine Zv x4 true hb3 ?_
    have gx6 := (M.ite_some gx6).1 hb3
    obtain ⟨x7, hx4, gx6⟩ := M.bind_some gx6
    have gx6 := M.ret_some gx6
    refine Zb [.pointer (some ⟨b2, 3, none⟩)] 16 ?_
    refine Zy (iV p.Tokens) (Y_cls fun hx Hx => (Zl 2 (⟨b2, 3, none⟩) (iV p.Tokens) (Hx.cell 0 rfl rfl))) ?_
    refine Zy (.bool x7) (Y_cls fun hx Hx => (ZQ 39 #[iV p.Tokens, iV 0, iV 5] (w_impl_within hx p.Tokens 0 5 _ _ hx4))) ?_
    refine Zv x7 x6 gx6 ?_
    exact Zd [24]
   ·refine Zv x4 false hb3 ?_
    have gx6 := M.ret_some ((M.ite_some gx6).2 hb3)
    refine Zn ?_
    refine Zn ?_
    refine Zn ?_
    refine Zv false x6 gx6 ?_
    exact Zd [24]
  refine Zb [.bool x6] 20 ?_
  exact Zd [4]
 have H4 := H3
 have hF := M.ret_some hF
 subst hF
 have H5 : Hold h h3 [] := H4.pk []
 exact Run_ret1 rfl (Zt (.bool x6)) ⟨rfl, H5⟩

theorem w_impl_IsEventGraph_1 (h : Heap) (p : TPlace) (z0 : TGraph) (az0Places : Option Addr) (cz0Places : Nat) (rz0Places : Rd cd28 h (Lt h) az0Places cz0Places z0.Places) (bz0 : Nat) (vz0 : VarAt h bz0 26 [iV z0.Events, .slice az0Places z0.Places.length cz0Places]) (n : Nat) (r : Bool) (hF : impl_IsEventGraph_1 p z0 n = some r) :
  Fn Tryd.prog 41 #[.agg #[iV p.From, iV p.To, iV p.Delay, iV p.Tokens], pV bz0] h fun v h' => v = .bool r ∧ Hold h h' [] := by
 unfold impl_IsEventGraph_1 at hF
 refine Zo [.agg #[iV p.From, iV p.To, iV p.Delay, iV p.Tokens], pV bz0] Tryd.func41 rfl (fun w0 _ => ?_)
 have H0 := Hold.init h
 refine Zs ?_
 refine Run_ops ?_
 refine Ze ?_
 refine E_box (ty := 28) (cs := [iV p.From, iV p.To, iV p.Delay, iV p.Tokens]) H0 (fun w => by kernel_rfl) (fun b1 h1 H1 => ?_)
 refine Zr [.bool false] 1 ?_
 refine Zx ?_
 refine Zk [1, 2] [(1, pV bz0), (2, pV b1)] ?_
 refine Zs ?_
 obtain ⟨x1, hx1, hF⟩ := M.bind_some hF
 refine Run_regC (j := 5) (C := fun x => Hold h x [box b1 28 [iV p.From, iV p.To, iV p.Delay, iV p.Tokens]]) (by kernel_rfl) H1 (L' := [(3, .bool (!x1))]) ?_ (fun h2 H2 => ?_)
 ·refine Zy (.agg #[iV z0.Events, .slice az0Places z0.Places.length cz0Places]) (Y_cls fun hx Hx => (Y_loadA (t := 26) (n := 2) (p := ⟨bz0, 0, none⟩) (cs := [iV z0.Events, .slice az0Places z0.Places.length cz0Places]) (by kernel_rfl) (fun w => by kernel_rfl) (by kernel_rfl) rfl (VarAt.cells (n := 2) (off := 0) (vz0.at Hx.ext) rfl))) ?_
  refine Zy (.agg #[iV p.From, iV p.To, iV p.Delay, iV p.Tokens]) (Y_cls fun hx Hx => (Y_loadA (t := 28) (n := 4) (p := ⟨b1, 0, none⟩) (cs := [iV p.From, iV p.To, iV p.Delay, iV p.Tokens]) (by kernel_rfl) (fun w => by kernel_rfl) (by kernel_rfl) rfl (Hx.cells (n := 4) (off := 0) 0 rfl rfl))) ?_
  refine Zy (.bool x1) (Y_call (f := 24) (args := #[.agg #[iV z0.Events, .slice az0Places z0.Places.length cz0Places], .agg #[iV p.From, iV p.To, iV p.Delay, iV p.Tokens]]) (v := .bool x1) (by kernel_rfl) fun hx Hx => (w_impl_isPlace hx z0 az0Places cz0Places (rz0Places.at Hx.ext) p _ _ hx1).mono fun _ _ ⟨e, H'⟩ => ⟨e, Hx.call H' rfl⟩) ?_
  refine Zb [.bool (!x1), .bool (!x1)] 3 ?_
  exact Zd [3]
 have H3 := H2
 have hF := M.ret_some hF
 subst hF
 have H4 : Hold h h2 [] := H3.pk []
 exact Run_ret1 rfl (Zt (.bool (!x1))) ⟨rfl, H4⟩

theorem w_slices_IndexFunc_Place_F_impl_IsEventGraph_1 (h : Heap) (s_ : List TPlace) (as_ : Option Addr) (cs_ : Nat) (rs_ : Rd cd28 h (Lt h) as_ cs_ s_) (f0 : TGraph) (af0Places : Option Addr) (cf0Places : Nat) (rf0Places : Rd cd28 h (Lt h) af0Places cf0Places f0.Places) (bf0 : Nat) (vf0 : VarAt h bf0 26 [iV f0.Events, .slice af0Places f0.Places.length cf0Places]) (n : Nat) (r : Int) (hF : slices_IndexFunc_Place_F_impl_IsEventGraph_1 s_ f0 n = some r) :
  Fn Tryd.prog 54 #[.slice as_ s_.length cs_, .func (.func 41) #[] #[pV bf0]] h fun v h' => v = iV r ∧ Hold h h' [] := by
 unfold slices_IndexFunc_Place_F_impl_IsEventGraph_1 at hF
 refine Zo [.slice as_ s_.length cs_, .func (.func 41) #[] #[pV bf0]] Tryd.func54 rfl (fun w0 _ => ?_)
 have H0 := Hold.init h
 refine Zs ?_
 refine Zq [iV 0] [0, 1] [(0, .slice as_ s_.length cs_), (1, .func (.func 41) #[] #[pV bf0])] ?_
 refine Zs ?_
 refine Zs ?_
 refine Zq [.slice as_ s_.length cs_, iV (s_.length : Int), iV 0] [0, 1, 7, 8] [(0, .slice as_ s_.length cs_), (1, .func (.func 41) #[] #[pV bf0]), (7, iV (s_.length : Int)), (8, iV 0)] ?_
 obtain ⟨x1, gx1, hF⟩ := M.bind_some hF
 obtain ⟨hloy1, hhiy1, gx1⟩ := M.for_start gx1
 refine Run_join (fun L' h' => ∃ (s2 : Unit), x1 = .inl s2 ∧ L' = [] ∧ Hold h h' []) ?_ ?_
 ·rintro _ h2 ⟨s2, es2, rfl, H2⟩
  have hF := M.cont_inl' hF es2
  refine Zs ?_
  refine Zq [iV (-1)] [4] [(4, iV (-1))] ?_
  have hF := M.ret_some hF
  subst hF
  exact Run_ret1 rfl (Zt (iV (-1))) ⟨rfl, H2⟩
 ·refine Run_block ?_
  refine Zk [0, 1, 7, 8] [(0, .slice as_ s_.length cs_), (1, .func (.func 41) #[] #[pV bf0]), (7, iV (s_.length : Int)), (8, iV 0)] ?_
  refine Run_loop (fun m L' h' => ∃ (i1 : Int) (s1 : Unit), 0 ≤ i1 ∧ M.forN (s_.length : Int) _ _ n m i1 s1 = some x1 ∧ L' = [(0, .slice as_ s_.length cs_), (1, .func (.func 41) #[] #[pV bf0]), (7, iV (s_.length : Int)), (8, iV i1)] ∧ Hold h h' []) ((s_.length : Int) - 0 : Int).toNat ⟨0, (), Int.le_refl _, gx1, rfl, H0⟩ ?_
  rintro my1 _ h1 ⟨i1, s1, hloy1', gx1, rfl, H1⟩
  refine Zs ?_
  refine Zq [.bool (decide (i1 < (s_.length : Int)))] [0, 1, 7, 8, 9] [(0, .slice as_ s_.length cs_), (1, .func (.func 41) #[] #[pV bf0]), (7, iV (s_.length : Int)), (8, iV i1), (9, .bool (decide (i1 < (s_.length : Int))))] ?_
  refine Zs ?_
  refine Zc (decide (i1 < (s_.length : Int))) (fun hb1 => ?_) (fun hb1 => ?_)
  ·obtain ⟨my1, y1, rfl, hB1, hgoy1, houty1⟩ := M.for_go gx1 hb1
   have hlty1 := of_decide_eq_true hb1
   refine Run_skip ?_
   refine Zs ?_
   refine Run_block ?_
   refine Zs ?_
   refine Zq [iV i1, iV i1] [0, 1, 5, 7, 8] [(0, .slice as_ s_.length cs_), (1, .func (.func 41) #[] #[pV bf0]), (5, iV i1), (7, iV (s_.length : Int)), (8, iV i1)] ?_
   refine Zs ?_
   obtain ⟨x2, hx1, hB1⟩ := M.bind_some hB1
   obtain ⟨hx1l, hx1u, hx1⟩ := M.idx_some hx1
   obtain ⟨x3, hx2, hB1⟩ := M.bind_some hB1
   refine Run_regC (j := 6) (C := fun x => Hold h x []) (by kernel_rfl) H1 (L' := [(0, .slice as_ s_.length cs_), (1, .func (.func 41) #[] #[pV bf0]), (5, iV i1), (7, iV (s_.length : Int)), (8, iV i1), (16, .bool x3)]) ?_ (fun h3 H3 => ?_)
   ·refine Zb [.func (.func 41) #[] #[pV bf0], .slice as_ s_.length cs_, iV i1] 0 ?_
    refine Zy (.pointer (some (adr as_ (i1.toNat * 4)))) (Y_cls fun hx Hx => (Zi 24 28 4 (as_) (s_.length) (cs_) .i64 (i1) Tryd.underlying24 ((rs_.at H1.ext).cell hx1).1 hx1l hx1u)) ?_
    refine Zy (.agg #[iV x2.From, iV x2.To, iV x2.Delay, iV x2.Tokens]) (Y_cls fun hx Hx => (Y_loadA (t := 28) (n := 4) (p := adr as_ (i1.toNat * 4)) (cs := [iV x2.From, iV x2.To, iV x2.Delay, iV x2.Tokens]) (by kernel_rfl) (fun w => by kernel_rfl) (by kernel_rfl) rfl (cd28_elem (rs_.at Hx.ext) hx1))) ?_
    refine Zy (.bool x3) (Y_call (f := 41) (args := #[.agg #[iV x2.From, iV x2.To, iV x2.Delay, iV x2.Tokens], pV bf0]) (v := .bool x3) (by kernel_rfl) fun hx Hx => (w_impl_IsEventGraph_1 hx x2 f0 af0Places cf0Places (rf0Places.at Hx.ext) bf0 (vf0.at Hx.ext) _ _ hx2).mono fun _ _ ⟨e, H'⟩ => ⟨e, Hx.call H' rfl⟩) ?_
    exact Zd [0, 1, 5, 7, 8, 16]
   have H4 := H3
   refine Zc (x3) (fun hb2 => ?_) (fun hb2 => ?_)
   ·have hB1 := (M.ite_some hB1).1 hb2
    refine Zs ?_
    refine Zq [iV i1, iV i1] [4] [(4, iV i1)] ?_
    have hB1 := M.ret_some hB1
    have gx1 := houty1 _ hB1.symm
    have hF := M.cont_inr' hF gx1
    have hF := M.ret_some hF
    subst hF
    exact Run_ret1 rfl (Zt (iV i1)) ⟨rfl, H4⟩
   ·have hB1 := (M.ite_some hB1).2 hb2
    refine Run_skip ?_
    refine Run_blk ?_
    refine Zg 2 [(0, .slice as_ s_.length cs_), (1, .func (.func 41) #[] #[pV bf0]), (7, iV (s_.length : Int)), (8, iV (i1 + 1))] ?_ ?_
    ·refine Zy (iV (i1 + 1)) (Y_eq (v := iV (w64 (i1 + 1))) (Y_pure (fun w => by kernel_rfl)) (by rw [w64_eq _ (by omega)])) ?_
     refine Zb [iV (i1 + 1)] 1 ?_
     exact Zd [0, 1, 7, 8]
    have hB1 := M.ret_some hB1
    have gx1 := hgoy1 _ hB1.symm
    exact Za [0, 1, 7, 8] my1 ⟨i1 + 1, (), by omega, gx1, rfl, H4⟩
  ·have gx1 := M.for_end gx1 hb1
   subst gx1
   refine Run_exit (k' := _) rfl ?_
   exact Zf [] ⟨(), rfl, rfl, H1⟩

theorem w_slices_ContainsFunc_Place_F_impl_IsEventGraph_1 (h : Heap) (s_ : List TPlace) (as_ : Option Addr) (cs_ : Nat) (rs_ : Rd cd28 h (Lt h) as_ cs_ s_) (f0 : TGraph) (af0Places : Option Addr) (cf0Places : Nat) (rf0Places : Rd cd28 h (Lt h) af0Places cf0Places f0.Places) (bf0 : Nat) (vf0 : VarAt h bf0 26 [iV f0.Events, .slice af0Places f0.Places.length cf0Places]) (n : Nat) (r : Bool) (hF : slices_ContainsFunc_Place_F_impl_IsEventGraph_1 s_ f0 n = some r) :
  Fn Tryd.prog 40 #[.slice as_ s_.length cs_, .func (.func 41) #[] #[pV bf0]] h fun v h' => v = .bool r ∧ Hold h h' [] := by
 unfold slices_ContainsFunc_Place_F_impl_IsEventGraph_1 at hF
 refine Zo [.slice as_ s_.length cs_, .func (.func 41) #[] #[pV bf0]] Tryd.func40 rfl (fun w0 _ => ?_)
 have H0 := Hold.init h
 refine Zs ?_
 refine Zq [.bool false] [0, 1] [(0, .slice as_ s_.length cs_), (1, .func (.func 41) #[] #[pV bf0])] ?_
 refine Zs ?_
 obtain ⟨x1, hx1, hF⟩ := M.bind_some hF
 refine Run_regC (j := 5) (C := fun x => Hold h x []) (by kernel_rfl) H0 (L' := [(4, .bool (decide (0 ≤ x1)))]) ?_ (fun h1 H1 => ?_)
 ·refine Zb [.slice as_ s_.length cs_, .func (.func 41) #[] #[pV bf0]] 0 ?_
  refine Zy (iV x1) (Y_call (f := 54) (args := #[.slice as_ s_.length cs_, .func (.func 41) #[] #[pV bf0]]) (v := iV x1) (by kernel_rfl) fun hx Hx => (w_slices_IndexFunc_Place_F_impl_IsEventGraph_1 hx s_ as_ cs_ (rs_.at Hx.ext) f0 af0Places cf0Places (rf0Places.at Hx.ext) bf0 (vf0.at Hx.ext) _ _ hx1).mono fun _ _ ⟨e, H'⟩ => ⟨e, Hx.call H' rfl⟩) ?_
  refine Zb [.bool (decide (0 ≤ x1)), .bool (decide (0 ≤ x1))] 3 ?_
  exact Zd [4]
 have H2 := H1
 have hF := M.ret_some hF
 subst hF
 exact Run_ret1 rfl (Zt (.bool (decide (0 ≤ x1)))) ⟨rfl, H2⟩

theorem w_impl_IsEventGraph (h : Heap) (g : TGraph) (agPlaces : Option Addr) (cgPlaces : Nat) (rgPlaces : Rd cd28 h (Lt h) agPlaces cgPlaces g.Places) (n : Nat) (r : Bool) (hF : impl_IsEventGraph g n = some r) :
  Fn Tryd.prog 15 #[.agg #[iV g.Events, .slice agPlaces g.Places.length cgPlaces]] h fun v h' => v = .bool r ∧ Hold h h' [] := by
 unfold impl_IsEventGraph at hF
 refine Zo [.agg #[iV g.Events, .slice agPlaces g.Places.length cgPlaces]] Tryd.func15 rfl (fun w0 _ => ?_)
 have H0 := Hold.init h
 refine Zs ?_
 refine Run_ops ?_
 refine Ze ?_
 refine E_box (ty := 26) (cs := [iV g.Events, .slice agPlaces g.Places.length cgPlaces]) H0 (fun w => by kernel_rfl) (fun b1 h1 H1 => ?_)
 refine Zr [.bool false] 1 ?_
 refine Zx ?_
 refine Zk [1] [(1, pV b1)] ?_
 refine Zs ?_
 obtain ⟨x1, hx1, hF⟩ := M.bind_some hF
 obtain ⟨x3, gx3, hF⟩ := M.bind_some hF
 refine Run_regC (j := 17) (C := fun x => Hold h x [box b1 26 [iV g.Events, .slice agPlaces g.Places.length cgPlaces]]) (by kernel_rfl) H1 (L' := [(2, .bool x3)]) ?_ (fun h2 H2 => ?_)
 ·refine Zb [pV b1] 0 ?_
  refine Zy (iV g.Events) (Y_cls fun hx Hx => (Zl 2 (⟨b1, 0, none⟩) (iV g.Events) (Hx.cell 0 rfl rfl))) ?_
  refine Zy (.bool x1) (Y_cls fun hx Hx => (ZQ 39 #[iV g.Events, iV 1, iV 10] (w_impl_within hx g.Events 1 10 _ _ hx1))) ?_
  refine QRun_seq 9 [(1, pV b1), (11, .bool (x1 && (decide ((g.Places.length : Int) ≤ 30))))] ?_ ?_
  ·rcases Bool.eq_false_or_eq_true x1 with hb1 | hb1
   ·refine Zv x1 true hb1 ?_
    refine Zb [.pointer (some ⟨b1, 1, none⟩)] 4 ?_
    refine Zy (.slice agPlaces g.Places.length cgPlaces) (Y_cls fun hx Hx => (Zl 24 (⟨b1, 1, none⟩) (.slice agPlaces g.Places.length cgPlaces) (Hx.cell 0 rfl rfl))) ?_
    refine Zb [iV (g.Places.length : Int), .bool (decide ((g.Places.length : Int) ≤ 30))] 6 ?_
    refine QRun_bool (decide ((g.Places.length : Int) ≤ 30)) (x1 && (decide ((g.Places.length : Int) ≤ 30))) (by kernel_rfl) (fun w => by kernel_rfl) (by rw [hb1]; rfl) ?_
    exact Zd [1, 11]
   ·refine Zv x1 false hb1 ?_
    refine Zn ?_
    refine Zn ?_
    refine Zn ?_
    refine Zn ?_
    refine QRun_bool false (x1 && (decide ((g.Places.length : Int) ≤ 30))) (by kernel_rfl) (fun w => by kernel_rfl) (by rw [hb1]; rfl) ?_
    exact Zd [1, 11]
  refine QRun_seq 16 [(18, .bool x3)] ?_ ?_
  ·rcases Bool.eq_false_or_eq_true (x1 && (decide ((g.Places.length : Int) ≤ 30))) with hb2 | hb2
   ·refine Zv (x1 && (decide ((g.Places.length : Int) ≤ 30))) true hb2 ?_
    have gx3 := (M.ite_some gx3).1 hb2
    obtain ⟨x4, hx2, gx3⟩ := M.bind_some gx3
    have gx3 := M.ret_some gx3
    refine Zb [.pointer (some ⟨b1, 1, none⟩)] 10 ?_
    refine Zy (.slice agPlaces g.Places.length cgPlaces) (Y_cls fun hx Hx => (Zl 24 (⟨b1, 1, none⟩) (.slice agPlaces g.Places.length cgPlaces) (Hx.cell 0 rfl rfl))) ?_
    refine Zb [.func (.func 41) #[] #[pV b1]] 12 ?_
    refine Zy (.bool x4) (Y_call (f := 40) (args := #[.slice agPlaces g.Places.length cgPlaces, .func (.func 41) #[] #[pV b1]]) (v := .bool x4) (by kernel_rfl) fun hx Hx => (w_slices_ContainsFunc_Place_F_impl_IsEventGraph_1 hx g.Places agPlaces cgPlaces (rgPlaces.at Hx.ext) g agPlaces cgPlaces (rgPlaces.at Hx.ext) b1 (Hx.var 0 rfl) _ _ hx2).mono fun _ _ ⟨e, H'⟩ => ⟨e, Hx.call H' rfl⟩) ?_
    refine Zb [.bool (!x4)] 14 ?_
    refine Zv (!x4) x3 gx3 ?_
    exact Zd [18]
   ·refine Zv (x1 && (decide ((g.Places.length : Int) ≤ 30))) false hb2 ?_
    have gx3 := M.ret_some ((M.ite_some gx3).2 hb2)
    refine Zn ?_
    refine Zn ?_
    refine Zn ?_
    refine Zn ?_
    refine Zn ?_
    refine Zv false x3 gx3 ?_
    exact Zd [18]
  refine Zb [.bool x3] 16 ?_
  exact Zd [2]
 have H3 := H2
 have hF := M.ret_some hF
 subst hF
 have H4 : Hold h h2 [] := H3.pk []
 exact Run_ret1 rfl (Zt (.bool x3)) ⟨rfl, H4⟩

theorem w_slices_Clone_Place (h : Heap) (s_ : List TPlace) (as_ : Option Addr) (cs_ : Nat) (rs_ : Rd cd28 h (Lt h) as_ cs_ s_) (n : Nat) (r : (List TPlace)) (hF : slices_Clone_Place s_ n = some r) :
  Fn Tryd.prog 47 #[.slice as_ s_.length cs_] h fun v h' => ∃ (a0 : Option Addr) (c0 : Nat), v = .slice a0 r.length c0 ∧ Hold h h' [own cd28 a0 r.length c0 r] := by
 unfold slices_Clone_Place at hF
 refine Zo [.slice as_ s_.length cs_] Tryd.func47 rfl (fun w0 _ => ?_)
 have H0 := Hold.init h
 refine Zs ?_
 refine Zq [.slice none 0 0] [0] [(0, .slice as_ s_.length cs_)] ?_
 refine Zs ?_
 refine Zs ?_
 refine Zg 2 [(0, .slice as_ s_.length cs_), (4, .bool as_.isNone)] ?_ ?_
 ·refine Zb [.slice as_ s_.length cs_] 0 ?_
  refine Zy (.bool as_.isNone) (Y_isnil (t := 24) (e := 28) (n := s_.length) (c := cs_) (a := as_) (by kernel_rfl) Tryd.underlying24) ?_
  exact Zd [0, 4]
 refine Zc (as_.isNone) (fun hb1 => ?_) (fun hb1 => ?_)
 ·obtain rfl : s_ = [] := rs_.isNone hb1
  have hF : (M.ret ([] : List TPlace)) n = some r := by simpa [M.bind, M.app, M.ret] using hF
  refine Zs ?_
  refine Zq [.slice none 0 0] [2] [(2, .slice none 0 0)] ?_
  have hF := M.ret_some hF
  subst hF
  have H1 := H0.empty cd28
  exact Run_ret1 rfl (Zt (.slice none 0 0)) ⟨none, 0, rfl, H1⟩
 ·refine Run_skip ?_
  refine Zs ?_
  refine Run_ops ?_
  refine Ze ?_
  refine E_lit (C := cd28) (n := 0) (l := ([] : List TPlace)) (cs := []) H0 (fun w => by kernel_rfl) (Enc.nil _ _) rfl (by decide) (fun a1 h1 H2 => ?_)
  refine Zr [.slice as_ s_.length cs_] 1 ?_
  obtain ⟨l1, hl1, hF⟩ := M.bind_some hF
  have hl1 := M.app_some hl1
  refine Ze ?_
  refine E_appR (C := cd28) (t := 24) (ty := 24) (n := 0) (m := s_.length) H2 cd28_copies (rs_.at H2.ext) rfl cd28_ti rfl Tryd.underlying24 (by decide) (by kernel_rfl) hl1 (fun a2 c1 h2 H3 => ?_)
  refine Zr [.slice a2 l1.length c1] 3 ?_
  refine Zx ?_
  refine Zk [2] [(2, .slice a2 l1.length c1)] ?_
  have hF := M.ret_some hF
  subst hF
  exact Run_ret1 rfl (Zt (.slice a2 l1.length c1)) ⟨a2, c1, rfl, H3⟩

theorem w_impl_cloneGraph (h : Heap) (g : TGraph) (agPlaces : Option Addr) (cgPlaces : Nat) (rgPlaces : Rd cd28 h (Lt h) agPlaces cgPlaces g.Places) (n : Nat) (r : TGraph) (hF : impl_cloneGraph g n = some r) :
  Fn Tryd.prog 25 #[.agg #[iV g.Events, .slice agPlaces g.Places.length cgPlaces]] h fun v h' => ∃ (a0 : Option Addr) (c0 : Nat), v = .agg #[iV r.Events, .slice a0 r.Places.length c0] ∧ Hold h h' [own cd28 a0 r.Places.length c0 r.Places] := by
 unfold impl_cloneGraph at hF
 refine Zo [.agg #[iV g.Events, .slice agPlaces g.Places.length cgPlaces]] Tryd.func25 rfl (fun w0 _ => ?_)
 have H0 := Hold.init h
 refine Zs ?_
 refine Run_ops ?_
 refine Ze ?_
 refine E_box (ty := 26) (cs := [iV g.Events, .slice agPlaces g.Places.length cgPlaces]) H0 (fun w => by kernel_rfl) (fun b1 h1 H1 => ?_)
 refine Ze ?_
 refine E_box (ty := 26) (cs := [iV 0, .slice none 0 0]) H1 (fun w => by kernel_rfl) (fun b2 h2 H2 => ?_)
 refine Zx ?_
 refine Zk [1, 2] [(1, pV b1), (2, pV b2)] ?_
 refine Zs ?_
 refine Run_D (fun x => Hold h x [box b2 26 [iV 0, .slice none 0 0], box b1 26 [iV g.Events, .slice agPlaces g.Places.length cgPlaces]]) (fun x => Hold h x [box b2 26 [iV 0, .slice none 0 0], box b1 26 [iV g.Events, .slice agPlaces g.Places.length cgPlaces]]) mixed (by kernel_rfl) H2 Hold.stable (fun x Hy => (show Hold h x [box b2 26 [iV 0, .slice none 0 0], box b1 26 [iV g.Events, .slice agPlaces g.Places.length cgPlaces]] from Hy).pk [0, 1]) ?_
 refine ZB 6 [pV b1] 0 ?_
 refine ZY 5 1 (iV g.Events) (fun hx Hx => (YE.of (Zl 2 (⟨b1, 0, none⟩) (iV g.Events) (Hx.cell 1 rfl rfl)))) ?_
 refine ZB 4 [.pointer (some ⟨b1, 1, none⟩)] 2 ?_
 refine ZY 3 3 (.slice agPlaces g.Places.length cgPlaces) (fun hx Hx => (YE.of (Zl 24 (⟨b1, 1, none⟩) (.slice agPlaces g.Places.length cgPlaces) (Hx.cell 1 rfl rfl)))) ?_
 refine ZE 2 4 (fun h3 H3 => ?_)
 have H4 := H3
 obtain ⟨x1, hx1, hF⟩ := M.bind_some hF
 refine ZC 47 #[.slice agPlaces g.Places.length cgPlaces] (w_slices_Clone_Place h3 g.Places agPlaces cgPlaces (rgPlaces.at H4.ext) _ _ hx1) (fun v1 h4 hp1 => ?_)
 obtain ⟨a1, c1, rfl, H5⟩ := hp1
 have H6 : Hold h h4 [own cd28 a1 x1.length c1 x1, box b2 26 [iV 0, .slice none 0 0], box b1 26 [iV g.Events, .slice agPlaces g.Places.length cgPlaces]] := H4.call H5 rfl
 refine ZA [box b2 26 [iV 0, .slice none 0 0], box b1 26 [iV g.Events, .slice agPlaces g.Places.length cgPlaces], own cd28 a1 x1.length c1 x1] [1, 2, 0] [0, 1] H6 ?_
 refine ZB 1 [.agg #[iV g.Events, .slice a1 x1.length c1]] 5 ?_
 refine ZT 6 (fun h5 H7 => ?_)
 have H8 := H7
 have H10 : Hold h h5 [box b2 26 [iV 0, .slice none 0 0], own cd28 a1 x1.length c1 x1, box b1 26 [iV g.Events, .slice agPlaces g.Places.length cgPlaces]] := H8.pk [1, 0, 2]
 refine Ze ?_
 refine ZP 26 0 [iV g.Events, .slice a1 x1.length c1] (.agg #[iV g.Events, .slice a1 x1.length c1]) H10 (fun h6 H9 => ?_)
 refine Zx ?_
 refine Zk [2] [(2, pV b2)] ?_
 have hF := M.ret_some hF
 subst hF
 have H11 : Hold h h6 [own cd28 a1 x1.length c1 x1, box b2 26 [iV g.Events, .slice a1 x1.length c1], box b1 26 [iV g.Events, .slice agPlaces g.Places.length cgPlaces]] := H9.pk [1, 0, 2]
 have H12 : Hold h h6 [own cd28 a1 x1.length c1 x1] := H11.pk [0]
 exact Run_ret1 rfl (ResV_cell (n := 2) (cs := [iV g.Events, .slice a1 x1.length c1]) (by kernel_rfl) (fun w => by kernel_rfl) (by kernel_rfl) rfl (H9.cells (n := 2) (off := 0) 0 rfl rfl)) ⟨a1, c1, rfl, H12⟩

theorem w_impl_AddPlace (h : Heap) (g : TGraph) (agPlaces : Option Addr) (cgPlaces : Nat) (rgPlaces : Rd cd28 h (Lt h) agPlaces cgPlaces g.Places) (p : TPlace) (n : Nat) (r : TGraph × Int) (hF : impl_AddPlace g p n = some r) :
  Fn Tryd.prog 7 #[.agg #[iV g.Events, .slice agPlaces g.Places.length cgPlaces], .agg #[iV p.From, iV p.To, iV p.Delay, iV p.Tokens]] h fun v h' => ∃ (a0 : Option Addr) (c0 : Nat), v = .tuple #[.agg #[iV r.1.Events, .slice a0 r.1.Places.length c0], iV r.2] ∧ Hold h h' [own cd28 a0 r.1.Places.length c0 r.1.Places] := by
 unfold impl_AddPlace at hF
 refine Zo [.agg #[iV g.Events, .slice agPlaces g.Places.length cgPlaces], .agg #[iV p.From, iV p.To, iV p.Delay, iV p.Tokens]] Tryd.func7 rfl (fun w0 _ => ?_)
 have H0 := Hold.init h
 refine Zs ?_
 refine Run_ops ?_
 refine Ze ?_
 refine E_box (ty := 26) (cs := [iV g.Events, .slice agPlaces g.Places.length cgPlaces]) H0 (fun w => by kernel_rfl) (fun b1 h1 H1 => ?_)
 refine Ze ?_
 refine E_box (ty := 28) (cs := [iV p.From, iV p.To, iV p.Delay, iV p.Tokens]) H1 (fun w => by kernel_rfl) (fun b2 h2 H2 => ?_)
 refine Ze ?_
 refine E_box (ty := 26) (cs := [iV 0, .slice none 0 0]) H2 (fun w => by kernel_rfl) (fun b3 h3 H3 => ?_)
 refine Zr [iV 0] 3 ?_
 refine Zx ?_
 refine Zk [2, 3, 4] [(2, pV b1), (3, pV b2), (4, pV b3)] ?_
 refine Zs ?_
 refine Zs ?_
 obtain ⟨x1, hx1, hF⟩ := M.bind_some hF
 refine Run_regC (j := 3) (C := fun x => Hold h x [box b3 26 [iV 0, .slice none 0 0], box b2 28 [iV p.From, iV p.To, iV p.Delay, iV p.Tokens], box b1 26 [iV g.Events, .slice agPlaces g.Places.length cgPlaces]]) (by kernel_rfl) H3 (L' := [(2, pV b1), (3, pV b2), (4, pV b3), (9, .bool (!x1))]) ?_ (fun h4 H4 => ?_)
 ·refine Zy (.agg #[iV g.Events, .slice agPlaces g.Places.length cgPlaces]) (Y_cls fun hx Hx => (Y_loadA (t := 26) (n := 2) (p := ⟨b1, 0, none⟩) (cs := [iV g.Events, .slice agPlaces g.Places.length cgPlaces]) (by kernel_rfl) (fun w => by kernel_rfl) (by kernel_rfl) rfl (Hx.cells (n := 2) (off := 0) 2 rfl rfl))) ?_
  refine Zy (.bool x1) (Y_call (f := 15) (args := #[.agg #[iV g.Events, .slice agPlaces g.Places.length cgPlaces]]) (v := .bool x1) (by kernel_rfl) fun hx Hx => (w_impl_IsEventGraph hx g agPlaces cgPlaces (rgPlaces.at Hx.ext) _ _ hx1).mono fun _ _ ⟨e, H'⟩ => ⟨e, Hx.call H' rfl⟩) ?_
  refine Zb [.bool (!x1)] 2 ?_
  exact Zd [2, 3, 4, 9]
 have H5 := H4
 refine Zc (!x1) (fun hb1 => ?_) (fun hb1 => ?_)
 ·have hF := (M.ite_some hF).1 hb1
  refine Zs ?_
  refine Run_ops ?_
  refine Zr [.agg #[iV 0, .slice none 0 0]] 0 ?_
  refine Ze ?_
  refine ZP 26 0 [iV 0, .slice none 0 0] (.agg #[iV 0, .slice none 0 0]) H5 (fun h5 H6 => ?_)
  refine Zr [iV 1] 2 ?_
  refine Zx ?_
  refine Zk [4, 5] [(4, pV b3), (5, iV 1)] ?_
  have hF := M.ret_some hF
  subst hF
  have H7 := H6.empty cd28
  have H8 : Hold h h5 [own cd28 none 0 0 []] := H7.pk [0]
  exact Run_ret2 rfl (ResV_cell (n := 2) (cs := [iV 0, .slice none 0 0]) (by kernel_rfl) (fun w => by kernel_rfl) (by kernel_rfl) rfl (H6.cells (n := 2) (off := 0) 0 rfl rfl)) (Zt (iV 1)) ⟨none, 0, rfl, H8⟩
 ·have hF := (M.ite_some hF).2 hb1
  refine Run_skip ?_
  refine Zs ?_
  refine Zs ?_
  obtain ⟨x2, hx2, hF⟩ := M.bind_some hF
  refine Run_regC (j := 4) (C := fun x => Hold h x [box b3 26 [iV 0, .slice none 0 0], box b2 28 [iV p.From, iV p.To, iV p.Delay, iV p.Tokens], box b1 26 [iV g.Events, .slice agPlaces g.Places.length cgPlaces]]) (by kernel_rfl) H5 (L' := [(2, pV b1), (3, pV b2), (4, pV b3), (14, .bool (!x2))]) ?_ (fun h6 H9 => ?_)
  ·refine Zy (.agg #[iV g.Events, .slice agPlaces g.Places.length cgPlaces]) (Y_cls fun hx Hx => (Y_loadA (t := 26) (n := 2) (p := ⟨b1, 0, none⟩) (cs := [iV g.Events, .slice agPlaces g.Places.length cgPlaces]) (by kernel_rfl) (fun w => by kernel_rfl) (by kernel_rfl) rfl (Hx.cells (n := 2) (off := 0) 2 rfl rfl))) ?_
   refine Zy (.agg #[iV p.From, iV p.To, iV p.Delay, iV p.Tokens]) (Y_cls fun hx Hx => (Y_loadA (t := 28) (n := 4) (p := ⟨b2, 0, none⟩) (cs := [iV p.From, iV p.To, iV p.Delay, iV p.Tokens]) (by kernel_rfl) (fun w => by kernel_rfl) (by kernel_rfl) rfl (Hx.cells (n := 4) (off := 0) 1 rfl rfl))) ?_
   refine Zy (.bool x2) (Y_call (f := 24) (args := #[.agg #[iV g.Events, .slice agPlaces g.Places.length cgPlaces], .agg #[iV p.From, iV p.To, iV p.Delay, iV p.Tokens]]) (v := .bool x2) (by kernel_rfl) fun hx Hx => (w_impl_isPlace hx g agPlaces cgPlaces (rgPlaces.at Hx.ext) p _ _ hx2).mono fun _ _ ⟨e, H'⟩ => ⟨e, Hx.call H' rfl⟩) ?_
   refine Zb [.bool (!x2)] 3 ?_
   exact Zd [2, 3, 4, 14]
  have H10 := H9
  refine Zc (!x2) (fun hb2 => ?_) (fun hb2 => ?_)
  ·have hF := (M.ite_some hF).1 hb2
   refine Zs ?_
   refine Run_ops ?_
   refine Zr [.agg #[iV 0, .slice none 0 0]] 0 ?_
   refine Ze ?_
   refine ZP 26 0 [iV 0, .slice none 0 0] (.agg #[iV 0, .slice none 0 0]) H10 (fun h7 H11 => ?_)
   refine Zr [iV 2] 2 ?_
   refine Zx ?_
   refine Zk [4, 5] [(4, pV b3), (5, iV 2)] ?_
   have hF := M.ret_some hF
   subst hF
   have H12 := H11.empty cd28
   have H13 : Hold h h7 [own cd28 none 0 0 []] := H12.pk [0]
   exact Run_ret2 rfl (ResV_cell (n := 2) (cs := [iV 0, .slice none 0 0]) (by kernel_rfl) (fun w => by kernel_rfl) (by kernel_rfl) rfl (H11.cells (n := 2) (off := 0) 0 rfl rfl)) (Zt (iV 2)) ⟨none, 0, rfl, H13⟩
  ·have hF := (M.ite_some hF).2 hb2
   refine Run_skip ?_
   refine Zs ?_
   refine Zs ?_
   refine Zg 4 [(2, pV b1), (3, pV b2), (4, pV b3), (19, .bool ((g.Places.length : Int) == 30))] ?_ ?_
   ·refine Zb [.pointer (some ⟨b1, 1, none⟩)] 0 ?_
    refine Zy (.slice agPlaces g.Places.length cgPlaces) (Zl 24 (⟨b1, 1, none⟩) (.slice agPlaces g.Places.length cgPlaces) (H10.cell 2 rfl rfl)) ?_
    refine Zb [iV (g.Places.length : Int), .bool ((g.Places.length : Int) == 30)] 2 ?_
    exact Zd [2, 3, 4, 19]
   refine Zc ((g.Places.length : Int) == 30) (fun hb3 => ?_) (fun hb3 => ?_)
   ·have hF := (M.ite_some hF).1 hb3
    refine Zs ?_
    refine Run_ops ?_
    refine Zr [.agg #[iV 0, .slice none 0 0]] 0 ?_
    refine Ze ?_
    refine ZP 26 0 [iV 0, .slice none 0 0] (.agg #[iV 0, .slice none 0 0]) H10 (fun h8 H14 => ?_)
    refine Zr [iV 3] 2 ?_
    refine Zx ?_
    refine Zk [4, 5] [(4, pV b3), (5, iV 3)] ?_
    have hF := M.ret_some hF
    subst hF
    have H15 := H14.empty cd28
    have H16 : Hold h h8 [own cd28 none 0 0 []] := H15.pk [0]
    exact Run_ret2 rfl (ResV_cell (n := 2) (cs := [iV 0, .slice none 0 0]) (by kernel_rfl) (fun w => by kernel_rfl) (by kernel_rfl) rfl (H14.cells (n := 2) (off := 0) 0 rfl rfl)) (Zt (iV 3)) ⟨none, 0, rfl, H16⟩
   ·have hF := (M.ite_some hF).2 hb3
    refine Run_skip ?_
    refine Zs ?_
    refine Run_ops ?_
    refine Zz (.agg #[iV g.Events, .slice agPlaces g.Places.length cgPlaces]) (Y_loadA (t := 26) (n := 2) (p := ⟨b1, 0, none⟩) (cs := [iV g.Events, .slice agPlaces g.Places.length cgPlaces]) (by kernel_rfl) (fun w => by kernel_rfl) (by kernel_rfl) rfl (H10.cells (n := 2) (off := 0) 2 rfl rfl)) ?_
    obtain ⟨x3, hx3, hF⟩ := M.bind_some hF
    refine Ze ?_
    refine ZC 25 #[.agg #[iV g.Events, .slice agPlaces g.Places.length cgPlaces]] (w_impl_cloneGraph h6 g agPlaces cgPlaces (rgPlaces.at H10.ext) _ _ hx3) (fun v1 h9 hp1 => ?_)
    obtain ⟨a1, c1, rfl, H17⟩ := hp1
    have H18 : Hold h h9 [own cd28 a1 x3.Places.length c1 x3.Places, box b3 26 [iV 0, .slice none 0 0], box b2 28 [iV p.From, iV p.To, iV p.Delay, iV p.Tokens], box b1 26 [iV g.Events, .slice agPlaces g.Places.length cgPlaces]] := H10.call H17 rfl
    refine Ze ?_
    refine E_box (ty := 26) (cs := [iV 0, .slice none 0 0]) H18 (fun w => by kernel_rfl) (fun b4 h10 H19 => ?_)
    refine Ze ?_
    refine ZP 26 0 [iV x3.Events, .slice a1 x3.Places.length c1] (.agg #[iV x3.Events, .slice a1 x3.Places.length c1]) H19 (fun h11 H20 => ?_)
    refine Zx ?_
    refine Zk [3, 4, 6] [(3, pV b2), (4, pV b3), (6, pV b4)] ?_
    refine Zs ?_
    refine Run_ops ?_
    refine Zr [.pointer (some ⟨b4, 1, none⟩)] 0 ?_
    refine Zz (.slice a1 x3.Places.length c1) (Zl 24 (⟨b4, 1, none⟩) (.slice a1 x3.Places.length c1) (H20.cell 0 rfl rfl)) ?_
    refine Zz (.agg #[iV p.From, iV p.To, iV p.Delay, iV p.Tokens]) (Y_loadA (t := 28) (n := 4) (p := ⟨b2, 0, none⟩) (cs := [iV p.From, iV p.To, iV p.Delay, iV p.Tokens]) (by kernel_rfl) (fun w => by kernel_rfl) (by kernel_rfl) rfl (H20.cells (n := 4) (off := 0) 3 rfl rfl)) ?_
    refine Ze ?_
    refine E_lit (C := cd28) (n := 1) (l := ([p] : List TPlace)) (cs := [iV p.From, iV p.To, iV p.Delay, iV p.Tokens]) H20 (fun w => by kernel_rfl) (Enc.consE (cd28_own (p : TPlace) _) (Enc.nil _ _) rfl) rfl (by decide) (fun a2 h12 H21 => ?_)
    obtain ⟨l1, hl1, hF⟩ := M.bind_some hF
    have hl1 := M.app_some hl1
    have H22 : Hold h h12 [own cd28 a1 x3.Places.length c1 x3.Places, own cd28 a2 1 1 ([p] : List TPlace), box b4 26 [iV x3.Events, .slice a1 x3.Places.length c1], box b3 26 [iV 0, .slice none 0 0], box b2 28 [iV p.From, iV p.To, iV p.Delay, iV p.Tokens], box b1 26 [iV g.Events, .slice agPlaces g.Places.length cgPlaces]] := H21.pk [2, 0, 1, 3, 4, 5]
    have H23 : Hold h h12 [own cd28 a2 1 1 ([p] : List TPlace), own cd28 a1 x3.Places.length c1 x3.Places, box b4 26 [iV x3.Events, .slice a1 x3.Places.length c1], box b3 26 [iV 0, .slice none 0 0], box b2 28 [iV p.From, iV p.To, iV p.Delay, iV p.Tokens], box b1 26 [iV g.Events, .slice agPlaces g.Places.length cgPlaces]] := H22.pk [1, 0, 2, 3, 4, 5]
    have H24 : Hold h h12 [own cd28 a1 x3.Places.length c1 x3.Places, own cd28 a2 1 1 ([p] : List TPlace), box b4 26 [iV x3.Events, .slice a1 x3.Places.length c1], box b3 26 [iV 0, .slice none 0 0], box b2 28 [iV p.From, iV p.To, iV p.Delay, iV p.Tokens], box b1 26 [iV g.Events, .slice agPlaces g.Places.length cgPlaces]] := H23.pk [1, 0, 2, 3, 4, 5]
    refine Ze ?_
    refine E_app (C := cd28) (t := 24) (ty := 24) (n := x3.Places.length) (m := 1) H24 cd28_ti rfl Tryd.underlying24 (by decide) (by kernel_rfl) hl1 (fun a3 c2 h13 H25 => ?_)
    refine Zr [.pointer (some ⟨b4, 1, none⟩)] 5 ?_
    have H27 : Hold h h13 [box b4 26 [iV x3.Events, .slice a1 x3.Places.length c1], own cd28 a3 l1.length c2 l1, box b3 26 [iV 0, .slice none 0 0], box b2 28 [iV p.From, iV p.To, iV p.Delay, iV p.Tokens], box b1 26 [iV g.Events, .slice agPlaces g.Places.length cgPlaces]] := H25.pk [1, 0, 2, 3, 4]
    refine Ze ?_
    refine ZP 24 1 [iV x3.Events, .slice a3 l1.length c2] (.slice a3 l1.length c2) H27 (fun h14 H26 => ?_)
    refine Zx ?_
    refine Zk [4, 6] [(4, pV b3), (6, pV b4)] ?_
    refine Zs ?_
    refine Run_ops ?_
    refine Zz (.agg #[iV x3.Events, .slice a3 l1.length c2]) (Y_loadA (t := 26) (n := 2) (p := ⟨b4, 0, none⟩) (cs := [iV x3.Events, .slice a3 l1.length c2]) (by kernel_rfl) (fun w => by kernel_rfl) (by kernel_rfl) rfl (H26.cells (n := 2) (off := 0) 0 rfl rfl)) ?_
    have H29 : Hold h h14 [box b3 26 [iV 0, .slice none 0 0], box b4 26 [iV x3.Events, .slice a3 l1.length c2], own cd28 a3 l1.length c2 l1, box b2 28 [iV p.From, iV p.To, iV p.Delay, iV p.Tokens], box b1 26 [iV g.Events, .slice agPlaces g.Places.length cgPlaces]] := H26.pk [2, 0, 1, 3, 4]
    refine Ze ?_
    refine ZP 26 0 [iV x3.Events, .slice a3 l1.length c2] (.agg #[iV x3.Events, .slice a3 l1.length c2]) H29 (fun h15 H28 => ?_)
    refine Zr [iV 0] 2 ?_
    refine Zx ?_
    refine Zk [4, 5] [(4, pV b3), (5, iV 0)] ?_
    have hF := M.ret_some hF
    subst hF
    have H30 : Hold h h15 [own cd28 a3 l1.length c2 l1, box b3 26 [iV x3.Events, .slice a3 l1.length c2], box b4 26 [iV x3.Events, .slice a3 l1.length c2], box b2 28 [iV p.From, iV p.To, iV p.Delay, iV p.Tokens], box b1 26 [iV g.Events, .slice agPlaces g.Places.length cgPlaces]] := H28.pk [2, 0, 1, 3, 4]
    have H31 : Hold h h15 [own cd28 a3 l1.length c2 l1] := H30.pk [0]
    exact Run_ret2 rfl (ResV_cell (n := 2) (cs := [iV x3.Events, .slice a3 l1.length c2]) (by kernel_rfl) (fun w => by kernel_rfl) (by kernel_rfl) rfl (H28.cells (n := 2) (off := 0) 0 rfl rfl)) (Zt (iV 0)) ⟨a3, c2, rfl, H31⟩

theorem w_spec_l01In (h : Heap) (n_ : Int) (low : Int) (high : Int) (n : Nat) (r : Bool) (hF : spec_l01In n_ low high n = some r) :
  Fn Tryd.prog 48 #[iV n_, iV low, iV high] h fun v h' => v = .bool r ∧ h' = h := by
 unfold spec_l01In at hF
 refine Zo [iV n_, iV low, iV high] Tryd.func48 rfl (fun w0 _ => ?_)
 refine Zs ?_
 refine Zq [.bool false] [0, 1, 2] [(0, iV n_), (1, iV low), (2, iV high)] ?_
 refine Zs ?_
 refine Zg 9 [(6, .bool ((decide (low ≤ n_)) && (decide (n_ ≤ high))))] ?_ ?_
 ·refine Zb [iV n_, iV low, .bool (decide (low ≤ n_))] 0 ?_
  refine QRun_seq 8 [(14, .bool ((decide (low ≤ n_)) && (decide (n_ ≤ high))))] ?_ ?_
  ·rcases Bool.eq_false_or_eq_true (decide (low ≤ n_)) with hb1 | hb1
   ·refine Zv (decide (low ≤ n_)) true hb1 ?_
    refine Zb [iV n_, iV high, .bool (decide (n_ ≤ high))] 4 ?_
    refine QRun_bool (decide (n_ ≤ high)) ((decide (low ≤ n_)) && (decide (n_ ≤ high))) (by kernel_rfl) (fun w => by kernel_rfl) (by rw [hb1]; rfl) ?_
    exact Zd [14]
   ·refine Zv (decide (low ≤ n_)) false hb1 ?_
    refine Zn ?_
    refine Zn ?_
    refine Zn ?_
    refine QRun_bool false ((decide (low ≤ n_)) && (decide (n_ ≤ high))) (by kernel_rfl) (fun w => by kernel_rfl) (by rw [hb1]; rfl) ?_
    exact Zd [14]
  refine Zb [.bool ((decide (low ≤ n_)) && (decide (n_ ≤ high)))] 8 ?_
  exact Zd [6]
 have hF := M.ret_some hF
 subst hF
 exact Run_ret1 rfl (Zt (.bool ((decide (low ≤ n_)) && (decide (n_ ≤ high))))) ⟨rfl, rfl⟩

theorem w_spec_l11Place (h : Heap) (p : TPlace) (events : Int) (n : Nat) (r : Bool) (hF : spec_l11Place p events n = some r) :
  Fn Tryd.prog 27 #[.agg #[iV p.From, iV p.To, iV p.Delay, iV p.Tokens], iV events] h fun v h' => v = .bool r ∧ Hold h h' [] := by
 unfold spec_l11Place at hF
 refine Zo [.agg #[iV p.From, iV p.To, iV p.Delay, iV p.Tokens], iV events] Tryd.func27 rfl (fun w0 _ => ?_)
 have H0 := Hold.init h
 refine Zs ?_
 refine Run_ops ?_
 refine Ze ?_
 refine E_box (ty := 28) (cs := [iV p.From, iV p.To, iV p.Delay, iV p.Tokens]) H0 (fun w => by kernel_rfl) (fun b1 h1 H1 => ?_)
 refine Zr [.bool false] 1 ?_
 refine Zx ?_
 refine Zk [1, 2] [(1, iV events), (2, pV b1)] ?_
 refine Zs ?_
 obtain ⟨x1, hx1, hF⟩ := M.bind_some hF
 obtain ⟨x2, gx2, hF⟩ := M.bind_some hF
 obtain ⟨x4, gx4, hF⟩ := M.bind_some hF
 obtain ⟨x6, gx6, hF⟩ := M.bind_some hF
 refine Zg 23 [(4, .bool x6)] ?_ ?_
 ·refine Zb [pV b1] 0 ?_
  refine Zy (iV p.From) (Zl 2 (⟨b1, 0, none⟩) (iV p.From) (H1.cell 0 rfl rfl)) ?_
  refine Zb [iV events, iV (w64 (events - 1))] 2 ?_
  refine Zy (.bool x1) (ZQ 48 #[iV p.From, iV 0, iV (w64 (events - 1))] (w_spec_l01In h1 p.From 0 (w64 (events - 1)) _ _ hx1)) ?_
  refine QRun_seq 12 [(2, pV b1), (16, .bool x2)] ?_ ?_
  ·rcases Bool.eq_false_or_eq_true x1 with hb1 | hb1
   ·refine Zv x1 true hb1 ?_
    have gx2 := (M.ite_some gx2).1 hb1
    obtain ⟨x3, hx2, gx2⟩ := M.bind_some gx2
    have gx2 := M.ret_some gx2
    refine Zb [.pointer (some ⟨b1, 1, none⟩)] 6 ?_
    refine Zy (iV p.To) (Zl 2 (⟨b1, 1, none⟩) (iV p.To) (H1.cell 0 rfl rfl)) ?_
    refine Zb [iV events, iV (w64 (events - 1))] 8 ?_
    refine Zy (.bool x3) (ZQ 48 #[iV p.To, iV 0, iV (w64 (events - 1))] (w_spec_l01In h1 p.To 0 (w64 (events - 1)) _ _ hx2)) ?_
    refine Zv x3 x2 gx2 ?_
    exact Zd [2, 16]
   ·refine Zv x1 false hb1 ?_
    have gx2 := M.ret_some ((M.ite_some gx2).2 hb1)
    refine Zn ?_
    refine Zn ?_
    refine Zn ?_
    refine Zn ?_
    refine Zn ?_
    refine Zv false x2 gx2 ?_
    exact Zd [2, 16]
  refine QRun_seq 17 [(2, pV b1), (21, .bool x4)] ?_ ?_
  ·rcases Bool.eq_false_or_eq_true x2 with hb2 | hb2
   ·refine Zv x2 true hb2 ?_
    have gx4 := (M.ite_some gx4).1 hb2
    obtain ⟨x5, hx3, gx4⟩ := M.bind_some gx4
    have gx4 := M.ret_some gx4
    refine Zb [.pointer (some ⟨b1, 2, none⟩)] 13 ?_
    refine Zy (iV p.Delay) (Zl 2 (⟨b1, 2, none⟩) (iV p.Delay) (H1.cell 0 rfl rfl)) ?_
    refine Zy (.bool x5) (ZQ 48 #[iV p.Delay, iV 0, iV 1000] (w_spec_l01In h1 p.Delay 0 1000 _ _ hx3)) ?_
    refine Zv x5 x4 gx4 ?_
    exact Zd [2, 21]
   ·refine Zv x2 false hb2 ?_
    have gx4 := M.ret_some ((M.ite_some gx4).2 hb2)
    refine Zn ?_
    refine Zn ?_
    refine Zn ?_
    refine Zv false x4 gx4 ?_
    exact Zd [2, 21]
  refine QRun_seq 22 [(26, .bool x6)] ?_ ?_
  ·rcases Bool.eq_false_or_eq_true x4 with hb3 | hb3
   ·refine Zv x4 true hb3 ?_
    have gx6 := (M.ite_some gx6).1 hb3
    obtain ⟨x7, hx4, gx6⟩ := M.bind_some gx6
    have gx6 := M.ret_some gx6
    refine Zb [.pointer (some ⟨b1, 3, none⟩)] 18 ?_
    refine Zy (iV p.Tokens) (Zl 2 (⟨b1, 3, none⟩) (iV p.Tokens) (H1.cell 0 rfl rfl)) ?_
    refine Zy (.bool x7) (ZQ 48 #[iV p.Tokens, iV 0, iV 5] (w_spec_l01In h1 p.Tokens 0 5 _ _ hx4)) ?_
    refine Zv x7 x6 gx6 ?_
    exact Zd [26]
   ·refine Zv x4 false hb3 ?_
    have gx6 := M.ret_some ((M.ite_some gx6).2 hb3)
    refine Zn ?_
    refine Zn ?_
    refine Zn ?_
    refine Zv false x6 gx6 ?_
    exact Zd [26]
  refine Zb [.bool x6] 22 ?_
  exact Zd [4]
 have hF := M.ret_some hF
 subst hF
 have H2 : Hold h h1 [] := H1.pk []
 exact Run_ret1 rfl (Zt (.bool x6)) ⟨rfl, H2⟩

theorem w_spec_IsEventGraph (h : Heap) (g : TGraph) (agPlaces : Option Addr) (cgPlaces : Nat) (rgPlaces : Rd cd28 h (Lt h) agPlaces cgPlaces g.Places) (n : Nat) (r : Bool) (hF : spec_IsEventGraph g n = some r) :
  Fn Tryd.prog 26 #[.agg #[iV g.Events, .slice agPlaces g.Places.length cgPlaces]] h fun v h' => v = .bool r ∧ Hold h h' [] := by
 unfold spec_IsEventGraph at hF
 refine Zo [.agg #[iV g.Events, .slice agPlaces g.Places.length cgPlaces]] Tryd.func26 rfl (fun w0 _ => ?_)
 have H0 := Hold.init h
 refine Zs ?_
 refine Run_ops ?_
 refine Ze ?_
 refine E_box (ty := 26) (cs := [iV g.Events, .slice agPlaces g.Places.length cgPlaces]) H0 (fun w => by kernel_rfl) (fun b1 h1 H1 => ?_)
 refine Zr [.bool false] 1 ?_
 refine Zx ?_
 refine Zk [1] [(1, pV b1)] ?_
 refine Zs ?_
 refine Zs ?_
 refine Zq [iV 0] [1, 3] [(1, pV b1), (3, iV 0)] ?_
 obtain ⟨x1, gx1, hF⟩ := M.bind_some hF
 refine Run_join (fun L' h' => ∃ (s2 : Int), x1 = .inl s2 ∧ L' = [(1, pV b1)] ∧ Hold h h' [box b1 26 [iV g.Events, .slice agPlaces g.Places.length cgPlaces]]) ?_ ?_
 ·rintro _ h3 ⟨s2, es2, rfl, H3⟩
  have hF := M.cont_inl' hF es2
  refine Zs ?_
  obtain ⟨x4, hx3, hF⟩ := M.bind_some hF
  refine Zg 10 [(2, .bool (x4 && (decide ((g.Places.length : Int) ≤ 30))))] ?_ ?_
  ·refine Zb [pV b1] 0 ?_
   refine Zy (iV g.Events) (Zl 2 (⟨b1, 0, none⟩) (iV g.Events) (H3.cell 0 rfl rfl)) ?_
   refine Zy (.bool x4) (ZQ 48 #[iV g.Events, iV 1, iV 10] (w_spec_l01In h3 g.Events 1 10 _ _ hx3)) ?_
   refine QRun_seq 9 [(28, .bool (x4 && (decide ((g.Places.length : Int) ≤ 30))))] ?_ ?_
   ·rcases Bool.eq_false_or_eq_true x4 with hb3 | hb3
    ·refine Zv x4 true hb3 ?_
     refine Zb [.pointer (some ⟨b1, 1, none⟩)] 4 ?_
     refine Zy (.slice agPlaces g.Places.length cgPlaces) (Zl 24 (⟨b1, 1, none⟩) (.slice agPlaces g.Places.length cgPlaces) (H3.cell 0 rfl rfl)) ?_
     refine Zb [iV (g.Places.length : Int), .bool (decide ((g.Places.length : Int) ≤ 30))] 6 ?_
     refine QRun_bool (decide ((g.Places.length : Int) ≤ 30)) (x4 && (decide ((g.Places.length : Int) ≤ 30))) (by kernel_rfl) (fun w => by kernel_rfl) (by rw [hb3]; rfl) ?_
     exact Zd [28]
    ·refine Zv x4 false hb3 ?_
     refine Zn ?_
     refine Zn ?_
     refine Zn ?_
     refine Zn ?_
     refine QRun_bool false (x4 && (decide ((g.Places.length : Int) ≤ 30))) (by kernel_rfl) (fun w => by kernel_rfl) (by rw [hb3]; rfl) ?_
     exact Zd [28]
   refine Zb [.bool (x4 && (decide ((g.Places.length : Int) ≤ 30)))] 9 ?_
   exact Zd [2]
  have hF := M.ret_some hF
  subst hF
  have H7 : Hold h h3 [] := H3.pk []
  exact Run_ret1 rfl (Zt (.bool (x4 && (decide ((g.Places.length : Int) ≤ 30))))) ⟨rfl, H7⟩
 ·refine Run_block ?_
  refine Zk [1, 3] [(1, pV b1), (3, iV 0)] ?_
  refine Run_loop (fun m L' h' => ∃ (s1 : Int), M.loopN _ n m s1 = some x1 ∧ L' = [(1, pV b1), (3, iV s1)] ∧ Hold h h' [box b1 26 [iV g.Events, .slice agPlaces g.Places.length cgPlaces]]) n ⟨0, gx1, rfl, H1⟩ ?_
  rintro my1 _ h2 ⟨s1, gx1, rfl, H2⟩
  obtain ⟨my1, y1, rfl, hB1, hgoy1, houty1⟩ := M.loop_some gx1
  refine Zs ?_
  refine Zs ?_
  refine Zg 5 [(1, pV b1), (3, iV s1), (8, .bool (decide (s1 < (g.Places.length : Int))))] ?_ ?_
  ·refine Zb [iV s1, .pointer (some ⟨b1, 1, none⟩)] 0 ?_
   refine Zy (.slice agPlaces g.Places.length cgPlaces) (Zl 24 (⟨b1, 1, none⟩) (.slice agPlaces g.Places.length cgPlaces) (H2.cell 0 rfl rfl)) ?_
   refine Zb [iV (g.Places.length : Int), .bool (decide (s1 < (g.Places.length : Int)))] 3 ?_
   exact Zd [1, 3, 8]
  refine Zc (decide (s1 < (g.Places.length : Int))) (fun hb1 => ?_) (fun hb1 => ?_)
  ·have hB1 := (M.ite_some hB1).1 hb1
   refine Run_skip ?_
   refine Zs ?_
   refine Run_block ?_
   refine Zs ?_
   obtain ⟨x2, hx1, hB1⟩ := M.bind_some hB1
   obtain ⟨hx1l, hx1u, hx1⟩ := M.idx_some hx1
   obtain ⟨x3, hx2, hB1⟩ := M.bind_some hB1
   refine Run_drawC (j := 9) (C := fun x => Hold h x [box b1 26 [iV g.Events, .slice agPlaces g.Places.length cgPlaces]]) mixed (by kernel_rfl) (by kernel_rfl) H2 (L' := [(1, pV b1), (3, iV s1), (19, .bool (!x3))]) ?_ (fun h4 H4 => ?_)
   ·refine Zb [.pointer (some ⟨b1, 1, none⟩)] 0 ?_
    refine Zy (.slice agPlaces g.Places.length cgPlaces) (Y_cls fun hx Hx => (Zl 24 (⟨b1, 1, none⟩) (.slice agPlaces g.Places.length cgPlaces) (Hx.cell 0 rfl rfl))) ?_
    refine Zb [iV s1] 2 ?_
    refine Zy (.pointer (some (adr agPlaces (s1.toNat * 4)))) (Y_cls fun hx Hx => (Zi 24 28 4 (agPlaces) (g.Places.length) (cgPlaces) .i64 (s1) Tryd.underlying24 ((rgPlaces.at H2.ext).cell hx1).1 hx1l hx1u)) ?_
    refine Zy (.agg #[iV x2.From, iV x2.To, iV x2.Delay, iV x2.Tokens]) (Y_cls fun hx Hx => (Y_loadA (t := 28) (n := 4) (p := adr agPlaces (s1.toNat * 4)) (cs := [iV x2.From, iV x2.To, iV x2.Delay, iV x2.Tokens]) (by kernel_rfl) (fun w => by kernel_rfl) (by kernel_rfl) rfl (cd28_elem (rgPlaces.at Hx.ext) hx1))) ?_
    refine Zb [pV b1] 5 ?_
    refine Zy (iV g.Events) (Y_cls fun hx Hx => (Zl 2 (⟨b1, 0, none⟩) (iV g.Events) (Hx.cell 0 rfl rfl))) ?_
    refine Zy (.bool x3) (Y_call (f := 27) (args := #[.agg #[iV x2.From, iV x2.To, iV x2.Delay, iV x2.Tokens], iV g.Events]) (v := .bool x3) (by kernel_rfl) fun hx Hx => (w_spec_l11Place hx x2 g.Events _ _ hx2).mono fun _ _ ⟨e, H'⟩ => ⟨e, Hx.call H' rfl⟩) ?_
    refine Zb [.bool (!x3)] 8 ?_
    exact Zd [1, 3, 19]
   have H5 := H4
   refine Zc (!x3) (fun hb2 => ?_) (fun hb2 => ?_)
   ·have hB1 := (M.ite_some hB1).1 hb2
    refine Zs ?_
    refine Zq [.bool false] [2] [(2, .bool false)] ?_
    have hB1 := M.ret_some hB1
    have gx1 := houty1 _ hB1.symm
    have hF := M.cont_inr' hF gx1
    have hF := M.ret_some hF
    subst hF
    have H6 : Hold h h4 [] := H5.pk []
    exact Run_ret1 rfl (Zt (.bool false)) ⟨rfl, H6⟩
   ·have hB1 := (M.ite_some hB1).2 hb2
    refine Run_skip ?_
    refine Run_blk ?_
    refine Zq [iV s1, iV (w64 (s1 + 1)), iV (w64 (s1 + 1))] [1, 3] [(1, pV b1), (3, iV (w64 (s1 + 1)))] ?_
    have hB1 := M.ret_some hB1
    have gx1 := hgoy1 _ hB1.symm
    exact Za [1, 3] my1 ⟨(w64 (s1 + 1)), gx1, rfl, H5⟩
  ·have hB1 := (M.ite_some hB1).2 hb1
   refine Run_exit (k' := _) rfl ?_
   have hB1 := M.ret_some hB1
   have gx1 := houty1 _ hB1.symm
   subst gx1
   exact Zf [1] ⟨s1, rfl, rfl, H2⟩

end Go.Proofs.YtfhphkiggdepaaaDoor
