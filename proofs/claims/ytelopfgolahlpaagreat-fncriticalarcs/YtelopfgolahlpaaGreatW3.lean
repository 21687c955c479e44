/-
  Walks: each Go function, called with what reads as plain data, returns what its plain program computes.
  Conditions: None beyond the given statement.
-/
import Derived.Test.YtelopfgolahlpaaGreatW2
namespace Go.Proofs.YtelopfgolahlpaaGreat
open Go
attribute [local irreducible] setL setB opA fineI idleI fineB evB okB markB markBs readyB readyBs chainB lk rho pickL dropSlot tailOK
set_option maxRecDepth 100000
set_option maxHeartbeats 4000000
theorem w_spec_DrawIsCriticalCycle (h : Heap) (code : List Int) (acode : Option Addr) (ccode : Nat) (rcode : Rd cd5 h (Lt h) acode ccode code) (n : Nat) (r : (List (List Int)) × (List Int)) (hF : spec_DrawIsCriticalCycle code n = some r) :
  Fn Tryz.prog 21 #[.slice acode code.length ccode] h fun v h' => ∃ (a0 : Option Addr) (c0 : Nat), ∃ (a1 : Option Addr) (c1 : Nat), v = .tuple #[.slice a0 r.1.length c0, .slice a1 r.2.length c1] ∧ Hold h h' [own cd24 a0 r.1.length c0 r.1, own cd2 a1 r.2.length c1 r.2] := by
 unfold spec_DrawIsCriticalCycle at hF
 refine Zo [.slice acode code.length ccode] Tryz.func21 rfl (fun w0 _ => ?_)
 have H0 := Hold.init h
 refine Zs ?_
 refine Zq [.slice none 0 0, .slice none 0 0] [0] [(0, .slice acode code.length ccode)] ?_
 refine Zs ?_
 refine Run_ops ?_
 refine Zr [.slice acode code.length ccode] 0 ?_
 obtain ⟨x1, hx1, hF⟩ := M.bind_some hF
 refine Ze ?_
 refine ZC 43 #[.slice acode code.length ccode] (w_spec_l01From h code acode ccode rcode _ _ hx1) (fun v1 h1 hp1 => ?_)
 obtain ⟨b1, a1, c1, rfl, hd1, H1⟩ := hp1
 have H2 : Hold h h1 [box b1 83 [.slice a1 x1.code.length c1, iV x1.at_, iV x1.seed]] := H0.call H1 rfl
 have r1 := rcode.alias hd1
 refine Zr [pV b1] 2 ?_
 refine Zx ?_
 refine Zk [4] [(4, pV b1)] ?_
 refine Zs ?_
 refine Run_ops ?_
 refine Zr [pV b1] 0 ?_
 obtain ⟨x2, hx2, hF⟩ := M.bind_some hF
 have H3 : Hold h h1 [box b1 83 [.slice a1 x1.code.length c1, iV x1.at_, iV x1.seed], bun []] := Hold.bundle (S := [box b1 83 [.slice a1 x1.code.length c1, iV x1.at_, iV x1.seed]]) (R := []) H2
 refine Ze ?_
 refine ZC 42 #[pV b1] (w_spec_l06Draw h h1 _ x1 b1 a1 c1 r1 H3 _ _ hx2) (fun v2 h2 hp2 => ?_)
 obtain ⟨a2, c2, rfl, H4⟩ := hp2
 have H5 : Hold h h2 [own cd24 a2 x2.1.length c2 x2.1, box b1 83 [.slice a1 x1.code.length c1, iV x2.2.at_, iV x2.2.seed]] := Hold.unbundle (S := [own cd24 a2 x2.1.length c2 x2.1, box b1 83 [.slice a1 x1.code.length c1, iV x2.2.at_, iV x2.2.seed]]) (R := []) H4 (Hold.tailBase (S := [box b1 83 [.slice a1 x1.code.length c1, iV x1.at_, iV x1.seed]]) (R := []) H2)
 refine Zr [.slice a2 x2.1.length c2] 2 ?_
 refine Zx ?_
 refine Zk [4, 5] [(4, pV b1), (5, .slice a2 x2.1.length c2)] ?_
 refine Zs ?_
 refine Run_ops ?_
 refine Zr [.slice a2 x2.1.length c2] 0 ?_
 obtain ⟨x3, hx3, hF⟩ := M.bind_some hF
 refine Ze ?_
 refine ZC 46 #[.slice a2 x2.1.length c2] (w_spec_BestCycle h2 x2.1 a2 c2 (H5.rd 0 rfl) _ _ hx3) (fun v3 h3 hp3 => ?_)
 obtain ⟨a3, c3, rfl, H6⟩ := hp3
 have H7 : Hold h h3 [own cd2 a3 x3.1.length c3 x3.1, own cd24 a2 x2.1.length c2 x2.1, box b1 83 [.slice a1 x1.code.length c1, iV x2.2.at_, iV x2.2.seed]] := H5.call H6 rfl
 refine Zr [.tuple #[.slice a3 x3.1.length c3, iV x3.2], .slice a3 x3.1.length c3, iV x3.2, .slice a3 x3.1.length c3, iV x3.2] 2 ?_
 refine Zx ?_
 refine Zk [4, 5, 6, 7] [(4, pV b1), (5, .slice a2 x2.1.length c2), (6, .slice a3 x3.1.length c3), (7, iV x3.2)] ?_
 refine Zs ?_
 refine Zs ?_
 obtain ⟨s1, gs1, hF⟩ := M.bind_some hF
 refine Run_join (fun L' h' => L' = [(4, pV b1), (5, .slice a2 x2.1.length c2), (6, .slice a3 x3.1.length c3), (24, .bool s1.2.2)] ∧ Hold h h' [box b1 83 [.slice a1 x1.code.length c1, iV s1.1, iV s1.2.1], own cd24 a2 x2.1.length c2 x2.1, own cd2 a3 x3.1.length c3 x3.1]) ?_ ?_
 ·rintro _ h5 ⟨rfl, H12⟩
  refine Zc (s1.2.2) (fun hb2 => ?_) (fun hb2 => ?_)
  ·have hF := (M.ite_some hF).1 hb2
   refine Zs ?_
   refine Run_ops ?_
   refine Zr [.slice a2 x2.1.length c2, pV b1, .slice a2 x2.1.length c2] 0 ?_
   obtain ⟨x5, hx5, hF⟩ := M.bind_some hF
   have H15 : Hold h h5 [own cd24 a2 x2.1.length c2 x2.1, box b1 83 [.slice a1 x1.code.length c1, iV s1.1, iV s1.2.1], own cd2 a3 x3.1.length c3 x3.1] := H12.pk [1, 0, 2]
   have H16 : Hold h h5 [box b1 83 [.slice a1 x1.code.length c1, iV s1.1, iV s1.2.1], own cd24 a2 x2.1.length c2 x2.1, own cd2 a3 x3.1.length c3 x3.1] := H15.pk [1, 0, 2]
   have H17 : Hold h h5 [box b1 83 [.slice a1 x1.code.length c1, iV s1.1, iV s1.2.1], own cd24 a2 x2.1.length c2 x2.1, bun [own cd2 a3 x3.1.length c3 x3.1]] := Hold.bundle (S := [box b1 83 [.slice a1 x1.code.length c1, iV s1.1, iV s1.2.1], own cd24 a2 x2.1.length c2 x2.1]) (R := [own cd2 a3 x3.1.length c3 x3.1]) H16
   refine Ze ?_
   refine ZC 48 #[pV b1, .slice a2 x2.1.length c2] (w_spec_l03DrawCycle h h5 _ (⟨x1.code, s1.1, s1.2.1⟩ : TL01source) b1 a1 c1 r1 x2.1 a2 c2 H17 _ _ hx5) (fun v5 h6 hp5 => ?_)
   obtain ⟨a4, c4, rfl, H18⟩ := hp5
   have H19 : Hold h h6 [own cd2 a4 x5.1.length c4 x5.1, box b1 83 [.slice a1 x1.code.length c1, iV x5.2.1.at_, iV x5.2.1.seed], own cd24 a2 x2.1.length c2 x5.2.2, own cd2 a3 x3.1.length c3 x3.1] := Hold.unbundle (S := [own cd2 a4 x5.1.length c4 x5.1, box b1 83 [.slice a1 x1.code.length c1, iV x5.2.1.at_, iV x5.2.1.seed], own cd24 a2 x2.1.length c2 x5.2.2]) (R := [own cd2 a3 x3.1.length c3 x3.1]) H18 (Hold.tailBase (S := [box b1 83 [.slice a1 x1.code.length c1, iV s1.1, iV s1.2.1], own cd24 a2 x2.1.length c2 x2.1]) (R := [own cd2 a3 x3.1.length c3 x3.1]) H16)
   refine Zr [.slice a2 x2.1.length c2, .slice a4 x5.1.length c4] 4 ?_
   refine Zx ?_
   refine Zk [2, 3] [(2, .slice a2 x2.1.length c2), (3, .slice a4 x5.1.length c4)] ?_
   have hF := M.ret_some hF
   subst hF
   have H20 : Hold h h6 [own cd24 a2 x2.1.length c2 x5.2.2, own cd2 a4 x5.1.length c4 x5.1, box b1 83 [.slice a1 x1.code.length c1, iV x5.2.1.at_, iV x5.2.1.seed], own cd2 a3 x3.1.length c3 x3.1] := H19.pk [2, 0, 1, 3]
   have H21 := H20.norm
   have H22 : Hold h h6 [own cd2 a4 x5.1.length c4 x5.1, own cd24 a2 x5.2.2.length c2 x5.2.2, box b1 83 [.slice a1 x1.code.length c1, iV x5.2.1.at_, iV x5.2.1.seed], own cd2 a3 x3.1.length c3 x3.1] := H21.pk [1, 0, 2, 3]
   have H23 : Hold h h6 [own cd24 a2 x5.2.2.length c2 x5.2.2, own cd2 a4 x5.1.length c4 x5.1] := H22.pk [1, 0]
   exact Run_ret2 rfl (Zt (.slice a2 x2.1.length c2)) (Zt (.slice a4 x5.1.length c4)) ⟨a2, c2, a4, c4, (by simp only [(H20.len 0 rfl)]), H23⟩
  ·have hF := (M.ite_some hF).2 hb2
   refine Run_skip ?_
   refine Zs ?_
   refine Run_ops ?_
   refine Zr [pV b1, .slice a3 x3.1.length c3, iV (x3.1.length : Int)] 0 ?_
   obtain ⟨x6, hx6, hF⟩ := M.bind_some hF
   have H24 : Hold h h5 [box b1 83 [.slice a1 x1.code.length c1, iV s1.1, iV s1.2.1], bun [own cd24 a2 x2.1.length c2 x2.1, own cd2 a3 x3.1.length c3 x3.1]] := Hold.bundle (S := [box b1 83 [.slice a1 x1.code.length c1, iV s1.1, iV s1.2.1]]) (R := [own cd24 a2 x2.1.length c2 x2.1, own cd2 a3 x3.1.length c3 x3.1]) H12
   refine Ze ?_
   refine ZC 47 #[pV b1, iV (x3.1.length : Int)] (w_spec_l01Next h h5 _ (⟨x1.code, s1.1, s1.2.1⟩ : TL01source) b1 a1 c1 r1 (x3.1.length : Int) H24 _ _ hx6) (fun v6 h7 hp6 => ?_)
   obtain ⟨rfl, H25⟩ := hp6
   have H26 : Hold h h7 [box b1 83 [.slice a1 x1.code.length c1, iV x6.2.at_, iV x6.2.seed], own cd24 a2 x2.1.length c2 x2.1, own cd2 a3 x3.1.length c3 x3.1] := Hold.unbundle (S := [box b1 83 [.slice a1 x1.code.length c1, iV x6.2.at_, iV x6.2.seed]]) (R := [own cd24 a2 x2.1.length c2 x2.1, own cd2 a3 x3.1.length c3 x3.1]) H25 (Hold.tailBase (S := [box b1 83 [.slice a1 x1.code.length c1, iV s1.1, iV s1.2.1]]) (R := [own cd24 a2 x2.1.length c2 x2.1, own cd2 a3 x3.1.length c3 x3.1]) H12)
   refine Zr [iV x6.1] 4 ?_
   refine Zx ?_
   refine Zk [5, 6, 8] [(5, .slice a2 x2.1.length c2), (6, .slice a3 x3.1.length c3), (8, iV x6.1)] ?_
   refine Zs ?_
   obtain ⟨x7, hx7, hF⟩ := M.bind_some hF
   obtain ⟨hx7a, hx7b, hx7c, hx7d⟩ := M.sub_some hx7
   have hn1 : x7.length = (x3.1.length : Int).toNat - (x6.1 : Int).toNat := by rw [hx7d, List.length_take, List.length_drop]; omega
   obtain ⟨x8, hx8, hF⟩ := M.bind_some hF
   obtain ⟨hx8a, hx8b, hx8c, hx8d⟩ := M.sub_some hx8
   have hn2 : x8.length = x6.1.toNat - (0 : Int).toNat := by rw [hx8d, List.length_take, List.length_drop]; omega
   refine Run_D (fun x => Hold h x [box b1 83 [.slice a1 x1.code.length c1, iV x6.2.at_, iV x6.2.seed], own cd24 a2 x2.1.length c2 x2.1, own cd2 a3 x3.1.length c3 x3.1]) (fun x => Hold h x [box b1 83 [.slice a1 x1.code.length c1, iV x6.2.at_, iV x6.2.seed], own cd24 a2 x2.1.length c2 x2.1, own cd2 a3 x3.1.length c3 x3.1]) mixed (by kernel_rfl) H26 Hold.stable (fun x Hy => (show Hold h x [box b1 83 [.slice a1 x1.code.length c1, iV x6.2.at_, iV x6.2.seed], own cd24 a2 x2.1.length c2 x2.1, own cd2 a3 x3.1.length c3 x3.1] from Hy).pk [0, 1, 2]) ?_
   refine ZB 8 [.slice a2 x2.1.length c2, .slice a3 x3.1.length c3, iV x6.1] 0 ?_
   refine ZY 7 3 (.slice (sliceA a3 c3 x6.1.toNat 1) ((x3.1.length : Int).toNat - (x6.1 : Int).toNat) (c3 - x6.1.toNat)) (fun hx Hx => (YE.of (Y_slice (t := 24) (e := 2) (sz := 1) (a := a3) (n := x3.1.length) (cap := c3) (lo := (some (.i64, x6.1))) (hi := none) (x := x6.1) (y := (x3.1.length : Int)) (by kernel_rfl) Tryz.underlying24 (by kernel_rfl) (Hx.rd 2 rfl).fits rfl rfl hx7a hx7b hx7c))) ?_
   refine ZB 5 [.slice a3 x3.1.length c3, iV x6.1] 5 ?_
   refine ZY 4 7 (.slice (sliceA a3 c3 0 1) (x6.1.toNat - (0 : Int).toNat) (c3 - 0)) (fun hx Hx => (YE.of (Y_slice (t := 24) (e := 2) (sz := 1) (a := a3) (n := x3.1.length) (cap := c3) (lo := none) (hi := (some (.i64, x6.1))) (x := 0) (y := x6.1) (by kernel_rfl) Tryz.underlying24 (by kernel_rfl) (Hx.rd 2 rfl).fits rfl rfl hx8a hx8b hx8c))) ?_
   refine ZE 3 4 (fun h8 H27 => ?_)
   have H28 : Hold h h8 [box b1 83 [.slice a1 x1.code.length c1, iV x6.2.at_, iV x6.2.seed], own cd24 a2 x2.1.length c2 x2.1, own cd2 a3 x3.1.length c3 x3.1] := H27
   obtain ⟨x9, hx9, hF⟩ := M.bind_some hF
   refine ZC 49 #[.slice (sliceA a3 c3 x6.1.toNat 1) ((x3.1.length : Int).toNat - (x6.1 : Int).toNat) (c3 - x6.1.toNat)] (Fn.arg (w_spec_l01Own h8 x7 (sliceA a3 c3 x6.1.toNat 1) (c3 - x6.1.toNat) (show Rd _ _ _ _ _ x7 from hx7d ▸ ((H28.rd 2 rfl)).sub (by omega) (by omega)) _ _ hx9) (by simp only [hn1])) (fun v7 h9 hp7 => ?_)
   obtain ⟨a5, c5, rfl, H29⟩ := hp7
   have H30 : Hold h h9 [own cd2 a5 x9.length c5 x9, box b1 83 [.slice a1 x1.code.length c1, iV x6.2.at_, iV x6.2.seed], own cd24 a2 x2.1.length c2 x2.1, own cd2 a3 x3.1.length c3 x3.1] := H28.call H29 rfl
   refine ⟨fun x => Hold h x [box b1 83 [.slice a1 x1.code.length c1, iV x6.2.at_, iV x6.2.seed], own cd24 a2 x2.1.length c2 x2.1, own cd2 a3 x3.1.length c3 x3.1], fun x => Hold h x [own cd2 a5 x9.length c5 x9, box b1 83 [.slice a1 x1.code.length c1, iV x6.2.at_, iV x6.2.seed], own cd24 a2 x2.1.length c2 x2.1, own cd2 a3 x3.1.length c3 x3.1], H30, Hold.stable, fun x Hy => (show Hold h x [own cd2 a5 x9.length c5 x9, box b1 83 [.slice a1 x1.code.length c1, iV x6.2.at_, iV x6.2.seed], own cd24 a2 x2.1.length c2 x2.1, own cd2 a3 x3.1.length c3 x3.1] from Hy).pk [1, 2, 3], fun x Hy => (show Hold h x [box b1 83 [.slice a1 x1.code.length c1, iV x6.2.at_, iV x6.2.seed], own cd24 a2 x2.1.length c2 x2.1, own cd2 a3 x3.1.length c3 x3.1] from Hy).pk [0, 1, 2], ?_⟩
   refine ZE 2 8 (fun h10 H31 => ?_)
   have H32 : Hold h h10 [own cd2 a5 x9.length c5 x9, box b1 83 [.slice a1 x1.code.length c1, iV x6.2.at_, iV x6.2.seed], own cd24 a2 x2.1.length c2 x2.1, own cd2 a3 x3.1.length c3 x3.1] := H31
   obtain ⟨l1, hl1, hF⟩ := M.bind_some hF
   have hl1 := M.app_some hl1
   refine E_appR (C := cd2) (t := 24) (ty := 24) (n := x9.length) (m := x6.1.toNat - (0 : Int).toNat) H32 cd2_copies (show Rd _ _ _ _ _ x8 from hx8d ▸ ((H32.rd 3 rfl)).sub (by omega) (by omega)) hn2 cd2_ti rfl Tryz.underlying24 (by decide) (by kernel_rfl) hl1 (fun a6 c6 h11 H33 => ?_)
   refine ⟨fun x => Hold h x [box b1 83 [.slice a1 x1.code.length c1, iV x6.2.at_, iV x6.2.seed], own cd24 a2 x2.1.length c2 x2.1, own cd2 a3 x3.1.length c3 x3.1, own cd2 a6 l1.length c6 l1], fun x => Hold h x [own cd2 a6 l1.length c6 l1, box b1 83 [.slice a1 x1.code.length c1, iV x6.2.at_, iV x6.2.seed], own cd24 a2 x2.1.length c2 x2.1, own cd2 a3 x3.1.length c3 x3.1], H33, Hold.stable, fun x Hy => (show Hold h x [own cd2 a6 l1.length c6 l1, box b1 83 [.slice a1 x1.code.length c1, iV x6.2.at_, iV x6.2.seed], own cd24 a2 x2.1.length c2 x2.1, own cd2 a3 x3.1.length c3 x3.1] from Hy).pk [1, 2, 3, 0], fun x Hy => (show Hold h x [box b1 83 [.slice a1 x1.code.length c1, iV x6.2.at_, iV x6.2.seed], own cd24 a2 x2.1.length c2 x2.1, own cd2 a3 x3.1.length c3 x3.1, own cd2 a6 l1.length c6 l1] from Hy).pk [0, 1, 2], ?_⟩
   refine ZB 0 [.slice a2 x2.1.length c2, .slice a6 l1.length c6] 9 ?_
   refine ZT 11 (fun h12 H34 => ?_)
   have H35 : Hold h h12 [own cd2 a6 l1.length c6 l1, box b1 83 [.slice a1 x1.code.length c1, iV x6.2.at_, iV x6.2.seed], own cd24 a2 x2.1.length c2 x2.1, own cd2 a3 x3.1.length c3 x3.1] := H34
   refine Zx ?_
   refine Zk [2, 3] [(2, .slice a2 x2.1.length c2), (3, .slice a6 l1.length c6)] ?_
   have hF := M.ret_some hF
   subst hF
   have H36 : Hold h h12 [own cd24 a2 x2.1.length c2 x2.1, own cd2 a6 l1.length c6 l1, box b1 83 [.slice a1 x1.code.length c1, iV x6.2.at_, iV x6.2.seed], own cd2 a3 x3.1.length c3 x3.1] := H35.pk [2, 0, 1, 3]
   have H37 : Hold h h12 [own cd2 a6 l1.length c6 l1, own cd24 a2 x2.1.length c2 x2.1, box b1 83 [.slice a1 x1.code.length c1, iV x6.2.at_, iV x6.2.seed], own cd2 a3 x3.1.length c3 x3.1] := H36.pk [1, 0, 2, 3]
   have H38 : Hold h h12 [own cd24 a2 x2.1.length c2 x2.1, own cd2 a6 l1.length c6 l1] := H37.pk [1, 0]
   exact Run_ret2 rfl (Zt (.slice a2 x2.1.length c2)) (Zt (.slice a6 l1.length c6)) ⟨a2, c2, a6, c6, rfl, H38⟩
 ·refine Run_ops ?_
  refine Zr [iV x3.2, .bool (x3.2 != 0)] 0 ?_
  rcases Bool.eq_false_or_eq_true (x3.2 != 0) with hb1 | hb1
  ·have gs1 := (M.ite_some gs1).1 hb1
   refine Run_q1 7 (L' := [(4, pV b1), (5, .slice a2 x2.1.length c2), (6, .slice a3 x3.1.length c3), (24, .bool true)]) ?_ ?_
   ·refine Zv (x3.2 != 0) true hb1 ?_
    refine Zn ?_
    refine Zn ?_
    refine Zn ?_
    refine Zv true true rfl ?_
    exact Zd [4, 5, 6, 24]
   refine Zx ?_
   refine Zk [4, 5, 6, 24] [(4, pV b1), (5, .slice a2 x2.1.length c2), (6, .slice a3 x3.1.length c3), (24, .bool true)] ?_
   have H14 : Hold h h3 [box b1 83 [.slice a1 x1.code.length c1, iV x2.2.at_, iV x2.2.seed], own cd24 a2 x2.1.length c2 x2.1, own cd2 a3 x3.1.length c3 x3.1] := H7.pk [2, 1, 0]
   have gs1 := M.ret_some gs1
   subst gs1
   exact Zf [4, 5, 6, 24] ⟨rfl, H14⟩
  ·have gs1 := (M.ite_some gs1).2 hb1
   refine Run_q1 3 (L' := [(4, pV b1), (5, .slice a2 x2.1.length c2), (6, .slice a3 x3.1.length c3), (7, iV x3.2), (18, iV x3.2), (19, .bool (x3.2 != 0)), (20, .bool false)]) ?_ ?_
   ·refine Zv (x3.2 != 0) false hb1 ?_
    exact Zd [4, 5, 6, 7, 18, 19, 20]
   refine Zr [pV b1] 3 ?_
   obtain ⟨x4, hx4, gs1⟩ := M.bind_some gs1
   have H8 : Hold h h3 [box b1 83 [.slice a1 x1.code.length c1, iV x2.2.at_, iV x2.2.seed], own cd2 a3 x3.1.length c3 x3.1, own cd24 a2 x2.1.length c2 x2.1] := H7.pk [2, 0, 1]
   have H9 : Hold h h3 [box b1 83 [.slice a1 x1.code.length c1, iV x2.2.at_, iV x2.2.seed], bun [own cd2 a3 x3.1.length c3 x3.1, own cd24 a2 x2.1.length c2 x2.1]] := Hold.bundle (S := [box b1 83 [.slice a1 x1.code.length c1, iV x2.2.at_, iV x2.2.seed]]) (R := [own cd2 a3 x3.1.length c3 x3.1, own cd24 a2 x2.1.length c2 x2.1]) H8
   refine Ze ?_
   refine ZC 47 #[pV b1, iV 2] (w_spec_l01Next h h3 _ (⟨x1.code, x2.2.at_, x2.2.seed⟩ : TL01source) b1 a1 c1 r1 2 H9 _ _ hx4) (fun v4 h4 hp4 => ?_)
   obtain ⟨rfl, H10⟩ := hp4
   have H11 : Hold h h4 [box b1 83 [.slice a1 x1.code.length c1, iV x4.2.at_, iV x4.2.seed], own cd2 a3 x3.1.length c3 x3.1, own cd24 a2 x2.1.length c2 x2.1] := Hold.unbundle (S := [box b1 83 [.slice a1 x1.code.length c1, iV x4.2.at_, iV x4.2.seed]]) (R := [own cd2 a3 x3.1.length c3 x3.1, own cd24 a2 x2.1.length c2 x2.1]) H10 (Hold.tailBase (S := [box b1 83 [.slice a1 x1.code.length c1, iV x2.2.at_, iV x2.2.seed]]) (R := [own cd2 a3 x3.1.length c3 x3.1, own cd24 a2 x2.1.length c2 x2.1]) H8)
   refine Zr [.bool (x4.1 == 0)] 5 ?_
   refine Zr [.bool (x4.1 == 0)] 6 ?_
   refine Zx ?_
   refine Zk [4, 5, 6, 24] [(4, pV b1), (5, .slice a2 x2.1.length c2), (6, .slice a3 x3.1.length c3), (24, .bool (x4.1 == 0))] ?_
   have H13 : Hold h h4 [box b1 83 [.slice a1 x1.code.length c1, iV x4.2.at_, iV x4.2.seed], own cd24 a2 x2.1.length c2 x2.1, own cd2 a3 x3.1.length c3 x3.1] := H11.pk [0, 2, 1]
   have gs1 := M.ret_some gs1
   subst gs1
   exact Zf [4, 5, 6, 24] ⟨rfl, H13⟩

theorem w_impl_isNode (h : Heap) (a_ : List (List Int)) {Sa_ : Bs} (aa_ : Option Addr) (ca_ : Nat) (ra_ : Rd cd24 h Sa_ aa_ ca_ a_) (node : Int) (n : Nat) (r : Bool) (hF : impl_isNode a_ node n = some r) :
  Fn Tryz.prog 87 #[.slice aa_ a_.length ca_, iV node] h fun v h' => v = .bool r ∧ h' = h := by
 unfold impl_isNode at hF
 refine Zo [.slice aa_ a_.length ca_, iV node] Tryz.func87 rfl (fun w0 _ => ?_)
 refine Zs ?_
 refine Zq [.bool false] [0, 1] [(0, .slice aa_ a_.length ca_), (1, iV node)] ?_
 refine Zs ?_
 obtain ⟨x1, hx1, hF⟩ := M.bind_some hF
 refine Zg 6 [(4, .bool x1)] ?_ ?_
 ·refine Zb [iV node, .slice aa_ a_.length ca_, iV (a_.length : Int), iV (w64 ((a_.length : Int) - 1))] 0 ?_
  refine Zy (.bool x1) (ZQ 128 #[iV node, iV 0, iV (w64 ((a_.length : Int) - 1))] (w_impl_within h node 0 (w64 ((a_.length : Int) - 1)) _ _ hx1)) ?_
  refine Zb [.bool x1] 5 ?_
  exact Zd [4]
 have hF := M.ret_some hF
 subst hF
 exact Run_ret1 rfl (Zt (.bool x1)) ⟨rfl, rfl⟩

theorem w_slices_Index_int (h : Heap) (s_ : List Int) {Ss_ : Bs} (as_ : Option Addr) (cs_ : Nat) (rs_ : Rd cd2 h Ss_ as_ cs_ s_) (v_ : Int) (n : Nat) (r : Int) (hF : slices_Index_int s_ v_ n = some r) :
  Fn Tryz.prog 131 #[.slice as_ s_.length cs_, iV v_] h fun v h' => v = iV r ∧ h' = h := by
 unfold slices_Index_int at hF
 refine Zo [.slice as_ s_.length cs_, iV v_] Tryz.func131 rfl (fun w0 _ => ?_)
 refine Zs ?_
 refine Zq [iV 0] [0, 1] [(0, .slice as_ s_.length cs_), (1, iV v_)] ?_
 refine Zs ?_
 refine Zs ?_
 refine Zq [.slice as_ s_.length cs_, iV (s_.length : Int), iV 0] [0, 1, 7, 8] [(0, .slice as_ s_.length cs_), (1, iV v_), (7, iV (s_.length : Int)), (8, iV 0)] ?_
 obtain ⟨x1, gx1, hF⟩ := M.bind_some hF
 obtain ⟨hloy1, hhiy1, gx1⟩ := M.for_start gx1
 refine Run_join (fun L' h' => ∃ (s2 : Unit), x1 = .inl s2 ∧ L' = [] ∧ h = h') ?_ ?_
 ·rintro _ _ ⟨s2, es2, rfl, rfl⟩
  have hF := M.cont_inl' hF es2
  refine Zs ?_
  refine Zq [iV (-1)] [4] [(4, iV (-1))] ?_
  have hF := M.ret_some hF
  subst hF
  exact Run_ret1 rfl (Zt (iV (-1))) ⟨rfl, rfl⟩
 ·refine Run_block ?_
  refine Zk [0, 1, 7, 8] [(0, .slice as_ s_.length cs_), (1, iV v_), (7, iV (s_.length : Int)), (8, iV 0)] ?_
  refine Run_loop (fun m L' h' => ∃ (i1 : Int) (s1 : Unit), 0 ≤ i1 ∧ M.forN (s_.length : Int) _ _ n m i1 s1 = some x1 ∧ L' = [(0, .slice as_ s_.length cs_), (1, iV v_), (7, iV (s_.length : Int)), (8, iV i1)] ∧ h = h') ((s_.length : Int) - 0 : Int).toNat ⟨0, (), Int.le_refl _, gx1, rfl, rfl⟩ ?_
  rintro my1 _ _ ⟨i1, s1, hloy1', gx1, rfl, rfl⟩
  refine Zs ?_
  refine Zq [.bool (decide (i1 < (s_.length : Int)))] [0, 1, 7, 8, 9] [(0, .slice as_ s_.length cs_), (1, iV v_), (7, iV (s_.length : Int)), (8, iV i1), (9, .bool (decide (i1 < (s_.length : Int))))] ?_
  refine Zs ?_
  refine Zc (decide (i1 < (s_.length : Int))) (fun hb1 => ?_) (fun hb1 => ?_)
  ·obtain ⟨my1, y1, rfl, hB1, hgoy1, houty1⟩ := M.for_go gx1 hb1
   have hlty1 := of_decide_eq_true hb1
   refine Run_skip ?_
   refine Zs ?_
   refine Run_block ?_
   refine Zs ?_
   refine Zq [iV i1, iV i1] [0, 1, 5, 7, 8] [(0, .slice as_ s_.length cs_), (1, iV v_), (5, iV i1), (7, iV (s_.length : Int)), (8, iV i1)] ?_
   refine Zs ?_
   obtain ⟨x2, hx1, hB1⟩ := M.bind_some hB1
   obtain ⟨hx1l, hx1u, hx1⟩ := M.idx_some hx1
   refine Zg 6 [(0, .slice as_ s_.length cs_), (1, iV v_), (5, iV i1), (7, iV (s_.length : Int)), (8, iV i1), (16, .bool (v_ == x2))] ?_ ?_
   ·refine Zb [iV v_, .slice as_ s_.length cs_, iV i1] 0 ?_
    refine Zy (.pointer (some (adr as_ (i1.toNat * 1)))) (Zi 24 2 1 (as_) (s_.length) (cs_) .i64 (i1) Tryz.underlying24 (rs_.cell hx1).1 hx1l hx1u) ?_
    refine Zy (iV x2) (Zl 2 (adr as_ (i1.toNat * 1)) (iV x2) (cd2_cell rs_ hx1)) ?_
    refine Zb [.bool (v_ == x2)] 5 ?_
    exact Zd [0, 1, 5, 7, 8, 16]
   refine Zc (v_ == x2) (fun hb2 => ?_) (fun hb2 => ?_)
   ·have hB1 := (M.ite_some hB1).1 hb2
    refine Zs ?_
    refine Zq [iV i1, iV i1] [4] [(4, iV i1)] ?_
    have hB1 := M.ret_some hB1
    have gx1 := houty1 _ hB1.symm
    have hF := M.cont_inr' hF gx1
    have hF := M.ret_some hF
    subst hF
    exact Run_ret1 rfl (Zt (iV i1)) ⟨rfl, rfl⟩
   ·have hB1 := (M.ite_some hB1).2 hb2
    refine Run_skip ?_
    refine Run_blk ?_
    refine Zg 2 [(0, .slice as_ s_.length cs_), (1, iV v_), (7, iV (s_.length : Int)), (8, iV (i1 + 1))] ?_ ?_
    ·refine Zy (iV (i1 + 1)) (Y_eq (v := iV (w64 (i1 + 1))) (Y_pure (fun w => by kernel_rfl)) (by rw [w64_eq _ (by omega)])) ?_
     refine Zb [iV (i1 + 1)] 1 ?_
     exact Zd [0, 1, 7, 8]
    have hB1 := M.ret_some hB1
    have gx1 := hgoy1 _ hB1.symm
    exact Za [0, 1, 7, 8] my1 ⟨i1 + 1, (), by omega, gx1, rfl, rfl⟩
  ·have gx1 := M.for_end gx1 hb1
   subst gx1
   refine Run_exit (k' := _) rfl ?_
   exact Zf [] ⟨(), rfl, rfl, rfl⟩

theorem w_slices_Contains_int (h : Heap) (s_ : List Int) {Ss_ : Bs} (as_ : Option Addr) (cs_ : Nat) (rs_ : Rd cd2 h Ss_ as_ cs_ s_) (v_ : Int) (n : Nat) (r : Bool) (hF : slices_Contains_int s_ v_ n = some r) :
  Fn Tryz.prog 88 #[.slice as_ s_.length cs_, iV v_] h fun v h' => v = .bool r ∧ h' = h := by
 unfold slices_Contains_int at hF
 refine Zo [.slice as_ s_.length cs_, iV v_] Tryz.func88 rfl (fun w0 _ => ?_)
 refine Zs ?_
 refine Zq [.bool false] [0, 1] [(0, .slice as_ s_.length cs_), (1, iV v_)] ?_
 refine Zs ?_
 obtain ⟨x1, hx1, hF⟩ := M.bind_some hF
 refine Zg 5 [(4, .bool (decide (0 ≤ x1)))] ?_ ?_
 ·refine Zb [.slice as_ s_.length cs_, iV v_] 0 ?_
  refine Zy (iV x1) (ZQ 131 #[.slice as_ s_.length cs_, iV v_] (w_slices_Index_int h s_ as_ cs_ rs_ v_ _ _ hx1)) ?_
  refine Zb [.bool (decide (0 ≤ x1)), .bool (decide (0 ≤ x1))] 3 ?_
  exact Zd [4]
 have hF := M.ret_some hF
 subst hF
 exact Run_ret1 rfl (Zt (.bool (decide (0 ≤ x1)))) ⟨rfl, rfl⟩

theorem w_impl_cycleWeight (h : Heap) (a_ : List (List Int)) {Sa_ : Bs} (aa_ : Option Addr) (ca_ : Nat) (ra_ : Rd cd24 h Sa_ aa_ ca_ a_) (cycle : List Int) {Scycle : Bs} (acycle : Option Addr) (ccycle : Nat) (rcycle : Rd cd2 h Scycle acycle ccycle cycle) (n : Nat) (r : Int × Bool) (hF : impl_cycleWeight a_ cycle n = some r) :
  Fn Tryz.prog 52 #[.slice aa_ a_.length ca_, .slice acycle cycle.length ccycle] h fun v h' => v = .tuple #[iV r.1, .bool r.2] ∧ h' = h := by
 unfold impl_cycleWeight at hF
 refine Zo [.slice aa_ a_.length ca_, .slice acycle cycle.length ccycle] Tryz.func52 rfl (fun w0 _ => ?_)
 refine Zs ?_
 refine Zq [iV 0, .bool false] [0, 1] [(0, .slice aa_ a_.length ca_), (1, .slice acycle cycle.length ccycle)] ?_
 refine Zs ?_
 refine Zs ?_
 refine Zq [.slice acycle cycle.length ccycle, iV (cycle.length : Int), .bool ((cycle.length : Int) == 0)] [0, 1, 12] [(0, .slice aa_ a_.length ca_), (1, .slice acycle cycle.length ccycle), (12, .bool ((cycle.length : Int) == 0))] ?_
 refine Zc ((cycle.length : Int) == 0) (fun hb1 => ?_) (fun hb1 => ?_)
 ·have hF := (M.ite_some hF).1 hb1
  refine Zs ?_
  refine Zq [iV 0, .bool false] [4, 5] [(4, iV 0), (5, .bool false)] ?_
  have hF := M.ret_some hF
  subst hF
  exact Run_ret2 rfl (Zt (iV 0)) (Zt (.bool false)) ⟨rfl, rfl⟩
 ·have hF := (M.ite_some hF).2 hb1
  refine Run_skip ?_
  refine Zs ?_
  refine Zq [iV 0] [0, 1, 6] [(0, .slice aa_ a_.length ca_), (1, .slice acycle cycle.length ccycle), (6, iV 0)] ?_
  refine Zs ?_
  obtain ⟨x1, hx1, hF⟩ := M.bind_some hF
  obtain ⟨hx1l, hx1u, hx1⟩ := M.idx_some hx1
  refine Zg 7 [(0, .slice aa_ a_.length ca_), (1, .slice acycle cycle.length ccycle), (6, iV 0), (7, iV x1)] ?_ ?_
  ·refine Zb [.slice acycle cycle.length ccycle, .slice acycle cycle.length ccycle, iV (cycle.length : Int), iV (w64 ((cycle.length : Int) - 1))] 0 ?_
   refine Zy (.pointer (some (adr acycle ((w64 ((cycle.length : Int) - 1)).toNat * 1)))) (Zi 24 2 1 (acycle) (cycle.length) (ccycle) .i64 (w64 ((cycle.length : Int) - 1)) Tryz.underlying24 (rcycle.cell hx1).1 hx1l hx1u) ?_
   refine Zy (iV x1) (Zl 2 (adr acycle ((w64 ((cycle.length : Int) - 1)).toNat * 1)) (iV x1) (cd2_cell rcycle hx1)) ?_
   refine Zb [iV x1] 6 ?_
   exact Zd [0, 1, 6, 7]
  refine Zs ?_
  refine Zs ?_
  refine Zq [.slice acycle cycle.length ccycle, iV (cycle.length : Int), iV 0] [0, 1, 6, 7, 19, 20, 21] [(0, .slice aa_ a_.length ca_), (1, .slice acycle cycle.length ccycle), (6, iV 0), (7, iV x1), (19, .slice acycle cycle.length ccycle), (20, iV (cycle.length : Int)), (21, iV 0)] ?_
  obtain ⟨x2, gx2, hF⟩ := M.bind_some hF
  obtain ⟨hloy1, hhiy1, gx2⟩ := M.for_start gx2
  refine Run_join (fun L' h' => ∃ (s2 : Int × Int), x2 = .inl s2 ∧ L' = [(6, iV s2.1)] ∧ h = h') ?_ ?_
  ·rintro _ _ ⟨s2, es2, rfl, rfl⟩
   have hF := M.cont_inl' hF es2
   refine Zs ?_
   refine Zq [iV s2.1, iV s2.1, .bool true] [4, 5] [(4, iV s2.1), (5, .bool true)] ?_
   have hF := M.ret_some hF
   subst hF
   exact Run_ret2 rfl (Zt (iV s2.1)) (Zt (.bool true)) ⟨rfl, rfl⟩
  ·refine Run_block ?_
   refine Zk [0, 1, 6, 7, 19, 20, 21] [(0, .slice aa_ a_.length ca_), (1, .slice acycle cycle.length ccycle), (6, iV 0), (7, iV x1), (19, .slice acycle cycle.length ccycle), (20, iV (cycle.length : Int)), (21, iV 0)] ?_
   refine Run_loop (fun m L' h' => ∃ (i1 : Int) (s1 : Int × Int), 0 ≤ i1 ∧ M.forN (cycle.length : Int) _ _ n m i1 s1 = some x2 ∧ L' = [(0, .slice aa_ a_.length ca_), (1, .slice acycle cycle.length ccycle), (6, iV s1.1), (7, iV s1.2), (19, .slice acycle cycle.length ccycle), (20, iV (cycle.length : Int)), (21, iV i1)] ∧ h = h') ((cycle.length : Int) - 0 : Int).toNat ⟨0, (0, x1), Int.le_refl _, gx2, rfl, rfl⟩ ?_
   rintro my1 _ _ ⟨i1, s1, hloy1', gx2, rfl, rfl⟩
   refine Zs ?_
   refine Zq [.bool (decide (i1 < (cycle.length : Int)))] [0, 1, 6, 7, 19, 20, 21, 22] [(0, .slice aa_ a_.length ca_), (1, .slice acycle cycle.length ccycle), (6, iV s1.1), (7, iV s1.2), (19, .slice acycle cycle.length ccycle), (20, iV (cycle.length : Int)), (21, iV i1), (22, .bool (decide (i1 < (cycle.length : Int))))] ?_
   refine Zs ?_
   refine Zc (decide (i1 < (cycle.length : Int))) (fun hb2 => ?_) (fun hb2 => ?_)
   ·obtain ⟨my1, y1, rfl, hB1, hgoy1, houty1⟩ := M.for_go gx2 hb2
    have hlty1 := of_decide_eq_true hb2
    refine Run_skip ?_
    refine Zs ?_
    refine Run_block ?_
    refine Zs ?_
    obtain ⟨x3, hx2, hB1⟩ := M.bind_some hB1
    obtain ⟨hx2l, hx2u, hx2⟩ := M.idx_some hx2
    refine Zg 5 [(0, .slice aa_ a_.length ca_), (1, .slice acycle cycle.length ccycle), (6, iV s1.1), (7, iV s1.2), (8, iV i1), (9, iV x3), (19, .slice acycle cycle.length ccycle), (20, iV (cycle.length : Int)), (21, iV i1)] ?_ ?_
    ·refine Zb [iV i1] 0 ?_
     refine Zy (.pointer (some (adr acycle (i1.toNat * 1)))) (Zi 24 2 1 (acycle) (cycle.length) (ccycle) .i64 (i1) Tryz.underlying24 (rcycle.cell hx2).1 hx2l hx2u) ?_
     refine Zy (iV x3) (Zl 2 (adr acycle (i1.toNat * 1)) (iV x3) (cd2_cell rcycle hx2)) ?_
     refine Zb [iV i1, iV x3] 3 ?_
     exact Zd [0, 1, 6, 7, 8, 9, 19, 20, 21]
    refine Zs ?_
    refine Zs ?_
    obtain ⟨x4, hx3, hB1⟩ := M.bind_some hB1
    obtain ⟨x5, gx5, hB1⟩ := M.bind_some hB1
    obtain ⟨x7, gx7, hB1⟩ := M.bind_some hB1
    obtain ⟨x10, gx10, hB1⟩ := M.bind_some hB1
    refine Zg 27 [(0, .slice aa_ a_.length ca_), (1, .slice acycle cycle.length ccycle), (6, iV s1.1), (7, iV s1.2), (9, iV x3), (19, .slice acycle cycle.length ccycle), (20, iV (cycle.length : Int)), (21, iV i1), (52, .bool x10)] ?_ ?_
    ·refine Zb [.slice aa_ a_.length ca_, iV x3] 0 ?_
     refine Zy (.bool x4) (ZQ 87 #[.slice aa_ a_.length ca_, iV x3] (w_impl_isNode h a_ aa_ ca_ ra_ x3 _ _ hx3)) ?_
     refine Zb [.bool (!x4)] 3 ?_
     refine QRun_seq 10 [(0, .slice aa_ a_.length ca_), (1, .slice acycle cycle.length ccycle), (6, iV s1.1), (7, iV s1.2), (8, iV i1), (9, iV x3), (19, .slice acycle cycle.length ccycle), (20, iV (cycle.length : Int)), (21, iV i1), (35, .bool x5)] ?_ ?_
     ·rcases Bool.eq_false_or_eq_true (!x4) with hb3 | hb3
      ·refine Zv (!x4) true hb3 ?_
       have gx5 := M.ret_some ((M.ite_some gx5).1 hb3)
       refine Zn ?_
       refine Zn ?_
       refine Zn ?_
       refine Zn ?_
       refine Zv true x5 gx5 ?_
       exact Zd [0, 1, 6, 7, 8, 9, 19, 20, 21, 35]
      ·refine Zv (!x4) false hb3 ?_
       have gx5 := (M.ite_some gx5).2 hb3
       obtain ⟨x6, hx4, gx5⟩ := M.bind_some gx5
       have gx5 := M.ret_some gx5
       refine Zb [.slice aa_ a_.length ca_, iV s1.2] 5 ?_
       refine Zy (.bool x6) (ZQ 87 #[.slice aa_ a_.length ca_, iV s1.2] (w_impl_isNode h a_ aa_ ca_ ra_ s1.2 _ _ hx4)) ?_
       refine Zb [.bool (!x6)] 8 ?_
       refine Zv (!x6) x5 gx5 ?_
       exact Zd [0, 1, 6, 7, 8, 9, 19, 20, 21, 35]
     refine QRun_seq 17 [(0, .slice aa_ a_.length ca_), (1, .slice acycle cycle.length ccycle), (6, iV s1.1), (7, iV s1.2), (9, iV x3), (19, .slice acycle cycle.length ccycle), (20, iV (cycle.length : Int)), (21, iV i1), (42, .bool x7)] ?_ ?_
     ·rcases Bool.eq_false_or_eq_true x5 with hb4 | hb4
      ·refine Zv x5 true hb4 ?_
       have gx7 := M.ret_some ((M.ite_some gx7).1 hb4)
       refine Zn ?_
       refine Zn ?_
       refine Zn ?_
       refine Zn ?_
       refine Zn ?_
       refine Zv true x7 gx7 ?_
       exact Zd [0, 1, 6, 7, 9, 19, 20, 21, 42]
      ·refine Zv x5 false hb4 ?_
       have gx7 := (M.ite_some gx7).2 hb4
       obtain ⟨x8, hx5, gx7⟩ := M.bind_some gx7
       obtain ⟨hx5a, hx5b, hx5c, hx5d⟩ := M.sub_some hx5
       have hn1 : x8.length = i1.toNat - (0 : Int).toNat := by rw [hx5d, List.length_take, List.length_drop]; omega
       obtain ⟨x9, hx6, gx7⟩ := M.bind_some gx7
       have gx7 := M.ret_some gx7
       refine Zb [.slice acycle cycle.length ccycle, iV i1] 11 ?_
       refine Zy (.slice (sliceA acycle ccycle 0 1) (i1.toNat - (0 : Int).toNat) (ccycle - 0)) (Y_slice (t := 24) (e := 2) (sz := 1) (a := acycle) (n := cycle.length) (cap := ccycle) (lo := none) (hi := (some (.i64, i1))) (x := 0) (y := i1) (by kernel_rfl) Tryz.underlying24 (by kernel_rfl) rcycle.fits rfl rfl hx5a hx5b hx5c) ?_
       refine Zb [iV x3] 14 ?_
       refine Zy (.bool x9) (ZQ 88 #[.slice (sliceA acycle ccycle 0 1) (i1.toNat - (0 : Int).toNat) (ccycle - 0), iV x3] (Fn.arg (w_slices_Contains_int h x8 (sliceA acycle ccycle 0 1) (ccycle - 0) (show Rd _ _ _ _ _ x8 from hx5d ▸ (rcycle).sub (by omega) (by omega)) x3 _ _ hx6) (by simp only [hn1]))) ?_
       refine Zv x9 x7 gx7 ?_
       exact Zd [0, 1, 6, 7, 9, 19, 20, 21, 42]
     refine QRun_seq 27 [(0, .slice aa_ a_.length ca_), (1, .slice acycle cycle.length ccycle), (6, iV s1.1), (7, iV s1.2), (9, iV x3), (19, .slice acycle cycle.length ccycle), (20, iV (cycle.length : Int)), (21, iV i1), (52, .bool x10)] ?_ ?_
     ·rcases Bool.eq_false_or_eq_true x7 with hb5 | hb5
      ·refine Zv x7 true hb5 ?_
       have gx10 := M.ret_some ((M.ite_some gx10).1 hb5)
       refine Zn ?_
       refine Zn ?_
       refine Zn ?_
       refine Zn ?_
       refine Zn ?_
       refine Zn ?_
       refine Zn ?_
       refine Zn ?_
       refine Zv true x10 gx10 ?_
       exact Zd [0, 1, 6, 7, 9, 19, 20, 21, 52]
      ·refine Zv x7 false hb5 ?_
       have gx10 := (M.ite_some gx10).2 hb5
       obtain ⟨x11, hx7, gx10⟩ := M.bind_some gx10
       obtain ⟨hx7l, hx7u, hx7⟩ := M.idx_some hx7
       obtain ⟨a1, c1, hc1, r1⟩ := ra_.row hx7
       obtain ⟨x12, hx8, gx10⟩ := M.bind_some gx10
       obtain ⟨hx8l, hx8u, hx8⟩ := M.idx_some hx8
       have gx10 := M.ret_some gx10
       refine Zb [.slice aa_ a_.length ca_, iV x3] 18 ?_
       refine Zy (.pointer (some (adr aa_ (x3.toNat * 1)))) (Zi 22 24 1 (aa_) (a_.length) (ca_) .i64 (x3) Tryz.underlying22 (ra_.cell hx7).1 hx7l hx7u) ?_
       refine Zy (.slice a1 x11.length c1) (Zl 24 (adr aa_ (x3.toNat * 1)) (.slice a1 x11.length c1) hc1) ?_
       refine Zb [iV s1.2] 22 ?_
       refine Zy (.pointer (some (adr a1 (s1.2.toNat * 1)))) (Zi 24 2 1 (a1) (x11.length) (c1) .i64 (s1.2) Tryz.underlying24 (r1.cell hx8).1 hx8l hx8u) ?_
       refine Zy (iV x12) (Zl 2 (adr a1 (s1.2.toNat * 1)) (iV x12) (cd2_cell r1 hx8)) ?_
       refine Zb [.bool (x12 == (-1000000000000000))] 25 ?_
       refine Zv (x12 == (-1000000000000000)) x10 gx10 ?_
       exact Zd [0, 1, 6, 7, 9, 19, 20, 21, 52]
     exact Zd [0, 1, 6, 7, 9, 19, 20, 21, 52]
    refine Zc (x10) (fun hb6 => ?_) (fun hb6 => ?_)
    ·have hB1 := (M.ite_some hB1).1 hb6
     refine Zs ?_
     refine Zq [iV 0, .bool false] [4, 5] [(4, iV 0), (5, .bool false)] ?_
     have hB1 := M.ret_some hB1
     have gx2 := houty1 _ hB1.symm
     have hF := M.cont_inr' hF gx2
     have hF := M.ret_some hF
     subst hF
     exact Run_ret2 rfl (Zt (iV 0)) (Zt (.bool false)) ⟨rfl, rfl⟩
    ·have hB1 := (M.ite_some hB1).2 hb6
     refine Run_skip ?_
     refine Zs ?_
     obtain ⟨x13, hx9, hB1⟩ := M.bind_some hB1
     obtain ⟨hx9l, hx9u, hx9⟩ := M.idx_some hx9
     obtain ⟨a2, c2, hc2, r2⟩ := ra_.row hx9
     obtain ⟨x14, hx10, hB1⟩ := M.bind_some hB1
     obtain ⟨hx10l, hx10u, hx10⟩ := M.idx_some hx10
     refine Zg 10 [(0, .slice aa_ a_.length ca_), (1, .slice acycle cycle.length ccycle), (6, iV (w64 (s1.1 + x14))), (9, iV x3), (19, .slice acycle cycle.length ccycle), (20, iV (cycle.length : Int)), (21, iV i1)] ?_ ?_
     ·refine Zb [iV s1.1, .slice aa_ a_.length ca_, iV x3] 0 ?_
      refine Zy (.pointer (some (adr aa_ (x3.toNat * 1)))) (Zi 22 24 1 (aa_) (a_.length) (ca_) .i64 (x3) Tryz.underlying22 (ra_.cell hx9).1 hx9l hx9u) ?_
      refine Zy (.slice a2 x13.length c2) (Zl 24 (adr aa_ (x3.toNat * 1)) (.slice a2 x13.length c2) hc2) ?_
      refine Zb [iV s1.2] 5 ?_
      refine Zy (.pointer (some (adr a2 (s1.2.toNat * 1)))) (Zi 24 2 1 (a2) (x13.length) (c2) .i64 (s1.2) Tryz.underlying24 (r2.cell hx10).1 hx10l hx10u) ?_
      refine Zy (iV x14) (Zl 2 (adr a2 (s1.2.toNat * 1)) (iV x14) (cd2_cell r2 hx10)) ?_
      refine Zb [iV (w64 (s1.1 + x14)), iV (w64 (s1.1 + x14))] 8 ?_
      exact Zd [0, 1, 6, 9, 19, 20, 21]
     refine Zq [iV x3, iV x3] [0, 1, 6, 7, 19, 20, 21] [(0, .slice aa_ a_.length ca_), (1, .slice acycle cycle.length ccycle), (6, iV (w64 (s1.1 + x14))), (7, iV x3), (19, .slice acycle cycle.length ccycle), (20, iV (cycle.length : Int)), (21, iV i1)] ?_
     refine Run_blk ?_
     refine Zg 2 [(0, .slice aa_ a_.length ca_), (1, .slice acycle cycle.length ccycle), (6, iV (w64 (s1.1 + x14))), (7, iV x3), (19, .slice acycle cycle.length ccycle), (20, iV (cycle.length : Int)), (21, iV (i1 + 1))] ?_ ?_
     ·refine Zy (iV (i1 + 1)) (Y_eq (v := iV (w64 (i1 + 1))) (Y_pure (fun w => by kernel_rfl)) (by rw [w64_eq _ (by omega)])) ?_
      refine Zb [iV (i1 + 1)] 1 ?_
      exact Zd [0, 1, 6, 7, 19, 20, 21]
     have hB1 := M.ret_some hB1
     have gx2 := hgoy1 _ hB1.symm
     exact Za [0, 1, 6, 7, 19, 20, 21] my1 ⟨i1 + 1, ((w64 (s1.1 + x14)), x3), by omega, gx2, rfl, rfl⟩
   ·have gx2 := M.for_end gx2 hb2
    subst gx2
    refine Run_exit (k' := _) rfl ?_
    exact Zf [6] ⟨(s1.1, s1.2), rfl, rfl, rfl⟩

theorem w_impl_IsCriticalCycle (h : Heap) (a_ : List (List Int)) (aa_ : Option Addr) (ca_ : Nat) (ra_ : Rd cd24 h (Lt h) aa_ ca_ a_) (cycle : List Int) (acycle : Option Addr) (ccycle : Nat) (rcycle : Rd cd2 h (Lt h) acycle ccycle cycle) (n : Nat) (r : Bool × Int) (hF : impl_IsCriticalCycle a_ cycle n = some r) :
  Fn Tryz.prog 22 #[.slice aa_ a_.length ca_, .slice acycle cycle.length ccycle] h fun v h' => v = .tuple #[.bool r.1, iV r.2] ∧ Hold h h' [] := by
 unfold impl_IsCriticalCycle at hF
 refine Zo [.slice aa_ a_.length ca_, .slice acycle cycle.length ccycle] Tryz.func22 rfl (fun w0 _ => ?_)
 have H0 := Hold.init h
 refine Zs ?_
 refine Zq [.bool false, iV 0] [0, 1] [(0, .slice aa_ a_.length ca_), (1, .slice acycle cycle.length ccycle)] ?_
 refine Zs ?_
 refine Zs ?_
 obtain ⟨x1, hx1, hF⟩ := M.bind_some hF
 refine Run_regC (j := 3) (C := fun x => Hold h x []) (by kernel_rfl) H0 (L' := [(0, .slice aa_ a_.length ca_), (1, .slice acycle cycle.length ccycle), (12, .bool (!x1))]) ?_ (fun h1 H1 => ?_)
 ·refine Zb [.slice aa_ a_.length ca_] 0 ?_
  refine Zy (.bool x1) (Y_call (f := 50) (args := #[.slice aa_ a_.length ca_]) (v := .bool x1) (by kernel_rfl) fun hx Hx => (w_impl_isSquare hx a_ aa_ ca_ (ra_.at Hx.ext) _ _ hx1).mono fun _ _ ⟨e, H'⟩ => ⟨e, Hx.call H' rfl⟩) ?_
  refine Zb [.bool (!x1)] 2 ?_
  exact Zd [0, 1, 12]
 have H2 : Hold h h1 [] := H1
 refine Zc (!x1) (fun hb1 => ?_) (fun hb1 => ?_)
 ·have hF := (M.ite_some hF).1 hb1
  refine Zs ?_
  refine Zq [.bool false, iV 1] [4, 5] [(4, .bool false), (5, iV 1)] ?_
  have hF := M.ret_some hF
  subst hF
  exact Run_ret2 rfl (Zt (.bool false)) (Zt (iV 1)) ⟨rfl, H2⟩
 ·have hF := (M.ite_some hF).2 hb1
  refine Run_skip ?_
  refine Zs ?_
  refine Run_ops ?_
  refine Zr [.slice aa_ a_.length ca_] 0 ?_
  obtain ⟨x2, hx2, hF⟩ := M.bind_some hF
  refine Ze ?_
  refine ZC 51 #[.slice aa_ a_.length ca_] (w_impl_cycleMean h1 a_ aa_ ca_ (ra_.at H2.ext) _ _ hx2) (fun v1 h2 hp1 => ?_)
  obtain ⟨rfl, H3⟩ := hp1
  have H4 : Hold h h2 [] := H2.call H3 rfl
  refine Zr [.tuple #[.agg #[iV x2.1.Num, iV x2.1.Den], .bool x2.2], .agg #[iV x2.1.Num, iV x2.1.Den], .bool x2.2] 2 ?_
  refine Ze ?_
  refine E_box (ty := 44) (cs := [iV 0, iV 0]) H4 (fun w => by kernel_rfl) (fun b1 h3 H5 => ?_)
  refine Ze ?_
  refine ZP 44 0 [iV x2.1.Num, iV x2.1.Den] (.agg #[iV x2.1.Num, iV x2.1.Den]) H5 (fun h4 H6 => ?_)
  refine Zr [.bool x2.2] 7 ?_
  refine Zx ?_
  refine Zk [0, 1, 6, 7] [(0, .slice aa_ a_.length ca_), (1, .slice acycle cycle.length ccycle), (6, pV b1), (7, .bool x2.2)] ?_
  refine Zs ?_
  refine Zs ?_
  refine Zq [.bool x2.2, .bool (!x2.2)] [0, 1, 6, 19] [(0, .slice aa_ a_.length ca_), (1, .slice acycle cycle.length ccycle), (6, pV b1), (19, .bool (!x2.2))] ?_
  refine Zc (!x2.2) (fun hb2 => ?_) (fun hb2 => ?_)
  ·have hF := (M.ite_some hF).1 hb2
   refine Zs ?_
   refine Zq [.bool false, iV 4] [4, 5] [(4, .bool false), (5, iV 4)] ?_
   have hF := M.ret_some hF
   subst hF
   have H7 : Hold h h4 [] := H6.pk []
   exact Run_ret2 rfl (Zt (.bool false)) (Zt (iV 4)) ⟨rfl, H7⟩
  ·have hF := (M.ite_some hF).2 hb2
   refine Run_skip ?_
   refine Zs ?_
   obtain ⟨x3, hx3, hF⟩ := M.bind_some hF
   refine Zg 8 [(1, .slice acycle cycle.length ccycle), (6, pV b1), (8, iV x3.1), (9, .bool x3.2)] ?_ ?_
   ·refine Zb [.slice aa_ a_.length ca_, .slice acycle cycle.length ccycle] 0 ?_
    refine Zy (.tuple #[iV x3.1, .bool x3.2]) (ZQ 52 #[.slice aa_ a_.length ca_, .slice acycle cycle.length ccycle] (w_impl_cycleWeight h4 a_ aa_ ca_ (ra_.at H6.ext) cycle acycle ccycle (rcycle.at H6.ext) _ _ hx3)) ?_
    refine Zb [.tuple #[iV x3.1, .bool x3.2], iV x3.1, .bool x3.2, iV x3.1, .bool x3.2] 3 ?_
    exact Zd [1, 6, 8, 9]
   refine Zs ?_
   obtain ⟨x4, gx4, hF⟩ := M.bind_some hF
   refine Run_drawC (j := 11) (C := fun x => Hold h x [box b1 44 [iV x2.1.Num, iV x2.1.Den]]) mixed (by kernel_rfl) (by kernel_rfl) H6 (L' := [(4, .bool x4), (5, iV 0)]) ?_ (fun h5 H8 => ?_)
   ·refine Zb [.bool x3.2] 0 ?_
    refine QRun_seq 9 [(34, .bool x4)] ?_ ?_
    ·rcases Bool.eq_false_or_eq_true x3.2 with hb3 | hb3
     ·refine Zv x3.2 true hb3 ?_
      have gx4 := (M.ite_some gx4).1 hb3
      obtain ⟨x5, hx4, gx4⟩ := M.bind_some gx4
      have gx4 := M.ret_some gx4
      refine Zb [iV x3.1, .slice acycle cycle.length ccycle, iV (cycle.length : Int)] 2 ?_
      refine Zy (.agg #[iV x5.Num, iV x5.Den]) (Y_call (f := 53) (args := #[iV x3.1, iV (cycle.length : Int)]) (v := .agg #[iV x5.Num, iV x5.Den]) (by kernel_rfl) fun hx Hx => (w_impl_ratioOf hx x3.1 (cycle.length : Int) _ _ hx4).mono fun _ _ ⟨e, H'⟩ => ⟨e, Hx.call H' rfl⟩) ?_
      refine Zy (.agg #[iV x2.1.Num, iV x2.1.Den]) (Y_cls fun hx Hx => (Y_loadA (t := 44) (n := 2) (p := ⟨b1, 0, none⟩) (cs := [iV x2.1.Num, iV x2.1.Den]) (by kernel_rfl) (fun w => by kernel_rfl) (by kernel_rfl) rfl (Hx.cells (n := 2) (off := 0) 0 rfl rfl))) ?_
      refine Zy (.bool ((x5.Num == x2.1.Num) && (x5.Den == x2.1.Den))) (Y_seq (t := 44) (ox := .tmp 31) (oy := .tmp 32) (xs := #[iV x5.Num, iV x5.Den]) (ys := #[iV x2.1.Num, iV x2.1.Den]) (by kernel_rfl) (by kernel_rfl) (fun w => eqS44 9998 x5.Num x5.Den x2.1.Num x2.1.Den w)) ?_
      refine Zv ((x5.Num == x2.1.Num) && (x5.Den == x2.1.Den)) x4 gx4 ?_
      exact Zd [34]
     ·refine Zv x3.2 false hb3 ?_
      have gx4 := M.ret_some ((M.ite_some gx4).2 hb3)
      refine Zn ?_
      refine Zn ?_
      refine Zn ?_
      refine Zn ?_
      refine Zn ?_
      refine Zn ?_
      refine Zv false x4 gx4 ?_
      exact Zd [34]
    refine Zb [.bool x4, iV 0] 9 ?_
    exact Zd [4, 5]
   have H9 : Hold h h5 [box b1 44 [iV x2.1.Num, iV x2.1.Den]] := H8
   have hF := M.ret_some hF
   subst hF
   have H10 : Hold h h5 [] := H9.pk []
   exact Run_ret2 rfl (Zt (.bool x4)) (Zt (iV 0)) ⟨rfl, H10⟩

theorem w_spec_IsCriticalCycle (h : Heap) (a_ : List (List Int)) (aa_ : Option Addr) (ca_ : Nat) (ra_ : Rd cd24 h (Lt h) aa_ ca_ a_) (cycle : List Int) (acycle : Option Addr) (ccycle : Nat) (rcycle : Rd cd2 h (Lt h) acycle ccycle cycle) (n : Nat) (r : Bool × Int) (hF : spec_IsCriticalCycle a_ cycle n = some r) :
  Fn Tryz.prog 23 #[.slice aa_ a_.length ca_, .slice acycle cycle.length ccycle] h fun v h' => v = .tuple #[.bool r.1, iV r.2] ∧ Hold h h' [] := by
 unfold spec_IsCriticalCycle at hF
 refine Zo [.slice aa_ a_.length ca_, .slice acycle cycle.length ccycle] Tryz.func23 rfl (fun w0 _ => ?_)
 have H0 := Hold.init h
 refine Zs ?_
 refine Zq [.bool false, iV 0] [0, 1] [(0, .slice aa_ a_.length ca_), (1, .slice acycle cycle.length ccycle)] ?_
 refine Zs ?_
 obtain ⟨x1, hx1, hF⟩ := M.bind_some hF
 refine Run_regC (j := 3) (C := fun x => Hold h x []) (by kernel_rfl) H0 (L' := [(0, .slice aa_ a_.length ca_), (1, .slice acycle cycle.length ccycle), (6, iV x1)]) ?_ (fun h1 H1 => ?_)
 ·refine Zb [.slice aa_ a_.length ca_] 0 ?_
  refine Zy (iV x1) (Y_call (f := 35) (args := #[.slice aa_ a_.length ca_]) (v := iV x1) (by kernel_rfl) fun hx Hx => (w_spec_l06Code hx a_ aa_ ca_ (ra_.at Hx.ext) _ _ hx1).mono fun _ _ ⟨e, H'⟩ => ⟨e, Hx.call H' rfl⟩) ?_
  refine Zb [iV x1] 2 ?_
  exact Zd [0, 1, 6]
 have H2 : Hold h h1 [] := H1
 refine Zs ?_
 refine Zs ?_
 refine Zq [iV x1, .bool (x1 != 0)] [0, 1, 6, 16] [(0, .slice aa_ a_.length ca_), (1, .slice acycle cycle.length ccycle), (6, iV x1), (16, .bool (x1 != 0))] ?_
 refine Zc (x1 != 0) (fun hb1 => ?_) (fun hb1 => ?_)
 ·have hF := (M.ite_some hF).1 hb1
  refine Zs ?_
  refine Zq [iV x1, .bool false, iV x1] [4, 5] [(4, .bool false), (5, iV x1)] ?_
  have hF := M.ret_some hF
  subst hF
  exact Run_ret2 rfl (Zt (.bool false)) (Zt (iV x1)) ⟨rfl, H2⟩
 ·have hF := (M.ite_some hF).2 hb1
  refine Run_skip ?_
  refine Zs ?_
  refine Run_ops ?_
  refine Zr [.slice aa_ a_.length ca_] 0 ?_
  obtain ⟨x2, hx2, hF⟩ := M.bind_some hF
  refine Ze ?_
  refine ZC 54 #[.slice aa_ a_.length ca_] (w_spec_l04Best h1 a_ aa_ ca_ (ra_.at H2.ext) _ _ hx2) (fun v1 h2 hp1 => ?_)
  obtain ⟨a1, c1, rfl, H3⟩ := hp1
  have H4 : Hold h h2 [own cd2 a1 x2.1.length c1 x2.1] := H2.call H3 rfl
  refine Zr [.tuple #[.slice a1 x2.1.length c1, .bool x2.2], .slice a1 x2.1.length c1, .bool x2.2, .slice a1 x2.1.length c1, .bool x2.2] 2 ?_
  refine Zx ?_
  refine Zk [0, 1, 7] [(0, .slice aa_ a_.length ca_), (1, .slice acycle cycle.length ccycle), (7, .slice a1 x2.1.length c1)] ?_
  refine Zs ?_
  refine Run_ops ?_
  refine Zr [.slice aa_ a_.length ca_, .slice a1 x2.1.length c1] 0 ?_
  obtain ⟨x3, hx3, hF⟩ := M.bind_some hF
  refine Ze ?_
  refine ZC 55 #[.slice aa_ a_.length ca_, .slice a1 x2.1.length c1] (w_spec_l04Mean h2 a_ aa_ ca_ (ra_.at H4.ext) x2.1 a1 c1 (H4.rd 0 rfl) _ _ hx3) (fun v2 h3 hp2 => ?_)
  obtain ⟨rfl, H5⟩ := hp2
  have H6 : Hold h h3 [own cd2 a1 x2.1.length c1 x2.1] := H4.call H5 rfl
  refine Zr [.tuple #[.agg #[iV x3.1.Num, iV x3.1.Den], .bool x3.2], .agg #[iV x3.1.Num, iV x3.1.Den], .bool x3.2] 3 ?_
  refine Ze ?_
  refine E_box (ty := 44) (cs := [iV 0, iV 0]) H6 (fun w => by kernel_rfl) (fun b1 h4 H7 => ?_)
  refine Ze ?_
  refine ZP 44 0 [iV x3.1.Num, iV x3.1.Den] (.agg #[iV x3.1.Num, iV x3.1.Den]) H7 (fun h5 H8 => ?_)
  refine Zr [.bool x3.2] 8 ?_
  refine Zx ?_
  refine Zk [0, 1, 9] [(0, .slice aa_ a_.length ca_), (1, .slice acycle cycle.length ccycle), (9, pV b1)] ?_
  refine Zs ?_
  refine Run_ops ?_
  refine Zr [.slice aa_ a_.length ca_, .slice acycle cycle.length ccycle] 0 ?_
  obtain ⟨x4, hx4, hF⟩ := M.bind_some hF
  refine Ze ?_
  refine ZC 55 #[.slice aa_ a_.length ca_, .slice acycle cycle.length ccycle] (w_spec_l04Mean h5 a_ aa_ ca_ (ra_.at H8.ext) cycle acycle ccycle (rcycle.at H8.ext) _ _ hx4) (fun v3 h6 hp3 => ?_)
  obtain ⟨rfl, H9⟩ := hp3
  have H10 : Hold h h6 [box b1 44 [iV x3.1.Num, iV x3.1.Den], own cd2 a1 x2.1.length c1 x2.1] := H8.call H9 rfl
  refine Zr [.tuple #[.agg #[iV x4.1.Num, iV x4.1.Den], .bool x4.2], .agg #[iV x4.1.Num, iV x4.1.Den], .bool x4.2] 3 ?_
  refine Ze ?_
  refine E_box (ty := 44) (cs := [iV 0, iV 0]) H10 (fun w => by kernel_rfl) (fun b2 h7 H11 => ?_)
  refine Ze ?_
  refine ZP 44 0 [iV x4.1.Num, iV x4.1.Den] (.agg #[iV x4.1.Num, iV x4.1.Den]) H11 (fun h8 H12 => ?_)
  refine Zr [.bool x4.2] 8 ?_
  refine Zx ?_
  refine Zk [9, 11, 12] [(9, pV b1), (11, pV b2), (12, .bool x4.2)] ?_
  refine Zs ?_
  refine Zg 8 [(4, .bool (x4.2 && ((x4.1.Num == x3.1.Num) && (x4.1.Den == x3.1.Den)))), (5, iV 0)] ?_ ?_
  ·refine Zb [.bool x4.2] 0 ?_
   refine QRun_seq 6 [(40, .bool (x4.2 && ((x4.1.Num == x3.1.Num) && (x4.1.Den == x3.1.Den))))] ?_ ?_
   ·rcases Bool.eq_false_or_eq_true x4.2 with hb2 | hb2
    ·refine Zv x4.2 true hb2 ?_
     refine Zy (.agg #[iV x4.1.Num, iV x4.1.Den]) (Y_loadA (t := 44) (n := 2) (p := ⟨b2, 0, none⟩) (cs := [iV x4.1.Num, iV x4.1.Den]) (by kernel_rfl) (fun w => by kernel_rfl) (by kernel_rfl) rfl (H12.cells (n := 2) (off := 0) 0 rfl rfl)) ?_
     refine Zy (.agg #[iV x3.1.Num, iV x3.1.Den]) (Y_loadA (t := 44) (n := 2) (p := ⟨b1, 0, none⟩) (cs := [iV x3.1.Num, iV x3.1.Den]) (by kernel_rfl) (fun w => by kernel_rfl) (by kernel_rfl) rfl (H12.cells (n := 2) (off := 0) 1 rfl rfl)) ?_
     refine Zy (.bool ((x4.1.Num == x3.1.Num) && (x4.1.Den == x3.1.Den))) (Y_seq (t := 44) (ox := .tmp 37) (oy := .tmp 38) (xs := #[iV x4.1.Num, iV x4.1.Den]) (ys := #[iV x3.1.Num, iV x3.1.Den]) (by kernel_rfl) (by kernel_rfl) (fun w => eqS44 9998 x4.1.Num x4.1.Den x3.1.Num x3.1.Den w)) ?_
     refine QRun_bool ((x4.1.Num == x3.1.Num) && (x4.1.Den == x3.1.Den)) (x4.2 && ((x4.1.Num == x3.1.Num) && (x4.1.Den == x3.1.Den))) (by kernel_rfl) (fun w => by kernel_rfl) (by rw [hb2]; rfl) ?_
     exact Zd [40]
    ·refine Zv x4.2 false hb2 ?_
     refine Zn ?_
     refine Zn ?_
     refine Zn ?_
     refine QRun_bool false (x4.2 && ((x4.1.Num == x3.1.Num) && (x4.1.Den == x3.1.Den))) (by kernel_rfl) (fun w => by kernel_rfl) (by rw [hb2]; rfl) ?_
     exact Zd [40]
   refine Zb [.bool (x4.2 && ((x4.1.Num == x3.1.Num) && (x4.1.Den == x3.1.Den))), iV 0] 6 ?_
   exact Zd [4, 5]
  have hF := M.ret_some hF
  subst hF
  have H13 : Hold h h8 [] := H12.pk []
  exact Run_ret2 rfl (Zt (.bool (x4.2 && ((x4.1.Num == x3.1.Num) && (x4.1.Den == x3.1.Den))))) (Zt (iV 0)) ⟨rfl, H13⟩

theorem w_laws_likeInts (h : Heap) (a_ : List Int) {Sa_ : Bs} (aa_ : Option Addr) (ca_ : Nat) (ra_ : Rd cd2 h Sa_ aa_ ca_ a_) (b : List Int) {Sb : Bs} (ab : Option Addr) (cb : Nat) (rb : Rd cd2 h Sb ab cb b) (n : Nat) (r : Bool) (hF : laws_likeInts a_ b n = some r) :
  Fn Tryz.prog 25 #[.slice aa_ a_.length ca_, .slice ab b.length cb] h fun v h' => v = .bool r ∧ h' = h := by
 unfold laws_likeInts at hF
 refine Zo [.slice aa_ a_.length ca_, .slice ab b.length cb] Tryz.func25 rfl (fun w0 _ => ?_)
 refine Zs ?_
 refine Zq [.bool false] [0, 1] [(0, .slice aa_ a_.length ca_), (1, .slice ab b.length cb)] ?_
 refine Zs ?_
 refine Zs ?_
 refine Zq [.slice aa_ a_.length ca_, iV (a_.length : Int), .slice ab b.length cb, iV (b.length : Int), .bool ((a_.length : Int) != (b.length : Int))] [0, 1, 10] [(0, .slice aa_ a_.length ca_), (1, .slice ab b.length cb), (10, .bool ((a_.length : Int) != (b.length : Int)))] ?_
 refine Zc ((a_.length : Int) != (b.length : Int)) (fun hb1 => ?_) (fun hb1 => ?_)
 ·have hF := (M.ite_some hF).1 hb1
  refine Zs ?_
  refine Zq [.bool false] [4] [(4, .bool false)] ?_
  have hF := M.ret_some hF
  subst hF
  exact Run_ret1 rfl (Zt (.bool false)) ⟨rfl, rfl⟩
 ·have hF := (M.ite_some hF).2 hb1
  refine Run_skip ?_
  refine Zs ?_
  refine Zs ?_
  refine Zq [iV 0] [0, 1, 5] [(0, .slice aa_ a_.length ca_), (1, .slice ab b.length cb), (5, iV 0)] ?_
  obtain ⟨x1, gx1, hF⟩ := M.bind_some hF
  obtain ⟨hloy1, hhiy1, gx1⟩ := M.for_start gx1
  refine Run_join (fun L' h' => ∃ (s2 : Unit), x1 = .inl s2 ∧ L' = [] ∧ h = h') ?_ ?_
  ·rintro _ _ ⟨s2, es2, rfl, rfl⟩
   have hF := M.cont_inl' hF es2
   refine Zs ?_
   refine Zq [.bool true] [4] [(4, .bool true)] ?_
   have hF := M.ret_some hF
   subst hF
   exact Run_ret1 rfl (Zt (.bool true)) ⟨rfl, rfl⟩
  ·refine Run_block ?_
   refine Zk [0, 1, 5] [(0, .slice aa_ a_.length ca_), (1, .slice ab b.length cb), (5, iV 0)] ?_
   refine Run_loop (fun m L' h' => ∃ (i1 : Int) (s1 : Unit), 0 ≤ i1 ∧ M.forN (a_.length : Int) _ _ n m i1 s1 = some x1 ∧ L' = [(0, .slice aa_ a_.length ca_), (1, .slice ab b.length cb), (5, iV i1)] ∧ h = h') ((a_.length : Int) - 0 : Int).toNat ⟨0, (), Int.le_refl _, gx1, rfl, rfl⟩ ?_
   rintro my1 _ _ ⟨i1, s1, hloy1', gx1, rfl, rfl⟩
   refine Zs ?_
   refine Zs ?_
   refine Zq [iV i1, .slice aa_ a_.length ca_, iV (a_.length : Int), .bool (decide (i1 < (a_.length : Int)))] [0, 1, 5, 14] [(0, .slice aa_ a_.length ca_), (1, .slice ab b.length cb), (5, iV i1), (14, .bool (decide (i1 < (a_.length : Int))))] ?_
   refine Zc (decide (i1 < (a_.length : Int))) (fun hb2 => ?_) (fun hb2 => ?_)
   ·obtain ⟨my1, y1, rfl, hB1, hgoy1, houty1⟩ := M.for_go gx1 hb2
    have hlty1 := of_decide_eq_true hb2
    refine Run_skip ?_
    refine Zs ?_
    refine Run_block ?_
    refine Zs ?_
    obtain ⟨x2, hx1, hB1⟩ := M.bind_some hB1
    obtain ⟨hx1l, hx1u, hx1⟩ := M.idx_some hx1
    obtain ⟨x3, hx2, hB1⟩ := M.bind_some hB1
    obtain ⟨hx2l, hx2u, hx2⟩ := M.idx_some hx2
    refine Run_draw 9 mixed (by kernel_rfl) (by kernel_rfl) (L' := [(0, .slice aa_ a_.length ca_), (1, .slice ab b.length cb), (5, iV i1), (25, .bool (x2 != x3))]) ?_ ?_
    ·refine Zb [.slice aa_ a_.length ca_, iV i1] 0 ?_
     refine Zy (.pointer (some (adr aa_ (i1.toNat * 1)))) (Zi 24 2 1 (aa_) (a_.length) (ca_) .i64 (i1) Tryz.underlying24 (ra_.cell hx1).1 hx1l hx1u) ?_
     refine Zy (iV x2) (Zl 2 (adr aa_ (i1.toNat * 1)) (iV x2) (cd2_cell ra_ hx1)) ?_
     refine Zb [.slice ab b.length cb, iV i1] 4 ?_
     refine Zy (.pointer (some (adr ab (i1.toNat * 1)))) (Zi 24 2 1 (ab) (b.length) (cb) .i64 (i1) Tryz.underlying24 (rb.cell hx2).1 hx2l hx2u) ?_
     refine Zy (iV x3) (Zl 2 (adr ab (i1.toNat * 1)) (iV x3) (cd2_cell rb hx2)) ?_
     refine Zb [.bool (x2 != x3)] 8 ?_
     exact Zd [0, 1, 5, 25]
    refine Zc (x2 != x3) (fun hb3 => ?_) (fun hb3 => ?_)
    ·have hB1 := (M.ite_some hB1).1 hb3
     refine Zs ?_
     refine Zq [.bool false] [4] [(4, .bool false)] ?_
     have hB1 := M.ret_some hB1
     have gx1 := houty1 _ hB1.symm
     have hF := M.cont_inr' hF gx1
     have hF := M.ret_some hF
     subst hF
     exact Run_ret1 rfl (Zt (.bool false)) ⟨rfl, rfl⟩
    ·have hB1 := (M.ite_some hB1).2 hb3
     refine Run_skip ?_
     refine Run_blk ?_
     refine Zg 3 [(0, .slice aa_ a_.length ca_), (1, .slice ab b.length cb), (5, iV (i1 + 1))] ?_ ?_
     ·refine Zb [iV i1] 0 ?_
      refine Zy (iV (i1 + 1)) (Y_eq (v := iV (w64 (i1 + 1))) (Y_pure (fun w => by kernel_rfl)) (by rw [w64_eq _ (by omega)])) ?_
      refine Zb [iV (i1 + 1)] 2 ?_
      exact Zd [0, 1, 5]
     have hB1 := M.ret_some hB1
     have gx1 := hgoy1 _ hB1.symm
     exact Za [0, 1, 5] my1 ⟨i1 + 1, (), by omega, gx1, rfl, rfl⟩
   ·have gx1 := M.for_end gx1 hb2
    subst gx1
    refine Run_exit (k' := _) rfl ?_
    exact Zf [] ⟨(), rfl, rfl, rfl⟩

theorem w_laws_likeTables9 (h : Heap) (a_ : List (List Int)) {Sa_ : Bs} (aa_ : Option Addr) (ca_ : Nat) (ra_ : Rd cd24 h Sa_ aa_ ca_ a_) (b : List (List Int)) {Sb : Bs} (ab : Option Addr) (cb : Nat) (rb : Rd cd24 h Sb ab cb b) (n : Nat) (r : Bool) (hF : laws_likeTables9 a_ b n = some r) :
  Fn Tryz.prog 24 #[.slice aa_ a_.length ca_, .slice ab b.length cb] h fun v h' => v = .bool r ∧ h' = h := by
 unfold laws_likeTables9 at hF
 refine Zo [.slice aa_ a_.length ca_, .slice ab b.length cb] Tryz.func24 rfl (fun w0 _ => ?_)
 refine Zs ?_
 refine Zq [.bool false] [0, 1] [(0, .slice aa_ a_.length ca_), (1, .slice ab b.length cb)] ?_
 refine Zs ?_
 refine Zs ?_
 refine Zq [.slice aa_ a_.length ca_, iV (a_.length : Int), .slice ab b.length cb, iV (b.length : Int), .bool ((a_.length : Int) != (b.length : Int))] [0, 1, 10] [(0, .slice aa_ a_.length ca_), (1, .slice ab b.length cb), (10, .bool ((a_.length : Int) != (b.length : Int)))] ?_
 refine Zc ((a_.length : Int) != (b.length : Int)) (fun hb1 => ?_) (fun hb1 => ?_)
 ·have hF := (M.ite_some hF).1 hb1
  refine Zs ?_
  refine Zq [.bool false] [4] [(4, .bool false)] ?_
  have hF := M.ret_some hF
  subst hF
  exact Run_ret1 rfl (Zt (.bool false)) ⟨rfl, rfl⟩
 ·have hF := (M.ite_some hF).2 hb1
  refine Run_skip ?_
  refine Zs ?_
  refine Zs ?_
  refine Zq [iV 0] [0, 1, 5] [(0, .slice aa_ a_.length ca_), (1, .slice ab b.length cb), (5, iV 0)] ?_
  obtain ⟨x1, gx1, hF⟩ := M.bind_some hF
  obtain ⟨hloy1, hhiy1, gx1⟩ := M.for_start gx1
  refine Run_join (fun L' h' => ∃ (s2 : Unit), x1 = .inl s2 ∧ L' = [] ∧ h = h') ?_ ?_
  ·rintro _ _ ⟨s2, es2, rfl, rfl⟩
   have hF := M.cont_inl' hF es2
   refine Zs ?_
   refine Zq [.bool true] [4] [(4, .bool true)] ?_
   have hF := M.ret_some hF
   subst hF
   exact Run_ret1 rfl (Zt (.bool true)) ⟨rfl, rfl⟩
  ·refine Run_block ?_
   refine Zk [0, 1, 5] [(0, .slice aa_ a_.length ca_), (1, .slice ab b.length cb), (5, iV 0)] ?_
   refine Run_loop (fun m L' h' => ∃ (i1 : Int) (s1 : Unit), 0 ≤ i1 ∧ M.forN (a_.length : Int) _ _ n m i1 s1 = some x1 ∧ L' = [(0, .slice aa_ a_.length ca_), (1, .slice ab b.length cb), (5, iV i1)] ∧ h = h') ((a_.length : Int) - 0 : Int).toNat ⟨0, (), Int.le_refl _, gx1, rfl, rfl⟩ ?_
   rintro my1 _ _ ⟨i1, s1, hloy1', gx1, rfl, rfl⟩
   refine Zs ?_
   refine Zs ?_
   refine Zq [iV i1, .slice aa_ a_.length ca_, iV (a_.length : Int), .bool (decide (i1 < (a_.length : Int)))] [0, 1, 5, 14] [(0, .slice aa_ a_.length ca_), (1, .slice ab b.length cb), (5, iV i1), (14, .bool (decide (i1 < (a_.length : Int))))] ?_
   refine Zc (decide (i1 < (a_.length : Int))) (fun hb2 => ?_) (fun hb2 => ?_)
   ·obtain ⟨my1, y1, rfl, hB1, hgoy1, houty1⟩ := M.for_go gx1 hb2
    have hlty1 := of_decide_eq_true hb2
    refine Run_skip ?_
    refine Zs ?_
    refine Run_block ?_
    refine Zs ?_
    obtain ⟨x2, hx1, hB1⟩ := M.bind_some hB1
    obtain ⟨hx1l, hx1u, hx1⟩ := M.idx_some hx1
    obtain ⟨a1, c1, hc1, r1⟩ := ra_.row hx1
    obtain ⟨x3, hx2, hB1⟩ := M.bind_some hB1
    obtain ⟨hx2l, hx2u, hx2⟩ := M.idx_some hx2
    obtain ⟨a2, c2, hc2, r2⟩ := rb.row hx2
    obtain ⟨x4, hx3, hB1⟩ := M.bind_some hB1
    refine Run_draw 10 mixed (by kernel_rfl) (by kernel_rfl) (L' := [(0, .slice aa_ a_.length ca_), (1, .slice ab b.length cb), (5, iV i1), (26, .bool (!x4))]) ?_ ?_
    ·refine Zb [.slice aa_ a_.length ca_, iV i1] 0 ?_
     refine Zy (.pointer (some (adr aa_ (i1.toNat * 1)))) (Zi 22 24 1 (aa_) (a_.length) (ca_) .i64 (i1) Tryz.underlying22 (ra_.cell hx1).1 hx1l hx1u) ?_
     refine Zy (.slice a1 x2.length c1) (Zl 24 (adr aa_ (i1.toNat * 1)) (.slice a1 x2.length c1) hc1) ?_
     refine Zb [.slice ab b.length cb, iV i1] 4 ?_
     refine Zy (.pointer (some (adr ab (i1.toNat * 1)))) (Zi 22 24 1 (ab) (b.length) (cb) .i64 (i1) Tryz.underlying22 (rb.cell hx2).1 hx2l hx2u) ?_
     refine Zy (.slice a2 x3.length c2) (Zl 24 (adr ab (i1.toNat * 1)) (.slice a2 x3.length c2) hc2) ?_
     refine Zy (.bool x4) (ZQ 25 #[.slice a1 x2.length c1, .slice a2 x3.length c2] (w_laws_likeInts h x2 a1 c1 r1 x3 a2 c2 r2 _ _ hx3)) ?_
     refine Zb [.bool (!x4)] 9 ?_
     exact Zd [0, 1, 5, 26]
    refine Zc (!x4) (fun hb3 => ?_) (fun hb3 => ?_)
    ·have hB1 := (M.ite_some hB1).1 hb3
     refine Zs ?_
     refine Zq [.bool false] [4] [(4, .bool false)] ?_
     have hB1 := M.ret_some hB1
     have gx1 := houty1 _ hB1.symm
     have hF := M.cont_inr' hF gx1
     have hF := M.ret_some hF
     subst hF
     exact Run_ret1 rfl (Zt (.bool false)) ⟨rfl, rfl⟩
    ·have hB1 := (M.ite_some hB1).2 hb3
     refine Run_skip ?_
     refine Run_blk ?_
     refine Zg 3 [(0, .slice aa_ a_.length ca_), (1, .slice ab b.length cb), (5, iV (i1 + 1))] ?_ ?_
     ·refine Zb [iV i1] 0 ?_
      refine Zy (iV (i1 + 1)) (Y_eq (v := iV (w64 (i1 + 1))) (Y_pure (fun w => by kernel_rfl)) (by rw [w64_eq _ (by omega)])) ?_
      refine Zb [iV (i1 + 1)] 2 ?_
      exact Zd [0, 1, 5]
     have hB1 := M.ret_some hB1
     have gx1 := hgoy1 _ hB1.symm
     exact Za [0, 1, 5] my1 ⟨i1 + 1, (), by omega, gx1, rfl, rfl⟩
   ·have gx1 := M.for_end gx1 hb2
    subst gx1
    refine Run_exit (k' := _) rfl ?_
    exact Zf [] ⟨(), rfl, rfl, rfl⟩

theorem w_impl_IsCycle (h : Heap) (a_ : List (List Int)) (aa_ : Option Addr) (ca_ : Nat) (ra_ : Rd cd24 h (Lt h) aa_ ca_ a_) (cycle : List Int) (acycle : Option Addr) (ccycle : Nat) (rcycle : Rd cd2 h (Lt h) acycle ccycle cycle) (n : Nat) (r : Bool) (hF : impl_IsCycle a_ cycle n = some r) :
  Fn Tryz.prog 26 #[.slice aa_ a_.length ca_, .slice acycle cycle.length ccycle] h fun v h' => v = .bool r ∧ Hold h h' [] := by
 unfold impl_IsCycle at hF
 refine Zo [.slice aa_ a_.length ca_, .slice acycle cycle.length ccycle] Tryz.func26 rfl (fun w0 _ => ?_)
 have H0 := Hold.init h
 refine Zs ?_
 refine Zq [.bool false] [0, 1] [(0, .slice aa_ a_.length ca_), (1, .slice acycle cycle.length ccycle)] ?_
 refine Zs ?_
 refine Zs ?_
 obtain ⟨x1, hx1, hF⟩ := M.bind_some hF
 refine Run_regC (j := 3) (C := fun x => Hold h x []) (by kernel_rfl) H0 (L' := [(0, .slice aa_ a_.length ca_), (1, .slice acycle cycle.length ccycle), (9, .bool (!x1))]) ?_ (fun h1 H1 => ?_)
 ·refine Zb [.slice aa_ a_.length ca_] 0 ?_
  refine Zy (.bool x1) (Y_call (f := 50) (args := #[.slice aa_ a_.length ca_]) (v := .bool x1) (by kernel_rfl) fun hx Hx => (w_impl_isSquare hx a_ aa_ ca_ (ra_.at Hx.ext) _ _ hx1).mono fun _ _ ⟨e, H'⟩ => ⟨e, Hx.call H' rfl⟩) ?_
  refine Zb [.bool (!x1)] 2 ?_
  exact Zd [0, 1, 9]
 have H2 : Hold h h1 [] := H1
 refine Zc (!x1) (fun hb1 => ?_) (fun hb1 => ?_)
 ·have hF := (M.ite_some hF).1 hb1
  refine Zs ?_
  refine Zq [.bool false] [4] [(4, .bool false)] ?_
  have hF := M.ret_some hF
  subst hF
  exact Run_ret1 rfl (Zt (.bool false)) ⟨rfl, H2⟩
 ·have hF := (M.ite_some hF).2 hb1
  refine Run_skip ?_
  refine Zs ?_
  obtain ⟨x2, hx2, hF⟩ := M.bind_some hF
  refine Zg 8 [(6, .bool x2.2)] ?_ ?_
  ·refine Zb [.slice aa_ a_.length ca_, .slice acycle cycle.length ccycle] 0 ?_
   refine Zy (.tuple #[iV x2.1, .bool x2.2]) (ZQ 52 #[.slice aa_ a_.length ca_, .slice acycle cycle.length ccycle] (w_impl_cycleWeight h1 a_ aa_ ca_ (ra_.at H2.ext) cycle acycle ccycle (rcycle.at H2.ext) _ _ hx2)) ?_
   refine Zb [.tuple #[iV x2.1, .bool x2.2], iV x2.1, .bool x2.2, iV x2.1, .bool x2.2] 3 ?_
   exact Zd [6]
  refine Zs ?_
  refine Zq [.bool x2.2, .bool x2.2] [4] [(4, .bool x2.2)] ?_
  have hF := M.ret_some hF
  subst hF
  exact Run_ret1 rfl (Zt (.bool x2.2)) ⟨rfl, H2⟩

theorem w_laws_hasInt (h : Heap) (list : List Int) {Slist : Bs} (alist : Option Addr) (clist : Nat) (rlist : Rd cd2 h Slist alist clist list) (x_ : Int) (n : Nat) (r : Bool) (hF : laws_hasInt list x_ n = some r) :
  Fn Tryz.prog 27 #[.slice alist list.length clist, iV x_] h fun v h' => v = .bool r ∧ h' = h := by
 unfold laws_hasInt at hF
 refine Zo [.slice alist list.length clist, iV x_] Tryz.func27 rfl (fun w0 _ => ?_)
 refine Zs ?_
 refine Zq [.bool false] [0, 1] [(0, .slice alist list.length clist), (1, iV x_)] ?_
 refine Zs ?_
 refine Zs ?_
 refine Zq [iV 0] [0, 1, 5] [(0, .slice alist list.length clist), (1, iV x_), (5, iV 0)] ?_
 obtain ⟨x1, gx1, hF⟩ := M.bind_some hF
 obtain ⟨hloy1, hhiy1, gx1⟩ := M.for_start gx1
 refine Run_join (fun L' h' => ∃ (s2 : Unit), x1 = .inl s2 ∧ L' = [] ∧ h = h') ?_ ?_
 ·rintro _ _ ⟨s2, es2, rfl, rfl⟩
  have hF := M.cont_inl' hF es2
  refine Zs ?_
  refine Zq [.bool false] [4] [(4, .bool false)] ?_
  have hF := M.ret_some hF
  subst hF
  exact Run_ret1 rfl (Zt (.bool false)) ⟨rfl, rfl⟩
 ·refine Run_block ?_
  refine Zk [0, 1, 5] [(0, .slice alist list.length clist), (1, iV x_), (5, iV 0)] ?_
  refine Run_loop (fun m L' h' => ∃ (i1 : Int) (s1 : Unit), 0 ≤ i1 ∧ M.forN (list.length : Int) _ _ n m i1 s1 = some x1 ∧ L' = [(0, .slice alist list.length clist), (1, iV x_), (5, iV i1)] ∧ h = h') ((list.length : Int) - 0 : Int).toNat ⟨0, (), Int.le_refl _, gx1, rfl, rfl⟩ ?_
  rintro my1 _ _ ⟨i1, s1, hloy1', gx1, rfl, rfl⟩
  refine Zs ?_
  refine Zs ?_
  refine Zq [iV i1, .slice alist list.length clist, iV (list.length : Int), .bool (decide (i1 < (list.length : Int)))] [0, 1, 5, 9] [(0, .slice alist list.length clist), (1, iV x_), (5, iV i1), (9, .bool (decide (i1 < (list.length : Int))))] ?_
  refine Zc (decide (i1 < (list.length : Int))) (fun hb1 => ?_) (fun hb1 => ?_)
  ·obtain ⟨my1, y1, rfl, hB1, hgoy1, houty1⟩ := M.for_go gx1 hb1
   have hlty1 := of_decide_eq_true hb1
   refine Run_skip ?_
   refine Zs ?_
   refine Run_block ?_
   refine Zs ?_
   obtain ⟨x2, hx1, hB1⟩ := M.bind_some hB1
   obtain ⟨hx1l, hx1u, hx1⟩ := M.idx_some hx1
   refine Zg 6 [(0, .slice alist list.length clist), (1, iV x_), (5, iV i1), (17, .bool (x2 == x_))] ?_ ?_
   ·refine Zb [.slice alist list.length clist, iV i1] 0 ?_
    refine Zy (.pointer (some (adr alist (i1.toNat * 1)))) (Zi 24 2 1 (alist) (list.length) (clist) .i64 (i1) Tryz.underlying24 (rlist.cell hx1).1 hx1l hx1u) ?_
    refine Zy (iV x2) (Zl 2 (adr alist (i1.toNat * 1)) (iV x2) (cd2_cell rlist hx1)) ?_
    refine Zb [iV x_, .bool (x2 == x_)] 4 ?_
    exact Zd [0, 1, 5, 17]
   refine Zc (x2 == x_) (fun hb2 => ?_) (fun hb2 => ?_)
   ·have hB1 := (M.ite_some hB1).1 hb2
    refine Zs ?_
    refine Zq [.bool true] [4] [(4, .bool true)] ?_
    have hB1 := M.ret_some hB1
    have gx1 := houty1 _ hB1.symm
    have hF := M.cont_inr' hF gx1
    have hF := M.ret_some hF
    subst hF
    exact Run_ret1 rfl (Zt (.bool true)) ⟨rfl, rfl⟩
   ·have hB1 := (M.ite_some hB1).2 hb2
    refine Run_skip ?_
    refine Run_blk ?_
    refine Zg 3 [(0, .slice alist list.length clist), (1, iV x_), (5, iV (i1 + 1))] ?_ ?_
    ·refine Zb [iV i1] 0 ?_
     refine Zy (iV (i1 + 1)) (Y_eq (v := iV (w64 (i1 + 1))) (Y_pure (fun w => by kernel_rfl)) (by rw [w64_eq _ (by omega)])) ?_
     refine Zb [iV (i1 + 1)] 2 ?_
     exact Zd [0, 1, 5]
    have hB1 := M.ret_some hB1
    have gx1 := hgoy1 _ hB1.symm
    exact Za [0, 1, 5] my1 ⟨i1 + 1, (), by omega, gx1, rfl, rfl⟩
  ·have gx1 := M.for_end gx1 hb1
   subst gx1
   refine Run_exit (k' := _) rfl ?_
   exact Zf [] ⟨(), rfl, rfl, rfl⟩

theorem w_laws_FnCriticalArcs (h : Heap) (code : List Int) (acode : Option Addr) (ccode : Nat) (rcode : Rd cd5 h (Lt h) acode ccode code) (n : Nat) (r : Bool) (hF : laws_FnCriticalArcs code n = some r) :
  Fn Tryz.prog 4 #[.slice acode code.length ccode] h fun v h' => v = .bool r ∧ Hold h h' [] := by
 unfold laws_FnCriticalArcs at hF
 refine Zo [.slice acode code.length ccode] Tryz.func4 rfl (fun w0 _ => ?_)
 have H0 := Hold.init h
 refine Zs ?_
 refine Zq [.bool false] [0] [(0, .slice acode code.length ccode)] ?_
 refine Zs ?_
 refine Zs ?_
 obtain ⟨x1, hx1, hF⟩ := M.bind_some hF
 refine Zg 2 [(0, .slice acode code.length ccode), (30, .bool x1)] ?_ ?_
 ·refine Zb [.slice acode code.length ccode] 0 ?_
  refine Zy (.bool x1) (ZQ 15 #[.slice acode code.length ccode] (w_laws_big h code acode ccode rcode _ _ hx1)) ?_
  exact Zd [0, 30]
 refine Zc (x1) (fun hb1 => ?_) (fun hb1 => ?_)
 ·have hF := (M.ite_some hF).1 hb1
  refine Zs ?_
  refine Zq [.bool true] [2] [(2, .bool true)] ?_
  have hF := M.ret_some hF
  subst hF
  exact Run_ret1 rfl (Zt (.bool true)) ⟨rfl, H0⟩
 ·have hF := (M.ite_some hF).2 hb1
  refine Run_skip ?_
  refine Zs ?_
  refine Run_ops ?_
  refine Zr [.slice acode code.length ccode] 0 ?_
  obtain ⟨x2, hx2, hF⟩ := M.bind_some hF
  refine Ze ?_
  refine ZC 16 #[.slice acode code.length ccode] (w_spec_DrawCriticalArcs h code acode ccode rcode _ _ hx2) (fun v1 h1 hp1 => ?_)
  obtain ⟨a1, c1, rfl, H1⟩ := hp1
  have H2 : Hold h h1 [own cd24 a1 x2.length c1 x2] := H0.call H1 rfl
  refine Zr [.slice a1 x2.length c1] 2 ?_
  refine Zx ?_
  refine Zk [0, 3] [(0, .slice acode code.length ccode), (3, .slice a1 x2.length c1)] ?_
  refine Zs ?_
  refine Run_ops ?_
  refine Zr [.slice a1 x2.length c1] 0 ?_
  obtain ⟨x3, hx3, hF⟩ := M.bind_some hF
  refine Ze ?_
  refine ZC 17 #[.slice a1 x2.length c1] (w_impl_CriticalArcs h1 x2 a1 c1 (H2.rd 0 rfl) _ _ hx3) (fun v2 h2 hp2 => ?_)
  obtain ⟨a2, c2, rfl, H3⟩ := hp2
  have H4 : Hold h h2 [own cd24 a2 x3.1.length c2 x3.1, own cd24 a1 x2.length c1 x2] := H2.call H3 rfl
  refine Zr [.tuple #[.slice a2 x3.1.length c2, iV x3.2], .slice a2 x3.1.length c2, iV x3.2, .slice a2 x3.1.length c2, iV x3.2] 2 ?_
  refine Zx ?_
  refine Zk [0, 3, 4, 5] [(0, .slice acode code.length ccode), (3, .slice a1 x2.length c1), (4, .slice a2 x3.1.length c2), (5, iV x3.2)] ?_
  refine Zs ?_
  refine Run_ops ?_
  refine Zr [.slice a1 x2.length c1] 0 ?_
  obtain ⟨x4, hx4, hF⟩ := M.bind_some hF
  refine Ze ?_
  refine ZC 18 #[.slice a1 x2.length c1] (w_spec_CriticalArcs h2 x2 a1 c1 (H4.rd 1 rfl) _ _ hx4) (fun v3 h3 hp3 => ?_)
  obtain ⟨a3, c3, rfl, H5⟩ := hp3
  have H6 : Hold h h3 [own cd24 a3 x4.1.length c3 x4.1, own cd24 a2 x3.1.length c2 x3.1, own cd24 a1 x2.length c1 x2] := H4.call H5 rfl
  refine Zr [.tuple #[.slice a3 x4.1.length c3, iV x4.2], .slice a3 x4.1.length c3, iV x4.2, .slice a3 x4.1.length c3, iV x4.2] 2 ?_
  refine Zx ?_
  refine Zk [0, 3, 4, 5, 6, 7] [(0, .slice acode code.length ccode), (3, .slice a1 x2.length c1), (4, .slice a2 x3.1.length c2), (5, iV x3.2), (6, .slice a3 x4.1.length c3), (7, iV x4.2)] ?_
  refine Zs ?_
  refine Run_ops ?_
  refine Zr [.slice a1 x2.length c1] 0 ?_
  obtain ⟨x5, hx5, hF⟩ := M.bind_some hF
  refine Ze ?_
  refine ZC 9 #[.slice a1 x2.length c1] (w_impl_CriticalNodes h3 x2 a1 c1 (H6.rd 2 rfl) _ _ hx5) (fun v4 h4 hp4 => ?_)
  obtain ⟨a4, c4, rfl, H7⟩ := hp4
  have H8 : Hold h h4 [own cd2 a4 x5.1.length c4 x5.1, own cd24 a3 x4.1.length c3 x4.1, own cd24 a2 x3.1.length c2 x3.1, own cd24 a1 x2.length c1 x2] := H6.call H7 rfl
  refine Zr [.tuple #[.slice a4 x5.1.length c4, iV x5.2], .slice a4 x5.1.length c4, iV x5.2, .slice a4 x5.1.length c4, iV x5.2] 2 ?_
  refine Zx ?_
  refine Zk [0, 3, 4, 5, 6, 7, 8, 9] [(0, .slice acode code.length ccode), (3, .slice a1 x2.length c1), (4, .slice a2 x3.1.length c2), (5, iV x3.2), (6, .slice a3 x4.1.length c3), (7, iV x4.2), (8, .slice a4 x5.1.length c4), (9, iV x5.2)] ?_
  refine Zs ?_
  refine Run_ops ?_
  refine Zr [.slice a1 x2.length c1] 0 ?_
  obtain ⟨x6, hx6, hF⟩ := M.bind_some hF
  refine Ze ?_
  refine ZC 7 #[.slice a1 x2.length c1] (w_spec_CriticalNodes h4 x2 a1 c1 (H8.rd 3 rfl) _ _ hx6) (fun v5 h5 hp5 => ?_)
  obtain ⟨a5, c5, rfl, H9⟩ := hp5
  have H10 : Hold h h5 [own cd2 a5 x6.1.length c5 x6.1, own cd2 a4 x5.1.length c4 x5.1, own cd24 a3 x4.1.length c3 x4.1, own cd24 a2 x3.1.length c2 x3.1, own cd24 a1 x2.length c1 x2] := H8.call H9 rfl
  refine Zr [.tuple #[.slice a5 x6.1.length c5, iV x6.2], .slice a5 x6.1.length c5, iV x6.2, .slice a5 x6.1.length c5, iV x6.2] 2 ?_
  refine Zx ?_
  refine Zk [0, 3, 4, 5, 6, 7, 8, 9, 10, 11] [(0, .slice acode code.length ccode), (3, .slice a1 x2.length c1), (4, .slice a2 x3.1.length c2), (5, iV x3.2), (6, .slice a3 x4.1.length c3), (7, iV x4.2), (8, .slice a4 x5.1.length c4), (9, iV x5.2), (10, .slice a5 x6.1.length c5), (11, iV x6.2)] ?_
  refine Zs ?_
  refine Run_ops ?_
  refine Zr [.slice a1 x2.length c1] 0 ?_
  obtain ⟨x7, hx7, hF⟩ := M.bind_some hF
  refine Ze ?_
  refine ZC 19 #[.slice a1 x2.length c1] (w_impl_CriticalMatrix h5 x2 a1 c1 (H10.rd 4 rfl) _ _ hx7) (fun v6 h6 hp6 => ?_)
  obtain ⟨a6, c6, rfl, H11⟩ := hp6
  have H12 : Hold h h6 [own cd24 a6 x7.1.length c6 x7.1, own cd2 a5 x6.1.length c5 x6.1, own cd2 a4 x5.1.length c4 x5.1, own cd24 a3 x4.1.length c3 x4.1, own cd24 a2 x3.1.length c2 x3.1, own cd24 a1 x2.length c1 x2] := H10.call H11 rfl
  refine Zr [.tuple #[.slice a6 x7.1.length c6, iV x7.2], .slice a6 x7.1.length c6, iV x7.2, .slice a6 x7.1.length c6, iV x7.2] 2 ?_
  refine Zx ?_
  refine Zk [0, 3, 4, 5, 6, 7, 8, 9, 10, 11, 12, 13] [(0, .slice acode code.length ccode), (3, .slice a1 x2.length c1), (4, .slice a2 x3.1.length c2), (5, iV x3.2), (6, .slice a3 x4.1.length c3), (7, iV x4.2), (8, .slice a4 x5.1.length c4), (9, iV x5.2), (10, .slice a5 x6.1.length c5), (11, iV x6.2), (12, .slice a6 x7.1.length c6), (13, iV x7.2)] ?_
  refine Zs ?_
  refine Run_ops ?_
  refine Zr [.slice a1 x2.length c1] 0 ?_
  obtain ⟨x8, hx8, hF⟩ := M.bind_some hF
  refine Ze ?_
  refine ZC 20 #[.slice a1 x2.length c1] (w_spec_CriticalMatrix h6 x2 a1 c1 (H12.rd 5 rfl) _ _ hx8) (fun v7 h7 hp7 => ?_)
  obtain ⟨a7, c7, rfl, H13⟩ := hp7
  have H14 : Hold h h7 [own cd24 a7 x8.1.length c7 x8.1, own cd24 a6 x7.1.length c6 x7.1, own cd2 a5 x6.1.length c5 x6.1, own cd2 a4 x5.1.length c4 x5.1, own cd24 a3 x4.1.length c3 x4.1, own cd24 a2 x3.1.length c2 x3.1, own cd24 a1 x2.length c1 x2] := H12.call H13 rfl
  refine Zr [.tuple #[.slice a7 x8.1.length c7, iV x8.2], .slice a7 x8.1.length c7, iV x8.2, .slice a7 x8.1.length c7, iV x8.2] 2 ?_
  refine Zx ?_
  refine Zk [0, 3, 4, 5, 6, 7, 8, 9, 10, 11, 12, 13, 14, 15] [(0, .slice acode code.length ccode), (3, .slice a1 x2.length c1), (4, .slice a2 x3.1.length c2), (5, iV x3.2), (6, .slice a3 x4.1.length c3), (7, iV x4.2), (8, .slice a4 x5.1.length c4), (9, iV x5.2), (10, .slice a5 x6.1.length c5), (11, iV x6.2), (12, .slice a6 x7.1.length c6), (13, iV x7.2), (14, .slice a7 x8.1.length c7), (15, iV x8.2)] ?_
  refine Zs ?_
  refine Run_ops ?_
  refine Zr [.slice acode code.length ccode] 0 ?_
  obtain ⟨x9, hx9, hF⟩ := M.bind_some hF
  refine Ze ?_
  refine ZC 21 #[.slice acode code.length ccode] (w_spec_DrawIsCriticalCycle h7 code acode ccode (rcode.at H14.ext) _ _ hx9) (fun v8 h8 hp8 => ?_)
  obtain ⟨a8, c8, a9, c9, rfl, H15⟩ := hp8
  have H16 : Hold h h8 [own cd24 a8 x9.1.length c8 x9.1, own cd2 a9 x9.2.length c9 x9.2, own cd24 a7 x8.1.length c7 x8.1, own cd24 a6 x7.1.length c6 x7.1, own cd2 a5 x6.1.length c5 x6.1, own cd2 a4 x5.1.length c4 x5.1, own cd24 a3 x4.1.length c3 x4.1, own cd24 a2 x3.1.length c2 x3.1, own cd24 a1 x2.length c1 x2] := H14.call H15 rfl
  refine Zr [.tuple #[.slice a8 x9.1.length c8, .slice a9 x9.2.length c9], .slice a8 x9.1.length c8, .slice a9 x9.2.length c9, .slice a8 x9.1.length c8, .slice a9 x9.2.length c9] 2 ?_
  refine Zx ?_
  refine Zk [3, 4, 5, 6, 7, 8, 9, 10, 11, 12, 13, 14, 15, 16, 17] [(3, .slice a1 x2.length c1), (4, .slice a2 x3.1.length c2), (5, iV x3.2), (6, .slice a3 x4.1.length c3), (7, iV x4.2), (8, .slice a4 x5.1.length c4), (9, iV x5.2), (10, .slice a5 x6.1.length c5), (11, iV x6.2), (12, .slice a6 x7.1.length c6), (13, iV x7.2), (14, .slice a7 x8.1.length c7), (15, iV x8.2), (16, .slice a8 x9.1.length c8), (17, .slice a9 x9.2.length c9)] ?_
  refine Zs ?_
  obtain ⟨x10, hx10, hF⟩ := M.bind_some hF
  refine Run_regC (j := 8) (C := fun x => Hold h x [own cd24 a8 x9.1.length c8 x9.1, own cd2 a9 x9.2.length c9 x9.2, own cd24 a7 x8.1.length c7 x8.1, own cd24 a6 x7.1.length c6 x7.1, own cd2 a5 x6.1.length c5 x6.1, own cd2 a4 x5.1.length c4 x5.1, own cd24 a3 x4.1.length c3 x4.1, own cd24 a2 x3.1.length c2 x3.1, own cd24 a1 x2.length c1 x2]) (by kernel_rfl) H16 (L' := [(3, .slice a1 x2.length c1), (4, .slice a2 x3.1.length c2), (5, iV x3.2), (6, .slice a3 x4.1.length c3), (7, iV x4.2), (8, .slice a4 x5.1.length c4), (9, iV x5.2), (10, .slice a5 x6.1.length c5), (11, iV x6.2), (12, .slice a6 x7.1.length c6), (13, iV x7.2), (14, .slice a7 x8.1.length c7), (15, iV x8.2), (16, .slice a8 x9.1.length c8), (17, .slice a9 x9.2.length c9), (18, .bool x10.1), (19, iV x10.2)]) ?_ (fun h9 H17 => ?_)
  ·refine Zb [.slice a8 x9.1.length c8, .slice a9 x9.2.length c9] 0 ?_
   refine Zy (.tuple #[.bool x10.1, iV x10.2]) (Y_call (f := 22) (args := #[.slice a8 x9.1.length c8, .slice a9 x9.2.length c9]) (v := .tuple #[.bool x10.1, iV x10.2]) (by kernel_rfl) fun hx Hx => (w_impl_IsCriticalCycle hx x9.1 a8 c8 (Hx.rd 0 rfl) x9.2 a9 c9 (Hx.rd 1 rfl) _ _ hx10).mono fun _ _ ⟨e, H'⟩ => ⟨e, Hx.call H' rfl⟩) ?_
   refine Zb [.tuple #[.bool x10.1, iV x10.2], .bool x10.1, iV x10.2, .bool x10.1, iV x10.2] 3 ?_
   exact Zd [3, 4, 5, 6, 7, 8, 9, 10, 11, 12, 13, 14, 15, 16, 17, 18, 19]
  have H18 : Hold h h9 [own cd24 a8 x9.1.length c8 x9.1, own cd2 a9 x9.2.length c9 x9.2, own cd24 a7 x8.1.length c7 x8.1, own cd24 a6 x7.1.length c6 x7.1, own cd2 a5 x6.1.length c5 x6.1, own cd2 a4 x5.1.length c4 x5.1, own cd24 a3 x4.1.length c3 x4.1, own cd24 a2 x3.1.length c2 x3.1, own cd24 a1 x2.length c1 x2] := H17
  refine Zs ?_
  obtain ⟨x11, hx11, hF⟩ := M.bind_some hF
  refine Run_regC (j := 8) (C := fun x => Hold h x [own cd24 a8 x9.1.length c8 x9.1, own cd2 a9 x9.2.length c9 x9.2, own cd24 a7 x8.1.length c7 x8.1, own cd24 a6 x7.1.length c6 x7.1, own cd2 a5 x6.1.length c5 x6.1, own cd2 a4 x5.1.length c4 x5.1, own cd24 a3 x4.1.length c3 x4.1, own cd24 a2 x3.1.length c2 x3.1, own cd24 a1 x2.length c1 x2]) (by kernel_rfl) H18 (L' := [(3, .slice a1 x2.length c1), (4, .slice a2 x3.1.length c2), (5, iV x3.2), (6, .slice a3 x4.1.length c3), (7, iV x4.2), (8, .slice a4 x5.1.length c4), (9, iV x5.2), (10, .slice a5 x6.1.length c5), (11, iV x6.2), (12, .slice a6 x7.1.length c6), (13, iV x7.2), (14, .slice a7 x8.1.length c7), (15, iV x8.2), (16, .slice a8 x9.1.length c8), (17, .slice a9 x9.2.length c9), (18, .bool x10.1), (19, iV x10.2), (20, .bool x11.1), (21, iV x11.2)]) ?_ (fun h10 H19 => ?_)
  ·refine Zb [.slice a8 x9.1.length c8, .slice a9 x9.2.length c9] 0 ?_
   refine Zy (.tuple #[.bool x11.1, iV x11.2]) (Y_call (f := 23) (args := #[.slice a8 x9.1.length c8, .slice a9 x9.2.length c9]) (v := .tuple #[.bool x11.1, iV x11.2]) (by kernel_rfl) fun hx Hx => (w_spec_IsCriticalCycle hx x9.1 a8 c8 (Hx.rd 0 rfl) x9.2 a9 c9 (Hx.rd 1 rfl) _ _ hx11).mono fun _ _ ⟨e, H'⟩ => ⟨e, Hx.call H' rfl⟩) ?_
   refine Zb [.tuple #[.bool x11.1, iV x11.2], .bool x11.1, iV x11.2, .bool x11.1, iV x11.2] 3 ?_
   exact Zd [3, 4, 5, 6, 7, 8, 9, 10, 11, 12, 13, 14, 15, 16, 17, 18, 19, 20, 21]
  have H20 : Hold h h10 [own cd24 a8 x9.1.length c8 x9.1, own cd2 a9 x9.2.length c9 x9.2, own cd24 a7 x8.1.length c7 x8.1, own cd24 a6 x7.1.length c6 x7.1, own cd2 a5 x6.1.length c5 x6.1, own cd2 a4 x5.1.length c4 x5.1, own cd24 a3 x4.1.length c3 x4.1, own cd24 a2 x3.1.length c2 x3.1, own cd24 a1 x2.length c1 x2] := H19
  refine Zs ?_
  refine Zs ?_
  obtain ⟨x12, gx12, hF⟩ := M.bind_some hF
  obtain ⟨x15, gx15, hF⟩ := M.bind_some hF
  obtain ⟨x18, gx18, hF⟩ := M.bind_some hF
  refine Zg 41 [(3, .slice a1 x2.length c1), (4, .slice a2 x3.1.length c2), (5, iV x3.2), (8, .slice a4 x5.1.length c4), (12, .slice a6 x7.1.length c6), (16, .slice a8 x9.1.length c8), (17, .slice a9 x9.2.length c9), (18, .bool x10.1), (19, iV x10.2), (120, .bool ((x18 || (x10.2 != x11.2)) || (!(x10.1 == x11.1))))] ?_ ?_
  ·refine Zb [iV x3.2, iV x4.2, .bool (x3.2 != x4.2)] 0 ?_
   refine QRun_seq 9 [(3, .slice a1 x2.length c1), (4, .slice a2 x3.1.length c2), (5, iV x3.2), (8, .slice a4 x5.1.length c4), (9, iV x5.2), (10, .slice a5 x6.1.length c5), (11, iV x6.2), (12, .slice a6 x7.1.length c6), (13, iV x7.2), (14, .slice a7 x8.1.length c7), (15, iV x8.2), (16, .slice a8 x9.1.length c8), (17, .slice a9 x9.2.length c9), (18, .bool x10.1), (19, iV x10.2), (20, .bool x11.1), (21, iV x11.2), (88, .bool x12)] ?_ ?_
   ·rcases Bool.eq_false_or_eq_true (x3.2 != x4.2) with hb2 | hb2
    ·refine Zv (x3.2 != x4.2) true hb2 ?_
     have gx12 := M.ret_some ((M.ite_some gx12).1 hb2)
     refine Zn ?_
     refine Zn ?_
     refine Zn ?_
     refine Zn ?_
     refine Zv true x12 gx12 ?_
     exact Zd [3, 4, 5, 8, 9, 10, 11, 12, 13, 14, 15, 16, 17, 18, 19, 20, 21, 88]
    ·refine Zv (x3.2 != x4.2) false hb2 ?_
     have gx12 := (M.ite_some gx12).2 hb2
     obtain ⟨x13, hx12, gx12⟩ := M.bind_some gx12
     have gx12 := M.ret_some gx12
     refine Zb [.slice a2 x3.1.length c2, .slice a3 x4.1.length c3] 4 ?_
     refine Zy (.bool x13) (ZQ 24 #[.slice a2 x3.1.length c2, .slice a3 x4.1.length c3] (w_laws_likeTables9 h10 x3.1 a2 c2 (H20.rd 7 rfl) x4.1 a3 c3 (H20.rd 6 rfl) _ _ hx12)) ?_
     refine Zb [.bool (!x13)] 7 ?_
     refine Zv (!x13) x12 gx12 ?_
     exact Zd [3, 4, 5, 8, 9, 10, 11, 12, 13, 14, 15, 16, 17, 18, 19, 20, 21, 88]
   refine QRun_seq 14 [(3, .slice a1 x2.length c1), (4, .slice a2 x3.1.length c2), (5, iV x3.2), (8, .slice a4 x5.1.length c4), (10, .slice a5 x6.1.length c5), (12, .slice a6 x7.1.length c6), (13, iV x7.2), (14, .slice a7 x8.1.length c7), (15, iV x8.2), (16, .slice a8 x9.1.length c8), (17, .slice a9 x9.2.length c9), (18, .bool x10.1), (19, iV x10.2), (20, .bool x11.1), (21, iV x11.2), (93, .bool (x12 || (x5.2 != x6.2)))] ?_ ?_
   ·rcases Bool.eq_false_or_eq_true x12 with hb3 | hb3
    ·refine Zv x12 true hb3 ?_
     refine Zn ?_
     refine Zn ?_
     refine Zn ?_
     refine QRun_bool true (x12 || (x5.2 != x6.2)) (by kernel_rfl) (fun w => by kernel_rfl) (by rw [hb3]; rfl) ?_
     exact Zd [3, 4, 5, 8, 10, 12, 13, 14, 15, 16, 17, 18, 19, 20, 21, 93]
    ·refine Zv x12 false hb3 ?_
     refine Zb [iV x5.2, iV x6.2, .bool (x5.2 != x6.2)] 10 ?_
     refine QRun_bool (x5.2 != x6.2) (x12 || (x5.2 != x6.2)) (by kernel_rfl) (fun w => by kernel_rfl) (by rw [hb3]; rfl) ?_
     exact Zd [3, 4, 5, 8, 10, 12, 13, 14, 15, 16, 17, 18, 19, 20, 21, 93]
   refine QRun_seq 20 [(3, .slice a1 x2.length c1), (4, .slice a2 x3.1.length c2), (5, iV x3.2), (8, .slice a4 x5.1.length c4), (12, .slice a6 x7.1.length c6), (13, iV x7.2), (14, .slice a7 x8.1.length c7), (15, iV x8.2), (16, .slice a8 x9.1.length c8), (17, .slice a9 x9.2.length c9), (18, .bool x10.1), (19, iV x10.2), (20, .bool x11.1), (21, iV x11.2), (99, .bool x15)] ?_ ?_
   ·rcases Bool.eq_false_or_eq_true (x12 || (x5.2 != x6.2)) with hb4 | hb4
    ·refine Zv (x12 || (x5.2 != x6.2)) true hb4 ?_
     have gx15 := M.ret_some ((M.ite_some gx15).1 hb4)
     refine Zn ?_
     refine Zn ?_
     refine Zn ?_
     refine Zn ?_
     refine Zv true x15 gx15 ?_
     exact Zd [3, 4, 5, 8, 12, 13, 14, 15, 16, 17, 18, 19, 20, 21, 99]
    ·refine Zv (x12 || (x5.2 != x6.2)) false hb4 ?_
     have gx15 := (M.ite_some gx15).2 hb4
     obtain ⟨x16, hx13, gx15⟩ := M.bind_some gx15
     have gx15 := M.ret_some gx15
     refine Zb [.slice a4 x5.1.length c4, .slice a5 x6.1.length c5] 15 ?_
     refine Zy (.bool x16) (ZQ 25 #[.slice a4 x5.1.length c4, .slice a5 x6.1.length c5] (w_laws_likeInts h10 x5.1 a4 c4 (H20.rd 5 rfl) x6.1 a5 c5 (H20.rd 4 rfl) _ _ hx13)) ?_
     refine Zb [.bool (!x16)] 18 ?_
     refine Zv (!x16) x15 gx15 ?_
     exact Zd [3, 4, 5, 8, 12, 13, 14, 15, 16, 17, 18, 19, 20, 21, 99]
   refine QRun_seq 25 [(3, .slice a1 x2.length c1), (4, .slice a2 x3.1.length c2), (5, iV x3.2), (8, .slice a4 x5.1.length c4), (12, .slice a6 x7.1.length c6), (14, .slice a7 x8.1.length c7), (16, .slice a8 x9.1.length c8), (17, .slice a9 x9.2.length c9), (18, .bool x10.1), (19, iV x10.2), (20, .bool x11.1), (21, iV x11.2), (104, .bool (x15 || (x7.2 != x8.2)))] ?_ ?_
   ·rcases Bool.eq_false_or_eq_true x15 with hb5 | hb5
    ·refine Zv x15 true hb5 ?_
     refine Zn ?_
     refine Zn ?_
     refine Zn ?_
     refine QRun_bool true (x15 || (x7.2 != x8.2)) (by kernel_rfl) (fun w => by kernel_rfl) (by rw [hb5]; rfl) ?_
     exact Zd [3, 4, 5, 8, 12, 14, 16, 17, 18, 19, 20, 21, 104]
    ·refine Zv x15 false hb5 ?_
     refine Zb [iV x7.2, iV x8.2, .bool (x7.2 != x8.2)] 21 ?_
     refine QRun_bool (x7.2 != x8.2) (x15 || (x7.2 != x8.2)) (by kernel_rfl) (fun w => by kernel_rfl) (by rw [hb5]; rfl) ?_
     exact Zd [3, 4, 5, 8, 12, 14, 16, 17, 18, 19, 20, 21, 104]
   refine QRun_seq 31 [(3, .slice a1 x2.length c1), (4, .slice a2 x3.1.length c2), (5, iV x3.2), (8, .slice a4 x5.1.length c4), (12, .slice a6 x7.1.length c6), (16, .slice a8 x9.1.length c8), (17, .slice a9 x9.2.length c9), (18, .bool x10.1), (19, iV x10.2), (20, .bool x11.1), (21, iV x11.2), (110, .bool x18)] ?_ ?_
   ·rcases Bool.eq_false_or_eq_true (x15 || (x7.2 != x8.2)) with hb6 | hb6
    ·refine Zv (x15 || (x7.2 != x8.2)) true hb6 ?_
     have gx18 := M.ret_some ((M.ite_some gx18).1 hb6)
     refine Zn ?_
     refine Zn ?_
     refine Zn ?_
     refine Zn ?_
     refine Zv true x18 gx18 ?_
     exact Zd [3, 4, 5, 8, 12, 16, 17, 18, 19, 20, 21, 110]
    ·refine Zv (x15 || (x7.2 != x8.2)) false hb6 ?_
     have gx18 := (M.ite_some gx18).2 hb6
     obtain ⟨x19, hx14, gx18⟩ := M.bind_some gx18
     have gx18 := M.ret_some gx18
     refine Zb [.slice a6 x7.1.length c6, .slice a7 x8.1.length c7] 26 ?_
     refine Zy (.bool x19) (ZQ 24 #[.slice a6 x7.1.length c6, .slice a7 x8.1.length c7] (w_laws_likeTables9 h10 x7.1 a6 c6 (H20.rd 3 rfl) x8.1 a7 c7 (H20.rd 2 rfl) _ _ hx14)) ?_
     refine Zb [.bool (!x19)] 29 ?_
     refine Zv (!x19) x18 gx18 ?_
     exact Zd [3, 4, 5, 8, 12, 16, 17, 18, 19, 20, 21, 110]
   refine QRun_seq 36 [(3, .slice a1 x2.length c1), (4, .slice a2 x3.1.length c2), (5, iV x3.2), (8, .slice a4 x5.1.length c4), (12, .slice a6 x7.1.length c6), (16, .slice a8 x9.1.length c8), (17, .slice a9 x9.2.length c9), (18, .bool x10.1), (19, iV x10.2), (20, .bool x11.1), (115, .bool (x18 || (x10.2 != x11.2)))] ?_ ?_
   ·rcases Bool.eq_false_or_eq_true x18 with hb7 | hb7
    ·refine Zv x18 true hb7 ?_
     refine Zn ?_
     refine Zn ?_
     refine Zn ?_
     refine QRun_bool true (x18 || (x10.2 != x11.2)) (by kernel_rfl) (fun w => by kernel_rfl) (by rw [hb7]; rfl) ?_
     exact Zd [3, 4, 5, 8, 12, 16, 17, 18, 19, 20, 115]
    ·refine Zv x18 false hb7 ?_
     refine Zb [iV x10.2, iV x11.2, .bool (x10.2 != x11.2)] 32 ?_
     refine QRun_bool (x10.2 != x11.2) (x18 || (x10.2 != x11.2)) (by kernel_rfl) (fun w => by kernel_rfl) (by rw [hb7]; rfl) ?_
     exact Zd [3, 4, 5, 8, 12, 16, 17, 18, 19, 20, 115]
   refine QRun_seq 41 [(3, .slice a1 x2.length c1), (4, .slice a2 x3.1.length c2), (5, iV x3.2), (8, .slice a4 x5.1.length c4), (12, .slice a6 x7.1.length c6), (16, .slice a8 x9.1.length c8), (17, .slice a9 x9.2.length c9), (18, .bool x10.1), (19, iV x10.2), (120, .bool ((x18 || (x10.2 != x11.2)) || (!(x10.1 == x11.1))))] ?_ ?_
   ·rcases Bool.eq_false_or_eq_true (x18 || (x10.2 != x11.2)) with hb8 | hb8
    ·refine Zv (x18 || (x10.2 != x11.2)) true hb8 ?_
     refine Zn ?_
     refine Zn ?_
     refine Zn ?_
     refine QRun_bool true ((x18 || (x10.2 != x11.2)) || (!(x10.1 == x11.1))) (by kernel_rfl) (fun w => by kernel_rfl) (by rw [hb8]; rfl) ?_
     exact Zd [3, 4, 5, 8, 12, 16, 17, 18, 19, 120]
    ·refine Zv (x18 || (x10.2 != x11.2)) false hb8 ?_
     refine Zb [.bool x10.1, .bool x11.1, .bool (!(x10.1 == x11.1))] 37 ?_
     refine QRun_bool (!(x10.1 == x11.1)) ((x18 || (x10.2 != x11.2)) || (!(x10.1 == x11.1))) (by kernel_rfl) (fun w => by kernel_rfl) (by rw [hb8]; rfl) ?_
     exact Zd [3, 4, 5, 8, 12, 16, 17, 18, 19, 120]
   exact Zd [3, 4, 5, 8, 12, 16, 17, 18, 19, 120]
  refine Zc ((x18 || (x10.2 != x11.2)) || (!(x10.1 == x11.1))) (fun hb9 => ?_) (fun hb9 => ?_)
  ·have hF := (M.ite_some hF).1 hb9
   refine Zs ?_
   refine Zq [.bool false] [2] [(2, .bool false)] ?_
   have hF := M.ret_some hF
   subst hF
   have H21 : Hold h h10 [] := H20.pk []
   exact Run_ret1 rfl (Zt (.bool false)) ⟨rfl, H21⟩
  ·have hF := (M.ite_some hF).2 hb9
   refine Run_skip ?_
   refine Zs ?_
   refine Zs ?_
   obtain ⟨x22, gx22, hF⟩ := M.bind_some hF
   refine Run_regC (j := 7) (C := fun x => Hold h x [own cd24 a8 x9.1.length c8 x9.1, own cd2 a9 x9.2.length c9 x9.2, own cd24 a7 x8.1.length c7 x8.1, own cd24 a6 x7.1.length c6 x7.1, own cd2 a5 x6.1.length c5 x6.1, own cd2 a4 x5.1.length c4 x5.1, own cd24 a3 x4.1.length c3 x4.1, own cd24 a2 x3.1.length c2 x3.1, own cd24 a1 x2.length c1 x2]) (by kernel_rfl) H20 (L' := [(3, .slice a1 x2.length c1), (4, .slice a2 x3.1.length c2), (5, iV x3.2), (8, .slice a4 x5.1.length c4), (12, .slice a6 x7.1.length c6), (16, .slice a8 x9.1.length c8), (17, .slice a9 x9.2.length c9), (18, .bool x10.1), (127, .bool x22)]) ?_ (fun h11 H22 => ?_)
   ·refine Zb [iV x10.2, .bool (x10.2 == 0)] 0 ?_
    refine QRun_seq 7 [(3, .slice a1 x2.length c1), (4, .slice a2 x3.1.length c2), (5, iV x3.2), (8, .slice a4 x5.1.length c4), (12, .slice a6 x7.1.length c6), (16, .slice a8 x9.1.length c8), (17, .slice a9 x9.2.length c9), (18, .bool x10.1), (127, .bool x22)] ?_ ?_
    ·rcases Bool.eq_false_or_eq_true (x10.2 == 0) with hb10 | hb10
     ·refine Zv (x10.2 == 0) true hb10 ?_
      have gx22 := (M.ite_some gx22).1 hb10
      obtain ⟨x23, hx15, gx22⟩ := M.bind_some gx22
      have gx22 := M.ret_some gx22
      refine Zb [.slice a8 x9.1.length c8, .slice a9 x9.2.length c9] 3 ?_
      refine Zy (.bool x23) (Y_call (f := 26) (args := #[.slice a8 x9.1.length c8, .slice a9 x9.2.length c9]) (v := .bool x23) (by kernel_rfl) fun hx Hx => (w_impl_IsCycle hx x9.1 a8 c8 (Hx.rd 0 rfl) x9.2 a9 c9 (Hx.rd 1 rfl) _ _ hx15).mono fun _ _ ⟨e, H'⟩ => ⟨e, Hx.call H' rfl⟩) ?_
      refine Zv x23 x22 gx22 ?_
      exact Zd [3, 4, 5, 8, 12, 16, 17, 18, 127]
     ·refine Zv (x10.2 == 0) false hb10 ?_
      have gx22 := M.ret_some ((M.ite_some gx22).2 hb10)
      refine Zn ?_
      refine Zn ?_
      refine Zn ?_
      refine Zv false x22 gx22 ?_
      exact Zd [3, 4, 5, 8, 12, 16, 17, 18, 127]
    exact Zd [3, 4, 5, 8, 12, 16, 17, 18, 127]
   have H23 : Hold h h11 [own cd24 a8 x9.1.length c8 x9.1, own cd2 a9 x9.2.length c9 x9.2, own cd24 a7 x8.1.length c7 x8.1, own cd24 a6 x7.1.length c6 x7.1, own cd2 a5 x6.1.length c5 x6.1, own cd2 a4 x5.1.length c4 x5.1, own cd24 a3 x4.1.length c3 x4.1, own cd24 a2 x3.1.length c2 x3.1, own cd24 a1 x2.length c1 x2] := H22
   refine Zc (x22) (fun hb11 => ?_) (fun hb11 => ?_)
   ·have hF := (M.ite_some hF).1 hb11
    refine Zs ?_
    refine Run_ops ?_
    refine Zr [.slice a8 x9.1.length c8] 0 ?_
    obtain ⟨x24, hx16, hF⟩ := M.bind_some hF
    refine Ze ?_
    refine ZC 17 #[.slice a8 x9.1.length c8] (w_impl_CriticalArcs h11 x9.1 a8 c8 (H23.rd 0 rfl) _ _ hx16) (fun v9 h12 hp9 => ?_)
    obtain ⟨a10, c10, rfl, H24⟩ := hp9
    have H25 : Hold h h12 [own cd24 a10 x24.1.length c10 x24.1, own cd24 a8 x9.1.length c8 x9.1, own cd2 a9 x9.2.length c9 x9.2, own cd24 a7 x8.1.length c7 x8.1, own cd24 a6 x7.1.length c6 x7.1, own cd2 a5 x6.1.length c5 x6.1, own cd2 a4 x5.1.length c4 x5.1, own cd24 a3 x4.1.length c3 x4.1, own cd24 a2 x3.1.length c2 x3.1, own cd24 a1 x2.length c1 x2] := H23.call H24 rfl
    refine Zr [.tuple #[.slice a10 x24.1.length c10, iV x24.2], .slice a10 x24.1.length c10, iV x24.2, .slice a10 x24.1.length c10, iV x24.2] 2 ?_
    refine Zx ?_
    refine Zk [3, 4, 5, 8, 12, 17, 18, 22, 23] [(3, .slice a1 x2.length c1), (4, .slice a2 x3.1.length c2), (5, iV x3.2), (8, .slice a4 x5.1.length c4), (12, .slice a6 x7.1.length c6), (17, .slice a9 x9.2.length c9), (18, .bool x10.1), (22, .slice a10 x24.1.length c10), (23, iV x24.2)] ?_
    refine Zs ?_
    refine Zq [.bool true] [3, 4, 5, 8, 12, 17, 18, 22, 23, 24] [(3, .slice a1 x2.length c1), (4, .slice a2 x3.1.length c2), (5, iV x3.2), (8, .slice a4 x5.1.length c4), (12, .slice a6 x7.1.length c6), (17, .slice a9 x9.2.length c9), (18, .bool x10.1), (22, .slice a10 x24.1.length c10), (23, iV x24.2), (24, .bool true)] ?_
    refine Zs ?_
    refine Zs ?_
    refine Zq [iV 0] [3, 4, 5, 8, 12, 17, 18, 22, 23, 24, 25] [(3, .slice a1 x2.length c1), (4, .slice a2 x3.1.length c2), (5, iV x3.2), (8, .slice a4 x5.1.length c4), (12, .slice a6 x7.1.length c6), (17, .slice a9 x9.2.length c9), (18, .bool x10.1), (22, .slice a10 x24.1.length c10), (23, iV x24.2), (24, .bool true), (25, iV 0)] ?_
    obtain ⟨x25, gx25, hF⟩ := M.bind_some hF
    obtain ⟨hloy1, hhiy1, gx25⟩ := M.for_start gx25
    refine Run_join (fun L' h' => L' = [(3, .slice a1 x2.length c1), (4, .slice a2 x3.1.length c2), (5, iV x3.2), (8, .slice a4 x5.1.length c4), (12, .slice a6 x7.1.length c6), (18, .bool x10.1), (23, iV x24.2), (24, .bool x25)] ∧ Hold h h' [own cd24 a1 x2.length c1 x2, own cd24 a2 x3.1.length c2 x3.1, own cd2 a4 x5.1.length c4 x5.1, own cd24 a6 x7.1.length c6 x7.1]) ?_ ?_
    ·rintro _ h14 ⟨rfl, H27⟩
     refine Zs ?_
     refine Zg 7 [(3, .slice a1 x2.length c1), (4, .slice a2 x3.1.length c2), (5, iV x3.2), (8, .slice a4 x5.1.length c4), (12, .slice a6 x7.1.length c6), (186, .bool ((x24.2 != 0) || (!(x25 == x10.1))))] ?_ ?_
     ·refine Zb [iV x24.2, .bool (x24.2 != 0)] 0 ?_
      refine QRun_seq 7 [(3, .slice a1 x2.length c1), (4, .slice a2 x3.1.length c2), (5, iV x3.2), (8, .slice a4 x5.1.length c4), (12, .slice a6 x7.1.length c6), (186, .bool ((x24.2 != 0) || (!(x25 == x10.1))))] ?_ ?_
      ·rcases Bool.eq_false_or_eq_true (x24.2 != 0) with hb17 | hb17
       ·refine Zv (x24.2 != 0) true hb17 ?_
        refine Zn ?_
        refine Zn ?_
        refine Zn ?_
        refine QRun_bool true ((x24.2 != 0) || (!(x25 == x10.1))) (by kernel_rfl) (fun w => by kernel_rfl) (by rw [hb17]; rfl) ?_
        exact Zd [3, 4, 5, 8, 12, 186]
       ·refine Zv (x24.2 != 0) false hb17 ?_
        refine Zb [.bool x25, .bool x10.1, .bool (!(x25 == x10.1))] 3 ?_
        refine QRun_bool (!(x25 == x10.1)) ((x24.2 != 0) || (!(x25 == x10.1))) (by kernel_rfl) (fun w => by kernel_rfl) (by rw [hb17]; rfl) ?_
        exact Zd [3, 4, 5, 8, 12, 186]
      exact Zd [3, 4, 5, 8, 12, 186]
     refine Zc ((x24.2 != 0) || (!(x25 == x10.1))) (fun hb18 => ?_) (fun hb18 => ?_)
     ·have hF := (M.ite_some hF).1 hb18
      refine Zs ?_
      refine Zq [.bool false] [2] [(2, .bool false)] ?_
      have hF := M.ret_some hF
      subst hF
      have H38 : Hold h h14 [] := H27.pk []
      exact Run_ret1 rfl (Zt (.bool false)) ⟨rfl, H38⟩
     ·have hF := (M.ite_some hF).2 hb18
      refine Run_skip ?_
      refine Zs ?_
      refine Zs ?_
      refine Zq [iV 0] [3, 4, 5, 8, 12, 28] [(3, .slice a1 x2.length c1), (4, .slice a2 x3.1.length c2), (5, iV x3.2), (8, .slice a4 x5.1.length c4), (12, .slice a6 x7.1.length c6), (28, iV 0)] ?_
      obtain ⟨x37, gx37, hF⟩ := M.bind_some hF
      refine Run_join (fun L' h' => ∃ (s4 : Int), x37 = .inl s4 ∧ L' = [] ∧ Hold h h' []) ?_ ?_
      ·rintro _ h18 ⟨s4, es4, rfl, H40⟩
       have hF := M.cont_inl' hF es4
       refine Zs ?_
       refine Zq [.bool true] [2] [(2, .bool true)] ?_
       have hF := M.ret_some hF
       subst hF
       exact Run_ret1 rfl (Zt (.bool true)) ⟨rfl, H40⟩
      ·refine Run_block ?_
       refine Zk [3, 4, 5, 8, 12, 28] [(3, .slice a1 x2.length c1), (4, .slice a2 x3.1.length c2), (5, iV x3.2), (8, .slice a4 x5.1.length c4), (12, .slice a6 x7.1.length c6), (28, iV 0)] ?_
       refine Run_loop (fun m L' h' => ∃ (s3 : Int), M.loopN _ n m s3 = some x37 ∧ L' = [(3, .slice a1 x2.length c1), (4, .slice a2 x3.1.length c2), (5, iV x3.2), (8, .slice a4 x5.1.length c4), (12, .slice a6 x7.1.length c6), (28, iV s3)] ∧ Hold h h' [own cd24 a1 x2.length c1 x2, own cd24 a2 x3.1.length c2 x3.1, own cd2 a4 x5.1.length c4 x5.1, own cd24 a6 x7.1.length c6 x7.1]) n ⟨0, gx37, rfl, H27⟩ ?_
       rintro my3 _ h17 ⟨s3, gx37, rfl, H39⟩
       obtain ⟨my3, y3, rfl, hB3, hgoy3, houty3⟩ := M.loop_some gx37
       refine Zs ?_
       refine Zs ?_
       refine Zg 8 [(3, .slice a1 x2.length c1), (4, .slice a2 x3.1.length c2), (5, iV x3.2), (8, .slice a4 x5.1.length c4), (12, .slice a6 x7.1.length c6), (28, iV s3), (194, .bool ((x3.2 == 0) && (decide (s3 < (x3.1.length : Int)))))] ?_ ?_
       ·refine Zb [iV x3.2, .bool (x3.2 == 0)] 0 ?_
        refine QRun_seq 8 [(3, .slice a1 x2.length c1), (4, .slice a2 x3.1.length c2), (5, iV x3.2), (8, .slice a4 x5.1.length c4), (12, .slice a6 x7.1.length c6), (28, iV s3), (194, .bool ((x3.2 == 0) && (decide (s3 < (x3.1.length : Int)))))] ?_ ?_
        ·rcases Bool.eq_false_or_eq_true (x3.2 == 0) with hb19 | hb19
         ·refine Zv (x3.2 == 0) true hb19 ?_
          refine Zb [iV s3, .slice a2 x3.1.length c2, iV (x3.1.length : Int), .bool (decide (s3 < (x3.1.length : Int)))] 3 ?_
          refine QRun_bool (decide (s3 < (x3.1.length : Int))) ((x3.2 == 0) && (decide (s3 < (x3.1.length : Int)))) (by kernel_rfl) (fun w => by kernel_rfl) (by rw [hb19]; rfl) ?_
          exact Zd [3, 4, 5, 8, 12, 28, 194]
         ·refine Zv (x3.2 == 0) false hb19 ?_
          refine Zn ?_
          refine Zn ?_
          refine Zn ?_
          refine Zn ?_
          refine QRun_bool false ((x3.2 == 0) && (decide (s3 < (x3.1.length : Int)))) (by kernel_rfl) (fun w => by kernel_rfl) (by rw [hb19]; rfl) ?_
          exact Zd [3, 4, 5, 8, 12, 28, 194]
        exact Zd [3, 4, 5, 8, 12, 28, 194]
       refine Zc ((x3.2 == 0) && (decide (s3 < (x3.1.length : Int)))) (fun hb20 => ?_) (fun hb20 => ?_)
       ·have hB3 := (M.ite_some hB3).1 hb20
        refine Run_skip ?_
        refine Zs ?_
        refine Run_block ?_
        refine Zs ?_
        obtain ⟨x39, hx23, hB3⟩ := M.bind_some hB3
        obtain ⟨hx23l, hx23u, hx23⟩ := M.idx_some hx23
        have H41 : Hold h h17 [own cd24 a2 x3.1.length c2 x3.1, own cd24 a1 x2.length c1 x2, own cd2 a4 x5.1.length c4 x5.1, own cd24 a6 x7.1.length c6 x7.1] := H39.pk [1, 0, 2, 3]
        have H42 := H41.toRows
        obtain ⟨a13, c13, H43⟩ := H42.pinRow hx23
        have H44 : Hold h h17 [own cd24 a1 x2.length c1 x2, rowsP cd2 24 a2 x3.1.length c2 x3.1 [(s3.toNat, a13, x39.length, c13, x39)], own cd2 a4 x5.1.length c4 x5.1, own cd24 a6 x7.1.length c6 x7.1] := H43.pk [1, 0, 2, 3]
        obtain ⟨x40, hx24, hB3⟩ := M.bind_some hB3
        obtain ⟨hx24l, hx24u, hx24⟩ := M.idx_some hx24
        obtain ⟨x41, hx25, hB3⟩ := M.bind_some hB3
        obtain ⟨x42, gx42, hB3⟩ := M.bind_some hB3
        obtain ⟨x46, gx46, hB3⟩ := M.bind_some hB3
        refine Run_draw 57 mixed (by kernel_rfl) (by kernel_rfl) (L' := [(3, .slice a1 x2.length c1), (4, .slice a2 x3.1.length c2), (5, iV x3.2), (8, .slice a4 x5.1.length c4), (12, .slice a6 x7.1.length c6), (28, iV s3), (253, .bool x46)]) ?_ ?_
        ·refine Zb [.slice a4 x5.1.length c4, .slice a2 x3.1.length c2, iV s3] 0 ?_
         refine Zy (.pointer (some (adr a2 (s3.toNat * 1)))) (Zi 22 24 1 (a2) (x3.1.length) (c2) .i64 (s3) Tryz.underlying22 ((H39.rd 1 rfl).cell hx23).1 hx23l hx23u) ?_
         refine Zy (.slice a13 x39.length c13) (Zl 24 (adr a2 (s3.toNat * 1)) (.slice a13 x39.length c13) (H44.cellPin 1 rfl 0 rfl)) ?_
         refine Zy (.pointer (some (adr a13 (0 * 1)))) (Zi 24 2 1 (a13) (x39.length) (c13) .i64 (0) Tryz.underlying24 ((H44.rdPin 1 rfl 0 rfl).cell hx24).1 hx24l hx24u) ?_
         refine Zy (iV x40) (Zl 2 (adr a13 (0 * 1)) (iV x40) (cd2_cell (H44.rdPin 1 rfl 0 rfl) hx24)) ?_
         refine Zy (.bool x41) (ZQ 27 #[.slice a4 x5.1.length c4, iV x40] (w_laws_hasInt h17 x5.1 a4 c4 (H44.rd 2 rfl) x40 _ _ hx25)) ?_
         refine Zb [.bool (!x41)] 8 ?_
         refine QRun_seq 20 [(3, .slice a1 x2.length c1), (4, .slice a2 x3.1.length c2), (5, iV x3.2), (8, .slice a4 x5.1.length c4), (12, .slice a6 x7.1.length c6), (28, iV s3), (216, .bool x42)] ?_ ?_
         ·rcases Bool.eq_false_or_eq_true (!x41) with hb21 | hb21
          ·refine Zv (!x41) true hb21 ?_
           have gx42 := M.ret_some ((M.ite_some gx42).1 hb21)
           refine Zn ?_
           refine Zn ?_
           refine Zn ?_
           refine Zn ?_
           refine Zn ?_
           refine Zn ?_
           refine Zn ?_
           refine Zn ?_
           refine Zn ?_
           refine Zv true x42 gx42 ?_
           exact Zd [3, 4, 5, 8, 12, 28, 216]
          ·refine Zv (!x41) false hb21 ?_
           have gx42 := (M.ite_some gx42).2 hb21
           obtain ⟨x43, hx26, gx42⟩ := M.bind_some gx42
           obtain ⟨hx26l, hx26u, hx26⟩ := M.idx_some hx26
           have H45 : Hold h h17 [rowsP cd2 24 a2 x3.1.length c2 x3.1 [(s3.toNat, a13, x39.length, c13, x39)], own cd24 a1 x2.length c1 x2, own cd2 a4 x5.1.length c4 x5.1, own cd24 a6 x7.1.length c6 x7.1] := H44.pk [1, 0, 2, 3]
           obtain ⟨a14, c14, H46⟩ := H45.pinRow hx26
           have H47 : Hold h h17 [own cd24 a1 x2.length c1 x2, rowsP cd2 24 a2 x3.1.length c2 x3.1 [(s3.toNat, a14, x43.length, c14, x43), (s3.toNat, a13, x39.length, c13, x39)], own cd2 a4 x5.1.length c4 x5.1, own cd24 a6 x7.1.length c6 x7.1] := H46.pk [1, 0, 2, 3]
           obtain ⟨x44, hx27, gx42⟩ := M.bind_some gx42
           obtain ⟨hx27l, hx27u, hx27⟩ := M.idx_some hx27
           obtain ⟨x45, hx28, gx42⟩ := M.bind_some gx42
           have gx42 := M.ret_some gx42
           refine Zb [.slice a4 x5.1.length c4, .slice a2 x3.1.length c2, iV s3] 10 ?_
           refine Zy (.pointer (some (adr a2 (s3.toNat * 1)))) (Zi 22 24 1 (a2) (x3.1.length) (c2) .i64 (s3) Tryz.underlying22 ((H44.rdRows 1 rfl).cell hx26).1 hx26l hx26u) ?_
           refine Zy (.slice a14 x43.length c14) (Zl 24 (adr a2 (s3.toNat * 1)) (.slice a14 x43.length c14) (H47.cellPin 1 rfl 0 rfl)) ?_
           refine Zy (.pointer (some (adr a14 (1 * 1)))) (Zi 24 2 1 (a14) (x43.length) (c14) .i64 (1) Tryz.underlying24 ((H47.rdPin 1 rfl 0 rfl).cell hx27).1 hx27l hx27u) ?_
           refine Zy (iV x44) (Zl 2 (adr a14 (1 * 1)) (iV x44) (cd2_cell (H47.rdPin 1 rfl 0 rfl) hx27)) ?_
           refine Zy (.bool x45) (ZQ 27 #[.slice a4 x5.1.length c4, iV x44] (w_laws_hasInt h17 x5.1 a4 c4 (H47.rd 2 rfl) x44 _ _ hx28)) ?_
           refine Zb [.bool (!x45)] 18 ?_
           refine Zv (!x45) x42 gx42 ?_
           exact Zd [3, 4, 5, 8, 12, 28, 216]
         refine QRun_seq 57 [(3, .slice a1 x2.length c1), (4, .slice a2 x3.1.length c2), (5, iV x3.2), (8, .slice a4 x5.1.length c4), (12, .slice a6 x7.1.length c6), (28, iV s3), (253, .bool x46)] ?_ ?_
         ·rcases Bool.eq_false_or_eq_true x42 with hb22 | hb22
          ·refine Zv x42 true hb22 ?_
           have gx46 := M.ret_some ((M.ite_some gx46).1 hb22)
           refine Zn ?_
           refine Zn ?_
           refine Zn ?_
           refine Zn ?_
           refine Zn ?_
           refine Zn ?_
           refine Zn ?_
           refine Zn ?_
           refine Zn ?_
           refine Zn ?_
           refine Zn ?_
           refine Zn ?_
           refine Zn ?_
           refine Zn ?_
           refine Zn ?_
           refine Zn ?_
           refine Zn ?_
           refine Zn ?_
           refine Zn ?_
           refine Zn ?_
           refine Zn ?_
           refine Zn ?_
           refine Zn ?_
           refine Zn ?_
           refine Zn ?_
           refine Zn ?_
           refine Zn ?_
           refine Zn ?_
           refine Zn ?_
           refine Zn ?_
           refine Zn ?_
           refine Zn ?_
           refine Zn ?_
           refine Zn ?_
           refine Zn ?_
           refine Zv true x46 gx46 ?_
           exact Zd [3, 4, 5, 8, 12, 28, 253]
          ·refine Zv x42 false hb22 ?_
           have gx46 := (M.ite_some gx46).2 hb22
           obtain ⟨x47, hx29, gx46⟩ := M.bind_some gx46
           obtain ⟨hx29l, hx29u, hx29⟩ := M.idx_some hx29
           have H48 : Hold h h17 [rowsP cd2 24 a2 x3.1.length c2 x3.1 [(s3.toNat, a13, x39.length, c13, x39)], own cd24 a1 x2.length c1 x2, own cd2 a4 x5.1.length c4 x5.1, own cd24 a6 x7.1.length c6 x7.1] := H44.pk [1, 0, 2, 3]
           obtain ⟨a15, c15, H49⟩ := H48.pinRow hx29
           have H50 : Hold h h17 [own cd24 a1 x2.length c1 x2, rowsP cd2 24 a2 x3.1.length c2 x3.1 [(s3.toNat, a15, x47.length, c15, x47), (s3.toNat, a13, x39.length, c13, x39)], own cd2 a4 x5.1.length c4 x5.1, own cd24 a6 x7.1.length c6 x7.1] := H49.pk [1, 0, 2, 3]
           obtain ⟨x48, hx30, gx46⟩ := M.bind_some gx46
           obtain ⟨hx30l, hx30u, hx30⟩ := M.idx_some hx30
           obtain ⟨x49, hx31, gx46⟩ := M.bind_some gx46
           obtain ⟨hx31l, hx31u, hx31⟩ := M.idx_some hx31
           have H51 : Hold h h17 [own cd24 a6 x7.1.length c6 x7.1, own cd24 a1 x2.length c1 x2, rowsP cd2 24 a2 x3.1.length c2 x3.1 [(s3.toNat, a15, x47.length, c15, x47), (s3.toNat, a13, x39.length, c13, x39)], own cd2 a4 x5.1.length c4 x5.1] := H50.pk [3, 0, 1, 2]
           have H52 := H51.toRows
           obtain ⟨a16, c16, H53⟩ := H52.pinRow hx31
           have H54 : Hold h h17 [own cd24 a1 x2.length c1 x2, rowsP cd2 24 a2 x3.1.length c2 x3.1 [(s3.toNat, a15, x47.length, c15, x47), (s3.toNat, a13, x39.length, c13, x39)], own cd2 a4 x5.1.length c4 x5.1, rowsP cd2 24 a6 x7.1.length c6 x7.1 [(x48.toNat, a16, x49.length, c16, x49)]] := H53.pk [1, 2, 3, 0]
           obtain ⟨x50, hx32, gx46⟩ := M.bind_some gx46
           obtain ⟨hx32l, hx32u, hx32⟩ := M.idx_some hx32
           have H55 : Hold h h17 [rowsP cd2 24 a2 x3.1.length c2 x3.1 [(s3.toNat, a15, x47.length, c15, x47), (s3.toNat, a13, x39.length, c13, x39)], own cd24 a1 x2.length c1 x2, own cd2 a4 x5.1.length c4 x5.1, rowsP cd2 24 a6 x7.1.length c6 x7.1 [(x48.toNat, a16, x49.length, c16, x49)]] := H54.pk [1, 0, 2, 3]
           obtain ⟨a17, c17, H56⟩ := H55.pinRow hx32
           have H57 : Hold h h17 [own cd24 a1 x2.length c1 x2, rowsP cd2 24 a2 x3.1.length c2 x3.1 [(s3.toNat, a17, x50.length, c17, x50), (s3.toNat, a15, x47.length, c15, x47), (s3.toNat, a13, x39.length, c13, x39)], own cd2 a4 x5.1.length c4 x5.1, rowsP cd2 24 a6 x7.1.length c6 x7.1 [(x48.toNat, a16, x49.length, c16, x49)]] := H56.pk [1, 0, 2, 3]
           obtain ⟨x51, hx33, gx46⟩ := M.bind_some gx46
           obtain ⟨hx33l, hx33u, hx33⟩ := M.idx_some hx33
           obtain ⟨x52, hx34, gx46⟩ := M.bind_some gx46
           obtain ⟨hx34l, hx34u, hx34⟩ := M.idx_some hx34
           obtain ⟨x53, hx35, gx46⟩ := M.bind_some gx46
           obtain ⟨hx35l, hx35u, hx35⟩ := M.idx_some hx35
           have H58 : Hold h h17 [rowsP cd2 24 a2 x3.1.length c2 x3.1 [(s3.toNat, a17, x50.length, c17, x50), (s3.toNat, a15, x47.length, c15, x47), (s3.toNat, a13, x39.length, c13, x39)], own cd24 a1 x2.length c1 x2, own cd2 a4 x5.1.length c4 x5.1, rowsP cd2 24 a6 x7.1.length c6 x7.1 [(x48.toNat, a16, x49.length, c16, x49)]] := H57.pk [1, 0, 2, 3]
           obtain ⟨a18, c18, H59⟩ := H58.pinRow hx35
           have H60 : Hold h h17 [own cd24 a1 x2.length c1 x2, rowsP cd2 24 a2 x3.1.length c2 x3.1 [(s3.toNat, a18, x53.length, c18, x53), (s3.toNat, a17, x50.length, c17, x50), (s3.toNat, a15, x47.length, c15, x47), (s3.toNat, a13, x39.length, c13, x39)], own cd2 a4 x5.1.length c4 x5.1, rowsP cd2 24 a6 x7.1.length c6 x7.1 [(x48.toNat, a16, x49.length, c16, x49)]] := H59.pk [1, 0, 2, 3]
           obtain ⟨x54, hx36, gx46⟩ := M.bind_some gx46
           obtain ⟨hx36l, hx36u, hx36⟩ := M.idx_some hx36
           obtain ⟨x55, hx37, gx46⟩ := M.bind_some gx46
           obtain ⟨hx37l, hx37u, hx37⟩ := M.idx_some hx37
           have H61 := H60.toRows
           obtain ⟨a19, c19, H62⟩ := H61.pinRow hx37
           obtain ⟨x56, hx38, gx46⟩ := M.bind_some gx46
           obtain ⟨hx38l, hx38u, hx38⟩ := M.idx_some hx38
           have H63 : Hold h h17 [rowsP cd2 24 a2 x3.1.length c2 x3.1 [(s3.toNat, a18, x53.length, c18, x53), (s3.toNat, a17, x50.length, c17, x50), (s3.toNat, a15, x47.length, c15, x47), (s3.toNat, a13, x39.length, c13, x39)], rowsP cd2 24 a1 x2.length c1 x2 [(x54.toNat, a19, x55.length, c19, x55)], own cd2 a4 x5.1.length c4 x5.1, rowsP cd2 24 a6 x7.1.length c6 x7.1 [(x48.toNat, a16, x49.length, c16, x49)]] := H62.pk [1, 0, 2, 3]
           obtain ⟨a20, c20, H64⟩ := H63.pinRow hx38
           have H65 : Hold h h17 [rowsP cd2 24 a1 x2.length c1 x2 [(x54.toNat, a19, x55.length, c19, x55)], rowsP cd2 24 a2 x3.1.length c2 x3.1 [(s3.toNat, a20, x56.length, c20, x56), (s3.toNat, a18, x53.length, c18, x53), (s3.toNat, a17, x50.length, c17, x50), (s3.toNat, a15, x47.length, c15, x47), (s3.toNat, a13, x39.length, c13, x39)], own cd2 a4 x5.1.length c4 x5.1, rowsP cd2 24 a6 x7.1.length c6 x7.1 [(x48.toNat, a16, x49.length, c16, x49)]] := H64.pk [1, 0, 2, 3]
           obtain ⟨x57, hx39, gx46⟩ := M.bind_some gx46
           obtain ⟨hx39l, hx39u, hx39⟩ := M.idx_some hx39
           obtain ⟨x58, hx40, gx46⟩ := M.bind_some gx46
           obtain ⟨hx40l, hx40u, hx40⟩ := M.idx_some hx40
           have gx46 := M.ret_some gx46
           refine Zb [.slice a6 x7.1.length c6, .slice a2 x3.1.length c2, iV s3] 21 ?_
           refine Zy (.pointer (some (adr a2 (s3.toNat * 1)))) (Zi 22 24 1 (a2) (x3.1.length) (c2) .i64 (s3) Tryz.underlying22 ((H44.rdRows 1 rfl).cell hx29).1 hx29l hx29u) ?_
           refine Zy (.slice a15 x47.length c15) (Zl 24 (adr a2 (s3.toNat * 1)) (.slice a15 x47.length c15) (H50.cellPin 1 rfl 0 rfl)) ?_
           refine Zy (.pointer (some (adr a15 (1 * 1)))) (Zi 24 2 1 (a15) (x47.length) (c15) .i64 (1) Tryz.underlying24 ((H50.rdPin 1 rfl 0 rfl).cell hx30).1 hx30l hx30u) ?_
           refine Zy (iV x48) (Zl 2 (adr a15 (1 * 1)) (iV x48) (cd2_cell (H50.rdPin 1 rfl 0 rfl) hx30)) ?_
           refine Zy (.pointer (some (adr a6 (x48.toNat * 1)))) (Zi 22 24 1 (a6) (x7.1.length) (c6) .i64 (x48) Tryz.underlying22 ((H50.rd 3 rfl).cell hx31).1 hx31l hx31u) ?_
           refine Zy (.slice a16 x49.length c16) (Zl 24 (adr a6 (x48.toNat * 1)) (.slice a16 x49.length c16) (H54.cellPin 3 rfl 0 rfl)) ?_
           refine Zb [.slice a2 x3.1.length c2, iV s3] 30 ?_
           refine Zy (.pointer (some (adr a2 (s3.toNat * 1)))) (Zi 22 24 1 (a2) (x3.1.length) (c2) .i64 (s3) Tryz.underlying22 ((H54.rdRows 1 rfl).cell hx32).1 hx32l hx32u) ?_
           refine Zy (.slice a17 x50.length c17) (Zl 24 (adr a2 (s3.toNat * 1)) (.slice a17 x50.length c17) (H57.cellPin 1 rfl 0 rfl)) ?_
           refine Zy (.pointer (some (adr a17 (0 * 1)))) (Zi 24 2 1 (a17) (x50.length) (c17) .i64 (0) Tryz.underlying24 ((H57.rdPin 1 rfl 0 rfl).cell hx33).1 hx33l hx33u) ?_
           refine Zy (iV x51) (Zl 2 (adr a17 (0 * 1)) (iV x51) (cd2_cell (H57.rdPin 1 rfl 0 rfl) hx33)) ?_
           refine Zy (.pointer (some (adr a16 (x51.toNat * 1)))) (Zi 24 2 1 (a16) (x49.length) (c16) .i64 (x51) Tryz.underlying24 ((H57.rdPin 3 rfl 0 rfl).cell hx34).1 hx34l hx34u) ?_
           refine Zy (iV x52) (Zl 2 (adr a16 (x51.toNat * 1)) (iV x52) (cd2_cell (H57.rdPin 3 rfl 0 rfl) hx34)) ?_
           refine Zb [.slice a1 x2.length c1, .slice a2 x3.1.length c2, iV s3] 38 ?_
           refine Zy (.pointer (some (adr a2 (s3.toNat * 1)))) (Zi 22 24 1 (a2) (x3.1.length) (c2) .i64 (s3) Tryz.underlying22 ((H57.rdRows 1 rfl).cell hx35).1 hx35l hx35u) ?_
           refine Zy (.slice a18 x53.length c18) (Zl 24 (adr a2 (s3.toNat * 1)) (.slice a18 x53.length c18) (H60.cellPin 1 rfl 0 rfl)) ?_
           refine Zy (.pointer (some (adr a18 (1 * 1)))) (Zi 24 2 1 (a18) (x53.length) (c18) .i64 (1) Tryz.underlying24 ((H60.rdPin 1 rfl 0 rfl).cell hx36).1 hx36l hx36u) ?_
           refine Zy (iV x54) (Zl 2 (adr a18 (1 * 1)) (iV x54) (cd2_cell (H60.rdPin 1 rfl 0 rfl) hx36)) ?_
           refine Zy (.pointer (some (adr a1 (x54.toNat * 1)))) (Zi 22 24 1 (a1) (x2.length) (c1) .i64 (x54) Tryz.underlying22 ((H60.rd 0 rfl).cell hx37).1 hx37l hx37u) ?_
           refine Zy (.slice a19 x55.length c19) (Zl 24 (adr a1 (x54.toNat * 1)) (.slice a19 x55.length c19) (H62.cellPin 0 rfl 0 rfl)) ?_
           refine Zb [.slice a2 x3.1.length c2, iV s3] 47 ?_
           refine Zy (.pointer (some (adr a2 (s3.toNat * 1)))) (Zi 22 24 1 (a2) (x3.1.length) (c2) .i64 (s3) Tryz.underlying22 ((H62.rdRows 1 rfl).cell hx38).1 hx38l hx38u) ?_
           refine Zy (.slice a20 x56.length c20) (Zl 24 (adr a2 (s3.toNat * 1)) (.slice a20 x56.length c20) (H65.cellPin 1 rfl 0 rfl)) ?_
           refine Zy (.pointer (some (adr a20 (0 * 1)))) (Zi 24 2 1 (a20) (x56.length) (c20) .i64 (0) Tryz.underlying24 ((H65.rdPin 1 rfl 0 rfl).cell hx39).1 hx39l hx39u) ?_
           refine Zy (iV x57) (Zl 2 (adr a20 (0 * 1)) (iV x57) (cd2_cell (H65.rdPin 1 rfl 0 rfl) hx39)) ?_
           refine Zy (.pointer (some (adr a19 (x57.toNat * 1)))) (Zi 24 2 1 (a19) (x55.length) (c19) .i64 (x57) Tryz.underlying24 ((H65.rdPin 0 rfl 0 rfl).cell hx40).1 hx40l hx40u) ?_
           refine Zy (iV x58) (Zl 2 (adr a19 (x57.toNat * 1)) (iV x58) (cd2_cell (H65.rdPin 0 rfl 0 rfl) hx40)) ?_
           refine Zb [.bool (x52 != x58)] 55 ?_
           refine Zv (x52 != x58) x46 gx46 ?_
           exact Zd [3, 4, 5, 8, 12, 28, 253]
         exact Zd [3, 4, 5, 8, 12, 28, 253]
        refine Zc (x46) (fun hb23 => ?_) (fun hb23 => ?_)
        ·have hB3 := (M.ite_some hB3).1 hb23
         refine Zs ?_
         refine Zq [.bool false] [2] [(2, .bool false)] ?_
         have hB3 := M.ret_some hB3
         have gx37 := houty3 _ hB3.symm
         have hF := M.cont_inr' hF gx37
         have hF := M.ret_some hF
         subst hF
         have H66 : Hold h h17 [] := H44.pk []
         exact Run_ret1 rfl (Zt (.bool false)) ⟨rfl, H66⟩
        ·have hB3 := (M.ite_some hB3).2 hb23
         refine Run_skip ?_
         refine Run_blk ?_
         refine Zq [iV s3, iV (w64 (s3 + 1)), iV (w64 (s3 + 1))] [3, 4, 5, 8, 12, 28] [(3, .slice a1 x2.length c1), (4, .slice a2 x3.1.length c2), (5, iV x3.2), (8, .slice a4 x5.1.length c4), (12, .slice a6 x7.1.length c6), (28, iV (w64 (s3 + 1)))] ?_
         have H67 : Hold h h17 [rowsP cd2 24 a2 x3.1.length c2 x3.1 [(s3.toNat, a13, x39.length, c13, x39)], own cd24 a1 x2.length c1 x2, own cd2 a4 x5.1.length c4 x5.1, own cd24 a6 x7.1.length c6 x7.1] := H44.pk [1, 0, 2, 3]
         have H68 := H67.ofRows
         have H69 : Hold h h17 [own cd24 a1 x2.length c1 x2, own cd24 a2 x3.1.length c2 x3.1, own cd2 a4 x5.1.length c4 x5.1, own cd24 a6 x7.1.length c6 x7.1] := H68.pk [1, 0, 2, 3]
         have hB3 := M.ret_some hB3
         have gx37 := hgoy3 _ hB3.symm
         exact Za [3, 4, 5, 8, 12, 28] my3 ⟨(w64 (s3 + 1)), gx37, rfl, H69⟩
       ·have hB3 := (M.ite_some hB3).2 hb20
        refine Run_exit (k' := _) rfl ?_
        have H70 : Hold h h17 [] := H39.pk []
        have hB3 := M.ret_some hB3
        have gx37 := houty3 _ hB3.symm
        subst gx37
        exact Zf [] ⟨s3, rfl, rfl, H70⟩
    ·refine Run_block ?_
     have H71 : Hold h h12 [own cd24 a1 x2.length c1 x2, own cd24 a2 x3.1.length c2 x3.1, own cd2 a4 x5.1.length c4 x5.1, own cd24 a6 x7.1.length c6 x7.1, own cd2 a9 x9.2.length c9 x9.2, own cd24 a10 x24.1.length c10 x24.1] := H25.pk [9, 8, 6, 4, 2, 0]
     refine Zk [3, 4, 5, 8, 12, 17, 18, 22, 23, 24, 25] [(3, .slice a1 x2.length c1), (4, .slice a2 x3.1.length c2), (5, iV x3.2), (8, .slice a4 x5.1.length c4), (12, .slice a6 x7.1.length c6), (17, .slice a9 x9.2.length c9), (18, .bool x10.1), (22, .slice a10 x24.1.length c10), (23, iV x24.2), (24, .bool true), (25, iV 0)] ?_
     refine Run_loop (fun m L' h' => ∃ (i1 : Int) (s1 : Bool), 0 ≤ i1 ∧ M.forN (x9.2.length : Int) _ _ n m i1 s1 = some x25 ∧ L' = [(3, .slice a1 x2.length c1), (4, .slice a2 x3.1.length c2), (5, iV x3.2), (8, .slice a4 x5.1.length c4), (12, .slice a6 x7.1.length c6), (17, .slice a9 x9.2.length c9), (18, .bool x10.1), (22, .slice a10 x24.1.length c10), (23, iV x24.2), (24, .bool s1), (25, iV i1)] ∧ Hold h h' [own cd24 a1 x2.length c1 x2, own cd24 a2 x3.1.length c2 x3.1, own cd2 a4 x5.1.length c4 x5.1, own cd24 a6 x7.1.length c6 x7.1, own cd2 a9 x9.2.length c9 x9.2, own cd24 a10 x24.1.length c10 x24.1]) ((x9.2.length : Int) - 0 : Int).toNat ⟨0, true, Int.le_refl _, gx25, rfl, H71⟩ ?_
     rintro my1 _ h13 ⟨i1, s1, hloy1', gx25, rfl, H26⟩
     refine Zs ?_
     refine Zs ?_
     refine Zq [iV i1, .slice a9 x9.2.length c9, iV (x9.2.length : Int), .bool (decide (i1 < (x9.2.length : Int)))] [3, 4, 5, 8, 12, 17, 18, 22, 23, 24, 25, 136] [(3, .slice a1 x2.length c1), (4, .slice a2 x3.1.length c2), (5, iV x3.2), (8, .slice a4 x5.1.length c4), (12, .slice a6 x7.1.length c6), (17, .slice a9 x9.2.length c9), (18, .bool x10.1), (22, .slice a10 x24.1.length c10), (23, iV x24.2), (24, .bool s1), (25, iV i1), (136, .bool (decide (i1 < (x9.2.length : Int))))] ?_
     refine Zc (decide (i1 < (x9.2.length : Int))) (fun hb12 => ?_) (fun hb12 => ?_)
     ·obtain ⟨my1, y1, rfl, hB1, hgoy1, houty1⟩ := M.for_go gx25 hb12
      have hlty1 := of_decide_eq_true hb12
      refine Run_skip ?_
      refine Zs ?_
      refine Run_block ?_
      refine Zs ?_
      refine Zq [.bool false] [3, 4, 5, 8, 12, 17, 18, 22, 23, 24, 25, 26] [(3, .slice a1 x2.length c1), (4, .slice a2 x3.1.length c2), (5, iV x3.2), (8, .slice a4 x5.1.length c4), (12, .slice a6 x7.1.length c6), (17, .slice a9 x9.2.length c9), (18, .bool x10.1), (22, .slice a10 x24.1.length c10), (23, iV x24.2), (24, .bool s1), (25, iV i1), (26, .bool false)] ?_
      refine Zs ?_
      refine Zs ?_
      refine Zq [iV 0] [3, 4, 5, 8, 12, 17, 18, 22, 23, 24, 25, 26, 27] [(3, .slice a1 x2.length c1), (4, .slice a2 x3.1.length c2), (5, iV x3.2), (8, .slice a4 x5.1.length c4), (12, .slice a6 x7.1.length c6), (17, .slice a9 x9.2.length c9), (18, .bool x10.1), (22, .slice a10 x24.1.length c10), (23, iV x24.2), (24, .bool s1), (25, iV i1), (26, .bool false), (27, iV 0)] ?_
      obtain ⟨x26, gx26, hB1⟩ := M.bind_some hB1
      obtain ⟨hloy2, hhiy2, gx26⟩ := M.for_start gx26
      refine Run_join (fun L' h' => L' = [(3, .slice a1 x2.length c1), (4, .slice a2 x3.1.length c2), (5, iV x3.2), (8, .slice a4 x5.1.length c4), (12, .slice a6 x7.1.length c6), (17, .slice a9 x9.2.length c9), (18, .bool x10.1), (22, .slice a10 x24.1.length c10), (23, iV x24.2), (24, .bool s1), (25, iV i1), (26, .bool x26)] ∧ Hold h h' [own cd24 a1 x2.length c1 x2, own cd24 a2 x3.1.length c2 x3.1, own cd2 a4 x5.1.length c4 x5.1, own cd24 a6 x7.1.length c6 x7.1, own cd2 a9 x9.2.length c9 x9.2, own cd24 a10 x24.1.length c10 x24.1]) ?_ ?_
      ·rintro _ h16 ⟨rfl, H29⟩
       refine Zg 5 [(3, .slice a1 x2.length c1), (4, .slice a2 x3.1.length c2), (5, iV x3.2), (8, .slice a4 x5.1.length c4), (12, .slice a6 x7.1.length c6), (17, .slice a9 x9.2.length c9), (18, .bool x10.1), (22, .slice a10 x24.1.length c10), (23, iV x24.2), (24, .bool (s1 && x26)), (25, iV i1)] ?_ ?_
       ·refine Zb [.bool s1] 0 ?_
        refine QRun_seq 4 [(3, .slice a1 x2.length c1), (4, .slice a2 x3.1.length c2), (5, iV x3.2), (8, .slice a4 x5.1.length c4), (12, .slice a6 x7.1.length c6), (17, .slice a9 x9.2.length c9), (18, .bool x10.1), (22, .slice a10 x24.1.length c10), (23, iV x24.2), (24, .bool s1), (25, iV i1), (179, .bool (s1 && x26))] ?_ ?_
        ·rcases Bool.eq_false_or_eq_true s1 with hb16 | hb16
         ·refine Zv s1 true hb16 ?_
          refine Zb [.bool x26] 2 ?_
          refine QRun_bool x26 (s1 && x26) (by kernel_rfl) (fun w => by kernel_rfl) (by rw [hb16]; rfl) ?_
          exact Zd [3, 4, 5, 8, 12, 17, 18, 22, 23, 24, 25, 179]
         ·refine Zv s1 false hb16 ?_
          refine Zn ?_
          refine QRun_bool false (s1 && x26) (by kernel_rfl) (fun w => by kernel_rfl) (by rw [hb16]; rfl) ?_
          exact Zd [3, 4, 5, 8, 12, 17, 18, 22, 23, 24, 25, 179]
        refine Zb [.bool (s1 && x26)] 4 ?_
        exact Zd [3, 4, 5, 8, 12, 17, 18, 22, 23, 24, 25]
       refine Run_blk ?_
       refine Zg 3 [(3, .slice a1 x2.length c1), (4, .slice a2 x3.1.length c2), (5, iV x3.2), (8, .slice a4 x5.1.length c4), (12, .slice a6 x7.1.length c6), (17, .slice a9 x9.2.length c9), (18, .bool x10.1), (22, .slice a10 x24.1.length c10), (23, iV x24.2), (24, .bool (s1 && x26)), (25, iV (i1 + 1))] ?_ ?_
       ·refine Zb [iV i1] 0 ?_
        refine Zy (iV (i1 + 1)) (Y_eq (v := iV (w64 (i1 + 1))) (Y_pure (fun w => by kernel_rfl)) (by rw [w64_eq _ (by omega)])) ?_
        refine Zb [iV (i1 + 1)] 2 ?_
        exact Zd [3, 4, 5, 8, 12, 17, 18, 22, 23, 24, 25]
       have hB1 := M.ret_some hB1
       have gx25 := hgoy1 _ hB1.symm
       exact Za [3, 4, 5, 8, 12, 17, 18, 22, 23, 24, 25] my1 ⟨i1 + 1, (s1 && x26), by omega, gx25, rfl, H29⟩
      ·refine Run_block ?_
       refine Zk [3, 4, 5, 8, 12, 17, 18, 22, 23, 24, 25, 26, 27] [(3, .slice a1 x2.length c1), (4, .slice a2 x3.1.length c2), (5, iV x3.2), (8, .slice a4 x5.1.length c4), (12, .slice a6 x7.1.length c6), (17, .slice a9 x9.2.length c9), (18, .bool x10.1), (22, .slice a10 x24.1.length c10), (23, iV x24.2), (24, .bool s1), (25, iV i1), (26, .bool false), (27, iV 0)] ?_
       refine Run_loop (fun m L' h' => ∃ (i2 : Int) (s2 : Bool), 0 ≤ i2 ∧ M.forN (x24.1.length : Int) _ _ n m i2 s2 = some x26 ∧ L' = [(3, .slice a1 x2.length c1), (4, .slice a2 x3.1.length c2), (5, iV x3.2), (8, .slice a4 x5.1.length c4), (12, .slice a6 x7.1.length c6), (17, .slice a9 x9.2.length c9), (18, .bool x10.1), (22, .slice a10 x24.1.length c10), (23, iV x24.2), (24, .bool s1), (25, iV i1), (26, .bool s2), (27, iV i2)] ∧ Hold h h' [own cd24 a1 x2.length c1 x2, own cd24 a2 x3.1.length c2 x3.1, own cd2 a4 x5.1.length c4 x5.1, own cd24 a6 x7.1.length c6 x7.1, own cd2 a9 x9.2.length c9 x9.2, own cd24 a10 x24.1.length c10 x24.1]) ((x24.1.length : Int) - 0 : Int).toNat ⟨0, false, Int.le_refl _, gx26, rfl, H26⟩ ?_
       rintro my2 _ h15 ⟨i2, s2, hloy2', gx26, rfl, H28⟩
       refine Zs ?_
       refine Zs ?_
       refine Zq [iV i2, .slice a10 x24.1.length c10, iV (x24.1.length : Int), .bool (decide (i2 < (x24.1.length : Int)))] [3, 4, 5, 8, 12, 17, 18, 22, 23, 24, 25, 26, 27, 142] [(3, .slice a1 x2.length c1), (4, .slice a2 x3.1.length c2), (5, iV x3.2), (8, .slice a4 x5.1.length c4), (12, .slice a6 x7.1.length c6), (17, .slice a9 x9.2.length c9), (18, .bool x10.1), (22, .slice a10 x24.1.length c10), (23, iV x24.2), (24, .bool s1), (25, iV i1), (26, .bool s2), (27, iV i2), (142, .bool (decide (i2 < (x24.1.length : Int))))] ?_
       refine Zc (decide (i2 < (x24.1.length : Int))) (fun hb13 => ?_) (fun hb13 => ?_)
       ·obtain ⟨my2, y2, rfl, hB2, hgoy2, houty2⟩ := M.for_go gx26 hb13
        have hlty2 := of_decide_eq_true hb13
        refine Run_skip ?_
        refine Zs ?_
        refine Run_block ?_
        obtain ⟨x27, gx27, hB2⟩ := M.bind_some hB2
        refine Run_draw 32 mixed (by kernel_rfl) (by kernel_rfl) (L' := [(3, .slice a1 x2.length c1), (4, .slice a2 x3.1.length c2), (5, iV x3.2), (8, .slice a4 x5.1.length c4), (12, .slice a6 x7.1.length c6), (17, .slice a9 x9.2.length c9), (18, .bool x10.1), (22, .slice a10 x24.1.length c10), (23, iV x24.2), (24, .bool s1), (25, iV i1), (26, .bool x27), (27, iV i2)]) ?_ ?_
        ·refine Zb [.bool s2] 0 ?_
         refine QRun_seq 31 [(3, .slice a1 x2.length c1), (4, .slice a2 x3.1.length c2), (5, iV x3.2), (8, .slice a4 x5.1.length c4), (12, .slice a6 x7.1.length c6), (17, .slice a9 x9.2.length c9), (18, .bool x10.1), (22, .slice a10 x24.1.length c10), (23, iV x24.2), (24, .bool s1), (25, iV i1), (26, .bool s2), (27, iV i2), (175, .bool x27)] ?_ ?_
         ·rcases Bool.eq_false_or_eq_true s2 with hb14 | hb14
          ·refine Zv s2 true hb14 ?_
           have gx27 := M.ret_some ((M.ite_some gx27).1 hb14)
           refine Zn ?_
           refine Zn ?_
           refine Zn ?_
           refine Zn ?_
           refine Zn ?_
           refine Zn ?_
           refine Zn ?_
           refine Zn ?_
           refine Zn ?_
           refine Zn ?_
           refine Zn ?_
           refine Zn ?_
           refine Zn ?_
           refine Zn ?_
           refine Zn ?_
           refine Zn ?_
           refine Zn ?_
           refine Zn ?_
           refine Zn ?_
           refine Zn ?_
           refine Zn ?_
           refine Zn ?_
           refine Zn ?_
           refine Zn ?_
           refine Zn ?_
           refine Zn ?_
           refine Zn ?_
           refine Zn ?_
           refine Zv true x27 gx27 ?_
           exact Zd [3, 4, 5, 8, 12, 17, 18, 22, 23, 24, 25, 26, 27, 175]
          ·refine Zv s2 false hb14 ?_
           have gx27 := (M.ite_some gx27).2 hb14
           obtain ⟨x28, hx17, gx27⟩ := M.bind_some gx27
           obtain ⟨hx17l, hx17u, hx17⟩ := M.idx_some hx17
           have H30 : Hold h h15 [own cd24 a10 x24.1.length c10 x24.1, own cd24 a1 x2.length c1 x2, own cd24 a2 x3.1.length c2 x3.1, own cd2 a4 x5.1.length c4 x5.1, own cd24 a6 x7.1.length c6 x7.1, own cd2 a9 x9.2.length c9 x9.2] := H28.pk [5, 0, 1, 2, 3, 4]
           have H31 := H30.toRows
           obtain ⟨a11, c11, H32⟩ := H31.pinRow hx17
           have H33 : Hold h h15 [own cd24 a1 x2.length c1 x2, own cd24 a2 x3.1.length c2 x3.1, own cd2 a4 x5.1.length c4 x5.1, own cd24 a6 x7.1.length c6 x7.1, own cd2 a9 x9.2.length c9 x9.2, rowsP cd2 24 a10 x24.1.length c10 x24.1 [(i2.toNat, a11, x28.length, c11, x28)]] := H32.pk [1, 2, 3, 4, 5, 0]
           obtain ⟨x29, hx18, gx27⟩ := M.bind_some gx27
           obtain ⟨hx18l, hx18u, hx18⟩ := M.idx_some hx18
           obtain ⟨x30, hx19, gx27⟩ := M.bind_some gx27
           obtain ⟨hx19l, hx19u, hx19⟩ := M.idx_some hx19
           obtain ⟨x31, gx31, gx27⟩ := M.bind_some gx27
           have gx27 := M.ret_some gx27
           refine Zb [.slice a10 x24.1.length c10, iV i2] 2 ?_
           refine Zy (.pointer (some (adr a10 (i2.toNat * 1)))) (Zi 22 24 1 (a10) (x24.1.length) (c10) .i64 (i2) Tryz.underlying22 ((H28.rd 5 rfl).cell hx17).1 hx17l hx17u) ?_
           refine Zy (.slice a11 x28.length c11) (Zl 24 (adr a10 (i2.toNat * 1)) (.slice a11 x28.length c11) (H33.cellPin 5 rfl 0 rfl)) ?_
           refine Zy (.pointer (some (adr a11 (0 * 1)))) (Zi 24 2 1 (a11) (x28.length) (c11) .i64 (0) Tryz.underlying24 ((H33.rdPin 5 rfl 0 rfl).cell hx18).1 hx18l hx18u) ?_
           refine Zy (iV x29) (Zl 2 (adr a11 (0 * 1)) (iV x29) (cd2_cell (H33.rdPin 5 rfl 0 rfl) hx18)) ?_
           refine Zb [.slice a9 x9.2.length c9, iV i1] 8 ?_
           refine Zy (.pointer (some (adr a9 (i1.toNat * 1)))) (Zi 24 2 1 (a9) (x9.2.length) (c9) .i64 (i1) Tryz.underlying24 ((H33.rd 4 rfl).cell hx19).1 hx19l hx19u) ?_
           refine Zy (iV x30) (Zl 2 (adr a9 (i1.toNat * 1)) (iV x30) (cd2_cell (H33.rd 4 rfl) hx19)) ?_
           refine Zb [.bool (x29 == x30)] 12 ?_
           refine QRun_seq 30 [(3, .slice a1 x2.length c1), (4, .slice a2 x3.1.length c2), (5, iV x3.2), (8, .slice a4 x5.1.length c4), (12, .slice a6 x7.1.length c6), (17, .slice a9 x9.2.length c9), (18, .bool x10.1), (22, .slice a10 x24.1.length c10), (23, iV x24.2), (24, .bool s1), (25, iV i1), (26, .bool s2), (27, iV i2), (146, .bool false), (174, .bool x31)] ?_ ?_
           ·rcases Bool.eq_false_or_eq_true (x29 == x30) with hb15 | hb15
            ·refine Zv (x29 == x30) true hb15 ?_
             have gx31 := (M.ite_some gx31).1 hb15
             obtain ⟨x32, hx20, gx31⟩ := M.bind_some gx31
             obtain ⟨hx20l, hx20u, hx20⟩ := M.idx_some hx20
             have H34 : Hold h h15 [rowsP cd2 24 a10 x24.1.length c10 x24.1 [(i2.toNat, a11, x28.length, c11, x28)], own cd24 a1 x2.length c1 x2, own cd24 a2 x3.1.length c2 x3.1, own cd2 a4 x5.1.length c4 x5.1, own cd24 a6 x7.1.length c6 x7.1, own cd2 a9 x9.2.length c9 x9.2] := H33.pk [5, 0, 1, 2, 3, 4]
             obtain ⟨a12, c12, H35⟩ := H34.pinRow hx20
             have H36 : Hold h h15 [own cd24 a1 x2.length c1 x2, own cd24 a2 x3.1.length c2 x3.1, own cd2 a4 x5.1.length c4 x5.1, own cd24 a6 x7.1.length c6 x7.1, own cd2 a9 x9.2.length c9 x9.2, rowsP cd2 24 a10 x24.1.length c10 x24.1 [(i2.toNat, a12, x32.length, c12, x32), (i2.toNat, a11, x28.length, c11, x28)]] := H35.pk [1, 2, 3, 4, 5, 0]
             obtain ⟨x33, hx21, gx31⟩ := M.bind_some gx31
             obtain ⟨hx21l, hx21u, hx21⟩ := M.idx_some hx21
             obtain ⟨u1, hz1, gx31⟩ := M.bind_some gx31
             have hz1 := M.guard_some hz1
             obtain ⟨x34, hx22, gx31⟩ := M.bind_some gx31
             obtain ⟨hx22l, hx22u, hx22⟩ := M.idx_some hx22
             have gx31 := M.ret_some gx31
             refine Zb [.slice a10 x24.1.length c10, iV i2] 14 ?_
             refine Zy (.pointer (some (adr a10 (i2.toNat * 1)))) (Zi 22 24 1 (a10) (x24.1.length) (c10) .i64 (i2) Tryz.underlying22 ((H33.rdRows 5 rfl).cell hx20).1 hx20l hx20u) ?_
             refine Zy (.slice a12 x32.length c12) (Zl 24 (adr a10 (i2.toNat * 1)) (.slice a12 x32.length c12) (H36.cellPin 5 rfl 0 rfl)) ?_
             refine Zy (.pointer (some (adr a12 (1 * 1)))) (Zi 24 2 1 (a12) (x32.length) (c12) .i64 (1) Tryz.underlying24 ((H36.rdPin 5 rfl 0 rfl).cell hx21).1 hx21l hx21u) ?_
             refine Zy (iV x33) (Zl 2 (adr a12 (1 * 1)) (iV x33) (cd2_cell (H36.rdPin 5 rfl 0 rfl) hx21)) ?_
             refine Zb [.slice a9 x9.2.length c9, iV i1, iV (w64 (i1 + 1)), .slice a9 x9.2.length c9, iV (x9.2.length : Int)] 20 ?_
             refine Zy (iV ((w64 (i1 + 1)).tmod (x9.2.length : Int))) (Y_rem (op := .rem) (k := .i64) (x := w64 (i1 + 1)) (y := (x9.2.length : Int)) (by kernel_rfl) hz1) ?_
             refine Zy (.pointer (some (adr a9 (((w64 (i1 + 1)).tmod (x9.2.length : Int)).toNat * 1)))) (Zi 24 2 1 (a9) (x9.2.length) (c9) .i64 ((w64 (i1 + 1)).tmod (x9.2.length : Int)) Tryz.underlying24 ((H36.rd 4 rfl).cell hx22).1 hx22l hx22u) ?_
             refine Zy (iV x34) (Zl 2 (adr a9 (((w64 (i1 + 1)).tmod (x9.2.length : Int)).toNat * 1)) (iV x34) (cd2_cell (H36.rd 4 rfl) hx22)) ?_
             refine Zb [.bool (x33 == x34)] 28 ?_
             refine Zv (x33 == x34) x31 gx31 ?_
             exact Zd [3, 4, 5, 8, 12, 17, 18, 22, 23, 24, 25, 26, 27, 146, 174]
            ·refine Zv (x29 == x30) false hb15 ?_
             have gx31 := M.ret_some ((M.ite_some gx31).2 hb15)
             refine Zn ?_
             refine Zn ?_
             refine Zn ?_
             refine Zn ?_
             refine Zn ?_
             refine Zn ?_
             refine Zn ?_
             refine Zn ?_
             refine Zn ?_
             refine Zn ?_
             refine Zn ?_
             refine Zn ?_
             refine Zn ?_
             refine Zn ?_
             refine Zn ?_
             refine Zv false x31 gx31 ?_
             exact Zd [3, 4, 5, 8, 12, 17, 18, 22, 23, 24, 25, 26, 27, 146, 174]
           refine Zv x31 x27 gx27 ?_
           exact Zd [3, 4, 5, 8, 12, 17, 18, 22, 23, 24, 25, 26, 27, 175]
         refine Zb [.bool x27] 31 ?_
         exact Zd [3, 4, 5, 8, 12, 17, 18, 22, 23, 24, 25, 26, 27]
        refine Run_blk ?_
        refine Zg 3 [(3, .slice a1 x2.length c1), (4, .slice a2 x3.1.length c2), (5, iV x3.2), (8, .slice a4 x5.1.length c4), (12, .slice a6 x7.1.length c6), (17, .slice a9 x9.2.length c9), (18, .bool x10.1), (22, .slice a10 x24.1.length c10), (23, iV x24.2), (24, .bool s1), (25, iV i1), (26, .bool x27), (27, iV (i2 + 1))] ?_ ?_
        ·refine Zb [iV i2] 0 ?_
         refine Zy (iV (i2 + 1)) (Y_eq (v := iV (w64 (i2 + 1))) (Y_pure (fun w => by kernel_rfl)) (by rw [w64_eq _ (by omega)])) ?_
         refine Zb [iV (i2 + 1)] 2 ?_
         exact Zd [3, 4, 5, 8, 12, 17, 18, 22, 23, 24, 25, 26, 27]
        have hB2 := M.ret_some hB2
        have gx26 := hgoy2 _ hB2.symm
        exact Za [3, 4, 5, 8, 12, 17, 18, 22, 23, 24, 25, 26, 27] my2 ⟨i2 + 1, x27, by omega, gx26, rfl, H28⟩
       ·have gx26 := M.for_end gx26 hb13
        subst gx26
        refine Run_exit (k' := _) rfl ?_
        exact Zf [3, 4, 5, 8, 12, 17, 18, 22, 23, 24, 25, 26] ⟨rfl, H28⟩
     ·have gx25 := M.for_end gx25 hb12
      subst gx25
      refine Run_exit (k' := _) rfl ?_
      have H37 : Hold h h13 [own cd24 a1 x2.length c1 x2, own cd24 a2 x3.1.length c2 x3.1, own cd2 a4 x5.1.length c4 x5.1, own cd24 a6 x7.1.length c6 x7.1] := H26.pk [0, 1, 2, 3]
      exact Zf [3, 4, 5, 8, 12, 18, 23, 24] ⟨rfl, H37⟩
   ·have hF := (M.ite_some hF).2 hb11
    refine Run_skip ?_
    refine Zs ?_
    refine Zs ?_
    refine Zq [iV 0] [3, 4, 5, 8, 12, 28] [(3, .slice a1 x2.length c1), (4, .slice a2 x3.1.length c2), (5, iV x3.2), (8, .slice a4 x5.1.length c4), (12, .slice a6 x7.1.length c6), (28, iV 0)] ?_
    obtain ⟨x59, gx59, hF⟩ := M.bind_some hF
    refine Run_join (fun L' h' => ∃ (s6 : Int), x59 = .inl s6 ∧ L' = [] ∧ Hold h h' []) ?_ ?_
    ·rintro _ h20 ⟨s6, es6, rfl, H73⟩
     have hF := M.cont_inl' hF es6
     refine Zs ?_
     refine Zq [.bool true] [2] [(2, .bool true)] ?_
     have hF := M.ret_some hF
     subst hF
     exact Run_ret1 rfl (Zt (.bool true)) ⟨rfl, H73⟩
    ·refine Run_block ?_
     have H104 : Hold h h11 [own cd24 a1 x2.length c1 x2, own cd24 a2 x3.1.length c2 x3.1, own cd2 a4 x5.1.length c4 x5.1, own cd24 a6 x7.1.length c6 x7.1] := H23.pk [8, 7, 5, 3]
     refine Zk [3, 4, 5, 8, 12, 28] [(3, .slice a1 x2.length c1), (4, .slice a2 x3.1.length c2), (5, iV x3.2), (8, .slice a4 x5.1.length c4), (12, .slice a6 x7.1.length c6), (28, iV 0)] ?_
     refine Run_loop (fun m L' h' => ∃ (s5 : Int), M.loopN _ n m s5 = some x59 ∧ L' = [(3, .slice a1 x2.length c1), (4, .slice a2 x3.1.length c2), (5, iV x3.2), (8, .slice a4 x5.1.length c4), (12, .slice a6 x7.1.length c6), (28, iV s5)] ∧ Hold h h' [own cd24 a1 x2.length c1 x2, own cd24 a2 x3.1.length c2 x3.1, own cd2 a4 x5.1.length c4 x5.1, own cd24 a6 x7.1.length c6 x7.1]) n ⟨0, gx59, rfl, H104⟩ ?_
     rintro my4 _ h19 ⟨s5, gx59, rfl, H72⟩
     obtain ⟨my4, y4, rfl, hB4, hgoy4, houty4⟩ := M.loop_some gx59
     refine Zs ?_
     refine Zs ?_
     refine Zg 8 [(3, .slice a1 x2.length c1), (4, .slice a2 x3.1.length c2), (5, iV x3.2), (8, .slice a4 x5.1.length c4), (12, .slice a6 x7.1.length c6), (28, iV s5), (194, .bool ((x3.2 == 0) && (decide (s5 < (x3.1.length : Int)))))] ?_ ?_
     ·refine Zb [iV x3.2, .bool (x3.2 == 0)] 0 ?_
      refine QRun_seq 8 [(3, .slice a1 x2.length c1), (4, .slice a2 x3.1.length c2), (5, iV x3.2), (8, .slice a4 x5.1.length c4), (12, .slice a6 x7.1.length c6), (28, iV s5), (194, .bool ((x3.2 == 0) && (decide (s5 < (x3.1.length : Int)))))] ?_ ?_
      ·rcases Bool.eq_false_or_eq_true (x3.2 == 0) with hb24 | hb24
       ·refine Zv (x3.2 == 0) true hb24 ?_
        refine Zb [iV s5, .slice a2 x3.1.length c2, iV (x3.1.length : Int), .bool (decide (s5 < (x3.1.length : Int)))] 3 ?_
        refine QRun_bool (decide (s5 < (x3.1.length : Int))) ((x3.2 == 0) && (decide (s5 < (x3.1.length : Int)))) (by kernel_rfl) (fun w => by kernel_rfl) (by rw [hb24]; rfl) ?_
        exact Zd [3, 4, 5, 8, 12, 28, 194]
       ·refine Zv (x3.2 == 0) false hb24 ?_
        refine Zn ?_
        refine Zn ?_
        refine Zn ?_
        refine Zn ?_
        refine QRun_bool false ((x3.2 == 0) && (decide (s5 < (x3.1.length : Int)))) (by kernel_rfl) (fun w => by kernel_rfl) (by rw [hb24]; rfl) ?_
        exact Zd [3, 4, 5, 8, 12, 28, 194]
      exact Zd [3, 4, 5, 8, 12, 28, 194]
     refine Zc ((x3.2 == 0) && (decide (s5 < (x3.1.length : Int)))) (fun hb25 => ?_) (fun hb25 => ?_)
     ·have hB4 := (M.ite_some hB4).1 hb25
      refine Run_skip ?_
      refine Zs ?_
      refine Run_block ?_
      refine Zs ?_
      obtain ⟨x61, hx41, hB4⟩ := M.bind_some hB4
      obtain ⟨hx41l, hx41u, hx41⟩ := M.idx_some hx41
      have H74 : Hold h h19 [own cd24 a2 x3.1.length c2 x3.1, own cd24 a1 x2.length c1 x2, own cd2 a4 x5.1.length c4 x5.1, own cd24 a6 x7.1.length c6 x7.1] := H72.pk [1, 0, 2, 3]
      have H75 := H74.toRows
      obtain ⟨a21, c21, H76⟩ := H75.pinRow hx41
      have H77 : Hold h h19 [own cd24 a1 x2.length c1 x2, rowsP cd2 24 a2 x3.1.length c2 x3.1 [(s5.toNat, a21, x61.length, c21, x61)], own cd2 a4 x5.1.length c4 x5.1, own cd24 a6 x7.1.length c6 x7.1] := H76.pk [1, 0, 2, 3]
      obtain ⟨x62, hx42, hB4⟩ := M.bind_some hB4
      obtain ⟨hx42l, hx42u, hx42⟩ := M.idx_some hx42
      obtain ⟨x63, hx43, hB4⟩ := M.bind_some hB4
      obtain ⟨x64, gx64, hB4⟩ := M.bind_some hB4
      obtain ⟨x68, gx68, hB4⟩ := M.bind_some hB4
      refine Run_draw 57 mixed (by kernel_rfl) (by kernel_rfl) (L' := [(3, .slice a1 x2.length c1), (4, .slice a2 x3.1.length c2), (5, iV x3.2), (8, .slice a4 x5.1.length c4), (12, .slice a6 x7.1.length c6), (28, iV s5), (253, .bool x68)]) ?_ ?_
      ·refine Zb [.slice a4 x5.1.length c4, .slice a2 x3.1.length c2, iV s5] 0 ?_
       refine Zy (.pointer (some (adr a2 (s5.toNat * 1)))) (Zi 22 24 1 (a2) (x3.1.length) (c2) .i64 (s5) Tryz.underlying22 ((H72.rd 1 rfl).cell hx41).1 hx41l hx41u) ?_
       refine Zy (.slice a21 x61.length c21) (Zl 24 (adr a2 (s5.toNat * 1)) (.slice a21 x61.length c21) (H77.cellPin 1 rfl 0 rfl)) ?_
       refine Zy (.pointer (some (adr a21 (0 * 1)))) (Zi 24 2 1 (a21) (x61.length) (c21) .i64 (0) Tryz.underlying24 ((H77.rdPin 1 rfl 0 rfl).cell hx42).1 hx42l hx42u) ?_
       refine Zy (iV x62) (Zl 2 (adr a21 (0 * 1)) (iV x62) (cd2_cell (H77.rdPin 1 rfl 0 rfl) hx42)) ?_
       refine Zy (.bool x63) (ZQ 27 #[.slice a4 x5.1.length c4, iV x62] (w_laws_hasInt h19 x5.1 a4 c4 (H77.rd 2 rfl) x62 _ _ hx43)) ?_
       refine Zb [.bool (!x63)] 8 ?_
       refine QRun_seq 20 [(3, .slice a1 x2.length c1), (4, .slice a2 x3.1.length c2), (5, iV x3.2), (8, .slice a4 x5.1.length c4), (12, .slice a6 x7.1.length c6), (28, iV s5), (216, .bool x64)] ?_ ?_
       ·rcases Bool.eq_false_or_eq_true (!x63) with hb26 | hb26
        ·refine Zv (!x63) true hb26 ?_
         have gx64 := M.ret_some ((M.ite_some gx64).1 hb26)
         refine Zn ?_
         refine Zn ?_
         refine Zn ?_
         refine Zn ?_
         refine Zn ?_
         refine Zn ?_
         refine Zn ?_
         refine Zn ?_
         refine Zn ?_
         refine Zv true x64 gx64 ?_
         exact Zd [3, 4, 5, 8, 12, 28, 216]
        ·refine Zv (!x63) false hb26 ?_
         have gx64 := (M.ite_some gx64).2 hb26
         obtain ⟨x65, hx44, gx64⟩ := M.bind_some gx64
         obtain ⟨hx44l, hx44u, hx44⟩ := M.idx_some hx44
         have H78 : Hold h h19 [rowsP cd2 24 a2 x3.1.length c2 x3.1 [(s5.toNat, a21, x61.length, c21, x61)], own cd24 a1 x2.length c1 x2, own cd2 a4 x5.1.length c4 x5.1, own cd24 a6 x7.1.length c6 x7.1] := H77.pk [1, 0, 2, 3]
         obtain ⟨a22, c22, H79⟩ := H78.pinRow hx44
         have H80 : Hold h h19 [own cd24 a1 x2.length c1 x2, rowsP cd2 24 a2 x3.1.length c2 x3.1 [(s5.toNat, a22, x65.length, c22, x65), (s5.toNat, a21, x61.length, c21, x61)], own cd2 a4 x5.1.length c4 x5.1, own cd24 a6 x7.1.length c6 x7.1] := H79.pk [1, 0, 2, 3]
         obtain ⟨x66, hx45, gx64⟩ := M.bind_some gx64
         obtain ⟨hx45l, hx45u, hx45⟩ := M.idx_some hx45
         obtain ⟨x67, hx46, gx64⟩ := M.bind_some gx64
         have gx64 := M.ret_some gx64
         refine Zb [.slice a4 x5.1.length c4, .slice a2 x3.1.length c2, iV s5] 10 ?_
         refine Zy (.pointer (some (adr a2 (s5.toNat * 1)))) (Zi 22 24 1 (a2) (x3.1.length) (c2) .i64 (s5) Tryz.underlying22 ((H77.rdRows 1 rfl).cell hx44).1 hx44l hx44u) ?_
         refine Zy (.slice a22 x65.length c22) (Zl 24 (adr a2 (s5.toNat * 1)) (.slice a22 x65.length c22) (H80.cellPin 1 rfl 0 rfl)) ?_
         refine Zy (.pointer (some (adr a22 (1 * 1)))) (Zi 24 2 1 (a22) (x65.length) (c22) .i64 (1) Tryz.underlying24 ((H80.rdPin 1 rfl 0 rfl).cell hx45).1 hx45l hx45u) ?_
         refine Zy (iV x66) (Zl 2 (adr a22 (1 * 1)) (iV x66) (cd2_cell (H80.rdPin 1 rfl 0 rfl) hx45)) ?_
         refine Zy (.bool x67) (ZQ 27 #[.slice a4 x5.1.length c4, iV x66] (w_laws_hasInt h19 x5.1 a4 c4 (H80.rd 2 rfl) x66 _ _ hx46)) ?_
         refine Zb [.bool (!x67)] 18 ?_
         refine Zv (!x67) x64 gx64 ?_
         exact Zd [3, 4, 5, 8, 12, 28, 216]
       refine QRun_seq 57 [(3, .slice a1 x2.length c1), (4, .slice a2 x3.1.length c2), (5, iV x3.2), (8, .slice a4 x5.1.length c4), (12, .slice a6 x7.1.length c6), (28, iV s5), (253, .bool x68)] ?_ ?_
       ·rcases Bool.eq_false_or_eq_true x64 with hb27 | hb27
        ·refine Zv x64 true hb27 ?_
         have gx68 := M.ret_some ((M.ite_some gx68).1 hb27)
         refine Zn ?_
         refine Zn ?_
         refine Zn ?_
         refine Zn ?_
         refine Zn ?_
         refine Zn ?_
         refine Zn ?_
         refine Zn ?_
         refine Zn ?_
         refine Zn ?_
         refine Zn ?_
         refine Zn ?_
         refine Zn ?_
         refine Zn ?_
         refine Zn ?_
         refine Zn ?_
         refine Zn ?_
         refine Zn ?_
         refine Zn ?_
         refine Zn ?_
         refine Zn ?_
         refine Zn ?_
         refine Zn ?_
         refine Zn ?_
         refine Zn ?_
         refine Zn ?_
         refine Zn ?_
         refine Zn ?_
         refine Zn ?_
         refine Zn ?_
         refine Zn ?_
         refine Zn ?_
         refine Zn ?_
         refine Zn ?_
         refine Zn ?_
         refine Zv true x68 gx68 ?_
         exact Zd [3, 4, 5, 8, 12, 28, 253]
        ·refine Zv x64 false hb27 ?_
         have gx68 := (M.ite_some gx68).2 hb27
         obtain ⟨x69, hx47, gx68⟩ := M.bind_some gx68
         obtain ⟨hx47l, hx47u, hx47⟩ := M.idx_some hx47
         have H81 : Hold h h19 [rowsP cd2 24 a2 x3.1.length c2 x3.1 [(s5.toNat, a21, x61.length, c21, x61)], own cd24 a1 x2.length c1 x2, own cd2 a4 x5.1.length c4 x5.1, own cd24 a6 x7.1.length c6 x7.1] := H77.pk [1, 0, 2, 3]
         obtain ⟨a23, c23, H82⟩ := H81.pinRow hx47
         have H83 : Hold h h19 [own cd24 a1 x2.length c1 x2, rowsP cd2 24 a2 x3.1.length c2 x3.1 [(s5.toNat, a23, x69.length, c23, x69), (s5.toNat, a21, x61.length, c21, x61)], own cd2 a4 x5.1.length c4 x5.1, own cd24 a6 x7.1.length c6 x7.1] := H82.pk [1, 0, 2, 3]
         obtain ⟨x70, hx48, gx68⟩ := M.bind_some gx68
         obtain ⟨hx48l, hx48u, hx48⟩ := M.idx_some hx48
         obtain ⟨x71, hx49, gx68⟩ := M.bind_some gx68
         obtain ⟨hx49l, hx49u, hx49⟩ := M.idx_some hx49
         have H84 : Hold h h19 [own cd24 a6 x7.1.length c6 x7.1, own cd24 a1 x2.length c1 x2, rowsP cd2 24 a2 x3.1.length c2 x3.1 [(s5.toNat, a23, x69.length, c23, x69), (s5.toNat, a21, x61.length, c21, x61)], own cd2 a4 x5.1.length c4 x5.1] := H83.pk [3, 0, 1, 2]
         have H85 := H84.toRows
         obtain ⟨a24, c24, H86⟩ := H85.pinRow hx49
         have H87 : Hold h h19 [own cd24 a1 x2.length c1 x2, rowsP cd2 24 a2 x3.1.length c2 x3.1 [(s5.toNat, a23, x69.length, c23, x69), (s5.toNat, a21, x61.length, c21, x61)], own cd2 a4 x5.1.length c4 x5.1, rowsP cd2 24 a6 x7.1.length c6 x7.1 [(x70.toNat, a24, x71.length, c24, x71)]] := H86.pk [1, 2, 3, 0]
         obtain ⟨x72, hx50, gx68⟩ := M.bind_some gx68
         obtain ⟨hx50l, hx50u, hx50⟩ := M.idx_some hx50
         have H88 : Hold h h19 [rowsP cd2 24 a2 x3.1.length c2 x3.1 [(s5.toNat, a23, x69.length, c23, x69), (s5.toNat, a21, x61.length, c21, x61)], own cd24 a1 x2.length c1 x2, own cd2 a4 x5.1.length c4 x5.1, rowsP cd2 24 a6 x7.1.length c6 x7.1 [(x70.toNat, a24, x71.length, c24, x71)]] := H87.pk [1, 0, 2, 3]
         obtain ⟨a25, c25, H89⟩ := H88.pinRow hx50
         have H90 : Hold h h19 [own cd24 a1 x2.length c1 x2, rowsP cd2 24 a2 x3.1.length c2 x3.1 [(s5.toNat, a25, x72.length, c25, x72), (s5.toNat, a23, x69.length, c23, x69), (s5.toNat, a21, x61.length, c21, x61)], own cd2 a4 x5.1.length c4 x5.1, rowsP cd2 24 a6 x7.1.length c6 x7.1 [(x70.toNat, a24, x71.length, c24, x71)]] := H89.pk [1, 0, 2, 3]
         obtain ⟨x73, hx51, gx68⟩ := M.bind_some gx68
         obtain ⟨hx51l, hx51u, hx51⟩ := M.idx_some hx51
         obtain ⟨x74, hx52, gx68⟩ := M.bind_some gx68
         obtain ⟨hx52l, hx52u, hx52⟩ := M.idx_some hx52
         obtain ⟨x75, hx53, gx68⟩ := M.bind_some gx68
         obtain ⟨hx53l, hx53u, hx53⟩ := M.idx_some hx53
         have H91 : Hold h h19 [rowsP cd2 24 a2 x3.1.length c2 x3.1 [(s5.toNat, a25, x72.length, c25, x72), (s5.toNat, a23, x69.length, c23, x69), (s5.toNat, a21, x61.length, c21, x61)], own cd24 a1 x2.length c1 x2, own cd2 a4 x5.1.length c4 x5.1, rowsP cd2 24 a6 x7.1.length c6 x7.1 [(x70.toNat, a24, x71.length, c24, x71)]] := H90.pk [1, 0, 2, 3]
         obtain ⟨a26, c26, H92⟩ := H91.pinRow hx53
         have H93 : Hold h h19 [own cd24 a1 x2.length c1 x2, rowsP cd2 24 a2 x3.1.length c2 x3.1 [(s5.toNat, a26, x75.length, c26, x75), (s5.toNat, a25, x72.length, c25, x72), (s5.toNat, a23, x69.length, c23, x69), (s5.toNat, a21, x61.length, c21, x61)], own cd2 a4 x5.1.length c4 x5.1, rowsP cd2 24 a6 x7.1.length c6 x7.1 [(x70.toNat, a24, x71.length, c24, x71)]] := H92.pk [1, 0, 2, 3]
         obtain ⟨x76, hx54, gx68⟩ := M.bind_some gx68
         obtain ⟨hx54l, hx54u, hx54⟩ := M.idx_some hx54
         obtain ⟨x77, hx55, gx68⟩ := M.bind_some gx68
         obtain ⟨hx55l, hx55u, hx55⟩ := M.idx_some hx55
         have H94 := H93.toRows
         obtain ⟨a27, c27, H95⟩ := H94.pinRow hx55
         obtain ⟨x78, hx56, gx68⟩ := M.bind_some gx68
         obtain ⟨hx56l, hx56u, hx56⟩ := M.idx_some hx56
         have H96 : Hold h h19 [rowsP cd2 24 a2 x3.1.length c2 x3.1 [(s5.toNat, a26, x75.length, c26, x75), (s5.toNat, a25, x72.length, c25, x72), (s5.toNat, a23, x69.length, c23, x69), (s5.toNat, a21, x61.length, c21, x61)], rowsP cd2 24 a1 x2.length c1 x2 [(x76.toNat, a27, x77.length, c27, x77)], own cd2 a4 x5.1.length c4 x5.1, rowsP cd2 24 a6 x7.1.length c6 x7.1 [(x70.toNat, a24, x71.length, c24, x71)]] := H95.pk [1, 0, 2, 3]
         obtain ⟨a28, c28, H97⟩ := H96.pinRow hx56
         have H98 : Hold h h19 [rowsP cd2 24 a1 x2.length c1 x2 [(x76.toNat, a27, x77.length, c27, x77)], rowsP cd2 24 a2 x3.1.length c2 x3.1 [(s5.toNat, a28, x78.length, c28, x78), (s5.toNat, a26, x75.length, c26, x75), (s5.toNat, a25, x72.length, c25, x72), (s5.toNat, a23, x69.length, c23, x69), (s5.toNat, a21, x61.length, c21, x61)], own cd2 a4 x5.1.length c4 x5.1, rowsP cd2 24 a6 x7.1.length c6 x7.1 [(x70.toNat, a24, x71.length, c24, x71)]] := H97.pk [1, 0, 2, 3]
         obtain ⟨x79, hx57, gx68⟩ := M.bind_some gx68
         obtain ⟨hx57l, hx57u, hx57⟩ := M.idx_some hx57
         obtain ⟨x80, hx58, gx68⟩ := M.bind_some gx68
         obtain ⟨hx58l, hx58u, hx58⟩ := M.idx_some hx58
         have gx68 := M.ret_some gx68
         refine Zb [.slice a6 x7.1.length c6, .slice a2 x3.1.length c2, iV s5] 21 ?_
         refine Zy (.pointer (some (adr a2 (s5.toNat * 1)))) (Zi 22 24 1 (a2) (x3.1.length) (c2) .i64 (s5) Tryz.underlying22 ((H77.rdRows 1 rfl).cell hx47).1 hx47l hx47u) ?_
         refine Zy (.slice a23 x69.length c23) (Zl 24 (adr a2 (s5.toNat * 1)) (.slice a23 x69.length c23) (H83.cellPin 1 rfl 0 rfl)) ?_
         refine Zy (.pointer (some (adr a23 (1 * 1)))) (Zi 24 2 1 (a23) (x69.length) (c23) .i64 (1) Tryz.underlying24 ((H83.rdPin 1 rfl 0 rfl).cell hx48).1 hx48l hx48u) ?_
         refine Zy (iV x70) (Zl 2 (adr a23 (1 * 1)) (iV x70) (cd2_cell (H83.rdPin 1 rfl 0 rfl) hx48)) ?_
         refine Zy (.pointer (some (adr a6 (x70.toNat * 1)))) (Zi 22 24 1 (a6) (x7.1.length) (c6) .i64 (x70) Tryz.underlying22 ((H83.rd 3 rfl).cell hx49).1 hx49l hx49u) ?_
         refine Zy (.slice a24 x71.length c24) (Zl 24 (adr a6 (x70.toNat * 1)) (.slice a24 x71.length c24) (H87.cellPin 3 rfl 0 rfl)) ?_
         refine Zb [.slice a2 x3.1.length c2, iV s5] 30 ?_
         refine Zy (.pointer (some (adr a2 (s5.toNat * 1)))) (Zi 22 24 1 (a2) (x3.1.length) (c2) .i64 (s5) Tryz.underlying22 ((H87.rdRows 1 rfl).cell hx50).1 hx50l hx50u) ?_
         refine Zy (.slice a25 x72.length c25) (Zl 24 (adr a2 (s5.toNat * 1)) (.slice a25 x72.length c25) (H90.cellPin 1 rfl 0 rfl)) ?_
         refine Zy (.pointer (some (adr a25 (0 * 1)))) (Zi 24 2 1 (a25) (x72.length) (c25) .i64 (0) Tryz.underlying24 ((H90.rdPin 1 rfl 0 rfl).cell hx51).1 hx51l hx51u) ?_
         refine Zy (iV x73) (Zl 2 (adr a25 (0 * 1)) (iV x73) (cd2_cell (H90.rdPin 1 rfl 0 rfl) hx51)) ?_
         refine Zy (.pointer (some (adr a24 (x73.toNat * 1)))) (Zi 24 2 1 (a24) (x71.length) (c24) .i64 (x73) Tryz.underlying24 ((H90.rdPin 3 rfl 0 rfl).cell hx52).1 hx52l hx52u) ?_
         refine Zy (iV x74) (Zl 2 (adr a24 (x73.toNat * 1)) (iV x74) (cd2_cell (H90.rdPin 3 rfl 0 rfl) hx52)) ?_
         refine Zb [.slice a1 x2.length c1, .slice a2 x3.1.length c2, iV s5] 38 ?_
         refine Zy (.pointer (some (adr a2 (s5.toNat * 1)))) (Zi 22 24 1 (a2) (x3.1.length) (c2) .i64 (s5) Tryz.underlying22 ((H90.rdRows 1 rfl).cell hx53).1 hx53l hx53u) ?_
         refine Zy (.slice a26 x75.length c26) (Zl 24 (adr a2 (s5.toNat * 1)) (.slice a26 x75.length c26) (H93.cellPin 1 rfl 0 rfl)) ?_
         refine Zy (.pointer (some (adr a26 (1 * 1)))) (Zi 24 2 1 (a26) (x75.length) (c26) .i64 (1) Tryz.underlying24 ((H93.rdPin 1 rfl 0 rfl).cell hx54).1 hx54l hx54u) ?_
         refine Zy (iV x76) (Zl 2 (adr a26 (1 * 1)) (iV x76) (cd2_cell (H93.rdPin 1 rfl 0 rfl) hx54)) ?_
         refine Zy (.pointer (some (adr a1 (x76.toNat * 1)))) (Zi 22 24 1 (a1) (x2.length) (c1) .i64 (x76) Tryz.underlying22 ((H93.rd 0 rfl).cell hx55).1 hx55l hx55u) ?_
         refine Zy (.slice a27 x77.length c27) (Zl 24 (adr a1 (x76.toNat * 1)) (.slice a27 x77.length c27) (H95.cellPin 0 rfl 0 rfl)) ?_
         refine Zb [.slice a2 x3.1.length c2, iV s5] 47 ?_
         refine Zy (.pointer (some (adr a2 (s5.toNat * 1)))) (Zi 22 24 1 (a2) (x3.1.length) (c2) .i64 (s5) Tryz.underlying22 ((H95.rdRows 1 rfl).cell hx56).1 hx56l hx56u) ?_
         refine Zy (.slice a28 x78.length c28) (Zl 24 (adr a2 (s5.toNat * 1)) (.slice a28 x78.length c28) (H98.cellPin 1 rfl 0 rfl)) ?_
         refine Zy (.pointer (some (adr a28 (0 * 1)))) (Zi 24 2 1 (a28) (x78.length) (c28) .i64 (0) Tryz.underlying24 ((H98.rdPin 1 rfl 0 rfl).cell hx57).1 hx57l hx57u) ?_
         refine Zy (iV x79) (Zl 2 (adr a28 (0 * 1)) (iV x79) (cd2_cell (H98.rdPin 1 rfl 0 rfl) hx57)) ?_
         refine Zy (.pointer (some (adr a27 (x79.toNat * 1)))) (Zi 24 2 1 (a27) (x77.length) (c27) .i64 (x79) Tryz.underlying24 ((H98.rdPin 0 rfl 0 rfl).cell hx58).1 hx58l hx58u) ?_
         refine Zy (iV x80) (Zl 2 (adr a27 (x79.toNat * 1)) (iV x80) (cd2_cell (H98.rdPin 0 rfl 0 rfl) hx58)) ?_
         refine Zb [.bool (x74 != x80)] 55 ?_
         refine Zv (x74 != x80) x68 gx68 ?_
         exact Zd [3, 4, 5, 8, 12, 28, 253]
       exact Zd [3, 4, 5, 8, 12, 28, 253]
      refine Zc (x68) (fun hb28 => ?_) (fun hb28 => ?_)
      ·have hB4 := (M.ite_some hB4).1 hb28
       refine Zs ?_
       refine Zq [.bool false] [2] [(2, .bool false)] ?_
       have hB4 := M.ret_some hB4
       have gx59 := houty4 _ hB4.symm
       have hF := M.cont_inr' hF gx59
       have hF := M.ret_some hF
       subst hF
       have H99 : Hold h h19 [] := H77.pk []
       exact Run_ret1 rfl (Zt (.bool false)) ⟨rfl, H99⟩
      ·have hB4 := (M.ite_some hB4).2 hb28
       refine Run_skip ?_
       refine Run_blk ?_
       refine Zq [iV s5, iV (w64 (s5 + 1)), iV (w64 (s5 + 1))] [3, 4, 5, 8, 12, 28] [(3, .slice a1 x2.length c1), (4, .slice a2 x3.1.length c2), (5, iV x3.2), (8, .slice a4 x5.1.length c4), (12, .slice a6 x7.1.length c6), (28, iV (w64 (s5 + 1)))] ?_
       have H100 : Hold h h19 [rowsP cd2 24 a2 x3.1.length c2 x3.1 [(s5.toNat, a21, x61.length, c21, x61)], own cd24 a1 x2.length c1 x2, own cd2 a4 x5.1.length c4 x5.1, own cd24 a6 x7.1.length c6 x7.1] := H77.pk [1, 0, 2, 3]
       have H101 := H100.ofRows
       have H102 : Hold h h19 [own cd24 a1 x2.length c1 x2, own cd24 a2 x3.1.length c2 x3.1, own cd2 a4 x5.1.length c4 x5.1, own cd24 a6 x7.1.length c6 x7.1] := H101.pk [1, 0, 2, 3]
       have hB4 := M.ret_some hB4
       have gx59 := hgoy4 _ hB4.symm
       exact Za [3, 4, 5, 8, 12, 28] my4 ⟨(w64 (s5 + 1)), gx59, rfl, H102⟩
     ·have hB4 := (M.ite_some hB4).2 hb25
      refine Run_exit (k' := _) rfl ?_
      have H103 : Hold h h19 [] := H72.pk []
      have hB4 := M.ret_some hB4
      have gx59 := houty4 _ hB4.symm
      subst gx59
      exact Zf [] ⟨s5, rfl, rfl, H103⟩

end Go.Proofs.YtelopfgolahlpaaGreat
