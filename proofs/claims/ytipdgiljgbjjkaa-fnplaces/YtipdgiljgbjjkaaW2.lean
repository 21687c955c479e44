/-
  Walks: each Go function, called with what reads as plain data, returns what its plain program computes.
  Conditions: None beyond the given statement.
-/
import Derived.Test.YtipdgiljgbjjkaaW1
namespace Go.Proofs.Ytipdgiljgbjjkaa
open Go
attribute [local irreducible] setL setB opA fineI idleI fineB evB okB markB markBs readyB readyBs chainB lk rho pickL dropSlot tailOK
set_option maxRecDepth 100000 in
set_option maxHeartbeats 4000000 in
theorem w_spec_DrawChangePlace (h : Heap) (code : List Int) (acode : Option Addr) (ccode : Nat) (rcode : Rd cd5 h (Lt h) acode ccode code) (n : Nat) (r : TGraph × Int × Int × Int) (hF : spec_DrawChangePlace code n = some r) :
    Fn Try.prog 33 #[.slice acode code.length ccode] h fun v h' => ∃ (a0 : Option Addr) (c0 : Nat), v = .tuple #[.agg #[.int .i64 r.1.Events, .slice a0 r.1.Places.length c0], .int .i64 r.2.1, .int .i64 r.2.2.1, .int .i64 r.2.2.2] ∧ Hold h h' [own cd58 a0 r.1.Places.length c0 r.1.Places] := by
  unfold spec_DrawChangePlace at hF
  refine Fn_enter (args := [.slice acode code.length ccode]) Try.func33 rfl (by kernel_rfl) (by kernel_rfl) (fun w0 _ => ?_)
  have H0 := Hold.init h
  refine Run_seq ?_
  refine Run_ops ?_
  refine Run_E (by kernel_rfl) ?_
  refine E_box (ty := 30) (cs := [.int .i64 0, .slice none 0 0]) H0 (fun w => by kernel_rfl) (fun b1 h1 H1 => ?_)
  refine Run_b [.int .i64 0, .int .i64 0, .int .i64 0] 1 _ (by kernel_rfl) (fun w => by kernel_rfl) ?_
  refine Run_nil (by kernel_rfl) ?_
  refine Run_keep [0, 2] (L' := [(0, .slice acode code.length ccode), (2, .pointer (some ⟨b1, 0, none⟩))]) (by kernel_rfl) ?_
  refine Run_seq ?_
  refine Run_ops ?_
  refine Run_b [.slice acode code.length ccode] 0 _ (by kernel_rfl) (fun w => by kernel_rfl) ?_
  obtain ⟨x1, hx1, hF⟩ := M.bind_some hF
  refine Run_E (by kernel_rfl) ?_
  refine E_call (f := 98) (args := #[.slice acode code.length ccode]) (w_spec_l01From h1 code acode ccode (rcode.at H1.ext) _ _ hx1) (by kernel_rfl) (fun v1 h2 hp1 => ?_)
  obtain ⟨b2, a1, c1, rfl, hd1, H2⟩ := hp1
  have H3 : Hold h h2 [box b2 155 [.slice a1 x1.code.length c1, .int .i64 x1.at_, .int .i64 x1.seed], box b1 30 [.int .i64 0, .slice none 0 0]] := H1.call H2 rfl
  have r1 := rcode.alias hd1
  refine Run_b [.pointer (some ⟨b2, 0, none⟩)] 2 _ (by kernel_rfl) (fun w => by kernel_rfl) ?_
  refine Run_nil (by kernel_rfl) ?_
  refine Run_keep [2, 6] (L' := [(2, .pointer (some ⟨b1, 0, none⟩)), (6, .pointer (some ⟨b2, 0, none⟩))]) (by kernel_rfl) ?_
  refine Run_seq ?_
  refine Run_ops ?_
  refine Run_b [.pointer (some ⟨b2, 0, none⟩)] 0 _ (by kernel_rfl) (fun w => by kernel_rfl) ?_
  obtain ⟨x2, hx2, hF⟩ := M.bind_some hF
  have H4 : Hold h h2 [box b2 155 [.slice a1 x1.code.length c1, .int .i64 x1.at_, .int .i64 x1.seed], bun [box b1 30 [.int .i64 0, .slice none 0 0]]] := Hold.bundle (S := [box b2 155 [.slice a1 x1.code.length c1, .int .i64 x1.at_, .int .i64 x1.seed]]) (R := [box b1 30 [.int .i64 0, .slice none 0 0]]) H3
  refine Run_E (by kernel_rfl) ?_
  refine E_call (f := 105) (args := #[.pointer (some ⟨b2, 0, none⟩)]) (w_spec_l11DrawIndex h h2 _ x1 b2 a1 c1 r1 H4 _ _ hx2) (by kernel_rfl) (fun v2 h3 hp2 => ?_)
  obtain ⟨a2, c2, rfl, H5⟩ := hp2
  have H6 : Hold h h3 [own cd58 a2 x2.1.Places.length c2 x2.1.Places, box b2 155 [.slice a1 x1.code.length c1, .int .i64 x2.2.2.at_, .int .i64 x2.2.2.seed], box b1 30 [.int .i64 0, .slice none 0 0]] := Hold.unbundle (S := [own cd58 a2 x2.1.Places.length c2 x2.1.Places, box b2 155 [.slice a1 x1.code.length c1, .int .i64 x2.2.2.at_, .int .i64 x2.2.2.seed]]) (R := [box b1 30 [.int .i64 0, .slice none 0 0]]) H5 (Hold.tailBase (S := [box b2 155 [.slice a1 x1.code.length c1, .int .i64 x1.at_, .int .i64 x1.seed]]) (R := [box b1 30 [.int .i64 0, .slice none 0 0]]) H3)
  refine Run_b [.tuple #[.agg #[.int .i64 x2.1.Events, .slice a2 x2.1.Places.length c2], .int .i64 x2.2.1], .agg #[.int .i64 x2.1.Events, .slice a2 x2.1.Places.length c2], .int .i64 x2.2.1] 2 _ (by kernel_rfl) (fun w => by kernel_rfl) ?_
  refine Run_E (by kernel_rfl) ?_
  refine E_box (ty := 30) (cs := [.int .i64 0, .slice none 0 0]) H6 (fun w => by kernel_rfl) (fun b3 h4 H7 => ?_)
  refine Run_E (by kernel_rfl) ?_
  refine E_bput (t := 30) (off := 0) (us := [.int .i64 x2.1.Events, .slice a2 x2.1.Places.length c2]) (v := .agg #[.int .i64 x2.1.Events, .slice a2 x2.1.Places.length c2]) H7 (by kernel_rfl) (by kernel_rfl) rfl (by kernel_rfl) rfl (fun h5 H8 => ?_)
  refine Run_b [.int .i64 x2.2.1] 7 _ (by kernel_rfl) (fun w => by kernel_rfl) ?_
  refine Run_nil (by kernel_rfl) ?_
  refine Run_keep [2, 6, 7, 8] (L' := [(2, .pointer (some ⟨b1, 0, none⟩)), (6, .pointer (some ⟨b2, 0, none⟩)), (7, .pointer (some ⟨b3, 0, none⟩)), (8, .int .i64 x2.2.1)]) (by kernel_rfl) ?_
  refine Run_seq ?_
  refine Run_seq ?_
  refine Run_ops ?_
  refine Run_b [.pointer (some ⟨b2, 0, none⟩)] 0 _ (by kernel_rfl) (fun w => by kernel_rfl) ?_
  obtain ⟨x3, hx3, hF⟩ := M.bind_some hF
  have H9 : Hold h h5 [box b2 155 [.slice a1 x1.code.length c1, .int .i64 x2.2.2.at_, .int .i64 x2.2.2.seed], box b3 30 [.int .i64 x2.1.Events, .slice a2 x2.1.Places.length c2], own cd58 a2 x2.1.Places.length c2 x2.1.Places, box b1 30 [.int .i64 0, .slice none 0 0]] := H8.pick [2, 0, 1, 3] (by kernel_rfl)
  have H10 : Hold h h5 [box b2 155 [.slice a1 x1.code.length c1, .int .i64 x2.2.2.at_, .int .i64 x2.2.2.seed], bun [box b3 30 [.int .i64 x2.1.Events, .slice a2 x2.1.Places.length c2], own cd58 a2 x2.1.Places.length c2 x2.1.Places, box b1 30 [.int .i64 0, .slice none 0 0]]] := Hold.bundle (S := [box b2 155 [.slice a1 x1.code.length c1, .int .i64 x2.2.2.at_, .int .i64 x2.2.2.seed]]) (R := [box b3 30 [.int .i64 x2.1.Events, .slice a2 x2.1.Places.length c2], own cd58 a2 x2.1.Places.length c2 x2.1.Places, box b1 30 [.int .i64 0, .slice none 0 0]]) H9
  refine Run_E (by kernel_rfl) ?_
  refine E_call (f := 106) (args := #[.pointer (some ⟨b2, 0, none⟩), .int .i64 12]) (w_spec_l01Next h h5 _ (⟨x1.code, x2.2.2.at_, x2.2.2.seed⟩ : TL01source) b2 a1 c1 r1 12 H10 _ _ hx3) (by kernel_rfl) (fun v3 h6 hp3 => ?_)
  obtain ⟨rfl, H11⟩ := hp3
  have H12 : Hold h h6 [box b2 155 [.slice a1 x1.code.length c1, .int .i64 x3.2.at_, .int .i64 x3.2.seed], box b3 30 [.int .i64 x2.1.Events, .slice a2 x2.1.Places.length c2], own cd58 a2 x2.1.Places.length c2 x2.1.Places, box b1 30 [.int .i64 0, .slice none 0 0]] := Hold.unbundle (S := [box b2 155 [.slice a1 x1.code.length c1, .int .i64 x3.2.at_, .int .i64 x3.2.seed]]) (R := [box b3 30 [.int .i64 x2.1.Events, .slice a2 x2.1.Places.length c2], own cd58 a2 x2.1.Places.length c2 x2.1.Places, box b1 30 [.int .i64 0, .slice none 0 0]]) H11 (Hold.tailBase (S := [box b2 155 [.slice a1 x1.code.length c1, .int .i64 x2.2.2.at_, .int .i64 x2.2.2.seed]]) (R := [box b3 30 [.int .i64 x2.1.Events, .slice a2 x2.1.Places.length c2], own cd58 a2 x2.1.Places.length c2 x2.1.Places, box b1 30 [.int .i64 0, .slice none 0 0]]) H9)
  refine Run_b [.bool (x3.1 == 0)] 2 _ (by kernel_rfl) (fun w => by kernel_rfl) ?_
  refine Run_nil (by kernel_rfl) ?_
  refine Run_keep [2, 6, 7, 8, 18] (L' := [(2, .pointer (some ⟨b1, 0, none⟩)), (6, .pointer (some ⟨b2, 0, none⟩)), (7, .pointer (some ⟨b3, 0, none⟩)), (8, .int .i64 x2.2.1), (18, .bool (x3.1 == 0))]) (by kernel_rfl) ?_
  refine Run_cond (b := x3.1 == 0) (by kernel_rfl) (fun hb1 => ?_) (fun hb1 => ?_)
  · have hF := (M.ite_some hF).1 hb1
    refine Run_seq ?_
    obtain ⟨s1, gs1, hF⟩ := M.bind_some hF
    refine Run_join (fun L' h' => L' = [(2, .pointer (some ⟨b1, 0, none⟩)), (3, .int .i64 x2.2.1), (4, .int .i64 s1.1), (5, .int .i64 s1.2)] ∧ Hold h h' [box b1 30 [.int .i64 x2.1.Events, .slice a2 x2.1.Places.length c2], own cd58 a2 x2.1.Places.length c2 x2.1.Places]) ?_ ?_
    · rintro _ h38 ⟨rfl, H91⟩
      have hF := M.ret_some hF
      subst hF
      have H105 : Hold h h38 [own cd58 a2 x2.1.Places.length c2 x2.1.Places, box b1 30 [.int .i64 x2.1.Events, .slice a2 x2.1.Places.length c2]] := H91.pick [1, 0] (by kernel_rfl)
      have H106 : Hold h h38 [own cd58 a2 x2.1.Places.length c2 x2.1.Places] := H105.pick [0] (by kernel_rfl)
      exact Run_ret4 rfl (ResV_cell (n := 2) (cs := [.int .i64 x2.1.Events, .slice a2 x2.1.Places.length c2]) (by kernel_rfl) (fun w => by kernel_rfl) (by kernel_rfl) rfl (H91.cells (n := 2) (off := 0) 0 rfl rfl)) (ResV_tmp (v := .int .i64 x2.2.1) (by kernel_rfl)) (ResV_tmp (v := .int .i64 s1.1) (by kernel_rfl)) (ResV_tmp (v := .int .i64 s1.2) (by kernel_rfl)) ⟨a2, c2, rfl, H106⟩
    · refine Run_D (fun x => Hold h x [box b3 30 [.int .i64 x2.1.Events, .slice a2 x2.1.Places.length c2], own cd58 a2 x2.1.Places.length c2 x2.1.Places]) (fun x => Hold h x [box b2 155 [.slice a1 x1.code.length c1, .int .i64 x3.2.at_, .int .i64 x3.2.seed], box b3 30 [.int .i64 x2.1.Events, .slice a2 x2.1.Places.length c2], own cd58 a2 x2.1.Places.length c2 x2.1.Places, box b1 30 [.int .i64 0, .slice none 0 0]]) mixed (by kernel_rfl) H12 Hold.stable (fun x Hy => (show Hold h x [box b2 155 [.slice a1 x1.code.length c1, .int .i64 x3.2.at_, .int .i64 x3.2.seed], box b3 30 [.int .i64 x2.1.Events, .slice a2 x2.1.Places.length c2], own cd58 a2 x2.1.Places.length c2 x2.1.Places, box b1 30 [.int .i64 0, .slice none 0 0]] from Hy).pick [1, 2] (by kernel_rfl)) ?_
      refine DR_y 11 (i := 0) (.agg #[.int .i64 x2.1.Events, .slice a2 x2.1.Places.length c2]) (by kernel_rfl) (by kernel_rfl) (by kernel_rfl) (fun hx Hx => (YE.of (Y_loadA (t := 30) (n := 2) (p := ⟨b3, 0, none⟩) (cs := [.int .i64 x2.1.Events, .slice a2 x2.1.Places.length c2]) (by kernel_rfl) (fun w => by kernel_rfl) (by kernel_rfl) rfl (Hx.cells (n := 2) (off := 0) 0 rfl rfl)))) ?_
      refine DR_b 9 [.int .i64 x2.2.1, .pointer (some ⟨b2, 0, none⟩)] 1 (by kernel_rfl) (by kernel_rfl) (by kernel_rfl) (fun w => by kernel_rfl) ?_
      refine DR_b 8 [.pointer (some ⟨b2, 0, none⟩)] 5 (by kernel_rfl) (by kernel_rfl) (by kernel_rfl) (fun w => by kernel_rfl) ?_
      refine DR_e2 7 3 6 (by kernel_rfl) (by kernel_rfl) (by kernel_rfl) (by kernel_rfl) ?_ ?_
      · intro h7 H13
        have H14 : Hold h h7 [box b2 155 [.slice a1 x1.code.length c1, .int .i64 x3.2.at_, .int .i64 x3.2.seed], box b3 30 [.int .i64 x2.1.Events, .slice a2 x2.1.Places.length c2], own cd58 a2 x2.1.Places.length c2 x2.1.Places, box b1 30 [.int .i64 0, .slice none 0 0]] := H13
        refine E_lit (C := cd2) (n := 4) (l := ([(-1), 0, 1000, 1001] : List Int)) (cs := [.int .i64 (-1), .int .i64 0, .int .i64 1000, .int .i64 1001]) H14 (fun w => by kernel_rfl) (Enc.consE (cd2_own (-1) _) (Enc.consE (cd2_own 0 _) (Enc.consE (cd2_own 1000 _) (Enc.consE (cd2_own 1001 _) (Enc.nil _ _) rfl) rfl) rfl) rfl) rfl (by decide) (fun a3 h8 H15 => ?_)
        refine ⟨fun x => Hold h x [box b3 30 [.int .i64 x2.1.Events, .slice a2 x2.1.Places.length c2], own cd58 a2 x2.1.Places.length c2 x2.1.Places], fun x => Hold h x [own cd2 a3 4 4 ([(-1), 0, 1000, 1001] : List Int), box b2 155 [.slice a1 x1.code.length c1, .int .i64 x3.2.at_, .int .i64 x3.2.seed], box b3 30 [.int .i64 x2.1.Events, .slice a2 x2.1.Places.length c2], own cd58 a2 x2.1.Places.length c2 x2.1.Places, box b1 30 [.int .i64 0, .slice none 0 0]], H15, Hold.stable, fun x Hy => (show Hold h x [own cd2 a3 4 4 ([(-1), 0, 1000, 1001] : List Int), box b2 155 [.slice a1 x1.code.length c1, .int .i64 x3.2.at_, .int .i64 x3.2.seed], box b3 30 [.int .i64 x2.1.Events, .slice a2 x2.1.Places.length c2], own cd58 a2 x2.1.Places.length c2 x2.1.Places, box b1 30 [.int .i64 0, .slice none 0 0]] from Hy).pick [2, 3] (by kernel_rfl), fun x Hy => (show Hold h x [box b3 30 [.int .i64 x2.1.Events, .slice a2 x2.1.Places.length c2], own cd58 a2 x2.1.Places.length c2 x2.1.Places] from Hy).pick [0, 1] (by kernel_rfl), ?_⟩
        refine DR_e2 6 4 6 (by kernel_rfl) (by kernel_rfl) (by kernel_rfl) (by kernel_rfl) ?_ ?_
        · intro h9 H16
          have H17 : Hold h h9 [own cd2 a3 4 4 ([(-1), 0, 1000, 1001] : List Int), box b2 155 [.slice a1 x1.code.length c1, .int .i64 x3.2.at_, .int .i64 x3.2.seed], box b3 30 [.int .i64 x2.1.Events, .slice a2 x2.1.Places.length c2], own cd58 a2 x2.1.Places.length c2 x2.1.Places, box b1 30 [.int .i64 0, .slice none 0 0]] := H16
          obtain ⟨x4, hx4, gs1⟩ := M.bind_some gs1
          have hn1 := (H17.len 0 rfl)
          have H18 : Hold h h9 [own cd2 a3 (([(-1), 0, 1000, 1001] : List Int).length) 4 ([(-1), 0, 1000, 1001] : List Int), box b2 155 [.slice a1 x1.code.length c1, .int .i64 x3.2.at_, .int .i64 x3.2.seed], box b3 30 [.int .i64 x2.1.Events, .slice a2 x2.1.Places.length c2], own cd58 a2 x2.1.Places.length c2 x2.1.Places, box b1 30 [.int .i64 0, .slice none 0 0]] := by rw [hn1]; exact H17
          have H19 : Hold h h9 [box b2 155 [.slice a1 x1.code.length c1, .int .i64 x3.2.at_, .int .i64 x3.2.seed], own cd2 a3 (([(-1), 0, 1000, 1001] : List Int).length) 4 ([(-1), 0, 1000, 1001] : List Int), box b3 30 [.int .i64 x2.1.Events, .slice a2 x2.1.Places.length c2], own cd58 a2 x2.1.Places.length c2 x2.1.Places, box b1 30 [.int .i64 0, .slice none 0 0]] := H18.pick [1, 0, 2, 3, 4] (by kernel_rfl)
          have H20 : Hold h h9 [box b2 155 [.slice a1 x1.code.length c1, .int .i64 x3.2.at_, .int .i64 x3.2.seed], own cd2 a3 (([(-1), 0, 1000, 1001] : List Int).length) 4 ([(-1), 0, 1000, 1001] : List Int), bun [box b3 30 [.int .i64 x2.1.Events, .slice a2 x2.1.Places.length c2], own cd58 a2 x2.1.Places.length c2 x2.1.Places, box b1 30 [.int .i64 0, .slice none 0 0]]] := Hold.bundle (S := [box b2 155 [.slice a1 x1.code.length c1, .int .i64 x3.2.at_, .int .i64 x3.2.seed], own cd2 a3 (([(-1), 0, 1000, 1001] : List Int).length) 4 ([(-1), 0, 1000, 1001] : List Int)]) (R := [box b3 30 [.int .i64 x2.1.Events, .slice a2 x2.1.Places.length c2], own cd58 a2 x2.1.Places.length c2 x2.1.Places, box b1 30 [.int .i64 0, .slice none 0 0]]) H19
          refine E_call (f := 107) (args := #[.pointer (some ⟨b2, 0, none⟩), .slice a3 4 4]) (Fn.arg (w_spec_l01Pick h h9 _ (⟨x1.code, x3.2.at_, x3.2.seed⟩ : TL01source) b2 a1 c1 r1 ([(-1), 0, 1000, 1001] : List Int) a3 4 H20 _ _ hx4) (by simp only [hn1])) (by kernel_rfl) (fun v4 h10 hp4 => ?_)
          obtain ⟨rfl, H21⟩ := hp4
          have H22 : Hold h h10 [box b2 155 [.slice a1 x1.code.length c1, .int .i64 x4.2.1.at_, .int .i64 x4.2.1.seed], own cd2 a3 (([(-1), 0, 1000, 1001] : List Int).length) 4 x4.2.2, box b3 30 [.int .i64 x2.1.Events, .slice a2 x2.1.Places.length c2], own cd58 a2 x2.1.Places.length c2 x2.1.Places, box b1 30 [.int .i64 0, .slice none 0 0]] := Hold.unbundle (S := [box b2 155 [.slice a1 x1.code.length c1, .int .i64 x4.2.1.at_, .int .i64 x4.2.1.seed], own cd2 a3 (([(-1), 0, 1000, 1001] : List Int).length) 4 x4.2.2]) (R := [box b3 30 [.int .i64 x2.1.Events, .slice a2 x2.1.Places.length c2], own cd58 a2 x2.1.Places.length c2 x2.1.Places, box b1 30 [.int .i64 0, .slice none 0 0]]) H21 (Hold.tailBase (S := [box b2 155 [.slice a1 x1.code.length c1, .int .i64 x3.2.at_, .int .i64 x3.2.seed], own cd2 a3 (([(-1), 0, 1000, 1001] : List Int).length) 4 ([(-1), 0, 1000, 1001] : List Int)]) (R := [box b3 30 [.int .i64 x2.1.Events, .slice a2 x2.1.Places.length c2], own cd58 a2 x2.1.Places.length c2 x2.1.Places, box b1 30 [.int .i64 0, .slice none 0 0]]) H19)
          refine ⟨fun x => Hold h x [box b3 30 [.int .i64 x2.1.Events, .slice a2 x2.1.Places.length c2], own cd58 a2 x2.1.Places.length c2 x2.1.Places], fun x => Hold h x [box b2 155 [.slice a1 x1.code.length c1, .int .i64 x4.2.1.at_, .int .i64 x4.2.1.seed], own cd2 a3 (([(-1), 0, 1000, 1001] : List Int).length) 4 x4.2.2, box b3 30 [.int .i64 x2.1.Events, .slice a2 x2.1.Places.length c2], own cd58 a2 x2.1.Places.length c2 x2.1.Places, box b1 30 [.int .i64 0, .slice none 0 0]], H22, Hold.stable, fun x Hy => (show Hold h x [box b2 155 [.slice a1 x1.code.length c1, .int .i64 x4.2.1.at_, .int .i64 x4.2.1.seed], own cd2 a3 (([(-1), 0, 1000, 1001] : List Int).length) 4 x4.2.2, box b3 30 [.int .i64 x2.1.Events, .slice a2 x2.1.Places.length c2], own cd58 a2 x2.1.Places.length c2 x2.1.Places, box b1 30 [.int .i64 0, .slice none 0 0]] from Hy).pick [2, 3] (by kernel_rfl), fun x Hy => (show Hold h x [box b3 30 [.int .i64 x2.1.Events, .slice a2 x2.1.Places.length c2], own cd58 a2 x2.1.Places.length c2 x2.1.Places] from Hy).pick [0, 1] (by kernel_rfl), ?_⟩
          refine DR_e 5 6 (by kernel_rfl) (by kernel_rfl) (by kernel_rfl) (fun h11 H23 => ?_)
          have H24 : Hold h h11 [box b2 155 [.slice a1 x1.code.length c1, .int .i64 x4.2.1.at_, .int .i64 x4.2.1.seed], own cd2 a3 (([(-1), 0, 1000, 1001] : List Int).length) 4 x4.2.2, box b3 30 [.int .i64 x2.1.Events, .slice a2 x2.1.Places.length c2], own cd58 a2 x2.1.Places.length c2 x2.1.Places, box b1 30 [.int .i64 0, .slice none 0 0]] := H23
          refine E_lit (C := cd2) (n := 4) (l := ([(-1), 0, 5, 6] : List Int)) (cs := [.int .i64 (-1), .int .i64 0, .int .i64 5, .int .i64 6]) H24 (fun w => by kernel_rfl) (Enc.consE (cd2_own (-1) _) (Enc.consE (cd2_own 0 _) (Enc.consE (cd2_own 5 _) (Enc.consE (cd2_own 6 _) (Enc.nil _ _) rfl) rfl) rfl) rfl) rfl (by decide) (fun a4 h12 H25 => ?_)
          refine ⟨fun x => Hold h x [box b3 30 [.int .i64 x2.1.Events, .slice a2 x2.1.Places.length c2], own cd58 a2 x2.1.Places.length c2 x2.1.Places], fun x => Hold h x [own cd2 a4 4 4 ([(-1), 0, 5, 6] : List Int), box b2 155 [.slice a1 x1.code.length c1, .int .i64 x4.2.1.at_, .int .i64 x4.2.1.seed], own cd2 a3 (([(-1), 0, 1000, 1001] : List Int).length) 4 x4.2.2, box b3 30 [.int .i64 x2.1.Events, .slice a2 x2.1.Places.length c2], own cd58 a2 x2.1.Places.length c2 x2.1.Places, box b1 30 [.int .i64 0, .slice none 0 0]], H25, Hold.stable, fun x Hy => (show Hold h x [own cd2 a4 4 4 ([(-1), 0, 5, 6] : List Int), box b2 155 [.slice a1 x1.code.length c1, .int .i64 x4.2.1.at_, .int .i64 x4.2.1.seed], own cd2 a3 (([(-1), 0, 1000, 1001] : List Int).length) 4 x4.2.2, box b3 30 [.int .i64 x2.1.Events, .slice a2 x2.1.Places.length c2], own cd58 a2 x2.1.Places.length c2 x2.1.Places, box b1 30 [.int .i64 0, .slice none 0 0]] from Hy).pick [3, 4] (by kernel_rfl), fun x Hy => (show Hold h x [box b3 30 [.int .i64 x2.1.Events, .slice a2 x2.1.Places.length c2], own cd58 a2 x2.1.Places.length c2 x2.1.Places] from Hy).pick [0, 1] (by kernel_rfl), ?_⟩
          refine DR_e 4 7 (by kernel_rfl) (by kernel_rfl) (by kernel_rfl) (fun h13 H26 => ?_)
          have H27 : Hold h h13 [own cd2 a4 4 4 ([(-1), 0, 5, 6] : List Int), box b2 155 [.slice a1 x1.code.length c1, .int .i64 x4.2.1.at_, .int .i64 x4.2.1.seed], own cd2 a3 (([(-1), 0, 1000, 1001] : List Int).length) 4 x4.2.2, box b3 30 [.int .i64 x2.1.Events, .slice a2 x2.1.Places.length c2], own cd58 a2 x2.1.Places.length c2 x2.1.Places, box b1 30 [.int .i64 0, .slice none 0 0]] := H26
          obtain ⟨x5, hx5, gs1⟩ := M.bind_some gs1
          have hn2 := (H27.len 0 rfl)
          have H28 : Hold h h13 [own cd2 a4 (([(-1), 0, 5, 6] : List Int).length) 4 ([(-1), 0, 5, 6] : List Int), box b2 155 [.slice a1 x1.code.length c1, .int .i64 x4.2.1.at_, .int .i64 x4.2.1.seed], own cd2 a3 (([(-1), 0, 1000, 1001] : List Int).length) 4 x4.2.2, box b3 30 [.int .i64 x2.1.Events, .slice a2 x2.1.Places.length c2], own cd58 a2 x2.1.Places.length c2 x2.1.Places, box b1 30 [.int .i64 0, .slice none 0 0]] := by rw [hn2]; exact H27
          have H29 : Hold h h13 [box b2 155 [.slice a1 x1.code.length c1, .int .i64 x4.2.1.at_, .int .i64 x4.2.1.seed], own cd2 a4 (([(-1), 0, 5, 6] : List Int).length) 4 ([(-1), 0, 5, 6] : List Int), own cd2 a3 (([(-1), 0, 1000, 1001] : List Int).length) 4 x4.2.2, box b3 30 [.int .i64 x2.1.Events, .slice a2 x2.1.Places.length c2], own cd58 a2 x2.1.Places.length c2 x2.1.Places, box b1 30 [.int .i64 0, .slice none 0 0]] := H28.pick [1, 0, 2, 3, 4, 5] (by kernel_rfl)
          have H30 : Hold h h13 [box b2 155 [.slice a1 x1.code.length c1, .int .i64 x4.2.1.at_, .int .i64 x4.2.1.seed], own cd2 a4 (([(-1), 0, 5, 6] : List Int).length) 4 ([(-1), 0, 5, 6] : List Int), bun [own cd2 a3 (([(-1), 0, 1000, 1001] : List Int).length) 4 x4.2.2, box b3 30 [.int .i64 x2.1.Events, .slice a2 x2.1.Places.length c2], own cd58 a2 x2.1.Places.length c2 x2.1.Places, box b1 30 [.int .i64 0, .slice none 0 0]]] := Hold.bundle (S := [box b2 155 [.slice a1 x1.code.length c1, .int .i64 x4.2.1.at_, .int .i64 x4.2.1.seed], own cd2 a4 (([(-1), 0, 5, 6] : List Int).length) 4 ([(-1), 0, 5, 6] : List Int)]) (R := [own cd2 a3 (([(-1), 0, 1000, 1001] : List Int).length) 4 x4.2.2, box b3 30 [.int .i64 x2.1.Events, .slice a2 x2.1.Places.length c2], own cd58 a2 x2.1.Places.length c2 x2.1.Places, box b1 30 [.int .i64 0, .slice none 0 0]]) H29
          refine E_call (f := 107) (args := #[.pointer (some ⟨b2, 0, none⟩), .slice a4 4 4]) (Fn.arg (w_spec_l01Pick h h13 _ (⟨x1.code, x4.2.1.at_, x4.2.1.seed⟩ : TL01source) b2 a1 c1 r1 ([(-1), 0, 5, 6] : List Int) a4 4 H30 _ _ hx5) (by simp only [hn2])) (by kernel_rfl) (fun v5 h14 hp5 => ?_)
          obtain ⟨rfl, H31⟩ := hp5
          have H32 : Hold h h14 [box b2 155 [.slice a1 x1.code.length c1, .int .i64 x5.2.1.at_, .int .i64 x5.2.1.seed], own cd2 a4 (([(-1), 0, 5, 6] : List Int).length) 4 x5.2.2, own cd2 a3 (([(-1), 0, 1000, 1001] : List Int).length) 4 x4.2.2, box b3 30 [.int .i64 x2.1.Events, .slice a2 x2.1.Places.length c2], own cd58 a2 x2.1.Places.length c2 x2.1.Places, box b1 30 [.int .i64 0, .slice none 0 0]] := Hold.unbundle (S := [box b2 155 [.slice a1 x1.code.length c1, .int .i64 x5.2.1.at_, .int .i64 x5.2.1.seed], own cd2 a4 (([(-1), 0, 5, 6] : List Int).length) 4 x5.2.2]) (R := [own cd2 a3 (([(-1), 0, 1000, 1001] : List Int).length) 4 x4.2.2, box b3 30 [.int .i64 x2.1.Events, .slice a2 x2.1.Places.length c2], own cd58 a2 x2.1.Places.length c2 x2.1.Places, box b1 30 [.int .i64 0, .slice none 0 0]]) H31 (Hold.tailBase (S := [box b2 155 [.slice a1 x1.code.length c1, .int .i64 x4.2.1.at_, .int .i64 x4.2.1.seed], own cd2 a4 (([(-1), 0, 5, 6] : List Int).length) 4 ([(-1), 0, 5, 6] : List Int)]) (R := [own cd2 a3 (([(-1), 0, 1000, 1001] : List Int).length) 4 x4.2.2, box b3 30 [.int .i64 x2.1.Events, .slice a2 x2.1.Places.length c2], own cd58 a2 x2.1.Places.length c2 x2.1.Places, box b1 30 [.int .i64 0, .slice none 0 0]]) H29)
          refine ⟨fun x => Hold h x [box b3 30 [.int .i64 x2.1.Events, .slice a2 x2.1.Places.length c2], own cd58 a2 x2.1.Places.length c2 x2.1.Places], fun x => Hold h x [box b2 155 [.slice a1 x1.code.length c1, .int .i64 x5.2.1.at_, .int .i64 x5.2.1.seed], own cd2 a4 (([(-1), 0, 5, 6] : List Int).length) 4 x5.2.2, own cd2 a3 (([(-1), 0, 1000, 1001] : List Int).length) 4 x4.2.2, box b3 30 [.int .i64 x2.1.Events, .slice a2 x2.1.Places.length c2], own cd58 a2 x2.1.Places.length c2 x2.1.Places, box b1 30 [.int .i64 0, .slice none 0 0]], H32, Hold.stable, fun x Hy => (show Hold h x [box b2 155 [.slice a1 x1.code.length c1, .int .i64 x5.2.1.at_, .int .i64 x5.2.1.seed], own cd2 a4 (([(-1), 0, 5, 6] : List Int).length) 4 x5.2.2, own cd2 a3 (([(-1), 0, 1000, 1001] : List Int).length) 4 x4.2.2, box b3 30 [.int .i64 x2.1.Events, .slice a2 x2.1.Places.length c2], own cd58 a2 x2.1.Places.length c2 x2.1.Places, box b1 30 [.int .i64 0, .slice none 0 0]] from Hy).pick [3, 4] (by kernel_rfl), fun x Hy => (show Hold h x [box b3 30 [.int .i64 x2.1.Events, .slice a2 x2.1.Places.length c2], own cd58 a2 x2.1.Places.length c2 x2.1.Places] from Hy).pick [0, 1] (by kernel_rfl), ?_⟩
          refine DR_e 3 8 (by kernel_rfl) (by kernel_rfl) (by kernel_rfl) (fun h15 H33 => ?_)
          have H34 : Hold h h15 [box b2 155 [.slice a1 x1.code.length c1, .int .i64 x5.2.1.at_, .int .i64 x5.2.1.seed], own cd2 a4 (([(-1), 0, 5, 6] : List Int).length) 4 x5.2.2, own cd2 a3 (([(-1), 0, 1000, 1001] : List Int).length) 4 x4.2.2, box b3 30 [.int .i64 x2.1.Events, .slice a2 x2.1.Places.length c2], own cd58 a2 x2.1.Places.length c2 x2.1.Places, box b1 30 [.int .i64 0, .slice none 0 0]] := H33
          have H36 : Hold h h15 [box b1 30 [.int .i64 0, .slice none 0 0], box b2 155 [.slice a1 x1.code.length c1, .int .i64 x5.2.1.at_, .int .i64 x5.2.1.seed], own cd2 a4 (([(-1), 0, 5, 6] : List Int).length) 4 x5.2.2, own cd2 a3 (([(-1), 0, 1000, 1001] : List Int).length) 4 x4.2.2, box b3 30 [.int .i64 x2.1.Events, .slice a2 x2.1.Places.length c2], own cd58 a2 x2.1.Places.length c2 x2.1.Places] := H34.pick [5, 0, 1, 2, 3, 4] (by kernel_rfl)
          refine E_bput (t := 30) (off := 0) (us := [.int .i64 x2.1.Events, .slice a2 x2.1.Places.length c2]) (v := .agg #[.int .i64 x2.1.Events, .slice a2 x2.1.Places.length c2]) H36 (by kernel_rfl) (by kernel_rfl) rfl (by kernel_rfl) rfl (fun h16 H35 => ?_)
          refine ⟨fun x => Hold h x [box b3 30 [.int .i64 x2.1.Events, .slice a2 x2.1.Places.length c2], own cd58 a2 x2.1.Places.length c2 x2.1.Places], fun x => Hold h x [box b1 30 [.int .i64 x2.1.Events, .slice a2 x2.1.Places.length c2], box b2 155 [.slice a1 x1.code.length c1, .int .i64 x5.2.1.at_, .int .i64 x5.2.1.seed], own cd2 a4 (([(-1), 0, 5, 6] : List Int).length) 4 x5.2.2, own cd2 a3 (([(-1), 0, 1000, 1001] : List Int).length) 4 x4.2.2, box b3 30 [.int .i64 x2.1.Events, .slice a2 x2.1.Places.length c2], own cd58 a2 x2.1.Places.length c2 x2.1.Places], H35, Hold.stable, fun x Hy => (show Hold h x [box b1 30 [.int .i64 x2.1.Events, .slice a2 x2.1.Places.length c2], box b2 155 [.slice a1 x1.code.length c1, .int .i64 x5.2.1.at_, .int .i64 x5.2.1.seed], own cd2 a4 (([(-1), 0, 5, 6] : List Int).length) 4 x5.2.2, own cd2 a3 (([(-1), 0, 1000, 1001] : List Int).length) 4 x4.2.2, box b3 30 [.int .i64 x2.1.Events, .slice a2 x2.1.Places.length c2], own cd58 a2 x2.1.Places.length c2 x2.1.Places] from Hy).pick [4, 5] (by kernel_rfl), fun x Hy => (show Hold h x [box b3 30 [.int .i64 x2.1.Events, .slice a2 x2.1.Places.length c2], own cd58 a2 x2.1.Places.length c2 x2.1.Places] from Hy).pick [0, 1] (by kernel_rfl), ?_⟩
          refine DR_b 0 [.int .i64 x2.2.1, .int .i64 x4.1, .int .i64 x5.1] 9 (by kernel_rfl) (by kernel_rfl) (by kernel_rfl) (fun w => by kernel_rfl) ?_
          refine DR_tail (i := 12) (by kernel_rfl) (by kernel_rfl) (by kernel_rfl) (fun h17 H37 => ?_)
          have H38 : Hold h h17 [box b1 30 [.int .i64 x2.1.Events, .slice a2 x2.1.Places.length c2], box b2 155 [.slice a1 x1.code.length c1, .int .i64 x5.2.1.at_, .int .i64 x5.2.1.seed], own cd2 a4 (([(-1), 0, 5, 6] : List Int).length) 4 x5.2.2, own cd2 a3 (([(-1), 0, 1000, 1001] : List Int).length) 4 x4.2.2, box b3 30 [.int .i64 x2.1.Events, .slice a2 x2.1.Places.length c2], own cd58 a2 x2.1.Places.length c2 x2.1.Places] := H37
          refine Run_nil (by kernel_rfl) ?_
          refine Run_keep [2, 3, 4, 5] (L' := [(2, .pointer (some ⟨b1, 0, none⟩)), (3, .int .i64 x2.2.1), (4, .int .i64 x4.1), (5, .int .i64 x5.1)]) (by kernel_rfl) ?_
          have H102 : Hold h h17 [box b1 30 [.int .i64 x2.1.Events, .slice a2 x2.1.Places.length c2], own cd58 a2 x2.1.Places.length c2 x2.1.Places] := H38.pick [0, 5] (by kernel_rfl)
          have gs1 := M.ret_some gs1
          subst gs1
          exact Run_fall [2, 3, 4, 5] (by kernel_rfl) ⟨rfl, H102⟩
        · intro h18 H39
          have H40 : Hold h h18 [own cd2 a3 4 4 ([(-1), 0, 1000, 1001] : List Int), box b2 155 [.slice a1 x1.code.length c1, .int .i64 x3.2.at_, .int .i64 x3.2.seed], box b3 30 [.int .i64 x2.1.Events, .slice a2 x2.1.Places.length c2], own cd58 a2 x2.1.Places.length c2 x2.1.Places, box b1 30 [.int .i64 0, .slice none 0 0]] := H39
          refine E_lit (C := cd2) (n := 4) (l := ([(-1), 0, 5, 6] : List Int)) (cs := [.int .i64 (-1), .int .i64 0, .int .i64 5, .int .i64 6]) H40 (fun w => by kernel_rfl) (Enc.consE (cd2_own (-1) _) (Enc.consE (cd2_own 0 _) (Enc.consE (cd2_own 5 _) (Enc.consE (cd2_own 6 _) (Enc.nil _ _) rfl) rfl) rfl) rfl) rfl (by decide) (fun a5 h19 H41 => ?_)
          refine ⟨fun x => Hold h x [box b3 30 [.int .i64 x2.1.Events, .slice a2 x2.1.Places.length c2], own cd58 a2 x2.1.Places.length c2 x2.1.Places], fun x => Hold h x [own cd2 a5 4 4 ([(-1), 0, 5, 6] : List Int), own cd2 a3 4 4 ([(-1), 0, 1000, 1001] : List Int), box b2 155 [.slice a1 x1.code.length c1, .int .i64 x3.2.at_, .int .i64 x3.2.seed], box b3 30 [.int .i64 x2.1.Events, .slice a2 x2.1.Places.length c2], own cd58 a2 x2.1.Places.length c2 x2.1.Places, box b1 30 [.int .i64 0, .slice none 0 0]], H41, Hold.stable, fun x Hy => (show Hold h x [own cd2 a5 4 4 ([(-1), 0, 5, 6] : List Int), own cd2 a3 4 4 ([(-1), 0, 1000, 1001] : List Int), box b2 155 [.slice a1 x1.code.length c1, .int .i64 x3.2.at_, .int .i64 x3.2.seed], box b3 30 [.int .i64 x2.1.Events, .slice a2 x2.1.Places.length c2], own cd58 a2 x2.1.Places.length c2 x2.1.Places, box b1 30 [.int .i64 0, .slice none 0 0]] from Hy).pick [3, 4] (by kernel_rfl), fun x Hy => (show Hold h x [box b3 30 [.int .i64 x2.1.Events, .slice a2 x2.1.Places.length c2], own cd58 a2 x2.1.Places.length c2 x2.1.Places] from Hy).pick [0, 1] (by kernel_rfl), ?_⟩
          refine DR_e 5 4 (by kernel_rfl) (by kernel_rfl) (by kernel_rfl) (fun h20 H42 => ?_)
          have H43 : Hold h h20 [own cd2 a5 4 4 ([(-1), 0, 5, 6] : List Int), own cd2 a3 4 4 ([(-1), 0, 1000, 1001] : List Int), box b2 155 [.slice a1 x1.code.length c1, .int .i64 x3.2.at_, .int .i64 x3.2.seed], box b3 30 [.int .i64 x2.1.Events, .slice a2 x2.1.Places.length c2], own cd58 a2 x2.1.Places.length c2 x2.1.Places, box b1 30 [.int .i64 0, .slice none 0 0]] := H42
          obtain ⟨x6, hx6, gs1⟩ := M.bind_some gs1
          have H44 : Hold h h20 [own cd2 a3 4 4 ([(-1), 0, 1000, 1001] : List Int), own cd2 a5 4 4 ([(-1), 0, 5, 6] : List Int), box b2 155 [.slice a1 x1.code.length c1, .int .i64 x3.2.at_, .int .i64 x3.2.seed], box b3 30 [.int .i64 x2.1.Events, .slice a2 x2.1.Places.length c2], own cd58 a2 x2.1.Places.length c2 x2.1.Places, box b1 30 [.int .i64 0, .slice none 0 0]] := H43.pick [1, 0, 2, 3, 4, 5] (by kernel_rfl)
          have hn3 := (H44.len 0 rfl)
          have H45 : Hold h h20 [own cd2 a3 (([(-1), 0, 1000, 1001] : List Int).length) 4 ([(-1), 0, 1000, 1001] : List Int), own cd2 a5 4 4 ([(-1), 0, 5, 6] : List Int), box b2 155 [.slice a1 x1.code.length c1, .int .i64 x3.2.at_, .int .i64 x3.2.seed], box b3 30 [.int .i64 x2.1.Events, .slice a2 x2.1.Places.length c2], own cd58 a2 x2.1.Places.length c2 x2.1.Places, box b1 30 [.int .i64 0, .slice none 0 0]] := by rw [hn3]; exact H44
          have H46 : Hold h h20 [box b2 155 [.slice a1 x1.code.length c1, .int .i64 x3.2.at_, .int .i64 x3.2.seed], own cd2 a3 (([(-1), 0, 1000, 1001] : List Int).length) 4 ([(-1), 0, 1000, 1001] : List Int), own cd2 a5 4 4 ([(-1), 0, 5, 6] : List Int), box b3 30 [.int .i64 x2.1.Events, .slice a2 x2.1.Places.length c2], own cd58 a2 x2.1.Places.length c2 x2.1.Places, box b1 30 [.int .i64 0, .slice none 0 0]] := H45.pick [2, 0, 1, 3, 4, 5] (by kernel_rfl)
          have H47 : Hold h h20 [box b2 155 [.slice a1 x1.code.length c1, .int .i64 x3.2.at_, .int .i64 x3.2.seed], own cd2 a3 (([(-1), 0, 1000, 1001] : List Int).length) 4 ([(-1), 0, 1000, 1001] : List Int), bun [own cd2 a5 4 4 ([(-1), 0, 5, 6] : List Int), box b3 30 [.int .i64 x2.1.Events, .slice a2 x2.1.Places.length c2], own cd58 a2 x2.1.Places.length c2 x2.1.Places, box b1 30 [.int .i64 0, .slice none 0 0]]] := Hold.bundle (S := [box b2 155 [.slice a1 x1.code.length c1, .int .i64 x3.2.at_, .int .i64 x3.2.seed], own cd2 a3 (([(-1), 0, 1000, 1001] : List Int).length) 4 ([(-1), 0, 1000, 1001] : List Int)]) (R := [own cd2 a5 4 4 ([(-1), 0, 5, 6] : List Int), box b3 30 [.int .i64 x2.1.Events, .slice a2 x2.1.Places.length c2], own cd58 a2 x2.1.Places.length c2 x2.1.Places, box b1 30 [.int .i64 0, .slice none 0 0]]) H46
          refine E_call (f := 107) (args := #[.pointer (some ⟨b2, 0, none⟩), .slice a3 4 4]) (Fn.arg (w_spec_l01Pick h h20 _ (⟨x1.code, x3.2.at_, x3.2.seed⟩ : TL01source) b2 a1 c1 r1 ([(-1), 0, 1000, 1001] : List Int) a3 4 H47 _ _ hx6) (by simp only [hn3])) (by kernel_rfl) (fun v6 h21 hp6 => ?_)
          obtain ⟨rfl, H48⟩ := hp6
          have H49 : Hold h h21 [box b2 155 [.slice a1 x1.code.length c1, .int .i64 x6.2.1.at_, .int .i64 x6.2.1.seed], own cd2 a3 (([(-1), 0, 1000, 1001] : List Int).length) 4 x6.2.2, own cd2 a5 4 4 ([(-1), 0, 5, 6] : List Int), box b3 30 [.int .i64 x2.1.Events, .slice a2 x2.1.Places.length c2], own cd58 a2 x2.1.Places.length c2 x2.1.Places, box b1 30 [.int .i64 0, .slice none 0 0]] := Hold.unbundle (S := [box b2 155 [.slice a1 x1.code.length c1, .int .i64 x6.2.1.at_, .int .i64 x6.2.1.seed], own cd2 a3 (([(-1), 0, 1000, 1001] : List Int).length) 4 x6.2.2]) (R := [own cd2 a5 4 4 ([(-1), 0, 5, 6] : List Int), box b3 30 [.int .i64 x2.1.Events, .slice a2 x2.1.Places.length c2], own cd58 a2 x2.1.Places.length c2 x2.1.Places, box b1 30 [.int .i64 0, .slice none 0 0]]) H48 (Hold.tailBase (S := [box b2 155 [.slice a1 x1.code.length c1, .int .i64 x3.2.at_, .int .i64 x3.2.seed], own cd2 a3 (([(-1), 0, 1000, 1001] : List Int).length) 4 ([(-1), 0, 1000, 1001] : List Int)]) (R := [own cd2 a5 4 4 ([(-1), 0, 5, 6] : List Int), box b3 30 [.int .i64 x2.1.Events, .slice a2 x2.1.Places.length c2], own cd58 a2 x2.1.Places.length c2 x2.1.Places, box b1 30 [.int .i64 0, .slice none 0 0]]) H46)
          refine ⟨fun x => Hold h x [box b3 30 [.int .i64 x2.1.Events, .slice a2 x2.1.Places.length c2], own cd58 a2 x2.1.Places.length c2 x2.1.Places], fun x => Hold h x [box b2 155 [.slice a1 x1.code.length c1, .int .i64 x6.2.1.at_, .int .i64 x6.2.1.seed], own cd2 a3 (([(-1), 0, 1000, 1001] : List Int).length) 4 x6.2.2, own cd2 a5 4 4 ([(-1), 0, 5, 6] : List Int), box b3 30 [.int .i64 x2.1.Events, .slice a2 x2.1.Places.length c2], own cd58 a2 x2.1.Places.length c2 x2.1.Places, box b1 30 [.int .i64 0, .slice none 0 0]], H49, Hold.stable, fun x Hy => (show Hold h x [box b2 155 [.slice a1 x1.code.length c1, .int .i64 x6.2.1.at_, .int .i64 x6.2.1.seed], own cd2 a3 (([(-1), 0, 1000, 1001] : List Int).length) 4 x6.2.2, own cd2 a5 4 4 ([(-1), 0, 5, 6] : List Int), box b3 30 [.int .i64 x2.1.Events, .slice a2 x2.1.Places.length c2], own cd58 a2 x2.1.Places.length c2 x2.1.Places, box b1 30 [.int .i64 0, .slice none 0 0]] from Hy).pick [3, 4] (by kernel_rfl), fun x Hy => (show Hold h x [box b3 30 [.int .i64 x2.1.Events, .slice a2 x2.1.Places.length c2], own cd58 a2 x2.1.Places.length c2 x2.1.Places] from Hy).pick [0, 1] (by kernel_rfl), ?_⟩
          refine DR_e 4 7 (by kernel_rfl) (by kernel_rfl) (by kernel_rfl) (fun h22 H50 => ?_)
          have H51 : Hold h h22 [box b2 155 [.slice a1 x1.code.length c1, .int .i64 x6.2.1.at_, .int .i64 x6.2.1.seed], own cd2 a3 (([(-1), 0, 1000, 1001] : List Int).length) 4 x6.2.2, own cd2 a5 4 4 ([(-1), 0, 5, 6] : List Int), box b3 30 [.int .i64 x2.1.Events, .slice a2 x2.1.Places.length c2], own cd58 a2 x2.1.Places.length c2 x2.1.Places, box b1 30 [.int .i64 0, .slice none 0 0]] := H50
          obtain ⟨x7, hx7, gs1⟩ := M.bind_some gs1
          have H52 : Hold h h22 [own cd2 a5 4 4 ([(-1), 0, 5, 6] : List Int), box b2 155 [.slice a1 x1.code.length c1, .int .i64 x6.2.1.at_, .int .i64 x6.2.1.seed], own cd2 a3 (([(-1), 0, 1000, 1001] : List Int).length) 4 x6.2.2, box b3 30 [.int .i64 x2.1.Events, .slice a2 x2.1.Places.length c2], own cd58 a2 x2.1.Places.length c2 x2.1.Places, box b1 30 [.int .i64 0, .slice none 0 0]] := H51.pick [2, 0, 1, 3, 4, 5] (by kernel_rfl)
          have hn4 := (H52.len 0 rfl)
          have H53 : Hold h h22 [own cd2 a5 (([(-1), 0, 5, 6] : List Int).length) 4 ([(-1), 0, 5, 6] : List Int), box b2 155 [.slice a1 x1.code.length c1, .int .i64 x6.2.1.at_, .int .i64 x6.2.1.seed], own cd2 a3 (([(-1), 0, 1000, 1001] : List Int).length) 4 x6.2.2, box b3 30 [.int .i64 x2.1.Events, .slice a2 x2.1.Places.length c2], own cd58 a2 x2.1.Places.length c2 x2.1.Places, box b1 30 [.int .i64 0, .slice none 0 0]] := by rw [hn4]; exact H52
          have H54 : Hold h h22 [box b2 155 [.slice a1 x1.code.length c1, .int .i64 x6.2.1.at_, .int .i64 x6.2.1.seed], own cd2 a5 (([(-1), 0, 5, 6] : List Int).length) 4 ([(-1), 0, 5, 6] : List Int), own cd2 a3 (([(-1), 0, 1000, 1001] : List Int).length) 4 x6.2.2, box b3 30 [.int .i64 x2.1.Events, .slice a2 x2.1.Places.length c2], own cd58 a2 x2.1.Places.length c2 x2.1.Places, box b1 30 [.int .i64 0, .slice none 0 0]] := H53.pick [1, 0, 2, 3, 4, 5] (by kernel_rfl)
          have H55 : Hold h h22 [box b2 155 [.slice a1 x1.code.length c1, .int .i64 x6.2.1.at_, .int .i64 x6.2.1.seed], own cd2 a5 (([(-1), 0, 5, 6] : List Int).length) 4 ([(-1), 0, 5, 6] : List Int), bun [own cd2 a3 (([(-1), 0, 1000, 1001] : List Int).length) 4 x6.2.2, box b3 30 [.int .i64 x2.1.Events, .slice a2 x2.1.Places.length c2], own cd58 a2 x2.1.Places.length c2 x2.1.Places, box b1 30 [.int .i64 0, .slice none 0 0]]] := Hold.bundle (S := [box b2 155 [.slice a1 x1.code.length c1, .int .i64 x6.2.1.at_, .int .i64 x6.2.1.seed], own cd2 a5 (([(-1), 0, 5, 6] : List Int).length) 4 ([(-1), 0, 5, 6] : List Int)]) (R := [own cd2 a3 (([(-1), 0, 1000, 1001] : List Int).length) 4 x6.2.2, box b3 30 [.int .i64 x2.1.Events, .slice a2 x2.1.Places.length c2], own cd58 a2 x2.1.Places.length c2 x2.1.Places, box b1 30 [.int .i64 0, .slice none 0 0]]) H54
          refine E_call (f := 107) (args := #[.pointer (some ⟨b2, 0, none⟩), .slice a5 4 4]) (Fn.arg (w_spec_l01Pick h h22 _ (⟨x1.code, x6.2.1.at_, x6.2.1.seed⟩ : TL01source) b2 a1 c1 r1 ([(-1), 0, 5, 6] : List Int) a5 4 H55 _ _ hx7) (by simp only [hn4])) (by kernel_rfl) (fun v7 h23 hp7 => ?_)
          obtain ⟨rfl, H56⟩ := hp7
          have H57 : Hold h h23 [box b2 155 [.slice a1 x1.code.length c1, .int .i64 x7.2.1.at_, .int .i64 x7.2.1.seed], own cd2 a5 (([(-1), 0, 5, 6] : List Int).length) 4 x7.2.2, own cd2 a3 (([(-1), 0, 1000, 1001] : List Int).length) 4 x6.2.2, box b3 30 [.int .i64 x2.1.Events, .slice a2 x2.1.Places.length c2], own cd58 a2 x2.1.Places.length c2 x2.1.Places, box b1 30 [.int .i64 0, .slice none 0 0]] := Hold.unbundle (S := [box b2 155 [.slice a1 x1.code.length c1, .int .i64 x7.2.1.at_, .int .i64 x7.2.1.seed], own cd2 a5 (([(-1), 0, 5, 6] : List Int).length) 4 x7.2.2]) (R := [own cd2 a3 (([(-1), 0, 1000, 1001] : List Int).length) 4 x6.2.2, box b3 30 [.int .i64 x2.1.Events, .slice a2 x2.1.Places.length c2], own cd58 a2 x2.1.Places.length c2 x2.1.Places, box b1 30 [.int .i64 0, .slice none 0 0]]) H56 (Hold.tailBase (S := [box b2 155 [.slice a1 x1.code.length c1, .int .i64 x6.2.1.at_, .int .i64 x6.2.1.seed], own cd2 a5 (([(-1), 0, 5, 6] : List Int).length) 4 ([(-1), 0, 5, 6] : List Int)]) (R := [own cd2 a3 (([(-1), 0, 1000, 1001] : List Int).length) 4 x6.2.2, box b3 30 [.int .i64 x2.1.Events, .slice a2 x2.1.Places.length c2], own cd58 a2 x2.1.Places.length c2 x2.1.Places, box b1 30 [.int .i64 0, .slice none 0 0]]) H54)
          refine ⟨fun x => Hold h x [box b3 30 [.int .i64 x2.1.Events, .slice a2 x2.1.Places.length c2], own cd58 a2 x2.1.Places.length c2 x2.1.Places], fun x => Hold h x [box b2 155 [.slice a1 x1.code.length c1, .int .i64 x7.2.1.at_, .int .i64 x7.2.1.seed], own cd2 a5 (([(-1), 0, 5, 6] : List Int).length) 4 x7.2.2, own cd2 a3 (([(-1), 0, 1000, 1001] : List Int).length) 4 x6.2.2, box b3 30 [.int .i64 x2.1.Events, .slice a2 x2.1.Places.length c2], own cd58 a2 x2.1.Places.length c2 x2.1.Places, box b1 30 [.int .i64 0, .slice none 0 0]], H57, Hold.stable, fun x Hy => (show Hold h x [box b2 155 [.slice a1 x1.code.length c1, .int .i64 x7.2.1.at_, .int .i64 x7.2.1.seed], own cd2 a5 (([(-1), 0, 5, 6] : List Int).length) 4 x7.2.2, own cd2 a3 (([(-1), 0, 1000, 1001] : List Int).length) 4 x6.2.2, box b3 30 [.int .i64 x2.1.Events, .slice a2 x2.1.Places.length c2], own cd58 a2 x2.1.Places.length c2 x2.1.Places, box b1 30 [.int .i64 0, .slice none 0 0]] from Hy).pick [3, 4] (by kernel_rfl), fun x Hy => (show Hold h x [box b3 30 [.int .i64 x2.1.Events, .slice a2 x2.1.Places.length c2], own cd58 a2 x2.1.Places.length c2 x2.1.Places] from Hy).pick [0, 1] (by kernel_rfl), ?_⟩
          refine DR_e 3 8 (by kernel_rfl) (by kernel_rfl) (by kernel_rfl) (fun h24 H58 => ?_)
          have H59 : Hold h h24 [box b2 155 [.slice a1 x1.code.length c1, .int .i64 x7.2.1.at_, .int .i64 x7.2.1.seed], own cd2 a5 (([(-1), 0, 5, 6] : List Int).length) 4 x7.2.2, own cd2 a3 (([(-1), 0, 1000, 1001] : List Int).length) 4 x6.2.2, box b3 30 [.int .i64 x2.1.Events, .slice a2 x2.1.Places.length c2], own cd58 a2 x2.1.Places.length c2 x2.1.Places, box b1 30 [.int .i64 0, .slice none 0 0]] := H58
          have H61 : Hold h h24 [box b1 30 [.int .i64 0, .slice none 0 0], box b2 155 [.slice a1 x1.code.length c1, .int .i64 x7.2.1.at_, .int .i64 x7.2.1.seed], own cd2 a5 (([(-1), 0, 5, 6] : List Int).length) 4 x7.2.2, own cd2 a3 (([(-1), 0, 1000, 1001] : List Int).length) 4 x6.2.2, box b3 30 [.int .i64 x2.1.Events, .slice a2 x2.1.Places.length c2], own cd58 a2 x2.1.Places.length c2 x2.1.Places] := H59.pick [5, 0, 1, 2, 3, 4] (by kernel_rfl)
          refine E_bput (t := 30) (off := 0) (us := [.int .i64 x2.1.Events, .slice a2 x2.1.Places.length c2]) (v := .agg #[.int .i64 x2.1.Events, .slice a2 x2.1.Places.length c2]) H61 (by kernel_rfl) (by kernel_rfl) rfl (by kernel_rfl) rfl (fun h25 H60 => ?_)
          refine ⟨fun x => Hold h x [box b3 30 [.int .i64 x2.1.Events, .slice a2 x2.1.Places.length c2], own cd58 a2 x2.1.Places.length c2 x2.1.Places], fun x => Hold h x [box b1 30 [.int .i64 x2.1.Events, .slice a2 x2.1.Places.length c2], box b2 155 [.slice a1 x1.code.length c1, .int .i64 x7.2.1.at_, .int .i64 x7.2.1.seed], own cd2 a5 (([(-1), 0, 5, 6] : List Int).length) 4 x7.2.2, own cd2 a3 (([(-1), 0, 1000, 1001] : List Int).length) 4 x6.2.2, box b3 30 [.int .i64 x2.1.Events, .slice a2 x2.1.Places.length c2], own cd58 a2 x2.1.Places.length c2 x2.1.Places], H60, Hold.stable, fun x Hy => (show Hold h x [box b1 30 [.int .i64 x2.1.Events, .slice a2 x2.1.Places.length c2], box b2 155 [.slice a1 x1.code.length c1, .int .i64 x7.2.1.at_, .int .i64 x7.2.1.seed], own cd2 a5 (([(-1), 0, 5, 6] : List Int).length) 4 x7.2.2, own cd2 a3 (([(-1), 0, 1000, 1001] : List Int).length) 4 x6.2.2, box b3 30 [.int .i64 x2.1.Events, .slice a2 x2.1.Places.length c2], own cd58 a2 x2.1.Places.length c2 x2.1.Places] from Hy).pick [4, 5] (by kernel_rfl), fun x Hy => (show Hold h x [box b3 30 [.int .i64 x2.1.Events, .slice a2 x2.1.Places.length c2], own cd58 a2 x2.1.Places.length c2 x2.1.Places] from Hy).pick [0, 1] (by kernel_rfl), ?_⟩
          refine DR_b 0 [.int .i64 x2.2.1, .int .i64 x6.1, .int .i64 x7.1] 9 (by kernel_rfl) (by kernel_rfl) (by kernel_rfl) (fun w => by kernel_rfl) ?_
          refine DR_tail (i := 12) (by kernel_rfl) (by kernel_rfl) (by kernel_rfl) (fun h26 H62 => ?_)
          have H63 : Hold h h26 [box b1 30 [.int .i64 x2.1.Events, .slice a2 x2.1.Places.length c2], box b2 155 [.slice a1 x1.code.length c1, .int .i64 x7.2.1.at_, .int .i64 x7.2.1.seed], own cd2 a5 (([(-1), 0, 5, 6] : List Int).length) 4 x7.2.2, own cd2 a3 (([(-1), 0, 1000, 1001] : List Int).length) 4 x6.2.2, box b3 30 [.int .i64 x2.1.Events, .slice a2 x2.1.Places.length c2], own cd58 a2 x2.1.Places.length c2 x2.1.Places] := H62
          refine Run_nil (by kernel_rfl) ?_
          refine Run_keep [2, 3, 4, 5] (L' := [(2, .pointer (some ⟨b1, 0, none⟩)), (3, .int .i64 x2.2.1), (4, .int .i64 x6.1), (5, .int .i64 x7.1)]) (by kernel_rfl) ?_
          have H103 : Hold h h26 [box b1 30 [.int .i64 x2.1.Events, .slice a2 x2.1.Places.length c2], own cd58 a2 x2.1.Places.length c2 x2.1.Places] := H63.pick [0, 5] (by kernel_rfl)
          have gs1 := M.ret_some gs1
          subst gs1
          exact Run_fall [2, 3, 4, 5] (by kernel_rfl) ⟨rfl, H103⟩
      · intro h27 H64
        have H65 : Hold h h27 [box b2 155 [.slice a1 x1.code.length c1, .int .i64 x3.2.at_, .int .i64 x3.2.seed], box b3 30 [.int .i64 x2.1.Events, .slice a2 x2.1.Places.length c2], own cd58 a2 x2.1.Places.length c2 x2.1.Places, box b1 30 [.int .i64 0, .slice none 0 0]] := H64
        refine E_lit (C := cd2) (n := 4) (l := ([(-1), 0, 5, 6] : List Int)) (cs := [.int .i64 (-1), .int .i64 0, .int .i64 5, .int .i64 6]) H65 (fun w => by kernel_rfl) (Enc.consE (cd2_own (-1) _) (Enc.consE (cd2_own 0 _) (Enc.consE (cd2_own 5 _) (Enc.consE (cd2_own 6 _) (Enc.nil _ _) rfl) rfl) rfl) rfl) rfl (by decide) (fun a6 h28 H66 => ?_)
        refine ⟨fun x => Hold h x [box b3 30 [.int .i64 x2.1.Events, .slice a2 x2.1.Places.length c2], own cd58 a2 x2.1.Places.length c2 x2.1.Places], fun x => Hold h x [own cd2 a6 4 4 ([(-1), 0, 5, 6] : List Int), box b2 155 [.slice a1 x1.code.length c1, .int .i64 x3.2.at_, .int .i64 x3.2.seed], box b3 30 [.int .i64 x2.1.Events, .slice a2 x2.1.Places.length c2], own cd58 a2 x2.1.Places.length c2 x2.1.Places, box b1 30 [.int .i64 0, .slice none 0 0]], H66, Hold.stable, fun x Hy => (show Hold h x [own cd2 a6 4 4 ([(-1), 0, 5, 6] : List Int), box b2 155 [.slice a1 x1.code.length c1, .int .i64 x3.2.at_, .int .i64 x3.2.seed], box b3 30 [.int .i64 x2.1.Events, .slice a2 x2.1.Places.length c2], own cd58 a2 x2.1.Places.length c2 x2.1.Places, box b1 30 [.int .i64 0, .slice none 0 0]] from Hy).pick [2, 3] (by kernel_rfl), fun x Hy => (show Hold h x [box b3 30 [.int .i64 x2.1.Events, .slice a2 x2.1.Places.length c2], own cd58 a2 x2.1.Places.length c2 x2.1.Places] from Hy).pick [0, 1] (by kernel_rfl), ?_⟩
        refine DR_e 6 3 (by kernel_rfl) (by kernel_rfl) (by kernel_rfl) (fun h29 H67 => ?_)
        have H68 : Hold h h29 [own cd2 a6 4 4 ([(-1), 0, 5, 6] : List Int), box b2 155 [.slice a1 x1.code.length c1, .int .i64 x3.2.at_, .int .i64 x3.2.seed], box b3 30 [.int .i64 x2.1.Events, .slice a2 x2.1.Places.length c2], own cd58 a2 x2.1.Places.length c2 x2.1.Places, box b1 30 [.int .i64 0, .slice none 0 0]] := H67
        refine E_lit (C := cd2) (n := 4) (l := ([(-1), 0, 1000, 1001] : List Int)) (cs := [.int .i64 (-1), .int .i64 0, .int .i64 1000, .int .i64 1001]) H68 (fun w => by kernel_rfl) (Enc.consE (cd2_own (-1) _) (Enc.consE (cd2_own 0 _) (Enc.consE (cd2_own 1000 _) (Enc.consE (cd2_own 1001 _) (Enc.nil _ _) rfl) rfl) rfl) rfl) rfl (by decide) (fun a7 h30 H69 => ?_)
        refine ⟨fun x => Hold h x [box b3 30 [.int .i64 x2.1.Events, .slice a2 x2.1.Places.length c2], own cd58 a2 x2.1.Places.length c2 x2.1.Places], fun x => Hold h x [own cd2 a7 4 4 ([(-1), 0, 1000, 1001] : List Int), own cd2 a6 4 4 ([(-1), 0, 5, 6] : List Int), box b2 155 [.slice a1 x1.code.length c1, .int .i64 x3.2.at_, .int .i64 x3.2.seed], box b3 30 [.int .i64 x2.1.Events, .slice a2 x2.1.Places.length c2], own cd58 a2 x2.1.Places.length c2 x2.1.Places, box b1 30 [.int .i64 0, .slice none 0 0]], H69, Hold.stable, fun x Hy => (show Hold h x [own cd2 a7 4 4 ([(-1), 0, 1000, 1001] : List Int), own cd2 a6 4 4 ([(-1), 0, 5, 6] : List Int), box b2 155 [.slice a1 x1.code.length c1, .int .i64 x3.2.at_, .int .i64 x3.2.seed], box b3 30 [.int .i64 x2.1.Events, .slice a2 x2.1.Places.length c2], own cd58 a2 x2.1.Places.length c2 x2.1.Places, box b1 30 [.int .i64 0, .slice none 0 0]] from Hy).pick [3, 4] (by kernel_rfl), fun x Hy => (show Hold h x [box b3 30 [.int .i64 x2.1.Events, .slice a2 x2.1.Places.length c2], own cd58 a2 x2.1.Places.length c2 x2.1.Places] from Hy).pick [0, 1] (by kernel_rfl), ?_⟩
        refine DR_e 5 4 (by kernel_rfl) (by kernel_rfl) (by kernel_rfl) (fun h31 H70 => ?_)
        have H71 : Hold h h31 [own cd2 a7 4 4 ([(-1), 0, 1000, 1001] : List Int), own cd2 a6 4 4 ([(-1), 0, 5, 6] : List Int), box b2 155 [.slice a1 x1.code.length c1, .int .i64 x3.2.at_, .int .i64 x3.2.seed], box b3 30 [.int .i64 x2.1.Events, .slice a2 x2.1.Places.length c2], own cd58 a2 x2.1.Places.length c2 x2.1.Places, box b1 30 [.int .i64 0, .slice none 0 0]] := H70
        obtain ⟨x8, hx8, gs1⟩ := M.bind_some gs1
        have hn5 := (H71.len 0 rfl)
        have H72 : Hold h h31 [own cd2 a7 (([(-1), 0, 1000, 1001] : List Int).length) 4 ([(-1), 0, 1000, 1001] : List Int), own cd2 a6 4 4 ([(-1), 0, 5, 6] : List Int), box b2 155 [.slice a1 x1.code.length c1, .int .i64 x3.2.at_, .int .i64 x3.2.seed], box b3 30 [.int .i64 x2.1.Events, .slice a2 x2.1.Places.length c2], own cd58 a2 x2.1.Places.length c2 x2.1.Places, box b1 30 [.int .i64 0, .slice none 0 0]] := by rw [hn5]; exact H71
        have H73 : Hold h h31 [box b2 155 [.slice a1 x1.code.length c1, .int .i64 x3.2.at_, .int .i64 x3.2.seed], own cd2 a7 (([(-1), 0, 1000, 1001] : List Int).length) 4 ([(-1), 0, 1000, 1001] : List Int), own cd2 a6 4 4 ([(-1), 0, 5, 6] : List Int), box b3 30 [.int .i64 x2.1.Events, .slice a2 x2.1.Places.length c2], own cd58 a2 x2.1.Places.length c2 x2.1.Places, box b1 30 [.int .i64 0, .slice none 0 0]] := H72.pick [2, 0, 1, 3, 4, 5] (by kernel_rfl)
        have H74 : Hold h h31 [box b2 155 [.slice a1 x1.code.length c1, .int .i64 x3.2.at_, .int .i64 x3.2.seed], own cd2 a7 (([(-1), 0, 1000, 1001] : List Int).length) 4 ([(-1), 0, 1000, 1001] : List Int), bun [own cd2 a6 4 4 ([(-1), 0, 5, 6] : List Int), box b3 30 [.int .i64 x2.1.Events, .slice a2 x2.1.Places.length c2], own cd58 a2 x2.1.Places.length c2 x2.1.Places, box b1 30 [.int .i64 0, .slice none 0 0]]] := Hold.bundle (S := [box b2 155 [.slice a1 x1.code.length c1, .int .i64 x3.2.at_, .int .i64 x3.2.seed], own cd2 a7 (([(-1), 0, 1000, 1001] : List Int).length) 4 ([(-1), 0, 1000, 1001] : List Int)]) (R := [own cd2 a6 4 4 ([(-1), 0, 5, 6] : List Int), box b3 30 [.int .i64 x2.1.Events, .slice a2 x2.1.Places.length c2], own cd58 a2 x2.1.Places.length c2 x2.1.Places, box b1 30 [.int .i64 0, .slice none 0 0]]) H73
        refine E_call (f := 107) (args := #[.pointer (some ⟨b2, 0, none⟩), .slice a7 4 4]) (Fn.arg (w_spec_l01Pick h h31 _ (⟨x1.code, x3.2.at_, x3.2.seed⟩ : TL01source) b2 a1 c1 r1 ([(-1), 0, 1000, 1001] : List Int) a7 4 H74 _ _ hx8) (by simp only [hn5])) (by kernel_rfl) (fun v8 h32 hp8 => ?_)
        obtain ⟨rfl, H75⟩ := hp8
        have H76 : Hold h h32 [box b2 155 [.slice a1 x1.code.length c1, .int .i64 x8.2.1.at_, .int .i64 x8.2.1.seed], own cd2 a7 (([(-1), 0, 1000, 1001] : List Int).length) 4 x8.2.2, own cd2 a6 4 4 ([(-1), 0, 5, 6] : List Int), box b3 30 [.int .i64 x2.1.Events, .slice a2 x2.1.Places.length c2], own cd58 a2 x2.1.Places.length c2 x2.1.Places, box b1 30 [.int .i64 0, .slice none 0 0]] := Hold.unbundle (S := [box b2 155 [.slice a1 x1.code.length c1, .int .i64 x8.2.1.at_, .int .i64 x8.2.1.seed], own cd2 a7 (([(-1), 0, 1000, 1001] : List Int).length) 4 x8.2.2]) (R := [own cd2 a6 4 4 ([(-1), 0, 5, 6] : List Int), box b3 30 [.int .i64 x2.1.Events, .slice a2 x2.1.Places.length c2], own cd58 a2 x2.1.Places.length c2 x2.1.Places, box b1 30 [.int .i64 0, .slice none 0 0]]) H75 (Hold.tailBase (S := [box b2 155 [.slice a1 x1.code.length c1, .int .i64 x3.2.at_, .int .i64 x3.2.seed], own cd2 a7 (([(-1), 0, 1000, 1001] : List Int).length) 4 ([(-1), 0, 1000, 1001] : List Int)]) (R := [own cd2 a6 4 4 ([(-1), 0, 5, 6] : List Int), box b3 30 [.int .i64 x2.1.Events, .slice a2 x2.1.Places.length c2], own cd58 a2 x2.1.Places.length c2 x2.1.Places, box b1 30 [.int .i64 0, .slice none 0 0]]) H73)
        refine ⟨fun x => Hold h x [box b3 30 [.int .i64 x2.1.Events, .slice a2 x2.1.Places.length c2], own cd58 a2 x2.1.Places.length c2 x2.1.Places], fun x => Hold h x [box b2 155 [.slice a1 x1.code.length c1, .int .i64 x8.2.1.at_, .int .i64 x8.2.1.seed], own cd2 a7 (([(-1), 0, 1000, 1001] : List Int).length) 4 x8.2.2, own cd2 a6 4 4 ([(-1), 0, 5, 6] : List Int), box b3 30 [.int .i64 x2.1.Events, .slice a2 x2.1.Places.length c2], own cd58 a2 x2.1.Places.length c2 x2.1.Places, box b1 30 [.int .i64 0, .slice none 0 0]], H76, Hold.stable, fun x Hy => (show Hold h x [box b2 155 [.slice a1 x1.code.length c1, .int .i64 x8.2.1.at_, .int .i64 x8.2.1.seed], own cd2 a7 (([(-1), 0, 1000, 1001] : List Int).length) 4 x8.2.2, own cd2 a6 4 4 ([(-1), 0, 5, 6] : List Int), box b3 30 [.int .i64 x2.1.Events, .slice a2 x2.1.Places.length c2], own cd58 a2 x2.1.Places.length c2 x2.1.Places, box b1 30 [.int .i64 0, .slice none 0 0]] from Hy).pick [3, 4] (by kernel_rfl), fun x Hy => (show Hold h x [box b3 30 [.int .i64 x2.1.Events, .slice a2 x2.1.Places.length c2], own cd58 a2 x2.1.Places.length c2 x2.1.Places] from Hy).pick [0, 1] (by kernel_rfl), ?_⟩
        refine DR_e 4 7 (by kernel_rfl) (by kernel_rfl) (by kernel_rfl) (fun h33 H77 => ?_)
        have H78 : Hold h h33 [box b2 155 [.slice a1 x1.code.length c1, .int .i64 x8.2.1.at_, .int .i64 x8.2.1.seed], own cd2 a7 (([(-1), 0, 1000, 1001] : List Int).length) 4 x8.2.2, own cd2 a6 4 4 ([(-1), 0, 5, 6] : List Int), box b3 30 [.int .i64 x2.1.Events, .slice a2 x2.1.Places.length c2], own cd58 a2 x2.1.Places.length c2 x2.1.Places, box b1 30 [.int .i64 0, .slice none 0 0]] := H77
        obtain ⟨x9, hx9, gs1⟩ := M.bind_some gs1
        have H79 : Hold h h33 [own cd2 a6 4 4 ([(-1), 0, 5, 6] : List Int), box b2 155 [.slice a1 x1.code.length c1, .int .i64 x8.2.1.at_, .int .i64 x8.2.1.seed], own cd2 a7 (([(-1), 0, 1000, 1001] : List Int).length) 4 x8.2.2, box b3 30 [.int .i64 x2.1.Events, .slice a2 x2.1.Places.length c2], own cd58 a2 x2.1.Places.length c2 x2.1.Places, box b1 30 [.int .i64 0, .slice none 0 0]] := H78.pick [2, 0, 1, 3, 4, 5] (by kernel_rfl)
        have hn6 := (H79.len 0 rfl)
        have H80 : Hold h h33 [own cd2 a6 (([(-1), 0, 5, 6] : List Int).length) 4 ([(-1), 0, 5, 6] : List Int), box b2 155 [.slice a1 x1.code.length c1, .int .i64 x8.2.1.at_, .int .i64 x8.2.1.seed], own cd2 a7 (([(-1), 0, 1000, 1001] : List Int).length) 4 x8.2.2, box b3 30 [.int .i64 x2.1.Events, .slice a2 x2.1.Places.length c2], own cd58 a2 x2.1.Places.length c2 x2.1.Places, box b1 30 [.int .i64 0, .slice none 0 0]] := by rw [hn6]; exact H79
        have H81 : Hold h h33 [box b2 155 [.slice a1 x1.code.length c1, .int .i64 x8.2.1.at_, .int .i64 x8.2.1.seed], own cd2 a6 (([(-1), 0, 5, 6] : List Int).length) 4 ([(-1), 0, 5, 6] : List Int), own cd2 a7 (([(-1), 0, 1000, 1001] : List Int).length) 4 x8.2.2, box b3 30 [.int .i64 x2.1.Events, .slice a2 x2.1.Places.length c2], own cd58 a2 x2.1.Places.length c2 x2.1.Places, box b1 30 [.int .i64 0, .slice none 0 0]] := H80.pick [1, 0, 2, 3, 4, 5] (by kernel_rfl)
        have H82 : Hold h h33 [box b2 155 [.slice a1 x1.code.length c1, .int .i64 x8.2.1.at_, .int .i64 x8.2.1.seed], own cd2 a6 (([(-1), 0, 5, 6] : List Int).length) 4 ([(-1), 0, 5, 6] : List Int), bun [own cd2 a7 (([(-1), 0, 1000, 1001] : List Int).length) 4 x8.2.2, box b3 30 [.int .i64 x2.1.Events, .slice a2 x2.1.Places.length c2], own cd58 a2 x2.1.Places.length c2 x2.1.Places, box b1 30 [.int .i64 0, .slice none 0 0]]] := Hold.bundle (S := [box b2 155 [.slice a1 x1.code.length c1, .int .i64 x8.2.1.at_, .int .i64 x8.2.1.seed], own cd2 a6 (([(-1), 0, 5, 6] : List Int).length) 4 ([(-1), 0, 5, 6] : List Int)]) (R := [own cd2 a7 (([(-1), 0, 1000, 1001] : List Int).length) 4 x8.2.2, box b3 30 [.int .i64 x2.1.Events, .slice a2 x2.1.Places.length c2], own cd58 a2 x2.1.Places.length c2 x2.1.Places, box b1 30 [.int .i64 0, .slice none 0 0]]) H81
        refine E_call (f := 107) (args := #[.pointer (some ⟨b2, 0, none⟩), .slice a6 4 4]) (Fn.arg (w_spec_l01Pick h h33 _ (⟨x1.code, x8.2.1.at_, x8.2.1.seed⟩ : TL01source) b2 a1 c1 r1 ([(-1), 0, 5, 6] : List Int) a6 4 H82 _ _ hx9) (by simp only [hn6])) (by kernel_rfl) (fun v9 h34 hp9 => ?_)
        obtain ⟨rfl, H83⟩ := hp9
        have H84 : Hold h h34 [box b2 155 [.slice a1 x1.code.length c1, .int .i64 x9.2.1.at_, .int .i64 x9.2.1.seed], own cd2 a6 (([(-1), 0, 5, 6] : List Int).length) 4 x9.2.2, own cd2 a7 (([(-1), 0, 1000, 1001] : List Int).length) 4 x8.2.2, box b3 30 [.int .i64 x2.1.Events, .slice a2 x2.1.Places.length c2], own cd58 a2 x2.1.Places.length c2 x2.1.Places, box b1 30 [.int .i64 0, .slice none 0 0]] := Hold.unbundle (S := [box b2 155 [.slice a1 x1.code.length c1, .int .i64 x9.2.1.at_, .int .i64 x9.2.1.seed], own cd2 a6 (([(-1), 0, 5, 6] : List Int).length) 4 x9.2.2]) (R := [own cd2 a7 (([(-1), 0, 1000, 1001] : List Int).length) 4 x8.2.2, box b3 30 [.int .i64 x2.1.Events, .slice a2 x2.1.Places.length c2], own cd58 a2 x2.1.Places.length c2 x2.1.Places, box b1 30 [.int .i64 0, .slice none 0 0]]) H83 (Hold.tailBase (S := [box b2 155 [.slice a1 x1.code.length c1, .int .i64 x8.2.1.at_, .int .i64 x8.2.1.seed], own cd2 a6 (([(-1), 0, 5, 6] : List Int).length) 4 ([(-1), 0, 5, 6] : List Int)]) (R := [own cd2 a7 (([(-1), 0, 1000, 1001] : List Int).length) 4 x8.2.2, box b3 30 [.int .i64 x2.1.Events, .slice a2 x2.1.Places.length c2], own cd58 a2 x2.1.Places.length c2 x2.1.Places, box b1 30 [.int .i64 0, .slice none 0 0]]) H81)
        refine ⟨fun x => Hold h x [box b3 30 [.int .i64 x2.1.Events, .slice a2 x2.1.Places.length c2], own cd58 a2 x2.1.Places.length c2 x2.1.Places], fun x => Hold h x [box b2 155 [.slice a1 x1.code.length c1, .int .i64 x9.2.1.at_, .int .i64 x9.2.1.seed], own cd2 a6 (([(-1), 0, 5, 6] : List Int).length) 4 x9.2.2, own cd2 a7 (([(-1), 0, 1000, 1001] : List Int).length) 4 x8.2.2, box b3 30 [.int .i64 x2.1.Events, .slice a2 x2.1.Places.length c2], own cd58 a2 x2.1.Places.length c2 x2.1.Places, box b1 30 [.int .i64 0, .slice none 0 0]], H84, Hold.stable, fun x Hy => (show Hold h x [box b2 155 [.slice a1 x1.code.length c1, .int .i64 x9.2.1.at_, .int .i64 x9.2.1.seed], own cd2 a6 (([(-1), 0, 5, 6] : List Int).length) 4 x9.2.2, own cd2 a7 (([(-1), 0, 1000, 1001] : List Int).length) 4 x8.2.2, box b3 30 [.int .i64 x2.1.Events, .slice a2 x2.1.Places.length c2], own cd58 a2 x2.1.Places.length c2 x2.1.Places, box b1 30 [.int .i64 0, .slice none 0 0]] from Hy).pick [3, 4] (by kernel_rfl), fun x Hy => (show Hold h x [box b3 30 [.int .i64 x2.1.Events, .slice a2 x2.1.Places.length c2], own cd58 a2 x2.1.Places.length c2 x2.1.Places] from Hy).pick [0, 1] (by kernel_rfl), ?_⟩
        refine DR_e 3 8 (by kernel_rfl) (by kernel_rfl) (by kernel_rfl) (fun h35 H85 => ?_)
        have H86 : Hold h h35 [box b2 155 [.slice a1 x1.code.length c1, .int .i64 x9.2.1.at_, .int .i64 x9.2.1.seed], own cd2 a6 (([(-1), 0, 5, 6] : List Int).length) 4 x9.2.2, own cd2 a7 (([(-1), 0, 1000, 1001] : List Int).length) 4 x8.2.2, box b3 30 [.int .i64 x2.1.Events, .slice a2 x2.1.Places.length c2], own cd58 a2 x2.1.Places.length c2 x2.1.Places, box b1 30 [.int .i64 0, .slice none 0 0]] := H85
        have H88 : Hold h h35 [box b1 30 [.int .i64 0, .slice none 0 0], box b2 155 [.slice a1 x1.code.length c1, .int .i64 x9.2.1.at_, .int .i64 x9.2.1.seed], own cd2 a6 (([(-1), 0, 5, 6] : List Int).length) 4 x9.2.2, own cd2 a7 (([(-1), 0, 1000, 1001] : List Int).length) 4 x8.2.2, box b3 30 [.int .i64 x2.1.Events, .slice a2 x2.1.Places.length c2], own cd58 a2 x2.1.Places.length c2 x2.1.Places] := H86.pick [5, 0, 1, 2, 3, 4] (by kernel_rfl)
        refine E_bput (t := 30) (off := 0) (us := [.int .i64 x2.1.Events, .slice a2 x2.1.Places.length c2]) (v := .agg #[.int .i64 x2.1.Events, .slice a2 x2.1.Places.length c2]) H88 (by kernel_rfl) (by kernel_rfl) rfl (by kernel_rfl) rfl (fun h36 H87 => ?_)
        refine ⟨fun x => Hold h x [box b3 30 [.int .i64 x2.1.Events, .slice a2 x2.1.Places.length c2], own cd58 a2 x2.1.Places.length c2 x2.1.Places], fun x => Hold h x [box b1 30 [.int .i64 x2.1.Events, .slice a2 x2.1.Places.length c2], box b2 155 [.slice a1 x1.code.length c1, .int .i64 x9.2.1.at_, .int .i64 x9.2.1.seed], own cd2 a6 (([(-1), 0, 5, 6] : List Int).length) 4 x9.2.2, own cd2 a7 (([(-1), 0, 1000, 1001] : List Int).length) 4 x8.2.2, box b3 30 [.int .i64 x2.1.Events, .slice a2 x2.1.Places.length c2], own cd58 a2 x2.1.Places.length c2 x2.1.Places], H87, Hold.stable, fun x Hy => (show Hold h x [box b1 30 [.int .i64 x2.1.Events, .slice a2 x2.1.Places.length c2], box b2 155 [.slice a1 x1.code.length c1, .int .i64 x9.2.1.at_, .int .i64 x9.2.1.seed], own cd2 a6 (([(-1), 0, 5, 6] : List Int).length) 4 x9.2.2, own cd2 a7 (([(-1), 0, 1000, 1001] : List Int).length) 4 x8.2.2, box b3 30 [.int .i64 x2.1.Events, .slice a2 x2.1.Places.length c2], own cd58 a2 x2.1.Places.length c2 x2.1.Places] from Hy).pick [4, 5] (by kernel_rfl), fun x Hy => (show Hold h x [box b3 30 [.int .i64 x2.1.Events, .slice a2 x2.1.Places.length c2], own cd58 a2 x2.1.Places.length c2 x2.1.Places] from Hy).pick [0, 1] (by kernel_rfl), ?_⟩
        refine DR_b 0 [.int .i64 x2.2.1, .int .i64 x8.1, .int .i64 x9.1] 9 (by kernel_rfl) (by kernel_rfl) (by kernel_rfl) (fun w => by kernel_rfl) ?_
        refine DR_tail (i := 12) (by kernel_rfl) (by kernel_rfl) (by kernel_rfl) (fun h37 H89 => ?_)
        have H90 : Hold h h37 [box b1 30 [.int .i64 x2.1.Events, .slice a2 x2.1.Places.length c2], box b2 155 [.slice a1 x1.code.length c1, .int .i64 x9.2.1.at_, .int .i64 x9.2.1.seed], own cd2 a6 (([(-1), 0, 5, 6] : List Int).length) 4 x9.2.2, own cd2 a7 (([(-1), 0, 1000, 1001] : List Int).length) 4 x8.2.2, box b3 30 [.int .i64 x2.1.Events, .slice a2 x2.1.Places.length c2], own cd58 a2 x2.1.Places.length c2 x2.1.Places] := H89
        refine Run_nil (by kernel_rfl) ?_
        refine Run_keep [2, 3, 4, 5] (L' := [(2, .pointer (some ⟨b1, 0, none⟩)), (3, .int .i64 x2.2.1), (4, .int .i64 x8.1), (5, .int .i64 x9.1)]) (by kernel_rfl) ?_
        have H104 : Hold h h37 [box b1 30 [.int .i64 x2.1.Events, .slice a2 x2.1.Places.length c2], own cd58 a2 x2.1.Places.length c2 x2.1.Places] := H90.pick [0, 5] (by kernel_rfl)
        have gs1 := M.ret_some gs1
        subst gs1
        exact Run_fall [2, 3, 4, 5] (by kernel_rfl) ⟨rfl, H104⟩
  · have hF := (M.ite_some hF).2 hb1
    refine Run_skip ?_
    refine Run_seq ?_
    refine Run_D (fun x => Hold h x [box b3 30 [.int .i64 x2.1.Events, .slice a2 x2.1.Places.length c2], own cd58 a2 x2.1.Places.length c2 x2.1.Places]) (fun x => Hold h x [box b2 155 [.slice a1 x1.code.length c1, .int .i64 x3.2.at_, .int .i64 x3.2.seed], box b3 30 [.int .i64 x2.1.Events, .slice a2 x2.1.Places.length c2], own cd58 a2 x2.1.Places.length c2 x2.1.Places, box b1 30 [.int .i64 0, .slice none 0 0]]) mixed (by kernel_rfl) H12 Hold.stable (fun x Hy => (show Hold h x [box b2 155 [.slice a1 x1.code.length c1, .int .i64 x3.2.at_, .int .i64 x3.2.seed], box b3 30 [.int .i64 x2.1.Events, .slice a2 x2.1.Places.length c2], own cd58 a2 x2.1.Places.length c2 x2.1.Places, box b1 30 [.int .i64 0, .slice none 0 0]] from Hy).pick [1, 2] (by kernel_rfl)) ?_
    refine DR_y 9 (i := 0) (.agg #[.int .i64 x2.1.Events, .slice a2 x2.1.Places.length c2]) (by kernel_rfl) (by kernel_rfl) (by kernel_rfl) (fun hx Hx => (YE.of (Y_loadA (t := 30) (n := 2) (p := ⟨b3, 0, none⟩) (cs := [.int .i64 x2.1.Events, .slice a2 x2.1.Places.length c2]) (by kernel_rfl) (fun w => by kernel_rfl) (by kernel_rfl) rfl (Hx.cells (n := 2) (off := 0) 0 rfl rfl)))) ?_
    refine DR_b 7 [.int .i64 x2.2.1, .pointer (some ⟨b2, 0, none⟩)] 1 (by kernel_rfl) (by kernel_rfl) (by kernel_rfl) (fun w => by kernel_rfl) ?_
    refine DR_b 6 [.pointer (some ⟨b2, 0, none⟩)] 4 (by kernel_rfl) (by kernel_rfl) (by kernel_rfl) (fun w => by kernel_rfl) ?_
    refine DR_e 5 3 (by kernel_rfl) (by kernel_rfl) (by kernel_rfl) (fun h39 H107 => ?_)
    have H108 : Hold h h39 [box b2 155 [.slice a1 x1.code.length c1, .int .i64 x3.2.at_, .int .i64 x3.2.seed], box b3 30 [.int .i64 x2.1.Events, .slice a2 x2.1.Places.length c2], own cd58 a2 x2.1.Places.length c2 x2.1.Places, box b1 30 [.int .i64 0, .slice none 0 0]] := H107
    obtain ⟨x10, hx10, hF⟩ := M.bind_some hF
    have H109 : Hold h h39 [box b2 155 [.slice a1 x1.code.length c1, .int .i64 x3.2.at_, .int .i64 x3.2.seed], bun [box b3 30 [.int .i64 x2.1.Events, .slice a2 x2.1.Places.length c2], own cd58 a2 x2.1.Places.length c2 x2.1.Places, box b1 30 [.int .i64 0, .slice none 0 0]]] := Hold.bundle (S := [box b2 155 [.slice a1 x1.code.length c1, .int .i64 x3.2.at_, .int .i64 x3.2.seed]]) (R := [box b3 30 [.int .i64 x2.1.Events, .slice a2 x2.1.Places.length c2], own cd58 a2 x2.1.Places.length c2 x2.1.Places, box b1 30 [.int .i64 0, .slice none 0 0]]) H108
    refine E_call (f := 106) (args := #[.pointer (some ⟨b2, 0, none⟩), .int .i64 20]) (w_spec_l01Next h h39 _ (⟨x1.code, x3.2.at_, x3.2.seed⟩ : TL01source) b2 a1 c1 r1 20 H109 _ _ hx10) (by kernel_rfl) (fun v10 h40 hp10 => ?_)
    obtain ⟨rfl, H110⟩ := hp10
    have H111 : Hold h h40 [box b2 155 [.slice a1 x1.code.length c1, .int .i64 x10.2.at_, .int .i64 x10.2.seed], box b3 30 [.int .i64 x2.1.Events, .slice a2 x2.1.Places.length c2], own cd58 a2 x2.1.Places.length c2 x2.1.Places, box b1 30 [.int .i64 0, .slice none 0 0]] := Hold.unbundle (S := [box b2 155 [.slice a1 x1.code.length c1, .int .i64 x10.2.at_, .int .i64 x10.2.seed]]) (R := [box b3 30 [.int .i64 x2.1.Events, .slice a2 x2.1.Places.length c2], own cd58 a2 x2.1.Places.length c2 x2.1.Places, box b1 30 [.int .i64 0, .slice none 0 0]]) H110 (Hold.tailBase (S := [box b2 155 [.slice a1 x1.code.length c1, .int .i64 x3.2.at_, .int .i64 x3.2.seed]]) (R := [box b3 30 [.int .i64 x2.1.Events, .slice a2 x2.1.Places.length c2], own cd58 a2 x2.1.Places.length c2 x2.1.Places, box b1 30 [.int .i64 0, .slice none 0 0]]) H108)
    refine ⟨fun x => Hold h x [box b3 30 [.int .i64 x2.1.Events, .slice a2 x2.1.Places.length c2], own cd58 a2 x2.1.Places.length c2 x2.1.Places], fun x => Hold h x [box b2 155 [.slice a1 x1.code.length c1, .int .i64 x10.2.at_, .int .i64 x10.2.seed], box b3 30 [.int .i64 x2.1.Events, .slice a2 x2.1.Places.length c2], own cd58 a2 x2.1.Places.length c2 x2.1.Places, box b1 30 [.int .i64 0, .slice none 0 0]], H111, Hold.stable, fun x Hy => (show Hold h x [box b2 155 [.slice a1 x1.code.length c1, .int .i64 x10.2.at_, .int .i64 x10.2.seed], box b3 30 [.int .i64 x2.1.Events, .slice a2 x2.1.Places.length c2], own cd58 a2 x2.1.Places.length c2 x2.1.Places, box b1 30 [.int .i64 0, .slice none 0 0]] from Hy).pick [1, 2] (by kernel_rfl), fun x Hy => (show Hold h x [box b3 30 [.int .i64 x2.1.Events, .slice a2 x2.1.Places.length c2], own cd58 a2 x2.1.Places.length c2 x2.1.Places] from Hy).pick [0, 1] (by kernel_rfl), ?_⟩
    refine DR_e 4 5 (by kernel_rfl) (by kernel_rfl) (by kernel_rfl) (fun h41 H112 => ?_)
    have H113 : Hold h h41 [box b2 155 [.slice a1 x1.code.length c1, .int .i64 x10.2.at_, .int .i64 x10.2.seed], box b3 30 [.int .i64 x2.1.Events, .slice a2 x2.1.Places.length c2], own cd58 a2 x2.1.Places.length c2 x2.1.Places, box b1 30 [.int .i64 0, .slice none 0 0]] := H112
    obtain ⟨x11, hx11, hF⟩ := M.bind_some hF
    have H114 : Hold h h41 [box b2 155 [.slice a1 x1.code.length c1, .int .i64 x10.2.at_, .int .i64 x10.2.seed], bun [box b3 30 [.int .i64 x2.1.Events, .slice a2 x2.1.Places.length c2], own cd58 a2 x2.1.Places.length c2 x2.1.Places, box b1 30 [.int .i64 0, .slice none 0 0]]] := Hold.bundle (S := [box b2 155 [.slice a1 x1.code.length c1, .int .i64 x10.2.at_, .int .i64 x10.2.seed]]) (R := [box b3 30 [.int .i64 x2.1.Events, .slice a2 x2.1.Places.length c2], own cd58 a2 x2.1.Places.length c2 x2.1.Places, box b1 30 [.int .i64 0, .slice none 0 0]]) H113
    refine E_call (f := 106) (args := #[.pointer (some ⟨b2, 0, none⟩), .int .i64 4]) (w_spec_l01Next h h41 _ (⟨x1.code, x10.2.at_, x10.2.seed⟩ : TL01source) b2 a1 c1 r1 4 H114 _ _ hx11) (by kernel_rfl) (fun v11 h42 hp11 => ?_)
    obtain ⟨rfl, H115⟩ := hp11
    have H116 : Hold h h42 [box b2 155 [.slice a1 x1.code.length c1, .int .i64 x11.2.at_, .int .i64 x11.2.seed], box b3 30 [.int .i64 x2.1.Events, .slice a2 x2.1.Places.length c2], own cd58 a2 x2.1.Places.length c2 x2.1.Places, box b1 30 [.int .i64 0, .slice none 0 0]] := Hold.unbundle (S := [box b2 155 [.slice a1 x1.code.length c1, .int .i64 x11.2.at_, .int .i64 x11.2.seed]]) (R := [box b3 30 [.int .i64 x2.1.Events, .slice a2 x2.1.Places.length c2], own cd58 a2 x2.1.Places.length c2 x2.1.Places, box b1 30 [.int .i64 0, .slice none 0 0]]) H115 (Hold.tailBase (S := [box b2 155 [.slice a1 x1.code.length c1, .int .i64 x10.2.at_, .int .i64 x10.2.seed]]) (R := [box b3 30 [.int .i64 x2.1.Events, .slice a2 x2.1.Places.length c2], own cd58 a2 x2.1.Places.length c2 x2.1.Places, box b1 30 [.int .i64 0, .slice none 0 0]]) H113)
    refine ⟨fun x => Hold h x [box b3 30 [.int .i64 x2.1.Events, .slice a2 x2.1.Places.length c2], own cd58 a2 x2.1.Places.length c2 x2.1.Places], fun x => Hold h x [box b2 155 [.slice a1 x1.code.length c1, .int .i64 x11.2.at_, .int .i64 x11.2.seed], box b3 30 [.int .i64 x2.1.Events, .slice a2 x2.1.Places.length c2], own cd58 a2 x2.1.Places.length c2 x2.1.Places, box b1 30 [.int .i64 0, .slice none 0 0]], H116, Hold.stable, fun x Hy => (show Hold h x [box b2 155 [.slice a1 x1.code.length c1, .int .i64 x11.2.at_, .int .i64 x11.2.seed], box b3 30 [.int .i64 x2.1.Events, .slice a2 x2.1.Places.length c2], own cd58 a2 x2.1.Places.length c2 x2.1.Places, box b1 30 [.int .i64 0, .slice none 0 0]] from Hy).pick [1, 2] (by kernel_rfl), fun x Hy => (show Hold h x [box b3 30 [.int .i64 x2.1.Events, .slice a2 x2.1.Places.length c2], own cd58 a2 x2.1.Places.length c2 x2.1.Places] from Hy).pick [0, 1] (by kernel_rfl), ?_⟩
    refine DR_e 3 6 (by kernel_rfl) (by kernel_rfl) (by kernel_rfl) (fun h43 H117 => ?_)
    have H118 : Hold h h43 [box b2 155 [.slice a1 x1.code.length c1, .int .i64 x11.2.at_, .int .i64 x11.2.seed], box b3 30 [.int .i64 x2.1.Events, .slice a2 x2.1.Places.length c2], own cd58 a2 x2.1.Places.length c2 x2.1.Places, box b1 30 [.int .i64 0, .slice none 0 0]] := H117
    have H120 : Hold h h43 [box b1 30 [.int .i64 0, .slice none 0 0], box b2 155 [.slice a1 x1.code.length c1, .int .i64 x11.2.at_, .int .i64 x11.2.seed], box b3 30 [.int .i64 x2.1.Events, .slice a2 x2.1.Places.length c2], own cd58 a2 x2.1.Places.length c2 x2.1.Places] := H118.pick [3, 0, 1, 2] (by kernel_rfl)
    refine E_bput (t := 30) (off := 0) (us := [.int .i64 x2.1.Events, .slice a2 x2.1.Places.length c2]) (v := .agg #[.int .i64 x2.1.Events, .slice a2 x2.1.Places.length c2]) H120 (by kernel_rfl) (by kernel_rfl) rfl (by kernel_rfl) rfl (fun h44 H119 => ?_)
    refine ⟨fun x => Hold h x [box b3 30 [.int .i64 x2.1.Events, .slice a2 x2.1.Places.length c2], own cd58 a2 x2.1.Places.length c2 x2.1.Places], fun x => Hold h x [box b1 30 [.int .i64 x2.1.Events, .slice a2 x2.1.Places.length c2], box b2 155 [.slice a1 x1.code.length c1, .int .i64 x11.2.at_, .int .i64 x11.2.seed], box b3 30 [.int .i64 x2.1.Events, .slice a2 x2.1.Places.length c2], own cd58 a2 x2.1.Places.length c2 x2.1.Places], H119, Hold.stable, fun x Hy => (show Hold h x [box b1 30 [.int .i64 x2.1.Events, .slice a2 x2.1.Places.length c2], box b2 155 [.slice a1 x1.code.length c1, .int .i64 x11.2.at_, .int .i64 x11.2.seed], box b3 30 [.int .i64 x2.1.Events, .slice a2 x2.1.Places.length c2], own cd58 a2 x2.1.Places.length c2 x2.1.Places] from Hy).pick [2, 3] (by kernel_rfl), fun x Hy => (show Hold h x [box b3 30 [.int .i64 x2.1.Events, .slice a2 x2.1.Places.length c2], own cd58 a2 x2.1.Places.length c2 x2.1.Places] from Hy).pick [0, 1] (by kernel_rfl), ?_⟩
    refine DR_b 0 [.int .i64 x2.2.1, .int .i64 x10.1, .int .i64 x11.1] 7 (by kernel_rfl) (by kernel_rfl) (by kernel_rfl) (fun w => by kernel_rfl) ?_
    refine DR_tail (i := 10) (by kernel_rfl) (by kernel_rfl) (by kernel_rfl) (fun h45 H121 => ?_)
    have H122 : Hold h h45 [box b1 30 [.int .i64 x2.1.Events, .slice a2 x2.1.Places.length c2], box b2 155 [.slice a1 x1.code.length c1, .int .i64 x11.2.at_, .int .i64 x11.2.seed], box b3 30 [.int .i64 x2.1.Events, .slice a2 x2.1.Places.length c2], own cd58 a2 x2.1.Places.length c2 x2.1.Places] := H121
    refine Run_nil (by kernel_rfl) ?_
    refine Run_keep [2, 3, 4, 5] (L' := [(2, .pointer (some ⟨b1, 0, none⟩)), (3, .int .i64 x2.2.1), (4, .int .i64 x10.1), (5, .int .i64 x11.1)]) (by kernel_rfl) ?_
    have hF := M.ret_some hF
    subst hF
    have H123 : Hold h h45 [own cd58 a2 x2.1.Places.length c2 x2.1.Places, box b1 30 [.int .i64 x2.1.Events, .slice a2 x2.1.Places.length c2], box b2 155 [.slice a1 x1.code.length c1, .int .i64 x11.2.at_, .int .i64 x11.2.seed], box b3 30 [.int .i64 x2.1.Events, .slice a2 x2.1.Places.length c2]] := H122.pick [3, 0, 1, 2] (by kernel_rfl)
    have H124 : Hold h h45 [own cd58 a2 x2.1.Places.length c2 x2.1.Places] := H123.pick [0] (by kernel_rfl)
    exact Run_ret4 rfl (ResV_cell (n := 2) (cs := [.int .i64 x2.1.Events, .slice a2 x2.1.Places.length c2]) (by kernel_rfl) (fun w => by kernel_rfl) (by kernel_rfl) rfl (H122.cells (n := 2) (off := 0) 0 rfl rfl)) (ResV_tmp (v := .int .i64 x2.2.1) (by kernel_rfl)) (ResV_tmp (v := .int .i64 x10.1) (by kernel_rfl)) (ResV_tmp (v := .int .i64 x11.1) (by kernel_rfl)) ⟨a2, c2, rfl, H124⟩

set_option maxRecDepth 100000 in
set_option maxHeartbeats 4000000 in
theorem w_slices_Clone_Place (h : Heap) (s_ : List TPlace) (as_ : Option Addr) (cs_ : Nat) (rs_ : Rd cd58 h (Lt h) as_ cs_ s_) (n : Nat) (r : (List TPlace)) (hF : slices_Clone_Place s_ n = some r) :
    Fn Try.prog 161 #[.slice as_ s_.length cs_] h fun v h' => ∃ (a0 : Option Addr) (c0 : Nat), v = .slice a0 r.length c0 ∧ Hold h h' [own cd58 a0 r.length c0 r] := by
  unfold slices_Clone_Place at hF
  refine Fn_enter (args := [.slice as_ s_.length cs_]) Try.func161 rfl (by kernel_rfl) (by kernel_rfl) (fun w0 _ => ?_)
  have H0 := Hold.init h
  refine Run_seq ?_
  refine Run_reg 1 (by kernel_rfl) (L' := [(0, .slice as_ s_.length cs_)]) ?_ ?_
  · refine QRun_b [.slice none 0 0] 0 _ (by kernel_rfl) (fun w => by kernel_rfl) ?_
    exact QRun_done [0] (by kernel_rfl) (by kernel_rfl)
  refine Run_seq ?_
  refine Run_seq ?_
  refine Run_reg 2 (by kernel_rfl) (L' := [(0, .slice as_ s_.length cs_), (4, .bool as_.isNone)]) ?_ ?_
  · refine QRun_b [.slice as_ s_.length cs_] 0 _ (by kernel_rfl) (fun w => by kernel_rfl) ?_
    refine QRun_y (.bool as_.isNone) (by kernel_rfl) (Y_isnil (t := 28) (e := 58) (n := s_.length) (c := cs_) (a := as_) (by kernel_rfl) Try.underlying28) ?_
    exact QRun_done [0, 4] (by kernel_rfl) (by kernel_rfl)
  refine Run_cond (b := as_.isNone) (by kernel_rfl) (fun hb1 => ?_) (fun hb1 => ?_)
  · obtain rfl : s_ = [] := rs_.isNone hb1
    have hF : (M.ret ([] : List TPlace)) n = some r := by simpa [M.bind, M.app, M.ret] using hF
    refine Run_seq ?_
    refine Run_reg 1 (by kernel_rfl) (L' := [(2, .slice none 0 0)]) ?_ ?_
    · refine QRun_b [.slice none 0 0] 0 _ (by kernel_rfl) (fun w => by kernel_rfl) ?_
      exact QRun_done [2] (by kernel_rfl) (by kernel_rfl)
    have hF := M.ret_some hF
    subst hF
    have H1 := H0.empty cd58
    exact Run_ret1 rfl (ResV_tmp (v := .slice none 0 0) (by kernel_rfl)) ⟨none, 0, rfl, H1⟩
  · refine Run_skip ?_
    refine Run_seq ?_
    refine Run_ops ?_
    refine Run_E (by kernel_rfl) ?_
    refine E_lit (C := cd58) (n := 0) (l := ([] : List TPlace)) (cs := []) H0 (fun w => by kernel_rfl) (Enc.nil _ _) rfl (by decide) (fun a1 h1 H2 => ?_)
    refine Run_b [.slice as_ s_.length cs_] 1 _ (by kernel_rfl) (fun w => by kernel_rfl) ?_
    obtain ⟨l1, hl1, hF⟩ := M.bind_some hF
    have hl1 := M.app_some hl1
    refine Run_E (by kernel_rfl) ?_
    refine E_appR (C := cd58) (t := 28) (ty := 28) (n := 0) (m := s_.length) H2 cd58_copies (rs_.at H2.ext) rfl cd58_ti rfl Try.underlying28 (by decide) (by kernel_rfl) hl1 (fun a2 c1 h2 H3 => ?_)
    refine Run_b [.slice a2 l1.length c1] 3 _ (by kernel_rfl) (fun w => by kernel_rfl) ?_
    refine Run_nil (by kernel_rfl) ?_
    refine Run_keep [2] (L' := [(2, .slice a2 l1.length c1)]) (by kernel_rfl) ?_
    have hF := M.ret_some hF
    subst hF
    exact Run_ret1 rfl (ResV_tmp (v := .slice a2 l1.length c1) (by kernel_rfl)) ⟨a2, c1, rfl, H3⟩

set_option maxRecDepth 100000 in
set_option maxHeartbeats 4000000 in
theorem w_impl_cloneGraph (h : Heap) (g : TGraph) (agPlaces : Option Addr) (cgPlaces : Nat) (rgPlaces : Rd cd58 h (Lt h) agPlaces cgPlaces g.Places) (n : Nat) (r : TGraph) (hF : impl_cloneGraph g n = some r) :
    Fn Try.prog 109 #[.agg #[.int .i64 g.Events, .slice agPlaces g.Places.length cgPlaces]] h fun v h' => ∃ (a0 : Option Addr) (c0 : Nat), v = .agg #[.int .i64 r.Events, .slice a0 r.Places.length c0] ∧ Hold h h' [own cd58 a0 r.Places.length c0 r.Places] := by
  unfold impl_cloneGraph at hF
  refine Fn_enter (args := [.agg #[.int .i64 g.Events, .slice agPlaces g.Places.length cgPlaces]]) Try.func109 rfl (by kernel_rfl) (by kernel_rfl) (fun w0 _ => ?_)
  have H0 := Hold.init h
  refine Run_seq ?_
  refine Run_ops ?_
  refine Run_E (by kernel_rfl) ?_
  refine E_box (ty := 30) (cs := [.int .i64 g.Events, .slice agPlaces g.Places.length cgPlaces]) H0 (fun w => by kernel_rfl) (fun b1 h1 H1 => ?_)
  refine Run_E (by kernel_rfl) ?_
  refine E_box (ty := 30) (cs := [.int .i64 0, .slice none 0 0]) H1 (fun w => by kernel_rfl) (fun b2 h2 H2 => ?_)
  refine Run_nil (by kernel_rfl) ?_
  refine Run_keep [1, 2] (L' := [(1, .pointer (some ⟨b1, 0, none⟩)), (2, .pointer (some ⟨b2, 0, none⟩))]) (by kernel_rfl) ?_
  refine Run_seq ?_
  refine Run_D (fun x => Hold h x [box b2 30 [.int .i64 0, .slice none 0 0], box b1 30 [.int .i64 g.Events, .slice agPlaces g.Places.length cgPlaces]]) (fun x => Hold h x [box b2 30 [.int .i64 0, .slice none 0 0], box b1 30 [.int .i64 g.Events, .slice agPlaces g.Places.length cgPlaces]]) mixed (by kernel_rfl) H2 Hold.stable (fun x Hy => (show Hold h x [box b2 30 [.int .i64 0, .slice none 0 0], box b1 30 [.int .i64 g.Events, .slice agPlaces g.Places.length cgPlaces]] from Hy).pick [0, 1] (by kernel_rfl)) ?_
  refine DR_b 6 [.pointer (some ⟨b1, 0, none⟩)] 0 (by kernel_rfl) (by kernel_rfl) (by kernel_rfl) (fun w => by kernel_rfl) ?_
  refine DR_y 5 (i := 1) (.int .i64 g.Events) (by kernel_rfl) (by kernel_rfl) (by kernel_rfl) (fun hx Hx => (YE.of (Y_load1 (t := 2) (p := ⟨b1, 0, none⟩) (v := .int .i64 g.Events) (by kernel_rfl) (fun w => by kernel_rfl) (Hx.cell 1 rfl rfl)))) ?_
  refine DR_b 4 [.pointer (some ⟨b1, 1, none⟩)] 2 (by kernel_rfl) (by kernel_rfl) (by kernel_rfl) (fun w => by kernel_rfl) ?_
  refine DR_y 3 (i := 3) (.slice agPlaces g.Places.length cgPlaces) (by kernel_rfl) (by kernel_rfl) (by kernel_rfl) (fun hx Hx => (YE.of (Y_load1 (t := 28) (p := ⟨b1, 1, none⟩) (v := .slice agPlaces g.Places.length cgPlaces) (by kernel_rfl) (fun w => by kernel_rfl) (Hx.cell 1 rfl rfl)))) ?_
  refine DR_e 2 4 (by kernel_rfl) (by kernel_rfl) (by kernel_rfl) (fun h3 H3 => ?_)
  have H4 : Hold h h3 [box b2 30 [.int .i64 0, .slice none 0 0], box b1 30 [.int .i64 g.Events, .slice agPlaces g.Places.length cgPlaces]] := H3
  obtain ⟨x1, hx1, hF⟩ := M.bind_some hF
  refine E_call (f := 161) (args := #[.slice agPlaces g.Places.length cgPlaces]) (w_slices_Clone_Place h3 g.Places agPlaces cgPlaces (rgPlaces.at H4.ext) _ _ hx1) (by kernel_rfl) (fun v1 h4 hp1 => ?_)
  obtain ⟨a1, c1, rfl, H5⟩ := hp1
  have H6 : Hold h h4 [own cd58 a1 x1.length c1 x1, box b2 30 [.int .i64 0, .slice none 0 0], box b1 30 [.int .i64 g.Events, .slice agPlaces g.Places.length cgPlaces]] := H4.call H5 rfl
  refine ⟨fun x => Hold h x [box b2 30 [.int .i64 0, .slice none 0 0], box b1 30 [.int .i64 g.Events, .slice agPlaces g.Places.length cgPlaces], own cd58 a1 x1.length c1 x1], fun x => Hold h x [own cd58 a1 x1.length c1 x1, box b2 30 [.int .i64 0, .slice none 0 0], box b1 30 [.int .i64 g.Events, .slice agPlaces g.Places.length cgPlaces]], H6, Hold.stable, fun x Hy => (show Hold h x [own cd58 a1 x1.length c1 x1, box b2 30 [.int .i64 0, .slice none 0 0], box b1 30 [.int .i64 g.Events, .slice agPlaces g.Places.length cgPlaces]] from Hy).pick [1, 2, 0] (by kernel_rfl), fun x Hy => (show Hold h x [box b2 30 [.int .i64 0, .slice none 0 0], box b1 30 [.int .i64 g.Events, .slice agPlaces g.Places.length cgPlaces], own cd58 a1 x1.length c1 x1] from Hy).pick [0, 1] (by kernel_rfl), ?_⟩
  refine DR_b 1 [.agg #[.int .i64 g.Events, .slice a1 x1.length c1]] 5 (by kernel_rfl) (by kernel_rfl) (by kernel_rfl) (fun w => by kernel_rfl) ?_
  refine DR_tail (i := 6) (by kernel_rfl) (by kernel_rfl) (by kernel_rfl) (fun h5 H7 => ?_)
  have H8 : Hold h h5 [own cd58 a1 x1.length c1 x1, box b2 30 [.int .i64 0, .slice none 0 0], box b1 30 [.int .i64 g.Events, .slice agPlaces g.Places.length cgPlaces]] := H7
  have H10 : Hold h h5 [box b2 30 [.int .i64 0, .slice none 0 0], own cd58 a1 x1.length c1 x1, box b1 30 [.int .i64 g.Events, .slice agPlaces g.Places.length cgPlaces]] := H8.pick [1, 0, 2] (by kernel_rfl)
  refine Run_E (by kernel_rfl) ?_
  refine E_bput (t := 30) (off := 0) (us := [.int .i64 g.Events, .slice a1 x1.length c1]) (v := .agg #[.int .i64 g.Events, .slice a1 x1.length c1]) H10 (by kernel_rfl) (by kernel_rfl) rfl (by kernel_rfl) rfl (fun h6 H9 => ?_)
  refine Run_nil (by kernel_rfl) ?_
  refine Run_keep [2] (L' := [(2, .pointer (some ⟨b2, 0, none⟩))]) (by kernel_rfl) ?_
  have hF := M.ret_some hF
  subst hF
  have H11 : Hold h h6 [own cd58 a1 x1.length c1 x1, box b2 30 [.int .i64 g.Events, .slice a1 x1.length c1], box b1 30 [.int .i64 g.Events, .slice agPlaces g.Places.length cgPlaces]] := H9.pick [1, 0, 2] (by kernel_rfl)
  have H12 : Hold h h6 [own cd58 a1 x1.length c1 x1] := H11.pick [0] (by kernel_rfl)
  exact Run_ret1 rfl (ResV_cell (n := 2) (cs := [.int .i64 g.Events, .slice a1 x1.length c1]) (by kernel_rfl) (fun w => by kernel_rfl) (by kernel_rfl) rfl (H9.cells (n := 2) (off := 0) 0 rfl rfl)) ⟨a1, c1, rfl, H12⟩

set_option maxRecDepth 100000 in
set_option maxHeartbeats 4000000 in
theorem w_impl_ChangePlace (h : Heap) (g : TGraph) (agPlaces : Option Addr) (cgPlaces : Nat) (rgPlaces : Rd cd58 h (Lt h) agPlaces cgPlaces g.Places) (i : Int) (delay : Int) (tokens : Int) (n : Nat) (r : TGraph × Int) (hF : impl_ChangePlace g i delay tokens n = some r) :
    Fn Try.prog 34 #[.agg #[.int .i64 g.Events, .slice agPlaces g.Places.length cgPlaces], .int .i64 i, .int .i64 delay, .int .i64 tokens] h fun v h' => ∃ (a0 : Option Addr) (c0 : Nat), v = .tuple #[.agg #[.int .i64 r.1.Events, .slice a0 r.1.Places.length c0], .int .i64 r.2] ∧ Hold h h' [own cd58 a0 r.1.Places.length c0 r.1.Places] := by
  unfold impl_ChangePlace at hF
  refine Fn_enter (args := [.agg #[.int .i64 g.Events, .slice agPlaces g.Places.length cgPlaces], .int .i64 i, .int .i64 delay, .int .i64 tokens]) Try.func34 rfl (by kernel_rfl) (by kernel_rfl) (fun w0 _ => ?_)
  have H0 := Hold.init h
  refine Run_seq ?_
  refine Run_ops ?_
  refine Run_E (by kernel_rfl) ?_
  refine E_box (ty := 30) (cs := [.int .i64 g.Events, .slice agPlaces g.Places.length cgPlaces]) H0 (fun w => by kernel_rfl) (fun b1 h1 H1 => ?_)
  refine Run_E (by kernel_rfl) ?_
  refine E_box (ty := 30) (cs := [.int .i64 0, .slice none 0 0]) H1 (fun w => by kernel_rfl) (fun b2 h2 H2 => ?_)
  refine Run_b [.int .i64 0] 2 _ (by kernel_rfl) (fun w => by kernel_rfl) ?_
  refine Run_nil (by kernel_rfl) ?_
  refine Run_keep [1, 2, 3, 4, 8] (L' := [(1, .int .i64 i), (2, .int .i64 delay), (3, .int .i64 tokens), (4, .pointer (some ⟨b1, 0, none⟩)), (8, .pointer (some ⟨b2, 0, none⟩))]) (by kernel_rfl) ?_
  refine Run_seq ?_
  refine Run_seq ?_
  obtain ⟨x1, hx1, hF⟩ := M.bind_some hF
  refine Run_regC (j := 3) (C := fun x => Hold h x [box b2 30 [.int .i64 0, .slice none 0 0], box b1 30 [.int .i64 g.Events, .slice agPlaces g.Places.length cgPlaces]]) (by kernel_rfl) H2 (L' := [(1, .int .i64 i), (2, .int .i64 delay), (3, .int .i64 tokens), (4, .pointer (some ⟨b1, 0, none⟩)), (8, .pointer (some ⟨b2, 0, none⟩)), (13, .bool (!x1))]) ?_ (fun h3 H3 => ?_)
  · refine QRun_y (.agg #[.int .i64 g.Events, .slice agPlaces g.Places.length cgPlaces]) (by kernel_rfl) (Y_cls fun hx Hx => (Y_loadA (t := 30) (n := 2) (p := ⟨b1, 0, none⟩) (cs := [.int .i64 g.Events, .slice agPlaces g.Places.length cgPlaces]) (by kernel_rfl) (fun w => by kernel_rfl) (by kernel_rfl) rfl (Hx.cells (n := 2) (off := 0) 1 rfl rfl))) ?_
    refine QRun_y (.bool x1) (by kernel_rfl) (Y_call (f := 74) (args := #[.agg #[.int .i64 g.Events, .slice agPlaces g.Places.length cgPlaces]]) (v := .bool x1) (by kernel_rfl) fun hx Hx => (w_impl_IsEventGraph hx g agPlaces cgPlaces (rgPlaces.at Hx.ext) _ _ hx1).mono fun _ _ ⟨e, H'⟩ => ⟨e, Hx.call H' rfl⟩) ?_
    refine QRun_b [.bool (!x1)] 2 _ (by kernel_rfl) (fun w => by kernel_rfl) ?_
    exact QRun_done [1, 2, 3, 4, 8, 13] (by kernel_rfl) (by kernel_rfl)
  have H4 : Hold h h3 [box b2 30 [.int .i64 0, .slice none 0 0], box b1 30 [.int .i64 g.Events, .slice agPlaces g.Places.length cgPlaces]] := H3
  refine Run_cond (b := !x1) (by kernel_rfl) (fun hb1 => ?_) (fun hb1 => ?_)
  · have hF := (M.ite_some hF).1 hb1
    refine Run_seq ?_
    refine Run_ops ?_
    refine Run_b [.agg #[.int .i64 0, .slice none 0 0]] 0 _ (by kernel_rfl) (fun w => by kernel_rfl) ?_
    refine Run_E (by kernel_rfl) ?_
    refine E_bput (t := 30) (off := 0) (us := [.int .i64 0, .slice none 0 0]) (v := .agg #[.int .i64 0, .slice none 0 0]) H4 (by kernel_rfl) (by kernel_rfl) rfl (by kernel_rfl) rfl (fun h4 H5 => ?_)
    refine Run_b [.int .i64 1] 2 _ (by kernel_rfl) (fun w => by kernel_rfl) ?_
    refine Run_nil (by kernel_rfl) ?_
    refine Run_keep [8, 9] (L' := [(8, .pointer (some ⟨b2, 0, none⟩)), (9, .int .i64 1)]) (by kernel_rfl) ?_
    have hF := M.ret_some hF
    subst hF
    have H6 := H5.empty cd58
    have H7 : Hold h h4 [own cd58 none 0 0 []] := H6.pick [0] (by kernel_rfl)
    exact Run_ret2 rfl (ResV_cell (n := 2) (cs := [.int .i64 0, .slice none 0 0]) (by kernel_rfl) (fun w => by kernel_rfl) (by kernel_rfl) rfl (H5.cells (n := 2) (off := 0) 0 rfl rfl)) (ResV_tmp (v := .int .i64 1) (by kernel_rfl)) ⟨none, 0, rfl, H7⟩
  · have hF := (M.ite_some hF).2 hb1
    refine Run_skip ?_
    refine Run_seq ?_
    refine Run_seq ?_
    obtain ⟨x2, hx2, hF⟩ := M.bind_some hF
    obtain ⟨x3, gx3, hF⟩ := M.bind_some hF
    obtain ⟨x5, gx5, hF⟩ := M.bind_some hF
    refine Run_reg 17 (by kernel_rfl) (L' := [(1, .int .i64 i), (2, .int .i64 delay), (3, .int .i64 tokens), (4, .pointer (some ⟨b1, 0, none⟩)), (8, .pointer (some ⟨b2, 0, none⟩)), (31, .bool x5)]) ?_ ?_
    · refine QRun_b [.int .i64 i, .pointer (some ⟨b1, 1, none⟩)] 0 _ (by kernel_rfl) (fun w => by kernel_rfl) ?_
      refine QRun_y (.slice agPlaces g.Places.length cgPlaces) (by kernel_rfl) (Y_load1 (t := 28) (p := ⟨b1, 1, none⟩) (v := .slice agPlaces g.Places.length cgPlaces) (by kernel_rfl) (fun w => by kernel_rfl) (H4.cell 1 rfl rfl)) ?_
      refine QRun_b [.int .i64 (g.Places.length : Int), .int .i64 (w64 ((g.Places.length : Int) - 1))] 3 _ (by kernel_rfl) (fun w => by kernel_rfl) ?_
      refine QRun_y (.bool x2) (by kernel_rfl) (Y_callq (f := 108) (args := #[.int .i64 i, .int .i64 0, .int .i64 (w64 ((g.Places.length : Int) - 1))]) (v := .bool x2) (by kernel_rfl) (w_impl_within h3 i 0 (w64 ((g.Places.length : Int) - 1)) _ _ hx2)) ?_
      refine QRun_b [.bool (!x2)] 6 _ (by kernel_rfl) (fun w => by kernel_rfl) ?_
      refine QRun_seq 12 [(1, .int .i64 i), (2, .int .i64 delay), (3, .int .i64 tokens), (4, .pointer (some ⟨b1, 0, none⟩)), (8, .pointer (some ⟨b2, 0, none⟩)), (26, .bool x3)] ?_ ?_
      · rcases Bool.eq_false_or_eq_true (!x2) with hb2 | hb2
        · refine QRun_bool (!x2) true (by kernel_rfl) (fun w => by kernel_rfl) hb2 ?_
          have gx3 := M.ret_some ((M.ite_some gx3).1 hb2)
          refine QRun_n (by kernel_rfl) ?_
          refine QRun_n (by kernel_rfl) ?_
          refine QRun_n (by kernel_rfl) ?_
          refine QRun_bool true x3 (by kernel_rfl) (fun w => by kernel_rfl) gx3 ?_
          exact QRun_done [1, 2, 3, 4, 8, 26] (by kernel_rfl) (by kernel_rfl)
        · refine QRun_bool (!x2) false (by kernel_rfl) (fun w => by kernel_rfl) hb2 ?_
          have gx3 := (M.ite_some gx3).2 hb2
          obtain ⟨x4, hx3, gx3⟩ := M.bind_some gx3
          have gx3 := M.ret_some gx3
          refine QRun_b [.int .i64 delay] 8 _ (by kernel_rfl) (fun w => by kernel_rfl) ?_
          refine QRun_y (.bool x4) (by kernel_rfl) (Y_callq (f := 108) (args := #[.int .i64 delay, .int .i64 0, .int .i64 1000]) (v := .bool x4) (by kernel_rfl) (w_impl_within h3 delay 0 1000 _ _ hx3)) ?_
          refine QRun_b [.bool (!x4)] 10 _ (by kernel_rfl) (fun w => by kernel_rfl) ?_
          refine QRun_bool (!x4) x3 (by kernel_rfl) (fun w => by kernel_rfl) gx3 ?_
          exact QRun_done [1, 2, 3, 4, 8, 26] (by kernel_rfl) (by kernel_rfl)
      refine QRun_seq 17 [(1, .int .i64 i), (2, .int .i64 delay), (3, .int .i64 tokens), (4, .pointer (some ⟨b1, 0, none⟩)), (8, .pointer (some ⟨b2, 0, none⟩)), (31, .bool x5)] ?_ ?_
      · rcases Bool.eq_false_or_eq_true x3 with hb3 | hb3
        · refine QRun_bool x3 true (by kernel_rfl) (fun w => by kernel_rfl) hb3 ?_
          have gx5 := M.ret_some ((M.ite_some gx5).1 hb3)
          refine QRun_n (by kernel_rfl) ?_
          refine QRun_n (by kernel_rfl) ?_
          refine QRun_n (by kernel_rfl) ?_
          refine QRun_bool true x5 (by kernel_rfl) (fun w => by kernel_rfl) gx5 ?_
          exact QRun_done [1, 2, 3, 4, 8, 31] (by kernel_rfl) (by kernel_rfl)
        · refine QRun_bool x3 false (by kernel_rfl) (fun w => by kernel_rfl) hb3 ?_
          have gx5 := (M.ite_some gx5).2 hb3
          obtain ⟨x6, hx4, gx5⟩ := M.bind_some gx5
          have gx5 := M.ret_some gx5
          refine QRun_b [.int .i64 tokens] 13 _ (by kernel_rfl) (fun w => by kernel_rfl) ?_
          refine QRun_y (.bool x6) (by kernel_rfl) (Y_callq (f := 108) (args := #[.int .i64 tokens, .int .i64 0, .int .i64 5]) (v := .bool x6) (by kernel_rfl) (w_impl_within h3 tokens 0 5 _ _ hx4)) ?_
          refine QRun_b [.bool (!x6)] 15 _ (by kernel_rfl) (fun w => by kernel_rfl) ?_
          refine QRun_bool (!x6) x5 (by kernel_rfl) (fun w => by kernel_rfl) gx5 ?_
          exact QRun_done [1, 2, 3, 4, 8, 31] (by kernel_rfl) (by kernel_rfl)
      exact QRun_done [1, 2, 3, 4, 8, 31] (by kernel_rfl) (by kernel_rfl)
    refine Run_cond (b := x5) (by kernel_rfl) (fun hb4 => ?_) (fun hb4 => ?_)
    · have hF := (M.ite_some hF).1 hb4
      refine Run_seq ?_
      refine Run_ops ?_
      refine Run_b [.agg #[.int .i64 0, .slice none 0 0]] 0 _ (by kernel_rfl) (fun w => by kernel_rfl) ?_
      refine Run_E (by kernel_rfl) ?_
      refine E_bput (t := 30) (off := 0) (us := [.int .i64 0, .slice none 0 0]) (v := .agg #[.int .i64 0, .slice none 0 0]) H4 (by kernel_rfl) (by kernel_rfl) rfl (by kernel_rfl) rfl (fun h5 H8 => ?_)
      refine Run_b [.int .i64 2] 2 _ (by kernel_rfl) (fun w => by kernel_rfl) ?_
      refine Run_nil (by kernel_rfl) ?_
      refine Run_keep [8, 9] (L' := [(8, .pointer (some ⟨b2, 0, none⟩)), (9, .int .i64 2)]) (by kernel_rfl) ?_
      have hF := M.ret_some hF
      subst hF
      have H9 := H8.empty cd58
      have H10 : Hold h h5 [own cd58 none 0 0 []] := H9.pick [0] (by kernel_rfl)
      exact Run_ret2 rfl (ResV_cell (n := 2) (cs := [.int .i64 0, .slice none 0 0]) (by kernel_rfl) (fun w => by kernel_rfl) (by kernel_rfl) rfl (H8.cells (n := 2) (off := 0) 0 rfl rfl)) (ResV_tmp (v := .int .i64 2) (by kernel_rfl)) ⟨none, 0, rfl, H10⟩
    · have hF := (M.ite_some hF).2 hb4
      refine Run_skip ?_
      refine Run_seq ?_
      refine Run_ops ?_
      refine Run_y (.agg #[.int .i64 g.Events, .slice agPlaces g.Places.length cgPlaces]) (by kernel_rfl) (Y_loadA (t := 30) (n := 2) (p := ⟨b1, 0, none⟩) (cs := [.int .i64 g.Events, .slice agPlaces g.Places.length cgPlaces]) (by kernel_rfl) (fun w => by kernel_rfl) (by kernel_rfl) rfl (H4.cells (n := 2) (off := 0) 1 rfl rfl)) ?_
      obtain ⟨x7, hx5, hF⟩ := M.bind_some hF
      refine Run_E (by kernel_rfl) ?_
      refine E_call (f := 109) (args := #[.agg #[.int .i64 g.Events, .slice agPlaces g.Places.length cgPlaces]]) (w_impl_cloneGraph h3 g agPlaces cgPlaces (rgPlaces.at H4.ext) _ _ hx5) (by kernel_rfl) (fun v1 h6 hp1 => ?_)
      obtain ⟨a1, c1, rfl, H11⟩ := hp1
      have H12 : Hold h h6 [own cd58 a1 x7.Places.length c1 x7.Places, box b2 30 [.int .i64 0, .slice none 0 0], box b1 30 [.int .i64 g.Events, .slice agPlaces g.Places.length cgPlaces]] := H4.call H11 rfl
      refine Run_E (by kernel_rfl) ?_
      refine E_box (ty := 30) (cs := [.int .i64 0, .slice none 0 0]) H12 (fun w => by kernel_rfl) (fun b3 h7 H13 => ?_)
      refine Run_E (by kernel_rfl) ?_
      refine E_bput (t := 30) (off := 0) (us := [.int .i64 x7.Events, .slice a1 x7.Places.length c1]) (v := .agg #[.int .i64 x7.Events, .slice a1 x7.Places.length c1]) H13 (by kernel_rfl) (by kernel_rfl) rfl (by kernel_rfl) rfl (fun h8 H14 => ?_)
      refine Run_nil (by kernel_rfl) ?_
      refine Run_keep [1, 2, 3, 8, 10] (L' := [(1, .int .i64 i), (2, .int .i64 delay), (3, .int .i64 tokens), (8, .pointer (some ⟨b2, 0, none⟩)), (10, .pointer (some ⟨b3, 0, none⟩))]) (by kernel_rfl) ?_
      refine Run_seq ?_
      obtain ⟨x8, hx6, hF⟩ := M.bind_some hF
      obtain ⟨hx6l, hx6u, hx6⟩ := M.idx_some hx6
      refine Run_D (fun x => Hold h x [box b3 30 [.int .i64 x7.Events, .slice a1 x7.Places.length c1], box b2 30 [.int .i64 0, .slice none 0 0], box b1 30 [.int .i64 g.Events, .slice agPlaces g.Places.length cgPlaces]]) (fun x => Hold h x [box b3 30 [.int .i64 x7.Events, .slice a1 x7.Places.length c1], own cd58 a1 x7.Places.length c1 x7.Places, box b2 30 [.int .i64 0, .slice none 0 0], box b1 30 [.int .i64 g.Events, .slice agPlaces g.Places.length cgPlaces]]) mixed (by kernel_rfl) H14 Hold.stable (fun x Hy => (show Hold h x [box b3 30 [.int .i64 x7.Events, .slice a1 x7.Places.length c1], own cd58 a1 x7.Places.length c1 x7.Places, box b2 30 [.int .i64 0, .slice none 0 0], box b1 30 [.int .i64 g.Events, .slice agPlaces g.Places.length cgPlaces]] from Hy).pick [0, 2, 3] (by kernel_rfl)) ?_
      refine DR_b 13 [.pointer (some ⟨b3, 1, none⟩)] 0 (by kernel_rfl) (by kernel_rfl) (by kernel_rfl) (fun w => by kernel_rfl) ?_
      refine DR_y 12 (i := 1) (.slice a1 x7.Places.length c1) (by kernel_rfl) (by kernel_rfl) (by kernel_rfl) (fun hx Hx => (YE.of (Y_load1 (t := 28) (p := ⟨b3, 1, none⟩) (v := .slice a1 x7.Places.length c1) (by kernel_rfl) (fun w => by kernel_rfl) (Hx.cell 0 rfl rfl)))) ?_
      refine DR_b 10 [.int .i64 i, .pointer (some ⟨b3, 1, none⟩)] 2 (by kernel_rfl) (by kernel_rfl) (by kernel_rfl) (fun w => by kernel_rfl) ?_
      refine DR_y 9 (i := 4) (.slice a1 x7.Places.length c1) (by kernel_rfl) (by kernel_rfl) (by kernel_rfl) (fun hx Hx => (YE.of (Y_load1 (t := 28) (p := ⟨b3, 1, none⟩) (v := .slice a1 x7.Places.length c1) (by kernel_rfl) (fun w => by kernel_rfl) (Hx.cell 0 rfl rfl)))) ?_
      refine DR_b 6 [.int .i64 i, .int .i64 delay, .int .i64 tokens] 5 (by kernel_rfl) (by kernel_rfl) (by kernel_rfl) (fun w => by kernel_rfl) ?_
      refine DR_y 5 (i := 8) (.pointer (some (adr a1 (i.toNat * 4)))) (by kernel_rfl) (by kernel_rfl) (by kernel_rfl) (fun hx Hx => (YE.of (Y_idx (t := 28) (e := 58) (sz := 4) (a := a1) (n := x7.Places.length) (cap := c1) (kk := .i64) (i := i) (by kernel_rfl) Try.underlying28 (by kernel_rfl) ((H14.rd 1 rfl).cell hx6).1 hx6l hx6u))) ?_
      refine DR_b 4 [.pointer (some ((adr a1 (i.toNat * 4)).add 2))] 9 (by kernel_rfl) (by kernel_rfl) (by kernel_rfl) (fun w => by kernel_rfl) ?_
      refine DR_e 3 10 (by kernel_rfl) (by kernel_rfl) (by kernel_rfl) (fun h9 H15 => ?_)
      have H16 : Hold h h9 [box b3 30 [.int .i64 x7.Events, .slice a1 x7.Places.length c1], own cd58 a1 x7.Places.length c1 x7.Places, box b2 30 [.int .i64 0, .slice none 0 0], box b1 30 [.int .i64 g.Events, .slice agPlaces g.Places.length cgPlaces]] := H15
      obtain ⟨l1, hu1, hF⟩ := M.bind_some hF
      have hu1 := M.upd_some hu1
      have H18 : Hold h h9 [own cd58 a1 x7.Places.length c1 x7.Places, box b3 30 [.int .i64 x7.Events, .slice a1 x7.Places.length c1], box b2 30 [.int .i64 0, .slice none 0 0], box b1 30 [.int .i64 g.Events, .slice agPlaces g.Places.length cgPlaces]] := H16.pick [1, 0, 2, 3] (by kernel_rfl)
      refine E_putF (C := cd58) (t := 2) (sz := 4) (f := 2) (j := i) (y := x8) (y' := (⟨x8.From, x8.To, delay, x8.Tokens⟩ : TPlace)) (v := .int .i64 delay) H18 (by kernel_rfl) rfl (by kernel_rfl) rfl rfl (fun _ vs G o => by obtain ⟨rfl, rfl⟩ := o; exact ⟨rfl, rfl⟩) (by kernel_rfl) hx6 hu1 (fun h10 H17 => ?_)
      refine ⟨fun x => Hold h x [box b3 30 [.int .i64 x7.Events, .slice a1 x7.Places.length c1], box b2 30 [.int .i64 0, .slice none 0 0], box b1 30 [.int .i64 g.Events, .slice agPlaces g.Places.length cgPlaces]], fun x => Hold h x [own cd58 a1 x7.Places.length c1 l1, box b3 30 [.int .i64 x7.Events, .slice a1 x7.Places.length c1], box b2 30 [.int .i64 0, .slice none 0 0], box b1 30 [.int .i64 g.Events, .slice agPlaces g.Places.length cgPlaces]], H17, Hold.stable, fun x Hy => (show Hold h x [own cd58 a1 x7.Places.length c1 l1, box b3 30 [.int .i64 x7.Events, .slice a1 x7.Places.length c1], box b2 30 [.int .i64 0, .slice none 0 0], box b1 30 [.int .i64 g.Events, .slice agPlaces g.Places.length cgPlaces]] from Hy).pick [1, 2, 3] (by kernel_rfl), fun x Hy => (show Hold h x [box b3 30 [.int .i64 x7.Events, .slice a1 x7.Places.length c1], box b2 30 [.int .i64 0, .slice none 0 0], box b1 30 [.int .i64 g.Events, .slice agPlaces g.Places.length cgPlaces]] from Hy).pick [0, 1, 2] (by kernel_rfl), ?_⟩
      obtain ⟨x9, hx7, hF⟩ := M.bind_some hF
      obtain ⟨hx7l, hx7u, hx7⟩ := M.idx_some hx7
      refine DR_y 2 (i := 11) (.pointer (some (adr a1 (i.toNat * 4)))) (by kernel_rfl) (by kernel_rfl) (by kernel_rfl) (fun hx Hx => (YE.of (Y_idx (t := 28) (e := 58) (sz := 4) (a := a1) (n := x7.Places.length) (cap := c1) (kk := .i64) (i := i) (by kernel_rfl) Try.underlying28 (by kernel_rfl) ((H17.rd 0 rfl).cell hx7).1 hx7l (by rw [← (H17.len 0 rfl)]; exact hx7u)))) ?_
      refine DR_b 1 [.pointer (some ((adr a1 (i.toNat * 4)).add 3))] 12 (by kernel_rfl) (by kernel_rfl) (by kernel_rfl) (fun w => by kernel_rfl) ?_
      refine DR_tail (i := 13) (by kernel_rfl) (by kernel_rfl) (by kernel_rfl) (fun h11 H19 => ?_)
      have H20 : Hold h h11 [own cd58 a1 x7.Places.length c1 l1, box b3 30 [.int .i64 x7.Events, .slice a1 x7.Places.length c1], box b2 30 [.int .i64 0, .slice none 0 0], box b1 30 [.int .i64 g.Events, .slice agPlaces g.Places.length cgPlaces]] := H19
      obtain ⟨l2, hu2, hF⟩ := M.bind_some hF
      have hu2 := M.upd_some hu2
      refine Run_E (by kernel_rfl) ?_
      refine E_putF (C := cd58) (t := 2) (sz := 4) (f := 3) (j := i) (y := x9) (y' := (⟨x9.From, x9.To, x9.Delay, tokens⟩ : TPlace)) (v := .int .i64 tokens) H20 (by kernel_rfl) rfl (by kernel_rfl) rfl rfl (fun _ vs G o => by obtain ⟨rfl, rfl⟩ := o; exact ⟨rfl, rfl⟩) (by kernel_rfl) hx7 hu2 (fun h12 H21 => ?_)
      refine Run_nil (by kernel_rfl) ?_
      refine Run_keep [8, 10] (L' := [(8, .pointer (some ⟨b2, 0, none⟩)), (10, .pointer (some ⟨b3, 0, none⟩))]) (by kernel_rfl) ?_
      refine Run_seq ?_
      refine Run_ops ?_
      refine Run_y (.agg #[.int .i64 x7.Events, .slice a1 x7.Places.length c1]) (by kernel_rfl) (Y_loadA (t := 30) (n := 2) (p := ⟨b3, 0, none⟩) (cs := [.int .i64 x7.Events, .slice a1 x7.Places.length c1]) (by kernel_rfl) (fun w => by kernel_rfl) (by kernel_rfl) rfl (H21.cells (n := 2) (off := 0) 1 rfl rfl)) ?_
      have H23 : Hold h h12 [box b2 30 [.int .i64 0, .slice none 0 0], own cd58 a1 x7.Places.length c1 l2, box b3 30 [.int .i64 x7.Events, .slice a1 x7.Places.length c1], box b1 30 [.int .i64 g.Events, .slice agPlaces g.Places.length cgPlaces]] := H21.pick [2, 0, 1, 3] (by kernel_rfl)
      refine Run_E (by kernel_rfl) ?_
      refine E_bput (t := 30) (off := 0) (us := [.int .i64 x7.Events, .slice a1 x7.Places.length c1]) (v := .agg #[.int .i64 x7.Events, .slice a1 x7.Places.length c1]) H23 (by kernel_rfl) (by kernel_rfl) rfl (by kernel_rfl) rfl (fun h13 H22 => ?_)
      refine Run_b [.int .i64 0] 2 _ (by kernel_rfl) (fun w => by kernel_rfl) ?_
      refine Run_nil (by kernel_rfl) ?_
      refine Run_keep [8, 9] (L' := [(8, .pointer (some ⟨b2, 0, none⟩)), (9, .int .i64 0)]) (by kernel_rfl) ?_
      have hF := M.ret_some hF
      subst hF
      have H24 : Hold h h13 [own cd58 a1 x7.Places.length c1 l2, box b2 30 [.int .i64 x7.Events, .slice a1 x7.Places.length c1], box b3 30 [.int .i64 x7.Events, .slice a1 x7.Places.length c1], box b1 30 [.int .i64 g.Events, .slice agPlaces g.Places.length cgPlaces]] := H22.pick [1, 0, 2, 3] (by kernel_rfl)
      have H25 := H24.norm
      have H26 : Hold h h13 [own cd58 a1 l2.length c1 l2] := H25.pick [0] (by kernel_rfl)
      exact Run_ret2 rfl (ResV_cell (n := 2) (cs := [.int .i64 x7.Events, .slice a1 x7.Places.length c1]) (by kernel_rfl) (fun w => by kernel_rfl) (by kernel_rfl) rfl (H22.cells (n := 2) (off := 0) 0 rfl rfl)) (ResV_tmp (v := .int .i64 0) (by kernel_rfl)) ⟨a1, c1, (by simp only [(H24.len 0 rfl)]), H26⟩

set_option maxRecDepth 100000 in
set_option maxHeartbeats 4000000 in
theorem w_spec_l11Index (h : Heap) (g : TGraph) (agPlaces : Option Addr) (cgPlaces : Nat) (rgPlaces : Rd cd58 h (Lt h) agPlaces cgPlaces g.Places) (i : Int) (n : Nat) (r : Int) (hF : spec_l11Index g i n = some r) :
    Fn Try.prog 110 #[.agg #[.int .i64 g.Events, .slice agPlaces g.Places.length cgPlaces], .int .i64 i] h fun v h' => v = .int .i64 r ∧ Hold h h' [] := by
  unfold spec_l11Index at hF
  refine Fn_enter (args := [.agg #[.int .i64 g.Events, .slice agPlaces g.Places.length cgPlaces], .int .i64 i]) Try.func110 rfl (by kernel_rfl) (by kernel_rfl) (fun w0 _ => ?_)
  have H0 := Hold.init h
  refine Run_seq ?_
  refine Run_ops ?_
  refine Run_E (by kernel_rfl) ?_
  refine E_box (ty := 30) (cs := [.int .i64 g.Events, .slice agPlaces g.Places.length cgPlaces]) H0 (fun w => by kernel_rfl) (fun b1 h1 H1 => ?_)
  refine Run_b [.int .i64 0] 1 _ (by kernel_rfl) (fun w => by kernel_rfl) ?_
  refine Run_nil (by kernel_rfl) ?_
  refine Run_keep [1, 2] (L' := [(1, .int .i64 i), (2, .pointer (some ⟨b1, 0, none⟩))]) (by kernel_rfl) ?_
  refine Run_seq ?_
  refine Run_block ?_
  refine Run_seq ?_
  obtain ⟨x1, hx1, hF⟩ := M.bind_some hF
  refine Run_regC (j := 4) (C := fun x => Hold h x [box b1 30 [.int .i64 g.Events, .slice agPlaces g.Places.length cgPlaces]]) (by kernel_rfl) H1 (L' := [(1, .int .i64 i), (2, .pointer (some ⟨b1, 0, none⟩)), (5, .bool (!x1))]) ?_ (fun h2 H2 => ?_)
  · refine QRun_y (.agg #[.int .i64 g.Events, .slice agPlaces g.Places.length cgPlaces]) (by kernel_rfl) (Y_cls fun hx Hx => (Y_loadA (t := 30) (n := 2) (p := ⟨b1, 0, none⟩) (cs := [.int .i64 g.Events, .slice agPlaces g.Places.length cgPlaces]) (by kernel_rfl) (fun w => by kernel_rfl) (by kernel_rfl) rfl (Hx.cells (n := 2) (off := 0) 0 rfl rfl))) ?_
    refine QRun_y (.bool x1) (by kernel_rfl) (Y_call (f := 70) (args := #[.agg #[.int .i64 g.Events, .slice agPlaces g.Places.length cgPlaces]]) (v := .bool x1) (by kernel_rfl) fun hx Hx => (w_spec_IsEventGraph hx g agPlaces cgPlaces (rgPlaces.at Hx.ext) _ _ hx1).mono fun _ _ ⟨e, H'⟩ => ⟨e, Hx.call H' rfl⟩) ?_
    refine QRun_b [.bool (!x1), .bool (!x1)] 2 _ (by kernel_rfl) (fun w => by kernel_rfl) ?_
    exact QRun_done [1, 2, 5] (by kernel_rfl) (by kernel_rfl)
  have H3 : Hold h h2 [box b1 30 [.int .i64 g.Events, .slice agPlaces g.Places.length cgPlaces]] := H2
  refine Run_cond (b := !x1) (by kernel_rfl) (fun hb1 => ?_) (fun hb1 => ?_)
  · have hF := (M.ite_some hF).1 hb1
    refine Run_seq ?_
    refine Run_reg 1 (by kernel_rfl) (L' := [(4, .int .i64 1)]) ?_ ?_
    · refine QRun_b [.int .i64 1] 0 _ (by kernel_rfl) (fun w => by kernel_rfl) ?_
      exact QRun_done [4] (by kernel_rfl) (by kernel_rfl)
    have hF := M.ret_some hF
    subst hF
    have H4 : Hold h h2 [] := H3.pick [] (by kernel_rfl)
    exact Run_ret1 rfl (ResV_tmp (v := .int .i64 1) (by kernel_rfl)) ⟨rfl, H4⟩
  · have hF := (M.ite_some hF).2 hb1
    refine Run_seq ?_
    obtain ⟨x2, hx2, hF⟩ := M.bind_some hF
    refine Run_reg 8 (by kernel_rfl) (L' := [(9, .bool (!x2))]) ?_ ?_
    · refine QRun_b [.int .i64 i, .pointer (some ⟨b1, 1, none⟩)] 0 _ (by kernel_rfl) (fun w => by kernel_rfl) ?_
      refine QRun_y (.slice agPlaces g.Places.length cgPlaces) (by kernel_rfl) (Y_load1 (t := 28) (p := ⟨b1, 1, none⟩) (v := .slice agPlaces g.Places.length cgPlaces) (by kernel_rfl) (fun w => by kernel_rfl) (H3.cell 0 rfl rfl)) ?_
      refine QRun_b [.int .i64 (g.Places.length : Int), .int .i64 (w64 ((g.Places.length : Int) - 1))] 3 _ (by kernel_rfl) (fun w => by kernel_rfl) ?_
      refine QRun_y (.bool x2) (by kernel_rfl) (Y_callq (f := 78) (args := #[.int .i64 i, .int .i64 0, .int .i64 (w64 ((g.Places.length : Int) - 1))]) (v := .bool x2) (by kernel_rfl) (w_spec_l01In h2 i 0 (w64 ((g.Places.length : Int) - 1)) _ _ hx2)) ?_
      refine QRun_b [.bool (!x2), .bool (!x2)] 6 _ (by kernel_rfl) (fun w => by kernel_rfl) ?_
      exact QRun_done [9] (by kernel_rfl) (by kernel_rfl)
    refine Run_cond (b := !x2) (by kernel_rfl) (fun hb2 => ?_) (fun hb2 => ?_)
    · have hF := (M.ite_some hF).1 hb2
      refine Run_seq ?_
      refine Run_reg 1 (by kernel_rfl) (L' := [(4, .int .i64 2)]) ?_ ?_
      · refine QRun_b [.int .i64 2] 0 _ (by kernel_rfl) (fun w => by kernel_rfl) ?_
        exact QRun_done [4] (by kernel_rfl) (by kernel_rfl)
      have hF := M.ret_some hF
      subst hF
      have H5 : Hold h h2 [] := H3.pick [] (by kernel_rfl)
      exact Run_ret1 rfl (ResV_tmp (v := .int .i64 2) (by kernel_rfl)) ⟨rfl, H5⟩
    · have hF := (M.ite_some hF).2 hb2
      refine Run_skip ?_
      refine Run_blk ?_
      refine Run_seq ?_
      refine Run_reg 1 (by kernel_rfl) (L' := [(4, .int .i64 0)]) ?_ ?_
      · refine QRun_b [.int .i64 0] 0 _ (by kernel_rfl) (fun w => by kernel_rfl) ?_
        exact QRun_done [4] (by kernel_rfl) (by kernel_rfl)
      have hF := M.ret_some hF
      subst hF
      have H6 : Hold h h2 [] := H3.pick [] (by kernel_rfl)
      exact Run_ret1 rfl (ResV_tmp (v := .int .i64 0) (by kernel_rfl)) ⟨rfl, H6⟩

set_option maxRecDepth 100000 in
set_option maxHeartbeats 4000000 in
theorem w_spec_l11Own (h : Heap) (g : TGraph) (agPlaces : Option Addr) (cgPlaces : Nat) (rgPlaces : Rd cd58 h (Lt h) agPlaces cgPlaces g.Places) (n : Nat) (r : TGraph) (hF : spec_l11Own g n = some r) :
    Fn Try.prog 111 #[.agg #[.int .i64 g.Events, .slice agPlaces g.Places.length cgPlaces]] h fun v h' => ∃ (a0 : Option Addr) (c0 : Nat), v = .agg #[.int .i64 r.Events, .slice a0 r.Places.length c0] ∧ Hold h h' [own cd58 a0 r.Places.length c0 r.Places] := by
  unfold spec_l11Own at hF
  refine Fn_enter (args := [.agg #[.int .i64 g.Events, .slice agPlaces g.Places.length cgPlaces]]) Try.func111 rfl (by kernel_rfl) (by kernel_rfl) (fun w0 _ => ?_)
  have H0 := Hold.init h
  refine Run_seq ?_
  refine Run_ops ?_
  refine Run_E (by kernel_rfl) ?_
  refine E_box (ty := 30) (cs := [.int .i64 g.Events, .slice agPlaces g.Places.length cgPlaces]) H0 (fun w => by kernel_rfl) (fun b1 h1 H1 => ?_)
  refine Run_E (by kernel_rfl) ?_
  refine E_box (ty := 30) (cs := [.int .i64 0, .slice none 0 0]) H1 (fun w => by kernel_rfl) (fun b2 h2 H2 => ?_)
  refine Run_nil (by kernel_rfl) ?_
  refine Run_keep [1, 2] (L' := [(1, .pointer (some ⟨b1, 0, none⟩)), (2, .pointer (some ⟨b2, 0, none⟩))]) (by kernel_rfl) ?_
  refine Run_seq ?_
  refine Run_D (fun x => Hold h x [box b2 30 [.int .i64 0, .slice none 0 0], box b1 30 [.int .i64 g.Events, .slice agPlaces g.Places.length cgPlaces]]) (fun x => Hold h x [box b2 30 [.int .i64 0, .slice none 0 0], box b1 30 [.int .i64 g.Events, .slice agPlaces g.Places.length cgPlaces]]) mixed (by kernel_rfl) H2 Hold.stable (fun x Hy => (show Hold h x [box b2 30 [.int .i64 0, .slice none 0 0], box b1 30 [.int .i64 g.Events, .slice agPlaces g.Places.length cgPlaces]] from Hy).pick [0, 1] (by kernel_rfl)) ?_
  refine DR_b 7 [.pointer (some ⟨b1, 0, none⟩)] 0 (by kernel_rfl) (by kernel_rfl) (by kernel_rfl) (fun w => by kernel_rfl) ?_
  refine DR_y 6 (i := 1) (.int .i64 g.Events) (by kernel_rfl) (by kernel_rfl) (by kernel_rfl) (fun hx Hx => (YE.of (Y_load1 (t := 2) (p := ⟨b1, 0, none⟩) (v := .int .i64 g.Events) (by kernel_rfl) (fun w => by kernel_rfl) (Hx.cell 1 rfl rfl)))) ?_
  refine DR_b 5 [.pointer (some ⟨b1, 1, none⟩)] 3 (by kernel_rfl) (by kernel_rfl) (by kernel_rfl) (fun w => by kernel_rfl) ?_
  refine DR_y 4 (i := 4) (.slice agPlaces g.Places.length cgPlaces) (by kernel_rfl) (by kernel_rfl) (by kernel_rfl) (fun hx Hx => (YE.of (Y_load1 (t := 28) (p := ⟨b1, 1, none⟩) (v := .slice agPlaces g.Places.length cgPlaces) (by kernel_rfl) (fun w => by kernel_rfl) (Hx.cell 1 rfl rfl)))) ?_
  refine DR_e 3 2 (by kernel_rfl) (by kernel_rfl) (by kernel_rfl) (fun h3 H3 => ?_)
  have H4 : Hold h h3 [box b2 30 [.int .i64 0, .slice none 0 0], box b1 30 [.int .i64 g.Events, .slice agPlaces g.Places.length cgPlaces]] := H3
  refine E_lit (C := cd58) (n := 0) (l := ([] : List TPlace)) (cs := []) H4 (fun w => by kernel_rfl) (Enc.nil _ _) rfl (by decide) (fun a1 h4 H5 => ?_)
  refine ⟨fun x => Hold h x [box b2 30 [.int .i64 0, .slice none 0 0], box b1 30 [.int .i64 g.Events, .slice agPlaces g.Places.length cgPlaces]], fun x => Hold h x [own cd58 a1 0 0 ([] : List TPlace), box b2 30 [.int .i64 0, .slice none 0 0], box b1 30 [.int .i64 g.Events, .slice agPlaces g.Places.length cgPlaces]], H5, Hold.stable, fun x Hy => (show Hold h x [own cd58 a1 0 0 ([] : List TPlace), box b2 30 [.int .i64 0, .slice none 0 0], box b1 30 [.int .i64 g.Events, .slice agPlaces g.Places.length cgPlaces]] from Hy).pick [1, 2] (by kernel_rfl), fun x Hy => (show Hold h x [box b2 30 [.int .i64 0, .slice none 0 0], box b1 30 [.int .i64 g.Events, .slice agPlaces g.Places.length cgPlaces]] from Hy).pick [0, 1] (by kernel_rfl), ?_⟩
  refine DR_e 2 5 (by kernel_rfl) (by kernel_rfl) (by kernel_rfl) (fun h5 H6 => ?_)
  have H7 : Hold h h5 [own cd58 a1 0 0 ([] : List TPlace), box b2 30 [.int .i64 0, .slice none 0 0], box b1 30 [.int .i64 g.Events, .slice agPlaces g.Places.length cgPlaces]] := H6
  obtain ⟨l1, hl1, hF⟩ := M.bind_some hF
  have hl1 := M.app_some hl1
  refine E_appR (C := cd58) (t := 28) (ty := 28) (n := 0) (m := g.Places.length) H7 cd58_copies (rgPlaces.at H7.ext) rfl cd58_ti rfl Try.underlying28 (by decide) (by kernel_rfl) hl1 (fun a2 c1 h6 H8 => ?_)
  refine ⟨fun x => Hold h x [box b2 30 [.int .i64 0, .slice none 0 0], box b1 30 [.int .i64 g.Events, .slice agPlaces g.Places.length cgPlaces], own cd58 a2 l1.length c1 l1], fun x => Hold h x [own cd58 a2 l1.length c1 l1, box b2 30 [.int .i64 0, .slice none 0 0], box b1 30 [.int .i64 g.Events, .slice agPlaces g.Places.length cgPlaces]], H8, Hold.stable, fun x Hy => (show Hold h x [own cd58 a2 l1.length c1 l1, box b2 30 [.int .i64 0, .slice none 0 0], box b1 30 [.int .i64 g.Events, .slice agPlaces g.Places.length cgPlaces]] from Hy).pick [1, 2, 0] (by kernel_rfl), fun x Hy => (show Hold h x [box b2 30 [.int .i64 0, .slice none 0 0], box b1 30 [.int .i64 g.Events, .slice agPlaces g.Places.length cgPlaces], own cd58 a2 l1.length c1 l1] from Hy).pick [0, 1] (by kernel_rfl), ?_⟩
  refine DR_b 1 [.agg #[.int .i64 g.Events, .slice a2 l1.length c1]] 6 (by kernel_rfl) (by kernel_rfl) (by kernel_rfl) (fun w => by kernel_rfl) ?_
  refine DR_tail (i := 7) (by kernel_rfl) (by kernel_rfl) (by kernel_rfl) (fun h7 H9 => ?_)
  have H10 : Hold h h7 [own cd58 a2 l1.length c1 l1, box b2 30 [.int .i64 0, .slice none 0 0], box b1 30 [.int .i64 g.Events, .slice agPlaces g.Places.length cgPlaces]] := H9
  have H12 : Hold h h7 [box b2 30 [.int .i64 0, .slice none 0 0], own cd58 a2 l1.length c1 l1, box b1 30 [.int .i64 g.Events, .slice agPlaces g.Places.length cgPlaces]] := H10.pick [1, 0, 2] (by kernel_rfl)
  refine Run_E (by kernel_rfl) ?_
  refine E_bput (t := 30) (off := 0) (us := [.int .i64 g.Events, .slice a2 l1.length c1]) (v := .agg #[.int .i64 g.Events, .slice a2 l1.length c1]) H12 (by kernel_rfl) (by kernel_rfl) rfl (by kernel_rfl) rfl (fun h8 H11 => ?_)
  refine Run_nil (by kernel_rfl) ?_
  refine Run_keep [2] (L' := [(2, .pointer (some ⟨b2, 0, none⟩))]) (by kernel_rfl) ?_
  have hF := M.ret_some hF
  subst hF
  have H13 : Hold h h8 [own cd58 a2 l1.length c1 l1, box b2 30 [.int .i64 g.Events, .slice a2 l1.length c1], box b1 30 [.int .i64 g.Events, .slice agPlaces g.Places.length cgPlaces]] := H11.pick [1, 0, 2] (by kernel_rfl)
  have H14 : Hold h h8 [own cd58 a2 l1.length c1 l1] := H13.pick [0] (by kernel_rfl)
  exact Run_ret1 rfl (ResV_cell (n := 2) (cs := [.int .i64 g.Events, .slice a2 l1.length c1]) (by kernel_rfl) (fun w => by kernel_rfl) (by kernel_rfl) rfl (H11.cells (n := 2) (off := 0) 0 rfl rfl)) ⟨a2, c1, rfl, H14⟩

set_option maxRecDepth 100000 in
set_option maxHeartbeats 4000000 in
theorem w_spec_ChangePlace (h : Heap) (g : TGraph) (agPlaces : Option Addr) (cgPlaces : Nat) (rgPlaces : Rd cd58 h (Lt h) agPlaces cgPlaces g.Places) (i : Int) (delay : Int) (tokens : Int) (n : Nat) (r : TGraph × Int) (hF : spec_ChangePlace g i delay tokens n = some r) :
    Fn Try.prog 35 #[.agg #[.int .i64 g.Events, .slice agPlaces g.Places.length cgPlaces], .int .i64 i, .int .i64 delay, .int .i64 tokens] h fun v h' => ∃ (a0 : Option Addr) (c0 : Nat), v = .tuple #[.agg #[.int .i64 r.1.Events, .slice a0 r.1.Places.length c0], .int .i64 r.2] ∧ Hold h h' [own cd58 a0 r.1.Places.length c0 r.1.Places] := by
  unfold spec_ChangePlace at hF
  refine Fn_enter (args := [.agg #[.int .i64 g.Events, .slice agPlaces g.Places.length cgPlaces], .int .i64 i, .int .i64 delay, .int .i64 tokens]) Try.func35 rfl (by kernel_rfl) (by kernel_rfl) (fun w0 _ => ?_)
  have H0 := Hold.init h
  refine Run_seq ?_
  refine Run_ops ?_
  refine Run_E (by kernel_rfl) ?_
  refine E_box (ty := 30) (cs := [.int .i64 g.Events, .slice agPlaces g.Places.length cgPlaces]) H0 (fun w => by kernel_rfl) (fun b1 h1 H1 => ?_)
  refine Run_E (by kernel_rfl) ?_
  refine E_box (ty := 30) (cs := [.int .i64 0, .slice none 0 0]) H1 (fun w => by kernel_rfl) (fun b2 h2 H2 => ?_)
  refine Run_b [.int .i64 0] 2 _ (by kernel_rfl) (fun w => by kernel_rfl) ?_
  refine Run_nil (by kernel_rfl) ?_
  refine Run_keep [1, 2, 3, 4, 8] (L' := [(1, .int .i64 i), (2, .int .i64 delay), (3, .int .i64 tokens), (4, .pointer (some ⟨b1, 0, none⟩)), (8, .pointer (some ⟨b2, 0, none⟩))]) (by kernel_rfl) ?_
  refine Run_seq ?_
  obtain ⟨x1, hx1, hF⟩ := M.bind_some hF
  refine Run_regC (j := 4) (C := fun x => Hold h x [box b2 30 [.int .i64 0, .slice none 0 0], box b1 30 [.int .i64 g.Events, .slice agPlaces g.Places.length cgPlaces]]) (by kernel_rfl) H2 (L' := [(1, .int .i64 i), (2, .int .i64 delay), (3, .int .i64 tokens), (4, .pointer (some ⟨b1, 0, none⟩)), (8, .pointer (some ⟨b2, 0, none⟩)), (10, .int .i64 x1)]) ?_ (fun h3 H3 => ?_)
  · refine QRun_y (.agg #[.int .i64 g.Events, .slice agPlaces g.Places.length cgPlaces]) (by kernel_rfl) (Y_cls fun hx Hx => (Y_loadA (t := 30) (n := 2) (p := ⟨b1, 0, none⟩) (cs := [.int .i64 g.Events, .slice agPlaces g.Places.length cgPlaces]) (by kernel_rfl) (fun w => by kernel_rfl) (by kernel_rfl) rfl (Hx.cells (n := 2) (off := 0) 1 rfl rfl))) ?_
    refine QRun_b [.int .i64 i] 1 _ (by kernel_rfl) (fun w => by kernel_rfl) ?_
    refine QRun_y (.int .i64 x1) (by kernel_rfl) (Y_call (f := 110) (args := #[.agg #[.int .i64 g.Events, .slice agPlaces g.Places.length cgPlaces], .int .i64 i]) (v := .int .i64 x1) (by kernel_rfl) fun hx Hx => (w_spec_l11Index hx g agPlaces cgPlaces (rgPlaces.at Hx.ext) i _ _ hx1).mono fun _ _ ⟨e, H'⟩ => ⟨e, Hx.call H' rfl⟩) ?_
    refine QRun_b [.int .i64 x1] 3 _ (by kernel_rfl) (fun w => by kernel_rfl) ?_
    exact QRun_done [1, 2, 3, 4, 8, 10] (by kernel_rfl) (by kernel_rfl)
  have H4 : Hold h h3 [box b2 30 [.int .i64 0, .slice none 0 0], box b1 30 [.int .i64 g.Events, .slice agPlaces g.Places.length cgPlaces]] := H3
  refine Run_seq ?_
  refine Run_seq ?_
  obtain ⟨x2, gx2, hF⟩ := M.bind_some hF
  refine Run_reg 12 (by kernel_rfl) (L' := [(1, .int .i64 i), (2, .int .i64 delay), (3, .int .i64 tokens), (4, .pointer (some ⟨b1, 0, none⟩)), (8, .pointer (some ⟨b2, 0, none⟩)), (10, .int .i64 x1), (26, .bool x2)]) ?_ ?_
  · refine QRun_b [.int .i64 x1, .bool (x1 == 0)] 0 _ (by kernel_rfl) (fun w => by kernel_rfl) ?_
    refine QRun_seq 12 [(1, .int .i64 i), (2, .int .i64 delay), (3, .int .i64 tokens), (4, .pointer (some ⟨b1, 0, none⟩)), (8, .pointer (some ⟨b2, 0, none⟩)), (10, .int .i64 x1), (26, .bool x2)] ?_ ?_
    · rcases Bool.eq_false_or_eq_true (x1 == 0) with hb1 | hb1
      · refine QRun_bool (x1 == 0) true (by kernel_rfl) (fun w => by kernel_rfl) hb1 ?_
        have gx2 := (M.ite_some gx2).1 hb1
        obtain ⟨x3, hx2, gx2⟩ := M.bind_some gx2
        obtain ⟨x4, gx4, gx2⟩ := M.bind_some gx2
        have gx2 := M.ret_some gx2
        refine QRun_b [.int .i64 delay] 3 _ (by kernel_rfl) (fun w => by kernel_rfl) ?_
        refine QRun_y (.bool x3) (by kernel_rfl) (Y_callq (f := 78) (args := #[.int .i64 delay, .int .i64 0, .int .i64 1000]) (v := .bool x3) (by kernel_rfl) (w_spec_l01In h3 delay 0 1000 _ _ hx2)) ?_
        refine QRun_b [.bool (!x3)] 5 _ (by kernel_rfl) (fun w => by kernel_rfl) ?_
        refine QRun_seq 11 [(1, .int .i64 i), (2, .int .i64 delay), (3, .int .i64 tokens), (4, .pointer (some ⟨b1, 0, none⟩)), (8, .pointer (some ⟨b2, 0, none⟩)), (10, .int .i64 x1), (17, .bool true), (25, .bool x4)] ?_ ?_
        · rcases Bool.eq_false_or_eq_true (!x3) with hb2 | hb2
          · refine QRun_bool (!x3) true (by kernel_rfl) (fun w => by kernel_rfl) hb2 ?_
            have gx4 := M.ret_some ((M.ite_some gx4).1 hb2)
            refine QRun_n (by kernel_rfl) ?_
            refine QRun_n (by kernel_rfl) ?_
            refine QRun_n (by kernel_rfl) ?_
            refine QRun_bool true x4 (by kernel_rfl) (fun w => by kernel_rfl) gx4 ?_
            exact QRun_done [1, 2, 3, 4, 8, 10, 17, 25] (by kernel_rfl) (by kernel_rfl)
          · refine QRun_bool (!x3) false (by kernel_rfl) (fun w => by kernel_rfl) hb2 ?_
            have gx4 := (M.ite_some gx4).2 hb2
            obtain ⟨x5, hx3, gx4⟩ := M.bind_some gx4
            have gx4 := M.ret_some gx4
            refine QRun_b [.int .i64 tokens] 7 _ (by kernel_rfl) (fun w => by kernel_rfl) ?_
            refine QRun_y (.bool x5) (by kernel_rfl) (Y_callq (f := 78) (args := #[.int .i64 tokens, .int .i64 0, .int .i64 5]) (v := .bool x5) (by kernel_rfl) (w_spec_l01In h3 tokens 0 5 _ _ hx3)) ?_
            refine QRun_b [.bool (!x5)] 9 _ (by kernel_rfl) (fun w => by kernel_rfl) ?_
            refine QRun_bool (!x5) x4 (by kernel_rfl) (fun w => by kernel_rfl) gx4 ?_
            exact QRun_done [1, 2, 3, 4, 8, 10, 17, 25] (by kernel_rfl) (by kernel_rfl)
        refine QRun_bool x4 x2 (by kernel_rfl) (fun w => by kernel_rfl) gx2 ?_
        exact QRun_done [1, 2, 3, 4, 8, 10, 26] (by kernel_rfl) (by kernel_rfl)
      · refine QRun_bool (x1 == 0) false (by kernel_rfl) (fun w => by kernel_rfl) hb1 ?_
        have gx2 := M.ret_some ((M.ite_some gx2).2 hb1)
        refine QRun_n (by kernel_rfl) ?_
        refine QRun_n (by kernel_rfl) ?_
        refine QRun_n (by kernel_rfl) ?_
        refine QRun_n (by kernel_rfl) ?_
        refine QRun_n (by kernel_rfl) ?_
        refine QRun_n (by kernel_rfl) ?_
        refine QRun_n (by kernel_rfl) ?_
        refine QRun_n (by kernel_rfl) ?_
        refine QRun_bool false x2 (by kernel_rfl) (fun w => by kernel_rfl) gx2 ?_
        exact QRun_done [1, 2, 3, 4, 8, 10, 26] (by kernel_rfl) (by kernel_rfl)
    exact QRun_done [1, 2, 3, 4, 8, 10, 26] (by kernel_rfl) (by kernel_rfl)
  obtain ⟨s1, gs1, hF⟩ := M.bind_some hF
  refine Run_join (fun L' h' => L' = [(1, .int .i64 i), (2, .int .i64 delay), (3, .int .i64 tokens), (4, .pointer (some ⟨b1, 0, none⟩)), (8, .pointer (some ⟨b2, 0, none⟩)), (10, .int .i64 s1)] ∧ Hold h h' [box b1 30 [.int .i64 g.Events, .slice agPlaces g.Places.length cgPlaces], box b2 30 [.int .i64 0, .slice none 0 0]]) ?_ ?_
  · rintro _ h4 ⟨rfl, H5⟩
    refine Run_seq ?_
    refine Run_seq ?_
    refine Run_reg 2 (by kernel_rfl) (L' := [(1, .int .i64 i), (2, .int .i64 delay), (3, .int .i64 tokens), (4, .pointer (some ⟨b1, 0, none⟩)), (8, .pointer (some ⟨b2, 0, none⟩)), (10, .int .i64 s1), (28, .bool (s1 != 0))]) ?_ ?_
    · refine QRun_b [.int .i64 s1, .bool (s1 != 0)] 0 _ (by kernel_rfl) (fun w => by kernel_rfl) ?_
      exact QRun_done [1, 2, 3, 4, 8, 10, 28] (by kernel_rfl) (by kernel_rfl)
    refine Run_cond (b := s1 != 0) (by kernel_rfl) (fun hb4 => ?_) (fun hb4 => ?_)
    · have hF := (M.ite_some hF).1 hb4
      refine Run_seq ?_
      refine Run_ops ?_
      refine Run_b [.agg #[.int .i64 0, .slice none 0 0], .int .i64 s1] 0 _ (by kernel_rfl) (fun w => by kernel_rfl) ?_
      have H9 : Hold h h4 [box b2 30 [.int .i64 0, .slice none 0 0], box b1 30 [.int .i64 g.Events, .slice agPlaces g.Places.length cgPlaces]] := H5.pick [1, 0] (by kernel_rfl)
      refine Run_E (by kernel_rfl) ?_
      refine E_bput (t := 30) (off := 0) (us := [.int .i64 0, .slice none 0 0]) (v := .agg #[.int .i64 0, .slice none 0 0]) H9 (by kernel_rfl) (by kernel_rfl) rfl (by kernel_rfl) rfl (fun h5 H8 => ?_)
      refine Run_b [.int .i64 s1] 3 _ (by kernel_rfl) (fun w => by kernel_rfl) ?_
      refine Run_nil (by kernel_rfl) ?_
      refine Run_keep [8, 9] (L' := [(8, .pointer (some ⟨b2, 0, none⟩)), (9, .int .i64 s1)]) (by kernel_rfl) ?_
      have hF := M.ret_some hF
      subst hF
      have H10 := H8.empty cd58
      have H11 : Hold h h5 [own cd58 none 0 0 []] := H10.pick [0] (by kernel_rfl)
      exact Run_ret2 rfl (ResV_cell (n := 2) (cs := [.int .i64 0, .slice none 0 0]) (by kernel_rfl) (fun w => by kernel_rfl) (by kernel_rfl) rfl (H8.cells (n := 2) (off := 0) 0 rfl rfl)) (ResV_tmp (v := .int .i64 s1) (by kernel_rfl)) ⟨none, 0, rfl, H11⟩
    · have hF := (M.ite_some hF).2 hb4
      refine Run_skip ?_
      refine Run_seq ?_
      refine Run_ops ?_
      refine Run_y (.agg #[.int .i64 g.Events, .slice agPlaces g.Places.length cgPlaces]) (by kernel_rfl) (Y_loadA (t := 30) (n := 2) (p := ⟨b1, 0, none⟩) (cs := [.int .i64 g.Events, .slice agPlaces g.Places.length cgPlaces]) (by kernel_rfl) (fun w => by kernel_rfl) (by kernel_rfl) rfl (H5.cells (n := 2) (off := 0) 0 rfl rfl)) ?_
      obtain ⟨x6, hx4, hF⟩ := M.bind_some hF
      refine Run_E (by kernel_rfl) ?_
      refine E_call (f := 111) (args := #[.agg #[.int .i64 g.Events, .slice agPlaces g.Places.length cgPlaces]]) (w_spec_l11Own h4 g agPlaces cgPlaces (rgPlaces.at H5.ext) _ _ hx4) (by kernel_rfl) (fun v1 h6 hp1 => ?_)
      obtain ⟨a1, c1, rfl, H12⟩ := hp1
      have H13 : Hold h h6 [own cd58 a1 x6.Places.length c1 x6.Places, box b1 30 [.int .i64 g.Events, .slice agPlaces g.Places.length cgPlaces], box b2 30 [.int .i64 0, .slice none 0 0]] := H5.call H12 rfl
      refine Run_E (by kernel_rfl) ?_
      refine E_box (ty := 30) (cs := [.int .i64 0, .slice none 0 0]) H13 (fun w => by kernel_rfl) (fun b3 h7 H14 => ?_)
      refine Run_E (by kernel_rfl) ?_
      refine E_bput (t := 30) (off := 0) (us := [.int .i64 x6.Events, .slice a1 x6.Places.length c1]) (v := .agg #[.int .i64 x6.Events, .slice a1 x6.Places.length c1]) H14 (by kernel_rfl) (by kernel_rfl) rfl (by kernel_rfl) rfl (fun h8 H15 => ?_)
      refine Run_nil (by kernel_rfl) ?_
      refine Run_keep [1, 2, 3, 8, 11] (L' := [(1, .int .i64 i), (2, .int .i64 delay), (3, .int .i64 tokens), (8, .pointer (some ⟨b2, 0, none⟩)), (11, .pointer (some ⟨b3, 0, none⟩))]) (by kernel_rfl) ?_
      refine Run_seq ?_
      refine Run_ops ?_
      obtain ⟨x7, hx5, hF⟩ := M.bind_some hF
      obtain ⟨hx5l, hx5u, hx5⟩ := M.idx_some hx5
      refine Run_b [.pointer (some ⟨b3, 1, none⟩)] 0 _ (by kernel_rfl) (fun w => by kernel_rfl) ?_
      refine Run_y (.slice a1 x6.Places.length c1) (by kernel_rfl) (Y_load1 (t := 28) (p := ⟨b3, 1, none⟩) (v := .slice a1 x6.Places.length c1) (by kernel_rfl) (fun w => by kernel_rfl) (H15.cell 0 rfl rfl)) ?_
      refine Run_b [.int .i64 i, .int .i64 delay] 2 _ (by kernel_rfl) (fun w => by kernel_rfl) ?_
      refine Run_y (.pointer (some (adr a1 (i.toNat * 4)))) (by kernel_rfl) (Y_idx (t := 28) (e := 58) (sz := 4) (a := a1) (n := x6.Places.length) (cap := c1) (kk := .i64) (i := i) (by kernel_rfl) Try.underlying28 (by kernel_rfl) ((H15.rd 1 rfl).cell hx5).1 hx5l hx5u) ?_
      refine Run_b [.pointer (some ((adr a1 (i.toNat * 4)).add 2))] 5 _ (by kernel_rfl) (fun w => by kernel_rfl) ?_
      obtain ⟨l1, hu1, hF⟩ := M.bind_some hF
      have hu1 := M.upd_some hu1
      have H17 : Hold h h8 [own cd58 a1 x6.Places.length c1 x6.Places, box b3 30 [.int .i64 x6.Events, .slice a1 x6.Places.length c1], box b1 30 [.int .i64 g.Events, .slice agPlaces g.Places.length cgPlaces], box b2 30 [.int .i64 0, .slice none 0 0]] := H15.pick [1, 0, 2, 3] (by kernel_rfl)
      refine Run_E (by kernel_rfl) ?_
      refine E_putF (C := cd58) (t := 2) (sz := 4) (f := 2) (j := i) (y := x7) (y' := (⟨x7.From, x7.To, delay, x7.Tokens⟩ : TPlace)) (v := .int .i64 delay) H17 (by kernel_rfl) rfl (by kernel_rfl) rfl rfl (fun _ vs G o => by obtain ⟨rfl, rfl⟩ := o; exact ⟨rfl, rfl⟩) (by kernel_rfl) hx5 hu1 (fun h9 H16 => ?_)
      refine Run_nil (by kernel_rfl) ?_
      refine Run_keep [1, 3, 8, 11] (L' := [(1, .int .i64 i), (3, .int .i64 tokens), (8, .pointer (some ⟨b2, 0, none⟩)), (11, .pointer (some ⟨b3, 0, none⟩))]) (by kernel_rfl) ?_
      refine Run_seq ?_
      refine Run_ops ?_
      obtain ⟨x8, hx6, hF⟩ := M.bind_some hF
      obtain ⟨hx6l, hx6u, hx6⟩ := M.idx_some hx6
      refine Run_b [.pointer (some ⟨b3, 1, none⟩)] 0 _ (by kernel_rfl) (fun w => by kernel_rfl) ?_
      refine Run_y (.slice a1 x6.Places.length c1) (by kernel_rfl) (Y_load1 (t := 28) (p := ⟨b3, 1, none⟩) (v := .slice a1 x6.Places.length c1) (by kernel_rfl) (fun w => by kernel_rfl) (H16.cell 1 rfl rfl)) ?_
      refine Run_b [.int .i64 i, .int .i64 tokens] 2 _ (by kernel_rfl) (fun w => by kernel_rfl) ?_
      refine Run_y (.pointer (some (adr a1 (i.toNat * 4)))) (by kernel_rfl) (Y_idx (t := 28) (e := 58) (sz := 4) (a := a1) (n := x6.Places.length) (cap := c1) (kk := .i64) (i := i) (by kernel_rfl) Try.underlying28 (by kernel_rfl) ((H16.rd 0 rfl).cell hx6).1 hx6l (by rw [← (H16.len 0 rfl)]; exact hx6u)) ?_
      refine Run_b [.pointer (some ((adr a1 (i.toNat * 4)).add 3))] 5 _ (by kernel_rfl) (fun w => by kernel_rfl) ?_
      obtain ⟨l2, hu2, hF⟩ := M.bind_some hF
      have hu2 := M.upd_some hu2
      refine Run_E (by kernel_rfl) ?_
      refine E_putF (C := cd58) (t := 2) (sz := 4) (f := 3) (j := i) (y := x8) (y' := (⟨x8.From, x8.To, x8.Delay, tokens⟩ : TPlace)) (v := .int .i64 tokens) H16 (by kernel_rfl) rfl (by kernel_rfl) rfl rfl (fun _ vs G o => by obtain ⟨rfl, rfl⟩ := o; exact ⟨rfl, rfl⟩) (by kernel_rfl) hx6 hu2 (fun h10 H18 => ?_)
      refine Run_nil (by kernel_rfl) ?_
      refine Run_keep [8, 11] (L' := [(8, .pointer (some ⟨b2, 0, none⟩)), (11, .pointer (some ⟨b3, 0, none⟩))]) (by kernel_rfl) ?_
      refine Run_seq ?_
      refine Run_ops ?_
      refine Run_y (.agg #[.int .i64 x6.Events, .slice a1 x6.Places.length c1]) (by kernel_rfl) (Y_loadA (t := 30) (n := 2) (p := ⟨b3, 0, none⟩) (cs := [.int .i64 x6.Events, .slice a1 x6.Places.length c1]) (by kernel_rfl) (fun w => by kernel_rfl) (by kernel_rfl) rfl (H18.cells (n := 2) (off := 0) 1 rfl rfl)) ?_
      have H20 : Hold h h10 [box b2 30 [.int .i64 0, .slice none 0 0], own cd58 a1 x6.Places.length c1 l2, box b3 30 [.int .i64 x6.Events, .slice a1 x6.Places.length c1], box b1 30 [.int .i64 g.Events, .slice agPlaces g.Places.length cgPlaces]] := H18.pick [3, 0, 1, 2] (by kernel_rfl)
      refine Run_E (by kernel_rfl) ?_
      refine E_bput (t := 30) (off := 0) (us := [.int .i64 x6.Events, .slice a1 x6.Places.length c1]) (v := .agg #[.int .i64 x6.Events, .slice a1 x6.Places.length c1]) H20 (by kernel_rfl) (by kernel_rfl) rfl (by kernel_rfl) rfl (fun h11 H19 => ?_)
      refine Run_b [.int .i64 0] 2 _ (by kernel_rfl) (fun w => by kernel_rfl) ?_
      refine Run_nil (by kernel_rfl) ?_
      refine Run_keep [8, 9] (L' := [(8, .pointer (some ⟨b2, 0, none⟩)), (9, .int .i64 0)]) (by kernel_rfl) ?_
      have hF := M.ret_some hF
      subst hF
      have H21 : Hold h h11 [own cd58 a1 x6.Places.length c1 l2, box b2 30 [.int .i64 x6.Events, .slice a1 x6.Places.length c1], box b3 30 [.int .i64 x6.Events, .slice a1 x6.Places.length c1], box b1 30 [.int .i64 g.Events, .slice agPlaces g.Places.length cgPlaces]] := H19.pick [1, 0, 2, 3] (by kernel_rfl)
      have H22 := H21.norm
      have H23 : Hold h h11 [own cd58 a1 l2.length c1 l2] := H22.pick [0] (by kernel_rfl)
      exact Run_ret2 rfl (ResV_cell (n := 2) (cs := [.int .i64 x6.Events, .slice a1 x6.Places.length c1]) (by kernel_rfl) (fun w => by kernel_rfl) (by kernel_rfl) rfl (H19.cells (n := 2) (off := 0) 0 rfl rfl)) (ResV_tmp (v := .int .i64 0) (by kernel_rfl)) ⟨a1, c1, (by simp only [(H21.len 0 rfl)]), H23⟩
  · refine Run_cond (b := x2) (by kernel_rfl) (fun hb3 => ?_) (fun hb3 => ?_)
    · have gs1 := (M.ite_some gs1).1 hb3
      refine Run_reg 1 (by kernel_rfl) (L' := [(1, .int .i64 i), (2, .int .i64 delay), (3, .int .i64 tokens), (4, .pointer (some ⟨b1, 0, none⟩)), (8, .pointer (some ⟨b2, 0, none⟩)), (10, .int .i64 2)]) ?_ ?_
      · refine QRun_b [.int .i64 2] 0 _ (by kernel_rfl) (fun w => by kernel_rfl) ?_
        exact QRun_done [1, 2, 3, 4, 8, 10] (by kernel_rfl) (by kernel_rfl)
      have H6 : Hold h h3 [box b1 30 [.int .i64 g.Events, .slice agPlaces g.Places.length cgPlaces], box b2 30 [.int .i64 0, .slice none 0 0]] := H4.pick [1, 0] (by kernel_rfl)
      have gs1 := M.ret_some gs1
      subst gs1
      exact Run_fall [1, 2, 3, 4, 8, 10] (by kernel_rfl) ⟨rfl, H6⟩
    · have gs1 := (M.ite_some gs1).2 hb3
      refine Run_skip ?_
      have H7 : Hold h h3 [box b1 30 [.int .i64 g.Events, .slice agPlaces g.Places.length cgPlaces], box b2 30 [.int .i64 0, .slice none 0 0]] := H4.pick [1, 0] (by kernel_rfl)
      have gs1 := M.ret_some gs1
      subst gs1
      exact Run_fall [1, 2, 3, 4, 8, 10] (by kernel_rfl) ⟨rfl, H7⟩

set_option maxRecDepth 100000 in
set_option maxHeartbeats 4000000 in
theorem w_spec_DrawDropPlace (h : Heap) (code : List Int) (acode : Option Addr) (ccode : Nat) (rcode : Rd cd5 h (Lt h) acode ccode code) (n : Nat) (r : TGraph × Int) (hF : spec_DrawDropPlace code n = some r) :
    Fn Try.prog 36 #[.slice acode code.length ccode] h fun v h' => ∃ (a0 : Option Addr) (c0 : Nat), v = .tuple #[.agg #[.int .i64 r.1.Events, .slice a0 r.1.Places.length c0], .int .i64 r.2] ∧ Hold h h' [own cd58 a0 r.1.Places.length c0 r.1.Places] := by
  unfold spec_DrawDropPlace at hF
  refine Fn_enter (args := [.slice acode code.length ccode]) Try.func36 rfl (by kernel_rfl) (by kernel_rfl) (fun w0 _ => ?_)
  have H0 := Hold.init h
  refine Run_seq ?_
  refine Run_ops ?_
  refine Run_E (by kernel_rfl) ?_
  refine E_box (ty := 30) (cs := [.int .i64 0, .slice none 0 0]) H0 (fun w => by kernel_rfl) (fun b1 h1 H1 => ?_)
  refine Run_b [.int .i64 0] 1 _ (by kernel_rfl) (fun w => by kernel_rfl) ?_
  refine Run_nil (by kernel_rfl) ?_
  refine Run_keep [0, 2] (L' := [(0, .slice acode code.length ccode), (2, .pointer (some ⟨b1, 0, none⟩))]) (by kernel_rfl) ?_
  refine Run_seq ?_
  refine Run_ops ?_
  refine Run_b [.slice acode code.length ccode] 0 _ (by kernel_rfl) (fun w => by kernel_rfl) ?_
  obtain ⟨x1, hx1, hF⟩ := M.bind_some hF
  refine Run_E (by kernel_rfl) ?_
  refine E_call (f := 98) (args := #[.slice acode code.length ccode]) (w_spec_l01From h1 code acode ccode (rcode.at H1.ext) _ _ hx1) (by kernel_rfl) (fun v1 h2 hp1 => ?_)
  obtain ⟨b2, a1, c1, rfl, hd1, H2⟩ := hp1
  have H3 : Hold h h2 [box b2 155 [.slice a1 x1.code.length c1, .int .i64 x1.at_, .int .i64 x1.seed], box b1 30 [.int .i64 0, .slice none 0 0]] := H1.call H2 rfl
  have r1 := rcode.alias hd1
  obtain ⟨x2, hx2, hF⟩ := M.bind_some hF
  have H4 : Hold h h2 [box b2 155 [.slice a1 x1.code.length c1, .int .i64 x1.at_, .int .i64 x1.seed], bun [box b1 30 [.int .i64 0, .slice none 0 0]]] := Hold.bundle (S := [box b2 155 [.slice a1 x1.code.length c1, .int .i64 x1.at_, .int .i64 x1.seed]]) (R := [box b1 30 [.int .i64 0, .slice none 0 0]]) H3
  refine Run_E (by kernel_rfl) ?_
  refine E_call (f := 105) (args := #[.pointer (some ⟨b2, 0, none⟩)]) (w_spec_l11DrawIndex h h2 _ x1 b2 a1 c1 r1 H4 _ _ hx2) (by kernel_rfl) (fun v2 h3 hp2 => ?_)
  obtain ⟨a2, c2, rfl, H5⟩ := hp2
  have H6 : Hold h h3 [own cd58 a2 x2.1.Places.length c2 x2.1.Places, box b2 155 [.slice a1 x1.code.length c1, .int .i64 x2.2.2.at_, .int .i64 x2.2.2.seed], box b1 30 [.int .i64 0, .slice none 0 0]] := Hold.unbundle (S := [own cd58 a2 x2.1.Places.length c2 x2.1.Places, box b2 155 [.slice a1 x1.code.length c1, .int .i64 x2.2.2.at_, .int .i64 x2.2.2.seed]]) (R := [box b1 30 [.int .i64 0, .slice none 0 0]]) H5 (Hold.tailBase (S := [box b2 155 [.slice a1 x1.code.length c1, .int .i64 x1.at_, .int .i64 x1.seed]]) (R := [box b1 30 [.int .i64 0, .slice none 0 0]]) H3)
  refine Run_b [.agg #[.int .i64 x2.1.Events, .slice a2 x2.1.Places.length c2], .int .i64 x2.2.1] 3 _ (by kernel_rfl) (fun w => by kernel_rfl) ?_
  have H8 : Hold h h3 [box b1 30 [.int .i64 0, .slice none 0 0], own cd58 a2 x2.1.Places.length c2 x2.1.Places, box b2 155 [.slice a1 x1.code.length c1, .int .i64 x2.2.2.at_, .int .i64 x2.2.2.seed]] := H6.pick [2, 0, 1] (by kernel_rfl)
  refine Run_E (by kernel_rfl) ?_
  refine E_bput (t := 30) (off := 0) (us := [.int .i64 x2.1.Events, .slice a2 x2.1.Places.length c2]) (v := .agg #[.int .i64 x2.1.Events, .slice a2 x2.1.Places.length c2]) H8 (by kernel_rfl) (by kernel_rfl) rfl (by kernel_rfl) rfl (fun h4 H7 => ?_)
  refine Run_b [.int .i64 x2.2.1] 6 _ (by kernel_rfl) (fun w => by kernel_rfl) ?_
  refine Run_nil (by kernel_rfl) ?_
  refine Run_keep [2, 3] (L' := [(2, .pointer (some ⟨b1, 0, none⟩)), (3, .int .i64 x2.2.1)]) (by kernel_rfl) ?_
  have hF := M.ret_some hF
  subst hF
  have H9 : Hold h h4 [own cd58 a2 x2.1.Places.length c2 x2.1.Places, box b1 30 [.int .i64 x2.1.Events, .slice a2 x2.1.Places.length c2], box b2 155 [.slice a1 x1.code.length c1, .int .i64 x2.2.2.at_, .int .i64 x2.2.2.seed]] := H7.pick [1, 0, 2] (by kernel_rfl)
  have H10 : Hold h h4 [own cd58 a2 x2.1.Places.length c2 x2.1.Places] := H9.pick [0] (by kernel_rfl)
  exact Run_ret2 rfl (ResV_cell (n := 2) (cs := [.int .i64 x2.1.Events, .slice a2 x2.1.Places.length c2]) (by kernel_rfl) (fun w => by kernel_rfl) (by kernel_rfl) rfl (H7.cells (n := 2) (off := 0) 0 rfl rfl)) (ResV_tmp (v := .int .i64 x2.2.1) (by kernel_rfl)) ⟨a2, c2, rfl, H10⟩

set_option maxRecDepth 100000 in
set_option maxHeartbeats 4000000 in
theorem w_slices_Delete_Place (h hE : Heap) (it : Item) (s_ : List TPlace) (as_ : Option Addr) (cs_ : Nat) (i : Int) (j : Int) (HM : Hold h hE [own cd58 as_ s_.length cs_ s_, it]) (n : Nat) (r : (List TPlace)) (hF : slices_Delete_Place s_ i j n = some r) :
    Fn Try.prog 112 #[.slice as_ s_.length cs_, .int .i64 i, .int .i64 j] hE fun v h' => ∃ (a0 : Option Addr) (c0 : Nat), v = .slice a0 r.length c0 ∧ Hold h h' [own cd58 a0 r.length c0 r, it] := by
  unfold slices_Delete_Place at hF
  refine Fn_enter (args := [.slice as_ s_.length cs_, .int .i64 i, .int .i64 j]) Try.func112 rfl (by kernel_rfl) (by kernel_rfl) (fun w0 _ => ?_)
  refine Run_seq ?_
  refine Run_reg 1 (by kernel_rfl) (L' := [(0, .slice as_ s_.length cs_), (1, .int .i64 i), (2, .int .i64 j)]) ?_ ?_
  · refine QRun_b [.slice none 0 0] 0 _ (by kernel_rfl) (fun w => by kernel_rfl) ?_
    exact QRun_done [0, 1, 2] (by kernel_rfl) (by kernel_rfl)
  refine Run_seq ?_
  obtain ⟨x1, hx1, hF⟩ := M.bind_some hF
  obtain ⟨hx1a, hx1b, hx1c, hx1d⟩ := M.sub_some hx1
  refine Run_reg 6 (by kernel_rfl) (L' := [(0, .slice as_ s_.length cs_), (1, .int .i64 i), (2, .int .i64 j)]) ?_ ?_
  · refine QRun_b [.slice as_ s_.length cs_, .int .i64 i, .int .i64 j, .slice as_ s_.length cs_, .int .i64 (s_.length : Int)] 0 _ (by kernel_rfl) (fun w => by kernel_rfl) ?_
    refine QRun_y (.slice (sliceA as_ (s_.length : Int).toNat i.toNat 4) (j.toNat - (i : Int).toNat) ((s_.length : Int).toNat - i.toNat)) (by kernel_rfl) (Y_slice3 (t := 28) (e := 58) (sz := 4) (a := as_) (n := s_.length) (cap := cs_) (kx := .i64) (ky := .i64) (kz := .i64) (x := i) (y := j) (z := (s_.length : Int)) (by kernel_rfl) Try.underlying28 (by kernel_rfl) hx1a hx1b hx1c (by have := (HM.rd 0 rfl).fits; omega)) ?_
    exact QRun_done [0, 1, 2] (by kernel_rfl) (by kernel_rfl)
  refine Run_seq ?_
  refine Run_seq ?_
  refine Run_reg 3 (by kernel_rfl) (L' := [(0, .slice as_ s_.length cs_), (1, .int .i64 i), (2, .int .i64 j), (16, .bool (i == j))]) ?_ ?_
  · refine QRun_b [.int .i64 i, .int .i64 j, .bool (i == j)] 0 _ (by kernel_rfl) (fun w => by kernel_rfl) ?_
    exact QRun_done [0, 1, 2, 16] (by kernel_rfl) (by kernel_rfl)
  refine Run_cond (b := i == j) (by kernel_rfl) (fun hb1 => ?_) (fun hb1 => ?_)
  · have hF := (M.ite_some hF).1 hb1
    refine Run_seq ?_
    refine Run_reg 2 (by kernel_rfl) (L' := [(6, .slice as_ s_.length cs_)]) ?_ ?_
    · refine QRun_b [.slice as_ s_.length cs_, .slice as_ s_.length cs_] 0 _ (by kernel_rfl) (fun w => by kernel_rfl) ?_
      exact QRun_done [6] (by kernel_rfl) (by kernel_rfl)
    have hF := M.ret_some hF
    subst hF
    exact Run_ret1 rfl (ResV_tmp (v := .slice as_ s_.length cs_) (by kernel_rfl)) ⟨as_, cs_, rfl, HM⟩
  · have hF := (M.ite_some hF).2 hb1
    refine Run_skip ?_
    refine Run_seq ?_
    refine Run_reg 3 (by kernel_rfl) (L' := [(0, .slice as_ s_.length cs_), (1, .int .i64 i), (2, .int .i64 j), (7, .int .i64 (s_.length : Int))]) ?_ ?_
    · refine QRun_b [.slice as_ s_.length cs_, .int .i64 (s_.length : Int), .int .i64 (s_.length : Int)] 0 _ (by kernel_rfl) (fun w => by kernel_rfl) ?_
      exact QRun_done [0, 1, 2, 7] (by kernel_rfl) (by kernel_rfl)
    refine Run_seq ?_
    obtain ⟨x2, hx2, hF⟩ := M.bind_some hF
    obtain ⟨hx2a, hx2b, hx2c, hx2d⟩ := M.sub_some hx2
    have hn1 : x2.length = i.toNat - (0 : Int).toNat := by rw [hx2d, List.length_take, List.length_drop]; omega
    obtain ⟨x3, hx3, hF⟩ := M.bind_some hF
    obtain ⟨hx3a, hx3b, hx3c, hx3d⟩ := M.sub_some hx3
    have hn2 : x3.length = (s_.length : Int).toNat - (j : Int).toNat := by rw [hx3d, List.length_take, List.length_drop]; omega
    refine Run_D (fun x => Hold h x [own cd58 as_ s_.length cs_ s_, it]) (fun x => Hold h x [own cd58 as_ s_.length cs_ s_, it]) mixed (by kernel_rfl) HM Hold.stable (fun x Hy => (show Hold h x [own cd58 as_ s_.length cs_ s_, it] from Hy).pick [0, 1] (by kernel_rfl)) ?_
    refine DR_b 6 [.slice as_ s_.length cs_, .int .i64 i] 0 (by kernel_rfl) (by kernel_rfl) (by kernel_rfl) (fun w => by kernel_rfl) ?_
    refine DR_y 5 (i := 2) (.slice (sliceA as_ cs_ 0 4) (i.toNat - (0 : Int).toNat) (cs_ - 0)) (by kernel_rfl) (by kernel_rfl) (by kernel_rfl) (fun hx Hx => (YE.of (Y_slice (t := 28) (e := 58) (sz := 4) (a := as_) (n := s_.length) (cap := cs_) (lo := none) (hi := (some (.i64, i))) (x := 0) (y := i) (by kernel_rfl) Try.underlying28 (by kernel_rfl) (Hx.rd 0 rfl).fits rfl rfl hx2a hx2b hx2c))) ?_
    refine DR_b 3 [.slice as_ s_.length cs_, .int .i64 j] 3 (by kernel_rfl) (by kernel_rfl) (by kernel_rfl) (fun w => by kernel_rfl) ?_
    refine DR_y 2 (i := 5) (.slice (sliceA as_ cs_ j.toNat 4) ((s_.length : Int).toNat - (j : Int).toNat) (cs_ - j.toNat)) (by kernel_rfl) (by kernel_rfl) (by kernel_rfl) (fun hx Hx => (YE.of (Y_slice (t := 28) (e := 58) (sz := 4) (a := as_) (n := s_.length) (cap := cs_) (lo := (some (.i64, j))) (hi := none) (x := j) (y := (s_.length : Int)) (by kernel_rfl) Try.underlying28 (by kernel_rfl) (Hx.rd 0 rfl).fits rfl rfl hx3a hx3b hx3c))) ?_
    refine DR_tail (i := 6) (by kernel_rfl) (by kernel_rfl) (by kernel_rfl) (fun h1 H1 => ?_)
    have H2 : Hold h h1 [own cd58 as_ s_.length cs_ s_, it] := H1
    obtain ⟨l1, hl1, hF⟩ := M.bind_some hF
    have hl1 := M.app_some hl1
    refine Run_E (by kernel_rfl) ?_
    refine E_del2 (C := cd58) (t := 28) (ty := 28) (n := s_.length) (m := (s_.length : Int).toNat - (j : Int).toNat) (c2 := cs_ - j.toNat) (i0 := i.toNat - (0 : Int).toNat) (i := i.toNat) (j := j.toNat) (sz := 4) H2 cd58_flat cd58_ti Try.underlying28 rfl (by kernel_rfl) (by simp) (by omega) (by omega) (by omega) (by rw [hx2d]; simp) (by rw [hx3d]; exact List.take_of_length_le (by rw [List.length_drop]; omega)) ⟨Nat.le_refl _, hl1.2⟩ (fun h2 H3 => ?_)
    refine Run_b [.slice as_ l1.length cs_] 7 _ (by kernel_rfl) (fun w => by kernel_rfl) ?_
    refine Run_nil (by kernel_rfl) ?_
    refine Run_keep [0, 7] (L' := [(0, .slice as_ l1.length cs_), (7, .int .i64 (s_.length : Int))]) (by kernel_rfl) ?_
    refine Run_seq ?_
    refine Run_ops ?_
    refine Run_b [.slice as_ l1.length cs_, .slice as_ l1.length cs_, .int .i64 (l1.length : Int), .int .i64 (s_.length : Int)] 0 _ (by kernel_rfl) (fun w => by kernel_rfl) ?_
    refine Run_y (.slice (sliceA as_ cs_ (l1.length : Int).toNat 4) ((s_.length : Int).toNat - ((l1.length : Int) : Int).toNat) (cs_ - (l1.length : Int).toNat)) (by kernel_rfl) (Y_sliceC (t := 28) (e := 58) (sz := 4) (a := as_) (n := l1.length) (cap := cs_) (kx := .i64) (ky := .i64) (x := (l1.length : Int)) (y := (s_.length : Int)) (by kernel_rfl) Try.underlying28 (by kernel_rfl) (by omega) (by have := H3.len 0 rfl; have := (H3.rd 0 rfl).fits; simp only [List.length_append, List.length_drop] at *; omega) (by have := H3.len 0 rfl; have := (H3.rd 0 rfl).fits; simp only [List.length_append, List.length_drop] at *; omega)) ?_
    have hl2 := H3.len 0 rfl
    refine Run_E (by kernel_rfl) ?_
    refine E_clear (C := cd58) (t := 28) (ty := 0) (n := s_.length) (m := (s_.length : Int).toNat - ((l1.length : Int) : Int).toNat) (c2 := cs_ - (l1.length : Int).toNat) (k := (l1.length : Int).toNat) (sz := 4) (⟨0, 0, 0, 0⟩ : TPlace) H3 cd58_flat cd58_ti (by kernel_rfl) Try.underlying28 rfl cd58_zero (by kernel_rfl) (by simp only [List.length_append, List.length_drop] at *; omega) (by simp only [List.length_append, List.length_drop] at *; omega) (fun h3 H4 => ?_)
    obtain ⟨H5, _⟩ := H4.cut l1.length
    have H6 : Hold h h3 [own cd58 as_ l1.length cs_ l1, it] := by rw [List.take_append_of_le_length (by simp), List.take_take, List.take_append_of_le_length (by simp), List.take_of_length_le (by simp)] at H5; exact H5
    refine Run_nil (by kernel_rfl) ?_
    refine Run_keep [0] (L' := [(0, .slice as_ l1.length cs_)]) (by kernel_rfl) ?_
    refine Run_seq ?_
    refine Run_reg 2 (by kernel_rfl) (L' := [(6, .slice as_ l1.length cs_)]) ?_ ?_
    · refine QRun_b [.slice as_ l1.length cs_, .slice as_ l1.length cs_] 0 _ (by kernel_rfl) (fun w => by kernel_rfl) ?_
      exact QRun_done [6] (by kernel_rfl) (by kernel_rfl)
    have hF := M.ret_some hF
    subst hF
    exact Run_ret1 rfl (ResV_tmp (v := .slice as_ l1.length cs_) (by kernel_rfl)) ⟨as_, cs_, rfl, H6⟩

set_option maxRecDepth 100000 in
set_option maxHeartbeats 4000000 in
theorem w_impl_DropPlace (h : Heap) (g : TGraph) (agPlaces : Option Addr) (cgPlaces : Nat) (rgPlaces : Rd cd58 h (Lt h) agPlaces cgPlaces g.Places) (i : Int) (n : Nat) (r : TGraph × Int) (hF : impl_DropPlace g i n = some r) :
    Fn Try.prog 37 #[.agg #[.int .i64 g.Events, .slice agPlaces g.Places.length cgPlaces], .int .i64 i] h fun v h' => ∃ (a0 : Option Addr) (c0 : Nat), v = .tuple #[.agg #[.int .i64 r.1.Events, .slice a0 r.1.Places.length c0], .int .i64 r.2] ∧ Hold h h' [own cd58 a0 r.1.Places.length c0 r.1.Places] := by
  unfold impl_DropPlace at hF
  refine Fn_enter (args := [.agg #[.int .i64 g.Events, .slice agPlaces g.Places.length cgPlaces], .int .i64 i]) Try.func37 rfl (by kernel_rfl) (by kernel_rfl) (fun w0 _ => ?_)
  have H0 := Hold.init h
  refine Run_seq ?_
  refine Run_ops ?_
  refine Run_E (by kernel_rfl) ?_
  refine E_box (ty := 30) (cs := [.int .i64 g.Events, .slice agPlaces g.Places.length cgPlaces]) H0 (fun w => by kernel_rfl) (fun b1 h1 H1 => ?_)
  refine Run_E (by kernel_rfl) ?_
  refine E_box (ty := 30) (cs := [.int .i64 0, .slice none 0 0]) H1 (fun w => by kernel_rfl) (fun b2 h2 H2 => ?_)
  refine Run_b [.int .i64 0] 2 _ (by kernel_rfl) (fun w => by kernel_rfl) ?_
  refine Run_nil (by kernel_rfl) ?_
  refine Run_keep [1, 2, 4] (L' := [(1, .int .i64 i), (2, .pointer (some ⟨b1, 0, none⟩)), (4, .pointer (some ⟨b2, 0, none⟩))]) (by kernel_rfl) ?_
  refine Run_seq ?_
  refine Run_seq ?_
  obtain ⟨x1, hx1, hF⟩ := M.bind_some hF
  refine Run_regC (j := 3) (C := fun x => Hold h x [box b2 30 [.int .i64 0, .slice none 0 0], box b1 30 [.int .i64 g.Events, .slice agPlaces g.Places.length cgPlaces]]) (by kernel_rfl) H2 (L' := [(1, .int .i64 i), (2, .pointer (some ⟨b1, 0, none⟩)), (4, .pointer (some ⟨b2, 0, none⟩)), (9, .bool (!x1))]) ?_ (fun h3 H3 => ?_)
  · refine QRun_y (.agg #[.int .i64 g.Events, .slice agPlaces g.Places.length cgPlaces]) (by kernel_rfl) (Y_cls fun hx Hx => (Y_loadA (t := 30) (n := 2) (p := ⟨b1, 0, none⟩) (cs := [.int .i64 g.Events, .slice agPlaces g.Places.length cgPlaces]) (by kernel_rfl) (fun w => by kernel_rfl) (by kernel_rfl) rfl (Hx.cells (n := 2) (off := 0) 1 rfl rfl))) ?_
    refine QRun_y (.bool x1) (by kernel_rfl) (Y_call (f := 74) (args := #[.agg #[.int .i64 g.Events, .slice agPlaces g.Places.length cgPlaces]]) (v := .bool x1) (by kernel_rfl) fun hx Hx => (w_impl_IsEventGraph hx g agPlaces cgPlaces (rgPlaces.at Hx.ext) _ _ hx1).mono fun _ _ ⟨e, H'⟩ => ⟨e, Hx.call H' rfl⟩) ?_
    refine QRun_b [.bool (!x1)] 2 _ (by kernel_rfl) (fun w => by kernel_rfl) ?_
    exact QRun_done [1, 2, 4, 9] (by kernel_rfl) (by kernel_rfl)
  have H4 : Hold h h3 [box b2 30 [.int .i64 0, .slice none 0 0], box b1 30 [.int .i64 g.Events, .slice agPlaces g.Places.length cgPlaces]] := H3
  refine Run_cond (b := !x1) (by kernel_rfl) (fun hb1 => ?_) (fun hb1 => ?_)
  · have hF := (M.ite_some hF).1 hb1
    refine Run_seq ?_
    refine Run_ops ?_
    refine Run_b [.agg #[.int .i64 0, .slice none 0 0]] 0 _ (by kernel_rfl) (fun w => by kernel_rfl) ?_
    refine Run_E (by kernel_rfl) ?_
    refine E_bput (t := 30) (off := 0) (us := [.int .i64 0, .slice none 0 0]) (v := .agg #[.int .i64 0, .slice none 0 0]) H4 (by kernel_rfl) (by kernel_rfl) rfl (by kernel_rfl) rfl (fun h4 H5 => ?_)
    refine Run_b [.int .i64 1] 2 _ (by kernel_rfl) (fun w => by kernel_rfl) ?_
    refine Run_nil (by kernel_rfl) ?_
    refine Run_keep [4, 5] (L' := [(4, .pointer (some ⟨b2, 0, none⟩)), (5, .int .i64 1)]) (by kernel_rfl) ?_
    have hF := M.ret_some hF
    subst hF
    have H6 := H5.empty cd58
    have H7 : Hold h h4 [own cd58 none 0 0 []] := H6.pick [0] (by kernel_rfl)
    exact Run_ret2 rfl (ResV_cell (n := 2) (cs := [.int .i64 0, .slice none 0 0]) (by kernel_rfl) (fun w => by kernel_rfl) (by kernel_rfl) rfl (H5.cells (n := 2) (off := 0) 0 rfl rfl)) (ResV_tmp (v := .int .i64 1) (by kernel_rfl)) ⟨none, 0, rfl, H7⟩
  · have hF := (M.ite_some hF).2 hb1
    refine Run_skip ?_
    refine Run_seq ?_
    refine Run_seq ?_
    obtain ⟨x2, hx2, hF⟩ := M.bind_some hF
    refine Run_reg 7 (by kernel_rfl) (L' := [(1, .int .i64 i), (2, .pointer (some ⟨b1, 0, none⟩)), (4, .pointer (some ⟨b2, 0, none⟩)), (17, .bool (!x2))]) ?_ ?_
    · refine QRun_b [.int .i64 i, .pointer (some ⟨b1, 1, none⟩)] 0 _ (by kernel_rfl) (fun w => by kernel_rfl) ?_
      refine QRun_y (.slice agPlaces g.Places.length cgPlaces) (by kernel_rfl) (Y_load1 (t := 28) (p := ⟨b1, 1, none⟩) (v := .slice agPlaces g.Places.length cgPlaces) (by kernel_rfl) (fun w => by kernel_rfl) (H4.cell 1 rfl rfl)) ?_
      refine QRun_b [.int .i64 (g.Places.length : Int), .int .i64 (w64 ((g.Places.length : Int) - 1))] 3 _ (by kernel_rfl) (fun w => by kernel_rfl) ?_
      refine QRun_y (.bool x2) (by kernel_rfl) (Y_callq (f := 108) (args := #[.int .i64 i, .int .i64 0, .int .i64 (w64 ((g.Places.length : Int) - 1))]) (v := .bool x2) (by kernel_rfl) (w_impl_within h3 i 0 (w64 ((g.Places.length : Int) - 1)) _ _ hx2)) ?_
      refine QRun_b [.bool (!x2)] 6 _ (by kernel_rfl) (fun w => by kernel_rfl) ?_
      exact QRun_done [1, 2, 4, 17] (by kernel_rfl) (by kernel_rfl)
    refine Run_cond (b := !x2) (by kernel_rfl) (fun hb2 => ?_) (fun hb2 => ?_)
    · have hF := (M.ite_some hF).1 hb2
      refine Run_seq ?_
      refine Run_ops ?_
      refine Run_b [.agg #[.int .i64 0, .slice none 0 0]] 0 _ (by kernel_rfl) (fun w => by kernel_rfl) ?_
      refine Run_E (by kernel_rfl) ?_
      refine E_bput (t := 30) (off := 0) (us := [.int .i64 0, .slice none 0 0]) (v := .agg #[.int .i64 0, .slice none 0 0]) H4 (by kernel_rfl) (by kernel_rfl) rfl (by kernel_rfl) rfl (fun h5 H8 => ?_)
      refine Run_b [.int .i64 2] 2 _ (by kernel_rfl) (fun w => by kernel_rfl) ?_
      refine Run_nil (by kernel_rfl) ?_
      refine Run_keep [4, 5] (L' := [(4, .pointer (some ⟨b2, 0, none⟩)), (5, .int .i64 2)]) (by kernel_rfl) ?_
      have hF := M.ret_some hF
      subst hF
      have H9 := H8.empty cd58
      have H10 : Hold h h5 [own cd58 none 0 0 []] := H9.pick [0] (by kernel_rfl)
      exact Run_ret2 rfl (ResV_cell (n := 2) (cs := [.int .i64 0, .slice none 0 0]) (by kernel_rfl) (fun w => by kernel_rfl) (by kernel_rfl) rfl (H8.cells (n := 2) (off := 0) 0 rfl rfl)) (ResV_tmp (v := .int .i64 2) (by kernel_rfl)) ⟨none, 0, rfl, H10⟩
    · have hF := (M.ite_some hF).2 hb2
      refine Run_skip ?_
      refine Run_seq ?_
      refine Run_ops ?_
      refine Run_y (.agg #[.int .i64 g.Events, .slice agPlaces g.Places.length cgPlaces]) (by kernel_rfl) (Y_loadA (t := 30) (n := 2) (p := ⟨b1, 0, none⟩) (cs := [.int .i64 g.Events, .slice agPlaces g.Places.length cgPlaces]) (by kernel_rfl) (fun w => by kernel_rfl) (by kernel_rfl) rfl (H4.cells (n := 2) (off := 0) 1 rfl rfl)) ?_
      obtain ⟨x3, hx3, hF⟩ := M.bind_some hF
      refine Run_E (by kernel_rfl) ?_
      refine E_call (f := 109) (args := #[.agg #[.int .i64 g.Events, .slice agPlaces g.Places.length cgPlaces]]) (w_impl_cloneGraph h3 g agPlaces cgPlaces (rgPlaces.at H4.ext) _ _ hx3) (by kernel_rfl) (fun v1 h6 hp1 => ?_)
      obtain ⟨a1, c1, rfl, H11⟩ := hp1
      have H12 : Hold h h6 [own cd58 a1 x3.Places.length c1 x3.Places, box b2 30 [.int .i64 0, .slice none 0 0], box b1 30 [.int .i64 g.Events, .slice agPlaces g.Places.length cgPlaces]] := H4.call H11 rfl
      refine Run_E (by kernel_rfl) ?_
      refine E_box (ty := 30) (cs := [.int .i64 0, .slice none 0 0]) H12 (fun w => by kernel_rfl) (fun b3 h7 H13 => ?_)
      refine Run_E (by kernel_rfl) ?_
      refine E_bput (t := 30) (off := 0) (us := [.int .i64 x3.Events, .slice a1 x3.Places.length c1]) (v := .agg #[.int .i64 x3.Events, .slice a1 x3.Places.length c1]) H13 (by kernel_rfl) (by kernel_rfl) rfl (by kernel_rfl) rfl (fun h8 H14 => ?_)
      refine Run_nil (by kernel_rfl) ?_
      refine Run_keep [1, 4, 6] (L' := [(1, .int .i64 i), (4, .pointer (some ⟨b2, 0, none⟩)), (6, .pointer (some ⟨b3, 0, none⟩))]) (by kernel_rfl) ?_
      refine Run_seq ?_
      refine Run_ops ?_
      refine Run_b [.pointer (some ⟨b3, 1, none⟩)] 0 _ (by kernel_rfl) (fun w => by kernel_rfl) ?_
      refine Run_y (.slice a1 x3.Places.length c1) (by kernel_rfl) (Y_load1 (t := 28) (p := ⟨b3, 1, none⟩) (v := .slice a1 x3.Places.length c1) (by kernel_rfl) (fun w => by kernel_rfl) (H14.cell 0 rfl rfl)) ?_
      refine Run_b [.int .i64 i, .int .i64 i, .int .i64 (w64 (i + 1))] 2 _ (by kernel_rfl) (fun w => by kernel_rfl) ?_
      obtain ⟨x4, hx4, hF⟩ := M.bind_some hF
      have H15 : Hold h h8 [own cd58 a1 x3.Places.length c1 x3.Places, box b3 30 [.int .i64 x3.Events, .slice a1 x3.Places.length c1], box b2 30 [.int .i64 0, .slice none 0 0], box b1 30 [.int .i64 g.Events, .slice agPlaces g.Places.length cgPlaces]] := H14.pick [1, 0, 2, 3] (by kernel_rfl)
      have H16 : Hold h h8 [own cd58 a1 x3.Places.length c1 x3.Places, bun [box b3 30 [.int .i64 x3.Events, .slice a1 x3.Places.length c1], box b2 30 [.int .i64 0, .slice none 0 0], box b1 30 [.int .i64 g.Events, .slice agPlaces g.Places.length cgPlaces]]] := Hold.bundle (S := [own cd58 a1 x3.Places.length c1 x3.Places]) (R := [box b3 30 [.int .i64 x3.Events, .slice a1 x3.Places.length c1], box b2 30 [.int .i64 0, .slice none 0 0], box b1 30 [.int .i64 g.Events, .slice agPlaces g.Places.length cgPlaces]]) H15
      refine Run_E (by kernel_rfl) ?_
      refine E_call (f := 112) (args := #[.slice a1 x3.Places.length c1, .int .i64 i, .int .i64 (w64 (i + 1))]) (w_slices_Delete_Place h h8 _ x3.Places a1 c1 i (w64 (i + 1)) H16 _ _ hx4) (by kernel_rfl) (fun v2 h9 hp2 => ?_)
      obtain ⟨a2, c2, rfl, H17⟩ := hp2
      have H18 : Hold h h9 [own cd58 a2 x4.length c2 x4, box b3 30 [.int .i64 x3.Events, .slice a1 x3.Places.length c1], box b2 30 [.int .i64 0, .slice none 0 0], box b1 30 [.int .i64 g.Events, .slice agPlaces g.Places.length cgPlaces]] := Hold.unbundle (S := [own cd58 a2 x4.length c2 x4]) (R := [box b3 30 [.int .i64 x3.Events, .slice a1 x3.Places.length c1], box b2 30 [.int .i64 0, .slice none 0 0], box b1 30 [.int .i64 g.Events, .slice agPlaces g.Places.length cgPlaces]]) H17 (Hold.tailBase (S := [own cd58 a1 x3.Places.length c1 x3.Places]) (R := [box b3 30 [.int .i64 x3.Events, .slice a1 x3.Places.length c1], box b2 30 [.int .i64 0, .slice none 0 0], box b1 30 [.int .i64 g.Events, .slice agPlaces g.Places.length cgPlaces]]) H15)
      refine Run_b [.pointer (some ⟨b3, 1, none⟩)] 6 _ (by kernel_rfl) (fun w => by kernel_rfl) ?_
      have H20 : Hold h h9 [box b3 30 [.int .i64 x3.Events, .slice a1 x3.Places.length c1], own cd58 a2 x4.length c2 x4, box b2 30 [.int .i64 0, .slice none 0 0], box b1 30 [.int .i64 g.Events, .slice agPlaces g.Places.length cgPlaces]] := H18.pick [1, 0, 2, 3] (by kernel_rfl)
      refine Run_E (by kernel_rfl) ?_
      refine E_bput (t := 28) (off := 1) (us := [.int .i64 x3.Events, .slice a2 x4.length c2]) (v := .slice a2 x4.length c2) H20 (by kernel_rfl) (by kernel_rfl) rfl (by kernel_rfl) rfl (fun h10 H19 => ?_)
      refine Run_nil (by kernel_rfl) ?_
      refine Run_keep [4, 6] (L' := [(4, .pointer (some ⟨b2, 0, none⟩)), (6, .pointer (some ⟨b3, 0, none⟩))]) (by kernel_rfl) ?_
      refine Run_seq ?_
      refine Run_ops ?_
      refine Run_y (.agg #[.int .i64 x3.Events, .slice a2 x4.length c2]) (by kernel_rfl) (Y_loadA (t := 30) (n := 2) (p := ⟨b3, 0, none⟩) (cs := [.int .i64 x3.Events, .slice a2 x4.length c2]) (by kernel_rfl) (fun w => by kernel_rfl) (by kernel_rfl) rfl (H19.cells (n := 2) (off := 0) 0 rfl rfl)) ?_
      have H22 : Hold h h10 [box b2 30 [.int .i64 0, .slice none 0 0], box b3 30 [.int .i64 x3.Events, .slice a2 x4.length c2], own cd58 a2 x4.length c2 x4, box b1 30 [.int .i64 g.Events, .slice agPlaces g.Places.length cgPlaces]] := H19.pick [2, 0, 1, 3] (by kernel_rfl)
      refine Run_E (by kernel_rfl) ?_
      refine E_bput (t := 30) (off := 0) (us := [.int .i64 x3.Events, .slice a2 x4.length c2]) (v := .agg #[.int .i64 x3.Events, .slice a2 x4.length c2]) H22 (by kernel_rfl) (by kernel_rfl) rfl (by kernel_rfl) rfl (fun h11 H21 => ?_)
      refine Run_b [.int .i64 0] 2 _ (by kernel_rfl) (fun w => by kernel_rfl) ?_
      refine Run_nil (by kernel_rfl) ?_
      refine Run_keep [4, 5] (L' := [(4, .pointer (some ⟨b2, 0, none⟩)), (5, .int .i64 0)]) (by kernel_rfl) ?_
      have hF := M.ret_some hF
      subst hF
      have H23 : Hold h h11 [own cd58 a2 x4.length c2 x4, box b2 30 [.int .i64 x3.Events, .slice a2 x4.length c2], box b3 30 [.int .i64 x3.Events, .slice a2 x4.length c2], box b1 30 [.int .i64 g.Events, .slice agPlaces g.Places.length cgPlaces]] := H21.pick [2, 0, 1, 3] (by kernel_rfl)
      have H24 : Hold h h11 [own cd58 a2 x4.length c2 x4] := H23.pick [0] (by kernel_rfl)
      exact Run_ret2 rfl (ResV_cell (n := 2) (cs := [.int .i64 x3.Events, .slice a2 x4.length c2]) (by kernel_rfl) (fun w => by kernel_rfl) (by kernel_rfl) rfl (H21.cells (n := 2) (off := 0) 0 rfl rfl)) (ResV_tmp (v := .int .i64 0) (by kernel_rfl)) ⟨a2, c2, rfl, H24⟩

set_option maxRecDepth 100000 in
set_option maxHeartbeats 4000000 in
theorem w_spec_DropPlace (h : Heap) (g : TGraph) (agPlaces : Option Addr) (cgPlaces : Nat) (rgPlaces : Rd cd58 h (Lt h) agPlaces cgPlaces g.Places) (i : Int) (n : Nat) (r : TGraph × Int) (hF : spec_DropPlace g i n = some r) :
    Fn Try.prog 38 #[.agg #[.int .i64 g.Events, .slice agPlaces g.Places.length cgPlaces], .int .i64 i] h fun v h' => ∃ (a0 : Option Addr) (c0 : Nat), v = .tuple #[.agg #[.int .i64 r.1.Events, .slice a0 r.1.Places.length c0], .int .i64 r.2] ∧ Hold h h' [own cd58 a0 r.1.Places.length c0 r.1.Places] := by
  unfold spec_DropPlace at hF
  refine Fn_enter (args := [.agg #[.int .i64 g.Events, .slice agPlaces g.Places.length cgPlaces], .int .i64 i]) Try.func38 rfl (by kernel_rfl) (by kernel_rfl) (fun w0 _ => ?_)
  have H0 := Hold.init h
  refine Run_seq ?_
  refine Run_ops ?_
  refine Run_E (by kernel_rfl) ?_
  refine E_box (ty := 30) (cs := [.int .i64 g.Events, .slice agPlaces g.Places.length cgPlaces]) H0 (fun w => by kernel_rfl) (fun b1 h1 H1 => ?_)
  refine Run_E (by kernel_rfl) ?_
  refine E_box (ty := 30) (cs := [.int .i64 0, .slice none 0 0]) H1 (fun w => by kernel_rfl) (fun b2 h2 H2 => ?_)
  refine Run_b [.int .i64 0] 2 _ (by kernel_rfl) (fun w => by kernel_rfl) ?_
  refine Run_nil (by kernel_rfl) ?_
  refine Run_keep [1, 2, 4] (L' := [(1, .int .i64 i), (2, .pointer (some ⟨b1, 0, none⟩)), (4, .pointer (some ⟨b2, 0, none⟩))]) (by kernel_rfl) ?_
  refine Run_seq ?_
  obtain ⟨x1, hx1, hF⟩ := M.bind_some hF
  refine Run_regC (j := 4) (C := fun x => Hold h x [box b2 30 [.int .i64 0, .slice none 0 0], box b1 30 [.int .i64 g.Events, .slice agPlaces g.Places.length cgPlaces]]) (by kernel_rfl) H2 (L' := [(1, .int .i64 i), (2, .pointer (some ⟨b1, 0, none⟩)), (4, .pointer (some ⟨b2, 0, none⟩)), (6, .int .i64 x1)]) ?_ (fun h3 H3 => ?_)
  · refine QRun_y (.agg #[.int .i64 g.Events, .slice agPlaces g.Places.length cgPlaces]) (by kernel_rfl) (Y_cls fun hx Hx => (Y_loadA (t := 30) (n := 2) (p := ⟨b1, 0, none⟩) (cs := [.int .i64 g.Events, .slice agPlaces g.Places.length cgPlaces]) (by kernel_rfl) (fun w => by kernel_rfl) (by kernel_rfl) rfl (Hx.cells (n := 2) (off := 0) 1 rfl rfl))) ?_
    refine QRun_b [.int .i64 i] 1 _ (by kernel_rfl) (fun w => by kernel_rfl) ?_
    refine QRun_y (.int .i64 x1) (by kernel_rfl) (Y_call (f := 110) (args := #[.agg #[.int .i64 g.Events, .slice agPlaces g.Places.length cgPlaces], .int .i64 i]) (v := .int .i64 x1) (by kernel_rfl) fun hx Hx => (w_spec_l11Index hx g agPlaces cgPlaces (rgPlaces.at Hx.ext) i _ _ hx1).mono fun _ _ ⟨e, H'⟩ => ⟨e, Hx.call H' rfl⟩) ?_
    refine QRun_b [.int .i64 x1] 3 _ (by kernel_rfl) (fun w => by kernel_rfl) ?_
    exact QRun_done [1, 2, 4, 6] (by kernel_rfl) (by kernel_rfl)
  have H4 : Hold h h3 [box b2 30 [.int .i64 0, .slice none 0 0], box b1 30 [.int .i64 g.Events, .slice agPlaces g.Places.length cgPlaces]] := H3
  refine Run_seq ?_
  refine Run_seq ?_
  refine Run_reg 2 (by kernel_rfl) (L' := [(1, .int .i64 i), (2, .pointer (some ⟨b1, 0, none⟩)), (4, .pointer (some ⟨b2, 0, none⟩)), (6, .int .i64 x1), (11, .bool (x1 != 0))]) ?_ ?_
  · refine QRun_b [.int .i64 x1, .bool (x1 != 0)] 0 _ (by kernel_rfl) (fun w => by kernel_rfl) ?_
    exact QRun_done [1, 2, 4, 6, 11] (by kernel_rfl) (by kernel_rfl)
  refine Run_cond (b := x1 != 0) (by kernel_rfl) (fun hb1 => ?_) (fun hb1 => ?_)
  · have hF := (M.ite_some hF).1 hb1
    refine Run_seq ?_
    refine Run_ops ?_
    refine Run_b [.agg #[.int .i64 0, .slice none 0 0], .int .i64 x1] 0 _ (by kernel_rfl) (fun w => by kernel_rfl) ?_
    refine Run_E (by kernel_rfl) ?_
    refine E_bput (t := 30) (off := 0) (us := [.int .i64 0, .slice none 0 0]) (v := .agg #[.int .i64 0, .slice none 0 0]) H4 (by kernel_rfl) (by kernel_rfl) rfl (by kernel_rfl) rfl (fun h4 H5 => ?_)
    refine Run_b [.int .i64 x1] 3 _ (by kernel_rfl) (fun w => by kernel_rfl) ?_
    refine Run_nil (by kernel_rfl) ?_
    refine Run_keep [4, 5] (L' := [(4, .pointer (some ⟨b2, 0, none⟩)), (5, .int .i64 x1)]) (by kernel_rfl) ?_
    have hF := M.ret_some hF
    subst hF
    have H6 := H5.empty cd58
    have H7 : Hold h h4 [own cd58 none 0 0 []] := H6.pick [0] (by kernel_rfl)
    exact Run_ret2 rfl (ResV_cell (n := 2) (cs := [.int .i64 0, .slice none 0 0]) (by kernel_rfl) (fun w => by kernel_rfl) (by kernel_rfl) rfl (H5.cells (n := 2) (off := 0) 0 rfl rfl)) (ResV_tmp (v := .int .i64 x1) (by kernel_rfl)) ⟨none, 0, rfl, H7⟩
  · have hF := (M.ite_some hF).2 hb1
    refine Run_skip ?_
    refine Run_seq ?_
    obtain ⟨x2, hx2, hF⟩ := M.bind_some hF
    obtain ⟨hx2a, hx2b, hx2c, hx2d⟩ := M.sub_some hx2
    have hn1 : x2.length = i.toNat - (0 : Int).toNat := by rw [hx2d, List.length_take, List.length_drop]; omega
    obtain ⟨x3, hx3, hF⟩ := M.bind_some hF
    obtain ⟨hx3a, hx3b, hx3c, hx3d⟩ := M.sub_some hx3
    have hn2 : x3.length = (g.Places.length : Int).toNat - (w64 (i + 1) : Int).toNat := by rw [hx3d, List.length_take, List.length_drop]; omega
    refine Run_D (fun x => Hold h x [box b2 30 [.int .i64 0, .slice none 0 0], box b1 30 [.int .i64 g.Events, .slice agPlaces g.Places.length cgPlaces]]) (fun x => Hold h x [box b2 30 [.int .i64 0, .slice none 0 0], box b1 30 [.int .i64 g.Events, .slice agPlaces g.Places.length cgPlaces]]) mixed (by kernel_rfl) H4 Hold.stable (fun x Hy => (show Hold h x [box b2 30 [.int .i64 0, .slice none 0 0], box b1 30 [.int .i64 g.Events, .slice agPlaces g.Places.length cgPlaces]] from Hy).pick [0, 1] (by kernel_rfl)) ?_
    refine DR_b 16 [.pointer (some ⟨b1, 0, none⟩)] 0 (by kernel_rfl) (by kernel_rfl) (by kernel_rfl) (fun w => by kernel_rfl) ?_
    refine DR_y 15 (i := 1) (.int .i64 g.Events) (by kernel_rfl) (by kernel_rfl) (by kernel_rfl) (fun hx Hx => (YE.of (Y_load1 (t := 2) (p := ⟨b1, 0, none⟩) (v := .int .i64 g.Events) (by kernel_rfl) (fun w => by kernel_rfl) (Hx.cell 1 rfl rfl)))) ?_
    refine DR_b 14 [.pointer (some ⟨b1, 1, none⟩)] 3 (by kernel_rfl) (by kernel_rfl) (by kernel_rfl) (fun w => by kernel_rfl) ?_
    refine DR_y 13 (i := 4) (.slice agPlaces g.Places.length cgPlaces) (by kernel_rfl) (by kernel_rfl) (by kernel_rfl) (fun hx Hx => (YE.of (Y_load1 (t := 28) (p := ⟨b1, 1, none⟩) (v := .slice agPlaces g.Places.length cgPlaces) (by kernel_rfl) (fun w => by kernel_rfl) (Hx.cell 1 rfl rfl)))) ?_
    refine DR_b 12 [.int .i64 i] 5 (by kernel_rfl) (by kernel_rfl) (by kernel_rfl) (fun w => by kernel_rfl) ?_
    refine DR_y 11 (i := 6) (.slice (sliceA agPlaces cgPlaces 0 4) (i.toNat - (0 : Int).toNat) (cgPlaces - 0)) (by kernel_rfl) (by kernel_rfl) (by kernel_rfl) (fun hx Hx => (YE.of (Y_slice (t := 28) (e := 58) (sz := 4) (a := agPlaces) (n := g.Places.length) (cap := cgPlaces) (lo := none) (hi := (some (.i64, i))) (x := 0) (y := i) (by kernel_rfl) Try.underlying28 (by kernel_rfl) (rgPlaces.at Hx.ext).fits rfl rfl hx2a hx2b hx2c))) ?_
    refine DR_b 10 [.pointer (some ⟨b1, 1, none⟩)] 8 (by kernel_rfl) (by kernel_rfl) (by kernel_rfl) (fun w => by kernel_rfl) ?_
    refine DR_y 9 (i := 9) (.slice agPlaces g.Places.length cgPlaces) (by kernel_rfl) (by kernel_rfl) (by kernel_rfl) (fun hx Hx => (YE.of (Y_load1 (t := 28) (p := ⟨b1, 1, none⟩) (v := .slice agPlaces g.Places.length cgPlaces) (by kernel_rfl) (fun w => by kernel_rfl) (Hx.cell 1 rfl rfl)))) ?_
    refine DR_b 7 [.int .i64 i, .int .i64 (w64 (i + 1))] 10 (by kernel_rfl) (by kernel_rfl) (by kernel_rfl) (fun w => by kernel_rfl) ?_
    refine DR_y 6 (i := 12) (.slice (sliceA agPlaces cgPlaces (w64 (i + 1)).toNat 4) ((g.Places.length : Int).toNat - (w64 (i + 1) : Int).toNat) (cgPlaces - (w64 (i + 1)).toNat)) (by kernel_rfl) (by kernel_rfl) (by kernel_rfl) (fun hx Hx => (YE.of (Y_slice (t := 28) (e := 58) (sz := 4) (a := agPlaces) (n := g.Places.length) (cap := cgPlaces) (lo := (some (.i64, w64 (i + 1)))) (hi := none) (x := w64 (i + 1)) (y := (g.Places.length : Int)) (by kernel_rfl) Try.underlying28 (by kernel_rfl) (rgPlaces.at Hx.ext).fits rfl rfl hx3a hx3b hx3c))) ?_
    refine DR_e 5 2 (by kernel_rfl) (by kernel_rfl) (by kernel_rfl) (fun h5 H8 => ?_)
    have H9 : Hold h h5 [box b2 30 [.int .i64 0, .slice none 0 0], box b1 30 [.int .i64 g.Events, .slice agPlaces g.Places.length cgPlaces]] := H8
    refine E_lit (C := cd58) (n := 0) (l := ([] : List TPlace)) (cs := []) H9 (fun w => by kernel_rfl) (Enc.nil _ _) rfl (by decide) (fun a1 h6 H10 => ?_)
    refine ⟨fun x => Hold h x [box b2 30 [.int .i64 0, .slice none 0 0], box b1 30 [.int .i64 g.Events, .slice agPlaces g.Places.length cgPlaces]], fun x => Hold h x [own cd58 a1 0 0 ([] : List TPlace), box b2 30 [.int .i64 0, .slice none 0 0], box b1 30 [.int .i64 g.Events, .slice agPlaces g.Places.length cgPlaces]], H10, Hold.stable, fun x Hy => (show Hold h x [own cd58 a1 0 0 ([] : List TPlace), box b2 30 [.int .i64 0, .slice none 0 0], box b1 30 [.int .i64 g.Events, .slice agPlaces g.Places.length cgPlaces]] from Hy).pick [1, 2] (by kernel_rfl), fun x Hy => (show Hold h x [box b2 30 [.int .i64 0, .slice none 0 0], box b1 30 [.int .i64 g.Events, .slice agPlaces g.Places.length cgPlaces]] from Hy).pick [0, 1] (by kernel_rfl), ?_⟩
    refine DR_e 4 7 (by kernel_rfl) (by kernel_rfl) (by kernel_rfl) (fun h7 H11 => ?_)
    have H12 : Hold h h7 [own cd58 a1 0 0 ([] : List TPlace), box b2 30 [.int .i64 0, .slice none 0 0], box b1 30 [.int .i64 g.Events, .slice agPlaces g.Places.length cgPlaces]] := H11
    obtain ⟨l1, hl1, hF⟩ := M.bind_some hF
    have hl1 := M.app_some hl1
    refine E_appR (C := cd58) (t := 28) (ty := 28) (n := 0) (m := i.toNat - (0 : Int).toNat) H12 cd58_copies (show Rd _ _ _ _ _ x2 from hx2d ▸ ((rgPlaces.at H12.ext)).sub (by omega) (by omega)) hn1 cd58_ti rfl Try.underlying28 (by decide) (by kernel_rfl) hl1 (fun a2 c1 h8 H13 => ?_)
    refine ⟨fun x => Hold h x [box b2 30 [.int .i64 0, .slice none 0 0], box b1 30 [.int .i64 g.Events, .slice agPlaces g.Places.length cgPlaces]], fun x => Hold h x [own cd58 a2 l1.length c1 l1, box b2 30 [.int .i64 0, .slice none 0 0], box b1 30 [.int .i64 g.Events, .slice agPlaces g.Places.length cgPlaces]], H13, Hold.stable, fun x Hy => (show Hold h x [own cd58 a2 l1.length c1 l1, box b2 30 [.int .i64 0, .slice none 0 0], box b1 30 [.int .i64 g.Events, .slice agPlaces g.Places.length cgPlaces]] from Hy).pick [1, 2] (by kernel_rfl), fun x Hy => (show Hold h x [box b2 30 [.int .i64 0, .slice none 0 0], box b1 30 [.int .i64 g.Events, .slice agPlaces g.Places.length cgPlaces]] from Hy).pick [0, 1] (by kernel_rfl), ?_⟩
    refine DR_e 3 13 (by kernel_rfl) (by kernel_rfl) (by kernel_rfl) (fun h9 H14 => ?_)
    have H15 : Hold h h9 [own cd58 a2 l1.length c1 l1, box b2 30 [.int .i64 0, .slice none 0 0], box b1 30 [.int .i64 g.Events, .slice agPlaces g.Places.length cgPlaces]] := H14
    obtain ⟨l2, hl2, hF⟩ := M.bind_some hF
    have hl2 := M.app_some hl2
    refine E_appR (C := cd58) (t := 28) (ty := 28) (n := l1.length) (m := (g.Places.length : Int).toNat - (w64 (i + 1) : Int).toNat) H15 cd58_copies (show Rd _ _ _ _ _ x3 from hx3d ▸ ((rgPlaces.at H15.ext)).sub (by omega) (by omega)) hn2 cd58_ti rfl Try.underlying28 (by decide) (by kernel_rfl) hl2 (fun a3 c2 h10 H16 => ?_)
    refine ⟨fun x => Hold h x [box b2 30 [.int .i64 0, .slice none 0 0], box b1 30 [.int .i64 g.Events, .slice agPlaces g.Places.length cgPlaces], own cd58 a3 l2.length c2 l2], fun x => Hold h x [own cd58 a3 l2.length c2 l2, box b2 30 [.int .i64 0, .slice none 0 0], box b1 30 [.int .i64 g.Events, .slice agPlaces g.Places.length cgPlaces]], H16, Hold.stable, fun x Hy => (show Hold h x [own cd58 a3 l2.length c2 l2, box b2 30 [.int .i64 0, .slice none 0 0], box b1 30 [.int .i64 g.Events, .slice agPlaces g.Places.length cgPlaces]] from Hy).pick [1, 2, 0] (by kernel_rfl), fun x Hy => (show Hold h x [box b2 30 [.int .i64 0, .slice none 0 0], box b1 30 [.int .i64 g.Events, .slice agPlaces g.Places.length cgPlaces], own cd58 a3 l2.length c2 l2] from Hy).pick [0, 1] (by kernel_rfl), ?_⟩
    refine DR_b 2 [.agg #[.int .i64 g.Events, .slice a3 l2.length c2]] 14 (by kernel_rfl) (by kernel_rfl) (by kernel_rfl) (fun w => by kernel_rfl) ?_
    refine DR_tail (i := 15) (by kernel_rfl) (by kernel_rfl) (by kernel_rfl) (fun h11 H17 => ?_)
    have H18 : Hold h h11 [own cd58 a3 l2.length c2 l2, box b2 30 [.int .i64 0, .slice none 0 0], box b1 30 [.int .i64 g.Events, .slice agPlaces g.Places.length cgPlaces]] := H17
    have H20 : Hold h h11 [box b2 30 [.int .i64 0, .slice none 0 0], own cd58 a3 l2.length c2 l2, box b1 30 [.int .i64 g.Events, .slice agPlaces g.Places.length cgPlaces]] := H18.pick [1, 0, 2] (by kernel_rfl)
    refine Run_E (by kernel_rfl) ?_
    refine E_bput (t := 30) (off := 0) (us := [.int .i64 g.Events, .slice a3 l2.length c2]) (v := .agg #[.int .i64 g.Events, .slice a3 l2.length c2]) H20 (by kernel_rfl) (by kernel_rfl) rfl (by kernel_rfl) rfl (fun h12 H19 => ?_)
    refine Run_b [.int .i64 0] 16 _ (by kernel_rfl) (fun w => by kernel_rfl) ?_
    refine Run_nil (by kernel_rfl) ?_
    refine Run_keep [4, 5] (L' := [(4, .pointer (some ⟨b2, 0, none⟩)), (5, .int .i64 0)]) (by kernel_rfl) ?_
    have hF := M.ret_some hF
    subst hF
    have H21 : Hold h h12 [own cd58 a3 l2.length c2 l2, box b2 30 [.int .i64 g.Events, .slice a3 l2.length c2], box b1 30 [.int .i64 g.Events, .slice agPlaces g.Places.length cgPlaces]] := H19.pick [1, 0, 2] (by kernel_rfl)
    have H22 : Hold h h12 [own cd58 a3 l2.length c2 l2] := H21.pick [0] (by kernel_rfl)
    exact Run_ret2 rfl (ResV_cell (n := 2) (cs := [.int .i64 g.Events, .slice a3 l2.length c2]) (by kernel_rfl) (fun w => by kernel_rfl) (by kernel_rfl) rfl (H19.cells (n := 2) (off := 0) 0 rfl rfl)) (ResV_tmp (v := .int .i64 0) (by kernel_rfl)) ⟨a3, c2, rfl, H22⟩

set_option maxRecDepth 100000 in
set_option maxHeartbeats 4000000 in
theorem w_laws_likeInts (h : Heap) (a_ : List Int) {Sa_ : Bs} (aa_ : Option Addr) (ca_ : Nat) (ra_ : Rd cd2 h Sa_ aa_ ca_ a_) (b : List Int) {Sb : Bs} (ab : Option Addr) (cb : Nat) (rb : Rd cd2 h Sb ab cb b) (n : Nat) (r : Bool) (hF : laws_likeInts a_ b n = some r) :
    Fn Try.prog 39 #[.slice aa_ a_.length ca_, .slice ab b.length cb] h fun v h' => v = .bool r ∧ h' = h := by
  unfold laws_likeInts at hF
  refine Fn_enter (args := [.slice aa_ a_.length ca_, .slice ab b.length cb]) Try.func39 rfl (by kernel_rfl) (by kernel_rfl) (fun w0 _ => ?_)
  refine Run_seq ?_
  refine Run_reg 1 (by kernel_rfl) (L' := [(0, .slice aa_ a_.length ca_), (1, .slice ab b.length cb)]) ?_ ?_
  · refine QRun_b [.bool false] 0 _ (by kernel_rfl) (fun w => by kernel_rfl) ?_
    exact QRun_done [0, 1] (by kernel_rfl) (by kernel_rfl)
  refine Run_seq ?_
  refine Run_seq ?_
  refine Run_reg 5 (by kernel_rfl) (L' := [(0, .slice aa_ a_.length ca_), (1, .slice ab b.length cb), (10, .bool ((a_.length : Int) != (b.length : Int)))]) ?_ ?_
  · refine QRun_b [.slice aa_ a_.length ca_, .int .i64 (a_.length : Int), .slice ab b.length cb, .int .i64 (b.length : Int), .bool ((a_.length : Int) != (b.length : Int))] 0 _ (by kernel_rfl) (fun w => by kernel_rfl) ?_
    exact QRun_done [0, 1, 10] (by kernel_rfl) (by kernel_rfl)
  refine Run_cond (b := (a_.length : Int) != (b.length : Int)) (by kernel_rfl) (fun hb1 => ?_) (fun hb1 => ?_)
  · have hF := (M.ite_some hF).1 hb1
    refine Run_seq ?_
    refine Run_reg 1 (by kernel_rfl) (L' := [(4, .bool false)]) ?_ ?_
    · refine QRun_b [.bool false] 0 _ (by kernel_rfl) (fun w => by kernel_rfl) ?_
      exact QRun_done [4] (by kernel_rfl) (by kernel_rfl)
    have hF := M.ret_some hF
    subst hF
    exact Run_ret1 rfl (ResV_tmp (v := .bool false) (by kernel_rfl)) ⟨rfl, rfl⟩
  · have hF := (M.ite_some hF).2 hb1
    refine Run_skip ?_
    refine Run_seq ?_
    refine Run_seq ?_
    refine Run_reg 1 (by kernel_rfl) (L' := [(0, .slice aa_ a_.length ca_), (1, .slice ab b.length cb), (5, .int .i64 0)]) ?_ ?_
    · refine QRun_b [.int .i64 0] 0 _ (by kernel_rfl) (fun w => by kernel_rfl) ?_
      exact QRun_done [0, 1, 5] (by kernel_rfl) (by kernel_rfl)
    obtain ⟨x1, gx1, hF⟩ := M.bind_some hF
    obtain ⟨hloy1, hhiy1, gx1⟩ := M.for_start gx1
    refine Run_join (fun L' h' => ∃ (s2 : Unit), x1 = .inl s2 ∧ L' = [] ∧ h = h') ?_ ?_
    · rintro _ _ ⟨s2, es2, rfl, rfl⟩
      have hF := M.cont_inl' hF es2
      refine Run_seq ?_
      refine Run_reg 1 (by kernel_rfl) (L' := [(4, .bool true)]) ?_ ?_
      · refine QRun_b [.bool true] 0 _ (by kernel_rfl) (fun w => by kernel_rfl) ?_
        exact QRun_done [4] (by kernel_rfl) (by kernel_rfl)
      have hF := M.ret_some hF
      subst hF
      exact Run_ret1 rfl (ResV_tmp (v := .bool true) (by kernel_rfl)) ⟨rfl, rfl⟩
    · refine Run_block ?_
      refine Run_keep [0, 1, 5] (L' := [(0, .slice aa_ a_.length ca_), (1, .slice ab b.length cb), (5, .int .i64 0)]) (by kernel_rfl) ?_
      refine Run_loop (fun m L' h' => ∃ (i1 : Int) (s1 : Unit), 0 ≤ i1 ∧ M.forN (a_.length : Int) _ _ n m i1 s1 = some x1 ∧ L' = [(0, .slice aa_ a_.length ca_), (1, .slice ab b.length cb), (5, .int .i64 i1)] ∧ h = h') ((a_.length : Int) - 0 : Int).toNat ⟨0, (), Int.le_refl _, gx1, rfl, rfl⟩ ?_
      rintro my1 _ _ ⟨i1, s1, hloy1', gx1, rfl, rfl⟩
      refine Run_seq ?_
      refine Run_seq ?_
      refine Run_reg 4 (by kernel_rfl) (L' := [(0, .slice aa_ a_.length ca_), (1, .slice ab b.length cb), (5, .int .i64 i1), (14, .bool (decide (i1 < (a_.length : Int))))]) ?_ ?_
      · refine QRun_b [.int .i64 i1, .slice aa_ a_.length ca_, .int .i64 (a_.length : Int), .bool (decide (i1 < (a_.length : Int)))] 0 _ (by kernel_rfl) (fun w => by kernel_rfl) ?_
        exact QRun_done [0, 1, 5, 14] (by kernel_rfl) (by kernel_rfl)
      refine Run_cond (b := decide (i1 < (a_.length : Int))) (by kernel_rfl) (fun hb2 => ?_) (fun hb2 => ?_)
      · obtain ⟨my1, y1, rfl, hB1, hgoy1, houty1⟩ := M.for_go gx1 hb2
        have hlty1 := of_decide_eq_true hb2
        refine Run_skip ?_
        refine Run_seq ?_
        refine Run_block ?_
        refine Run_seq ?_
        obtain ⟨x2, hx1, hB1⟩ := M.bind_some hB1
        obtain ⟨hx1l, hx1u, hx1⟩ := M.idx_some hx1
        obtain ⟨x3, hx2, hB1⟩ := M.bind_some hB1
        obtain ⟨hx2l, hx2u, hx2⟩ := M.idx_some hx2
        refine Run_draw 9 mixed (by kernel_rfl) (by kernel_rfl) (L' := [(0, .slice aa_ a_.length ca_), (1, .slice ab b.length cb), (5, .int .i64 i1), (25, .bool (x2 != x3))]) ?_ ?_
        · refine QRun_b [.slice aa_ a_.length ca_, .int .i64 i1] 0 _ (by kernel_rfl) (fun w => by kernel_rfl) ?_
          refine QRun_y (.pointer (some (adr aa_ (i1.toNat * 1)))) (by kernel_rfl) (Y_idx (t := 39) (e := 2) (sz := 1) (a := aa_) (n := a_.length) (cap := ca_) (kk := .i64) (i := i1) (by kernel_rfl) Try.underlying39 (by kernel_rfl) (ra_.cell hx1).1 hx1l hx1u) ?_
          refine QRun_y (.int .i64 x2) (by kernel_rfl) (Y_load1 (t := 2) (p := adr aa_ (i1.toNat * 1)) (v := .int .i64 x2) (by kernel_rfl) (fun w => by kernel_rfl) (cd2_cell ra_ hx1)) ?_
          refine QRun_b [.slice ab b.length cb, .int .i64 i1] 4 _ (by kernel_rfl) (fun w => by kernel_rfl) ?_
          refine QRun_y (.pointer (some (adr ab (i1.toNat * 1)))) (by kernel_rfl) (Y_idx (t := 39) (e := 2) (sz := 1) (a := ab) (n := b.length) (cap := cb) (kk := .i64) (i := i1) (by kernel_rfl) Try.underlying39 (by kernel_rfl) (rb.cell hx2).1 hx2l hx2u) ?_
          refine QRun_y (.int .i64 x3) (by kernel_rfl) (Y_load1 (t := 2) (p := adr ab (i1.toNat * 1)) (v := .int .i64 x3) (by kernel_rfl) (fun w => by kernel_rfl) (cd2_cell rb hx2)) ?_
          refine QRun_b [.bool (x2 != x3)] 8 _ (by kernel_rfl) (fun w => by kernel_rfl) ?_
          exact QRun_done [0, 1, 5, 25] (by kernel_rfl) (by kernel_rfl)
        refine Run_cond (b := x2 != x3) (by kernel_rfl) (fun hb3 => ?_) (fun hb3 => ?_)
        · have hB1 := (M.ite_some hB1).1 hb3
          refine Run_seq ?_
          refine Run_reg 1 (by kernel_rfl) (L' := [(4, .bool false)]) ?_ ?_
          · refine QRun_b [.bool false] 0 _ (by kernel_rfl) (fun w => by kernel_rfl) ?_
            exact QRun_done [4] (by kernel_rfl) (by kernel_rfl)
          have hB1 := M.ret_some hB1
          have gx1 := houty1 _ hB1.symm
          have hF := M.cont_inr' hF gx1
          have hF := M.ret_some hF
          subst hF
          exact Run_ret1 rfl (ResV_tmp (v := .bool false) (by kernel_rfl)) ⟨rfl, rfl⟩
        · have hB1 := (M.ite_some hB1).2 hb3
          refine Run_skip ?_
          refine Run_blk ?_
          refine Run_reg 3 (by kernel_rfl) (L' := [(0, .slice aa_ a_.length ca_), (1, .slice ab b.length cb), (5, .int .i64 (i1 + 1))]) ?_ ?_
          · refine QRun_b [.int .i64 i1] 0 _ (by kernel_rfl) (fun w => by kernel_rfl) ?_
            refine QRun_y (.int .i64 (i1 + 1)) (by kernel_rfl) (Y_eq (v := .int .i64 (w64 (i1 + 1))) (Y_pure (fun w => by kernel_rfl)) (by rw [w64_eq _ (by omega)])) ?_
            refine QRun_b [.int .i64 (i1 + 1)] 2 _ (by kernel_rfl) (fun w => by kernel_rfl) ?_
            exact QRun_done [0, 1, 5] (by kernel_rfl) (by kernel_rfl)
          have hB1 := M.ret_some hB1
          have gx1 := hgoy1 _ hB1.symm
          exact Run_again [0, 1, 5] (by kernel_rfl) my1 (Nat.lt_succ_self _) ⟨i1 + 1, (), by omega, gx1, rfl, rfl⟩
      · have gx1 := M.for_end gx1 hb2
        subst gx1
        refine Run_exit (k' := _) rfl ?_
        exact Run_fall [] (by kernel_rfl) ⟨(), rfl, rfl, rfl⟩

set_option maxRecDepth 100000 in
set_option maxHeartbeats 4000000 in
theorem w_laws_likeGraphs9 (h : Heap) (a_ : TGraph) (aa_Places : Option Addr) (ca_Places : Nat) (ra_Places : Rd cd58 h (Lt h) aa_Places ca_Places a_.Places) (b : TGraph) (abPlaces : Option Addr) (cbPlaces : Nat) (rbPlaces : Rd cd58 h (Lt h) abPlaces cbPlaces b.Places) (n : Nat) (r : Bool) (hF : laws_likeGraphs9 a_ b n = some r) :
    Fn Try.prog 40 #[.agg #[.int .i64 a_.Events, .slice aa_Places a_.Places.length ca_Places], .agg #[.int .i64 b.Events, .slice abPlaces b.Places.length cbPlaces]] h fun v h' => v = .bool r ∧ Hold h h' [] := by
  unfold laws_likeGraphs9 at hF
  refine Fn_enter (args := [.agg #[.int .i64 a_.Events, .slice aa_Places a_.Places.length ca_Places], .agg #[.int .i64 b.Events, .slice abPlaces b.Places.length cbPlaces]]) Try.func40 rfl (by kernel_rfl) (by kernel_rfl) (fun w0 _ => ?_)
  have H0 := Hold.init h
  refine Run_seq ?_
  refine Run_ops ?_
  refine Run_E (by kernel_rfl) ?_
  refine E_box (ty := 30) (cs := [.int .i64 a_.Events, .slice aa_Places a_.Places.length ca_Places]) H0 (fun w => by kernel_rfl) (fun b1 h1 H1 => ?_)
  refine Run_E (by kernel_rfl) ?_
  refine E_box (ty := 30) (cs := [.int .i64 b.Events, .slice abPlaces b.Places.length cbPlaces]) H1 (fun w => by kernel_rfl) (fun b2 h2 H2 => ?_)
  refine Run_b [.bool false] 2 _ (by kernel_rfl) (fun w => by kernel_rfl) ?_
  refine Run_nil (by kernel_rfl) ?_
  refine Run_keep [2, 3] (L' := [(2, .pointer (some ⟨b1, 0, none⟩)), (3, .pointer (some ⟨b2, 0, none⟩))]) (by kernel_rfl) ?_
  refine Run_seq ?_
  refine Run_seq ?_
  refine Run_reg 14 (by kernel_rfl) (L' := [(2, .pointer (some ⟨b1, 0, none⟩)), (3, .pointer (some ⟨b2, 0, none⟩)), (19, .bool ((a_.Events != b.Events) || ((a_.Places.length : Int) != (b.Places.length : Int))))]) ?_ ?_
  · refine QRun_b [.pointer (some ⟨b1, 0, none⟩)] 0 _ (by kernel_rfl) (fun w => by kernel_rfl) ?_
    refine QRun_y (.int .i64 a_.Events) (by kernel_rfl) (Y_load1 (t := 2) (p := ⟨b1, 0, none⟩) (v := .int .i64 a_.Events) (by kernel_rfl) (fun w => by kernel_rfl) (H2.cell 1 rfl rfl)) ?_
    refine QRun_b [.pointer (some ⟨b2, 0, none⟩)] 2 _ (by kernel_rfl) (fun w => by kernel_rfl) ?_
    refine QRun_y (.int .i64 b.Events) (by kernel_rfl) (Y_load1 (t := 2) (p := ⟨b2, 0, none⟩) (v := .int .i64 b.Events) (by kernel_rfl) (fun w => by kernel_rfl) (H2.cell 0 rfl rfl)) ?_
    refine QRun_b [.bool (a_.Events != b.Events)] 4 _ (by kernel_rfl) (fun w => by kernel_rfl) ?_
    refine QRun_seq 14 [(2, .pointer (some ⟨b1, 0, none⟩)), (3, .pointer (some ⟨b2, 0, none⟩)), (19, .bool ((a_.Events != b.Events) || ((a_.Places.length : Int) != (b.Places.length : Int))))] ?_ ?_
    · rcases Bool.eq_false_or_eq_true (a_.Events != b.Events) with hb1 | hb1
      · refine QRun_bool (a_.Events != b.Events) true (by kernel_rfl) (fun w => by kernel_rfl) hb1 ?_
        refine QRun_n (by kernel_rfl) ?_
        refine QRun_n (by kernel_rfl) ?_
        refine QRun_n (by kernel_rfl) ?_
        refine QRun_n (by kernel_rfl) ?_
        refine QRun_n (by kernel_rfl) ?_
        refine QRun_n (by kernel_rfl) ?_
        refine QRun_n (by kernel_rfl) ?_
        refine QRun_bool true ((a_.Events != b.Events) || ((a_.Places.length : Int) != (b.Places.length : Int))) (by kernel_rfl) (fun w => by kernel_rfl) (by rw [hb1]; rfl) ?_
        exact QRun_done [2, 3, 19] (by kernel_rfl) (by kernel_rfl)
      · refine QRun_bool (a_.Events != b.Events) false (by kernel_rfl) (fun w => by kernel_rfl) hb1 ?_
        refine QRun_b [.pointer (some ⟨b1, 1, none⟩)] 6 _ (by kernel_rfl) (fun w => by kernel_rfl) ?_
        refine QRun_y (.slice aa_Places a_.Places.length ca_Places) (by kernel_rfl) (Y_load1 (t := 28) (p := ⟨b1, 1, none⟩) (v := .slice aa_Places a_.Places.length ca_Places) (by kernel_rfl) (fun w => by kernel_rfl) (H2.cell 1 rfl rfl)) ?_
        refine QRun_b [.int .i64 (a_.Places.length : Int), .pointer (some ⟨b2, 1, none⟩)] 8 _ (by kernel_rfl) (fun w => by kernel_rfl) ?_
        refine QRun_y (.slice abPlaces b.Places.length cbPlaces) (by kernel_rfl) (Y_load1 (t := 28) (p := ⟨b2, 1, none⟩) (v := .slice abPlaces b.Places.length cbPlaces) (by kernel_rfl) (fun w => by kernel_rfl) (H2.cell 0 rfl rfl)) ?_
        refine QRun_b [.int .i64 (b.Places.length : Int), .bool ((a_.Places.length : Int) != (b.Places.length : Int))] 11 _ (by kernel_rfl) (fun w => by kernel_rfl) ?_
        refine QRun_bool ((a_.Places.length : Int) != (b.Places.length : Int)) ((a_.Events != b.Events) || ((a_.Places.length : Int) != (b.Places.length : Int))) (by kernel_rfl) (fun w => by kernel_rfl) (by rw [hb1]; rfl) ?_
        exact QRun_done [2, 3, 19] (by kernel_rfl) (by kernel_rfl)
    exact QRun_done [2, 3, 19] (by kernel_rfl) (by kernel_rfl)
  refine Run_cond (b := (a_.Events != b.Events) || ((a_.Places.length : Int) != (b.Places.length : Int))) (by kernel_rfl) (fun hb2 => ?_) (fun hb2 => ?_)
  · have hF := (M.ite_some hF).1 hb2
    refine Run_seq ?_
    refine Run_reg 1 (by kernel_rfl) (L' := [(4, .bool false)]) ?_ ?_
    · refine QRun_b [.bool false] 0 _ (by kernel_rfl) (fun w => by kernel_rfl) ?_
      exact QRun_done [4] (by kernel_rfl) (by kernel_rfl)
    have hF := M.ret_some hF
    subst hF
    have H3 : Hold h h2 [] := H2.pick [] (by kernel_rfl)
    exact Run_ret1 rfl (ResV_tmp (v := .bool false) (by kernel_rfl)) ⟨rfl, H3⟩
  · have hF := (M.ite_some hF).2 hb2
    refine Run_skip ?_
    refine Run_seq ?_
    refine Run_seq ?_
    refine Run_reg 1 (by kernel_rfl) (L' := [(2, .pointer (some ⟨b1, 0, none⟩)), (3, .pointer (some ⟨b2, 0, none⟩)), (5, .int .i64 0)]) ?_ ?_
    · refine QRun_b [.int .i64 0] 0 _ (by kernel_rfl) (fun w => by kernel_rfl) ?_
      exact QRun_done [2, 3, 5] (by kernel_rfl) (by kernel_rfl)
    obtain ⟨x2, gx2, hF⟩ := M.bind_some hF
    refine Run_join (fun L' h' => ∃ (s2 : Int), x2 = .inl s2 ∧ L' = [] ∧ Hold h h' []) ?_ ?_
    · rintro _ h4 ⟨s2, es2, rfl, H5⟩
      have hF := M.cont_inl' hF es2
      refine Run_seq ?_
      refine Run_reg 1 (by kernel_rfl) (L' := [(4, .bool true)]) ?_ ?_
      · refine QRun_b [.bool true] 0 _ (by kernel_rfl) (fun w => by kernel_rfl) ?_
        exact QRun_done [4] (by kernel_rfl) (by kernel_rfl)
      have hF := M.ret_some hF
      subst hF
      exact Run_ret1 rfl (ResV_tmp (v := .bool true) (by kernel_rfl)) ⟨rfl, H5⟩
    · refine Run_block ?_
      have H8 : Hold h h2 [box b1 30 [.int .i64 a_.Events, .slice aa_Places a_.Places.length ca_Places], box b2 30 [.int .i64 b.Events, .slice abPlaces b.Places.length cbPlaces]] := H2.pick [1, 0] (by kernel_rfl)
      refine Run_keep [2, 3, 5] (L' := [(2, .pointer (some ⟨b1, 0, none⟩)), (3, .pointer (some ⟨b2, 0, none⟩)), (5, .int .i64 0)]) (by kernel_rfl) ?_
      refine Run_loop (fun m L' h' => ∃ (s1 : Int), M.loopN _ n m s1 = some x2 ∧ L' = [(2, .pointer (some ⟨b1, 0, none⟩)), (3, .pointer (some ⟨b2, 0, none⟩)), (5, .int .i64 s1)] ∧ Hold h h' [box b1 30 [.int .i64 a_.Events, .slice aa_Places a_.Places.length ca_Places], box b2 30 [.int .i64 b.Events, .slice abPlaces b.Places.length cbPlaces]]) n ⟨0, gx2, rfl, H8⟩ ?_
      rintro my1 _ h3 ⟨s1, gx2, rfl, H4⟩
      obtain ⟨my1, y1, rfl, hB1, hgoy1, houty1⟩ := M.loop_some gx2
      refine Run_seq ?_
      refine Run_seq ?_
      refine Run_reg 5 (by kernel_rfl) (L' := [(2, .pointer (some ⟨b1, 0, none⟩)), (3, .pointer (some ⟨b2, 0, none⟩)), (5, .int .i64 s1), (24, .bool (decide (s1 < (a_.Places.length : Int))))]) ?_ ?_
      · refine QRun_b [.int .i64 s1, .pointer (some ⟨b1, 1, none⟩)] 0 _ (by kernel_rfl) (fun w => by kernel_rfl) ?_
        refine QRun_y (.slice aa_Places a_.Places.length ca_Places) (by kernel_rfl) (Y_load1 (t := 28) (p := ⟨b1, 1, none⟩) (v := .slice aa_Places a_.Places.length ca_Places) (by kernel_rfl) (fun w => by kernel_rfl) (H4.cell 0 rfl rfl)) ?_
        refine QRun_b [.int .i64 (a_.Places.length : Int), .bool (decide (s1 < (a_.Places.length : Int)))] 3 _ (by kernel_rfl) (fun w => by kernel_rfl) ?_
        exact QRun_done [2, 3, 5, 24] (by kernel_rfl) (by kernel_rfl)
      refine Run_cond (b := decide (s1 < (a_.Places.length : Int))) (by kernel_rfl) (fun hb3 => ?_) (fun hb3 => ?_)
      · have hB1 := (M.ite_some hB1).1 hb3
        refine Run_skip ?_
        refine Run_seq ?_
        refine Run_block ?_
        refine Run_seq ?_
        obtain ⟨x3, hx1, hB1⟩ := M.bind_some hB1
        obtain ⟨hx1l, hx1u, hx1⟩ := M.idx_some hx1
        obtain ⟨x4, hx2, hB1⟩ := M.bind_some hB1
        obtain ⟨hx2l, hx2u, hx2⟩ := M.idx_some hx2
        refine Run_draw 11 mixed (by kernel_rfl) (by kernel_rfl) (L' := [(2, .pointer (some ⟨b1, 0, none⟩)), (3, .pointer (some ⟨b2, 0, none⟩)), (5, .int .i64 s1), (37, .bool (!((x3.From == x4.From) && (x3.To == x4.To) && (x3.Delay == x4.Delay) && (x3.Tokens == x4.Tokens))))]) ?_ ?_
        · refine QRun_b [.pointer (some ⟨b1, 1, none⟩)] 0 _ (by kernel_rfl) (fun w => by kernel_rfl) ?_
          refine QRun_y (.slice aa_Places a_.Places.length ca_Places) (by kernel_rfl) (Y_load1 (t := 28) (p := ⟨b1, 1, none⟩) (v := .slice aa_Places a_.Places.length ca_Places) (by kernel_rfl) (fun w => by kernel_rfl) (H4.cell 0 rfl rfl)) ?_
          refine QRun_b [.int .i64 s1] 2 _ (by kernel_rfl) (fun w => by kernel_rfl) ?_
          refine QRun_y (.pointer (some (adr aa_Places (s1.toNat * 4)))) (by kernel_rfl) (Y_idx (t := 28) (e := 58) (sz := 4) (a := aa_Places) (n := a_.Places.length) (cap := ca_Places) (kk := .i64) (i := s1) (by kernel_rfl) Try.underlying28 (by kernel_rfl) ((ra_Places.at H4.ext).cell hx1).1 hx1l hx1u) ?_
          refine QRun_y (.agg #[.int .i64 x3.From, .int .i64 x3.To, .int .i64 x3.Delay, .int .i64 x3.Tokens]) (by kernel_rfl) (Y_loadA (t := 58) (n := 4) (p := adr aa_Places (s1.toNat * 4)) (cs := [.int .i64 x3.From, .int .i64 x3.To, .int .i64 x3.Delay, .int .i64 x3.Tokens]) (by kernel_rfl) (fun w => by kernel_rfl) (by kernel_rfl) rfl (cd58_elem (ra_Places.at H4.ext) hx1)) ?_
          refine QRun_b [.pointer (some ⟨b2, 1, none⟩)] 5 _ (by kernel_rfl) (fun w => by kernel_rfl) ?_
          refine QRun_y (.slice abPlaces b.Places.length cbPlaces) (by kernel_rfl) (Y_load1 (t := 28) (p := ⟨b2, 1, none⟩) (v := .slice abPlaces b.Places.length cbPlaces) (by kernel_rfl) (fun w => by kernel_rfl) (H4.cell 1 rfl rfl)) ?_
          refine QRun_b [.int .i64 s1] 7 _ (by kernel_rfl) (fun w => by kernel_rfl) ?_
          refine QRun_y (.pointer (some (adr abPlaces (s1.toNat * 4)))) (by kernel_rfl) (Y_idx (t := 28) (e := 58) (sz := 4) (a := abPlaces) (n := b.Places.length) (cap := cbPlaces) (kk := .i64) (i := s1) (by kernel_rfl) Try.underlying28 (by kernel_rfl) ((rbPlaces.at H4.ext).cell hx2).1 hx2l hx2u) ?_
          refine QRun_y (.agg #[.int .i64 x4.From, .int .i64 x4.To, .int .i64 x4.Delay, .int .i64 x4.Tokens]) (by kernel_rfl) (Y_loadA (t := 58) (n := 4) (p := adr abPlaces (s1.toNat * 4)) (cs := [.int .i64 x4.From, .int .i64 x4.To, .int .i64 x4.Delay, .int .i64 x4.Tokens]) (by kernel_rfl) (fun w => by kernel_rfl) (by kernel_rfl) rfl (cd58_elem (rbPlaces.at H4.ext) hx2)) ?_
          refine QRun_y (.bool (!((x3.From == x4.From) && (x3.To == x4.To) && (x3.Delay == x4.Delay) && (x3.Tokens == x4.Tokens)))) (by kernel_rfl) (Y_sne (t := 58) (ox := .tmp 31) (oy := .tmp 36) (xs := #[.int .i64 x3.From, .int .i64 x3.To, .int .i64 x3.Delay, .int .i64 x3.Tokens]) (ys := #[.int .i64 x4.From, .int .i64 x4.To, .int .i64 x4.Delay, .int .i64 x4.Tokens]) (by kernel_rfl) (by kernel_rfl) (fun w => eqS58 9998 x3.From x3.To x3.Delay x3.Tokens x4.From x4.To x4.Delay x4.Tokens w)) ?_
          exact QRun_done [2, 3, 5, 37] (by kernel_rfl) (by kernel_rfl)
        refine Run_cond (b := !((x3.From == x4.From) && (x3.To == x4.To) && (x3.Delay == x4.Delay) && (x3.Tokens == x4.Tokens))) (by kernel_rfl) (fun hb4 => ?_) (fun hb4 => ?_)
        · have hB1 := (M.ite_some hB1).1 hb4
          refine Run_seq ?_
          refine Run_reg 1 (by kernel_rfl) (L' := [(4, .bool false)]) ?_ ?_
          · refine QRun_b [.bool false] 0 _ (by kernel_rfl) (fun w => by kernel_rfl) ?_
            exact QRun_done [4] (by kernel_rfl) (by kernel_rfl)
          have hB1 := M.ret_some hB1
          have gx2 := houty1 _ hB1.symm
          have hF := M.cont_inr' hF gx2
          have hF := M.ret_some hF
          subst hF
          have H6 : Hold h h3 [] := H4.pick [] (by kernel_rfl)
          exact Run_ret1 rfl (ResV_tmp (v := .bool false) (by kernel_rfl)) ⟨rfl, H6⟩
        · have hB1 := (M.ite_some hB1).2 hb4
          refine Run_skip ?_
          refine Run_blk ?_
          refine Run_reg 3 (by kernel_rfl) (L' := [(2, .pointer (some ⟨b1, 0, none⟩)), (3, .pointer (some ⟨b2, 0, none⟩)), (5, .int .i64 (w64 (s1 + 1)))]) ?_ ?_
          · refine QRun_b [.int .i64 s1, .int .i64 (w64 (s1 + 1)), .int .i64 (w64 (s1 + 1))] 0 _ (by kernel_rfl) (fun w => by kernel_rfl) ?_
            exact QRun_done [2, 3, 5] (by kernel_rfl) (by kernel_rfl)
          have hB1 := M.ret_some hB1
          have gx2 := hgoy1 _ hB1.symm
          exact Run_again [2, 3, 5] (by kernel_rfl) my1 (Nat.lt_succ_self _) ⟨(w64 (s1 + 1)), gx2, rfl, H4⟩
      · have hB1 := (M.ite_some hB1).2 hb3
        refine Run_exit (k' := _) rfl ?_
        have H7 : Hold h h3 [] := H4.pick [] (by kernel_rfl)
        have hB1 := M.ret_some hB1
        have gx2 := houty1 _ hB1.symm
        subst gx2
        exact Run_fall [] (by kernel_rfl) ⟨s1, rfl, rfl, H7⟩

end Go.Proofs.Ytipdgiljgbjjkaa
