/-
  Walks: each Go function, called with what reads as plain data, returns what its plain program computes.
  Conditions: None beyond the given statement.
-/
import Derived.Test.YtipdgiljgbjjkaaW0
namespace Go.Proofs.Ytipdgiljgbjjkaa
open Go
attribute [local irreducible] setL setB opA fineI idleI fineB evB okB markB markBs readyB readyBs chainB lk rho pickL dropSlot tailOK
set_option maxRecDepth 100000 in
set_option maxHeartbeats 4000000 in
theorem w_spec_l11DrawEvent (h hE : Heap) (it : Item) (s_ : TL01source) (bs_ : Nat) (as_code : Option Addr) (cs_code : Nat) (rs_code : Rd cd5 h (Lt h) as_code cs_code s_.code) (HM : Hold h hE [box bs_ 155 [.slice as_code s_.code.length cs_code, .int .i64 s_.at_, .int .i64 s_.seed], it]) (n : Nat) (r : TGraph × Int × TL01source) (hF : spec_l11DrawEvent s_ n = some r) :
    Fn Try.prog 97 #[.pointer (some ⟨bs_, 0, none⟩)] hE fun v h' => ∃ (a0 : Option Addr) (c0 : Nat), v = .tuple #[.agg #[.int .i64 r.1.Events, .slice a0 r.1.Places.length c0], .int .i64 r.2.1] ∧ Hold h h' [own cd58 a0 r.1.Places.length c0 r.1.Places, box bs_ 155 [.slice as_code s_.code.length cs_code, .int .i64 r.2.2.at_, .int .i64 r.2.2.seed], it] := by
  unfold spec_l11DrawEvent at hF
  refine Fn_enter (args := [.pointer (some ⟨bs_, 0, none⟩)]) Try.func97 rfl (by kernel_rfl) (by kernel_rfl) (fun w0 _ => ?_)
  refine Run_seq ?_
  refine Run_ops ?_
  refine Run_E (by kernel_rfl) ?_
  refine E_box (ty := 30) (cs := [.int .i64 0, .slice none 0 0]) HM (fun w => by kernel_rfl) (fun b1 h1 H1 => ?_)
  refine Run_b [.int .i64 0] 1 _ (by kernel_rfl) (fun w => by kernel_rfl) ?_
  refine Run_nil (by kernel_rfl) ?_
  refine Run_keep [0, 2] (L' := [(0, .pointer (some ⟨bs_, 0, none⟩)), (2, .pointer (some ⟨b1, 0, none⟩))]) (by kernel_rfl) ?_
  refine Run_seq ?_
  refine Run_ops ?_
  refine Run_b [.pointer (some ⟨bs_, 0, none⟩)] 0 _ (by kernel_rfl) (fun w => by kernel_rfl) ?_
  obtain ⟨x1, hx1, hF⟩ := M.bind_some hF
  have H2 : Hold h h1 [box bs_ 155 [.slice as_code s_.code.length cs_code, .int .i64 s_.at_, .int .i64 s_.seed], box b1 30 [.int .i64 0, .slice none 0 0], it] := H1.pick [1, 0, 2] (by kernel_rfl)
  have H3 : Hold h h1 [box bs_ 155 [.slice as_code s_.code.length cs_code, .int .i64 s_.at_, .int .i64 s_.seed], bun [box b1 30 [.int .i64 0, .slice none 0 0], it]] := Hold.bundle (S := [box bs_ 155 [.slice as_code s_.code.length cs_code, .int .i64 s_.at_, .int .i64 s_.seed]]) (R := [box b1 30 [.int .i64 0, .slice none 0 0], it]) H2
  refine Run_E (by kernel_rfl) ?_
  refine E_call (f := 160) (args := #[.pointer (some ⟨bs_, 0, none⟩)]) (w_spec_l11Draw h h1 _ s_ bs_ as_code cs_code rs_code H3 _ _ hx1) (by kernel_rfl) (fun v1 h2 hp1 => ?_)
  obtain ⟨a1, c1, rfl, H4⟩ := hp1
  have H5 : Hold h h2 [own cd58 a1 x1.1.Places.length c1 x1.1.Places, box bs_ 155 [.slice as_code s_.code.length cs_code, .int .i64 x1.2.at_, .int .i64 x1.2.seed], box b1 30 [.int .i64 0, .slice none 0 0], it] := Hold.unbundle (S := [own cd58 a1 x1.1.Places.length c1 x1.1.Places, box bs_ 155 [.slice as_code s_.code.length cs_code, .int .i64 x1.2.at_, .int .i64 x1.2.seed]]) (R := [box b1 30 [.int .i64 0, .slice none 0 0], it]) H4 (Hold.tailBase (S := [box bs_ 155 [.slice as_code s_.code.length cs_code, .int .i64 s_.at_, .int .i64 s_.seed]]) (R := [box b1 30 [.int .i64 0, .slice none 0 0], it]) H2)
  refine Run_E (by kernel_rfl) ?_
  refine E_box (ty := 30) (cs := [.int .i64 0, .slice none 0 0]) H5 (fun w => by kernel_rfl) (fun b2 h3 H6 => ?_)
  refine Run_E (by kernel_rfl) ?_
  refine E_bput (t := 30) (off := 0) (us := [.int .i64 x1.1.Events, .slice a1 x1.1.Places.length c1]) (v := .agg #[.int .i64 x1.1.Events, .slice a1 x1.1.Places.length c1]) H6 (by kernel_rfl) (by kernel_rfl) rfl (by kernel_rfl) rfl (fun h4 H7 => ?_)
  refine Run_nil (by kernel_rfl) ?_
  refine Run_keep [0, 2, 4] (L' := [(0, .pointer (some ⟨bs_, 0, none⟩)), (2, .pointer (some ⟨b1, 0, none⟩)), (4, .pointer (some ⟨b2, 0, none⟩))]) (by kernel_rfl) ?_
  refine Run_seq ?_
  refine Run_seq ?_
  refine Run_ops ?_
  refine Run_b [.pointer (some ⟨bs_, 0, none⟩)] 0 _ (by kernel_rfl) (fun w => by kernel_rfl) ?_
  obtain ⟨x2, hx2, hF⟩ := M.bind_some hF
  have H8 : Hold h h4 [box bs_ 155 [.slice as_code s_.code.length cs_code, .int .i64 x1.2.at_, .int .i64 x1.2.seed], box b2 30 [.int .i64 x1.1.Events, .slice a1 x1.1.Places.length c1], own cd58 a1 x1.1.Places.length c1 x1.1.Places, box b1 30 [.int .i64 0, .slice none 0 0], it] := H7.pick [2, 0, 1, 3, 4] (by kernel_rfl)
  have H9 : Hold h h4 [box bs_ 155 [.slice as_code s_.code.length cs_code, .int .i64 x1.2.at_, .int .i64 x1.2.seed], bun [box b2 30 [.int .i64 x1.1.Events, .slice a1 x1.1.Places.length c1], own cd58 a1 x1.1.Places.length c1 x1.1.Places, box b1 30 [.int .i64 0, .slice none 0 0], it]] := Hold.bundle (S := [box bs_ 155 [.slice as_code s_.code.length cs_code, .int .i64 x1.2.at_, .int .i64 x1.2.seed]]) (R := [box b2 30 [.int .i64 x1.1.Events, .slice a1 x1.1.Places.length c1], own cd58 a1 x1.1.Places.length c1 x1.1.Places, box b1 30 [.int .i64 0, .slice none 0 0], it]) H8
  refine Run_E (by kernel_rfl) ?_
  refine E_call (f := 106) (args := #[.pointer (some ⟨bs_, 0, none⟩), .int .i64 20]) (w_spec_l01Next h h4 _ (⟨s_.code, x1.2.at_, x1.2.seed⟩ : TL01source) bs_ as_code cs_code rs_code 20 H9 _ _ hx2) (by kernel_rfl) (fun v2 h5 hp2 => ?_)
  obtain ⟨rfl, H10⟩ := hp2
  have H11 : Hold h h5 [box bs_ 155 [.slice as_code s_.code.length cs_code, .int .i64 x2.2.at_, .int .i64 x2.2.seed], box b2 30 [.int .i64 x1.1.Events, .slice a1 x1.1.Places.length c1], own cd58 a1 x1.1.Places.length c1 x1.1.Places, box b1 30 [.int .i64 0, .slice none 0 0], it] := Hold.unbundle (S := [box bs_ 155 [.slice as_code s_.code.length cs_code, .int .i64 x2.2.at_, .int .i64 x2.2.seed]]) (R := [box b2 30 [.int .i64 x1.1.Events, .slice a1 x1.1.Places.length c1], own cd58 a1 x1.1.Places.length c1 x1.1.Places, box b1 30 [.int .i64 0, .slice none 0 0], it]) H10 (Hold.tailBase (S := [box bs_ 155 [.slice as_code s_.code.length cs_code, .int .i64 x1.2.at_, .int .i64 x1.2.seed]]) (R := [box b2 30 [.int .i64 x1.1.Events, .slice a1 x1.1.Places.length c1], own cd58 a1 x1.1.Places.length c1 x1.1.Places, box b1 30 [.int .i64 0, .slice none 0 0], it]) H8)
  refine Run_b [.bool (x2.1 == 0)] 2 _ (by kernel_rfl) (fun w => by kernel_rfl) ?_
  refine Run_nil (by kernel_rfl) ?_
  refine Run_keep [0, 2, 4, 9] (L' := [(0, .pointer (some ⟨bs_, 0, none⟩)), (2, .pointer (some ⟨b1, 0, none⟩)), (4, .pointer (some ⟨b2, 0, none⟩)), (9, .bool (x2.1 == 0))]) (by kernel_rfl) ?_
  refine Run_cond (b := x2.1 == 0) (by kernel_rfl) (fun hb1 => ?_) (fun hb1 => ?_)
  · have hF := (M.ite_some hF).1 hb1
    refine Run_seq ?_
    refine Run_D (fun x => Hold h x [box b2 30 [.int .i64 x1.1.Events, .slice a1 x1.1.Places.length c1], own cd58 a1 x1.1.Places.length c1 x1.1.Places, box b1 30 [.int .i64 0, .slice none 0 0], it]) (fun x => Hold h x [box bs_ 155 [.slice as_code s_.code.length cs_code, .int .i64 x2.2.at_, .int .i64 x2.2.seed], box b2 30 [.int .i64 x1.1.Events, .slice a1 x1.1.Places.length c1], own cd58 a1 x1.1.Places.length c1 x1.1.Places, box b1 30 [.int .i64 0, .slice none 0 0], it]) mixed (by kernel_rfl) H11 Hold.stable (fun x Hy => (show Hold h x [box bs_ 155 [.slice as_code s_.code.length cs_code, .int .i64 x2.2.at_, .int .i64 x2.2.seed], box b2 30 [.int .i64 x1.1.Events, .slice a1 x1.1.Places.length c1], own cd58 a1 x1.1.Places.length c1 x1.1.Places, box b1 30 [.int .i64 0, .slice none 0 0], it] from Hy).pick [1, 2, 3, 4] (by kernel_rfl)) ?_
    refine DR_y 7 (i := 0) (.agg #[.int .i64 x1.1.Events, .slice a1 x1.1.Places.length c1]) (by kernel_rfl) (by kernel_rfl) (by kernel_rfl) (fun hx Hx => (YE.of (Y_loadA (t := 30) (n := 2) (p := ⟨b2, 0, none⟩) (cs := [.int .i64 x1.1.Events, .slice a1 x1.1.Places.length c1]) (by kernel_rfl) (fun w => by kernel_rfl) (by kernel_rfl) rfl (Hx.cells (n := 2) (off := 0) 0 rfl rfl)))) ?_
    refine DR_b 5 [.pointer (some ⟨bs_, 0, none⟩), .pointer (some ⟨b2, 0, none⟩)] 1 (by kernel_rfl) (by kernel_rfl) (by kernel_rfl) (fun w => by kernel_rfl) ?_
    refine DR_y 4 (i := 3) (.int .i64 x1.1.Events) (by kernel_rfl) (by kernel_rfl) (by kernel_rfl) (fun hx Hx => (YE.of (Y_load1 (t := 2) (p := ⟨b2, 0, none⟩) (v := .int .i64 x1.1.Events) (by kernel_rfl) (fun w => by kernel_rfl) (Hx.cell 0 rfl rfl)))) ?_
    refine DR_e 3 4 (by kernel_rfl) (by kernel_rfl) (by kernel_rfl) (fun h6 H12 => ?_)
    have H13 : Hold h h6 [box bs_ 155 [.slice as_code s_.code.length cs_code, .int .i64 x2.2.at_, .int .i64 x2.2.seed], box b2 30 [.int .i64 x1.1.Events, .slice a1 x1.1.Places.length c1], own cd58 a1 x1.1.Places.length c1 x1.1.Places, box b1 30 [.int .i64 0, .slice none 0 0], it] := H12
    refine E_lit (C := cd2) (n := 2) (l := ([(-1), x1.1.Events] : List Int)) (cs := [.int .i64 (-1), .int .i64 x1.1.Events]) H13 (fun w => by kernel_rfl) (Enc.consE (cd2_own (-1) _) (Enc.consE (cd2_own x1.1.Events _) (Enc.nil _ _) rfl) rfl) rfl (by decide) (fun a2 h7 H14 => ?_)
    refine ⟨fun x => Hold h x [box b2 30 [.int .i64 x1.1.Events, .slice a1 x1.1.Places.length c1], own cd58 a1 x1.1.Places.length c1 x1.1.Places, box b1 30 [.int .i64 0, .slice none 0 0], it], fun x => Hold h x [own cd2 a2 2 2 ([(-1), x1.1.Events] : List Int), box bs_ 155 [.slice as_code s_.code.length cs_code, .int .i64 x2.2.at_, .int .i64 x2.2.seed], box b2 30 [.int .i64 x1.1.Events, .slice a1 x1.1.Places.length c1], own cd58 a1 x1.1.Places.length c1 x1.1.Places, box b1 30 [.int .i64 0, .slice none 0 0], it], H14, Hold.stable, fun x Hy => (show Hold h x [own cd2 a2 2 2 ([(-1), x1.1.Events] : List Int), box bs_ 155 [.slice as_code s_.code.length cs_code, .int .i64 x2.2.at_, .int .i64 x2.2.seed], box b2 30 [.int .i64 x1.1.Events, .slice a1 x1.1.Places.length c1], own cd58 a1 x1.1.Places.length c1 x1.1.Places, box b1 30 [.int .i64 0, .slice none 0 0], it] from Hy).pick [2, 3, 4, 5] (by kernel_rfl), fun x Hy => (show Hold h x [box b2 30 [.int .i64 x1.1.Events, .slice a1 x1.1.Places.length c1], own cd58 a1 x1.1.Places.length c1 x1.1.Places, box b1 30 [.int .i64 0, .slice none 0 0], it] from Hy).pick [0, 1, 2, 3] (by kernel_rfl), ?_⟩
    refine DR_e 2 5 (by kernel_rfl) (by kernel_rfl) (by kernel_rfl) (fun h8 H15 => ?_)
    have H16 : Hold h h8 [own cd2 a2 2 2 ([(-1), x1.1.Events] : List Int), box bs_ 155 [.slice as_code s_.code.length cs_code, .int .i64 x2.2.at_, .int .i64 x2.2.seed], box b2 30 [.int .i64 x1.1.Events, .slice a1 x1.1.Places.length c1], own cd58 a1 x1.1.Places.length c1 x1.1.Places, box b1 30 [.int .i64 0, .slice none 0 0], it] := H15
    obtain ⟨x3, hx3, hF⟩ := M.bind_some hF
    have hn1 := (H16.len 0 rfl)
    have H17 : Hold h h8 [own cd2 a2 (([(-1), x1.1.Events] : List Int).length) 2 ([(-1), x1.1.Events] : List Int), box bs_ 155 [.slice as_code s_.code.length cs_code, .int .i64 x2.2.at_, .int .i64 x2.2.seed], box b2 30 [.int .i64 x1.1.Events, .slice a1 x1.1.Places.length c1], own cd58 a1 x1.1.Places.length c1 x1.1.Places, box b1 30 [.int .i64 0, .slice none 0 0], it] := by rw [hn1]; exact H16
    have H18 : Hold h h8 [box bs_ 155 [.slice as_code s_.code.length cs_code, .int .i64 x2.2.at_, .int .i64 x2.2.seed], own cd2 a2 (([(-1), x1.1.Events] : List Int).length) 2 ([(-1), x1.1.Events] : List Int), box b2 30 [.int .i64 x1.1.Events, .slice a1 x1.1.Places.length c1], own cd58 a1 x1.1.Places.length c1 x1.1.Places, box b1 30 [.int .i64 0, .slice none 0 0], it] := H17.pick [1, 0, 2, 3, 4, 5] (by kernel_rfl)
    have H19 : Hold h h8 [box bs_ 155 [.slice as_code s_.code.length cs_code, .int .i64 x2.2.at_, .int .i64 x2.2.seed], own cd2 a2 (([(-1), x1.1.Events] : List Int).length) 2 ([(-1), x1.1.Events] : List Int), bun [box b2 30 [.int .i64 x1.1.Events, .slice a1 x1.1.Places.length c1], own cd58 a1 x1.1.Places.length c1 x1.1.Places, box b1 30 [.int .i64 0, .slice none 0 0], it]] := Hold.bundle (S := [box bs_ 155 [.slice as_code s_.code.length cs_code, .int .i64 x2.2.at_, .int .i64 x2.2.seed], own cd2 a2 (([(-1), x1.1.Events] : List Int).length) 2 ([(-1), x1.1.Events] : List Int)]) (R := [box b2 30 [.int .i64 x1.1.Events, .slice a1 x1.1.Places.length c1], own cd58 a1 x1.1.Places.length c1 x1.1.Places, box b1 30 [.int .i64 0, .slice none 0 0], it]) H18
    refine E_call (f := 107) (args := #[.pointer (some ⟨bs_, 0, none⟩), .slice a2 2 2]) (Fn.arg (w_spec_l01Pick h h8 _ (⟨s_.code, x2.2.at_, x2.2.seed⟩ : TL01source) bs_ as_code cs_code rs_code ([(-1), x1.1.Events] : List Int) a2 2 H19 _ _ hx3) (by simp only [hn1])) (by kernel_rfl) (fun v3 h9 hp3 => ?_)
    obtain ⟨rfl, H20⟩ := hp3
    have H21 : Hold h h9 [box bs_ 155 [.slice as_code s_.code.length cs_code, .int .i64 x3.2.1.at_, .int .i64 x3.2.1.seed], own cd2 a2 (([(-1), x1.1.Events] : List Int).length) 2 x3.2.2, box b2 30 [.int .i64 x1.1.Events, .slice a1 x1.1.Places.length c1], own cd58 a1 x1.1.Places.length c1 x1.1.Places, box b1 30 [.int .i64 0, .slice none 0 0], it] := Hold.unbundle (S := [box bs_ 155 [.slice as_code s_.code.length cs_code, .int .i64 x3.2.1.at_, .int .i64 x3.2.1.seed], own cd2 a2 (([(-1), x1.1.Events] : List Int).length) 2 x3.2.2]) (R := [box b2 30 [.int .i64 x1.1.Events, .slice a1 x1.1.Places.length c1], own cd58 a1 x1.1.Places.length c1 x1.1.Places, box b1 30 [.int .i64 0, .slice none 0 0], it]) H20 (Hold.tailBase (S := [box bs_ 155 [.slice as_code s_.code.length cs_code, .int .i64 x2.2.at_, .int .i64 x2.2.seed], own cd2 a2 (([(-1), x1.1.Events] : List Int).length) 2 ([(-1), x1.1.Events] : List Int)]) (R := [box b2 30 [.int .i64 x1.1.Events, .slice a1 x1.1.Places.length c1], own cd58 a1 x1.1.Places.length c1 x1.1.Places, box b1 30 [.int .i64 0, .slice none 0 0], it]) H18)
    refine ⟨fun x => Hold h x [box b2 30 [.int .i64 x1.1.Events, .slice a1 x1.1.Places.length c1], own cd58 a1 x1.1.Places.length c1 x1.1.Places, box b1 30 [.int .i64 0, .slice none 0 0], it], fun x => Hold h x [box bs_ 155 [.slice as_code s_.code.length cs_code, .int .i64 x3.2.1.at_, .int .i64 x3.2.1.seed], own cd2 a2 (([(-1), x1.1.Events] : List Int).length) 2 x3.2.2, box b2 30 [.int .i64 x1.1.Events, .slice a1 x1.1.Places.length c1], own cd58 a1 x1.1.Places.length c1 x1.1.Places, box b1 30 [.int .i64 0, .slice none 0 0], it], H21, Hold.stable, fun x Hy => (show Hold h x [box bs_ 155 [.slice as_code s_.code.length cs_code, .int .i64 x3.2.1.at_, .int .i64 x3.2.1.seed], own cd2 a2 (([(-1), x1.1.Events] : List Int).length) 2 x3.2.2, box b2 30 [.int .i64 x1.1.Events, .slice a1 x1.1.Places.length c1], own cd58 a1 x1.1.Places.length c1 x1.1.Places, box b1 30 [.int .i64 0, .slice none 0 0], it] from Hy).pick [2, 3, 4, 5] (by kernel_rfl), fun x Hy => (show Hold h x [box b2 30 [.int .i64 x1.1.Events, .slice a1 x1.1.Places.length c1], own cd58 a1 x1.1.Places.length c1 x1.1.Places, box b1 30 [.int .i64 0, .slice none 0 0], it] from Hy).pick [0, 1, 2, 3] (by kernel_rfl), ?_⟩
    refine DR_tail (i := 6) (by kernel_rfl) (by kernel_rfl) (by kernel_rfl) (fun h10 H22 => ?_)
    have H23 : Hold h h10 [box bs_ 155 [.slice as_code s_.code.length cs_code, .int .i64 x3.2.1.at_, .int .i64 x3.2.1.seed], own cd2 a2 (([(-1), x1.1.Events] : List Int).length) 2 x3.2.2, box b2 30 [.int .i64 x1.1.Events, .slice a1 x1.1.Places.length c1], own cd58 a1 x1.1.Places.length c1 x1.1.Places, box b1 30 [.int .i64 0, .slice none 0 0], it] := H22
    have H25 : Hold h h10 [box b1 30 [.int .i64 0, .slice none 0 0], box bs_ 155 [.slice as_code s_.code.length cs_code, .int .i64 x3.2.1.at_, .int .i64 x3.2.1.seed], own cd2 a2 (([(-1), x1.1.Events] : List Int).length) 2 x3.2.2, box b2 30 [.int .i64 x1.1.Events, .slice a1 x1.1.Places.length c1], own cd58 a1 x1.1.Places.length c1 x1.1.Places, it] := H23.pick [4, 0, 1, 2, 3, 5] (by kernel_rfl)
    refine Run_E (by kernel_rfl) ?_
    refine E_bput (t := 30) (off := 0) (us := [.int .i64 x1.1.Events, .slice a1 x1.1.Places.length c1]) (v := .agg #[.int .i64 x1.1.Events, .slice a1 x1.1.Places.length c1]) H25 (by kernel_rfl) (by kernel_rfl) rfl (by kernel_rfl) rfl (fun h11 H24 => ?_)
    refine Run_b [.int .i64 x3.1] 7 _ (by kernel_rfl) (fun w => by kernel_rfl) ?_
    refine Run_nil (by kernel_rfl) ?_
    refine Run_keep [2, 3] (L' := [(2, .pointer (some ⟨b1, 0, none⟩)), (3, .int .i64 x3.1)]) (by kernel_rfl) ?_
    have hF := M.ret_some hF
    subst hF
    have H26 : Hold h h11 [own cd58 a1 x1.1.Places.length c1 x1.1.Places, box b1 30 [.int .i64 x1.1.Events, .slice a1 x1.1.Places.length c1], box bs_ 155 [.slice as_code s_.code.length cs_code, .int .i64 x3.2.1.at_, .int .i64 x3.2.1.seed], own cd2 a2 (([(-1), x1.1.Events] : List Int).length) 2 x3.2.2, box b2 30 [.int .i64 x1.1.Events, .slice a1 x1.1.Places.length c1], it] := H24.pick [4, 0, 1, 2, 3, 5] (by kernel_rfl)
    have H27 : Hold h h11 [own cd58 a1 x1.1.Places.length c1 x1.1.Places, box bs_ 155 [.slice as_code s_.code.length cs_code, .int .i64 x3.2.1.at_, .int .i64 x3.2.1.seed], it] := H26.pick [0, 2, 5] (by kernel_rfl)
    exact Run_ret2 rfl (ResV_cell (n := 2) (cs := [.int .i64 x1.1.Events, .slice a1 x1.1.Places.length c1]) (by kernel_rfl) (fun w => by kernel_rfl) (by kernel_rfl) rfl (H24.cells (n := 2) (off := 0) 0 rfl rfl)) (ResV_tmp (v := .int .i64 x3.1) (by kernel_rfl)) ⟨a1, c1, rfl, H27⟩
  · have hF := (M.ite_some hF).2 hb1
    refine Run_skip ?_
    refine Run_seq ?_
    refine Run_D (fun x => Hold h x [box b2 30 [.int .i64 x1.1.Events, .slice a1 x1.1.Places.length c1], own cd58 a1 x1.1.Places.length c1 x1.1.Places, box b1 30 [.int .i64 0, .slice none 0 0], it]) (fun x => Hold h x [box bs_ 155 [.slice as_code s_.code.length cs_code, .int .i64 x2.2.at_, .int .i64 x2.2.seed], box b2 30 [.int .i64 x1.1.Events, .slice a1 x1.1.Places.length c1], own cd58 a1 x1.1.Places.length c1 x1.1.Places, box b1 30 [.int .i64 0, .slice none 0 0], it]) mixed (by kernel_rfl) H11 Hold.stable (fun x Hy => (show Hold h x [box bs_ 155 [.slice as_code s_.code.length cs_code, .int .i64 x2.2.at_, .int .i64 x2.2.seed], box b2 30 [.int .i64 x1.1.Events, .slice a1 x1.1.Places.length c1], own cd58 a1 x1.1.Places.length c1 x1.1.Places, box b1 30 [.int .i64 0, .slice none 0 0], it] from Hy).pick [1, 2, 3, 4] (by kernel_rfl)) ?_
    refine DR_y 6 (i := 0) (.agg #[.int .i64 x1.1.Events, .slice a1 x1.1.Places.length c1]) (by kernel_rfl) (by kernel_rfl) (by kernel_rfl) (fun hx Hx => (YE.of (Y_loadA (t := 30) (n := 2) (p := ⟨b2, 0, none⟩) (cs := [.int .i64 x1.1.Events, .slice a1 x1.1.Places.length c1]) (by kernel_rfl) (fun w => by kernel_rfl) (by kernel_rfl) rfl (Hx.cells (n := 2) (off := 0) 0 rfl rfl)))) ?_
    refine DR_b 4 [.pointer (some ⟨bs_, 0, none⟩), .pointer (some ⟨b2, 0, none⟩)] 1 (by kernel_rfl) (by kernel_rfl) (by kernel_rfl) (fun w => by kernel_rfl) ?_
    refine DR_y 3 (i := 3) (.int .i64 x1.1.Events) (by kernel_rfl) (by kernel_rfl) (by kernel_rfl) (fun hx Hx => (YE.of (Y_load1 (t := 2) (p := ⟨b2, 0, none⟩) (v := .int .i64 x1.1.Events) (by kernel_rfl) (fun w => by kernel_rfl) (Hx.cell 0 rfl rfl)))) ?_
    refine DR_e 2 4 (by kernel_rfl) (by kernel_rfl) (by kernel_rfl) (fun h12 H28 => ?_)
    have H29 : Hold h h12 [box bs_ 155 [.slice as_code s_.code.length cs_code, .int .i64 x2.2.at_, .int .i64 x2.2.seed], box b2 30 [.int .i64 x1.1.Events, .slice a1 x1.1.Places.length c1], own cd58 a1 x1.1.Places.length c1 x1.1.Places, box b1 30 [.int .i64 0, .slice none 0 0], it] := H28
    obtain ⟨x4, hx4, hF⟩ := M.bind_some hF
    have H30 : Hold h h12 [box bs_ 155 [.slice as_code s_.code.length cs_code, .int .i64 x2.2.at_, .int .i64 x2.2.seed], bun [box b2 30 [.int .i64 x1.1.Events, .slice a1 x1.1.Places.length c1], own cd58 a1 x1.1.Places.length c1 x1.1.Places, box b1 30 [.int .i64 0, .slice none 0 0], it]] := Hold.bundle (S := [box bs_ 155 [.slice as_code s_.code.length cs_code, .int .i64 x2.2.at_, .int .i64 x2.2.seed]]) (R := [box b2 30 [.int .i64 x1.1.Events, .slice a1 x1.1.Places.length c1], own cd58 a1 x1.1.Places.length c1 x1.1.Places, box b1 30 [.int .i64 0, .slice none 0 0], it]) H29
    refine E_call (f := 106) (args := #[.pointer (some ⟨bs_, 0, none⟩), .int .i64 x1.1.Events]) (w_spec_l01Next h h12 _ (⟨s_.code, x2.2.at_, x2.2.seed⟩ : TL01source) bs_ as_code cs_code rs_code x1.1.Events H30 _ _ hx4) (by kernel_rfl) (fun v4 h13 hp4 => ?_)
    obtain ⟨rfl, H31⟩ := hp4
    have H32 : Hold h h13 [box bs_ 155 [.slice as_code s_.code.length cs_code, .int .i64 x4.2.at_, .int .i64 x4.2.seed], box b2 30 [.int .i64 x1.1.Events, .slice a1 x1.1.Places.length c1], own cd58 a1 x1.1.Places.length c1 x1.1.Places, box b1 30 [.int .i64 0, .slice none 0 0], it] := Hold.unbundle (S := [box bs_ 155 [.slice as_code s_.code.length cs_code, .int .i64 x4.2.at_, .int .i64 x4.2.seed]]) (R := [box b2 30 [.int .i64 x1.1.Events, .slice a1 x1.1.Places.length c1], own cd58 a1 x1.1.Places.length c1 x1.1.Places, box b1 30 [.int .i64 0, .slice none 0 0], it]) H31 (Hold.tailBase (S := [box bs_ 155 [.slice as_code s_.code.length cs_code, .int .i64 x2.2.at_, .int .i64 x2.2.seed]]) (R := [box b2 30 [.int .i64 x1.1.Events, .slice a1 x1.1.Places.length c1], own cd58 a1 x1.1.Places.length c1 x1.1.Places, box b1 30 [.int .i64 0, .slice none 0 0], it]) H29)
    refine ⟨fun x => Hold h x [box b2 30 [.int .i64 x1.1.Events, .slice a1 x1.1.Places.length c1], own cd58 a1 x1.1.Places.length c1 x1.1.Places, box b1 30 [.int .i64 0, .slice none 0 0], it], fun x => Hold h x [box bs_ 155 [.slice as_code s_.code.length cs_code, .int .i64 x4.2.at_, .int .i64 x4.2.seed], box b2 30 [.int .i64 x1.1.Events, .slice a1 x1.1.Places.length c1], own cd58 a1 x1.1.Places.length c1 x1.1.Places, box b1 30 [.int .i64 0, .slice none 0 0], it], H32, Hold.stable, fun x Hy => (show Hold h x [box bs_ 155 [.slice as_code s_.code.length cs_code, .int .i64 x4.2.at_, .int .i64 x4.2.seed], box b2 30 [.int .i64 x1.1.Events, .slice a1 x1.1.Places.length c1], own cd58 a1 x1.1.Places.length c1 x1.1.Places, box b1 30 [.int .i64 0, .slice none 0 0], it] from Hy).pick [1, 2, 3, 4] (by kernel_rfl), fun x Hy => (show Hold h x [box b2 30 [.int .i64 x1.1.Events, .slice a1 x1.1.Places.length c1], own cd58 a1 x1.1.Places.length c1 x1.1.Places, box b1 30 [.int .i64 0, .slice none 0 0], it] from Hy).pick [0, 1, 2, 3] (by kernel_rfl), ?_⟩
    refine DR_tail (i := 5) (by kernel_rfl) (by kernel_rfl) (by kernel_rfl) (fun h14 H33 => ?_)
    have H34 : Hold h h14 [box bs_ 155 [.slice as_code s_.code.length cs_code, .int .i64 x4.2.at_, .int .i64 x4.2.seed], box b2 30 [.int .i64 x1.1.Events, .slice a1 x1.1.Places.length c1], own cd58 a1 x1.1.Places.length c1 x1.1.Places, box b1 30 [.int .i64 0, .slice none 0 0], it] := H33
    have H36 : Hold h h14 [box b1 30 [.int .i64 0, .slice none 0 0], box bs_ 155 [.slice as_code s_.code.length cs_code, .int .i64 x4.2.at_, .int .i64 x4.2.seed], box b2 30 [.int .i64 x1.1.Events, .slice a1 x1.1.Places.length c1], own cd58 a1 x1.1.Places.length c1 x1.1.Places, it] := H34.pick [3, 0, 1, 2, 4] (by kernel_rfl)
    refine Run_E (by kernel_rfl) ?_
    refine E_bput (t := 30) (off := 0) (us := [.int .i64 x1.1.Events, .slice a1 x1.1.Places.length c1]) (v := .agg #[.int .i64 x1.1.Events, .slice a1 x1.1.Places.length c1]) H36 (by kernel_rfl) (by kernel_rfl) rfl (by kernel_rfl) rfl (fun h15 H35 => ?_)
    refine Run_b [.int .i64 x4.1] 6 _ (by kernel_rfl) (fun w => by kernel_rfl) ?_
    refine Run_nil (by kernel_rfl) ?_
    refine Run_keep [2, 3] (L' := [(2, .pointer (some ⟨b1, 0, none⟩)), (3, .int .i64 x4.1)]) (by kernel_rfl) ?_
    have hF := M.ret_some hF
    subst hF
    have H37 : Hold h h15 [own cd58 a1 x1.1.Places.length c1 x1.1.Places, box b1 30 [.int .i64 x1.1.Events, .slice a1 x1.1.Places.length c1], box bs_ 155 [.slice as_code s_.code.length cs_code, .int .i64 x4.2.at_, .int .i64 x4.2.seed], box b2 30 [.int .i64 x1.1.Events, .slice a1 x1.1.Places.length c1], it] := H35.pick [3, 0, 1, 2, 4] (by kernel_rfl)
    have H38 : Hold h h15 [own cd58 a1 x1.1.Places.length c1 x1.1.Places, box bs_ 155 [.slice as_code s_.code.length cs_code, .int .i64 x4.2.at_, .int .i64 x4.2.seed], it] := H37.pick [0, 2, 4] (by kernel_rfl)
    exact Run_ret2 rfl (ResV_cell (n := 2) (cs := [.int .i64 x1.1.Events, .slice a1 x1.1.Places.length c1]) (by kernel_rfl) (fun w => by kernel_rfl) (by kernel_rfl) rfl (H35.cells (n := 2) (off := 0) 0 rfl rfl)) (ResV_tmp (v := .int .i64 x4.1) (by kernel_rfl)) ⟨a1, c1, rfl, H38⟩

set_option maxRecDepth 100000 in
set_option maxHeartbeats 4000000 in
theorem w_spec_DrawPlacesInto (h : Heap) (code : List Int) (acode : Option Addr) (ccode : Nat) (rcode : Rd cd5 h (Lt h) acode ccode code) (n : Nat) (r : TGraph × Int) (hF : spec_DrawPlacesInto code n = some r) :
    Fn Try.prog 28 #[.slice acode code.length ccode] h fun v h' => ∃ (a0 : Option Addr) (c0 : Nat), v = .tuple #[.agg #[.int .i64 r.1.Events, .slice a0 r.1.Places.length c0], .int .i64 r.2] ∧ Hold h h' [own cd58 a0 r.1.Places.length c0 r.1.Places] := by
  unfold spec_DrawPlacesInto at hF
  refine Fn_enter (args := [.slice acode code.length ccode]) Try.func28 rfl (by kernel_rfl) (by kernel_rfl) (fun w0 _ => ?_)
  have H0 := Hold.init h
  refine Run_seq ?_
  refine Run_ops ?_
  refine Run_E (by kernel_rfl) ?_
  refine E_box (ty := 30) (cs := [.int .i64 0, .slice none 0 0]) H0 (fun w => by kernel_rfl) (fun b1 h1 H1 => ?_)
  refine Run_b [.int .i64 0] 1 _ (by kernel_rfl) (fun w => by kernel_rfl) ?_
  refine Run_nil (by kernel_rfl) ?_
  refine Run_keep [0, 2] (L' := [(0, .slice acode code.length ccode), (2, .pointer (some ⟨b1, 0, none⟩))]) (by kernel_rfl) ?_
  refine Run_seq ?_
  refine Run_ops ?_
  refine Run_b [.slice acode code.length ccode] 0 _ (by kernel_rfl) (fun w => by kernel_rfl) ?_
  obtain ⟨x1, hx1, hF⟩ := M.bind_some hF
  refine Run_E (by kernel_rfl) ?_
  refine E_call (f := 98) (args := #[.slice acode code.length ccode]) (w_spec_l01From h1 code acode ccode (rcode.at H1.ext) _ _ hx1) (by kernel_rfl) (fun v1 h2 hp1 => ?_)
  obtain ⟨b2, a1, c1, rfl, hd1, H2⟩ := hp1
  have H3 : Hold h h2 [box b2 155 [.slice a1 x1.code.length c1, .int .i64 x1.at_, .int .i64 x1.seed], box b1 30 [.int .i64 0, .slice none 0 0]] := H1.call H2 rfl
  have r1 := rcode.alias hd1
  obtain ⟨x2, hx2, hF⟩ := M.bind_some hF
  have H4 : Hold h h2 [box b2 155 [.slice a1 x1.code.length c1, .int .i64 x1.at_, .int .i64 x1.seed], bun [box b1 30 [.int .i64 0, .slice none 0 0]]] := Hold.bundle (S := [box b2 155 [.slice a1 x1.code.length c1, .int .i64 x1.at_, .int .i64 x1.seed]]) (R := [box b1 30 [.int .i64 0, .slice none 0 0]]) H3
  refine Run_E (by kernel_rfl) ?_
  refine E_call (f := 97) (args := #[.pointer (some ⟨b2, 0, none⟩)]) (w_spec_l11DrawEvent h h2 _ x1 b2 a1 c1 r1 H4 _ _ hx2) (by kernel_rfl) (fun v2 h3 hp2 => ?_)
  obtain ⟨a2, c2, rfl, H5⟩ := hp2
  have H6 : Hold h h3 [own cd58 a2 x2.1.Places.length c2 x2.1.Places, box b2 155 [.slice a1 x1.code.length c1, .int .i64 x2.2.2.at_, .int .i64 x2.2.2.seed], box b1 30 [.int .i64 0, .slice none 0 0]] := Hold.unbundle (S := [own cd58 a2 x2.1.Places.length c2 x2.1.Places, box b2 155 [.slice a1 x1.code.length c1, .int .i64 x2.2.2.at_, .int .i64 x2.2.2.seed]]) (R := [box b1 30 [.int .i64 0, .slice none 0 0]]) H5 (Hold.tailBase (S := [box b2 155 [.slice a1 x1.code.length c1, .int .i64 x1.at_, .int .i64 x1.seed]]) (R := [box b1 30 [.int .i64 0, .slice none 0 0]]) H3)
  refine Run_b [.agg #[.int .i64 x2.1.Events, .slice a2 x2.1.Places.length c2], .int .i64 x2.2.1] 3 _ (by kernel_rfl) (fun w => by kernel_rfl) ?_
  have H8 : Hold h h3 [box b1 30 [.int .i64 0, .slice none 0 0], own cd58 a2 x2.1.Places.length c2 x2.1.Places, box b2 155 [.slice a1 x1.code.length c1, .int .i64 x2.2.2.at_, .int .i64 x2.2.2.seed]] := H6.pick [2, 0, 1] (by kernel_rfl)
  refine Run_E (by kernel_rfl) ?_
  refine E_bput (t := 30) (off := 0) (us := [.int .i64 x2.1.Events, .slice a2 x2.1.Places.length c2]) (v := .agg #[.int .i64 x2.1.Events, .slice a2 x2.1.Places.length c2]) H8 (by kernel_rfl) (by kernel_rfl) rfl (by kernel_rfl) rfl (fun h4 H7 => ?_)
  refine Run_b [.int .i64 x2.2.1] 6 _ (by kernel_rfl) (fun w => by kernel_rfl) ?_
  refine Run_nil (by kernel_rfl) ?_
  refine Run_keep [2, 3] (L' := [(2, .pointer (some ⟨b1, 0, none⟩)), (3, .int .i64 x2.2.1)]) (by kernel_rfl) ?_
  have hF := M.ret_some hF
  subst hF
  have H9 : Hold h h4 [own cd58 a2 x2.1.Places.length c2 x2.1.Places, box b1 30 [.int .i64 x2.1.Events, .slice a2 x2.1.Places.length c2], box b2 155 [.slice a1 x1.code.length c1, .int .i64 x2.2.2.at_, .int .i64 x2.2.2.seed]] := H7.pick [1, 0, 2] (by kernel_rfl)
  have H10 : Hold h h4 [own cd58 a2 x2.1.Places.length c2 x2.1.Places] := H9.pick [0] (by kernel_rfl)
  exact Run_ret2 rfl (ResV_cell (n := 2) (cs := [.int .i64 x2.1.Events, .slice a2 x2.1.Places.length c2]) (by kernel_rfl) (fun w => by kernel_rfl) (by kernel_rfl) rfl (H7.cells (n := 2) (off := 0) 0 rfl rfl)) (ResV_tmp (v := .int .i64 x2.2.1) (by kernel_rfl)) ⟨a2, c2, rfl, H10⟩

set_option maxRecDepth 100000 in
set_option maxHeartbeats 4000000 in
theorem w_impl_within (h : Heap) (n_ : Int) (low : Int) (high : Int) (n : Nat) (r : Bool) (hF : impl_within n_ low high n = some r) :
    Fn Try.prog 108 #[.int .i64 n_, .int .i64 low, .int .i64 high] h fun v h' => v = .bool r ∧ h' = h := by
  unfold impl_within at hF
  refine Fn_enter (args := [.int .i64 n_, .int .i64 low, .int .i64 high]) Try.func108 rfl (by kernel_rfl) (by kernel_rfl) (fun w0 _ => ?_)
  refine Run_seq ?_
  refine Run_reg 1 (by kernel_rfl) (L' := [(0, .int .i64 n_), (1, .int .i64 low), (2, .int .i64 high)]) ?_ ?_
  · refine QRun_b [.bool false] 0 _ (by kernel_rfl) (fun w => by kernel_rfl) ?_
    exact QRun_done [0, 1, 2] (by kernel_rfl) (by kernel_rfl)
  refine Run_seq ?_
  refine Run_reg 9 (by kernel_rfl) (L' := [(6, .bool ((decide (low ≤ n_)) && (decide (n_ ≤ high))))]) ?_ ?_
  · refine QRun_b [.int .i64 n_, .int .i64 low, .bool (decide (low ≤ n_))] 0 _ (by kernel_rfl) (fun w => by kernel_rfl) ?_
    refine QRun_seq 8 [(14, .bool ((decide (low ≤ n_)) && (decide (n_ ≤ high))))] ?_ ?_
    · rcases Bool.eq_false_or_eq_true (decide (low ≤ n_)) with hb1 | hb1
      · refine QRun_bool (decide (low ≤ n_)) true (by kernel_rfl) (fun w => by kernel_rfl) hb1 ?_
        refine QRun_b [.int .i64 n_, .int .i64 high, .bool (decide (n_ ≤ high))] 4 _ (by kernel_rfl) (fun w => by kernel_rfl) ?_
        refine QRun_bool (decide (n_ ≤ high)) ((decide (low ≤ n_)) && (decide (n_ ≤ high))) (by kernel_rfl) (fun w => by kernel_rfl) (by rw [hb1]; rfl) ?_
        exact QRun_done [14] (by kernel_rfl) (by kernel_rfl)
      · refine QRun_bool (decide (low ≤ n_)) false (by kernel_rfl) (fun w => by kernel_rfl) hb1 ?_
        refine QRun_n (by kernel_rfl) ?_
        refine QRun_n (by kernel_rfl) ?_
        refine QRun_n (by kernel_rfl) ?_
        refine QRun_bool false ((decide (low ≤ n_)) && (decide (n_ ≤ high))) (by kernel_rfl) (fun w => by kernel_rfl) (by rw [hb1]; rfl) ?_
        exact QRun_done [14] (by kernel_rfl) (by kernel_rfl)
    refine QRun_b [.bool ((decide (low ≤ n_)) && (decide (n_ ≤ high)))] 8 _ (by kernel_rfl) (fun w => by kernel_rfl) ?_
    exact QRun_done [6] (by kernel_rfl) (by kernel_rfl)
  have hF := M.ret_some hF
  subst hF
  exact Run_ret1 rfl (ResV_tmp (v := .bool ((decide (low ≤ n_)) && (decide (n_ ≤ high)))) (by kernel_rfl)) ⟨rfl, rfl⟩

set_option maxRecDepth 100000 in
set_option maxHeartbeats 4000000 in
theorem w_impl_isEvent (h : Heap) (g : TGraph) (agPlaces : Option Addr) (cgPlaces : Nat) (rgPlaces : Rd cd58 h (Lt h) agPlaces cgPlaces g.Places) (event : Int) (n : Nat) (r : Bool) (hF : impl_isEvent g event n = some r) :
    Fn Try.prog 80 #[.agg #[.int .i64 g.Events, .slice agPlaces g.Places.length cgPlaces], .int .i64 event] h fun v h' => v = .bool r ∧ Hold h h' [] := by
  unfold impl_isEvent at hF
  refine Fn_enter (args := [.agg #[.int .i64 g.Events, .slice agPlaces g.Places.length cgPlaces], .int .i64 event]) Try.func80 rfl (by kernel_rfl) (by kernel_rfl) (fun w0 _ => ?_)
  have H0 := Hold.init h
  refine Run_seq ?_
  refine Run_ops ?_
  refine Run_E (by kernel_rfl) ?_
  refine E_box (ty := 30) (cs := [.int .i64 g.Events, .slice agPlaces g.Places.length cgPlaces]) H0 (fun w => by kernel_rfl) (fun b1 h1 H1 => ?_)
  refine Run_b [.bool false] 1 _ (by kernel_rfl) (fun w => by kernel_rfl) ?_
  refine Run_nil (by kernel_rfl) ?_
  refine Run_keep [1, 2] (L' := [(1, .int .i64 event), (2, .pointer (some ⟨b1, 0, none⟩))]) (by kernel_rfl) ?_
  refine Run_seq ?_
  obtain ⟨x1, hx1, hF⟩ := M.bind_some hF
  refine Run_reg 6 (by kernel_rfl) (L' := [(4, .bool x1)]) ?_ ?_
  · refine QRun_b [.int .i64 event, .pointer (some ⟨b1, 0, none⟩)] 0 _ (by kernel_rfl) (fun w => by kernel_rfl) ?_
    refine QRun_y (.int .i64 g.Events) (by kernel_rfl) (Y_load1 (t := 2) (p := ⟨b1, 0, none⟩) (v := .int .i64 g.Events) (by kernel_rfl) (fun w => by kernel_rfl) (H1.cell 0 rfl rfl)) ?_
    refine QRun_b [.int .i64 (w64 (g.Events - 1))] 3 _ (by kernel_rfl) (fun w => by kernel_rfl) ?_
    refine QRun_y (.bool x1) (by kernel_rfl) (Y_callq (f := 108) (args := #[.int .i64 event, .int .i64 0, .int .i64 (w64 (g.Events - 1))]) (v := .bool x1) (by kernel_rfl) (w_impl_within h1 event 0 (w64 (g.Events - 1)) _ _ hx1)) ?_
    refine QRun_b [.bool x1] 5 _ (by kernel_rfl) (fun w => by kernel_rfl) ?_
    exact QRun_done [4] (by kernel_rfl) (by kernel_rfl)
  have hF := M.ret_some hF
  subst hF
  have H2 : Hold h h1 [] := H1.pick [] (by kernel_rfl)
  exact Run_ret1 rfl (ResV_tmp (v := .bool x1) (by kernel_rfl)) ⟨rfl, H2⟩

set_option maxRecDepth 100000 in
set_option maxHeartbeats 4000000 in
theorem w_impl_isPlace (h : Heap) (g : TGraph) (agPlaces : Option Addr) (cgPlaces : Nat) (rgPlaces : Rd cd58 h (Lt h) agPlaces cgPlaces g.Places) (p : TPlace) (n : Nat) (r : Bool) (hF : impl_isPlace g p n = some r) :
    Fn Try.prog 145 #[.agg #[.int .i64 g.Events, .slice agPlaces g.Places.length cgPlaces], .agg #[.int .i64 p.From, .int .i64 p.To, .int .i64 p.Delay, .int .i64 p.Tokens]] h fun v h' => v = .bool r ∧ Hold h h' [] := by
  unfold impl_isPlace at hF
  refine Fn_enter (args := [.agg #[.int .i64 g.Events, .slice agPlaces g.Places.length cgPlaces], .agg #[.int .i64 p.From, .int .i64 p.To, .int .i64 p.Delay, .int .i64 p.Tokens]]) Try.func145 rfl (by kernel_rfl) (by kernel_rfl) (fun w0 _ => ?_)
  have H0 := Hold.init h
  refine Run_seq ?_
  refine Run_ops ?_
  refine Run_E (by kernel_rfl) ?_
  refine E_box (ty := 30) (cs := [.int .i64 g.Events, .slice agPlaces g.Places.length cgPlaces]) H0 (fun w => by kernel_rfl) (fun b1 h1 H1 => ?_)
  refine Run_E (by kernel_rfl) ?_
  refine E_box (ty := 58) (cs := [.int .i64 p.From, .int .i64 p.To, .int .i64 p.Delay, .int .i64 p.Tokens]) H1 (fun w => by kernel_rfl) (fun b2 h2 H2 => ?_)
  refine Run_b [.bool false] 2 _ (by kernel_rfl) (fun w => by kernel_rfl) ?_
  refine Run_nil (by kernel_rfl) ?_
  refine Run_keep [2, 3] (L' := [(2, .pointer (some ⟨b1, 0, none⟩)), (3, .pointer (some ⟨b2, 0, none⟩))]) (by kernel_rfl) ?_
  refine Run_seq ?_
  obtain ⟨x1, hx1, hF⟩ := M.bind_some hF
  obtain ⟨x2, gx2, hF⟩ := M.bind_some hF
  obtain ⟨x4, gx4, hF⟩ := M.bind_some hF
  obtain ⟨x6, gx6, hF⟩ := M.bind_some hF
  refine Run_regC (j := 21) (C := fun x => Hold h x [box b2 58 [.int .i64 p.From, .int .i64 p.To, .int .i64 p.Delay, .int .i64 p.Tokens], box b1 30 [.int .i64 g.Events, .slice agPlaces g.Places.length cgPlaces]]) (by kernel_rfl) H2 (L' := [(4, .bool x6)]) ?_ (fun h3 H3 => ?_)
  · refine QRun_y (.agg #[.int .i64 g.Events, .slice agPlaces g.Places.length cgPlaces]) (by kernel_rfl) (Y_cls fun hx Hx => (Y_loadA (t := 30) (n := 2) (p := ⟨b1, 0, none⟩) (cs := [.int .i64 g.Events, .slice agPlaces g.Places.length cgPlaces]) (by kernel_rfl) (fun w => by kernel_rfl) (by kernel_rfl) rfl (Hx.cells (n := 2) (off := 0) 1 rfl rfl))) ?_
    refine QRun_b [.pointer (some ⟨b2, 0, none⟩)] 1 _ (by kernel_rfl) (fun w => by kernel_rfl) ?_
    refine QRun_y (.int .i64 p.From) (by kernel_rfl) (Y_cls fun hx Hx => (Y_load1 (t := 2) (p := ⟨b2, 0, none⟩) (v := .int .i64 p.From) (by kernel_rfl) (fun w => by kernel_rfl) (Hx.cell 0 rfl rfl))) ?_
    refine QRun_y (.bool x1) (by kernel_rfl) (Y_call (f := 80) (args := #[.agg #[.int .i64 g.Events, .slice agPlaces g.Places.length cgPlaces], .int .i64 p.From]) (v := .bool x1) (by kernel_rfl) fun hx Hx => (w_impl_isEvent hx g agPlaces cgPlaces (rgPlaces.at Hx.ext) p.From _ _ hx1).mono fun _ _ ⟨e, H'⟩ => ⟨e, Hx.call H' rfl⟩) ?_
    refine QRun_seq 10 [(3, .pointer (some ⟨b2, 0, none⟩)), (14, .bool x2)] ?_ ?_
    · rcases Bool.eq_false_or_eq_true x1 with hb1 | hb1
      · refine QRun_bool x1 true (by kernel_rfl) (fun w => by kernel_rfl) hb1 ?_
        have gx2 := (M.ite_some gx2).1 hb1
        obtain ⟨x3, hx2, gx2⟩ := M.bind_some gx2
        have gx2 := M.ret_some gx2
        refine QRun_y (.agg #[.int .i64 g.Events, .slice agPlaces g.Places.length cgPlaces]) (by kernel_rfl) (Y_cls fun hx Hx => (Y_loadA (t := 30) (n := 2) (p := ⟨b1, 0, none⟩) (cs := [.int .i64 g.Events, .slice agPlaces g.Places.length cgPlaces]) (by kernel_rfl) (fun w => by kernel_rfl) (by kernel_rfl) rfl (Hx.cells (n := 2) (off := 0) 1 rfl rfl))) ?_
        refine QRun_b [.pointer (some ⟨b2, 1, none⟩)] 6 _ (by kernel_rfl) (fun w => by kernel_rfl) ?_
        refine QRun_y (.int .i64 p.To) (by kernel_rfl) (Y_cls fun hx Hx => (Y_load1 (t := 2) (p := ⟨b2, 1, none⟩) (v := .int .i64 p.To) (by kernel_rfl) (fun w => by kernel_rfl) (Hx.cell 0 rfl rfl))) ?_
        refine QRun_y (.bool x3) (by kernel_rfl) (Y_call (f := 80) (args := #[.agg #[.int .i64 g.Events, .slice agPlaces g.Places.length cgPlaces], .int .i64 p.To]) (v := .bool x3) (by kernel_rfl) fun hx Hx => (w_impl_isEvent hx g agPlaces cgPlaces (rgPlaces.at Hx.ext) p.To _ _ hx2).mono fun _ _ ⟨e, H'⟩ => ⟨e, Hx.call H' rfl⟩) ?_
        refine QRun_bool x3 x2 (by kernel_rfl) (fun w => by kernel_rfl) gx2 ?_
        exact QRun_done [3, 14] (by kernel_rfl) (by kernel_rfl)
      · refine QRun_bool x1 false (by kernel_rfl) (fun w => by kernel_rfl) hb1 ?_
        have gx2 := M.ret_some ((M.ite_some gx2).2 hb1)
        refine QRun_n (by kernel_rfl) ?_
        refine QRun_n (by kernel_rfl) ?_
        refine QRun_n (by kernel_rfl) ?_
        refine QRun_n (by kernel_rfl) ?_
        refine QRun_bool false x2 (by kernel_rfl) (fun w => by kernel_rfl) gx2 ?_
        exact QRun_done [3, 14] (by kernel_rfl) (by kernel_rfl)
    refine QRun_seq 15 [(3, .pointer (some ⟨b2, 0, none⟩)), (19, .bool x4)] ?_ ?_
    · rcases Bool.eq_false_or_eq_true x2 with hb2 | hb2
      · refine QRun_bool x2 true (by kernel_rfl) (fun w => by kernel_rfl) hb2 ?_
        have gx4 := (M.ite_some gx4).1 hb2
        obtain ⟨x5, hx3, gx4⟩ := M.bind_some gx4
        have gx4 := M.ret_some gx4
        refine QRun_b [.pointer (some ⟨b2, 2, none⟩)] 11 _ (by kernel_rfl) (fun w => by kernel_rfl) ?_
        refine QRun_y (.int .i64 p.Delay) (by kernel_rfl) (Y_cls fun hx Hx => (Y_load1 (t := 2) (p := ⟨b2, 2, none⟩) (v := .int .i64 p.Delay) (by kernel_rfl) (fun w => by kernel_rfl) (Hx.cell 0 rfl rfl))) ?_
        refine QRun_y (.bool x5) (by kernel_rfl) (Y_cls fun hx Hx => (Y_callq (f := 108) (args := #[.int .i64 p.Delay, .int .i64 0, .int .i64 1000]) (v := .bool x5) (by kernel_rfl) (w_impl_within hx p.Delay 0 1000 _ _ hx3))) ?_
        refine QRun_bool x5 x4 (by kernel_rfl) (fun w => by kernel_rfl) gx4 ?_
        exact QRun_done [3, 19] (by kernel_rfl) (by kernel_rfl)
      · refine QRun_bool x2 false (by kernel_rfl) (fun w => by kernel_rfl) hb2 ?_
        have gx4 := M.ret_some ((M.ite_some gx4).2 hb2)
        refine QRun_n (by kernel_rfl) ?_
        refine QRun_n (by kernel_rfl) ?_
        refine QRun_n (by kernel_rfl) ?_
        refine QRun_bool false x4 (by kernel_rfl) (fun w => by kernel_rfl) gx4 ?_
        exact QRun_done [3, 19] (by kernel_rfl) (by kernel_rfl)
    refine QRun_seq 20 [(24, .bool x6)] ?_ ?_
    · rcases Bool.eq_false_or_eq_true x4 with hb3 | hb3
      · refine QRun_bool x4 true (by kernel_rfl) (fun w => by kernel_rfl) hb3 ?_
        have gx6 := (M.ite_some gx6).1 hb3
        obtain ⟨x7, hx4, gx6⟩ := M.bind_some gx6
        have gx6 := M.ret_some gx6
        refine QRun_b [.pointer (some ⟨b2, 3, none⟩)] 16 _ (by kernel_rfl) (fun w => by kernel_rfl) ?_
        refine QRun_y (.int .i64 p.Tokens) (by kernel_rfl) (Y_cls fun hx Hx => (Y_load1 (t := 2) (p := ⟨b2, 3, none⟩) (v := .int .i64 p.Tokens) (by kernel_rfl) (fun w => by kernel_rfl) (Hx.cell 0 rfl rfl))) ?_
        refine QRun_y (.bool x7) (by kernel_rfl) (Y_cls fun hx Hx => (Y_callq (f := 108) (args := #[.int .i64 p.Tokens, .int .i64 0, .int .i64 5]) (v := .bool x7) (by kernel_rfl) (w_impl_within hx p.Tokens 0 5 _ _ hx4))) ?_
        refine QRun_bool x7 x6 (by kernel_rfl) (fun w => by kernel_rfl) gx6 ?_
        exact QRun_done [24] (by kernel_rfl) (by kernel_rfl)
      · refine QRun_bool x4 false (by kernel_rfl) (fun w => by kernel_rfl) hb3 ?_
        have gx6 := M.ret_some ((M.ite_some gx6).2 hb3)
        refine QRun_n (by kernel_rfl) ?_
        refine QRun_n (by kernel_rfl) ?_
        refine QRun_n (by kernel_rfl) ?_
        refine QRun_bool false x6 (by kernel_rfl) (fun w => by kernel_rfl) gx6 ?_
        exact QRun_done [24] (by kernel_rfl) (by kernel_rfl)
    refine QRun_b [.bool x6] 20 _ (by kernel_rfl) (fun w => by kernel_rfl) ?_
    exact QRun_done [4] (by kernel_rfl) (by kernel_rfl)
  have H4 : Hold h h3 [box b2 58 [.int .i64 p.From, .int .i64 p.To, .int .i64 p.Delay, .int .i64 p.Tokens], box b1 30 [.int .i64 g.Events, .slice agPlaces g.Places.length cgPlaces]] := H3
  have hF := M.ret_some hF
  subst hF
  have H5 : Hold h h3 [] := H4.pick [] (by kernel_rfl)
  exact Run_ret1 rfl (ResV_tmp (v := .bool x6) (by kernel_rfl)) ⟨rfl, H5⟩

set_option maxRecDepth 100000 in
set_option maxHeartbeats 4000000 in
theorem w_impl_IsEventGraph_1 (h : Heap) (p : TPlace) (z0 : TGraph) (az0Places : Option Addr) (cz0Places : Nat) (rz0Places : Rd cd58 h (Lt h) az0Places cz0Places z0.Places) (bz0 : Nat) (vz0 : VarAt h bz0 30 [.int .i64 z0.Events, .slice az0Places z0.Places.length cz0Places]) (n : Nat) (r : Bool) (hF : impl_IsEventGraph_1 p z0 n = some r) :
    Fn Try.prog 144 #[.agg #[.int .i64 p.From, .int .i64 p.To, .int .i64 p.Delay, .int .i64 p.Tokens], .pointer (some ⟨bz0, 0, none⟩)] h fun v h' => v = .bool r ∧ Hold h h' [] := by
  unfold impl_IsEventGraph_1 at hF
  refine Fn_enter (args := [.agg #[.int .i64 p.From, .int .i64 p.To, .int .i64 p.Delay, .int .i64 p.Tokens], .pointer (some ⟨bz0, 0, none⟩)]) Try.func144 rfl (by kernel_rfl) (by kernel_rfl) (fun w0 _ => ?_)
  have H0 := Hold.init h
  refine Run_seq ?_
  refine Run_ops ?_
  refine Run_E (by kernel_rfl) ?_
  refine E_box (ty := 58) (cs := [.int .i64 p.From, .int .i64 p.To, .int .i64 p.Delay, .int .i64 p.Tokens]) H0 (fun w => by kernel_rfl) (fun b1 h1 H1 => ?_)
  refine Run_b [.bool false] 1 _ (by kernel_rfl) (fun w => by kernel_rfl) ?_
  refine Run_nil (by kernel_rfl) ?_
  refine Run_keep [1, 2] (L' := [(1, .pointer (some ⟨bz0, 0, none⟩)), (2, .pointer (some ⟨b1, 0, none⟩))]) (by kernel_rfl) ?_
  refine Run_seq ?_
  obtain ⟨x1, hx1, hF⟩ := M.bind_some hF
  refine Run_regC (j := 5) (C := fun x => Hold h x [box b1 58 [.int .i64 p.From, .int .i64 p.To, .int .i64 p.Delay, .int .i64 p.Tokens]]) (by kernel_rfl) H1 (L' := [(3, .bool (!x1))]) ?_ (fun h2 H2 => ?_)
  · refine QRun_y (.agg #[.int .i64 z0.Events, .slice az0Places z0.Places.length cz0Places]) (by kernel_rfl) (Y_cls fun hx Hx => (Y_loadA (t := 30) (n := 2) (p := ⟨bz0, 0, none⟩) (cs := [.int .i64 z0.Events, .slice az0Places z0.Places.length cz0Places]) (by kernel_rfl) (fun w => by kernel_rfl) (by kernel_rfl) rfl (VarAt.cells (n := 2) (off := 0) (vz0.at Hx.ext) rfl))) ?_
    refine QRun_y (.agg #[.int .i64 p.From, .int .i64 p.To, .int .i64 p.Delay, .int .i64 p.Tokens]) (by kernel_rfl) (Y_cls fun hx Hx => (Y_loadA (t := 58) (n := 4) (p := ⟨b1, 0, none⟩) (cs := [.int .i64 p.From, .int .i64 p.To, .int .i64 p.Delay, .int .i64 p.Tokens]) (by kernel_rfl) (fun w => by kernel_rfl) (by kernel_rfl) rfl (Hx.cells (n := 4) (off := 0) 0 rfl rfl))) ?_
    refine QRun_y (.bool x1) (by kernel_rfl) (Y_call (f := 145) (args := #[.agg #[.int .i64 z0.Events, .slice az0Places z0.Places.length cz0Places], .agg #[.int .i64 p.From, .int .i64 p.To, .int .i64 p.Delay, .int .i64 p.Tokens]]) (v := .bool x1) (by kernel_rfl) fun hx Hx => (w_impl_isPlace hx z0 az0Places cz0Places (rz0Places.at Hx.ext) p _ _ hx1).mono fun _ _ ⟨e, H'⟩ => ⟨e, Hx.call H' rfl⟩) ?_
    refine QRun_b [.bool (!x1), .bool (!x1)] 3 _ (by kernel_rfl) (fun w => by kernel_rfl) ?_
    exact QRun_done [3] (by kernel_rfl) (by kernel_rfl)
  have H3 : Hold h h2 [box b1 58 [.int .i64 p.From, .int .i64 p.To, .int .i64 p.Delay, .int .i64 p.Tokens]] := H2
  have hF := M.ret_some hF
  subst hF
  have H4 : Hold h h2 [] := H3.pick [] (by kernel_rfl)
  exact Run_ret1 rfl (ResV_tmp (v := .bool (!x1)) (by kernel_rfl)) ⟨rfl, H4⟩

set_option maxRecDepth 100000 in
set_option maxHeartbeats 4000000 in
theorem w_slices_IndexFunc_Place_F_impl_IsEventGraph_1 (h : Heap) (s_ : List TPlace) (as_ : Option Addr) (cs_ : Nat) (rs_ : Rd cd58 h (Lt h) as_ cs_ s_) (f0 : TGraph) (af0Places : Option Addr) (cf0Places : Nat) (rf0Places : Rd cd58 h (Lt h) af0Places cf0Places f0.Places) (bf0 : Nat) (vf0 : VarAt h bf0 30 [.int .i64 f0.Events, .slice af0Places f0.Places.length cf0Places]) (n : Nat) (r : Int) (hF : slices_IndexFunc_Place_F_impl_IsEventGraph_1 s_ f0 n = some r) :
    Fn Try.prog 174 #[.slice as_ s_.length cs_, .func (.func 144) #[] #[.pointer (some ⟨bf0, 0, none⟩)]] h fun v h' => v = .int .i64 r ∧ Hold h h' [] := by
  unfold slices_IndexFunc_Place_F_impl_IsEventGraph_1 at hF
  refine Fn_enter (args := [.slice as_ s_.length cs_, .func (.func 144) #[] #[.pointer (some ⟨bf0, 0, none⟩)]]) Try.func174 rfl (by kernel_rfl) (by kernel_rfl) (fun w0 _ => ?_)
  have H0 := Hold.init h
  refine Run_seq ?_
  refine Run_reg 1 (by kernel_rfl) (L' := [(0, .slice as_ s_.length cs_), (1, .func (.func 144) #[] #[.pointer (some ⟨bf0, 0, none⟩)])]) ?_ ?_
  · refine QRun_b [.int .i64 0] 0 _ (by kernel_rfl) (fun w => by kernel_rfl) ?_
    exact QRun_done [0, 1] (by kernel_rfl) (by kernel_rfl)
  refine Run_seq ?_
  refine Run_seq ?_
  refine Run_reg 3 (by kernel_rfl) (L' := [(0, .slice as_ s_.length cs_), (1, .func (.func 144) #[] #[.pointer (some ⟨bf0, 0, none⟩)]), (7, .int .i64 (s_.length : Int)), (8, .int .i64 0)]) ?_ ?_
  · refine QRun_b [.slice as_ s_.length cs_, .int .i64 (s_.length : Int), .int .i64 0] 0 _ (by kernel_rfl) (fun w => by kernel_rfl) ?_
    exact QRun_done [0, 1, 7, 8] (by kernel_rfl) (by kernel_rfl)
  obtain ⟨x1, gx1, hF⟩ := M.bind_some hF
  obtain ⟨hloy1, hhiy1, gx1⟩ := M.for_start gx1
  refine Run_join (fun L' h' => ∃ (s2 : Unit), x1 = .inl s2 ∧ L' = [] ∧ Hold h h' []) ?_ ?_
  · rintro _ h2 ⟨s2, es2, rfl, H2⟩
    have hF := M.cont_inl' hF es2
    refine Run_seq ?_
    refine Run_reg 1 (by kernel_rfl) (L' := [(4, .int .i64 (-1))]) ?_ ?_
    · refine QRun_b [.int .i64 (-1)] 0 _ (by kernel_rfl) (fun w => by kernel_rfl) ?_
      exact QRun_done [4] (by kernel_rfl) (by kernel_rfl)
    have hF := M.ret_some hF
    subst hF
    exact Run_ret1 rfl (ResV_tmp (v := .int .i64 (-1)) (by kernel_rfl)) ⟨rfl, H2⟩
  · refine Run_block ?_
    refine Run_keep [0, 1, 7, 8] (L' := [(0, .slice as_ s_.length cs_), (1, .func (.func 144) #[] #[.pointer (some ⟨bf0, 0, none⟩)]), (7, .int .i64 (s_.length : Int)), (8, .int .i64 0)]) (by kernel_rfl) ?_
    refine Run_loop (fun m L' h' => ∃ (i1 : Int) (s1 : Unit), 0 ≤ i1 ∧ M.forN (s_.length : Int) _ _ n m i1 s1 = some x1 ∧ L' = [(0, .slice as_ s_.length cs_), (1, .func (.func 144) #[] #[.pointer (some ⟨bf0, 0, none⟩)]), (7, .int .i64 (s_.length : Int)), (8, .int .i64 i1)] ∧ Hold h h' []) ((s_.length : Int) - 0 : Int).toNat ⟨0, (), Int.le_refl _, gx1, rfl, H0⟩ ?_
    rintro my1 _ h1 ⟨i1, s1, hloy1', gx1, rfl, H1⟩
    refine Run_seq ?_
    refine Run_reg 1 (by kernel_rfl) (L' := [(0, .slice as_ s_.length cs_), (1, .func (.func 144) #[] #[.pointer (some ⟨bf0, 0, none⟩)]), (7, .int .i64 (s_.length : Int)), (8, .int .i64 i1), (9, .bool (decide (i1 < (s_.length : Int))))]) ?_ ?_
    · refine QRun_b [.bool (decide (i1 < (s_.length : Int)))] 0 _ (by kernel_rfl) (fun w => by kernel_rfl) ?_
      exact QRun_done [0, 1, 7, 8, 9] (by kernel_rfl) (by kernel_rfl)
    refine Run_seq ?_
    refine Run_cond (b := decide (i1 < (s_.length : Int))) (by kernel_rfl) (fun hb1 => ?_) (fun hb1 => ?_)
    · obtain ⟨my1, y1, rfl, hB1, hgoy1, houty1⟩ := M.for_go gx1 hb1
      have hlty1 := of_decide_eq_true hb1
      refine Run_skip ?_
      refine Run_seq ?_
      refine Run_block ?_
      refine Run_seq ?_
      refine Run_reg 2 (by kernel_rfl) (L' := [(0, .slice as_ s_.length cs_), (1, .func (.func 144) #[] #[.pointer (some ⟨bf0, 0, none⟩)]), (5, .int .i64 i1), (7, .int .i64 (s_.length : Int)), (8, .int .i64 i1)]) ?_ ?_
      · refine QRun_b [.int .i64 i1, .int .i64 i1] 0 _ (by kernel_rfl) (fun w => by kernel_rfl) ?_
        exact QRun_done [0, 1, 5, 7, 8] (by kernel_rfl) (by kernel_rfl)
      refine Run_seq ?_
      obtain ⟨x2, hx1, hB1⟩ := M.bind_some hB1
      obtain ⟨hx1l, hx1u, hx1⟩ := M.idx_some hx1
      obtain ⟨x3, hx2, hB1⟩ := M.bind_some hB1
      refine Run_regC (j := 6) (C := fun x => Hold h x []) (by kernel_rfl) H1 (L' := [(0, .slice as_ s_.length cs_), (1, .func (.func 144) #[] #[.pointer (some ⟨bf0, 0, none⟩)]), (5, .int .i64 i1), (7, .int .i64 (s_.length : Int)), (8, .int .i64 i1), (16, .bool x3)]) ?_ (fun h3 H3 => ?_)
      · refine QRun_b [.func (.func 144) #[] #[.pointer (some ⟨bf0, 0, none⟩)], .slice as_ s_.length cs_, .int .i64 i1] 0 _ (by kernel_rfl) (fun w => by kernel_rfl) ?_
        refine QRun_y (.pointer (some (adr as_ (i1.toNat * 4)))) (by kernel_rfl) (Y_cls fun hx Hx => (Y_idx (t := 28) (e := 58) (sz := 4) (a := as_) (n := s_.length) (cap := cs_) (kk := .i64) (i := i1) (by kernel_rfl) Try.underlying28 (by kernel_rfl) ((rs_.at H1.ext).cell hx1).1 hx1l hx1u)) ?_
        refine QRun_y (.agg #[.int .i64 x2.From, .int .i64 x2.To, .int .i64 x2.Delay, .int .i64 x2.Tokens]) (by kernel_rfl) (Y_cls fun hx Hx => (Y_loadA (t := 58) (n := 4) (p := adr as_ (i1.toNat * 4)) (cs := [.int .i64 x2.From, .int .i64 x2.To, .int .i64 x2.Delay, .int .i64 x2.Tokens]) (by kernel_rfl) (fun w => by kernel_rfl) (by kernel_rfl) rfl (cd58_elem (rs_.at Hx.ext) hx1))) ?_
        refine QRun_y (.bool x3) (by kernel_rfl) (Y_call (f := 144) (args := #[.agg #[.int .i64 x2.From, .int .i64 x2.To, .int .i64 x2.Delay, .int .i64 x2.Tokens], .pointer (some ⟨bf0, 0, none⟩)]) (v := .bool x3) (by kernel_rfl) fun hx Hx => (w_impl_IsEventGraph_1 hx x2 f0 af0Places cf0Places (rf0Places.at Hx.ext) bf0 (vf0.at Hx.ext) _ _ hx2).mono fun _ _ ⟨e, H'⟩ => ⟨e, Hx.call H' rfl⟩) ?_
        exact QRun_done [0, 1, 5, 7, 8, 16] (by kernel_rfl) (by kernel_rfl)
      have H4 : Hold h h3 [] := H3
      refine Run_cond (b := x3) (by kernel_rfl) (fun hb2 => ?_) (fun hb2 => ?_)
      · have hB1 := (M.ite_some hB1).1 hb2
        refine Run_seq ?_
        refine Run_reg 2 (by kernel_rfl) (L' := [(4, .int .i64 i1)]) ?_ ?_
        · refine QRun_b [.int .i64 i1, .int .i64 i1] 0 _ (by kernel_rfl) (fun w => by kernel_rfl) ?_
          exact QRun_done [4] (by kernel_rfl) (by kernel_rfl)
        have hB1 := M.ret_some hB1
        have gx1 := houty1 _ hB1.symm
        have hF := M.cont_inr' hF gx1
        have hF := M.ret_some hF
        subst hF
        exact Run_ret1 rfl (ResV_tmp (v := .int .i64 i1) (by kernel_rfl)) ⟨rfl, H4⟩
      · have hB1 := (M.ite_some hB1).2 hb2
        refine Run_skip ?_
        refine Run_blk ?_
        refine Run_reg 2 (by kernel_rfl) (L' := [(0, .slice as_ s_.length cs_), (1, .func (.func 144) #[] #[.pointer (some ⟨bf0, 0, none⟩)]), (7, .int .i64 (s_.length : Int)), (8, .int .i64 (i1 + 1))]) ?_ ?_
        · refine QRun_y (.int .i64 (i1 + 1)) (by kernel_rfl) (Y_eq (v := .int .i64 (w64 (i1 + 1))) (Y_pure (fun w => by kernel_rfl)) (by rw [w64_eq _ (by omega)])) ?_
          refine QRun_b [.int .i64 (i1 + 1)] 1 _ (by kernel_rfl) (fun w => by kernel_rfl) ?_
          exact QRun_done [0, 1, 7, 8] (by kernel_rfl) (by kernel_rfl)
        have hB1 := M.ret_some hB1
        have gx1 := hgoy1 _ hB1.symm
        exact Run_again [0, 1, 7, 8] (by kernel_rfl) my1 (Nat.lt_succ_self _) ⟨i1 + 1, (), by omega, gx1, rfl, H4⟩
    · have gx1 := M.for_end gx1 hb1
      subst gx1
      refine Run_exit (k' := _) rfl ?_
      exact Run_fall [] (by kernel_rfl) ⟨(), rfl, rfl, H1⟩

set_option maxRecDepth 100000 in
set_option maxHeartbeats 4000000 in
theorem w_slices_ContainsFunc_Place_F_impl_IsEventGraph_1 (h : Heap) (s_ : List TPlace) (as_ : Option Addr) (cs_ : Nat) (rs_ : Rd cd58 h (Lt h) as_ cs_ s_) (f0 : TGraph) (af0Places : Option Addr) (cf0Places : Nat) (rf0Places : Rd cd58 h (Lt h) af0Places cf0Places f0.Places) (bf0 : Nat) (vf0 : VarAt h bf0 30 [.int .i64 f0.Events, .slice af0Places f0.Places.length cf0Places]) (n : Nat) (r : Bool) (hF : slices_ContainsFunc_Place_F_impl_IsEventGraph_1 s_ f0 n = some r) :
    Fn Try.prog 143 #[.slice as_ s_.length cs_, .func (.func 144) #[] #[.pointer (some ⟨bf0, 0, none⟩)]] h fun v h' => v = .bool r ∧ Hold h h' [] := by
  unfold slices_ContainsFunc_Place_F_impl_IsEventGraph_1 at hF
  refine Fn_enter (args := [.slice as_ s_.length cs_, .func (.func 144) #[] #[.pointer (some ⟨bf0, 0, none⟩)]]) Try.func143 rfl (by kernel_rfl) (by kernel_rfl) (fun w0 _ => ?_)
  have H0 := Hold.init h
  refine Run_seq ?_
  refine Run_reg 1 (by kernel_rfl) (L' := [(0, .slice as_ s_.length cs_), (1, .func (.func 144) #[] #[.pointer (some ⟨bf0, 0, none⟩)])]) ?_ ?_
  · refine QRun_b [.bool false] 0 _ (by kernel_rfl) (fun w => by kernel_rfl) ?_
    exact QRun_done [0, 1] (by kernel_rfl) (by kernel_rfl)
  refine Run_seq ?_
  obtain ⟨x1, hx1, hF⟩ := M.bind_some hF
  refine Run_regC (j := 5) (C := fun x => Hold h x []) (by kernel_rfl) H0 (L' := [(4, .bool (decide (0 ≤ x1)))]) ?_ (fun h1 H1 => ?_)
  · refine QRun_b [.slice as_ s_.length cs_, .func (.func 144) #[] #[.pointer (some ⟨bf0, 0, none⟩)]] 0 _ (by kernel_rfl) (fun w => by kernel_rfl) ?_
    refine QRun_y (.int .i64 x1) (by kernel_rfl) (Y_call (f := 174) (args := #[.slice as_ s_.length cs_, .func (.func 144) #[] #[.pointer (some ⟨bf0, 0, none⟩)]]) (v := .int .i64 x1) (by kernel_rfl) fun hx Hx => (w_slices_IndexFunc_Place_F_impl_IsEventGraph_1 hx s_ as_ cs_ (rs_.at Hx.ext) f0 af0Places cf0Places (rf0Places.at Hx.ext) bf0 (vf0.at Hx.ext) _ _ hx1).mono fun _ _ ⟨e, H'⟩ => ⟨e, Hx.call H' rfl⟩) ?_
    refine QRun_b [.bool (decide (0 ≤ x1)), .bool (decide (0 ≤ x1))] 3 _ (by kernel_rfl) (fun w => by kernel_rfl) ?_
    exact QRun_done [4] (by kernel_rfl) (by kernel_rfl)
  have H2 : Hold h h1 [] := H1
  have hF := M.ret_some hF
  subst hF
  exact Run_ret1 rfl (ResV_tmp (v := .bool (decide (0 ≤ x1))) (by kernel_rfl)) ⟨rfl, H2⟩

set_option maxRecDepth 100000 in
set_option maxHeartbeats 4000000 in
theorem w_impl_IsEventGraph (h : Heap) (g : TGraph) (agPlaces : Option Addr) (cgPlaces : Nat) (rgPlaces : Rd cd58 h (Lt h) agPlaces cgPlaces g.Places) (n : Nat) (r : Bool) (hF : impl_IsEventGraph g n = some r) :
    Fn Try.prog 74 #[.agg #[.int .i64 g.Events, .slice agPlaces g.Places.length cgPlaces]] h fun v h' => v = .bool r ∧ Hold h h' [] := by
  unfold impl_IsEventGraph at hF
  refine Fn_enter (args := [.agg #[.int .i64 g.Events, .slice agPlaces g.Places.length cgPlaces]]) Try.func74 rfl (by kernel_rfl) (by kernel_rfl) (fun w0 _ => ?_)
  have H0 := Hold.init h
  refine Run_seq ?_
  refine Run_ops ?_
  refine Run_E (by kernel_rfl) ?_
  refine E_box (ty := 30) (cs := [.int .i64 g.Events, .slice agPlaces g.Places.length cgPlaces]) H0 (fun w => by kernel_rfl) (fun b1 h1 H1 => ?_)
  refine Run_b [.bool false] 1 _ (by kernel_rfl) (fun w => by kernel_rfl) ?_
  refine Run_nil (by kernel_rfl) ?_
  refine Run_keep [1] (L' := [(1, .pointer (some ⟨b1, 0, none⟩))]) (by kernel_rfl) ?_
  refine Run_seq ?_
  obtain ⟨x1, hx1, hF⟩ := M.bind_some hF
  obtain ⟨x3, gx3, hF⟩ := M.bind_some hF
  refine Run_regC (j := 17) (C := fun x => Hold h x [box b1 30 [.int .i64 g.Events, .slice agPlaces g.Places.length cgPlaces]]) (by kernel_rfl) H1 (L' := [(2, .bool x3)]) ?_ (fun h2 H2 => ?_)
  · refine QRun_b [.pointer (some ⟨b1, 0, none⟩)] 0 _ (by kernel_rfl) (fun w => by kernel_rfl) ?_
    refine QRun_y (.int .i64 g.Events) (by kernel_rfl) (Y_cls fun hx Hx => (Y_load1 (t := 2) (p := ⟨b1, 0, none⟩) (v := .int .i64 g.Events) (by kernel_rfl) (fun w => by kernel_rfl) (Hx.cell 0 rfl rfl))) ?_
    refine QRun_y (.bool x1) (by kernel_rfl) (Y_cls fun hx Hx => (Y_callq (f := 108) (args := #[.int .i64 g.Events, .int .i64 1, .int .i64 10]) (v := .bool x1) (by kernel_rfl) (w_impl_within hx g.Events 1 10 _ _ hx1))) ?_
    refine QRun_seq 9 [(1, .pointer (some ⟨b1, 0, none⟩)), (11, .bool (x1 && (decide ((g.Places.length : Int) ≤ 30))))] ?_ ?_
    · rcases Bool.eq_false_or_eq_true x1 with hb1 | hb1
      · refine QRun_bool x1 true (by kernel_rfl) (fun w => by kernel_rfl) hb1 ?_
        refine QRun_b [.pointer (some ⟨b1, 1, none⟩)] 4 _ (by kernel_rfl) (fun w => by kernel_rfl) ?_
        refine QRun_y (.slice agPlaces g.Places.length cgPlaces) (by kernel_rfl) (Y_cls fun hx Hx => (Y_load1 (t := 28) (p := ⟨b1, 1, none⟩) (v := .slice agPlaces g.Places.length cgPlaces) (by kernel_rfl) (fun w => by kernel_rfl) (Hx.cell 0 rfl rfl))) ?_
        refine QRun_b [.int .i64 (g.Places.length : Int), .bool (decide ((g.Places.length : Int) ≤ 30))] 6 _ (by kernel_rfl) (fun w => by kernel_rfl) ?_
        refine QRun_bool (decide ((g.Places.length : Int) ≤ 30)) (x1 && (decide ((g.Places.length : Int) ≤ 30))) (by kernel_rfl) (fun w => by kernel_rfl) (by rw [hb1]; rfl) ?_
        exact QRun_done [1, 11] (by kernel_rfl) (by kernel_rfl)
      · refine QRun_bool x1 false (by kernel_rfl) (fun w => by kernel_rfl) hb1 ?_
        refine QRun_n (by kernel_rfl) ?_
        refine QRun_n (by kernel_rfl) ?_
        refine QRun_n (by kernel_rfl) ?_
        refine QRun_n (by kernel_rfl) ?_
        refine QRun_bool false (x1 && (decide ((g.Places.length : Int) ≤ 30))) (by kernel_rfl) (fun w => by kernel_rfl) (by rw [hb1]; rfl) ?_
        exact QRun_done [1, 11] (by kernel_rfl) (by kernel_rfl)
    refine QRun_seq 16 [(18, .bool x3)] ?_ ?_
    · rcases Bool.eq_false_or_eq_true (x1 && (decide ((g.Places.length : Int) ≤ 30))) with hb2 | hb2
      · refine QRun_bool (x1 && (decide ((g.Places.length : Int) ≤ 30))) true (by kernel_rfl) (fun w => by kernel_rfl) hb2 ?_
        have gx3 := (M.ite_some gx3).1 hb2
        obtain ⟨x4, hx2, gx3⟩ := M.bind_some gx3
        have gx3 := M.ret_some gx3
        refine QRun_b [.pointer (some ⟨b1, 1, none⟩)] 10 _ (by kernel_rfl) (fun w => by kernel_rfl) ?_
        refine QRun_y (.slice agPlaces g.Places.length cgPlaces) (by kernel_rfl) (Y_cls fun hx Hx => (Y_load1 (t := 28) (p := ⟨b1, 1, none⟩) (v := .slice agPlaces g.Places.length cgPlaces) (by kernel_rfl) (fun w => by kernel_rfl) (Hx.cell 0 rfl rfl))) ?_
        refine QRun_b [.func (.func 144) #[] #[.pointer (some ⟨b1, 0, none⟩)]] 12 _ (by kernel_rfl) (fun w => by kernel_rfl) ?_
        refine QRun_y (.bool x4) (by kernel_rfl) (Y_call (f := 143) (args := #[.slice agPlaces g.Places.length cgPlaces, .func (.func 144) #[] #[.pointer (some ⟨b1, 0, none⟩)]]) (v := .bool x4) (by kernel_rfl) fun hx Hx => (w_slices_ContainsFunc_Place_F_impl_IsEventGraph_1 hx g.Places agPlaces cgPlaces (rgPlaces.at Hx.ext) g agPlaces cgPlaces (rgPlaces.at Hx.ext) b1 (Hx.var 0 rfl) _ _ hx2).mono fun _ _ ⟨e, H'⟩ => ⟨e, Hx.call H' rfl⟩) ?_
        refine QRun_b [.bool (!x4)] 14 _ (by kernel_rfl) (fun w => by kernel_rfl) ?_
        refine QRun_bool (!x4) x3 (by kernel_rfl) (fun w => by kernel_rfl) gx3 ?_
        exact QRun_done [18] (by kernel_rfl) (by kernel_rfl)
      · refine QRun_bool (x1 && (decide ((g.Places.length : Int) ≤ 30))) false (by kernel_rfl) (fun w => by kernel_rfl) hb2 ?_
        have gx3 := M.ret_some ((M.ite_some gx3).2 hb2)
        refine QRun_n (by kernel_rfl) ?_
        refine QRun_n (by kernel_rfl) ?_
        refine QRun_n (by kernel_rfl) ?_
        refine QRun_n (by kernel_rfl) ?_
        refine QRun_n (by kernel_rfl) ?_
        refine QRun_bool false x3 (by kernel_rfl) (fun w => by kernel_rfl) gx3 ?_
        exact QRun_done [18] (by kernel_rfl) (by kernel_rfl)
    refine QRun_b [.bool x3] 16 _ (by kernel_rfl) (fun w => by kernel_rfl) ?_
    exact QRun_done [2] (by kernel_rfl) (by kernel_rfl)
  have H3 : Hold h h2 [box b1 30 [.int .i64 g.Events, .slice agPlaces g.Places.length cgPlaces]] := H2
  have hF := M.ret_some hF
  subst hF
  have H4 : Hold h h2 [] := H3.pick [] (by kernel_rfl)
  exact Run_ret1 rfl (ResV_tmp (v := .bool x3) (by kernel_rfl)) ⟨rfl, H4⟩

set_option maxRecDepth 100000 in
set_option maxHeartbeats 4000000 in
theorem w_impl_checkEvent (h : Heap) (g : TGraph) (agPlaces : Option Addr) (cgPlaces : Nat) (rgPlaces : Rd cd58 h (Lt h) agPlaces cgPlaces g.Places) (event : Int) (n : Nat) (r : Int) (hF : impl_checkEvent g event n = some r) :
    Fn Try.prog 99 #[.agg #[.int .i64 g.Events, .slice agPlaces g.Places.length cgPlaces], .int .i64 event] h fun v h' => v = .int .i64 r ∧ Hold h h' [] := by
  unfold impl_checkEvent at hF
  refine Fn_enter (args := [.agg #[.int .i64 g.Events, .slice agPlaces g.Places.length cgPlaces], .int .i64 event]) Try.func99 rfl (by kernel_rfl) (by kernel_rfl) (fun w0 _ => ?_)
  have H0 := Hold.init h
  refine Run_seq ?_
  refine Run_ops ?_
  refine Run_E (by kernel_rfl) ?_
  refine E_box (ty := 30) (cs := [.int .i64 g.Events, .slice agPlaces g.Places.length cgPlaces]) H0 (fun w => by kernel_rfl) (fun b1 h1 H1 => ?_)
  refine Run_b [.int .i64 0] 1 _ (by kernel_rfl) (fun w => by kernel_rfl) ?_
  refine Run_nil (by kernel_rfl) ?_
  refine Run_keep [1, 2] (L' := [(1, .int .i64 event), (2, .pointer (some ⟨b1, 0, none⟩))]) (by kernel_rfl) ?_
  refine Run_seq ?_
  refine Run_block ?_
  refine Run_seq ?_
  obtain ⟨x1, hx1, hF⟩ := M.bind_some hF
  refine Run_regC (j := 4) (C := fun x => Hold h x [box b1 30 [.int .i64 g.Events, .slice agPlaces g.Places.length cgPlaces]]) (by kernel_rfl) H1 (L' := [(1, .int .i64 event), (2, .pointer (some ⟨b1, 0, none⟩)), (5, .bool (!x1))]) ?_ (fun h2 H2 => ?_)
  · refine QRun_y (.agg #[.int .i64 g.Events, .slice agPlaces g.Places.length cgPlaces]) (by kernel_rfl) (Y_cls fun hx Hx => (Y_loadA (t := 30) (n := 2) (p := ⟨b1, 0, none⟩) (cs := [.int .i64 g.Events, .slice agPlaces g.Places.length cgPlaces]) (by kernel_rfl) (fun w => by kernel_rfl) (by kernel_rfl) rfl (Hx.cells (n := 2) (off := 0) 0 rfl rfl))) ?_
    refine QRun_y (.bool x1) (by kernel_rfl) (Y_call (f := 74) (args := #[.agg #[.int .i64 g.Events, .slice agPlaces g.Places.length cgPlaces]]) (v := .bool x1) (by kernel_rfl) fun hx Hx => (w_impl_IsEventGraph hx g agPlaces cgPlaces (rgPlaces.at Hx.ext) _ _ hx1).mono fun _ _ ⟨e, H'⟩ => ⟨e, Hx.call H' rfl⟩) ?_
    refine QRun_b [.bool (!x1), .bool (!x1)] 2 _ (by kernel_rfl) (fun w => by kernel_rfl) ?_
    exact QRun_done [1, 2, 5] (by kernel_rfl) (by kernel_rfl)
  have H3 : Hold h h2 [box b1 30 [.int .i64 g.Events, .slice agPlaces g.Places.length cgPlaces]] := H2
  refine Run_cond (b := !x1) (by kernel_rfl) (fun hb1 => ?_) (fun hb1 => ?_)
  · have hF := (M.ite_some hF).1 hb1
    refine Run_seq ?_
    refine Run_reg 1 (by kernel_rfl) (L' := [(4, .int .i64 1)]) ?_ ?_
    · refine QRun_b [.int .i64 1] 0 _ (by kernel_rfl) (fun w => by kernel_rfl) ?_
      exact QRun_done [4] (by kernel_rfl) (by kernel_rfl)
    have hF := M.ret_some hF
    subst hF
    have H4 : Hold h h2 [] := H3.pick [] (by kernel_rfl)
    exact Run_ret1 rfl (ResV_tmp (v := .int .i64 1) (by kernel_rfl)) ⟨rfl, H4⟩
  · have hF := (M.ite_some hF).2 hb1
    refine Run_seq ?_
    obtain ⟨x2, hx2, hF⟩ := M.bind_some hF
    refine Run_regC (j := 5) (C := fun x => Hold h x [box b1 30 [.int .i64 g.Events, .slice agPlaces g.Places.length cgPlaces]]) (by kernel_rfl) H3 (L' := [(9, .bool (!x2))]) ?_ (fun h3 H5 => ?_)
    · refine QRun_y (.agg #[.int .i64 g.Events, .slice agPlaces g.Places.length cgPlaces]) (by kernel_rfl) (Y_cls fun hx Hx => (Y_loadA (t := 30) (n := 2) (p := ⟨b1, 0, none⟩) (cs := [.int .i64 g.Events, .slice agPlaces g.Places.length cgPlaces]) (by kernel_rfl) (fun w => by kernel_rfl) (by kernel_rfl) rfl (Hx.cells (n := 2) (off := 0) 0 rfl rfl))) ?_
      refine QRun_b [.int .i64 event] 1 _ (by kernel_rfl) (fun w => by kernel_rfl) ?_
      refine QRun_y (.bool x2) (by kernel_rfl) (Y_call (f := 80) (args := #[.agg #[.int .i64 g.Events, .slice agPlaces g.Places.length cgPlaces], .int .i64 event]) (v := .bool x2) (by kernel_rfl) fun hx Hx => (w_impl_isEvent hx g agPlaces cgPlaces (rgPlaces.at Hx.ext) event _ _ hx2).mono fun _ _ ⟨e, H'⟩ => ⟨e, Hx.call H' rfl⟩) ?_
      refine QRun_b [.bool (!x2), .bool (!x2)] 3 _ (by kernel_rfl) (fun w => by kernel_rfl) ?_
      exact QRun_done [9] (by kernel_rfl) (by kernel_rfl)
    have H6 : Hold h h3 [box b1 30 [.int .i64 g.Events, .slice agPlaces g.Places.length cgPlaces]] := H5
    refine Run_cond (b := !x2) (by kernel_rfl) (fun hb2 => ?_) (fun hb2 => ?_)
    · have hF := (M.ite_some hF).1 hb2
      refine Run_seq ?_
      refine Run_reg 1 (by kernel_rfl) (L' := [(4, .int .i64 2)]) ?_ ?_
      · refine QRun_b [.int .i64 2] 0 _ (by kernel_rfl) (fun w => by kernel_rfl) ?_
        exact QRun_done [4] (by kernel_rfl) (by kernel_rfl)
      have hF := M.ret_some hF
      subst hF
      have H7 : Hold h h3 [] := H6.pick [] (by kernel_rfl)
      exact Run_ret1 rfl (ResV_tmp (v := .int .i64 2) (by kernel_rfl)) ⟨rfl, H7⟩
    · have hF := (M.ite_some hF).2 hb2
      refine Run_skip ?_
      refine Run_blk ?_
      refine Run_seq ?_
      refine Run_reg 1 (by kernel_rfl) (L' := [(4, .int .i64 0)]) ?_ ?_
      · refine QRun_b [.int .i64 0] 0 _ (by kernel_rfl) (fun w => by kernel_rfl) ?_
        exact QRun_done [4] (by kernel_rfl) (by kernel_rfl)
      have hF := M.ret_some hF
      subst hF
      have H8 : Hold h h3 [] := H6.pick [] (by kernel_rfl)
      exact Run_ret1 rfl (ResV_tmp (v := .int .i64 0) (by kernel_rfl)) ⟨rfl, H8⟩

set_option maxRecDepth 100000 in
set_option maxHeartbeats 4000000 in
theorem w_impl_PlacesInto_1 (h : Heap) (p : TPlace) (z0 : Int) (bz0 : Nat) (vz0 : VarAt h bz0 2 [.int .i64 z0]) (n : Nat) (r : Bool) (hF : impl_PlacesInto_1 p z0 n = some r) :
    Fn Try.prog 101 #[.agg #[.int .i64 p.From, .int .i64 p.To, .int .i64 p.Delay, .int .i64 p.Tokens], .pointer (some ⟨bz0, 0, none⟩)] h fun v h' => v = .bool r ∧ Hold h h' [] := by
  unfold impl_PlacesInto_1 at hF
  refine Fn_enter (args := [.agg #[.int .i64 p.From, .int .i64 p.To, .int .i64 p.Delay, .int .i64 p.Tokens], .pointer (some ⟨bz0, 0, none⟩)]) Try.func101 rfl (by kernel_rfl) (by kernel_rfl) (fun w0 _ => ?_)
  have H0 := Hold.init h
  refine Run_seq ?_
  refine Run_ops ?_
  refine Run_E (by kernel_rfl) ?_
  refine E_box (ty := 58) (cs := [.int .i64 p.From, .int .i64 p.To, .int .i64 p.Delay, .int .i64 p.Tokens]) H0 (fun w => by kernel_rfl) (fun b1 h1 H1 => ?_)
  refine Run_b [.bool false] 1 _ (by kernel_rfl) (fun w => by kernel_rfl) ?_
  refine Run_nil (by kernel_rfl) ?_
  refine Run_keep [1, 2] (L' := [(1, .pointer (some ⟨bz0, 0, none⟩)), (2, .pointer (some ⟨b1, 0, none⟩))]) (by kernel_rfl) ?_
  refine Run_seq ?_
  refine Run_reg 5 (by kernel_rfl) (L' := [(3, .bool (p.To == z0))]) ?_ ?_
  · refine QRun_b [.pointer (some ⟨b1, 1, none⟩)] 0 _ (by kernel_rfl) (fun w => by kernel_rfl) ?_
    refine QRun_y (.int .i64 p.To) (by kernel_rfl) (Y_load1 (t := 2) (p := ⟨b1, 1, none⟩) (v := .int .i64 p.To) (by kernel_rfl) (fun w => by kernel_rfl) (H1.cell 0 rfl rfl)) ?_
    refine QRun_y (.int .i64 z0) (by kernel_rfl) (Y_load1 (t := 2) (p := ⟨bz0, 0, none⟩) (v := .int .i64 z0) (by kernel_rfl) (fun w => by kernel_rfl) (VarAt.cell (vz0.at H1.ext) rfl)) ?_
    refine QRun_b [.bool (p.To == z0), .bool (p.To == z0)] 3 _ (by kernel_rfl) (fun w => by kernel_rfl) ?_
    exact QRun_done [3] (by kernel_rfl) (by kernel_rfl)
  have hF := M.ret_some hF
  subst hF
  have H2 : Hold h h1 [] := H1.pick [] (by kernel_rfl)
  exact Run_ret1 rfl (ResV_tmp (v := .bool (p.To == z0)) (by kernel_rfl)) ⟨rfl, H2⟩

set_option maxRecDepth 100000 in
set_option maxHeartbeats 4000000 in
theorem w_impl_placesWith_F_impl_PlacesInto_1 (h : Heap) (g : TGraph) (agPlaces : Option Addr) (cgPlaces : Nat) (rgPlaces : Rd cd58 h (Lt h) agPlaces cgPlaces g.Places) (has0 : Int) (bhas0 : Nat) (vhas0 : VarAt h bhas0 2 [.int .i64 has0]) (n : Nat) (r : (List Int)) (hF : impl_placesWith_F_impl_PlacesInto_1 g has0 n = some r) :
    Fn Try.prog 100 #[.agg #[.int .i64 g.Events, .slice agPlaces g.Places.length cgPlaces], .func (.func 101) #[] #[.pointer (some ⟨bhas0, 0, none⟩)]] h fun v h' => ∃ (a0 : Option Addr) (c0 : Nat), v = .slice a0 r.length c0 ∧ Hold h h' [own cd2 a0 r.length c0 r] := by
  unfold impl_placesWith_F_impl_PlacesInto_1 at hF
  refine Fn_enter (args := [.agg #[.int .i64 g.Events, .slice agPlaces g.Places.length cgPlaces], .func (.func 101) #[] #[.pointer (some ⟨bhas0, 0, none⟩)]]) Try.func100 rfl (by kernel_rfl) (by kernel_rfl) (fun w0 _ => ?_)
  have H0 := Hold.init h
  refine Run_seq ?_
  refine Run_ops ?_
  refine Run_E (by kernel_rfl) ?_
  refine E_box (ty := 30) (cs := [.int .i64 g.Events, .slice agPlaces g.Places.length cgPlaces]) H0 (fun w => by kernel_rfl) (fun b1 h1 H1 => ?_)
  refine Run_b [.slice none 0 0] 1 _ (by kernel_rfl) (fun w => by kernel_rfl) ?_
  refine Run_nil (by kernel_rfl) ?_
  refine Run_keep [1, 2] (L' := [(1, .func (.func 101) #[] #[.pointer (some ⟨bhas0, 0, none⟩)]), (2, .pointer (some ⟨b1, 0, none⟩))]) (by kernel_rfl) ?_
  refine Run_seq ?_
  refine Run_reg 1 (by kernel_rfl) (L' := [(1, .func (.func 101) #[] #[.pointer (some ⟨bhas0, 0, none⟩)]), (2, .pointer (some ⟨b1, 0, none⟩)), (5, .slice none 0 0)]) ?_ ?_
  · refine QRun_b [.slice none 0 0] 0 _ (by kernel_rfl) (fun w => by kernel_rfl) ?_
    exact QRun_done [1, 2, 5] (by kernel_rfl) (by kernel_rfl)
  refine Run_seq ?_
  refine Run_seq ?_
  refine Run_reg 4 (by kernel_rfl) (L' := [(1, .func (.func 101) #[] #[.pointer (some ⟨bhas0, 0, none⟩)]), (5, .slice none 0 0), (9, .slice agPlaces g.Places.length cgPlaces), (10, .int .i64 (g.Places.length : Int)), (11, .int .i64 0)]) ?_ ?_
  · refine QRun_b [.pointer (some ⟨b1, 1, none⟩)] 0 _ (by kernel_rfl) (fun w => by kernel_rfl) ?_
    refine QRun_y (.slice agPlaces g.Places.length cgPlaces) (by kernel_rfl) (Y_load1 (t := 28) (p := ⟨b1, 1, none⟩) (v := .slice agPlaces g.Places.length cgPlaces) (by kernel_rfl) (fun w => by kernel_rfl) (H1.cell 0 rfl rfl)) ?_
    refine QRun_b [.int .i64 (g.Places.length : Int), .int .i64 0] 2 _ (by kernel_rfl) (fun w => by kernel_rfl) ?_
    exact QRun_done [1, 5, 9, 10, 11] (by kernel_rfl) (by kernel_rfl)
  obtain ⟨x1, gx1, hF⟩ := M.bind_some hF
  obtain ⟨hloy1, hhiy1, gx1⟩ := M.for_start gx1
  refine Run_join (fun L' h' => ∃ (a2 : Option Addr) (c2 : Nat), L' = [(5, .slice a2 x1.length c2)] ∧ Hold h h' [own cd2 a2 x1.length c2 x1]) ?_ ?_
  · rintro _ h3 ⟨a2, c2, rfl, H3⟩
    refine Run_seq ?_
    refine Run_reg 2 (by kernel_rfl) (L' := [(4, .slice a2 x1.length c2)]) ?_ ?_
    · refine QRun_b [.slice a2 x1.length c2, .slice a2 x1.length c2] 0 _ (by kernel_rfl) (fun w => by kernel_rfl) ?_
      exact QRun_done [4] (by kernel_rfl) (by kernel_rfl)
    have hF := M.ret_some hF
    subst hF
    exact Run_ret1 rfl (ResV_tmp (v := .slice a2 x1.length c2) (by kernel_rfl)) ⟨a2, c2, rfl, H3⟩
  · refine Run_block ?_
    have H17 := H1.empty cd2
    have H18 : Hold h h1 [own cd2 none 0 0 []] := H17.pick [0] (by kernel_rfl)
    refine Run_keep [1, 5, 9, 10, 11] (L' := [(1, .func (.func 101) #[] #[.pointer (some ⟨bhas0, 0, none⟩)]), (5, .slice none 0 0), (9, .slice agPlaces g.Places.length cgPlaces), (10, .int .i64 (g.Places.length : Int)), (11, .int .i64 0)]) (by kernel_rfl) ?_
    refine Run_loop (fun m L' h' => ∃ (i1 : Int) (s1 : (List Int)) (a1 : Option Addr) (c1 : Nat), 0 ≤ i1 ∧ M.forN (g.Places.length : Int) _ _ n m i1 s1 = some x1 ∧ L' = [(1, .func (.func 101) #[] #[.pointer (some ⟨bhas0, 0, none⟩)]), (5, .slice a1 s1.length c1), (9, .slice agPlaces g.Places.length cgPlaces), (10, .int .i64 (g.Places.length : Int)), (11, .int .i64 i1)] ∧ Hold h h' [own cd2 a1 s1.length c1 s1]) ((g.Places.length : Int) - 0 : Int).toNat ⟨0, [], none, 0, Int.le_refl _, gx1, rfl, H18⟩ ?_
    rintro my1 _ h2 ⟨i1, s1, a1, c1, hloy1', gx1, rfl, H2⟩
    refine Run_seq ?_
    refine Run_reg 1 (by kernel_rfl) (L' := [(1, .func (.func 101) #[] #[.pointer (some ⟨bhas0, 0, none⟩)]), (5, .slice a1 s1.length c1), (9, .slice agPlaces g.Places.length cgPlaces), (10, .int .i64 (g.Places.length : Int)), (11, .int .i64 i1), (12, .bool (decide (i1 < (g.Places.length : Int))))]) ?_ ?_
    · refine QRun_b [.bool (decide (i1 < (g.Places.length : Int)))] 0 _ (by kernel_rfl) (fun w => by kernel_rfl) ?_
      exact QRun_done [1, 5, 9, 10, 11, 12] (by kernel_rfl) (by kernel_rfl)
    refine Run_seq ?_
    refine Run_cond (b := decide (i1 < (g.Places.length : Int))) (by kernel_rfl) (fun hb1 => ?_) (fun hb1 => ?_)
    · obtain ⟨my1, y1, rfl, hB1, hgoy1, houty1⟩ := M.for_go gx1 hb1
      have hlty1 := of_decide_eq_true hb1
      refine Run_skip ?_
      refine Run_seq ?_
      refine Run_block ?_
      refine Run_seq ?_
      refine Run_ops ?_
      obtain ⟨x2, hx1, hB1⟩ := M.bind_some hB1
      obtain ⟨hx1l, hx1u, hx1⟩ := M.idx_some hx1
      refine Run_b [.int .i64 i1] 0 _ (by kernel_rfl) (fun w => by kernel_rfl) ?_
      refine Run_y (.pointer (some (adr agPlaces (i1.toNat * 4)))) (by kernel_rfl) (Y_idx (t := 28) (e := 58) (sz := 4) (a := agPlaces) (n := g.Places.length) (cap := cgPlaces) (kk := .i64) (i := i1) (by kernel_rfl) Try.underlying28 (by kernel_rfl) ((rgPlaces.at H2.ext).cell hx1).1 hx1l hx1u) ?_
      refine Run_y (.agg #[.int .i64 x2.From, .int .i64 x2.To, .int .i64 x2.Delay, .int .i64 x2.Tokens]) (by kernel_rfl) (Y_loadA (t := 58) (n := 4) (p := adr agPlaces (i1.toNat * 4)) (cs := [.int .i64 x2.From, .int .i64 x2.To, .int .i64 x2.Delay, .int .i64 x2.Tokens]) (by kernel_rfl) (fun w => by kernel_rfl) (by kernel_rfl) rfl (cd58_elem (rgPlaces.at H2.ext) hx1)) ?_
      refine Run_E (by kernel_rfl) ?_
      refine E_box (ty := 58) (cs := [.int .i64 0, .int .i64 0, .int .i64 0, .int .i64 0]) H2 (fun w => by kernel_rfl) (fun b2 h4 H4 => ?_)
      refine Run_b [.int .i64 i1] 4 _ (by kernel_rfl) (fun w => by kernel_rfl) ?_
      refine Run_E (by kernel_rfl) ?_
      refine E_bput (t := 58) (off := 0) (us := [.int .i64 x2.From, .int .i64 x2.To, .int .i64 x2.Delay, .int .i64 x2.Tokens]) (v := .agg #[.int .i64 x2.From, .int .i64 x2.To, .int .i64 x2.Delay, .int .i64 x2.Tokens]) H4 (by kernel_rfl) (by kernel_rfl) rfl (by kernel_rfl) rfl (fun h5 H5 => ?_)
      refine Run_nil (by kernel_rfl) ?_
      refine Run_keep [1, 5, 6, 7, 9, 10, 11] (L' := [(1, .func (.func 101) #[] #[.pointer (some ⟨bhas0, 0, none⟩)]), (5, .slice a1 s1.length c1), (6, .int .i64 i1), (7, .pointer (some ⟨b2, 0, none⟩)), (9, .slice agPlaces g.Places.length cgPlaces), (10, .int .i64 (g.Places.length : Int)), (11, .int .i64 i1)]) (by kernel_rfl) ?_
      refine Run_seq ?_
      obtain ⟨x3, hx2, hB1⟩ := M.bind_some hB1
      refine Run_regC (j := 3) (C := fun x => Hold h x [box b2 58 [.int .i64 x2.From, .int .i64 x2.To, .int .i64 x2.Delay, .int .i64 x2.Tokens], own cd2 a1 s1.length c1 s1]) (by kernel_rfl) H5 (L' := [(1, .func (.func 101) #[] #[.pointer (some ⟨bhas0, 0, none⟩)]), (5, .slice a1 s1.length c1), (6, .int .i64 i1), (9, .slice agPlaces g.Places.length cgPlaces), (10, .int .i64 (g.Places.length : Int)), (11, .int .i64 i1), (18, .bool x3)]) ?_ (fun h6 H6 => ?_)
      · refine QRun_b [.func (.func 101) #[] #[.pointer (some ⟨bhas0, 0, none⟩)]] 0 _ (by kernel_rfl) (fun w => by kernel_rfl) ?_
        refine QRun_y (.agg #[.int .i64 x2.From, .int .i64 x2.To, .int .i64 x2.Delay, .int .i64 x2.Tokens]) (by kernel_rfl) (Y_cls fun hx Hx => (Y_loadA (t := 58) (n := 4) (p := ⟨b2, 0, none⟩) (cs := [.int .i64 x2.From, .int .i64 x2.To, .int .i64 x2.Delay, .int .i64 x2.Tokens]) (by kernel_rfl) (fun w => by kernel_rfl) (by kernel_rfl) rfl (Hx.cells (n := 4) (off := 0) 0 rfl rfl))) ?_
        refine QRun_y (.bool x3) (by kernel_rfl) (Y_call (f := 101) (args := #[.agg #[.int .i64 x2.From, .int .i64 x2.To, .int .i64 x2.Delay, .int .i64 x2.Tokens], .pointer (some ⟨bhas0, 0, none⟩)]) (v := .bool x3) (by kernel_rfl) fun hx Hx => (w_impl_PlacesInto_1 hx x2 has0 bhas0 (vhas0.at Hx.ext) _ _ hx2).mono fun _ _ ⟨e, H'⟩ => ⟨e, Hx.call H' rfl⟩) ?_
        exact QRun_done [1, 5, 6, 9, 10, 11, 18] (by kernel_rfl) (by kernel_rfl)
      have H7 : Hold h h6 [box b2 58 [.int .i64 x2.From, .int .i64 x2.To, .int .i64 x2.Delay, .int .i64 x2.Tokens], own cd2 a1 s1.length c1 s1] := H6
      obtain ⟨s2, gs2, hB1⟩ := M.bind_some hB1
      refine Run_join (fun L' h' => ∃ (a5 : Option Addr), ∃ (c4 : Nat), L' = [(1, .func (.func 101) #[] #[.pointer (some ⟨bhas0, 0, none⟩)]), (5, .slice a5 s2.length c4), (9, .slice agPlaces g.Places.length cgPlaces), (10, .int .i64 (g.Places.length : Int)), (11, .int .i64 i1)] ∧ Hold h h' [own cd2 a5 s2.length c4 s2]) ?_ ?_
      · rintro _ h9 ⟨a5, c4, rfl, H13⟩
        refine Run_blk ?_
        refine Run_reg 2 (by kernel_rfl) (L' := [(1, .func (.func 101) #[] #[.pointer (some ⟨bhas0, 0, none⟩)]), (5, .slice a5 s2.length c4), (9, .slice agPlaces g.Places.length cgPlaces), (10, .int .i64 (g.Places.length : Int)), (11, .int .i64 (i1 + 1))]) ?_ ?_
        · refine QRun_y (.int .i64 (i1 + 1)) (by kernel_rfl) (Y_eq (v := .int .i64 (w64 (i1 + 1))) (Y_pure (fun w => by kernel_rfl)) (by rw [w64_eq _ (by omega)])) ?_
          refine QRun_b [.int .i64 (i1 + 1)] 1 _ (by kernel_rfl) (fun w => by kernel_rfl) ?_
          exact QRun_done [1, 5, 9, 10, 11] (by kernel_rfl) (by kernel_rfl)
        have hB1 := M.ret_some hB1
        have gx1 := hgoy1 _ hB1.symm
        exact Run_again [1, 5, 9, 10, 11] (by kernel_rfl) my1 (Nat.lt_succ_self _) ⟨i1 + 1, s2, a5, c4, by omega, gx1, rfl, H13⟩
      · refine Run_cond (b := x3) (by kernel_rfl) (fun hb2 => ?_) (fun hb2 => ?_)
        · have gs2 := (M.ite_some gs2).1 hb2
          refine Run_ops ?_
          refine Run_b [.slice a1 s1.length c1, .int .i64 i1] 0 _ (by kernel_rfl) (fun w => by kernel_rfl) ?_
          refine Run_E (by kernel_rfl) ?_
          refine E_lit (C := cd2) (n := 1) (l := ([i1] : List Int)) (cs := [.int .i64 i1]) H7 (fun w => by kernel_rfl) (Enc.consE (cd2_own i1 _) (Enc.nil _ _) rfl) rfl (by decide) (fun a3 h7 H8 => ?_)
          obtain ⟨l1, hl1, gs2⟩ := M.bind_some gs2
          have hl1 := M.app_some hl1
          have H9 : Hold h h7 [own cd2 a1 s1.length c1 s1, own cd2 a3 1 1 ([i1] : List Int), box b2 58 [.int .i64 x2.From, .int .i64 x2.To, .int .i64 x2.Delay, .int .i64 x2.Tokens]] := H8.pick [2, 0, 1] (by kernel_rfl)
          have H10 : Hold h h7 [own cd2 a3 1 1 ([i1] : List Int), own cd2 a1 s1.length c1 s1, box b2 58 [.int .i64 x2.From, .int .i64 x2.To, .int .i64 x2.Delay, .int .i64 x2.Tokens]] := H9.pick [1, 0, 2] (by kernel_rfl)
          have H11 : Hold h h7 [own cd2 a1 s1.length c1 s1, own cd2 a3 1 1 ([i1] : List Int), box b2 58 [.int .i64 x2.From, .int .i64 x2.To, .int .i64 x2.Delay, .int .i64 x2.Tokens]] := H10.pick [1, 0, 2] (by kernel_rfl)
          refine Run_E (by kernel_rfl) ?_
          refine E_app (C := cd2) (t := 39) (ty := 39) (n := s1.length) (m := 1) H11 cd2_ti rfl Try.underlying39 (by decide) (by kernel_rfl) hl1 (fun a4 c3 h8 H12 => ?_)
          refine Run_b [.slice a4 l1.length c3] 4 _ (by kernel_rfl) (fun w => by kernel_rfl) ?_
          refine Run_nil (by kernel_rfl) ?_
          refine Run_keep [1, 5, 9, 10, 11] (L' := [(1, .func (.func 101) #[] #[.pointer (some ⟨bhas0, 0, none⟩)]), (5, .slice a4 l1.length c3), (9, .slice agPlaces g.Places.length cgPlaces), (10, .int .i64 (g.Places.length : Int)), (11, .int .i64 i1)]) (by kernel_rfl) ?_
          have H14 : Hold h h8 [own cd2 a4 l1.length c3 l1] := H12.pick [0] (by kernel_rfl)
          have gs2 := M.ret_some gs2
          subst gs2
          exact Run_fall [1, 5, 9, 10, 11] (by kernel_rfl) ⟨a4, c3, rfl, H14⟩
        · have gs2 := (M.ite_some gs2).2 hb2
          refine Run_skip ?_
          have H15 : Hold h h6 [own cd2 a1 s1.length c1 s1, box b2 58 [.int .i64 x2.From, .int .i64 x2.To, .int .i64 x2.Delay, .int .i64 x2.Tokens]] := H7.pick [1, 0] (by kernel_rfl)
          have H16 : Hold h h6 [own cd2 a1 s1.length c1 s1] := H15.pick [0] (by kernel_rfl)
          have gs2 := M.ret_some gs2
          subst gs2
          exact Run_fall [1, 5, 9, 10, 11] (by kernel_rfl) ⟨a1, c1, rfl, H16⟩
    · have gx1 := M.for_end gx1 hb1
      subst gx1
      refine Run_exit (k' := _) rfl ?_
      exact Run_fall [5] (by kernel_rfl) ⟨a1, c1, rfl, H2⟩

set_option maxRecDepth 100000 in
set_option maxHeartbeats 4000000 in
theorem w_impl_PlacesInto (h : Heap) (g : TGraph) (agPlaces : Option Addr) (cgPlaces : Nat) (rgPlaces : Rd cd58 h (Lt h) agPlaces cgPlaces g.Places) (event : Int) (n : Nat) (r : (List Int) × Int) (hF : impl_PlacesInto g event n = some r) :
    Fn Try.prog 29 #[.agg #[.int .i64 g.Events, .slice agPlaces g.Places.length cgPlaces], .int .i64 event] h fun v h' => ∃ (a0 : Option Addr) (c0 : Nat), v = .tuple #[.slice a0 r.1.length c0, .int .i64 r.2] ∧ Hold h h' [own cd2 a0 r.1.length c0 r.1] := by
  unfold impl_PlacesInto at hF
  refine Fn_enter (args := [.agg #[.int .i64 g.Events, .slice agPlaces g.Places.length cgPlaces], .int .i64 event]) Try.func29 rfl (by kernel_rfl) (by kernel_rfl) (fun w0 _ => ?_)
  have H0 := Hold.init h
  refine Run_seq ?_
  refine Run_ops ?_
  refine Run_E (by kernel_rfl) ?_
  refine E_box (ty := 30) (cs := [.int .i64 g.Events, .slice agPlaces g.Places.length cgPlaces]) H0 (fun w => by kernel_rfl) (fun b1 h1 H1 => ?_)
  refine Run_E (by kernel_rfl) ?_
  refine E_box (ty := 2) (cs := [.int .i64 event]) H1 (fun w => by kernel_rfl) (fun b2 h2 H2 => ?_)
  refine Run_b [.slice none 0 0, .int .i64 0] 2 _ (by kernel_rfl) (fun w => by kernel_rfl) ?_
  refine Run_nil (by kernel_rfl) ?_
  refine Run_keep [2, 3] (L' := [(2, .pointer (some ⟨b1, 0, none⟩)), (3, .pointer (some ⟨b2, 0, none⟩))]) (by kernel_rfl) ?_
  refine Run_seq ?_
  refine Run_seq ?_
  obtain ⟨x1, hx1, hF⟩ := M.bind_some hF
  refine Run_regC (j := 4) (C := fun x => Hold h x [box b2 2 [.int .i64 event], box b1 30 [.int .i64 g.Events, .slice agPlaces g.Places.length cgPlaces]]) (by kernel_rfl) H2 (L' := [(2, .pointer (some ⟨b1, 0, none⟩)), (3, .pointer (some ⟨b2, 0, none⟩)), (6, .int .i64 x1)]) ?_ (fun h3 H3 => ?_)
  · refine QRun_y (.agg #[.int .i64 g.Events, .slice agPlaces g.Places.length cgPlaces]) (by kernel_rfl) (Y_cls fun hx Hx => (Y_loadA (t := 30) (n := 2) (p := ⟨b1, 0, none⟩) (cs := [.int .i64 g.Events, .slice agPlaces g.Places.length cgPlaces]) (by kernel_rfl) (fun w => by kernel_rfl) (by kernel_rfl) rfl (Hx.cells (n := 2) (off := 0) 1 rfl rfl))) ?_
    refine QRun_y (.int .i64 event) (by kernel_rfl) (Y_cls fun hx Hx => (Y_load1 (t := 2) (p := ⟨b2, 0, none⟩) (v := .int .i64 event) (by kernel_rfl) (fun w => by kernel_rfl) (Hx.cell 0 rfl rfl))) ?_
    refine QRun_y (.int .i64 x1) (by kernel_rfl) (Y_call (f := 99) (args := #[.agg #[.int .i64 g.Events, .slice agPlaces g.Places.length cgPlaces], .int .i64 event]) (v := .int .i64 x1) (by kernel_rfl) fun hx Hx => (w_impl_checkEvent hx g agPlaces cgPlaces (rgPlaces.at Hx.ext) event _ _ hx1).mono fun _ _ ⟨e, H'⟩ => ⟨e, Hx.call H' rfl⟩) ?_
    refine QRun_b [.int .i64 x1] 3 _ (by kernel_rfl) (fun w => by kernel_rfl) ?_
    exact QRun_done [2, 3, 6] (by kernel_rfl) (by kernel_rfl)
  have H4 : Hold h h3 [box b2 2 [.int .i64 event], box b1 30 [.int .i64 g.Events, .slice agPlaces g.Places.length cgPlaces]] := H3
  refine Run_seq ?_
  refine Run_reg 2 (by kernel_rfl) (L' := [(2, .pointer (some ⟨b1, 0, none⟩)), (3, .pointer (some ⟨b2, 0, none⟩)), (6, .int .i64 x1), (11, .bool (x1 != 0))]) ?_ ?_
  · refine QRun_b [.int .i64 x1, .bool (x1 != 0)] 0 _ (by kernel_rfl) (fun w => by kernel_rfl) ?_
    exact QRun_done [2, 3, 6, 11] (by kernel_rfl) (by kernel_rfl)
  refine Run_cond (b := x1 != 0) (by kernel_rfl) (fun hb1 => ?_) (fun hb1 => ?_)
  · have hF := (M.ite_some hF).1 hb1
    refine Run_seq ?_
    refine Run_reg 3 (by kernel_rfl) (L' := [(4, .slice none 0 0), (5, .int .i64 x1)]) ?_ ?_
    · refine QRun_b [.int .i64 x1, .slice none 0 0, .int .i64 x1] 0 _ (by kernel_rfl) (fun w => by kernel_rfl) ?_
      exact QRun_done [4, 5] (by kernel_rfl) (by kernel_rfl)
    have hF := M.ret_some hF
    subst hF
    have H5 := H4.empty cd2
    have H6 : Hold h h3 [own cd2 none 0 0 []] := H5.pick [0] (by kernel_rfl)
    exact Run_ret2 rfl (ResV_tmp (v := .slice none 0 0) (by kernel_rfl)) (ResV_tmp (v := .int .i64 x1) (by kernel_rfl)) ⟨none, 0, rfl, H6⟩
  · have hF := (M.ite_some hF).2 hb1
    refine Run_skip ?_
    refine Run_seq ?_
    refine Run_ops ?_
    refine Run_y (.agg #[.int .i64 g.Events, .slice agPlaces g.Places.length cgPlaces]) (by kernel_rfl) (Y_loadA (t := 30) (n := 2) (p := ⟨b1, 0, none⟩) (cs := [.int .i64 g.Events, .slice agPlaces g.Places.length cgPlaces]) (by kernel_rfl) (fun w => by kernel_rfl) (by kernel_rfl) rfl (H4.cells (n := 2) (off := 0) 1 rfl rfl)) ?_
    refine Run_b [.func (.func 101) #[] #[.pointer (some ⟨b2, 0, none⟩)]] 1 _ (by kernel_rfl) (fun w => by kernel_rfl) ?_
    obtain ⟨x2, hx2, hF⟩ := M.bind_some hF
    refine Run_E (by kernel_rfl) ?_
    refine E_call (f := 100) (args := #[.agg #[.int .i64 g.Events, .slice agPlaces g.Places.length cgPlaces], .func (.func 101) #[] #[.pointer (some ⟨b2, 0, none⟩)]]) (w_impl_placesWith_F_impl_PlacesInto_1 h3 g agPlaces cgPlaces (rgPlaces.at H4.ext) event b2 (H4.var 0 rfl) _ _ hx2) (by kernel_rfl) (fun v1 h4 hp1 => ?_)
    obtain ⟨a1, c1, rfl, H7⟩ := hp1
    have H8 : Hold h h4 [own cd2 a1 x2.length c1 x2, box b2 2 [.int .i64 event], box b1 30 [.int .i64 g.Events, .slice agPlaces g.Places.length cgPlaces]] := H4.call H7 rfl
    refine Run_b [.slice a1 x2.length c1, .int .i64 0] 3 _ (by kernel_rfl) (fun w => by kernel_rfl) ?_
    refine Run_nil (by kernel_rfl) ?_
    refine Run_keep [4, 5] (L' := [(4, .slice a1 x2.length c1), (5, .int .i64 0)]) (by kernel_rfl) ?_
    have hF := M.ret_some hF
    subst hF
    have H9 : Hold h h4 [own cd2 a1 x2.length c1 x2] := H8.pick [0] (by kernel_rfl)
    exact Run_ret2 rfl (ResV_tmp (v := .slice a1 x2.length c1) (by kernel_rfl)) (ResV_tmp (v := .int .i64 0) (by kernel_rfl)) ⟨a1, c1, rfl, H9⟩

set_option maxRecDepth 100000 in
set_option maxHeartbeats 4000000 in
theorem w_spec_l01In (h : Heap) (n_ : Int) (low : Int) (high : Int) (n : Nat) (r : Bool) (hF : spec_l01In n_ low high n = some r) :
    Fn Try.prog 78 #[.int .i64 n_, .int .i64 low, .int .i64 high] h fun v h' => v = .bool r ∧ h' = h := by
  unfold spec_l01In at hF
  refine Fn_enter (args := [.int .i64 n_, .int .i64 low, .int .i64 high]) Try.func78 rfl (by kernel_rfl) (by kernel_rfl) (fun w0 _ => ?_)
  refine Run_seq ?_
  refine Run_reg 1 (by kernel_rfl) (L' := [(0, .int .i64 n_), (1, .int .i64 low), (2, .int .i64 high)]) ?_ ?_
  · refine QRun_b [.bool false] 0 _ (by kernel_rfl) (fun w => by kernel_rfl) ?_
    exact QRun_done [0, 1, 2] (by kernel_rfl) (by kernel_rfl)
  refine Run_seq ?_
  refine Run_reg 9 (by kernel_rfl) (L' := [(6, .bool ((decide (low ≤ n_)) && (decide (n_ ≤ high))))]) ?_ ?_
  · refine QRun_b [.int .i64 n_, .int .i64 low, .bool (decide (low ≤ n_))] 0 _ (by kernel_rfl) (fun w => by kernel_rfl) ?_
    refine QRun_seq 8 [(14, .bool ((decide (low ≤ n_)) && (decide (n_ ≤ high))))] ?_ ?_
    · rcases Bool.eq_false_or_eq_true (decide (low ≤ n_)) with hb1 | hb1
      · refine QRun_bool (decide (low ≤ n_)) true (by kernel_rfl) (fun w => by kernel_rfl) hb1 ?_
        refine QRun_b [.int .i64 n_, .int .i64 high, .bool (decide (n_ ≤ high))] 4 _ (by kernel_rfl) (fun w => by kernel_rfl) ?_
        refine QRun_bool (decide (n_ ≤ high)) ((decide (low ≤ n_)) && (decide (n_ ≤ high))) (by kernel_rfl) (fun w => by kernel_rfl) (by rw [hb1]; rfl) ?_
        exact QRun_done [14] (by kernel_rfl) (by kernel_rfl)
      · refine QRun_bool (decide (low ≤ n_)) false (by kernel_rfl) (fun w => by kernel_rfl) hb1 ?_
        refine QRun_n (by kernel_rfl) ?_
        refine QRun_n (by kernel_rfl) ?_
        refine QRun_n (by kernel_rfl) ?_
        refine QRun_bool false ((decide (low ≤ n_)) && (decide (n_ ≤ high))) (by kernel_rfl) (fun w => by kernel_rfl) (by rw [hb1]; rfl) ?_
        exact QRun_done [14] (by kernel_rfl) (by kernel_rfl)
    refine QRun_b [.bool ((decide (low ≤ n_)) && (decide (n_ ≤ high)))] 8 _ (by kernel_rfl) (fun w => by kernel_rfl) ?_
    exact QRun_done [6] (by kernel_rfl) (by kernel_rfl)
  have hF := M.ret_some hF
  subst hF
  exact Run_ret1 rfl (ResV_tmp (v := .bool ((decide (low ≤ n_)) && (decide (n_ ≤ high)))) (by kernel_rfl)) ⟨rfl, rfl⟩

set_option maxRecDepth 100000 in
set_option maxHeartbeats 4000000 in
theorem w_spec_l11Place (h : Heap) (p : TPlace) (events : Int) (n : Nat) (r : Bool) (hF : spec_l11Place p events n = some r) :
    Fn Try.prog 140 #[.agg #[.int .i64 p.From, .int .i64 p.To, .int .i64 p.Delay, .int .i64 p.Tokens], .int .i64 events] h fun v h' => v = .bool r ∧ Hold h h' [] := by
  unfold spec_l11Place at hF
  refine Fn_enter (args := [.agg #[.int .i64 p.From, .int .i64 p.To, .int .i64 p.Delay, .int .i64 p.Tokens], .int .i64 events]) Try.func140 rfl (by kernel_rfl) (by kernel_rfl) (fun w0 _ => ?_)
  have H0 := Hold.init h
  refine Run_seq ?_
  refine Run_ops ?_
  refine Run_E (by kernel_rfl) ?_
  refine E_box (ty := 58) (cs := [.int .i64 p.From, .int .i64 p.To, .int .i64 p.Delay, .int .i64 p.Tokens]) H0 (fun w => by kernel_rfl) (fun b1 h1 H1 => ?_)
  refine Run_b [.bool false] 1 _ (by kernel_rfl) (fun w => by kernel_rfl) ?_
  refine Run_nil (by kernel_rfl) ?_
  refine Run_keep [1, 2] (L' := [(1, .int .i64 events), (2, .pointer (some ⟨b1, 0, none⟩))]) (by kernel_rfl) ?_
  refine Run_seq ?_
  obtain ⟨x1, hx1, hF⟩ := M.bind_some hF
  obtain ⟨x2, gx2, hF⟩ := M.bind_some hF
  obtain ⟨x4, gx4, hF⟩ := M.bind_some hF
  obtain ⟨x6, gx6, hF⟩ := M.bind_some hF
  refine Run_reg 23 (by kernel_rfl) (L' := [(4, .bool x6)]) ?_ ?_
  · refine QRun_b [.pointer (some ⟨b1, 0, none⟩)] 0 _ (by kernel_rfl) (fun w => by kernel_rfl) ?_
    refine QRun_y (.int .i64 p.From) (by kernel_rfl) (Y_load1 (t := 2) (p := ⟨b1, 0, none⟩) (v := .int .i64 p.From) (by kernel_rfl) (fun w => by kernel_rfl) (H1.cell 0 rfl rfl)) ?_
    refine QRun_b [.int .i64 events, .int .i64 (w64 (events - 1))] 2 _ (by kernel_rfl) (fun w => by kernel_rfl) ?_
    refine QRun_y (.bool x1) (by kernel_rfl) (Y_callq (f := 78) (args := #[.int .i64 p.From, .int .i64 0, .int .i64 (w64 (events - 1))]) (v := .bool x1) (by kernel_rfl) (w_spec_l01In h1 p.From 0 (w64 (events - 1)) _ _ hx1)) ?_
    refine QRun_seq 12 [(2, .pointer (some ⟨b1, 0, none⟩)), (16, .bool x2)] ?_ ?_
    · rcases Bool.eq_false_or_eq_true x1 with hb1 | hb1
      · refine QRun_bool x1 true (by kernel_rfl) (fun w => by kernel_rfl) hb1 ?_
        have gx2 := (M.ite_some gx2).1 hb1
        obtain ⟨x3, hx2, gx2⟩ := M.bind_some gx2
        have gx2 := M.ret_some gx2
        refine QRun_b [.pointer (some ⟨b1, 1, none⟩)] 6 _ (by kernel_rfl) (fun w => by kernel_rfl) ?_
        refine QRun_y (.int .i64 p.To) (by kernel_rfl) (Y_load1 (t := 2) (p := ⟨b1, 1, none⟩) (v := .int .i64 p.To) (by kernel_rfl) (fun w => by kernel_rfl) (H1.cell 0 rfl rfl)) ?_
        refine QRun_b [.int .i64 events, .int .i64 (w64 (events - 1))] 8 _ (by kernel_rfl) (fun w => by kernel_rfl) ?_
        refine QRun_y (.bool x3) (by kernel_rfl) (Y_callq (f := 78) (args := #[.int .i64 p.To, .int .i64 0, .int .i64 (w64 (events - 1))]) (v := .bool x3) (by kernel_rfl) (w_spec_l01In h1 p.To 0 (w64 (events - 1)) _ _ hx2)) ?_
        refine QRun_bool x3 x2 (by kernel_rfl) (fun w => by kernel_rfl) gx2 ?_
        exact QRun_done [2, 16] (by kernel_rfl) (by kernel_rfl)
      · refine QRun_bool x1 false (by kernel_rfl) (fun w => by kernel_rfl) hb1 ?_
        have gx2 := M.ret_some ((M.ite_some gx2).2 hb1)
        refine QRun_n (by kernel_rfl) ?_
        refine QRun_n (by kernel_rfl) ?_
        refine QRun_n (by kernel_rfl) ?_
        refine QRun_n (by kernel_rfl) ?_
        refine QRun_n (by kernel_rfl) ?_
        refine QRun_bool false x2 (by kernel_rfl) (fun w => by kernel_rfl) gx2 ?_
        exact QRun_done [2, 16] (by kernel_rfl) (by kernel_rfl)
    refine QRun_seq 17 [(2, .pointer (some ⟨b1, 0, none⟩)), (21, .bool x4)] ?_ ?_
    · rcases Bool.eq_false_or_eq_true x2 with hb2 | hb2
      · refine QRun_bool x2 true (by kernel_rfl) (fun w => by kernel_rfl) hb2 ?_
        have gx4 := (M.ite_some gx4).1 hb2
        obtain ⟨x5, hx3, gx4⟩ := M.bind_some gx4
        have gx4 := M.ret_some gx4
        refine QRun_b [.pointer (some ⟨b1, 2, none⟩)] 13 _ (by kernel_rfl) (fun w => by kernel_rfl) ?_
        refine QRun_y (.int .i64 p.Delay) (by kernel_rfl) (Y_load1 (t := 2) (p := ⟨b1, 2, none⟩) (v := .int .i64 p.Delay) (by kernel_rfl) (fun w => by kernel_rfl) (H1.cell 0 rfl rfl)) ?_
        refine QRun_y (.bool x5) (by kernel_rfl) (Y_callq (f := 78) (args := #[.int .i64 p.Delay, .int .i64 0, .int .i64 1000]) (v := .bool x5) (by kernel_rfl) (w_spec_l01In h1 p.Delay 0 1000 _ _ hx3)) ?_
        refine QRun_bool x5 x4 (by kernel_rfl) (fun w => by kernel_rfl) gx4 ?_
        exact QRun_done [2, 21] (by kernel_rfl) (by kernel_rfl)
      · refine QRun_bool x2 false (by kernel_rfl) (fun w => by kernel_rfl) hb2 ?_
        have gx4 := M.ret_some ((M.ite_some gx4).2 hb2)
        refine QRun_n (by kernel_rfl) ?_
        refine QRun_n (by kernel_rfl) ?_
        refine QRun_n (by kernel_rfl) ?_
        refine QRun_bool false x4 (by kernel_rfl) (fun w => by kernel_rfl) gx4 ?_
        exact QRun_done [2, 21] (by kernel_rfl) (by kernel_rfl)
    refine QRun_seq 22 [(26, .bool x6)] ?_ ?_
    · rcases Bool.eq_false_or_eq_true x4 with hb3 | hb3
      · refine QRun_bool x4 true (by kernel_rfl) (fun w => by kernel_rfl) hb3 ?_
        have gx6 := (M.ite_some gx6).1 hb3
        obtain ⟨x7, hx4, gx6⟩ := M.bind_some gx6
        have gx6 := M.ret_some gx6
        refine QRun_b [.pointer (some ⟨b1, 3, none⟩)] 18 _ (by kernel_rfl) (fun w => by kernel_rfl) ?_
        refine QRun_y (.int .i64 p.Tokens) (by kernel_rfl) (Y_load1 (t := 2) (p := ⟨b1, 3, none⟩) (v := .int .i64 p.Tokens) (by kernel_rfl) (fun w => by kernel_rfl) (H1.cell 0 rfl rfl)) ?_
        refine QRun_y (.bool x7) (by kernel_rfl) (Y_callq (f := 78) (args := #[.int .i64 p.Tokens, .int .i64 0, .int .i64 5]) (v := .bool x7) (by kernel_rfl) (w_spec_l01In h1 p.Tokens 0 5 _ _ hx4)) ?_
        refine QRun_bool x7 x6 (by kernel_rfl) (fun w => by kernel_rfl) gx6 ?_
        exact QRun_done [26] (by kernel_rfl) (by kernel_rfl)
      · refine QRun_bool x4 false (by kernel_rfl) (fun w => by kernel_rfl) hb3 ?_
        have gx6 := M.ret_some ((M.ite_some gx6).2 hb3)
        refine QRun_n (by kernel_rfl) ?_
        refine QRun_n (by kernel_rfl) ?_
        refine QRun_n (by kernel_rfl) ?_
        refine QRun_bool false x6 (by kernel_rfl) (fun w => by kernel_rfl) gx6 ?_
        exact QRun_done [26] (by kernel_rfl) (by kernel_rfl)
    refine QRun_b [.bool x6] 22 _ (by kernel_rfl) (fun w => by kernel_rfl) ?_
    exact QRun_done [4] (by kernel_rfl) (by kernel_rfl)
  have hF := M.ret_some hF
  subst hF
  have H2 : Hold h h1 [] := H1.pick [] (by kernel_rfl)
  exact Run_ret1 rfl (ResV_tmp (v := .bool x6) (by kernel_rfl)) ⟨rfl, H2⟩

set_option maxRecDepth 100000 in
set_option maxHeartbeats 4000000 in
theorem w_spec_IsEventGraph (h : Heap) (g : TGraph) (agPlaces : Option Addr) (cgPlaces : Nat) (rgPlaces : Rd cd58 h (Lt h) agPlaces cgPlaces g.Places) (n : Nat) (r : Bool) (hF : spec_IsEventGraph g n = some r) :
    Fn Try.prog 70 #[.agg #[.int .i64 g.Events, .slice agPlaces g.Places.length cgPlaces]] h fun v h' => v = .bool r ∧ Hold h h' [] := by
  unfold spec_IsEventGraph at hF
  refine Fn_enter (args := [.agg #[.int .i64 g.Events, .slice agPlaces g.Places.length cgPlaces]]) Try.func70 rfl (by kernel_rfl) (by kernel_rfl) (fun w0 _ => ?_)
  have H0 := Hold.init h
  refine Run_seq ?_
  refine Run_ops ?_
  refine Run_E (by kernel_rfl) ?_
  refine E_box (ty := 30) (cs := [.int .i64 g.Events, .slice agPlaces g.Places.length cgPlaces]) H0 (fun w => by kernel_rfl) (fun b1 h1 H1 => ?_)
  refine Run_b [.bool false] 1 _ (by kernel_rfl) (fun w => by kernel_rfl) ?_
  refine Run_nil (by kernel_rfl) ?_
  refine Run_keep [1] (L' := [(1, .pointer (some ⟨b1, 0, none⟩))]) (by kernel_rfl) ?_
  refine Run_seq ?_
  refine Run_seq ?_
  refine Run_reg 1 (by kernel_rfl) (L' := [(1, .pointer (some ⟨b1, 0, none⟩)), (3, .int .i64 0)]) ?_ ?_
  · refine QRun_b [.int .i64 0] 0 _ (by kernel_rfl) (fun w => by kernel_rfl) ?_
    exact QRun_done [1, 3] (by kernel_rfl) (by kernel_rfl)
  obtain ⟨x1, gx1, hF⟩ := M.bind_some hF
  refine Run_join (fun L' h' => ∃ (s2 : Int), x1 = .inl s2 ∧ L' = [(1, .pointer (some ⟨b1, 0, none⟩))] ∧ Hold h h' [box b1 30 [.int .i64 g.Events, .slice agPlaces g.Places.length cgPlaces]]) ?_ ?_
  · rintro _ h3 ⟨s2, es2, rfl, H3⟩
    have hF := M.cont_inl' hF es2
    refine Run_seq ?_
    obtain ⟨x4, hx3, hF⟩ := M.bind_some hF
    refine Run_reg 10 (by kernel_rfl) (L' := [(2, .bool (x4 && (decide ((g.Places.length : Int) ≤ 30))))]) ?_ ?_
    · refine QRun_b [.pointer (some ⟨b1, 0, none⟩)] 0 _ (by kernel_rfl) (fun w => by kernel_rfl) ?_
      refine QRun_y (.int .i64 g.Events) (by kernel_rfl) (Y_load1 (t := 2) (p := ⟨b1, 0, none⟩) (v := .int .i64 g.Events) (by kernel_rfl) (fun w => by kernel_rfl) (H3.cell 0 rfl rfl)) ?_
      refine QRun_y (.bool x4) (by kernel_rfl) (Y_callq (f := 78) (args := #[.int .i64 g.Events, .int .i64 1, .int .i64 10]) (v := .bool x4) (by kernel_rfl) (w_spec_l01In h3 g.Events 1 10 _ _ hx3)) ?_
      refine QRun_seq 9 [(28, .bool (x4 && (decide ((g.Places.length : Int) ≤ 30))))] ?_ ?_
      · rcases Bool.eq_false_or_eq_true x4 with hb3 | hb3
        · refine QRun_bool x4 true (by kernel_rfl) (fun w => by kernel_rfl) hb3 ?_
          refine QRun_b [.pointer (some ⟨b1, 1, none⟩)] 4 _ (by kernel_rfl) (fun w => by kernel_rfl) ?_
          refine QRun_y (.slice agPlaces g.Places.length cgPlaces) (by kernel_rfl) (Y_load1 (t := 28) (p := ⟨b1, 1, none⟩) (v := .slice agPlaces g.Places.length cgPlaces) (by kernel_rfl) (fun w => by kernel_rfl) (H3.cell 0 rfl rfl)) ?_
          refine QRun_b [.int .i64 (g.Places.length : Int), .bool (decide ((g.Places.length : Int) ≤ 30))] 6 _ (by kernel_rfl) (fun w => by kernel_rfl) ?_
          refine QRun_bool (decide ((g.Places.length : Int) ≤ 30)) (x4 && (decide ((g.Places.length : Int) ≤ 30))) (by kernel_rfl) (fun w => by kernel_rfl) (by rw [hb3]; rfl) ?_
          exact QRun_done [28] (by kernel_rfl) (by kernel_rfl)
        · refine QRun_bool x4 false (by kernel_rfl) (fun w => by kernel_rfl) hb3 ?_
          refine QRun_n (by kernel_rfl) ?_
          refine QRun_n (by kernel_rfl) ?_
          refine QRun_n (by kernel_rfl) ?_
          refine QRun_n (by kernel_rfl) ?_
          refine QRun_bool false (x4 && (decide ((g.Places.length : Int) ≤ 30))) (by kernel_rfl) (fun w => by kernel_rfl) (by rw [hb3]; rfl) ?_
          exact QRun_done [28] (by kernel_rfl) (by kernel_rfl)
      refine QRun_b [.bool (x4 && (decide ((g.Places.length : Int) ≤ 30)))] 9 _ (by kernel_rfl) (fun w => by kernel_rfl) ?_
      exact QRun_done [2] (by kernel_rfl) (by kernel_rfl)
    have hF := M.ret_some hF
    subst hF
    have H7 : Hold h h3 [] := H3.pick [] (by kernel_rfl)
    exact Run_ret1 rfl (ResV_tmp (v := .bool (x4 && (decide ((g.Places.length : Int) ≤ 30)))) (by kernel_rfl)) ⟨rfl, H7⟩
  · refine Run_block ?_
    refine Run_keep [1, 3] (L' := [(1, .pointer (some ⟨b1, 0, none⟩)), (3, .int .i64 0)]) (by kernel_rfl) ?_
    refine Run_loop (fun m L' h' => ∃ (s1 : Int), M.loopN _ n m s1 = some x1 ∧ L' = [(1, .pointer (some ⟨b1, 0, none⟩)), (3, .int .i64 s1)] ∧ Hold h h' [box b1 30 [.int .i64 g.Events, .slice agPlaces g.Places.length cgPlaces]]) n ⟨0, gx1, rfl, H1⟩ ?_
    rintro my1 _ h2 ⟨s1, gx1, rfl, H2⟩
    obtain ⟨my1, y1, rfl, hB1, hgoy1, houty1⟩ := M.loop_some gx1
    refine Run_seq ?_
    refine Run_seq ?_
    refine Run_reg 5 (by kernel_rfl) (L' := [(1, .pointer (some ⟨b1, 0, none⟩)), (3, .int .i64 s1), (8, .bool (decide (s1 < (g.Places.length : Int))))]) ?_ ?_
    · refine QRun_b [.int .i64 s1, .pointer (some ⟨b1, 1, none⟩)] 0 _ (by kernel_rfl) (fun w => by kernel_rfl) ?_
      refine QRun_y (.slice agPlaces g.Places.length cgPlaces) (by kernel_rfl) (Y_load1 (t := 28) (p := ⟨b1, 1, none⟩) (v := .slice agPlaces g.Places.length cgPlaces) (by kernel_rfl) (fun w => by kernel_rfl) (H2.cell 0 rfl rfl)) ?_
      refine QRun_b [.int .i64 (g.Places.length : Int), .bool (decide (s1 < (g.Places.length : Int)))] 3 _ (by kernel_rfl) (fun w => by kernel_rfl) ?_
      exact QRun_done [1, 3, 8] (by kernel_rfl) (by kernel_rfl)
    refine Run_cond (b := decide (s1 < (g.Places.length : Int))) (by kernel_rfl) (fun hb1 => ?_) (fun hb1 => ?_)
    · have hB1 := (M.ite_some hB1).1 hb1
      refine Run_skip ?_
      refine Run_seq ?_
      refine Run_block ?_
      refine Run_seq ?_
      obtain ⟨x2, hx1, hB1⟩ := M.bind_some hB1
      obtain ⟨hx1l, hx1u, hx1⟩ := M.idx_some hx1
      obtain ⟨x3, hx2, hB1⟩ := M.bind_some hB1
      refine Run_drawC (j := 9) (C := fun x => Hold h x [box b1 30 [.int .i64 g.Events, .slice agPlaces g.Places.length cgPlaces]]) mixed (by kernel_rfl) (by kernel_rfl) H2 (L' := [(1, .pointer (some ⟨b1, 0, none⟩)), (3, .int .i64 s1), (19, .bool (!x3))]) ?_ (fun h4 H4 => ?_)
      · refine QRun_b [.pointer (some ⟨b1, 1, none⟩)] 0 _ (by kernel_rfl) (fun w => by kernel_rfl) ?_
        refine QRun_y (.slice agPlaces g.Places.length cgPlaces) (by kernel_rfl) (Y_cls fun hx Hx => (Y_load1 (t := 28) (p := ⟨b1, 1, none⟩) (v := .slice agPlaces g.Places.length cgPlaces) (by kernel_rfl) (fun w => by kernel_rfl) (Hx.cell 0 rfl rfl))) ?_
        refine QRun_b [.int .i64 s1] 2 _ (by kernel_rfl) (fun w => by kernel_rfl) ?_
        refine QRun_y (.pointer (some (adr agPlaces (s1.toNat * 4)))) (by kernel_rfl) (Y_cls fun hx Hx => (Y_idx (t := 28) (e := 58) (sz := 4) (a := agPlaces) (n := g.Places.length) (cap := cgPlaces) (kk := .i64) (i := s1) (by kernel_rfl) Try.underlying28 (by kernel_rfl) ((rgPlaces.at H2.ext).cell hx1).1 hx1l hx1u)) ?_
        refine QRun_y (.agg #[.int .i64 x2.From, .int .i64 x2.To, .int .i64 x2.Delay, .int .i64 x2.Tokens]) (by kernel_rfl) (Y_cls fun hx Hx => (Y_loadA (t := 58) (n := 4) (p := adr agPlaces (s1.toNat * 4)) (cs := [.int .i64 x2.From, .int .i64 x2.To, .int .i64 x2.Delay, .int .i64 x2.Tokens]) (by kernel_rfl) (fun w => by kernel_rfl) (by kernel_rfl) rfl (cd58_elem (rgPlaces.at Hx.ext) hx1))) ?_
        refine QRun_b [.pointer (some ⟨b1, 0, none⟩)] 5 _ (by kernel_rfl) (fun w => by kernel_rfl) ?_
        refine QRun_y (.int .i64 g.Events) (by kernel_rfl) (Y_cls fun hx Hx => (Y_load1 (t := 2) (p := ⟨b1, 0, none⟩) (v := .int .i64 g.Events) (by kernel_rfl) (fun w => by kernel_rfl) (Hx.cell 0 rfl rfl))) ?_
        refine QRun_y (.bool x3) (by kernel_rfl) (Y_call (f := 140) (args := #[.agg #[.int .i64 x2.From, .int .i64 x2.To, .int .i64 x2.Delay, .int .i64 x2.Tokens], .int .i64 g.Events]) (v := .bool x3) (by kernel_rfl) fun hx Hx => (w_spec_l11Place hx x2 g.Events _ _ hx2).mono fun _ _ ⟨e, H'⟩ => ⟨e, Hx.call H' rfl⟩) ?_
        refine QRun_b [.bool (!x3)] 8 _ (by kernel_rfl) (fun w => by kernel_rfl) ?_
        exact QRun_done [1, 3, 19] (by kernel_rfl) (by kernel_rfl)
      have H5 : Hold h h4 [box b1 30 [.int .i64 g.Events, .slice agPlaces g.Places.length cgPlaces]] := H4
      refine Run_cond (b := !x3) (by kernel_rfl) (fun hb2 => ?_) (fun hb2 => ?_)
      · have hB1 := (M.ite_some hB1).1 hb2
        refine Run_seq ?_
        refine Run_reg 1 (by kernel_rfl) (L' := [(2, .bool false)]) ?_ ?_
        · refine QRun_b [.bool false] 0 _ (by kernel_rfl) (fun w => by kernel_rfl) ?_
          exact QRun_done [2] (by kernel_rfl) (by kernel_rfl)
        have hB1 := M.ret_some hB1
        have gx1 := houty1 _ hB1.symm
        have hF := M.cont_inr' hF gx1
        have hF := M.ret_some hF
        subst hF
        have H6 : Hold h h4 [] := H5.pick [] (by kernel_rfl)
        exact Run_ret1 rfl (ResV_tmp (v := .bool false) (by kernel_rfl)) ⟨rfl, H6⟩
      · have hB1 := (M.ite_some hB1).2 hb2
        refine Run_skip ?_
        refine Run_blk ?_
        refine Run_reg 3 (by kernel_rfl) (L' := [(1, .pointer (some ⟨b1, 0, none⟩)), (3, .int .i64 (w64 (s1 + 1)))]) ?_ ?_
        · refine QRun_b [.int .i64 s1, .int .i64 (w64 (s1 + 1)), .int .i64 (w64 (s1 + 1))] 0 _ (by kernel_rfl) (fun w => by kernel_rfl) ?_
          exact QRun_done [1, 3] (by kernel_rfl) (by kernel_rfl)
        have hB1 := M.ret_some hB1
        have gx1 := hgoy1 _ hB1.symm
        exact Run_again [1, 3] (by kernel_rfl) my1 (Nat.lt_succ_self _) ⟨(w64 (s1 + 1)), gx1, rfl, H5⟩
    · have hB1 := (M.ite_some hB1).2 hb1
      refine Run_exit (k' := _) rfl ?_
      have hB1 := M.ret_some hB1
      have gx1 := houty1 _ hB1.symm
      subst gx1
      exact Run_fall [1] (by kernel_rfl) ⟨s1, rfl, rfl, H2⟩

set_option maxRecDepth 100000 in
set_option maxHeartbeats 4000000 in
theorem w_spec_l11Event (h : Heap) (g : TGraph) (agPlaces : Option Addr) (cgPlaces : Nat) (rgPlaces : Rd cd58 h (Lt h) agPlaces cgPlaces g.Places) (event : Int) (n : Nat) (r : Int) (hF : spec_l11Event g event n = some r) :
    Fn Try.prog 102 #[.agg #[.int .i64 g.Events, .slice agPlaces g.Places.length cgPlaces], .int .i64 event] h fun v h' => v = .int .i64 r ∧ Hold h h' [] := by
  unfold spec_l11Event at hF
  refine Fn_enter (args := [.agg #[.int .i64 g.Events, .slice agPlaces g.Places.length cgPlaces], .int .i64 event]) Try.func102 rfl (by kernel_rfl) (by kernel_rfl) (fun w0 _ => ?_)
  have H0 := Hold.init h
  refine Run_seq ?_
  refine Run_ops ?_
  refine Run_E (by kernel_rfl) ?_
  refine E_box (ty := 30) (cs := [.int .i64 g.Events, .slice agPlaces g.Places.length cgPlaces]) H0 (fun w => by kernel_rfl) (fun b1 h1 H1 => ?_)
  refine Run_b [.int .i64 0] 1 _ (by kernel_rfl) (fun w => by kernel_rfl) ?_
  refine Run_nil (by kernel_rfl) ?_
  refine Run_keep [1, 2] (L' := [(1, .int .i64 event), (2, .pointer (some ⟨b1, 0, none⟩))]) (by kernel_rfl) ?_
  refine Run_seq ?_
  refine Run_block ?_
  refine Run_seq ?_
  obtain ⟨x1, hx1, hF⟩ := M.bind_some hF
  refine Run_regC (j := 4) (C := fun x => Hold h x [box b1 30 [.int .i64 g.Events, .slice agPlaces g.Places.length cgPlaces]]) (by kernel_rfl) H1 (L' := [(1, .int .i64 event), (2, .pointer (some ⟨b1, 0, none⟩)), (5, .bool (!x1))]) ?_ (fun h2 H2 => ?_)
  · refine QRun_y (.agg #[.int .i64 g.Events, .slice agPlaces g.Places.length cgPlaces]) (by kernel_rfl) (Y_cls fun hx Hx => (Y_loadA (t := 30) (n := 2) (p := ⟨b1, 0, none⟩) (cs := [.int .i64 g.Events, .slice agPlaces g.Places.length cgPlaces]) (by kernel_rfl) (fun w => by kernel_rfl) (by kernel_rfl) rfl (Hx.cells (n := 2) (off := 0) 0 rfl rfl))) ?_
    refine QRun_y (.bool x1) (by kernel_rfl) (Y_call (f := 70) (args := #[.agg #[.int .i64 g.Events, .slice agPlaces g.Places.length cgPlaces]]) (v := .bool x1) (by kernel_rfl) fun hx Hx => (w_spec_IsEventGraph hx g agPlaces cgPlaces (rgPlaces.at Hx.ext) _ _ hx1).mono fun _ _ ⟨e, H'⟩ => ⟨e, Hx.call H' rfl⟩) ?_
    refine QRun_b [.bool (!x1), .bool (!x1)] 2 _ (by kernel_rfl) (fun w => by kernel_rfl) ?_
    exact QRun_done [1, 2, 5] (by kernel_rfl) (by kernel_rfl)
  have H3 : Hold h h2 [box b1 30 [.int .i64 g.Events, .slice agPlaces g.Places.length cgPlaces]] := H2
  refine Run_cond (b := !x1) (by kernel_rfl) (fun hb1 => ?_) (fun hb1 => ?_)
  · have hF := (M.ite_some hF).1 hb1
    refine Run_seq ?_
    refine Run_reg 1 (by kernel_rfl) (L' := [(4, .int .i64 1)]) ?_ ?_
    · refine QRun_b [.int .i64 1] 0 _ (by kernel_rfl) (fun w => by kernel_rfl) ?_
      exact QRun_done [4] (by kernel_rfl) (by kernel_rfl)
    have hF := M.ret_some hF
    subst hF
    have H4 : Hold h h2 [] := H3.pick [] (by kernel_rfl)
    exact Run_ret1 rfl (ResV_tmp (v := .int .i64 1) (by kernel_rfl)) ⟨rfl, H4⟩
  · have hF := (M.ite_some hF).2 hb1
    refine Run_seq ?_
    obtain ⟨x2, hx2, hF⟩ := M.bind_some hF
    refine Run_reg 7 (by kernel_rfl) (L' := [(9, .bool (!x2))]) ?_ ?_
    · refine QRun_b [.int .i64 event, .pointer (some ⟨b1, 0, none⟩)] 0 _ (by kernel_rfl) (fun w => by kernel_rfl) ?_
      refine QRun_y (.int .i64 g.Events) (by kernel_rfl) (Y_load1 (t := 2) (p := ⟨b1, 0, none⟩) (v := .int .i64 g.Events) (by kernel_rfl) (fun w => by kernel_rfl) (H3.cell 0 rfl rfl)) ?_
      refine QRun_b [.int .i64 (w64 (g.Events - 1))] 3 _ (by kernel_rfl) (fun w => by kernel_rfl) ?_
      refine QRun_y (.bool x2) (by kernel_rfl) (Y_callq (f := 78) (args := #[.int .i64 event, .int .i64 0, .int .i64 (w64 (g.Events - 1))]) (v := .bool x2) (by kernel_rfl) (w_spec_l01In h2 event 0 (w64 (g.Events - 1)) _ _ hx2)) ?_
      refine QRun_b [.bool (!x2), .bool (!x2)] 5 _ (by kernel_rfl) (fun w => by kernel_rfl) ?_
      exact QRun_done [9] (by kernel_rfl) (by kernel_rfl)
    refine Run_cond (b := !x2) (by kernel_rfl) (fun hb2 => ?_) (fun hb2 => ?_)
    · have hF := (M.ite_some hF).1 hb2
      refine Run_seq ?_
      refine Run_reg 1 (by kernel_rfl) (L' := [(4, .int .i64 2)]) ?_ ?_
      · refine QRun_b [.int .i64 2] 0 _ (by kernel_rfl) (fun w => by kernel_rfl) ?_
        exact QRun_done [4] (by kernel_rfl) (by kernel_rfl)
      have hF := M.ret_some hF
      subst hF
      have H5 : Hold h h2 [] := H3.pick [] (by kernel_rfl)
      exact Run_ret1 rfl (ResV_tmp (v := .int .i64 2) (by kernel_rfl)) ⟨rfl, H5⟩
    · have hF := (M.ite_some hF).2 hb2
      refine Run_skip ?_
      refine Run_blk ?_
      refine Run_seq ?_
      refine Run_reg 1 (by kernel_rfl) (L' := [(4, .int .i64 0)]) ?_ ?_
      · refine QRun_b [.int .i64 0] 0 _ (by kernel_rfl) (fun w => by kernel_rfl) ?_
        exact QRun_done [4] (by kernel_rfl) (by kernel_rfl)
      have hF := M.ret_some hF
      subst hF
      have H6 : Hold h h2 [] := H3.pick [] (by kernel_rfl)
      exact Run_ret1 rfl (ResV_tmp (v := .int .i64 0) (by kernel_rfl)) ⟨rfl, H6⟩

set_option maxRecDepth 100000 in
set_option maxHeartbeats 4000000 in
theorem w_spec_l11Places (h : Heap) (g : TGraph) (agPlaces : Option Addr) (cgPlaces : Nat) (rgPlaces : Rd cd58 h (Lt h) agPlaces cgPlaces g.Places) (event : Int) (into : Bool) (n : Nat) (r : (List Int)) (hF : spec_l11Places g event into n = some r) :
    Fn Try.prog 103 #[.agg #[.int .i64 g.Events, .slice agPlaces g.Places.length cgPlaces], .int .i64 event, .bool into] h fun v h' => ∃ (a0 : Option Addr) (c0 : Nat), v = .slice a0 r.length c0 ∧ Hold h h' [own cd2 a0 r.length c0 r] := by
  unfold spec_l11Places at hF
  refine Fn_enter (args := [.agg #[.int .i64 g.Events, .slice agPlaces g.Places.length cgPlaces], .int .i64 event, .bool into]) Try.func103 rfl (by kernel_rfl) (by kernel_rfl) (fun w0 _ => ?_)
  have H0 := Hold.init h
  refine Run_seq ?_
  refine Run_ops ?_
  refine Run_E (by kernel_rfl) ?_
  refine E_box (ty := 30) (cs := [.int .i64 g.Events, .slice agPlaces g.Places.length cgPlaces]) H0 (fun w => by kernel_rfl) (fun b1 h1 H1 => ?_)
  refine Run_b [.slice none 0 0] 1 _ (by kernel_rfl) (fun w => by kernel_rfl) ?_
  refine Run_nil (by kernel_rfl) ?_
  refine Run_keep [1, 2, 3] (L' := [(1, .int .i64 event), (2, .bool into), (3, .pointer (some ⟨b1, 0, none⟩))]) (by kernel_rfl) ?_
  refine Run_seq ?_
  refine Run_ops ?_
  refine Run_E (by kernel_rfl) ?_
  refine E_lit (C := cd2) (n := 0) (l := ([] : List Int)) (cs := []) H1 (fun w => by kernel_rfl) (Enc.nil _ _) rfl (by decide) (fun a1 h2 H2 => ?_)
  refine Run_b [.slice a1 0 0] 1 _ (by kernel_rfl) (fun w => by kernel_rfl) ?_
  refine Run_nil (by kernel_rfl) ?_
  refine Run_keep [1, 2, 3, 7] (L' := [(1, .int .i64 event), (2, .bool into), (3, .pointer (some ⟨b1, 0, none⟩)), (7, .slice a1 0 0)]) (by kernel_rfl) ?_
  refine Run_seq ?_
  refine Run_seq ?_
  refine Run_reg 1 (by kernel_rfl) (L' := [(1, .int .i64 event), (2, .bool into), (3, .pointer (some ⟨b1, 0, none⟩)), (7, .slice a1 0 0), (8, .int .i64 0)]) ?_ ?_
  · refine QRun_b [.int .i64 0] 0 _ (by kernel_rfl) (fun w => by kernel_rfl) ?_
    exact QRun_done [1, 2, 3, 7, 8] (by kernel_rfl) (by kernel_rfl)
  obtain ⟨x1, gx1, hF⟩ := M.bind_some hF
  refine Run_join (fun L' h' => ∃ (a3 : Option Addr) (c2 : Nat), L' = [(7, .slice a3 x1.1.length c2)] ∧ Hold h h' [own cd2 a3 x1.1.length c2 x1.1]) ?_ ?_
  · rintro _ h4 ⟨a3, c2, rfl, H4⟩
    refine Run_seq ?_
    refine Run_reg 2 (by kernel_rfl) (L' := [(6, .slice a3 x1.1.length c2)]) ?_ ?_
    · refine QRun_b [.slice a3 x1.1.length c2, .slice a3 x1.1.length c2] 0 _ (by kernel_rfl) (fun w => by kernel_rfl) ?_
      exact QRun_done [6] (by kernel_rfl) (by kernel_rfl)
    have hF := M.ret_some hF
    subst hF
    exact Run_ret1 rfl (ResV_tmp (v := .slice a3 x1.1.length c2) (by kernel_rfl)) ⟨a3, c2, rfl, H4⟩
  · refine Run_block ?_
    have hn1 := (H2.len 0 rfl)
    have H18 : Hold h h2 [own cd2 a1 (([] : List Int).length) 0 ([] : List Int), box b1 30 [.int .i64 g.Events, .slice agPlaces g.Places.length cgPlaces]] := by rw [hn1]; exact H2
    have H19 : Hold h h2 [box b1 30 [.int .i64 g.Events, .slice agPlaces g.Places.length cgPlaces], own cd2 a1 (([] : List Int).length) 0 ([] : List Int)] := H18.pick [1, 0] (by kernel_rfl)
    refine Run_keep [1, 2, 3, 7, 8] (L' := [(1, .int .i64 event), (2, .bool into), (3, .pointer (some ⟨b1, 0, none⟩)), (7, .slice a1 (([] : List Int).length) 0), (8, .int .i64 0)]) (by first | kernel_rfl | (rw [hn1]; kernel_rfl) | (simp only [hn1]; kernel_rfl)) ?_
    refine Run_loop (fun m L' h' => ∃ (s1 : (List Int) × Int) (a2 : Option Addr) (c1 : Nat), M.loopN _ n m s1 = some x1 ∧ L' = [(1, .int .i64 event), (2, .bool into), (3, .pointer (some ⟨b1, 0, none⟩)), (7, .slice a2 s1.1.length c1), (8, .int .i64 s1.2)] ∧ Hold h h' [box b1 30 [.int .i64 g.Events, .slice agPlaces g.Places.length cgPlaces], own cd2 a2 s1.1.length c1 s1.1]) n ⟨(([] : List Int), 0), a1, 0, gx1, rfl, H19⟩ ?_
    rintro my1 _ h3 ⟨s1, a2, c1, gx1, rfl, H3⟩
    obtain ⟨my1, y1, rfl, hB1, hgoy1, houty1⟩ := M.loop_some gx1
    refine Run_seq ?_
    refine Run_seq ?_
    refine Run_reg 5 (by kernel_rfl) (L' := [(1, .int .i64 event), (2, .bool into), (3, .pointer (some ⟨b1, 0, none⟩)), (7, .slice a2 s1.1.length c1), (8, .int .i64 s1.2), (14, .bool (decide (s1.2 < (g.Places.length : Int))))]) ?_ ?_
    · refine QRun_b [.int .i64 s1.2, .pointer (some ⟨b1, 1, none⟩)] 0 _ (by kernel_rfl) (fun w => by kernel_rfl) ?_
      refine QRun_y (.slice agPlaces g.Places.length cgPlaces) (by kernel_rfl) (Y_load1 (t := 28) (p := ⟨b1, 1, none⟩) (v := .slice agPlaces g.Places.length cgPlaces) (by kernel_rfl) (fun w => by kernel_rfl) (H3.cell 0 rfl rfl)) ?_
      refine QRun_b [.int .i64 (g.Places.length : Int), .bool (decide (s1.2 < (g.Places.length : Int)))] 3 _ (by kernel_rfl) (fun w => by kernel_rfl) ?_
      exact QRun_done [1, 2, 3, 7, 8, 14] (by kernel_rfl) (by kernel_rfl)
    refine Run_cond (b := decide (s1.2 < (g.Places.length : Int))) (by kernel_rfl) (fun hb1 => ?_) (fun hb1 => ?_)
    · have hB1 := (M.ite_some hB1).1 hb1
      refine Run_skip ?_
      refine Run_seq ?_
      refine Run_block ?_
      refine Run_seq ?_
      obtain ⟨x2, gx2, hB1⟩ := M.bind_some hB1
      obtain ⟨x4, gx4, hB1⟩ := M.bind_some hB1
      refine Run_reg 25 (by kernel_rfl) (L' := [(1, .int .i64 event), (2, .bool into), (3, .pointer (some ⟨b1, 0, none⟩)), (7, .slice a2 s1.1.length c1), (8, .int .i64 s1.2), (41, .bool x4)]) ?_ ?_
      · refine QRun_b [.bool into] 0 _ (by kernel_rfl) (fun w => by kernel_rfl) ?_
        refine QRun_seq 11 [(1, .int .i64 event), (2, .bool into), (3, .pointer (some ⟨b1, 0, none⟩)), (7, .slice a2 s1.1.length c1), (8, .int .i64 s1.2), (27, .bool x2)] ?_ ?_
        · rcases Bool.eq_false_or_eq_true into with hb2 | hb2
          · refine QRun_bool into true (by kernel_rfl) (fun w => by kernel_rfl) hb2 ?_
            have gx2 := (M.ite_some gx2).1 hb2
            obtain ⟨x3, hx1, gx2⟩ := M.bind_some gx2
            obtain ⟨hx1l, hx1u, hx1⟩ := M.idx_some hx1
            have gx2 := M.ret_some gx2
            refine QRun_b [.pointer (some ⟨b1, 1, none⟩)] 2 _ (by kernel_rfl) (fun w => by kernel_rfl) ?_
            refine QRun_y (.slice agPlaces g.Places.length cgPlaces) (by kernel_rfl) (Y_load1 (t := 28) (p := ⟨b1, 1, none⟩) (v := .slice agPlaces g.Places.length cgPlaces) (by kernel_rfl) (fun w => by kernel_rfl) (H3.cell 0 rfl rfl)) ?_
            refine QRun_b [.int .i64 s1.2] 4 _ (by kernel_rfl) (fun w => by kernel_rfl) ?_
            refine QRun_y (.pointer (some (adr agPlaces (s1.2.toNat * 4)))) (by kernel_rfl) (Y_idx (t := 28) (e := 58) (sz := 4) (a := agPlaces) (n := g.Places.length) (cap := cgPlaces) (kk := .i64) (i := s1.2) (by kernel_rfl) Try.underlying28 (by kernel_rfl) ((rgPlaces.at H3.ext).cell hx1).1 hx1l hx1u) ?_
            refine QRun_b [.pointer (some ((adr agPlaces (s1.2.toNat * 4)).add 1))] 6 _ (by kernel_rfl) (fun w => by kernel_rfl) ?_
            refine QRun_y (.int .i64 x3.To) (by kernel_rfl) (Y_load1 (t := 2) (p := (adr agPlaces (s1.2.toNat * 4)).add 1) (v := .int .i64 x3.To) (by kernel_rfl) (fun w => by kernel_rfl) (cd58_f1 (rgPlaces.at H3.ext) hx1)) ?_
            refine QRun_b [.int .i64 event, .bool (x3.To == event)] 8 _ (by kernel_rfl) (fun w => by kernel_rfl) ?_
            refine QRun_bool (x3.To == event) x2 (by kernel_rfl) (fun w => by kernel_rfl) gx2 ?_
            exact QRun_done [1, 2, 3, 7, 8, 27] (by kernel_rfl) (by kernel_rfl)
          · refine QRun_bool into false (by kernel_rfl) (fun w => by kernel_rfl) hb2 ?_
            have gx2 := M.ret_some ((M.ite_some gx2).2 hb2)
            refine QRun_n (by kernel_rfl) ?_
            refine QRun_n (by kernel_rfl) ?_
            refine QRun_n (by kernel_rfl) ?_
            refine QRun_n (by kernel_rfl) ?_
            refine QRun_n (by kernel_rfl) ?_
            refine QRun_n (by kernel_rfl) ?_
            refine QRun_n (by kernel_rfl) ?_
            refine QRun_n (by kernel_rfl) ?_
            refine QRun_bool false x2 (by kernel_rfl) (fun w => by kernel_rfl) gx2 ?_
            exact QRun_done [1, 2, 3, 7, 8, 27] (by kernel_rfl) (by kernel_rfl)
        refine QRun_seq 25 [(1, .int .i64 event), (2, .bool into), (3, .pointer (some ⟨b1, 0, none⟩)), (7, .slice a2 s1.1.length c1), (8, .int .i64 s1.2), (41, .bool x4)] ?_ ?_
        · rcases Bool.eq_false_or_eq_true x2 with hb3 | hb3
          · refine QRun_bool x2 true (by kernel_rfl) (fun w => by kernel_rfl) hb3 ?_
            have gx4 := M.ret_some ((M.ite_some gx4).1 hb3)
            refine QRun_n (by kernel_rfl) ?_
            refine QRun_n (by kernel_rfl) ?_
            refine QRun_n (by kernel_rfl) ?_
            refine QRun_n (by kernel_rfl) ?_
            refine QRun_n (by kernel_rfl) ?_
            refine QRun_n (by kernel_rfl) ?_
            refine QRun_n (by kernel_rfl) ?_
            refine QRun_n (by kernel_rfl) ?_
            refine QRun_n (by kernel_rfl) ?_
            refine QRun_n (by kernel_rfl) ?_
            refine QRun_n (by kernel_rfl) ?_
            refine QRun_n (by kernel_rfl) ?_
            refine QRun_bool true x4 (by kernel_rfl) (fun w => by kernel_rfl) gx4 ?_
            exact QRun_done [1, 2, 3, 7, 8, 41] (by kernel_rfl) (by kernel_rfl)
          · refine QRun_bool x2 false (by kernel_rfl) (fun w => by kernel_rfl) hb3 ?_
            have gx4 := (M.ite_some gx4).2 hb3
            obtain ⟨x5, gx5, gx4⟩ := M.bind_some gx4
            have gx4 := M.ret_some gx4
            refine QRun_b [.bool into, .bool (!into)] 12 _ (by kernel_rfl) (fun w => by kernel_rfl) ?_
            refine QRun_seq 24 [(1, .int .i64 event), (2, .bool into), (3, .pointer (some ⟨b1, 0, none⟩)), (7, .slice a2 s1.1.length c1), (8, .int .i64 s1.2), (28, .bool false), (40, .bool x5)] ?_ ?_
            · rcases Bool.eq_false_or_eq_true (!into) with hb4 | hb4
              · refine QRun_bool (!into) true (by kernel_rfl) (fun w => by kernel_rfl) hb4 ?_
                have gx5 := (M.ite_some gx5).1 hb4
                obtain ⟨x6, hx2, gx5⟩ := M.bind_some gx5
                obtain ⟨hx2l, hx2u, hx2⟩ := M.idx_some hx2
                have gx5 := M.ret_some gx5
                refine QRun_b [.pointer (some ⟨b1, 1, none⟩)] 15 _ (by kernel_rfl) (fun w => by kernel_rfl) ?_
                refine QRun_y (.slice agPlaces g.Places.length cgPlaces) (by kernel_rfl) (Y_load1 (t := 28) (p := ⟨b1, 1, none⟩) (v := .slice agPlaces g.Places.length cgPlaces) (by kernel_rfl) (fun w => by kernel_rfl) (H3.cell 0 rfl rfl)) ?_
                refine QRun_b [.int .i64 s1.2] 17 _ (by kernel_rfl) (fun w => by kernel_rfl) ?_
                refine QRun_y (.pointer (some (adr agPlaces (s1.2.toNat * 4)))) (by kernel_rfl) (Y_idx (t := 28) (e := 58) (sz := 4) (a := agPlaces) (n := g.Places.length) (cap := cgPlaces) (kk := .i64) (i := s1.2) (by kernel_rfl) Try.underlying28 (by kernel_rfl) ((rgPlaces.at H3.ext).cell hx2).1 hx2l hx2u) ?_
                refine QRun_b [.pointer (some ((adr agPlaces (s1.2.toNat * 4)).add 0))] 19 _ (by kernel_rfl) (fun w => by kernel_rfl) ?_
                refine QRun_y (.int .i64 x6.From) (by kernel_rfl) (Y_load1 (t := 2) (p := (adr agPlaces (s1.2.toNat * 4)).add 0) (v := .int .i64 x6.From) (by kernel_rfl) (fun w => by kernel_rfl) (cd58_f0 (rgPlaces.at H3.ext) hx2)) ?_
                refine QRun_b [.int .i64 event, .bool (x6.From == event)] 21 _ (by kernel_rfl) (fun w => by kernel_rfl) ?_
                refine QRun_bool (x6.From == event) x5 (by kernel_rfl) (fun w => by kernel_rfl) gx5 ?_
                exact QRun_done [1, 2, 3, 7, 8, 28, 40] (by kernel_rfl) (by kernel_rfl)
              · refine QRun_bool (!into) false (by kernel_rfl) (fun w => by kernel_rfl) hb4 ?_
                have gx5 := M.ret_some ((M.ite_some gx5).2 hb4)
                refine QRun_n (by kernel_rfl) ?_
                refine QRun_n (by kernel_rfl) ?_
                refine QRun_n (by kernel_rfl) ?_
                refine QRun_n (by kernel_rfl) ?_
                refine QRun_n (by kernel_rfl) ?_
                refine QRun_n (by kernel_rfl) ?_
                refine QRun_n (by kernel_rfl) ?_
                refine QRun_n (by kernel_rfl) ?_
                refine QRun_bool false x5 (by kernel_rfl) (fun w => by kernel_rfl) gx5 ?_
                exact QRun_done [1, 2, 3, 7, 8, 28, 40] (by kernel_rfl) (by kernel_rfl)
            refine QRun_bool x5 x4 (by kernel_rfl) (fun w => by kernel_rfl) gx4 ?_
            exact QRun_done [1, 2, 3, 7, 8, 41] (by kernel_rfl) (by kernel_rfl)
        exact QRun_done [1, 2, 3, 7, 8, 41] (by kernel_rfl) (by kernel_rfl)
      obtain ⟨s2, gs2, hB1⟩ := M.bind_some hB1
      refine Run_join (fun L' h' => ∃ (a6 : Option Addr), ∃ (c4 : Nat), L' = [(1, .int .i64 event), (2, .bool into), (3, .pointer (some ⟨b1, 0, none⟩)), (7, .slice a6 s2.length c4), (8, .int .i64 s1.2)] ∧ Hold h h' [box b1 30 [.int .i64 g.Events, .slice agPlaces g.Places.length cgPlaces], own cd2 a6 s2.length c4 s2]) ?_ ?_
      · rintro _ h7 ⟨a6, c4, rfl, H10⟩
        refine Run_blk ?_
        refine Run_reg 3 (by kernel_rfl) (L' := [(1, .int .i64 event), (2, .bool into), (3, .pointer (some ⟨b1, 0, none⟩)), (7, .slice a6 s2.length c4), (8, .int .i64 (w64 (s1.2 + 1)))]) ?_ ?_
        · refine QRun_b [.int .i64 s1.2, .int .i64 (w64 (s1.2 + 1)), .int .i64 (w64 (s1.2 + 1))] 0 _ (by kernel_rfl) (fun w => by kernel_rfl) ?_
          exact QRun_done [1, 2, 3, 7, 8] (by kernel_rfl) (by kernel_rfl)
        have H14 : Hold h h7 [own cd2 a6 s2.length c4 s2, box b1 30 [.int .i64 g.Events, .slice agPlaces g.Places.length cgPlaces]] := H10.pick [1, 0] (by kernel_rfl)
        have H15 : Hold h h7 [box b1 30 [.int .i64 g.Events, .slice agPlaces g.Places.length cgPlaces], own cd2 a6 s2.length c4 s2] := H14.pick [1, 0] (by kernel_rfl)
        have hB1 := M.ret_some hB1
        have gx1 := hgoy1 _ hB1.symm
        exact Run_again [1, 2, 3, 7, 8] (by kernel_rfl) my1 (Nat.lt_succ_self _) ⟨(s2, (w64 (s1.2 + 1))), a6, c4, gx1, rfl, H15⟩
      · refine Run_cond (b := x4) (by kernel_rfl) (fun hb5 => ?_) (fun hb5 => ?_)
        · have gs2 := (M.ite_some gs2).1 hb5
          refine Run_ops ?_
          refine Run_b [.slice a2 s1.1.length c1, .int .i64 s1.2] 0 _ (by kernel_rfl) (fun w => by kernel_rfl) ?_
          refine Run_E (by kernel_rfl) ?_
          refine E_lit (C := cd2) (n := 1) (l := ([s1.2] : List Int)) (cs := [.int .i64 s1.2]) H3 (fun w => by kernel_rfl) (Enc.consE (cd2_own s1.2 _) (Enc.nil _ _) rfl) rfl (by decide) (fun a4 h5 H5 => ?_)
          obtain ⟨l1, hl1, gs2⟩ := M.bind_some gs2
          have hl1 := M.app_some hl1
          have H6 : Hold h h5 [own cd2 a2 s1.1.length c1 s1.1, own cd2 a4 1 1 ([s1.2] : List Int), box b1 30 [.int .i64 g.Events, .slice agPlaces g.Places.length cgPlaces]] := H5.pick [2, 0, 1] (by kernel_rfl)
          have H7 : Hold h h5 [own cd2 a4 1 1 ([s1.2] : List Int), own cd2 a2 s1.1.length c1 s1.1, box b1 30 [.int .i64 g.Events, .slice agPlaces g.Places.length cgPlaces]] := H6.pick [1, 0, 2] (by kernel_rfl)
          have H8 : Hold h h5 [own cd2 a2 s1.1.length c1 s1.1, own cd2 a4 1 1 ([s1.2] : List Int), box b1 30 [.int .i64 g.Events, .slice agPlaces g.Places.length cgPlaces]] := H7.pick [1, 0, 2] (by kernel_rfl)
          refine Run_E (by kernel_rfl) ?_
          refine E_app (C := cd2) (t := 39) (ty := 39) (n := s1.1.length) (m := 1) H8 cd2_ti rfl Try.underlying39 (by decide) (by kernel_rfl) hl1 (fun a5 c3 h6 H9 => ?_)
          refine Run_b [.slice a5 l1.length c3] 4 _ (by kernel_rfl) (fun w => by kernel_rfl) ?_
          refine Run_nil (by kernel_rfl) ?_
          refine Run_keep [1, 2, 3, 7, 8] (L' := [(1, .int .i64 event), (2, .bool into), (3, .pointer (some ⟨b1, 0, none⟩)), (7, .slice a5 l1.length c3), (8, .int .i64 s1.2)]) (by kernel_rfl) ?_
          have H11 : Hold h h6 [box b1 30 [.int .i64 g.Events, .slice agPlaces g.Places.length cgPlaces], own cd2 a5 l1.length c3 l1] := H9.pick [1, 0] (by kernel_rfl)
          have gs2 := M.ret_some gs2
          subst gs2
          exact Run_fall [1, 2, 3, 7, 8] (by kernel_rfl) ⟨a5, c3, rfl, H11⟩
        · have gs2 := (M.ite_some gs2).2 hb5
          refine Run_skip ?_
          have H12 : Hold h h3 [own cd2 a2 s1.1.length c1 s1.1, box b1 30 [.int .i64 g.Events, .slice agPlaces g.Places.length cgPlaces]] := H3.pick [1, 0] (by kernel_rfl)
          have H13 : Hold h h3 [box b1 30 [.int .i64 g.Events, .slice agPlaces g.Places.length cgPlaces], own cd2 a2 s1.1.length c1 s1.1] := H12.pick [1, 0] (by kernel_rfl)
          have gs2 := M.ret_some gs2
          subst gs2
          exact Run_fall [1, 2, 3, 7, 8] (by kernel_rfl) ⟨a2, c1, rfl, H13⟩
    · have hB1 := (M.ite_some hB1).2 hb1
      refine Run_exit (k' := _) rfl ?_
      have H16 : Hold h h3 [own cd2 a2 s1.1.length c1 s1.1, box b1 30 [.int .i64 g.Events, .slice agPlaces g.Places.length cgPlaces]] := H3.pick [1, 0] (by kernel_rfl)
      have H17 : Hold h h3 [own cd2 a2 s1.1.length c1 s1.1] := H16.pick [0] (by kernel_rfl)
      have hB1 := M.ret_some hB1
      have gx1 := houty1 _ hB1.symm
      subst gx1
      exact Run_fall [7] (by kernel_rfl) ⟨a2, c1, rfl, H17⟩

set_option maxRecDepth 100000 in
set_option maxHeartbeats 4000000 in
theorem w_spec_PlacesInto (h : Heap) (g : TGraph) (agPlaces : Option Addr) (cgPlaces : Nat) (rgPlaces : Rd cd58 h (Lt h) agPlaces cgPlaces g.Places) (event : Int) (n : Nat) (r : (List Int) × Int) (hF : spec_PlacesInto g event n = some r) :
    Fn Try.prog 30 #[.agg #[.int .i64 g.Events, .slice agPlaces g.Places.length cgPlaces], .int .i64 event] h fun v h' => ∃ (a0 : Option Addr) (c0 : Nat), v = .tuple #[.slice a0 r.1.length c0, .int .i64 r.2] ∧ Hold h h' [own cd2 a0 r.1.length c0 r.1] := by
  unfold spec_PlacesInto at hF
  refine Fn_enter (args := [.agg #[.int .i64 g.Events, .slice agPlaces g.Places.length cgPlaces], .int .i64 event]) Try.func30 rfl (by kernel_rfl) (by kernel_rfl) (fun w0 _ => ?_)
  have H0 := Hold.init h
  refine Run_seq ?_
  refine Run_ops ?_
  refine Run_E (by kernel_rfl) ?_
  refine E_box (ty := 30) (cs := [.int .i64 g.Events, .slice agPlaces g.Places.length cgPlaces]) H0 (fun w => by kernel_rfl) (fun b1 h1 H1 => ?_)
  refine Run_b [.slice none 0 0, .int .i64 0] 1 _ (by kernel_rfl) (fun w => by kernel_rfl) ?_
  refine Run_nil (by kernel_rfl) ?_
  refine Run_keep [1, 2] (L' := [(1, .int .i64 event), (2, .pointer (some ⟨b1, 0, none⟩))]) (by kernel_rfl) ?_
  refine Run_seq ?_
  obtain ⟨x1, hx1, hF⟩ := M.bind_some hF
  refine Run_regC (j := 4) (C := fun x => Hold h x [box b1 30 [.int .i64 g.Events, .slice agPlaces g.Places.length cgPlaces]]) (by kernel_rfl) H1 (L' := [(1, .int .i64 event), (2, .pointer (some ⟨b1, 0, none⟩)), (6, .int .i64 x1)]) ?_ (fun h2 H2 => ?_)
  · refine QRun_y (.agg #[.int .i64 g.Events, .slice agPlaces g.Places.length cgPlaces]) (by kernel_rfl) (Y_cls fun hx Hx => (Y_loadA (t := 30) (n := 2) (p := ⟨b1, 0, none⟩) (cs := [.int .i64 g.Events, .slice agPlaces g.Places.length cgPlaces]) (by kernel_rfl) (fun w => by kernel_rfl) (by kernel_rfl) rfl (Hx.cells (n := 2) (off := 0) 0 rfl rfl))) ?_
    refine QRun_b [.int .i64 event] 1 _ (by kernel_rfl) (fun w => by kernel_rfl) ?_
    refine QRun_y (.int .i64 x1) (by kernel_rfl) (Y_call (f := 102) (args := #[.agg #[.int .i64 g.Events, .slice agPlaces g.Places.length cgPlaces], .int .i64 event]) (v := .int .i64 x1) (by kernel_rfl) fun hx Hx => (w_spec_l11Event hx g agPlaces cgPlaces (rgPlaces.at Hx.ext) event _ _ hx1).mono fun _ _ ⟨e, H'⟩ => ⟨e, Hx.call H' rfl⟩) ?_
    refine QRun_b [.int .i64 x1] 3 _ (by kernel_rfl) (fun w => by kernel_rfl) ?_
    exact QRun_done [1, 2, 6] (by kernel_rfl) (by kernel_rfl)
  have H3 : Hold h h2 [box b1 30 [.int .i64 g.Events, .slice agPlaces g.Places.length cgPlaces]] := H2
  refine Run_seq ?_
  refine Run_seq ?_
  refine Run_reg 2 (by kernel_rfl) (L' := [(1, .int .i64 event), (2, .pointer (some ⟨b1, 0, none⟩)), (6, .int .i64 x1), (11, .bool (x1 != 0))]) ?_ ?_
  · refine QRun_b [.int .i64 x1, .bool (x1 != 0)] 0 _ (by kernel_rfl) (fun w => by kernel_rfl) ?_
    exact QRun_done [1, 2, 6, 11] (by kernel_rfl) (by kernel_rfl)
  refine Run_cond (b := x1 != 0) (by kernel_rfl) (fun hb1 => ?_) (fun hb1 => ?_)
  · have hF := (M.ite_some hF).1 hb1
    refine Run_seq ?_
    refine Run_reg 3 (by kernel_rfl) (L' := [(4, .slice none 0 0), (5, .int .i64 x1)]) ?_ ?_
    · refine QRun_b [.int .i64 x1, .slice none 0 0, .int .i64 x1] 0 _ (by kernel_rfl) (fun w => by kernel_rfl) ?_
      exact QRun_done [4, 5] (by kernel_rfl) (by kernel_rfl)
    have hF := M.ret_some hF
    subst hF
    have H4 := H3.empty cd2
    have H5 : Hold h h2 [own cd2 none 0 0 []] := H4.pick [0] (by kernel_rfl)
    exact Run_ret2 rfl (ResV_tmp (v := .slice none 0 0) (by kernel_rfl)) (ResV_tmp (v := .int .i64 x1) (by kernel_rfl)) ⟨none, 0, rfl, H5⟩
  · have hF := (M.ite_some hF).2 hb1
    refine Run_skip ?_
    refine Run_seq ?_
    refine Run_ops ?_
    refine Run_y (.agg #[.int .i64 g.Events, .slice agPlaces g.Places.length cgPlaces]) (by kernel_rfl) (Y_loadA (t := 30) (n := 2) (p := ⟨b1, 0, none⟩) (cs := [.int .i64 g.Events, .slice agPlaces g.Places.length cgPlaces]) (by kernel_rfl) (fun w => by kernel_rfl) (by kernel_rfl) rfl (H3.cells (n := 2) (off := 0) 0 rfl rfl)) ?_
    refine Run_b [.int .i64 event] 1 _ (by kernel_rfl) (fun w => by kernel_rfl) ?_
    obtain ⟨x2, hx2, hF⟩ := M.bind_some hF
    refine Run_E (by kernel_rfl) ?_
    refine E_call (f := 103) (args := #[.agg #[.int .i64 g.Events, .slice agPlaces g.Places.length cgPlaces], .int .i64 event, .bool true]) (w_spec_l11Places h2 g agPlaces cgPlaces (rgPlaces.at H3.ext) event true _ _ hx2) (by kernel_rfl) (fun v1 h3 hp1 => ?_)
    obtain ⟨a1, c1, rfl, H6⟩ := hp1
    have H7 : Hold h h3 [own cd2 a1 x2.length c1 x2, box b1 30 [.int .i64 g.Events, .slice agPlaces g.Places.length cgPlaces]] := H3.call H6 rfl
    refine Run_b [.slice a1 x2.length c1, .int .i64 0] 3 _ (by kernel_rfl) (fun w => by kernel_rfl) ?_
    refine Run_nil (by kernel_rfl) ?_
    refine Run_keep [4, 5] (L' := [(4, .slice a1 x2.length c1), (5, .int .i64 0)]) (by kernel_rfl) ?_
    have hF := M.ret_some hF
    subst hF
    have H8 : Hold h h3 [own cd2 a1 x2.length c1 x2] := H7.pick [0] (by kernel_rfl)
    exact Run_ret2 rfl (ResV_tmp (v := .slice a1 x2.length c1) (by kernel_rfl)) (ResV_tmp (v := .int .i64 0) (by kernel_rfl)) ⟨a1, c1, rfl, H8⟩

set_option maxRecDepth 100000 in
set_option maxHeartbeats 4000000 in
theorem w_impl_PlacesFrom_1 (h : Heap) (p : TPlace) (z0 : Int) (bz0 : Nat) (vz0 : VarAt h bz0 2 [.int .i64 z0]) (n : Nat) (r : Bool) (hF : impl_PlacesFrom_1 p z0 n = some r) :
    Fn Try.prog 104 #[.agg #[.int .i64 p.From, .int .i64 p.To, .int .i64 p.Delay, .int .i64 p.Tokens], .pointer (some ⟨bz0, 0, none⟩)] h fun v h' => v = .bool r ∧ Hold h h' [] := by
  unfold impl_PlacesFrom_1 at hF
  refine Fn_enter (args := [.agg #[.int .i64 p.From, .int .i64 p.To, .int .i64 p.Delay, .int .i64 p.Tokens], .pointer (some ⟨bz0, 0, none⟩)]) Try.func104 rfl (by kernel_rfl) (by kernel_rfl) (fun w0 _ => ?_)
  have H0 := Hold.init h
  refine Run_seq ?_
  refine Run_ops ?_
  refine Run_E (by kernel_rfl) ?_
  refine E_box (ty := 58) (cs := [.int .i64 p.From, .int .i64 p.To, .int .i64 p.Delay, .int .i64 p.Tokens]) H0 (fun w => by kernel_rfl) (fun b1 h1 H1 => ?_)
  refine Run_b [.bool false] 1 _ (by kernel_rfl) (fun w => by kernel_rfl) ?_
  refine Run_nil (by kernel_rfl) ?_
  refine Run_keep [1, 2] (L' := [(1, .pointer (some ⟨bz0, 0, none⟩)), (2, .pointer (some ⟨b1, 0, none⟩))]) (by kernel_rfl) ?_
  refine Run_seq ?_
  refine Run_reg 5 (by kernel_rfl) (L' := [(3, .bool (p.From == z0))]) ?_ ?_
  · refine QRun_b [.pointer (some ⟨b1, 0, none⟩)] 0 _ (by kernel_rfl) (fun w => by kernel_rfl) ?_
    refine QRun_y (.int .i64 p.From) (by kernel_rfl) (Y_load1 (t := 2) (p := ⟨b1, 0, none⟩) (v := .int .i64 p.From) (by kernel_rfl) (fun w => by kernel_rfl) (H1.cell 0 rfl rfl)) ?_
    refine QRun_y (.int .i64 z0) (by kernel_rfl) (Y_load1 (t := 2) (p := ⟨bz0, 0, none⟩) (v := .int .i64 z0) (by kernel_rfl) (fun w => by kernel_rfl) (VarAt.cell (vz0.at H1.ext) rfl)) ?_
    refine QRun_b [.bool (p.From == z0), .bool (p.From == z0)] 3 _ (by kernel_rfl) (fun w => by kernel_rfl) ?_
    exact QRun_done [3] (by kernel_rfl) (by kernel_rfl)
  have hF := M.ret_some hF
  subst hF
  have H2 : Hold h h1 [] := H1.pick [] (by kernel_rfl)
  exact Run_ret1 rfl (ResV_tmp (v := .bool (p.From == z0)) (by kernel_rfl)) ⟨rfl, H2⟩

set_option maxRecDepth 100000 in
set_option maxHeartbeats 4000000 in
theorem w_impl_placesWith_F_impl_PlacesFrom_1 (h : Heap) (g : TGraph) (agPlaces : Option Addr) (cgPlaces : Nat) (rgPlaces : Rd cd58 h (Lt h) agPlaces cgPlaces g.Places) (has0 : Int) (bhas0 : Nat) (vhas0 : VarAt h bhas0 2 [.int .i64 has0]) (n : Nat) (r : (List Int)) (hF : impl_placesWith_F_impl_PlacesFrom_1 g has0 n = some r) :
    Fn Try.prog 100 #[.agg #[.int .i64 g.Events, .slice agPlaces g.Places.length cgPlaces], .func (.func 104) #[] #[.pointer (some ⟨bhas0, 0, none⟩)]] h fun v h' => ∃ (a0 : Option Addr) (c0 : Nat), v = .slice a0 r.length c0 ∧ Hold h h' [own cd2 a0 r.length c0 r] := by
  unfold impl_placesWith_F_impl_PlacesFrom_1 at hF
  refine Fn_enter (args := [.agg #[.int .i64 g.Events, .slice agPlaces g.Places.length cgPlaces], .func (.func 104) #[] #[.pointer (some ⟨bhas0, 0, none⟩)]]) Try.func100 rfl (by kernel_rfl) (by kernel_rfl) (fun w0 _ => ?_)
  have H0 := Hold.init h
  refine Run_seq ?_
  refine Run_ops ?_
  refine Run_E (by kernel_rfl) ?_
  refine E_box (ty := 30) (cs := [.int .i64 g.Events, .slice agPlaces g.Places.length cgPlaces]) H0 (fun w => by kernel_rfl) (fun b1 h1 H1 => ?_)
  refine Run_b [.slice none 0 0] 1 _ (by kernel_rfl) (fun w => by kernel_rfl) ?_
  refine Run_nil (by kernel_rfl) ?_
  refine Run_keep [1, 2] (L' := [(1, .func (.func 104) #[] #[.pointer (some ⟨bhas0, 0, none⟩)]), (2, .pointer (some ⟨b1, 0, none⟩))]) (by kernel_rfl) ?_
  refine Run_seq ?_
  refine Run_reg 1 (by kernel_rfl) (L' := [(1, .func (.func 104) #[] #[.pointer (some ⟨bhas0, 0, none⟩)]), (2, .pointer (some ⟨b1, 0, none⟩)), (5, .slice none 0 0)]) ?_ ?_
  · refine QRun_b [.slice none 0 0] 0 _ (by kernel_rfl) (fun w => by kernel_rfl) ?_
    exact QRun_done [1, 2, 5] (by kernel_rfl) (by kernel_rfl)
  refine Run_seq ?_
  refine Run_seq ?_
  refine Run_reg 4 (by kernel_rfl) (L' := [(1, .func (.func 104) #[] #[.pointer (some ⟨bhas0, 0, none⟩)]), (5, .slice none 0 0), (9, .slice agPlaces g.Places.length cgPlaces), (10, .int .i64 (g.Places.length : Int)), (11, .int .i64 0)]) ?_ ?_
  · refine QRun_b [.pointer (some ⟨b1, 1, none⟩)] 0 _ (by kernel_rfl) (fun w => by kernel_rfl) ?_
    refine QRun_y (.slice agPlaces g.Places.length cgPlaces) (by kernel_rfl) (Y_load1 (t := 28) (p := ⟨b1, 1, none⟩) (v := .slice agPlaces g.Places.length cgPlaces) (by kernel_rfl) (fun w => by kernel_rfl) (H1.cell 0 rfl rfl)) ?_
    refine QRun_b [.int .i64 (g.Places.length : Int), .int .i64 0] 2 _ (by kernel_rfl) (fun w => by kernel_rfl) ?_
    exact QRun_done [1, 5, 9, 10, 11] (by kernel_rfl) (by kernel_rfl)
  obtain ⟨x1, gx1, hF⟩ := M.bind_some hF
  obtain ⟨hloy1, hhiy1, gx1⟩ := M.for_start gx1
  refine Run_join (fun L' h' => ∃ (a2 : Option Addr) (c2 : Nat), L' = [(5, .slice a2 x1.length c2)] ∧ Hold h h' [own cd2 a2 x1.length c2 x1]) ?_ ?_
  · rintro _ h3 ⟨a2, c2, rfl, H3⟩
    refine Run_seq ?_
    refine Run_reg 2 (by kernel_rfl) (L' := [(4, .slice a2 x1.length c2)]) ?_ ?_
    · refine QRun_b [.slice a2 x1.length c2, .slice a2 x1.length c2] 0 _ (by kernel_rfl) (fun w => by kernel_rfl) ?_
      exact QRun_done [4] (by kernel_rfl) (by kernel_rfl)
    have hF := M.ret_some hF
    subst hF
    exact Run_ret1 rfl (ResV_tmp (v := .slice a2 x1.length c2) (by kernel_rfl)) ⟨a2, c2, rfl, H3⟩
  · refine Run_block ?_
    have H17 := H1.empty cd2
    have H18 : Hold h h1 [own cd2 none 0 0 []] := H17.pick [0] (by kernel_rfl)
    refine Run_keep [1, 5, 9, 10, 11] (L' := [(1, .func (.func 104) #[] #[.pointer (some ⟨bhas0, 0, none⟩)]), (5, .slice none 0 0), (9, .slice agPlaces g.Places.length cgPlaces), (10, .int .i64 (g.Places.length : Int)), (11, .int .i64 0)]) (by kernel_rfl) ?_
    refine Run_loop (fun m L' h' => ∃ (i1 : Int) (s1 : (List Int)) (a1 : Option Addr) (c1 : Nat), 0 ≤ i1 ∧ M.forN (g.Places.length : Int) _ _ n m i1 s1 = some x1 ∧ L' = [(1, .func (.func 104) #[] #[.pointer (some ⟨bhas0, 0, none⟩)]), (5, .slice a1 s1.length c1), (9, .slice agPlaces g.Places.length cgPlaces), (10, .int .i64 (g.Places.length : Int)), (11, .int .i64 i1)] ∧ Hold h h' [own cd2 a1 s1.length c1 s1]) ((g.Places.length : Int) - 0 : Int).toNat ⟨0, [], none, 0, Int.le_refl _, gx1, rfl, H18⟩ ?_
    rintro my1 _ h2 ⟨i1, s1, a1, c1, hloy1', gx1, rfl, H2⟩
    refine Run_seq ?_
    refine Run_reg 1 (by kernel_rfl) (L' := [(1, .func (.func 104) #[] #[.pointer (some ⟨bhas0, 0, none⟩)]), (5, .slice a1 s1.length c1), (9, .slice agPlaces g.Places.length cgPlaces), (10, .int .i64 (g.Places.length : Int)), (11, .int .i64 i1), (12, .bool (decide (i1 < (g.Places.length : Int))))]) ?_ ?_
    · refine QRun_b [.bool (decide (i1 < (g.Places.length : Int)))] 0 _ (by kernel_rfl) (fun w => by kernel_rfl) ?_
      exact QRun_done [1, 5, 9, 10, 11, 12] (by kernel_rfl) (by kernel_rfl)
    refine Run_seq ?_
    refine Run_cond (b := decide (i1 < (g.Places.length : Int))) (by kernel_rfl) (fun hb1 => ?_) (fun hb1 => ?_)
    · obtain ⟨my1, y1, rfl, hB1, hgoy1, houty1⟩ := M.for_go gx1 hb1
      have hlty1 := of_decide_eq_true hb1
      refine Run_skip ?_
      refine Run_seq ?_
      refine Run_block ?_
      refine Run_seq ?_
      refine Run_ops ?_
      obtain ⟨x2, hx1, hB1⟩ := M.bind_some hB1
      obtain ⟨hx1l, hx1u, hx1⟩ := M.idx_some hx1
      refine Run_b [.int .i64 i1] 0 _ (by kernel_rfl) (fun w => by kernel_rfl) ?_
      refine Run_y (.pointer (some (adr agPlaces (i1.toNat * 4)))) (by kernel_rfl) (Y_idx (t := 28) (e := 58) (sz := 4) (a := agPlaces) (n := g.Places.length) (cap := cgPlaces) (kk := .i64) (i := i1) (by kernel_rfl) Try.underlying28 (by kernel_rfl) ((rgPlaces.at H2.ext).cell hx1).1 hx1l hx1u) ?_
      refine Run_y (.agg #[.int .i64 x2.From, .int .i64 x2.To, .int .i64 x2.Delay, .int .i64 x2.Tokens]) (by kernel_rfl) (Y_loadA (t := 58) (n := 4) (p := adr agPlaces (i1.toNat * 4)) (cs := [.int .i64 x2.From, .int .i64 x2.To, .int .i64 x2.Delay, .int .i64 x2.Tokens]) (by kernel_rfl) (fun w => by kernel_rfl) (by kernel_rfl) rfl (cd58_elem (rgPlaces.at H2.ext) hx1)) ?_
      refine Run_E (by kernel_rfl) ?_
      refine E_box (ty := 58) (cs := [.int .i64 0, .int .i64 0, .int .i64 0, .int .i64 0]) H2 (fun w => by kernel_rfl) (fun b2 h4 H4 => ?_)
      refine Run_b [.int .i64 i1] 4 _ (by kernel_rfl) (fun w => by kernel_rfl) ?_
      refine Run_E (by kernel_rfl) ?_
      refine E_bput (t := 58) (off := 0) (us := [.int .i64 x2.From, .int .i64 x2.To, .int .i64 x2.Delay, .int .i64 x2.Tokens]) (v := .agg #[.int .i64 x2.From, .int .i64 x2.To, .int .i64 x2.Delay, .int .i64 x2.Tokens]) H4 (by kernel_rfl) (by kernel_rfl) rfl (by kernel_rfl) rfl (fun h5 H5 => ?_)
      refine Run_nil (by kernel_rfl) ?_
      refine Run_keep [1, 5, 6, 7, 9, 10, 11] (L' := [(1, .func (.func 104) #[] #[.pointer (some ⟨bhas0, 0, none⟩)]), (5, .slice a1 s1.length c1), (6, .int .i64 i1), (7, .pointer (some ⟨b2, 0, none⟩)), (9, .slice agPlaces g.Places.length cgPlaces), (10, .int .i64 (g.Places.length : Int)), (11, .int .i64 i1)]) (by kernel_rfl) ?_
      refine Run_seq ?_
      obtain ⟨x3, hx2, hB1⟩ := M.bind_some hB1
      refine Run_regC (j := 3) (C := fun x => Hold h x [box b2 58 [.int .i64 x2.From, .int .i64 x2.To, .int .i64 x2.Delay, .int .i64 x2.Tokens], own cd2 a1 s1.length c1 s1]) (by kernel_rfl) H5 (L' := [(1, .func (.func 104) #[] #[.pointer (some ⟨bhas0, 0, none⟩)]), (5, .slice a1 s1.length c1), (6, .int .i64 i1), (9, .slice agPlaces g.Places.length cgPlaces), (10, .int .i64 (g.Places.length : Int)), (11, .int .i64 i1), (18, .bool x3)]) ?_ (fun h6 H6 => ?_)
      · refine QRun_b [.func (.func 104) #[] #[.pointer (some ⟨bhas0, 0, none⟩)]] 0 _ (by kernel_rfl) (fun w => by kernel_rfl) ?_
        refine QRun_y (.agg #[.int .i64 x2.From, .int .i64 x2.To, .int .i64 x2.Delay, .int .i64 x2.Tokens]) (by kernel_rfl) (Y_cls fun hx Hx => (Y_loadA (t := 58) (n := 4) (p := ⟨b2, 0, none⟩) (cs := [.int .i64 x2.From, .int .i64 x2.To, .int .i64 x2.Delay, .int .i64 x2.Tokens]) (by kernel_rfl) (fun w => by kernel_rfl) (by kernel_rfl) rfl (Hx.cells (n := 4) (off := 0) 0 rfl rfl))) ?_
        refine QRun_y (.bool x3) (by kernel_rfl) (Y_call (f := 104) (args := #[.agg #[.int .i64 x2.From, .int .i64 x2.To, .int .i64 x2.Delay, .int .i64 x2.Tokens], .pointer (some ⟨bhas0, 0, none⟩)]) (v := .bool x3) (by kernel_rfl) fun hx Hx => (w_impl_PlacesFrom_1 hx x2 has0 bhas0 (vhas0.at Hx.ext) _ _ hx2).mono fun _ _ ⟨e, H'⟩ => ⟨e, Hx.call H' rfl⟩) ?_
        exact QRun_done [1, 5, 6, 9, 10, 11, 18] (by kernel_rfl) (by kernel_rfl)
      have H7 : Hold h h6 [box b2 58 [.int .i64 x2.From, .int .i64 x2.To, .int .i64 x2.Delay, .int .i64 x2.Tokens], own cd2 a1 s1.length c1 s1] := H6
      obtain ⟨s2, gs2, hB1⟩ := M.bind_some hB1
      refine Run_join (fun L' h' => ∃ (a5 : Option Addr), ∃ (c4 : Nat), L' = [(1, .func (.func 104) #[] #[.pointer (some ⟨bhas0, 0, none⟩)]), (5, .slice a5 s2.length c4), (9, .slice agPlaces g.Places.length cgPlaces), (10, .int .i64 (g.Places.length : Int)), (11, .int .i64 i1)] ∧ Hold h h' [own cd2 a5 s2.length c4 s2]) ?_ ?_
      · rintro _ h9 ⟨a5, c4, rfl, H13⟩
        refine Run_blk ?_
        refine Run_reg 2 (by kernel_rfl) (L' := [(1, .func (.func 104) #[] #[.pointer (some ⟨bhas0, 0, none⟩)]), (5, .slice a5 s2.length c4), (9, .slice agPlaces g.Places.length cgPlaces), (10, .int .i64 (g.Places.length : Int)), (11, .int .i64 (i1 + 1))]) ?_ ?_
        · refine QRun_y (.int .i64 (i1 + 1)) (by kernel_rfl) (Y_eq (v := .int .i64 (w64 (i1 + 1))) (Y_pure (fun w => by kernel_rfl)) (by rw [w64_eq _ (by omega)])) ?_
          refine QRun_b [.int .i64 (i1 + 1)] 1 _ (by kernel_rfl) (fun w => by kernel_rfl) ?_
          exact QRun_done [1, 5, 9, 10, 11] (by kernel_rfl) (by kernel_rfl)
        have hB1 := M.ret_some hB1
        have gx1 := hgoy1 _ hB1.symm
        exact Run_again [1, 5, 9, 10, 11] (by kernel_rfl) my1 (Nat.lt_succ_self _) ⟨i1 + 1, s2, a5, c4, by omega, gx1, rfl, H13⟩
      · refine Run_cond (b := x3) (by kernel_rfl) (fun hb2 => ?_) (fun hb2 => ?_)
        · have gs2 := (M.ite_some gs2).1 hb2
          refine Run_ops ?_
          refine Run_b [.slice a1 s1.length c1, .int .i64 i1] 0 _ (by kernel_rfl) (fun w => by kernel_rfl) ?_
          refine Run_E (by kernel_rfl) ?_
          refine E_lit (C := cd2) (n := 1) (l := ([i1] : List Int)) (cs := [.int .i64 i1]) H7 (fun w => by kernel_rfl) (Enc.consE (cd2_own i1 _) (Enc.nil _ _) rfl) rfl (by decide) (fun a3 h7 H8 => ?_)
          obtain ⟨l1, hl1, gs2⟩ := M.bind_some gs2
          have hl1 := M.app_some hl1
          have H9 : Hold h h7 [own cd2 a1 s1.length c1 s1, own cd2 a3 1 1 ([i1] : List Int), box b2 58 [.int .i64 x2.From, .int .i64 x2.To, .int .i64 x2.Delay, .int .i64 x2.Tokens]] := H8.pick [2, 0, 1] (by kernel_rfl)
          have H10 : Hold h h7 [own cd2 a3 1 1 ([i1] : List Int), own cd2 a1 s1.length c1 s1, box b2 58 [.int .i64 x2.From, .int .i64 x2.To, .int .i64 x2.Delay, .int .i64 x2.Tokens]] := H9.pick [1, 0, 2] (by kernel_rfl)
          have H11 : Hold h h7 [own cd2 a1 s1.length c1 s1, own cd2 a3 1 1 ([i1] : List Int), box b2 58 [.int .i64 x2.From, .int .i64 x2.To, .int .i64 x2.Delay, .int .i64 x2.Tokens]] := H10.pick [1, 0, 2] (by kernel_rfl)
          refine Run_E (by kernel_rfl) ?_
          refine E_app (C := cd2) (t := 39) (ty := 39) (n := s1.length) (m := 1) H11 cd2_ti rfl Try.underlying39 (by decide) (by kernel_rfl) hl1 (fun a4 c3 h8 H12 => ?_)
          refine Run_b [.slice a4 l1.length c3] 4 _ (by kernel_rfl) (fun w => by kernel_rfl) ?_
          refine Run_nil (by kernel_rfl) ?_
          refine Run_keep [1, 5, 9, 10, 11] (L' := [(1, .func (.func 104) #[] #[.pointer (some ⟨bhas0, 0, none⟩)]), (5, .slice a4 l1.length c3), (9, .slice agPlaces g.Places.length cgPlaces), (10, .int .i64 (g.Places.length : Int)), (11, .int .i64 i1)]) (by kernel_rfl) ?_
          have H14 : Hold h h8 [own cd2 a4 l1.length c3 l1] := H12.pick [0] (by kernel_rfl)
          have gs2 := M.ret_some gs2
          subst gs2
          exact Run_fall [1, 5, 9, 10, 11] (by kernel_rfl) ⟨a4, c3, rfl, H14⟩
        · have gs2 := (M.ite_some gs2).2 hb2
          refine Run_skip ?_
          have H15 : Hold h h6 [own cd2 a1 s1.length c1 s1, box b2 58 [.int .i64 x2.From, .int .i64 x2.To, .int .i64 x2.Delay, .int .i64 x2.Tokens]] := H7.pick [1, 0] (by kernel_rfl)
          have H16 : Hold h h6 [own cd2 a1 s1.length c1 s1] := H15.pick [0] (by kernel_rfl)
          have gs2 := M.ret_some gs2
          subst gs2
          exact Run_fall [1, 5, 9, 10, 11] (by kernel_rfl) ⟨a1, c1, rfl, H16⟩
    · have gx1 := M.for_end gx1 hb1
      subst gx1
      refine Run_exit (k' := _) rfl ?_
      exact Run_fall [5] (by kernel_rfl) ⟨a1, c1, rfl, H2⟩

set_option maxRecDepth 100000 in
set_option maxHeartbeats 4000000 in
theorem w_impl_PlacesFrom (h : Heap) (g : TGraph) (agPlaces : Option Addr) (cgPlaces : Nat) (rgPlaces : Rd cd58 h (Lt h) agPlaces cgPlaces g.Places) (event : Int) (n : Nat) (r : (List Int) × Int) (hF : impl_PlacesFrom g event n = some r) :
    Fn Try.prog 31 #[.agg #[.int .i64 g.Events, .slice agPlaces g.Places.length cgPlaces], .int .i64 event] h fun v h' => ∃ (a0 : Option Addr) (c0 : Nat), v = .tuple #[.slice a0 r.1.length c0, .int .i64 r.2] ∧ Hold h h' [own cd2 a0 r.1.length c0 r.1] := by
  unfold impl_PlacesFrom at hF
  refine Fn_enter (args := [.agg #[.int .i64 g.Events, .slice agPlaces g.Places.length cgPlaces], .int .i64 event]) Try.func31 rfl (by kernel_rfl) (by kernel_rfl) (fun w0 _ => ?_)
  have H0 := Hold.init h
  refine Run_seq ?_
  refine Run_ops ?_
  refine Run_E (by kernel_rfl) ?_
  refine E_box (ty := 30) (cs := [.int .i64 g.Events, .slice agPlaces g.Places.length cgPlaces]) H0 (fun w => by kernel_rfl) (fun b1 h1 H1 => ?_)
  refine Run_E (by kernel_rfl) ?_
  refine E_box (ty := 2) (cs := [.int .i64 event]) H1 (fun w => by kernel_rfl) (fun b2 h2 H2 => ?_)
  refine Run_b [.slice none 0 0, .int .i64 0] 2 _ (by kernel_rfl) (fun w => by kernel_rfl) ?_
  refine Run_nil (by kernel_rfl) ?_
  refine Run_keep [2, 3] (L' := [(2, .pointer (some ⟨b1, 0, none⟩)), (3, .pointer (some ⟨b2, 0, none⟩))]) (by kernel_rfl) ?_
  refine Run_seq ?_
  refine Run_seq ?_
  obtain ⟨x1, hx1, hF⟩ := M.bind_some hF
  refine Run_regC (j := 4) (C := fun x => Hold h x [box b2 2 [.int .i64 event], box b1 30 [.int .i64 g.Events, .slice agPlaces g.Places.length cgPlaces]]) (by kernel_rfl) H2 (L' := [(2, .pointer (some ⟨b1, 0, none⟩)), (3, .pointer (some ⟨b2, 0, none⟩)), (6, .int .i64 x1)]) ?_ (fun h3 H3 => ?_)
  · refine QRun_y (.agg #[.int .i64 g.Events, .slice agPlaces g.Places.length cgPlaces]) (by kernel_rfl) (Y_cls fun hx Hx => (Y_loadA (t := 30) (n := 2) (p := ⟨b1, 0, none⟩) (cs := [.int .i64 g.Events, .slice agPlaces g.Places.length cgPlaces]) (by kernel_rfl) (fun w => by kernel_rfl) (by kernel_rfl) rfl (Hx.cells (n := 2) (off := 0) 1 rfl rfl))) ?_
    refine QRun_y (.int .i64 event) (by kernel_rfl) (Y_cls fun hx Hx => (Y_load1 (t := 2) (p := ⟨b2, 0, none⟩) (v := .int .i64 event) (by kernel_rfl) (fun w => by kernel_rfl) (Hx.cell 0 rfl rfl))) ?_
    refine QRun_y (.int .i64 x1) (by kernel_rfl) (Y_call (f := 99) (args := #[.agg #[.int .i64 g.Events, .slice agPlaces g.Places.length cgPlaces], .int .i64 event]) (v := .int .i64 x1) (by kernel_rfl) fun hx Hx => (w_impl_checkEvent hx g agPlaces cgPlaces (rgPlaces.at Hx.ext) event _ _ hx1).mono fun _ _ ⟨e, H'⟩ => ⟨e, Hx.call H' rfl⟩) ?_
    refine QRun_b [.int .i64 x1] 3 _ (by kernel_rfl) (fun w => by kernel_rfl) ?_
    exact QRun_done [2, 3, 6] (by kernel_rfl) (by kernel_rfl)
  have H4 : Hold h h3 [box b2 2 [.int .i64 event], box b1 30 [.int .i64 g.Events, .slice agPlaces g.Places.length cgPlaces]] := H3
  refine Run_seq ?_
  refine Run_reg 2 (by kernel_rfl) (L' := [(2, .pointer (some ⟨b1, 0, none⟩)), (3, .pointer (some ⟨b2, 0, none⟩)), (6, .int .i64 x1), (11, .bool (x1 != 0))]) ?_ ?_
  · refine QRun_b [.int .i64 x1, .bool (x1 != 0)] 0 _ (by kernel_rfl) (fun w => by kernel_rfl) ?_
    exact QRun_done [2, 3, 6, 11] (by kernel_rfl) (by kernel_rfl)
  refine Run_cond (b := x1 != 0) (by kernel_rfl) (fun hb1 => ?_) (fun hb1 => ?_)
  · have hF := (M.ite_some hF).1 hb1
    refine Run_seq ?_
    refine Run_reg 3 (by kernel_rfl) (L' := [(4, .slice none 0 0), (5, .int .i64 x1)]) ?_ ?_
    · refine QRun_b [.int .i64 x1, .slice none 0 0, .int .i64 x1] 0 _ (by kernel_rfl) (fun w => by kernel_rfl) ?_
      exact QRun_done [4, 5] (by kernel_rfl) (by kernel_rfl)
    have hF := M.ret_some hF
    subst hF
    have H5 := H4.empty cd2
    have H6 : Hold h h3 [own cd2 none 0 0 []] := H5.pick [0] (by kernel_rfl)
    exact Run_ret2 rfl (ResV_tmp (v := .slice none 0 0) (by kernel_rfl)) (ResV_tmp (v := .int .i64 x1) (by kernel_rfl)) ⟨none, 0, rfl, H6⟩
  · have hF := (M.ite_some hF).2 hb1
    refine Run_skip ?_
    refine Run_seq ?_
    refine Run_ops ?_
    refine Run_y (.agg #[.int .i64 g.Events, .slice agPlaces g.Places.length cgPlaces]) (by kernel_rfl) (Y_loadA (t := 30) (n := 2) (p := ⟨b1, 0, none⟩) (cs := [.int .i64 g.Events, .slice agPlaces g.Places.length cgPlaces]) (by kernel_rfl) (fun w => by kernel_rfl) (by kernel_rfl) rfl (H4.cells (n := 2) (off := 0) 1 rfl rfl)) ?_
    refine Run_b [.func (.func 104) #[] #[.pointer (some ⟨b2, 0, none⟩)]] 1 _ (by kernel_rfl) (fun w => by kernel_rfl) ?_
    obtain ⟨x2, hx2, hF⟩ := M.bind_some hF
    refine Run_E (by kernel_rfl) ?_
    refine E_call (f := 100) (args := #[.agg #[.int .i64 g.Events, .slice agPlaces g.Places.length cgPlaces], .func (.func 104) #[] #[.pointer (some ⟨b2, 0, none⟩)]]) (w_impl_placesWith_F_impl_PlacesFrom_1 h3 g agPlaces cgPlaces (rgPlaces.at H4.ext) event b2 (H4.var 0 rfl) _ _ hx2) (by kernel_rfl) (fun v1 h4 hp1 => ?_)
    obtain ⟨a1, c1, rfl, H7⟩ := hp1
    have H8 : Hold h h4 [own cd2 a1 x2.length c1 x2, box b2 2 [.int .i64 event], box b1 30 [.int .i64 g.Events, .slice agPlaces g.Places.length cgPlaces]] := H4.call H7 rfl
    refine Run_b [.slice a1 x2.length c1, .int .i64 0] 3 _ (by kernel_rfl) (fun w => by kernel_rfl) ?_
    refine Run_nil (by kernel_rfl) ?_
    refine Run_keep [4, 5] (L' := [(4, .slice a1 x2.length c1), (5, .int .i64 0)]) (by kernel_rfl) ?_
    have hF := M.ret_some hF
    subst hF
    have H9 : Hold h h4 [own cd2 a1 x2.length c1 x2] := H8.pick [0] (by kernel_rfl)
    exact Run_ret2 rfl (ResV_tmp (v := .slice a1 x2.length c1) (by kernel_rfl)) (ResV_tmp (v := .int .i64 0) (by kernel_rfl)) ⟨a1, c1, rfl, H9⟩

set_option maxRecDepth 100000 in
set_option maxHeartbeats 4000000 in
theorem w_spec_PlacesFrom (h : Heap) (g : TGraph) (agPlaces : Option Addr) (cgPlaces : Nat) (rgPlaces : Rd cd58 h (Lt h) agPlaces cgPlaces g.Places) (event : Int) (n : Nat) (r : (List Int) × Int) (hF : spec_PlacesFrom g event n = some r) :
    Fn Try.prog 32 #[.agg #[.int .i64 g.Events, .slice agPlaces g.Places.length cgPlaces], .int .i64 event] h fun v h' => ∃ (a0 : Option Addr) (c0 : Nat), v = .tuple #[.slice a0 r.1.length c0, .int .i64 r.2] ∧ Hold h h' [own cd2 a0 r.1.length c0 r.1] := by
  unfold spec_PlacesFrom at hF
  refine Fn_enter (args := [.agg #[.int .i64 g.Events, .slice agPlaces g.Places.length cgPlaces], .int .i64 event]) Try.func32 rfl (by kernel_rfl) (by kernel_rfl) (fun w0 _ => ?_)
  have H0 := Hold.init h
  refine Run_seq ?_
  refine Run_ops ?_
  refine Run_E (by kernel_rfl) ?_
  refine E_box (ty := 30) (cs := [.int .i64 g.Events, .slice agPlaces g.Places.length cgPlaces]) H0 (fun w => by kernel_rfl) (fun b1 h1 H1 => ?_)
  refine Run_b [.slice none 0 0, .int .i64 0] 1 _ (by kernel_rfl) (fun w => by kernel_rfl) ?_
  refine Run_nil (by kernel_rfl) ?_
  refine Run_keep [1, 2] (L' := [(1, .int .i64 event), (2, .pointer (some ⟨b1, 0, none⟩))]) (by kernel_rfl) ?_
  refine Run_seq ?_
  obtain ⟨x1, hx1, hF⟩ := M.bind_some hF
  refine Run_regC (j := 4) (C := fun x => Hold h x [box b1 30 [.int .i64 g.Events, .slice agPlaces g.Places.length cgPlaces]]) (by kernel_rfl) H1 (L' := [(1, .int .i64 event), (2, .pointer (some ⟨b1, 0, none⟩)), (6, .int .i64 x1)]) ?_ (fun h2 H2 => ?_)
  · refine QRun_y (.agg #[.int .i64 g.Events, .slice agPlaces g.Places.length cgPlaces]) (by kernel_rfl) (Y_cls fun hx Hx => (Y_loadA (t := 30) (n := 2) (p := ⟨b1, 0, none⟩) (cs := [.int .i64 g.Events, .slice agPlaces g.Places.length cgPlaces]) (by kernel_rfl) (fun w => by kernel_rfl) (by kernel_rfl) rfl (Hx.cells (n := 2) (off := 0) 0 rfl rfl))) ?_
    refine QRun_b [.int .i64 event] 1 _ (by kernel_rfl) (fun w => by kernel_rfl) ?_
    refine QRun_y (.int .i64 x1) (by kernel_rfl) (Y_call (f := 102) (args := #[.agg #[.int .i64 g.Events, .slice agPlaces g.Places.length cgPlaces], .int .i64 event]) (v := .int .i64 x1) (by kernel_rfl) fun hx Hx => (w_spec_l11Event hx g agPlaces cgPlaces (rgPlaces.at Hx.ext) event _ _ hx1).mono fun _ _ ⟨e, H'⟩ => ⟨e, Hx.call H' rfl⟩) ?_
    refine QRun_b [.int .i64 x1] 3 _ (by kernel_rfl) (fun w => by kernel_rfl) ?_
    exact QRun_done [1, 2, 6] (by kernel_rfl) (by kernel_rfl)
  have H3 : Hold h h2 [box b1 30 [.int .i64 g.Events, .slice agPlaces g.Places.length cgPlaces]] := H2
  refine Run_seq ?_
  refine Run_seq ?_
  refine Run_reg 2 (by kernel_rfl) (L' := [(1, .int .i64 event), (2, .pointer (some ⟨b1, 0, none⟩)), (6, .int .i64 x1), (11, .bool (x1 != 0))]) ?_ ?_
  · refine QRun_b [.int .i64 x1, .bool (x1 != 0)] 0 _ (by kernel_rfl) (fun w => by kernel_rfl) ?_
    exact QRun_done [1, 2, 6, 11] (by kernel_rfl) (by kernel_rfl)
  refine Run_cond (b := x1 != 0) (by kernel_rfl) (fun hb1 => ?_) (fun hb1 => ?_)
  · have hF := (M.ite_some hF).1 hb1
    refine Run_seq ?_
    refine Run_reg 3 (by kernel_rfl) (L' := [(4, .slice none 0 0), (5, .int .i64 x1)]) ?_ ?_
    · refine QRun_b [.int .i64 x1, .slice none 0 0, .int .i64 x1] 0 _ (by kernel_rfl) (fun w => by kernel_rfl) ?_
      exact QRun_done [4, 5] (by kernel_rfl) (by kernel_rfl)
    have hF := M.ret_some hF
    subst hF
    have H4 := H3.empty cd2
    have H5 : Hold h h2 [own cd2 none 0 0 []] := H4.pick [0] (by kernel_rfl)
    exact Run_ret2 rfl (ResV_tmp (v := .slice none 0 0) (by kernel_rfl)) (ResV_tmp (v := .int .i64 x1) (by kernel_rfl)) ⟨none, 0, rfl, H5⟩
  · have hF := (M.ite_some hF).2 hb1
    refine Run_skip ?_
    refine Run_seq ?_
    refine Run_ops ?_
    refine Run_y (.agg #[.int .i64 g.Events, .slice agPlaces g.Places.length cgPlaces]) (by kernel_rfl) (Y_loadA (t := 30) (n := 2) (p := ⟨b1, 0, none⟩) (cs := [.int .i64 g.Events, .slice agPlaces g.Places.length cgPlaces]) (by kernel_rfl) (fun w => by kernel_rfl) (by kernel_rfl) rfl (H3.cells (n := 2) (off := 0) 0 rfl rfl)) ?_
    refine Run_b [.int .i64 event] 1 _ (by kernel_rfl) (fun w => by kernel_rfl) ?_
    obtain ⟨x2, hx2, hF⟩ := M.bind_some hF
    refine Run_E (by kernel_rfl) ?_
    refine E_call (f := 103) (args := #[.agg #[.int .i64 g.Events, .slice agPlaces g.Places.length cgPlaces], .int .i64 event, .bool false]) (w_spec_l11Places h2 g agPlaces cgPlaces (rgPlaces.at H3.ext) event false _ _ hx2) (by kernel_rfl) (fun v1 h3 hp1 => ?_)
    obtain ⟨a1, c1, rfl, H6⟩ := hp1
    have H7 : Hold h h3 [own cd2 a1 x2.length c1 x2, box b1 30 [.int .i64 g.Events, .slice agPlaces g.Places.length cgPlaces]] := H3.call H6 rfl
    refine Run_b [.slice a1 x2.length c1, .int .i64 0] 3 _ (by kernel_rfl) (fun w => by kernel_rfl) ?_
    refine Run_nil (by kernel_rfl) ?_
    refine Run_keep [4, 5] (L' := [(4, .slice a1 x2.length c1), (5, .int .i64 0)]) (by kernel_rfl) ?_
    have hF := M.ret_some hF
    subst hF
    have H8 : Hold h h3 [own cd2 a1 x2.length c1 x2] := H7.pick [0] (by kernel_rfl)
    exact Run_ret2 rfl (ResV_tmp (v := .slice a1 x2.length c1) (by kernel_rfl)) (ResV_tmp (v := .int .i64 0) (by kernel_rfl)) ⟨a1, c1, rfl, H8⟩

set_option maxRecDepth 100000 in
set_option maxHeartbeats 4000000 in
theorem w_spec_l11DrawIndex (h hE : Heap) (it : Item) (s_ : TL01source) (bs_ : Nat) (as_code : Option Addr) (cs_code : Nat) (rs_code : Rd cd5 h (Lt h) as_code cs_code s_.code) (HM : Hold h hE [box bs_ 155 [.slice as_code s_.code.length cs_code, .int .i64 s_.at_, .int .i64 s_.seed], it]) (n : Nat) (r : TGraph × Int × TL01source) (hF : spec_l11DrawIndex s_ n = some r) :
    Fn Try.prog 105 #[.pointer (some ⟨bs_, 0, none⟩)] hE fun v h' => ∃ (a0 : Option Addr) (c0 : Nat), v = .tuple #[.agg #[.int .i64 r.1.Events, .slice a0 r.1.Places.length c0], .int .i64 r.2.1] ∧ Hold h h' [own cd58 a0 r.1.Places.length c0 r.1.Places, box bs_ 155 [.slice as_code s_.code.length cs_code, .int .i64 r.2.2.at_, .int .i64 r.2.2.seed], it] := by
  unfold spec_l11DrawIndex at hF
  refine Fn_enter (args := [.pointer (some ⟨bs_, 0, none⟩)]) Try.func105 rfl (by kernel_rfl) (by kernel_rfl) (fun w0 _ => ?_)
  refine Run_seq ?_
  refine Run_ops ?_
  refine Run_E (by kernel_rfl) ?_
  refine E_box (ty := 30) (cs := [.int .i64 0, .slice none 0 0]) HM (fun w => by kernel_rfl) (fun b1 h1 H1 => ?_)
  refine Run_b [.int .i64 0] 1 _ (by kernel_rfl) (fun w => by kernel_rfl) ?_
  refine Run_nil (by kernel_rfl) ?_
  refine Run_keep [0, 2] (L' := [(0, .pointer (some ⟨bs_, 0, none⟩)), (2, .pointer (some ⟨b1, 0, none⟩))]) (by kernel_rfl) ?_
  refine Run_seq ?_
  refine Run_ops ?_
  refine Run_b [.pointer (some ⟨bs_, 0, none⟩)] 0 _ (by kernel_rfl) (fun w => by kernel_rfl) ?_
  obtain ⟨x1, hx1, hF⟩ := M.bind_some hF
  have H2 : Hold h h1 [box bs_ 155 [.slice as_code s_.code.length cs_code, .int .i64 s_.at_, .int .i64 s_.seed], box b1 30 [.int .i64 0, .slice none 0 0], it] := H1.pick [1, 0, 2] (by kernel_rfl)
  have H3 : Hold h h1 [box bs_ 155 [.slice as_code s_.code.length cs_code, .int .i64 s_.at_, .int .i64 s_.seed], bun [box b1 30 [.int .i64 0, .slice none 0 0], it]] := Hold.bundle (S := [box bs_ 155 [.slice as_code s_.code.length cs_code, .int .i64 s_.at_, .int .i64 s_.seed]]) (R := [box b1 30 [.int .i64 0, .slice none 0 0], it]) H2
  refine Run_E (by kernel_rfl) ?_
  refine E_call (f := 160) (args := #[.pointer (some ⟨bs_, 0, none⟩)]) (w_spec_l11Draw h h1 _ s_ bs_ as_code cs_code rs_code H3 _ _ hx1) (by kernel_rfl) (fun v1 h2 hp1 => ?_)
  obtain ⟨a1, c1, rfl, H4⟩ := hp1
  have H5 : Hold h h2 [own cd58 a1 x1.1.Places.length c1 x1.1.Places, box bs_ 155 [.slice as_code s_.code.length cs_code, .int .i64 x1.2.at_, .int .i64 x1.2.seed], box b1 30 [.int .i64 0, .slice none 0 0], it] := Hold.unbundle (S := [own cd58 a1 x1.1.Places.length c1 x1.1.Places, box bs_ 155 [.slice as_code s_.code.length cs_code, .int .i64 x1.2.at_, .int .i64 x1.2.seed]]) (R := [box b1 30 [.int .i64 0, .slice none 0 0], it]) H4 (Hold.tailBase (S := [box bs_ 155 [.slice as_code s_.code.length cs_code, .int .i64 s_.at_, .int .i64 s_.seed]]) (R := [box b1 30 [.int .i64 0, .slice none 0 0], it]) H2)
  refine Run_E (by kernel_rfl) ?_
  refine E_box (ty := 30) (cs := [.int .i64 0, .slice none 0 0]) H5 (fun w => by kernel_rfl) (fun b2 h3 H6 => ?_)
  refine Run_E (by kernel_rfl) ?_
  refine E_bput (t := 30) (off := 0) (us := [.int .i64 x1.1.Events, .slice a1 x1.1.Places.length c1]) (v := .agg #[.int .i64 x1.1.Events, .slice a1 x1.1.Places.length c1]) H6 (by kernel_rfl) (by kernel_rfl) rfl (by kernel_rfl) rfl (fun h4 H7 => ?_)
  refine Run_nil (by kernel_rfl) ?_
  refine Run_keep [0, 2, 4] (L' := [(0, .pointer (some ⟨bs_, 0, none⟩)), (2, .pointer (some ⟨b1, 0, none⟩)), (4, .pointer (some ⟨b2, 0, none⟩))]) (by kernel_rfl) ?_
  refine Run_seq ?_
  refine Run_reg 4 (by kernel_rfl) (L' := [(0, .pointer (some ⟨bs_, 0, none⟩)), (2, .pointer (some ⟨b1, 0, none⟩)), (4, .pointer (some ⟨b2, 0, none⟩)), (5, .int .i64 (x1.1.Places.length : Int))]) ?_ ?_
  · refine QRun_b [.pointer (some ⟨b2, 1, none⟩)] 0 _ (by kernel_rfl) (fun w => by kernel_rfl) ?_
    refine QRun_y (.slice a1 x1.1.Places.length c1) (by kernel_rfl) (Y_load1 (t := 28) (p := ⟨b2, 1, none⟩) (v := .slice a1 x1.1.Places.length c1) (by kernel_rfl) (fun w => by kernel_rfl) (H7.cell 0 rfl rfl)) ?_
    refine QRun_b [.int .i64 (x1.1.Places.length : Int), .int .i64 (x1.1.Places.length : Int)] 2 _ (by kernel_rfl) (fun w => by kernel_rfl) ?_
    exact QRun_done [0, 2, 4, 5] (by kernel_rfl) (by kernel_rfl)
  refine Run_seq ?_
  refine Run_seq ?_
  refine Run_ops ?_
  refine Run_b [.pointer (some ⟨bs_, 0, none⟩)] 0 _ (by kernel_rfl) (fun w => by kernel_rfl) ?_
  obtain ⟨x2, hx2, hF⟩ := M.bind_some hF
  have H8 : Hold h h4 [box bs_ 155 [.slice as_code s_.code.length cs_code, .int .i64 x1.2.at_, .int .i64 x1.2.seed], box b2 30 [.int .i64 x1.1.Events, .slice a1 x1.1.Places.length c1], own cd58 a1 x1.1.Places.length c1 x1.1.Places, box b1 30 [.int .i64 0, .slice none 0 0], it] := H7.pick [2, 0, 1, 3, 4] (by kernel_rfl)
  have H9 : Hold h h4 [box bs_ 155 [.slice as_code s_.code.length cs_code, .int .i64 x1.2.at_, .int .i64 x1.2.seed], bun [box b2 30 [.int .i64 x1.1.Events, .slice a1 x1.1.Places.length c1], own cd58 a1 x1.1.Places.length c1 x1.1.Places, box b1 30 [.int .i64 0, .slice none 0 0], it]] := Hold.bundle (S := [box bs_ 155 [.slice as_code s_.code.length cs_code, .int .i64 x1.2.at_, .int .i64 x1.2.seed]]) (R := [box b2 30 [.int .i64 x1.1.Events, .slice a1 x1.1.Places.length c1], own cd58 a1 x1.1.Places.length c1 x1.1.Places, box b1 30 [.int .i64 0, .slice none 0 0], it]) H8
  refine Run_E (by kernel_rfl) ?_
  refine E_call (f := 106) (args := #[.pointer (some ⟨bs_, 0, none⟩), .int .i64 20]) (w_spec_l01Next h h4 _ (⟨s_.code, x1.2.at_, x1.2.seed⟩ : TL01source) bs_ as_code cs_code rs_code 20 H9 _ _ hx2) (by kernel_rfl) (fun v2 h5 hp2 => ?_)
  obtain ⟨rfl, H10⟩ := hp2
  have H11 : Hold h h5 [box bs_ 155 [.slice as_code s_.code.length cs_code, .int .i64 x2.2.at_, .int .i64 x2.2.seed], box b2 30 [.int .i64 x1.1.Events, .slice a1 x1.1.Places.length c1], own cd58 a1 x1.1.Places.length c1 x1.1.Places, box b1 30 [.int .i64 0, .slice none 0 0], it] := Hold.unbundle (S := [box bs_ 155 [.slice as_code s_.code.length cs_code, .int .i64 x2.2.at_, .int .i64 x2.2.seed]]) (R := [box b2 30 [.int .i64 x1.1.Events, .slice a1 x1.1.Places.length c1], own cd58 a1 x1.1.Places.length c1 x1.1.Places, box b1 30 [.int .i64 0, .slice none 0 0], it]) H10 (Hold.tailBase (S := [box bs_ 155 [.slice as_code s_.code.length cs_code, .int .i64 x1.2.at_, .int .i64 x1.2.seed]]) (R := [box b2 30 [.int .i64 x1.1.Events, .slice a1 x1.1.Places.length c1], own cd58 a1 x1.1.Places.length c1 x1.1.Places, box b1 30 [.int .i64 0, .slice none 0 0], it]) H8)
  refine Run_b [.bool (x2.1 == 0)] 2 _ (by kernel_rfl) (fun w => by kernel_rfl) ?_
  refine Run_nil (by kernel_rfl) ?_
  refine Run_keep [0, 2, 4, 5, 13] (L' := [(0, .pointer (some ⟨bs_, 0, none⟩)), (2, .pointer (some ⟨b1, 0, none⟩)), (4, .pointer (some ⟨b2, 0, none⟩)), (5, .int .i64 (x1.1.Places.length : Int)), (13, .bool (x2.1 == 0))]) (by kernel_rfl) ?_
  refine Run_cond (b := x2.1 == 0) (by kernel_rfl) (fun hb1 => ?_) (fun hb1 => ?_)
  · have hF := (M.ite_some hF).1 hb1
    refine Run_seq ?_
    refine Run_D (fun x => Hold h x [box b2 30 [.int .i64 x1.1.Events, .slice a1 x1.1.Places.length c1], own cd58 a1 x1.1.Places.length c1 x1.1.Places, box b1 30 [.int .i64 0, .slice none 0 0], it]) (fun x => Hold h x [box bs_ 155 [.slice as_code s_.code.length cs_code, .int .i64 x2.2.at_, .int .i64 x2.2.seed], box b2 30 [.int .i64 x1.1.Events, .slice a1 x1.1.Places.length c1], own cd58 a1 x1.1.Places.length c1 x1.1.Places, box b1 30 [.int .i64 0, .slice none 0 0], it]) mixed (by kernel_rfl) H11 Hold.stable (fun x Hy => (show Hold h x [box bs_ 155 [.slice as_code s_.code.length cs_code, .int .i64 x2.2.at_, .int .i64 x2.2.seed], box b2 30 [.int .i64 x1.1.Events, .slice a1 x1.1.Places.length c1], own cd58 a1 x1.1.Places.length c1 x1.1.Places, box b1 30 [.int .i64 0, .slice none 0 0], it] from Hy).pick [1, 2, 3, 4] (by kernel_rfl)) ?_
    refine DR_y 6 (i := 0) (.agg #[.int .i64 x1.1.Events, .slice a1 x1.1.Places.length c1]) (by kernel_rfl) (by kernel_rfl) (by kernel_rfl) (fun hx Hx => (YE.of (Y_loadA (t := 30) (n := 2) (p := ⟨b2, 0, none⟩) (cs := [.int .i64 x1.1.Events, .slice a1 x1.1.Places.length c1]) (by kernel_rfl) (fun w => by kernel_rfl) (by kernel_rfl) rfl (Hx.cells (n := 2) (off := 0) 0 rfl rfl)))) ?_
    refine DR_b 4 [.pointer (some ⟨bs_, 0, none⟩), .int .i64 (x1.1.Places.length : Int)] 1 (by kernel_rfl) (by kernel_rfl) (by kernel_rfl) (fun w => by kernel_rfl) ?_
    refine DR_e 3 3 (by kernel_rfl) (by kernel_rfl) (by kernel_rfl) (fun h6 H12 => ?_)
    have H13 : Hold h h6 [box bs_ 155 [.slice as_code s_.code.length cs_code, .int .i64 x2.2.at_, .int .i64 x2.2.seed], box b2 30 [.int .i64 x1.1.Events, .slice a1 x1.1.Places.length c1], own cd58 a1 x1.1.Places.length c1 x1.1.Places, box b1 30 [.int .i64 0, .slice none 0 0], it] := H12
    refine E_lit (C := cd2) (n := 2) (l := ([(-1), (x1.1.Places.length : Int)] : List Int)) (cs := [.int .i64 (-1), .int .i64 (x1.1.Places.length : Int)]) H13 (fun w => by kernel_rfl) (Enc.consE (cd2_own (-1) _) (Enc.consE (cd2_own (x1.1.Places.length : Int) _) (Enc.nil _ _) rfl) rfl) rfl (by decide) (fun a2 h7 H14 => ?_)
    refine ⟨fun x => Hold h x [box b2 30 [.int .i64 x1.1.Events, .slice a1 x1.1.Places.length c1], own cd58 a1 x1.1.Places.length c1 x1.1.Places, box b1 30 [.int .i64 0, .slice none 0 0], it], fun x => Hold h x [own cd2 a2 2 2 ([(-1), (x1.1.Places.length : Int)] : List Int), box bs_ 155 [.slice as_code s_.code.length cs_code, .int .i64 x2.2.at_, .int .i64 x2.2.seed], box b2 30 [.int .i64 x1.1.Events, .slice a1 x1.1.Places.length c1], own cd58 a1 x1.1.Places.length c1 x1.1.Places, box b1 30 [.int .i64 0, .slice none 0 0], it], H14, Hold.stable, fun x Hy => (show Hold h x [own cd2 a2 2 2 ([(-1), (x1.1.Places.length : Int)] : List Int), box bs_ 155 [.slice as_code s_.code.length cs_code, .int .i64 x2.2.at_, .int .i64 x2.2.seed], box b2 30 [.int .i64 x1.1.Events, .slice a1 x1.1.Places.length c1], own cd58 a1 x1.1.Places.length c1 x1.1.Places, box b1 30 [.int .i64 0, .slice none 0 0], it] from Hy).pick [2, 3, 4, 5] (by kernel_rfl), fun x Hy => (show Hold h x [box b2 30 [.int .i64 x1.1.Events, .slice a1 x1.1.Places.length c1], own cd58 a1 x1.1.Places.length c1 x1.1.Places, box b1 30 [.int .i64 0, .slice none 0 0], it] from Hy).pick [0, 1, 2, 3] (by kernel_rfl), ?_⟩
    refine DR_e 2 4 (by kernel_rfl) (by kernel_rfl) (by kernel_rfl) (fun h8 H15 => ?_)
    have H16 : Hold h h8 [own cd2 a2 2 2 ([(-1), (x1.1.Places.length : Int)] : List Int), box bs_ 155 [.slice as_code s_.code.length cs_code, .int .i64 x2.2.at_, .int .i64 x2.2.seed], box b2 30 [.int .i64 x1.1.Events, .slice a1 x1.1.Places.length c1], own cd58 a1 x1.1.Places.length c1 x1.1.Places, box b1 30 [.int .i64 0, .slice none 0 0], it] := H15
    obtain ⟨x3, hx3, hF⟩ := M.bind_some hF
    have hn1 := (H16.len 0 rfl)
    have H17 : Hold h h8 [own cd2 a2 (([(-1), (x1.1.Places.length : Int)] : List Int).length) 2 ([(-1), (x1.1.Places.length : Int)] : List Int), box bs_ 155 [.slice as_code s_.code.length cs_code, .int .i64 x2.2.at_, .int .i64 x2.2.seed], box b2 30 [.int .i64 x1.1.Events, .slice a1 x1.1.Places.length c1], own cd58 a1 x1.1.Places.length c1 x1.1.Places, box b1 30 [.int .i64 0, .slice none 0 0], it] := by rw [hn1]; exact H16
    have H18 : Hold h h8 [box bs_ 155 [.slice as_code s_.code.length cs_code, .int .i64 x2.2.at_, .int .i64 x2.2.seed], own cd2 a2 (([(-1), (x1.1.Places.length : Int)] : List Int).length) 2 ([(-1), (x1.1.Places.length : Int)] : List Int), box b2 30 [.int .i64 x1.1.Events, .slice a1 x1.1.Places.length c1], own cd58 a1 x1.1.Places.length c1 x1.1.Places, box b1 30 [.int .i64 0, .slice none 0 0], it] := H17.pick [1, 0, 2, 3, 4, 5] (by kernel_rfl)
    have H19 : Hold h h8 [box bs_ 155 [.slice as_code s_.code.length cs_code, .int .i64 x2.2.at_, .int .i64 x2.2.seed], own cd2 a2 (([(-1), (x1.1.Places.length : Int)] : List Int).length) 2 ([(-1), (x1.1.Places.length : Int)] : List Int), bun [box b2 30 [.int .i64 x1.1.Events, .slice a1 x1.1.Places.length c1], own cd58 a1 x1.1.Places.length c1 x1.1.Places, box b1 30 [.int .i64 0, .slice none 0 0], it]] := Hold.bundle (S := [box bs_ 155 [.slice as_code s_.code.length cs_code, .int .i64 x2.2.at_, .int .i64 x2.2.seed], own cd2 a2 (([(-1), (x1.1.Places.length : Int)] : List Int).length) 2 ([(-1), (x1.1.Places.length : Int)] : List Int)]) (R := [box b2 30 [.int .i64 x1.1.Events, .slice a1 x1.1.Places.length c1], own cd58 a1 x1.1.Places.length c1 x1.1.Places, box b1 30 [.int .i64 0, .slice none 0 0], it]) H18
    refine E_call (f := 107) (args := #[.pointer (some ⟨bs_, 0, none⟩), .slice a2 2 2]) (Fn.arg (w_spec_l01Pick h h8 _ (⟨s_.code, x2.2.at_, x2.2.seed⟩ : TL01source) bs_ as_code cs_code rs_code ([(-1), (x1.1.Places.length : Int)] : List Int) a2 2 H19 _ _ hx3) (by simp only [hn1])) (by kernel_rfl) (fun v3 h9 hp3 => ?_)
    obtain ⟨rfl, H20⟩ := hp3
    have H21 : Hold h h9 [box bs_ 155 [.slice as_code s_.code.length cs_code, .int .i64 x3.2.1.at_, .int .i64 x3.2.1.seed], own cd2 a2 (([(-1), (x1.1.Places.length : Int)] : List Int).length) 2 x3.2.2, box b2 30 [.int .i64 x1.1.Events, .slice a1 x1.1.Places.length c1], own cd58 a1 x1.1.Places.length c1 x1.1.Places, box b1 30 [.int .i64 0, .slice none 0 0], it] := Hold.unbundle (S := [box bs_ 155 [.slice as_code s_.code.length cs_code, .int .i64 x3.2.1.at_, .int .i64 x3.2.1.seed], own cd2 a2 (([(-1), (x1.1.Places.length : Int)] : List Int).length) 2 x3.2.2]) (R := [box b2 30 [.int .i64 x1.1.Events, .slice a1 x1.1.Places.length c1], own cd58 a1 x1.1.Places.length c1 x1.1.Places, box b1 30 [.int .i64 0, .slice none 0 0], it]) H20 (Hold.tailBase (S := [box bs_ 155 [.slice as_code s_.code.length cs_code, .int .i64 x2.2.at_, .int .i64 x2.2.seed], own cd2 a2 (([(-1), (x1.1.Places.length : Int)] : List Int).length) 2 ([(-1), (x1.1.Places.length : Int)] : List Int)]) (R := [box b2 30 [.int .i64 x1.1.Events, .slice a1 x1.1.Places.length c1], own cd58 a1 x1.1.Places.length c1 x1.1.Places, box b1 30 [.int .i64 0, .slice none 0 0], it]) H18)
    refine ⟨fun x => Hold h x [box b2 30 [.int .i64 x1.1.Events, .slice a1 x1.1.Places.length c1], own cd58 a1 x1.1.Places.length c1 x1.1.Places, box b1 30 [.int .i64 0, .slice none 0 0], it], fun x => Hold h x [box bs_ 155 [.slice as_code s_.code.length cs_code, .int .i64 x3.2.1.at_, .int .i64 x3.2.1.seed], own cd2 a2 (([(-1), (x1.1.Places.length : Int)] : List Int).length) 2 x3.2.2, box b2 30 [.int .i64 x1.1.Events, .slice a1 x1.1.Places.length c1], own cd58 a1 x1.1.Places.length c1 x1.1.Places, box b1 30 [.int .i64 0, .slice none 0 0], it], H21, Hold.stable, fun x Hy => (show Hold h x [box bs_ 155 [.slice as_code s_.code.length cs_code, .int .i64 x3.2.1.at_, .int .i64 x3.2.1.seed], own cd2 a2 (([(-1), (x1.1.Places.length : Int)] : List Int).length) 2 x3.2.2, box b2 30 [.int .i64 x1.1.Events, .slice a1 x1.1.Places.length c1], own cd58 a1 x1.1.Places.length c1 x1.1.Places, box b1 30 [.int .i64 0, .slice none 0 0], it] from Hy).pick [2, 3, 4, 5] (by kernel_rfl), fun x Hy => (show Hold h x [box b2 30 [.int .i64 x1.1.Events, .slice a1 x1.1.Places.length c1], own cd58 a1 x1.1.Places.length c1 x1.1.Places, box b1 30 [.int .i64 0, .slice none 0 0], it] from Hy).pick [0, 1, 2, 3] (by kernel_rfl), ?_⟩
    refine DR_tail (i := 5) (by kernel_rfl) (by kernel_rfl) (by kernel_rfl) (fun h10 H22 => ?_)
    have H23 : Hold h h10 [box bs_ 155 [.slice as_code s_.code.length cs_code, .int .i64 x3.2.1.at_, .int .i64 x3.2.1.seed], own cd2 a2 (([(-1), (x1.1.Places.length : Int)] : List Int).length) 2 x3.2.2, box b2 30 [.int .i64 x1.1.Events, .slice a1 x1.1.Places.length c1], own cd58 a1 x1.1.Places.length c1 x1.1.Places, box b1 30 [.int .i64 0, .slice none 0 0], it] := H22
    have H25 : Hold h h10 [box b1 30 [.int .i64 0, .slice none 0 0], box bs_ 155 [.slice as_code s_.code.length cs_code, .int .i64 x3.2.1.at_, .int .i64 x3.2.1.seed], own cd2 a2 (([(-1), (x1.1.Places.length : Int)] : List Int).length) 2 x3.2.2, box b2 30 [.int .i64 x1.1.Events, .slice a1 x1.1.Places.length c1], own cd58 a1 x1.1.Places.length c1 x1.1.Places, it] := H23.pick [4, 0, 1, 2, 3, 5] (by kernel_rfl)
    refine Run_E (by kernel_rfl) ?_
    refine E_bput (t := 30) (off := 0) (us := [.int .i64 x1.1.Events, .slice a1 x1.1.Places.length c1]) (v := .agg #[.int .i64 x1.1.Events, .slice a1 x1.1.Places.length c1]) H25 (by kernel_rfl) (by kernel_rfl) rfl (by kernel_rfl) rfl (fun h11 H24 => ?_)
    refine Run_b [.int .i64 x3.1] 6 _ (by kernel_rfl) (fun w => by kernel_rfl) ?_
    refine Run_nil (by kernel_rfl) ?_
    refine Run_keep [2, 3] (L' := [(2, .pointer (some ⟨b1, 0, none⟩)), (3, .int .i64 x3.1)]) (by kernel_rfl) ?_
    have hF := M.ret_some hF
    subst hF
    have H26 : Hold h h11 [own cd58 a1 x1.1.Places.length c1 x1.1.Places, box b1 30 [.int .i64 x1.1.Events, .slice a1 x1.1.Places.length c1], box bs_ 155 [.slice as_code s_.code.length cs_code, .int .i64 x3.2.1.at_, .int .i64 x3.2.1.seed], own cd2 a2 (([(-1), (x1.1.Places.length : Int)] : List Int).length) 2 x3.2.2, box b2 30 [.int .i64 x1.1.Events, .slice a1 x1.1.Places.length c1], it] := H24.pick [4, 0, 1, 2, 3, 5] (by kernel_rfl)
    have H27 : Hold h h11 [own cd58 a1 x1.1.Places.length c1 x1.1.Places, box bs_ 155 [.slice as_code s_.code.length cs_code, .int .i64 x3.2.1.at_, .int .i64 x3.2.1.seed], it] := H26.pick [0, 2, 5] (by kernel_rfl)
    exact Run_ret2 rfl (ResV_cell (n := 2) (cs := [.int .i64 x1.1.Events, .slice a1 x1.1.Places.length c1]) (by kernel_rfl) (fun w => by kernel_rfl) (by kernel_rfl) rfl (H24.cells (n := 2) (off := 0) 0 rfl rfl)) (ResV_tmp (v := .int .i64 x3.1) (by kernel_rfl)) ⟨a1, c1, rfl, H27⟩
  · have hF := (M.ite_some hF).2 hb1
    refine Run_skip ?_
    refine Run_seq ?_
    refine Run_D (fun x => Hold h x [box b2 30 [.int .i64 x1.1.Events, .slice a1 x1.1.Places.length c1], own cd58 a1 x1.1.Places.length c1 x1.1.Places, box b1 30 [.int .i64 0, .slice none 0 0], it]) (fun x => Hold h x [box bs_ 155 [.slice as_code s_.code.length cs_code, .int .i64 x2.2.at_, .int .i64 x2.2.seed], box b2 30 [.int .i64 x1.1.Events, .slice a1 x1.1.Places.length c1], own cd58 a1 x1.1.Places.length c1 x1.1.Places, box b1 30 [.int .i64 0, .slice none 0 0], it]) mixed (by kernel_rfl) H11 Hold.stable (fun x Hy => (show Hold h x [box bs_ 155 [.slice as_code s_.code.length cs_code, .int .i64 x2.2.at_, .int .i64 x2.2.seed], box b2 30 [.int .i64 x1.1.Events, .slice a1 x1.1.Places.length c1], own cd58 a1 x1.1.Places.length c1 x1.1.Places, box b1 30 [.int .i64 0, .slice none 0 0], it] from Hy).pick [1, 2, 3, 4] (by kernel_rfl)) ?_
    refine DR_y 5 (i := 0) (.agg #[.int .i64 x1.1.Events, .slice a1 x1.1.Places.length c1]) (by kernel_rfl) (by kernel_rfl) (by kernel_rfl) (fun hx Hx => (YE.of (Y_loadA (t := 30) (n := 2) (p := ⟨b2, 0, none⟩) (cs := [.int .i64 x1.1.Events, .slice a1 x1.1.Places.length c1]) (by kernel_rfl) (fun w => by kernel_rfl) (by kernel_rfl) rfl (Hx.cells (n := 2) (off := 0) 0 rfl rfl)))) ?_
    refine DR_b 3 [.pointer (some ⟨bs_, 0, none⟩), .int .i64 (x1.1.Places.length : Int)] 1 (by kernel_rfl) (by kernel_rfl) (by kernel_rfl) (fun w => by kernel_rfl) ?_
    refine DR_e 2 3 (by kernel_rfl) (by kernel_rfl) (by kernel_rfl) (fun h12 H28 => ?_)
    have H29 : Hold h h12 [box bs_ 155 [.slice as_code s_.code.length cs_code, .int .i64 x2.2.at_, .int .i64 x2.2.seed], box b2 30 [.int .i64 x1.1.Events, .slice a1 x1.1.Places.length c1], own cd58 a1 x1.1.Places.length c1 x1.1.Places, box b1 30 [.int .i64 0, .slice none 0 0], it] := H28
    obtain ⟨x4, hx4, hF⟩ := M.bind_some hF
    have H30 : Hold h h12 [box bs_ 155 [.slice as_code s_.code.length cs_code, .int .i64 x2.2.at_, .int .i64 x2.2.seed], bun [box b2 30 [.int .i64 x1.1.Events, .slice a1 x1.1.Places.length c1], own cd58 a1 x1.1.Places.length c1 x1.1.Places, box b1 30 [.int .i64 0, .slice none 0 0], it]] := Hold.bundle (S := [box bs_ 155 [.slice as_code s_.code.length cs_code, .int .i64 x2.2.at_, .int .i64 x2.2.seed]]) (R := [box b2 30 [.int .i64 x1.1.Events, .slice a1 x1.1.Places.length c1], own cd58 a1 x1.1.Places.length c1 x1.1.Places, box b1 30 [.int .i64 0, .slice none 0 0], it]) H29
    refine E_call (f := 106) (args := #[.pointer (some ⟨bs_, 0, none⟩), .int .i64 (x1.1.Places.length : Int)]) (w_spec_l01Next h h12 _ (⟨s_.code, x2.2.at_, x2.2.seed⟩ : TL01source) bs_ as_code cs_code rs_code (x1.1.Places.length : Int) H30 _ _ hx4) (by kernel_rfl) (fun v4 h13 hp4 => ?_)
    obtain ⟨rfl, H31⟩ := hp4
    have H32 : Hold h h13 [box bs_ 155 [.slice as_code s_.code.length cs_code, .int .i64 x4.2.at_, .int .i64 x4.2.seed], box b2 30 [.int .i64 x1.1.Events, .slice a1 x1.1.Places.length c1], own cd58 a1 x1.1.Places.length c1 x1.1.Places, box b1 30 [.int .i64 0, .slice none 0 0], it] := Hold.unbundle (S := [box bs_ 155 [.slice as_code s_.code.length cs_code, .int .i64 x4.2.at_, .int .i64 x4.2.seed]]) (R := [box b2 30 [.int .i64 x1.1.Events, .slice a1 x1.1.Places.length c1], own cd58 a1 x1.1.Places.length c1 x1.1.Places, box b1 30 [.int .i64 0, .slice none 0 0], it]) H31 (Hold.tailBase (S := [box bs_ 155 [.slice as_code s_.code.length cs_code, .int .i64 x2.2.at_, .int .i64 x2.2.seed]]) (R := [box b2 30 [.int .i64 x1.1.Events, .slice a1 x1.1.Places.length c1], own cd58 a1 x1.1.Places.length c1 x1.1.Places, box b1 30 [.int .i64 0, .slice none 0 0], it]) H29)
    refine ⟨fun x => Hold h x [box b2 30 [.int .i64 x1.1.Events, .slice a1 x1.1.Places.length c1], own cd58 a1 x1.1.Places.length c1 x1.1.Places, box b1 30 [.int .i64 0, .slice none 0 0], it], fun x => Hold h x [box bs_ 155 [.slice as_code s_.code.length cs_code, .int .i64 x4.2.at_, .int .i64 x4.2.seed], box b2 30 [.int .i64 x1.1.Events, .slice a1 x1.1.Places.length c1], own cd58 a1 x1.1.Places.length c1 x1.1.Places, box b1 30 [.int .i64 0, .slice none 0 0], it], H32, Hold.stable, fun x Hy => (show Hold h x [box bs_ 155 [.slice as_code s_.code.length cs_code, .int .i64 x4.2.at_, .int .i64 x4.2.seed], box b2 30 [.int .i64 x1.1.Events, .slice a1 x1.1.Places.length c1], own cd58 a1 x1.1.Places.length c1 x1.1.Places, box b1 30 [.int .i64 0, .slice none 0 0], it] from Hy).pick [1, 2, 3, 4] (by kernel_rfl), fun x Hy => (show Hold h x [box b2 30 [.int .i64 x1.1.Events, .slice a1 x1.1.Places.length c1], own cd58 a1 x1.1.Places.length c1 x1.1.Places, box b1 30 [.int .i64 0, .slice none 0 0], it] from Hy).pick [0, 1, 2, 3] (by kernel_rfl), ?_⟩
    refine DR_tail (i := 4) (by kernel_rfl) (by kernel_rfl) (by kernel_rfl) (fun h14 H33 => ?_)
    have H34 : Hold h h14 [box bs_ 155 [.slice as_code s_.code.length cs_code, .int .i64 x4.2.at_, .int .i64 x4.2.seed], box b2 30 [.int .i64 x1.1.Events, .slice a1 x1.1.Places.length c1], own cd58 a1 x1.1.Places.length c1 x1.1.Places, box b1 30 [.int .i64 0, .slice none 0 0], it] := H33
    have H36 : Hold h h14 [box b1 30 [.int .i64 0, .slice none 0 0], box bs_ 155 [.slice as_code s_.code.length cs_code, .int .i64 x4.2.at_, .int .i64 x4.2.seed], box b2 30 [.int .i64 x1.1.Events, .slice a1 x1.1.Places.length c1], own cd58 a1 x1.1.Places.length c1 x1.1.Places, it] := H34.pick [3, 0, 1, 2, 4] (by kernel_rfl)
    refine Run_E (by kernel_rfl) ?_
    refine E_bput (t := 30) (off := 0) (us := [.int .i64 x1.1.Events, .slice a1 x1.1.Places.length c1]) (v := .agg #[.int .i64 x1.1.Events, .slice a1 x1.1.Places.length c1]) H36 (by kernel_rfl) (by kernel_rfl) rfl (by kernel_rfl) rfl (fun h15 H35 => ?_)
    refine Run_b [.int .i64 x4.1] 5 _ (by kernel_rfl) (fun w => by kernel_rfl) ?_
    refine Run_nil (by kernel_rfl) ?_
    refine Run_keep [2, 3] (L' := [(2, .pointer (some ⟨b1, 0, none⟩)), (3, .int .i64 x4.1)]) (by kernel_rfl) ?_
    have hF := M.ret_some hF
    subst hF
    have H37 : Hold h h15 [own cd58 a1 x1.1.Places.length c1 x1.1.Places, box b1 30 [.int .i64 x1.1.Events, .slice a1 x1.1.Places.length c1], box bs_ 155 [.slice as_code s_.code.length cs_code, .int .i64 x4.2.at_, .int .i64 x4.2.seed], box b2 30 [.int .i64 x1.1.Events, .slice a1 x1.1.Places.length c1], it] := H35.pick [3, 0, 1, 2, 4] (by kernel_rfl)
    have H38 : Hold h h15 [own cd58 a1 x1.1.Places.length c1 x1.1.Places, box bs_ 155 [.slice as_code s_.code.length cs_code, .int .i64 x4.2.at_, .int .i64 x4.2.seed], it] := H37.pick [0, 2, 4] (by kernel_rfl)
    exact Run_ret2 rfl (ResV_cell (n := 2) (cs := [.int .i64 x1.1.Events, .slice a1 x1.1.Places.length c1]) (by kernel_rfl) (fun w => by kernel_rfl) (by kernel_rfl) rfl (H35.cells (n := 2) (off := 0) 0 rfl rfl)) (ResV_tmp (v := .int .i64 x4.1) (by kernel_rfl)) ⟨a1, c1, rfl, H38⟩

end Go.Proofs.Ytipdgiljgbjjkaa
