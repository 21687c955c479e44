/-
  Walks: each Go function, called with what reads as plain data, returns what its plain program computes.
  Conditions: None beyond the given statement.
-/
import Derived.Test.YtjdcdcipilhmeaaW0
namespace Go.Proofs.Ytjdcdcipilhmeaa
open Go
attribute [local irreducible] setL setB opA fineI idleI fineB evB okB markB markBs readyB readyBs chainB lk rho pickL dropSlot tailOK
set_option maxRecDepth 100000 in
set_option maxHeartbeats 4000000 in
theorem w_spec_l09DrawTwo (h hE : Heap) (it : Item) (s_ : TL01source) (bs_ : Nat) (as_code : Option Addr) (cs_code : Nat) (rs_code : Rd cd5 h (Lt h) as_code cs_code s_.code) (HM : Hold h hE [box bs_ 122 [.slice as_code s_.code.length cs_code, .int .i64 s_.at_, .int .i64 s_.seed], it]) (n : Nat) (r : (List Int) × (List Int) × TL01source) (hF : spec_l09DrawTwo s_ n = some r) :
    Fn Try.prog 121 #[.pointer (some ⟨bs_, 0, none⟩)] hE fun v h' => ∃ (a0 : Option Addr) (c0 : Nat), ∃ (a1 : Option Addr) (c1 : Nat), v = .tuple #[.slice a0 r.1.length c0, .slice a1 r.2.1.length c1] ∧ Hold h h' [own cd2 a0 r.1.length c0 r.1, own cd2 a1 r.2.1.length c1 r.2.1, box bs_ 122 [.slice as_code s_.code.length cs_code, .int .i64 r.2.2.at_, .int .i64 r.2.2.seed], it] := by
  unfold spec_l09DrawTwo at hF
  refine Fn_enter (args := [.pointer (some ⟨bs_, 0, none⟩)]) Try.func121 rfl (by kernel_rfl) (by kernel_rfl) (fun w0 _ => ?_)
  refine Run_seq ?_
  refine Run_reg 2 (by kernel_rfl) (L' := [(0, .pointer (some ⟨bs_, 0, none⟩))]) ?_ ?_
  · refine QRun_b [.slice none 0 0, .slice none 0 0] 0 _ (by kernel_rfl) (fun w => by kernel_rfl) ?_
    exact QRun_done [0] (by kernel_rfl) (by kernel_rfl)
  refine Run_seq ?_
  refine Run_ops ?_
  refine Run_b [.pointer (some ⟨bs_, 0, none⟩)] 0 _ (by kernel_rfl) (fun w => by kernel_rfl) ?_
  obtain ⟨x1, hx1, hF⟩ := M.bind_some hF
  have H1 : Hold h hE [box bs_ 122 [.slice as_code s_.code.length cs_code, .int .i64 s_.at_, .int .i64 s_.seed], bun [it]] := Hold.bundle (S := [box bs_ 122 [.slice as_code s_.code.length cs_code, .int .i64 s_.at_, .int .i64 s_.seed]]) (R := [it]) HM
  refine Run_E (by kernel_rfl) ?_
  refine E_call (f := 113) (args := #[.pointer (some ⟨bs_, 0, none⟩)]) (w_spec_l09Draw h hE _ s_ bs_ as_code cs_code rs_code H1 _ _ hx1) (by kernel_rfl) (fun v1 h1 hp1 => ?_)
  obtain ⟨a1, c1, rfl, H2⟩ := hp1
  have H3 : Hold h h1 [own cd2 a1 x1.1.length c1 x1.1, box bs_ 122 [.slice as_code s_.code.length cs_code, .int .i64 x1.2.at_, .int .i64 x1.2.seed], it] := Hold.unbundle (S := [own cd2 a1 x1.1.length c1 x1.1, box bs_ 122 [.slice as_code s_.code.length cs_code, .int .i64 x1.2.at_, .int .i64 x1.2.seed]]) (R := [it]) H2 (Hold.tailBase (S := [box bs_ 122 [.slice as_code s_.code.length cs_code, .int .i64 s_.at_, .int .i64 s_.seed]]) (R := [it]) HM)
  refine Run_b [.slice a1 x1.1.length c1] 2 _ (by kernel_rfl) (fun w => by kernel_rfl) ?_
  refine Run_nil (by kernel_rfl) ?_
  refine Run_keep [0, 4] (L' := [(0, .pointer (some ⟨bs_, 0, none⟩)), (4, .slice a1 x1.1.length c1)]) (by kernel_rfl) ?_
  refine Run_seq ?_
  refine Run_seq ?_
  refine Run_ops ?_
  refine Run_b [.pointer (some ⟨bs_, 0, none⟩)] 0 _ (by kernel_rfl) (fun w => by kernel_rfl) ?_
  obtain ⟨x2, hx2, hF⟩ := M.bind_some hF
  have H4 : Hold h h1 [box bs_ 122 [.slice as_code s_.code.length cs_code, .int .i64 x1.2.at_, .int .i64 x1.2.seed], own cd2 a1 x1.1.length c1 x1.1, it] := H3.pick [1, 0, 2] (by kernel_rfl)
  have H5 : Hold h h1 [box bs_ 122 [.slice as_code s_.code.length cs_code, .int .i64 x1.2.at_, .int .i64 x1.2.seed], bun [own cd2 a1 x1.1.length c1 x1.1, it]] := Hold.bundle (S := [box bs_ 122 [.slice as_code s_.code.length cs_code, .int .i64 x1.2.at_, .int .i64 x1.2.seed]]) (R := [own cd2 a1 x1.1.length c1 x1.1, it]) H4
  refine Run_E (by kernel_rfl) ?_
  refine E_call (f := 67) (args := #[.pointer (some ⟨bs_, 0, none⟩), .int .i64 3]) (w_spec_l01Next h h1 _ (⟨s_.code, x1.2.at_, x1.2.seed⟩ : TL01source) bs_ as_code cs_code rs_code 3 H5 _ _ hx2) (by kernel_rfl) (fun v2 h2 hp2 => ?_)
  obtain ⟨rfl, H6⟩ := hp2
  have H7 : Hold h h2 [box bs_ 122 [.slice as_code s_.code.length cs_code, .int .i64 x2.2.at_, .int .i64 x2.2.seed], own cd2 a1 x1.1.length c1 x1.1, it] := Hold.unbundle (S := [box bs_ 122 [.slice as_code s_.code.length cs_code, .int .i64 x2.2.at_, .int .i64 x2.2.seed]]) (R := [own cd2 a1 x1.1.length c1 x1.1, it]) H6 (Hold.tailBase (S := [box bs_ 122 [.slice as_code s_.code.length cs_code, .int .i64 x1.2.at_, .int .i64 x1.2.seed]]) (R := [own cd2 a1 x1.1.length c1 x1.1, it]) H4)
  obtain ⟨x3, gx3, hF⟩ := M.bind_some hF
  refine Run_b [.bool (x2.1 == 0)] 2 _ (by kernel_rfl) (fun w => by kernel_rfl) ?_
  refine Run_q1 7 (L' := [(0, .pointer (some ⟨bs_, 0, none⟩)), (4, .slice a1 x1.1.length c1), (15, .bool x3)]) ?_ ?_
  · rcases Bool.eq_false_or_eq_true (x2.1 == 0) with hb1 | hb1
    · refine QRun_bool (x2.1 == 0) true (by kernel_rfl) (fun w => by kernel_rfl) hb1 ?_
      have gx3 := (M.ite_some gx3).1 hb1
      obtain ⟨x4, hx3, gx3⟩ := M.bind_some gx3
      have gx3 := M.ret_some gx3
      refine QRun_b [.slice a1 x1.1.length c1] 4 _ (by kernel_rfl) (fun w => by kernel_rfl) ?_
      refine QRun_y (.bool x4) (by kernel_rfl) (Y_callq (f := 117) (args := #[.slice a1 x1.1.length c1]) (v := .bool x4) (by kernel_rfl) (w_spec_IsPolynomial h2 x1.1 a1 c1 (H7.rd 1 rfl) _ _ hx3)) ?_
      refine QRun_bool x4 x3 (by kernel_rfl) (fun w => by kernel_rfl) gx3 ?_
      exact QRun_done [0, 4, 15] (by kernel_rfl) (by kernel_rfl)
    · refine QRun_bool (x2.1 == 0) false (by kernel_rfl) (fun w => by kernel_rfl) hb1 ?_
      have gx3 := M.ret_some ((M.ite_some gx3).2 hb1)
      refine QRun_n (by kernel_rfl) ?_
      refine QRun_n (by kernel_rfl) ?_
      refine QRun_bool false x3 (by kernel_rfl) (fun w => by kernel_rfl) gx3 ?_
      exact QRun_done [0, 4, 15] (by kernel_rfl) (by kernel_rfl)
  refine Run_nil (by kernel_rfl) ?_
  refine Run_keep [0, 4, 15] (L' := [(0, .pointer (some ⟨bs_, 0, none⟩)), (4, .slice a1 x1.1.length c1), (15, .bool x3)]) (by kernel_rfl) ?_
  refine Run_cond (b := x3) (by kernel_rfl) (fun hb2 => ?_) (fun hb2 => ?_)
  · have hF := (M.ite_some hF).1 hb2
    refine Run_seq ?_
    refine Run_ops ?_
    refine Run_b [.slice a1 x1.1.length c1] 0 _ (by kernel_rfl) (fun w => by kernel_rfl) ?_
    obtain ⟨x5, hx4, hF⟩ := M.bind_some hF
    refine Run_E (by kernel_rfl) ?_
    refine E_call (f := 49) (args := #[.slice a1 x1.1.length c1]) (w_spec_FullPolynomial h2 x1.1 a1 c1 (H7.rd 1 rfl) _ _ hx4) (by kernel_rfl) (fun v3 h3 hp3 => ?_)
    obtain ⟨a2, c2, rfl, H8⟩ := hp3
    have H9 : Hold h h3 [own cd2 a2 x5.1.length c2 x5.1, box bs_ 122 [.slice as_code s_.code.length cs_code, .int .i64 x2.2.at_, .int .i64 x2.2.seed], own cd2 a1 x1.1.length c1 x1.1, it] := H7.call H8 rfl
    refine Run_b [.tuple #[.slice a2 x5.1.length c2, .int .i64 x5.2], .slice a2 x5.1.length c2, .int .i64 x5.2, .slice a2 x5.1.length c2, .int .i64 x5.2] 2 _ (by kernel_rfl) (fun w => by kernel_rfl) ?_
    refine Run_nil (by kernel_rfl) ?_
    refine Run_keep [0, 4, 5] (L' := [(0, .pointer (some ⟨bs_, 0, none⟩)), (4, .slice a1 x1.1.length c1), (5, .slice a2 x5.1.length c2)]) (by kernel_rfl) ?_
    refine Run_seq ?_
    refine Run_seq ?_
    refine Run_ops ?_
    refine Run_b [.pointer (some ⟨bs_, 0, none⟩)] 0 _ (by kernel_rfl) (fun w => by kernel_rfl) ?_
    obtain ⟨x6, hx5, hF⟩ := M.bind_some hF
    have H10 : Hold h h3 [box bs_ 122 [.slice as_code s_.code.length cs_code, .int .i64 x2.2.at_, .int .i64 x2.2.seed], own cd2 a2 x5.1.length c2 x5.1, own cd2 a1 x1.1.length c1 x1.1, it] := H9.pick [1, 0, 2, 3] (by kernel_rfl)
    have H11 : Hold h h3 [box bs_ 122 [.slice as_code s_.code.length cs_code, .int .i64 x2.2.at_, .int .i64 x2.2.seed], bun [own cd2 a2 x5.1.length c2 x5.1, own cd2 a1 x1.1.length c1 x1.1, it]] := Hold.bundle (S := [box bs_ 122 [.slice as_code s_.code.length cs_code, .int .i64 x2.2.at_, .int .i64 x2.2.seed]]) (R := [own cd2 a2 x5.1.length c2 x5.1, own cd2 a1 x1.1.length c1 x1.1, it]) H10
    refine Run_E (by kernel_rfl) ?_
    refine E_call (f := 67) (args := #[.pointer (some ⟨bs_, 0, none⟩), .int .i64 4]) (w_spec_l01Next h h3 _ (⟨s_.code, x2.2.at_, x2.2.seed⟩ : TL01source) bs_ as_code cs_code rs_code 4 H11 _ _ hx5) (by kernel_rfl) (fun v4 h4 hp4 => ?_)
    obtain ⟨rfl, H12⟩ := hp4
    have H13 : Hold h h4 [box bs_ 122 [.slice as_code s_.code.length cs_code, .int .i64 x6.2.at_, .int .i64 x6.2.seed], own cd2 a2 x5.1.length c2 x5.1, own cd2 a1 x1.1.length c1 x1.1, it] := Hold.unbundle (S := [box bs_ 122 [.slice as_code s_.code.length cs_code, .int .i64 x6.2.at_, .int .i64 x6.2.seed]]) (R := [own cd2 a2 x5.1.length c2 x5.1, own cd2 a1 x1.1.length c1 x1.1, it]) H12 (Hold.tailBase (S := [box bs_ 122 [.slice as_code s_.code.length cs_code, .int .i64 x2.2.at_, .int .i64 x2.2.seed]]) (R := [own cd2 a2 x5.1.length c2 x5.1, own cd2 a1 x1.1.length c1 x1.1, it]) H10)
    refine Run_b [.bool (x6.1 == 0)] 2 _ (by kernel_rfl) (fun w => by kernel_rfl) ?_
    refine Run_nil (by kernel_rfl) ?_
    refine Run_keep [0, 4, 5, 23] (L' := [(0, .pointer (some ⟨bs_, 0, none⟩)), (4, .slice a1 x1.1.length c1), (5, .slice a2 x5.1.length c2), (23, .bool (x6.1 == 0))]) (by kernel_rfl) ?_
    obtain ⟨s1, gs1, hF⟩ := M.bind_some hF
    refine Run_join (fun L' h' => L' = [(4, .slice a1 x1.1.length c1), (5, .slice a2 x5.1.length c2)] ∧ Hold h h' [own cd2 a1 x1.1.length c1 x1.1, own cd2 a2 x5.1.length c2 s1.1, box bs_ 122 [.slice as_code s_.code.length cs_code, .int .i64 s1.2.1, .int .i64 s1.2.2], it]) ?_ ?_
    · rintro _ h8 ⟨rfl, H22⟩
      refine Run_seq ?_
      refine Run_reg 4 (by kernel_rfl) (L' := [(2, .slice a1 x1.1.length c1), (3, .slice a2 x5.1.length c2)]) ?_ ?_
      · refine QRun_b [.slice a1 x1.1.length c1, .slice a2 x5.1.length c2, .slice a1 x1.1.length c1, .slice a2 x5.1.length c2] 0 _ (by kernel_rfl) (fun w => by kernel_rfl) ?_
        exact QRun_done [2, 3] (by kernel_rfl) (by kernel_rfl)
      have hF := M.ret_some hF
      subst hF
      have H25 : Hold h h8 [own cd2 a2 x5.1.length c2 s1.1, own cd2 a1 x1.1.length c1 x1.1, box bs_ 122 [.slice as_code s_.code.length cs_code, .int .i64 s1.2.1, .int .i64 s1.2.2], it] := H22.pick [1, 0, 2, 3] (by kernel_rfl)
      have H26 := H25.norm
      have H27 : Hold h h8 [own cd2 a1 x1.1.length c1 x1.1, own cd2 a2 s1.1.length c2 s1.1, box bs_ 122 [.slice as_code s_.code.length cs_code, .int .i64 s1.2.1, .int .i64 s1.2.2], it] := H26.pick [1, 0, 2, 3] (by kernel_rfl)
      exact Run_ret2 rfl (ResV_tmp (v := .slice a1 x1.1.length c1) (by kernel_rfl)) (ResV_tmp (v := .slice a2 x5.1.length c2) (by kernel_rfl)) ⟨a1, c1, a2, c2, (by simp only [(H25.len 0 rfl)]), H27⟩
    · refine Run_cond (b := x6.1 == 0) (by kernel_rfl) (fun hb3 => ?_) (fun hb3 => ?_)
      · have gs1 := (M.ite_some gs1).1 hb3
        refine Run_ops ?_
        refine Run_b [.slice a2 x5.1.length c2, .pointer (some ⟨bs_, 0, none⟩), .slice a2 x5.1.length c2, .int .i64 (x5.1.length : Int)] 0 _ (by kernel_rfl) (fun w => by kernel_rfl) ?_
        obtain ⟨x7, hx6, gs1⟩ := M.bind_some gs1
        have H14 : Hold h h4 [box bs_ 122 [.slice as_code s_.code.length cs_code, .int .i64 x6.2.at_, .int .i64 x6.2.seed], bun [own cd2 a2 x5.1.length c2 x5.1, own cd2 a1 x1.1.length c1 x1.1, it]] := Hold.bundle (S := [box bs_ 122 [.slice as_code s_.code.length cs_code, .int .i64 x6.2.at_, .int .i64 x6.2.seed]]) (R := [own cd2 a2 x5.1.length c2 x5.1, own cd2 a1 x1.1.length c1 x1.1, it]) H13
        refine Run_E (by kernel_rfl) ?_
        refine E_call (f := 67) (args := #[.pointer (some ⟨bs_, 0, none⟩), .int .i64 (x5.1.length : Int)]) (w_spec_l01Next h h4 _ (⟨s_.code, x6.2.at_, x6.2.seed⟩ : TL01source) bs_ as_code cs_code rs_code (x5.1.length : Int) H14 _ _ hx6) (by kernel_rfl) (fun v5 h5 hp5 => ?_)
        obtain ⟨rfl, H15⟩ := hp5
        have H16 : Hold h h5 [box bs_ 122 [.slice as_code s_.code.length cs_code, .int .i64 x7.2.at_, .int .i64 x7.2.seed], own cd2 a2 x5.1.length c2 x5.1, own cd2 a1 x1.1.length c1 x1.1, it] := Hold.unbundle (S := [box bs_ 122 [.slice as_code s_.code.length cs_code, .int .i64 x7.2.at_, .int .i64 x7.2.seed]]) (R := [own cd2 a2 x5.1.length c2 x5.1, own cd2 a1 x1.1.length c1 x1.1, it]) H15 (Hold.tailBase (S := [box bs_ 122 [.slice as_code s_.code.length cs_code, .int .i64 x6.2.at_, .int .i64 x6.2.seed]]) (R := [own cd2 a2 x5.1.length c2 x5.1, own cd2 a1 x1.1.length c1 x1.1, it]) H13)
        refine Run_b [.pointer (some ⟨bs_, 0, none⟩)] 5 _ (by kernel_rfl) (fun w => by kernel_rfl) ?_
        obtain ⟨x8, hx7, gs1⟩ := M.bind_some gs1
        have H17 : Hold h h5 [box bs_ 122 [.slice as_code s_.code.length cs_code, .int .i64 x7.2.at_, .int .i64 x7.2.seed], bun [own cd2 a2 x5.1.length c2 x5.1, own cd2 a1 x1.1.length c1 x1.1, it]] := Hold.bundle (S := [box bs_ 122 [.slice as_code s_.code.length cs_code, .int .i64 x7.2.at_, .int .i64 x7.2.seed]]) (R := [own cd2 a2 x5.1.length c2 x5.1, own cd2 a1 x1.1.length c1 x1.1, it]) H16
        refine Run_E (by kernel_rfl) ?_
        refine E_call (f := 67) (args := #[.pointer (some ⟨bs_, 0, none⟩), .int .i64 21]) (w_spec_l01Next h h5 _ (⟨s_.code, x7.2.at_, x7.2.seed⟩ : TL01source) bs_ as_code cs_code rs_code 21 H17 _ _ hx7) (by kernel_rfl) (fun v6 h6 hp6 => ?_)
        obtain ⟨rfl, H18⟩ := hp6
        have H19 : Hold h h6 [box bs_ 122 [.slice as_code s_.code.length cs_code, .int .i64 x8.2.at_, .int .i64 x8.2.seed], own cd2 a2 x5.1.length c2 x5.1, own cd2 a1 x1.1.length c1 x1.1, it] := Hold.unbundle (S := [box bs_ 122 [.slice as_code s_.code.length cs_code, .int .i64 x8.2.at_, .int .i64 x8.2.seed]]) (R := [own cd2 a2 x5.1.length c2 x5.1, own cd2 a1 x1.1.length c1 x1.1, it]) H18 (Hold.tailBase (S := [box bs_ 122 [.slice as_code s_.code.length cs_code, .int .i64 x7.2.at_, .int .i64 x7.2.seed]]) (R := [own cd2 a2 x5.1.length c2 x5.1, own cd2 a1 x1.1.length c1 x1.1, it]) H16)
        obtain ⟨x9, hx8, gs1⟩ := M.bind_some gs1
        obtain ⟨hx8l, hx8u, hx8⟩ := M.idx_some hx8
        refine Run_b [.int .i64 (w64 (x8.1 - 10))] 7 _ (by kernel_rfl) (fun w => by kernel_rfl) ?_
        refine Run_y (.pointer (some (adr a2 (x7.1.toNat * 1)))) (by kernel_rfl) (Y_idx (t := 23) (e := 2) (sz := 1) (a := a2) (n := x5.1.length) (cap := c2) (kk := .i64) (i := x7.1) (by kernel_rfl) Try.underlying23 (by kernel_rfl) ((H19.rd 1 rfl).cell hx8).1 hx8l hx8u) ?_
        obtain ⟨l1, hu1, gs1⟩ := M.bind_some gs1
        have hu1 := M.upd_some hu1
        have H21 : Hold h h6 [own cd2 a2 x5.1.length c2 x5.1, box bs_ 122 [.slice as_code s_.code.length cs_code, .int .i64 x8.2.at_, .int .i64 x8.2.seed], own cd2 a1 x1.1.length c1 x1.1, it] := H19.pick [1, 0, 2, 3] (by kernel_rfl)
        refine Run_E (by kernel_rfl) ?_
        refine E_put (C := cd2) (t := 2) (sz := 1) (j := x7.1) (x := (w64 (x8.1 - 10))) (v := .int .i64 (w64 (x8.1 - 10))) H21 cd2_flat (by kernel_rfl) rfl (cd2_own _) (by kernel_rfl) hu1 (fun h7 H20 => ?_)
        refine Run_nil (by kernel_rfl) ?_
        refine Run_keep [4, 5] (L' := [(4, .slice a1 x1.1.length c1), (5, .slice a2 x5.1.length c2)]) (by kernel_rfl) ?_
        have H23 : Hold h h7 [own cd2 a1 x1.1.length c1 x1.1, own cd2 a2 x5.1.length c2 l1, box bs_ 122 [.slice as_code s_.code.length cs_code, .int .i64 x8.2.at_, .int .i64 x8.2.seed], it] := H20.pick [2, 0, 1, 3] (by kernel_rfl)
        have gs1 := M.ret_some gs1
        subst gs1
        exact Run_fall [4, 5] (by kernel_rfl) ⟨rfl, H23⟩
      · have gs1 := (M.ite_some gs1).2 hb3
        refine Run_skip ?_
        have H24 : Hold h h4 [own cd2 a1 x1.1.length c1 x1.1, own cd2 a2 x5.1.length c2 x5.1, box bs_ 122 [.slice as_code s_.code.length cs_code, .int .i64 x6.2.at_, .int .i64 x6.2.seed], it] := H13.pick [2, 1, 0, 3] (by kernel_rfl)
        have gs1 := M.ret_some gs1
        subst gs1
        exact Run_fall [4, 5] (by kernel_rfl) ⟨rfl, H24⟩
  · have hF := (M.ite_some hF).2 hb2
    refine Run_skip ?_
    refine Run_seq ?_
    refine Run_ops ?_
    refine Run_b [.slice a1 x1.1.length c1, .pointer (some ⟨bs_, 0, none⟩)] 0 _ (by kernel_rfl) (fun w => by kernel_rfl) ?_
    obtain ⟨x10, hx9, hF⟩ := M.bind_some hF
    have H28 : Hold h h2 [box bs_ 122 [.slice as_code s_.code.length cs_code, .int .i64 x2.2.at_, .int .i64 x2.2.seed], bun [own cd2 a1 x1.1.length c1 x1.1, it]] := Hold.bundle (S := [box bs_ 122 [.slice as_code s_.code.length cs_code, .int .i64 x2.2.at_, .int .i64 x2.2.seed]]) (R := [own cd2 a1 x1.1.length c1 x1.1, it]) H7
    refine Run_E (by kernel_rfl) ?_
    refine E_call (f := 113) (args := #[.pointer (some ⟨bs_, 0, none⟩)]) (w_spec_l09Draw h h2 _ (⟨s_.code, x2.2.at_, x2.2.seed⟩ : TL01source) bs_ as_code cs_code rs_code H28 _ _ hx9) (by kernel_rfl) (fun v7 h9 hp7 => ?_)
    obtain ⟨a3, c3, rfl, H29⟩ := hp7
    have H30 : Hold h h9 [own cd2 a3 x10.1.length c3 x10.1, box bs_ 122 [.slice as_code s_.code.length cs_code, .int .i64 x10.2.at_, .int .i64 x10.2.seed], own cd2 a1 x1.1.length c1 x1.1, it] := Hold.unbundle (S := [own cd2 a3 x10.1.length c3 x10.1, box bs_ 122 [.slice as_code s_.code.length cs_code, .int .i64 x10.2.at_, .int .i64 x10.2.seed]]) (R := [own cd2 a1 x1.1.length c1 x1.1, it]) H29 (Hold.tailBase (S := [box bs_ 122 [.slice as_code s_.code.length cs_code, .int .i64 x2.2.at_, .int .i64 x2.2.seed]]) (R := [own cd2 a1 x1.1.length c1 x1.1, it]) H7)
    refine Run_b [.slice a1 x1.1.length c1, .slice a3 x10.1.length c3] 3 _ (by kernel_rfl) (fun w => by kernel_rfl) ?_
    refine Run_nil (by kernel_rfl) ?_
    refine Run_keep [2, 3] (L' := [(2, .slice a1 x1.1.length c1), (3, .slice a3 x10.1.length c3)]) (by kernel_rfl) ?_
    have hF := M.ret_some hF
    subst hF
    have H31 : Hold h h9 [own cd2 a1 x1.1.length c1 x1.1, own cd2 a3 x10.1.length c3 x10.1, box bs_ 122 [.slice as_code s_.code.length cs_code, .int .i64 x10.2.at_, .int .i64 x10.2.seed], it] := H30.pick [2, 0, 1, 3] (by kernel_rfl)
    have H32 : Hold h h9 [own cd2 a3 x10.1.length c3 x10.1, own cd2 a1 x1.1.length c1 x1.1, box bs_ 122 [.slice as_code s_.code.length cs_code, .int .i64 x10.2.at_, .int .i64 x10.2.seed], it] := H31.pick [1, 0, 2, 3] (by kernel_rfl)
    have H33 : Hold h h9 [own cd2 a1 x1.1.length c1 x1.1, own cd2 a3 x10.1.length c3 x10.1, box bs_ 122 [.slice as_code s_.code.length cs_code, .int .i64 x10.2.at_, .int .i64 x10.2.seed], it] := H32.pick [1, 0, 2, 3] (by kernel_rfl)
    exact Run_ret2 rfl (ResV_tmp (v := .slice a1 x1.1.length c1) (by kernel_rfl)) (ResV_tmp (v := .slice a3 x10.1.length c3) (by kernel_rfl)) ⟨a1, c1, a3, c3, rfl, H33⟩

set_option maxRecDepth 100000 in
set_option maxHeartbeats 4000000 in
theorem w_spec_DrawSameFunction (h : Heap) (code : List Int) (acode : Option Addr) (ccode : Nat) (rcode : Rd cd5 h (Lt h) acode ccode code) (n : Nat) (r : (List Int) × (List Int)) (hF : spec_DrawSameFunction code n = some r) :
    Fn Try.prog 50 #[.slice acode code.length ccode] h fun v h' => ∃ (a0 : Option Addr) (c0 : Nat), ∃ (a1 : Option Addr) (c1 : Nat), v = .tuple #[.slice a0 r.1.length c0, .slice a1 r.2.length c1] ∧ Hold h h' [own cd2 a0 r.1.length c0 r.1, own cd2 a1 r.2.length c1 r.2] := by
  unfold spec_DrawSameFunction at hF
  refine Fn_enter (args := [.slice acode code.length ccode]) Try.func50 rfl (by kernel_rfl) (by kernel_rfl) (fun w0 _ => ?_)
  have H0 := Hold.init h
  refine Run_seq ?_
  refine Run_reg 2 (by kernel_rfl) (L' := [(0, .slice acode code.length ccode)]) ?_ ?_
  · refine QRun_b [.slice none 0 0, .slice none 0 0] 0 _ (by kernel_rfl) (fun w => by kernel_rfl) ?_
    exact QRun_done [0] (by kernel_rfl) (by kernel_rfl)
  refine Run_seq ?_
  refine Run_ops ?_
  refine Run_b [.slice acode code.length ccode] 0 _ (by kernel_rfl) (fun w => by kernel_rfl) ?_
  obtain ⟨x1, hx1, hF⟩ := M.bind_some hF
  refine Run_E (by kernel_rfl) ?_
  refine E_call (f := 64) (args := #[.slice acode code.length ccode]) (w_spec_l01From h code acode ccode rcode _ _ hx1) (by kernel_rfl) (fun v1 h1 hp1 => ?_)
  obtain ⟨b1, a1, c1, rfl, hd1, H1⟩ := hp1
  have H2 : Hold h h1 [box b1 122 [.slice a1 x1.code.length c1, .int .i64 x1.at_, .int .i64 x1.seed]] := H0.call H1 rfl
  have r1 := rcode.alias hd1
  obtain ⟨x2, hx2, hF⟩ := M.bind_some hF
  have H3 : Hold h h1 [box b1 122 [.slice a1 x1.code.length c1, .int .i64 x1.at_, .int .i64 x1.seed], bun []] := Hold.bundle (S := [box b1 122 [.slice a1 x1.code.length c1, .int .i64 x1.at_, .int .i64 x1.seed]]) (R := []) H2
  refine Run_E (by kernel_rfl) ?_
  refine E_call (f := 121) (args := #[.pointer (some ⟨b1, 0, none⟩)]) (w_spec_l09DrawTwo h h1 _ x1 b1 a1 c1 r1 H3 _ _ hx2) (by kernel_rfl) (fun v2 h2 hp2 => ?_)
  obtain ⟨a2, c2, a3, c3, rfl, H4⟩ := hp2
  have H5 : Hold h h2 [own cd2 a2 x2.1.length c2 x2.1, own cd2 a3 x2.2.1.length c3 x2.2.1, box b1 122 [.slice a1 x1.code.length c1, .int .i64 x2.2.2.at_, .int .i64 x2.2.2.seed]] := Hold.unbundle (S := [own cd2 a2 x2.1.length c2 x2.1, own cd2 a3 x2.2.1.length c3 x2.2.1, box b1 122 [.slice a1 x1.code.length c1, .int .i64 x2.2.2.at_, .int .i64 x2.2.2.seed]]) (R := []) H4 (Hold.tailBase (S := [box b1 122 [.slice a1 x1.code.length c1, .int .i64 x1.at_, .int .i64 x1.seed]]) (R := []) H2)
  refine Run_b [.slice a2 x2.1.length c2, .slice a3 x2.2.1.length c3, .slice a2 x2.1.length c2, .slice a3 x2.2.1.length c3] 3 _ (by kernel_rfl) (fun w => by kernel_rfl) ?_
  refine Run_nil (by kernel_rfl) ?_
  refine Run_keep [2, 3] (L' := [(2, .slice a2 x2.1.length c2), (3, .slice a3 x2.2.1.length c3)]) (by kernel_rfl) ?_
  have hF := M.ret_some hF
  subst hF
  have H6 : Hold h h2 [own cd2 a3 x2.2.1.length c3 x2.2.1, own cd2 a2 x2.1.length c2 x2.1, box b1 122 [.slice a1 x1.code.length c1, .int .i64 x2.2.2.at_, .int .i64 x2.2.2.seed]] := H5.pick [1, 0, 2] (by kernel_rfl)
  have H7 : Hold h h2 [own cd2 a2 x2.1.length c2 x2.1, own cd2 a3 x2.2.1.length c3 x2.2.1] := H6.pick [1, 0] (by kernel_rfl)
  exact Run_ret2 rfl (ResV_tmp (v := .slice a2 x2.1.length c2) (by kernel_rfl)) (ResV_tmp (v := .slice a3 x2.2.1.length c3) (by kernel_rfl)) ⟨a2, c2, a3, c3, rfl, H7⟩

set_option maxRecDepth 100000 in
set_option maxHeartbeats 4000000 in
theorem w_slices_Equal_int (h : Heap) (p0 : List Int) {Sp0 : Bs} (ap0 : Option Addr) (cp0 : Nat) (rp0 : Rd cd2 h Sp0 ap0 cp0 p0) (p1 : List Int) {Sp1 : Bs} (ap1 : Option Addr) (cp1 : Nat) (rp1 : Rd cd2 h Sp1 ap1 cp1 p1) (n : Nat) (r : Bool) (hF : slices_Equal_int p0 p1 n = some r) :
    Fn Try.prog 122 #[.slice ap0 p0.length cp0, .slice ap1 p1.length cp1] h fun v h' => v = .bool r ∧ h' = h := by
  unfold slices_Equal_int at hF
  refine Fn_enter (args := [.slice ap0 p0.length cp0, .slice ap1 p1.length cp1]) Try.func122 rfl (by kernel_rfl) (by kernel_rfl) (fun w0 _ => ?_)
  refine Run_seq ?_
  refine Run_reg 1 (by kernel_rfl) (L' := [(0, .slice ap0 p0.length cp0), (1, .slice ap1 p1.length cp1)]) ?_ ?_
  · refine QRun_b [.bool false] 0 _ (by kernel_rfl) (fun w => by kernel_rfl) ?_
    exact QRun_done [0, 1] (by kernel_rfl) (by kernel_rfl)
  refine Run_seq ?_
  refine Run_seq ?_
  refine Run_reg 5 (by kernel_rfl) (L' := [(0, .slice ap0 p0.length cp0), (1, .slice ap1 p1.length cp1), (10, .bool ((p0.length : Int) != (p1.length : Int)))]) ?_ ?_
  · refine QRun_b [.slice ap0 p0.length cp0, .int .i64 (p0.length : Int), .slice ap1 p1.length cp1, .int .i64 (p1.length : Int), .bool ((p0.length : Int) != (p1.length : Int))] 0 _ (by kernel_rfl) (fun w => by kernel_rfl) ?_
    exact QRun_done [0, 1, 10] (by kernel_rfl) (by kernel_rfl)
  refine Run_cond (b := (p0.length : Int) != (p1.length : Int)) (by kernel_rfl) (fun hb1 => ?_) (fun hb1 => ?_)
  · have hF := (M.ite_some hF).1 hb1
    refine Run_seq ?_
    refine Run_reg 1 (by kernel_rfl) (L' := [(4, .bool false)]) ?_ ?_
    · refine QRun_b [.bool false] 0 _ (by kernel_rfl) (fun w => by kernel_rfl) ?_
      exact QRun_done [4] (by kernel_rfl) (by kernel_rfl)
    have hF := M.ret_some hF
    subst hF
    exact Run_ret1 rfl (ResV_tmp (v := .bool false) (by kernel_rfl)) ⟨rfl, rfl⟩
  · have hF := (M.ite_some hF).2 hb1
    refine Run_skip ?_
    refine Run_seq ?_
    refine Run_seq ?_
    refine Run_reg 3 (by kernel_rfl) (L' := [(0, .slice ap0 p0.length cp0), (1, .slice ap1 p1.length cp1), (12, .int .i64 (p0.length : Int)), (13, .int .i64 0)]) ?_ ?_
    · refine QRun_b [.slice ap0 p0.length cp0, .int .i64 (p0.length : Int), .int .i64 0] 0 _ (by kernel_rfl) (fun w => by kernel_rfl) ?_
      exact QRun_done [0, 1, 12, 13] (by kernel_rfl) (by kernel_rfl)
    obtain ⟨x1, gx1, hF⟩ := M.bind_some hF
    obtain ⟨hloy1, hhiy1, gx1⟩ := M.for_start gx1
    refine Run_join (fun L' h' => ∃ (s2 : Unit), x1 = .inl s2 ∧ L' = [] ∧ h = h') ?_ ?_
    · rintro _ _ ⟨s2, es2, rfl, rfl⟩
      have hF := M.cont_inl' hF es2
      refine Run_seq ?_
      refine Run_reg 1 (by kernel_rfl) (L' := [(4, .bool true)]) ?_ ?_
      · refine QRun_b [.bool true] 0 _ (by kernel_rfl) (fun w => by kernel_rfl) ?_
        exact QRun_done [4] (by kernel_rfl) (by kernel_rfl)
      have hF := M.ret_some hF
      subst hF
      exact Run_ret1 rfl (ResV_tmp (v := .bool true) (by kernel_rfl)) ⟨rfl, rfl⟩
    · refine Run_block ?_
      refine Run_keep [0, 1, 12, 13] (L' := [(0, .slice ap0 p0.length cp0), (1, .slice ap1 p1.length cp1), (12, .int .i64 (p0.length : Int)), (13, .int .i64 0)]) (by kernel_rfl) ?_
      refine Run_loop (fun m L' h' => ∃ (i1 : Int) (s1 : Unit), 0 ≤ i1 ∧ M.forN (p0.length : Int) _ _ n m i1 s1 = some x1 ∧ L' = [(0, .slice ap0 p0.length cp0), (1, .slice ap1 p1.length cp1), (12, .int .i64 (p0.length : Int)), (13, .int .i64 i1)] ∧ h = h') ((p0.length : Int) - 0 : Int).toNat ⟨0, (), Int.le_refl _, gx1, rfl, rfl⟩ ?_
      rintro my1 _ _ ⟨i1, s1, hloy1', gx1, rfl, rfl⟩
      refine Run_seq ?_
      refine Run_reg 1 (by kernel_rfl) (L' := [(0, .slice ap0 p0.length cp0), (1, .slice ap1 p1.length cp1), (12, .int .i64 (p0.length : Int)), (13, .int .i64 i1), (14, .bool (decide (i1 < (p0.length : Int))))]) ?_ ?_
      · refine QRun_b [.bool (decide (i1 < (p0.length : Int)))] 0 _ (by kernel_rfl) (fun w => by kernel_rfl) ?_
        exact QRun_done [0, 1, 12, 13, 14] (by kernel_rfl) (by kernel_rfl)
      refine Run_seq ?_
      refine Run_cond (b := decide (i1 < (p0.length : Int))) (by kernel_rfl) (fun hb2 => ?_) (fun hb2 => ?_)
      · obtain ⟨my1, y1, rfl, hB1, hgoy1, houty1⟩ := M.for_go gx1 hb2
        have hlty1 := of_decide_eq_true hb2
        refine Run_skip ?_
        refine Run_seq ?_
        refine Run_block ?_
        refine Run_seq ?_
        refine Run_reg 2 (by kernel_rfl) (L' := [(0, .slice ap0 p0.length cp0), (1, .slice ap1 p1.length cp1), (5, .int .i64 i1), (12, .int .i64 (p0.length : Int)), (13, .int .i64 i1)]) ?_ ?_
        · refine QRun_b [.int .i64 i1, .int .i64 i1] 0 _ (by kernel_rfl) (fun w => by kernel_rfl) ?_
          exact QRun_done [0, 1, 5, 12, 13] (by kernel_rfl) (by kernel_rfl)
        refine Run_seq ?_
        obtain ⟨x2, hx1, hB1⟩ := M.bind_some hB1
        obtain ⟨hx1l, hx1u, hx1⟩ := M.idx_some hx1
        obtain ⟨x3, hx2, hB1⟩ := M.bind_some hB1
        obtain ⟨hx2l, hx2u, hx2⟩ := M.idx_some hx2
        refine Run_draw 9 mixed (by kernel_rfl) (by kernel_rfl) (L' := [(0, .slice ap0 p0.length cp0), (1, .slice ap1 p1.length cp1), (12, .int .i64 (p0.length : Int)), (13, .int .i64 i1), (24, .bool (x2 != x3))]) ?_ ?_
        · refine QRun_b [.slice ap0 p0.length cp0, .int .i64 i1] 0 _ (by kernel_rfl) (fun w => by kernel_rfl) ?_
          refine QRun_y (.pointer (some (adr ap0 (i1.toNat * 1)))) (by kernel_rfl) (Y_idx (t := 23) (e := 2) (sz := 1) (a := ap0) (n := p0.length) (cap := cp0) (kk := .i64) (i := i1) (by kernel_rfl) Try.underlying23 (by kernel_rfl) (rp0.cell hx1).1 hx1l hx1u) ?_
          refine QRun_y (.int .i64 x2) (by kernel_rfl) (Y_load1 (t := 2) (p := adr ap0 (i1.toNat * 1)) (v := .int .i64 x2) (by kernel_rfl) (fun w => by kernel_rfl) (cd2_cell rp0 hx1)) ?_
          refine QRun_b [.slice ap1 p1.length cp1, .int .i64 i1] 4 _ (by kernel_rfl) (fun w => by kernel_rfl) ?_
          refine QRun_y (.pointer (some (adr ap1 (i1.toNat * 1)))) (by kernel_rfl) (Y_idx (t := 23) (e := 2) (sz := 1) (a := ap1) (n := p1.length) (cap := cp1) (kk := .i64) (i := i1) (by kernel_rfl) Try.underlying23 (by kernel_rfl) (rp1.cell hx2).1 hx2l hx2u) ?_
          refine QRun_y (.int .i64 x3) (by kernel_rfl) (Y_load1 (t := 2) (p := adr ap1 (i1.toNat * 1)) (v := .int .i64 x3) (by kernel_rfl) (fun w => by kernel_rfl) (cd2_cell rp1 hx2)) ?_
          refine QRun_b [.bool (x2 != x3)] 8 _ (by kernel_rfl) (fun w => by kernel_rfl) ?_
          exact QRun_done [0, 1, 12, 13, 24] (by kernel_rfl) (by kernel_rfl)
        refine Run_cond (b := x2 != x3) (by kernel_rfl) (fun hb3 => ?_) (fun hb3 => ?_)
        · have hB1 := (M.ite_some hB1).1 hb3
          refine Run_seq ?_
          refine Run_reg 1 (by kernel_rfl) (L' := [(4, .bool false)]) ?_ ?_
          · refine QRun_b [.bool false] 0 _ (by kernel_rfl) (fun w => by kernel_rfl) ?_
            exact QRun_done [4] (by kernel_rfl) (by kernel_rfl)
          have hB1 := M.ret_some hB1
          have gx1 := houty1 _ hB1.symm
          have hF := M.cont_inr' hF gx1
          have hF := M.ret_some hF
          subst hF
          exact Run_ret1 rfl (ResV_tmp (v := .bool false) (by kernel_rfl)) ⟨rfl, rfl⟩
        · have hB1 := (M.ite_some hB1).2 hb3
          refine Run_skip ?_
          refine Run_blk ?_
          refine Run_reg 2 (by kernel_rfl) (L' := [(0, .slice ap0 p0.length cp0), (1, .slice ap1 p1.length cp1), (12, .int .i64 (p0.length : Int)), (13, .int .i64 (i1 + 1))]) ?_ ?_
          · refine QRun_y (.int .i64 (i1 + 1)) (by kernel_rfl) (Y_eq (v := .int .i64 (w64 (i1 + 1))) (Y_pure (fun w => by kernel_rfl)) (by rw [w64_eq _ (by omega)])) ?_
            refine QRun_b [.int .i64 (i1 + 1)] 1 _ (by kernel_rfl) (fun w => by kernel_rfl) ?_
            exact QRun_done [0, 1, 12, 13] (by kernel_rfl) (by kernel_rfl)
          have hB1 := M.ret_some hB1
          have gx1 := hgoy1 _ hB1.symm
          exact Run_again [0, 1, 12, 13] (by kernel_rfl) my1 (Nat.lt_succ_self _) ⟨i1 + 1, (), by omega, gx1, rfl, rfl⟩
      · have gx1 := M.for_end gx1 hb2
        subst gx1
        refine Run_exit (k' := _) rfl ?_
        exact Run_fall [] (by kernel_rfl) ⟨(), rfl, rfl, rfl⟩

set_option maxRecDepth 100000 in
set_option maxHeartbeats 4000000 in
theorem w_impl_SameFunction_1 (h : Heap) (i : Int) (z0 : List Int) {Sz0 : Bs} (az0 : Option Addr) (cz0 : Nat) (rz0 : Rd cd2 h Sz0 az0 cz0 z0) (bz0 : Nat) (vz0 : VarAt h bz0 23 [.slice az0 z0.length cz0]) (z1 : List Int) {Sz1 : Bs} (az1 : Option Addr) (cz1 : Nat) (rz1 : Rd cd2 h Sz1 az1 cz1 z1) (bz1 : Nat) (vz1 : VarAt h bz1 23 [.slice az1 z1.length cz1]) (n : Nat) (r : Bool) (hF : impl_SameFunction_1 i z0 z1 n = some r) :
    Fn Try.prog 124 #[.int .i64 i, .pointer (some ⟨bz0, 0, none⟩), .pointer (some ⟨bz1, 0, none⟩)] h fun v h' => v = .bool r ∧ h' = h := by
  unfold impl_SameFunction_1 at hF
  refine Fn_enter (args := [.int .i64 i, .pointer (some ⟨bz0, 0, none⟩), .pointer (some ⟨bz1, 0, none⟩)]) Try.func124 rfl (by kernel_rfl) (by kernel_rfl) (fun w0 _ => ?_)
  refine Run_seq ?_
  refine Run_reg 1 (by kernel_rfl) (L' := [(0, .int .i64 i), (1, .pointer (some ⟨bz0, 0, none⟩)), (2, .pointer (some ⟨bz1, 0, none⟩))]) ?_ ?_
  · refine QRun_b [.bool false] 0 _ (by kernel_rfl) (fun w => by kernel_rfl) ?_
    exact QRun_done [0, 1, 2] (by kernel_rfl) (by kernel_rfl)
  refine Run_seq ?_
  obtain ⟨x1, hx1, hF⟩ := M.bind_some hF
  obtain ⟨hx1l, hx1u, hx1⟩ := M.idx_some hx1
  obtain ⟨x2, hx2, hF⟩ := M.bind_some hF
  obtain ⟨hx2l, hx2u, hx2⟩ := M.idx_some hx2
  refine Run_draw 10 mixed (by kernel_rfl) (by kernel_rfl) (L' := [(4, .bool (x1 != x2))]) ?_ ?_
  · refine QRun_y (.slice az0 z0.length cz0) (by kernel_rfl) (Y_load1 (t := 23) (p := ⟨bz0, 0, none⟩) (v := .slice az0 z0.length cz0) (by kernel_rfl) (fun w => by kernel_rfl) (VarAt.cell vz0 rfl)) ?_
    refine QRun_b [.int .i64 i] 1 _ (by kernel_rfl) (fun w => by kernel_rfl) ?_
    refine QRun_y (.pointer (some (adr az0 (i.toNat * 1)))) (by kernel_rfl) (Y_idx (t := 23) (e := 2) (sz := 1) (a := az0) (n := z0.length) (cap := cz0) (kk := .i64) (i := i) (by kernel_rfl) Try.underlying23 (by kernel_rfl) (rz0.cell hx1).1 hx1l hx1u) ?_
    refine QRun_y (.int .i64 x1) (by kernel_rfl) (Y_load1 (t := 2) (p := adr az0 (i.toNat * 1)) (v := .int .i64 x1) (by kernel_rfl) (fun w => by kernel_rfl) (cd2_cell rz0 hx1)) ?_
    refine QRun_y (.slice az1 z1.length cz1) (by kernel_rfl) (Y_load1 (t := 23) (p := ⟨bz1, 0, none⟩) (v := .slice az1 z1.length cz1) (by kernel_rfl) (fun w => by kernel_rfl) (VarAt.cell vz1 rfl)) ?_
    refine QRun_b [.int .i64 i] 5 _ (by kernel_rfl) (fun w => by kernel_rfl) ?_
    refine QRun_y (.pointer (some (adr az1 (i.toNat * 1)))) (by kernel_rfl) (Y_idx (t := 23) (e := 2) (sz := 1) (a := az1) (n := z1.length) (cap := cz1) (kk := .i64) (i := i) (by kernel_rfl) Try.underlying23 (by kernel_rfl) (rz1.cell hx2).1 hx2l hx2u) ?_
    refine QRun_y (.int .i64 x2) (by kernel_rfl) (Y_load1 (t := 2) (p := adr az1 (i.toNat * 1)) (v := .int .i64 x2) (by kernel_rfl) (fun w => by kernel_rfl) (cd2_cell rz1 hx2)) ?_
    refine QRun_b [.bool (x1 != x2), .bool (x1 != x2)] 8 _ (by kernel_rfl) (fun w => by kernel_rfl) ?_
    exact QRun_done [4] (by kernel_rfl) (by kernel_rfl)
  have hF := M.ret_some hF
  subst hF
  exact Run_ret1 rfl (ResV_tmp (v := .bool (x1 != x2)) (by kernel_rfl)) ⟨rfl, rfl⟩

set_option maxRecDepth 100000 in
set_option maxHeartbeats 4000000 in
theorem w_slices_IndexFunc_int_F_impl_SameFunction_1 (h : Heap) (s_ : List Int) {Ss_ : Bs} (as_ : Option Addr) (cs_ : Nat) (rs_ : Rd cd2 h Ss_ as_ cs_ s_) (f0 : List Int) {Sf0 : Bs} (af0 : Option Addr) (cf0 : Nat) (rf0 : Rd cd2 h Sf0 af0 cf0 f0) (bf0 : Nat) (vf0 : VarAt h bf0 23 [.slice af0 f0.length cf0]) (f1 : List Int) {Sf1 : Bs} (af1 : Option Addr) (cf1 : Nat) (rf1 : Rd cd2 h Sf1 af1 cf1 f1) (bf1 : Nat) (vf1 : VarAt h bf1 23 [.slice af1 f1.length cf1]) (n : Nat) (r : Int) (hF : slices_IndexFunc_int_F_impl_SameFunction_1 s_ f0 f1 n = some r) :
    Fn Try.prog 153 #[.slice as_ s_.length cs_, .func (.func 124) #[] #[.pointer (some ⟨bf0, 0, none⟩), .pointer (some ⟨bf1, 0, none⟩)]] h fun v h' => v = .int .i64 r ∧ h' = h := by
  unfold slices_IndexFunc_int_F_impl_SameFunction_1 at hF
  refine Fn_enter (args := [.slice as_ s_.length cs_, .func (.func 124) #[] #[.pointer (some ⟨bf0, 0, none⟩), .pointer (some ⟨bf1, 0, none⟩)]]) Try.func153 rfl (by kernel_rfl) (by kernel_rfl) (fun w0 _ => ?_)
  refine Run_seq ?_
  refine Run_reg 1 (by kernel_rfl) (L' := [(0, .slice as_ s_.length cs_), (1, .func (.func 124) #[] #[.pointer (some ⟨bf0, 0, none⟩), .pointer (some ⟨bf1, 0, none⟩)])]) ?_ ?_
  · refine QRun_b [.int .i64 0] 0 _ (by kernel_rfl) (fun w => by kernel_rfl) ?_
    exact QRun_done [0, 1] (by kernel_rfl) (by kernel_rfl)
  refine Run_seq ?_
  refine Run_seq ?_
  refine Run_reg 3 (by kernel_rfl) (L' := [(0, .slice as_ s_.length cs_), (1, .func (.func 124) #[] #[.pointer (some ⟨bf0, 0, none⟩), .pointer (some ⟨bf1, 0, none⟩)]), (7, .int .i64 (s_.length : Int)), (8, .int .i64 0)]) ?_ ?_
  · refine QRun_b [.slice as_ s_.length cs_, .int .i64 (s_.length : Int), .int .i64 0] 0 _ (by kernel_rfl) (fun w => by kernel_rfl) ?_
    exact QRun_done [0, 1, 7, 8] (by kernel_rfl) (by kernel_rfl)
  obtain ⟨x1, gx1, hF⟩ := M.bind_some hF
  obtain ⟨hloy1, hhiy1, gx1⟩ := M.for_start gx1
  refine Run_join (fun L' h' => ∃ (s2 : Unit), x1 = .inl s2 ∧ L' = [] ∧ h = h') ?_ ?_
  · rintro _ _ ⟨s2, es2, rfl, rfl⟩
    have hF := M.cont_inl' hF es2
    refine Run_seq ?_
    refine Run_reg 1 (by kernel_rfl) (L' := [(4, .int .i64 (-1))]) ?_ ?_
    · refine QRun_b [.int .i64 (-1)] 0 _ (by kernel_rfl) (fun w => by kernel_rfl) ?_
      exact QRun_done [4] (by kernel_rfl) (by kernel_rfl)
    have hF := M.ret_some hF
    subst hF
    exact Run_ret1 rfl (ResV_tmp (v := .int .i64 (-1)) (by kernel_rfl)) ⟨rfl, rfl⟩
  · refine Run_block ?_
    refine Run_keep [0, 1, 7, 8] (L' := [(0, .slice as_ s_.length cs_), (1, .func (.func 124) #[] #[.pointer (some ⟨bf0, 0, none⟩), .pointer (some ⟨bf1, 0, none⟩)]), (7, .int .i64 (s_.length : Int)), (8, .int .i64 0)]) (by kernel_rfl) ?_
    refine Run_loop (fun m L' h' => ∃ (i1 : Int) (s1 : Unit), 0 ≤ i1 ∧ M.forN (s_.length : Int) _ _ n m i1 s1 = some x1 ∧ L' = [(0, .slice as_ s_.length cs_), (1, .func (.func 124) #[] #[.pointer (some ⟨bf0, 0, none⟩), .pointer (some ⟨bf1, 0, none⟩)]), (7, .int .i64 (s_.length : Int)), (8, .int .i64 i1)] ∧ h = h') ((s_.length : Int) - 0 : Int).toNat ⟨0, (), Int.le_refl _, gx1, rfl, rfl⟩ ?_
    rintro my1 _ _ ⟨i1, s1, hloy1', gx1, rfl, rfl⟩
    refine Run_seq ?_
    refine Run_reg 1 (by kernel_rfl) (L' := [(0, .slice as_ s_.length cs_), (1, .func (.func 124) #[] #[.pointer (some ⟨bf0, 0, none⟩), .pointer (some ⟨bf1, 0, none⟩)]), (7, .int .i64 (s_.length : Int)), (8, .int .i64 i1), (9, .bool (decide (i1 < (s_.length : Int))))]) ?_ ?_
    · refine QRun_b [.bool (decide (i1 < (s_.length : Int)))] 0 _ (by kernel_rfl) (fun w => by kernel_rfl) ?_
      exact QRun_done [0, 1, 7, 8, 9] (by kernel_rfl) (by kernel_rfl)
    refine Run_seq ?_
    refine Run_cond (b := decide (i1 < (s_.length : Int))) (by kernel_rfl) (fun hb1 => ?_) (fun hb1 => ?_)
    · obtain ⟨my1, y1, rfl, hB1, hgoy1, houty1⟩ := M.for_go gx1 hb1
      have hlty1 := of_decide_eq_true hb1
      refine Run_skip ?_
      refine Run_seq ?_
      refine Run_block ?_
      refine Run_seq ?_
      refine Run_reg 2 (by kernel_rfl) (L' := [(0, .slice as_ s_.length cs_), (1, .func (.func 124) #[] #[.pointer (some ⟨bf0, 0, none⟩), .pointer (some ⟨bf1, 0, none⟩)]), (5, .int .i64 i1), (7, .int .i64 (s_.length : Int)), (8, .int .i64 i1)]) ?_ ?_
      · refine QRun_b [.int .i64 i1, .int .i64 i1] 0 _ (by kernel_rfl) (fun w => by kernel_rfl) ?_
        exact QRun_done [0, 1, 5, 7, 8] (by kernel_rfl) (by kernel_rfl)
      refine Run_seq ?_
      obtain ⟨x2, hx1, hB1⟩ := M.bind_some hB1
      obtain ⟨hx1l, hx1u, hx1⟩ := M.idx_some hx1
      obtain ⟨x3, hx2, hB1⟩ := M.bind_some hB1
      refine Run_reg 6 (by kernel_rfl) (L' := [(0, .slice as_ s_.length cs_), (1, .func (.func 124) #[] #[.pointer (some ⟨bf0, 0, none⟩), .pointer (some ⟨bf1, 0, none⟩)]), (5, .int .i64 i1), (7, .int .i64 (s_.length : Int)), (8, .int .i64 i1), (16, .bool x3)]) ?_ ?_
      · refine QRun_b [.func (.func 124) #[] #[.pointer (some ⟨bf0, 0, none⟩), .pointer (some ⟨bf1, 0, none⟩)], .slice as_ s_.length cs_, .int .i64 i1] 0 _ (by kernel_rfl) (fun w => by kernel_rfl) ?_
        refine QRun_y (.pointer (some (adr as_ (i1.toNat * 1)))) (by kernel_rfl) (Y_idx (t := 23) (e := 2) (sz := 1) (a := as_) (n := s_.length) (cap := cs_) (kk := .i64) (i := i1) (by kernel_rfl) Try.underlying23 (by kernel_rfl) (rs_.cell hx1).1 hx1l hx1u) ?_
        refine QRun_y (.int .i64 x2) (by kernel_rfl) (Y_load1 (t := 2) (p := adr as_ (i1.toNat * 1)) (v := .int .i64 x2) (by kernel_rfl) (fun w => by kernel_rfl) (cd2_cell rs_ hx1)) ?_
        refine QRun_y (.bool x3) (by kernel_rfl) (Y_callq (f := 124) (args := #[.int .i64 x2, .pointer (some ⟨bf0, 0, none⟩), .pointer (some ⟨bf1, 0, none⟩)]) (v := .bool x3) (by kernel_rfl) (w_impl_SameFunction_1 h x2 f0 af0 cf0 rf0 bf0 vf0 f1 af1 cf1 rf1 bf1 vf1 _ _ hx2)) ?_
        exact QRun_done [0, 1, 5, 7, 8, 16] (by kernel_rfl) (by kernel_rfl)
      refine Run_cond (b := x3) (by kernel_rfl) (fun hb2 => ?_) (fun hb2 => ?_)
      · have hB1 := (M.ite_some hB1).1 hb2
        refine Run_seq ?_
        refine Run_reg 2 (by kernel_rfl) (L' := [(4, .int .i64 i1)]) ?_ ?_
        · refine QRun_b [.int .i64 i1, .int .i64 i1] 0 _ (by kernel_rfl) (fun w => by kernel_rfl) ?_
          exact QRun_done [4] (by kernel_rfl) (by kernel_rfl)
        have hB1 := M.ret_some hB1
        have gx1 := houty1 _ hB1.symm
        have hF := M.cont_inr' hF gx1
        have hF := M.ret_some hF
        subst hF
        exact Run_ret1 rfl (ResV_tmp (v := .int .i64 i1) (by kernel_rfl)) ⟨rfl, rfl⟩
      · have hB1 := (M.ite_some hB1).2 hb2
        refine Run_skip ?_
        refine Run_blk ?_
        refine Run_reg 2 (by kernel_rfl) (L' := [(0, .slice as_ s_.length cs_), (1, .func (.func 124) #[] #[.pointer (some ⟨bf0, 0, none⟩), .pointer (some ⟨bf1, 0, none⟩)]), (7, .int .i64 (s_.length : Int)), (8, .int .i64 (i1 + 1))]) ?_ ?_
        · refine QRun_y (.int .i64 (i1 + 1)) (by kernel_rfl) (Y_eq (v := .int .i64 (w64 (i1 + 1))) (Y_pure (fun w => by kernel_rfl)) (by rw [w64_eq _ (by omega)])) ?_
          refine QRun_b [.int .i64 (i1 + 1)] 1 _ (by kernel_rfl) (fun w => by kernel_rfl) ?_
          exact QRun_done [0, 1, 7, 8] (by kernel_rfl) (by kernel_rfl)
        have hB1 := M.ret_some hB1
        have gx1 := hgoy1 _ hB1.symm
        exact Run_again [0, 1, 7, 8] (by kernel_rfl) my1 (Nat.lt_succ_self _) ⟨i1 + 1, (), by omega, gx1, rfl, rfl⟩
    · have gx1 := M.for_end gx1 hb1
      subst gx1
      refine Run_exit (k' := _) rfl ?_
      exact Run_fall [] (by kernel_rfl) ⟨(), rfl, rfl, rfl⟩

set_option maxRecDepth 100000 in
set_option maxHeartbeats 4000000 in
theorem w_slices_ContainsFunc_int_F_impl_SameFunction_1 (h : Heap) (s_ : List Int) {Ss_ : Bs} (as_ : Option Addr) (cs_ : Nat) (rs_ : Rd cd2 h Ss_ as_ cs_ s_) (f0 : List Int) {Sf0 : Bs} (af0 : Option Addr) (cf0 : Nat) (rf0 : Rd cd2 h Sf0 af0 cf0 f0) (bf0 : Nat) (vf0 : VarAt h bf0 23 [.slice af0 f0.length cf0]) (f1 : List Int) {Sf1 : Bs} (af1 : Option Addr) (cf1 : Nat) (rf1 : Rd cd2 h Sf1 af1 cf1 f1) (bf1 : Nat) (vf1 : VarAt h bf1 23 [.slice af1 f1.length cf1]) (n : Nat) (r : Bool) (hF : slices_ContainsFunc_int_F_impl_SameFunction_1 s_ f0 f1 n = some r) :
    Fn Try.prog 123 #[.slice as_ s_.length cs_, .func (.func 124) #[] #[.pointer (some ⟨bf0, 0, none⟩), .pointer (some ⟨bf1, 0, none⟩)]] h fun v h' => v = .bool r ∧ h' = h := by
  unfold slices_ContainsFunc_int_F_impl_SameFunction_1 at hF
  refine Fn_enter (args := [.slice as_ s_.length cs_, .func (.func 124) #[] #[.pointer (some ⟨bf0, 0, none⟩), .pointer (some ⟨bf1, 0, none⟩)]]) Try.func123 rfl (by kernel_rfl) (by kernel_rfl) (fun w0 _ => ?_)
  refine Run_seq ?_
  refine Run_reg 1 (by kernel_rfl) (L' := [(0, .slice as_ s_.length cs_), (1, .func (.func 124) #[] #[.pointer (some ⟨bf0, 0, none⟩), .pointer (some ⟨bf1, 0, none⟩)])]) ?_ ?_
  · refine QRun_b [.bool false] 0 _ (by kernel_rfl) (fun w => by kernel_rfl) ?_
    exact QRun_done [0, 1] (by kernel_rfl) (by kernel_rfl)
  refine Run_seq ?_
  obtain ⟨x1, hx1, hF⟩ := M.bind_some hF
  refine Run_reg 5 (by kernel_rfl) (L' := [(4, .bool (decide (0 ≤ x1)))]) ?_ ?_
  · refine QRun_b [.slice as_ s_.length cs_, .func (.func 124) #[] #[.pointer (some ⟨bf0, 0, none⟩), .pointer (some ⟨bf1, 0, none⟩)]] 0 _ (by kernel_rfl) (fun w => by kernel_rfl) ?_
    refine QRun_y (.int .i64 x1) (by kernel_rfl) (Y_callq (f := 153) (args := #[.slice as_ s_.length cs_, .func (.func 124) #[] #[.pointer (some ⟨bf0, 0, none⟩), .pointer (some ⟨bf1, 0, none⟩)]]) (v := .int .i64 x1) (by kernel_rfl) (w_slices_IndexFunc_int_F_impl_SameFunction_1 h s_ as_ cs_ rs_ f0 af0 cf0 rf0 bf0 vf0 f1 af1 cf1 rf1 bf1 vf1 _ _ hx1)) ?_
    refine QRun_b [.bool (decide (0 ≤ x1)), .bool (decide (0 ≤ x1))] 3 _ (by kernel_rfl) (fun w => by kernel_rfl) ?_
    exact QRun_done [4] (by kernel_rfl) (by kernel_rfl)
  have hF := M.ret_some hF
  subst hF
  exact Run_ret1 rfl (ResV_tmp (v := .bool (decide (0 ≤ x1))) (by kernel_rfl)) ⟨rfl, rfl⟩

set_option maxRecDepth 100000 in
set_option maxHeartbeats 4000000 in
theorem w_impl_SameFunction (h : Heap) (c_ : List Int) (ac_ : Option Addr) (cc_ : Nat) (rc_ : Rd cd2 h (Lt h) ac_ cc_ c_) (d : List Int) (ad : Option Addr) (cd : Nat) (rd : Rd cd2 h (Lt h) ad cd d) (n : Nat) (r : Bool × Int) (hF : impl_SameFunction c_ d n = some r) :
    Fn Try.prog 51 #[.slice ac_ c_.length cc_, .slice ad d.length cd] h fun v h' => v = .tuple #[.bool r.1, .int .i64 r.2] ∧ Hold h h' [] := by
  unfold impl_SameFunction at hF
  refine Fn_enter (args := [.slice ac_ c_.length cc_, .slice ad d.length cd]) Try.func51 rfl (by kernel_rfl) (by kernel_rfl) (fun w0 _ => ?_)
  have H0 := Hold.init h
  refine Run_seq ?_
  refine Run_ops ?_
  refine Run_E (by kernel_rfl) ?_
  refine E_box (ty := 23) (cs := [.slice ac_ c_.length cc_]) H0 (fun w => by kernel_rfl) (fun b1 h1 H1 => ?_)
  refine Run_E (by kernel_rfl) ?_
  refine E_box (ty := 23) (cs := [.slice ad d.length cd]) H1 (fun w => by kernel_rfl) (fun b2 h2 H2 => ?_)
  refine Run_b [.bool false, .int .i64 0] 2 _ (by kernel_rfl) (fun w => by kernel_rfl) ?_
  refine Run_nil (by kernel_rfl) ?_
  refine Run_keep [2, 3] (L' := [(2, .pointer (some ⟨b1, 0, none⟩)), (3, .pointer (some ⟨b2, 0, none⟩))]) (by kernel_rfl) ?_
  refine Run_seq ?_
  refine Run_seq ?_
  obtain ⟨x1, hx1, hF⟩ := M.bind_some hF
  obtain ⟨x2, gx2, hF⟩ := M.bind_some hF
  refine Run_reg 8 (by kernel_rfl) (L' := [(2, .pointer (some ⟨b1, 0, none⟩)), (3, .pointer (some ⟨b2, 0, none⟩)), (14, .bool x2)]) ?_ ?_
  · refine QRun_y (.slice ac_ c_.length cc_) (by kernel_rfl) (Y_load1 (t := 23) (p := ⟨b1, 0, none⟩) (v := .slice ac_ c_.length cc_) (by kernel_rfl) (fun w => by kernel_rfl) (H2.cell 1 rfl rfl)) ?_
    refine QRun_y (.bool x1) (by kernel_rfl) (Y_callq (f := 114) (args := #[.slice ac_ c_.length cc_]) (v := .bool x1) (by kernel_rfl) (w_impl_IsPolynomial h2 c_ ac_ cc_ (rc_.at H2.ext) _ _ hx1)) ?_
    refine QRun_b [.bool (!x1)] 2 _ (by kernel_rfl) (fun w => by kernel_rfl) ?_
    refine QRun_seq 8 [(2, .pointer (some ⟨b1, 0, none⟩)), (3, .pointer (some ⟨b2, 0, none⟩)), (14, .bool x2)] ?_ ?_
    · rcases Bool.eq_false_or_eq_true (!x1) with hb1 | hb1
      · refine QRun_bool (!x1) true (by kernel_rfl) (fun w => by kernel_rfl) hb1 ?_
        have gx2 := M.ret_some ((M.ite_some gx2).1 hb1)
        refine QRun_n (by kernel_rfl) ?_
        refine QRun_n (by kernel_rfl) ?_
        refine QRun_n (by kernel_rfl) ?_
        refine QRun_bool true x2 (by kernel_rfl) (fun w => by kernel_rfl) gx2 ?_
        exact QRun_done [2, 3, 14] (by kernel_rfl) (by kernel_rfl)
      · refine QRun_bool (!x1) false (by kernel_rfl) (fun w => by kernel_rfl) hb1 ?_
        have gx2 := (M.ite_some gx2).2 hb1
        obtain ⟨x3, hx2, gx2⟩ := M.bind_some gx2
        have gx2 := M.ret_some gx2
        refine QRun_y (.slice ad d.length cd) (by kernel_rfl) (Y_load1 (t := 23) (p := ⟨b2, 0, none⟩) (v := .slice ad d.length cd) (by kernel_rfl) (fun w => by kernel_rfl) (H2.cell 0 rfl rfl)) ?_
        refine QRun_y (.bool x3) (by kernel_rfl) (Y_callq (f := 114) (args := #[.slice ad d.length cd]) (v := .bool x3) (by kernel_rfl) (w_impl_IsPolynomial h2 d ad cd (rd.at H2.ext) _ _ hx2)) ?_
        refine QRun_b [.bool (!x3)] 6 _ (by kernel_rfl) (fun w => by kernel_rfl) ?_
        refine QRun_bool (!x3) x2 (by kernel_rfl) (fun w => by kernel_rfl) gx2 ?_
        exact QRun_done [2, 3, 14] (by kernel_rfl) (by kernel_rfl)
    exact QRun_done [2, 3, 14] (by kernel_rfl) (by kernel_rfl)
  refine Run_cond (b := x2) (by kernel_rfl) (fun hb2 => ?_) (fun hb2 => ?_)
  · have hF := (M.ite_some hF).1 hb2
    refine Run_seq ?_
    refine Run_reg 2 (by kernel_rfl) (L' := [(4, .bool false), (5, .int .i64 1)]) ?_ ?_
    · refine QRun_b [.bool false, .int .i64 1] 0 _ (by kernel_rfl) (fun w => by kernel_rfl) ?_
      exact QRun_done [4, 5] (by kernel_rfl) (by kernel_rfl)
    have hF := M.ret_some hF
    subst hF
    have H3 : Hold h h2 [] := H2.pick [] (by kernel_rfl)
    exact Run_ret2 rfl (ResV_tmp (v := .bool false) (by kernel_rfl)) (ResV_tmp (v := .int .i64 1) (by kernel_rfl)) ⟨rfl, H3⟩
  · have hF := (M.ite_some hF).2 hb2
    refine Run_skip ?_
    refine Run_seq ?_
    refine Run_ops ?_
    refine Run_y (.slice ac_ c_.length cc_) (by kernel_rfl) (Y_load1 (t := 23) (p := ⟨b1, 0, none⟩) (v := .slice ac_ c_.length cc_) (by kernel_rfl) (fun w => by kernel_rfl) (H2.cell 1 rfl rfl)) ?_
    obtain ⟨x4, hx3, hF⟩ := M.bind_some hF
    refine Run_E (by kernel_rfl) ?_
    refine E_call (f := 115) (args := #[.slice ac_ c_.length cc_]) (w_impl_essentialTerms h2 c_ ac_ cc_ (rc_.at H2.ext) _ _ hx3) (by kernel_rfl) (fun v1 h3 hp1 => ?_)
    obtain ⟨a1, c1, rfl, H4⟩ := hp1
    have H5 : Hold h h3 [own cd2 a1 x4.length c1 x4, box b2 23 [.slice ad d.length cd], box b1 23 [.slice ac_ c_.length cc_]] := H2.call H4 rfl
    refine Run_b [.slice a1 x4.length c1] 2 _ (by kernel_rfl) (fun w => by kernel_rfl) ?_
    refine Run_nil (by kernel_rfl) ?_
    refine Run_keep [2, 3, 6] (L' := [(2, .pointer (some ⟨b1, 0, none⟩)), (3, .pointer (some ⟨b2, 0, none⟩)), (6, .slice a1 x4.length c1)]) (by kernel_rfl) ?_
    refine Run_seq ?_
    refine Run_seq ?_
    refine Run_ops ?_
    refine Run_b [.slice a1 x4.length c1] 0 _ (by kernel_rfl) (fun w => by kernel_rfl) ?_
    refine Run_y (.slice ad d.length cd) (by kernel_rfl) (Y_load1 (t := 23) (p := ⟨b2, 0, none⟩) (v := .slice ad d.length cd) (by kernel_rfl) (fun w => by kernel_rfl) (H5.cell 1 rfl rfl)) ?_
    obtain ⟨x5, hx4, hF⟩ := M.bind_some hF
    refine Run_E (by kernel_rfl) ?_
    refine E_call (f := 115) (args := #[.slice ad d.length cd]) (w_impl_essentialTerms h3 d ad cd (rd.at H5.ext) _ _ hx4) (by kernel_rfl) (fun v2 h4 hp2 => ?_)
    obtain ⟨a2, c2, rfl, H6⟩ := hp2
    have H7 : Hold h h4 [own cd2 a2 x5.length c2 x5, own cd2 a1 x4.length c1 x4, box b2 23 [.slice ad d.length cd], box b1 23 [.slice ac_ c_.length cc_]] := H5.call H6 rfl
    obtain ⟨x6, hx5, hF⟩ := M.bind_some hF
    refine Run_y (.bool x6) (by kernel_rfl) (Y_callq (f := 122) (args := #[.slice a1 x4.length c1, .slice a2 x5.length c2]) (v := .bool x6) (by kernel_rfl) (w_slices_Equal_int h4 x4 a1 c1 (H7.rd 1 rfl) x5 a2 c2 (H7.rd 0 rfl) _ _ hx5)) ?_
    refine Run_b [.bool (!x6)] 4 _ (by kernel_rfl) (fun w => by kernel_rfl) ?_
    refine Run_nil (by kernel_rfl) ?_
    refine Run_keep [2, 3, 6, 21] (L' := [(2, .pointer (some ⟨b1, 0, none⟩)), (3, .pointer (some ⟨b2, 0, none⟩)), (6, .slice a1 x4.length c1), (21, .bool (!x6))]) (by kernel_rfl) ?_
    refine Run_cond (b := !x6) (by kernel_rfl) (fun hb3 => ?_) (fun hb3 => ?_)
    · have hF := (M.ite_some hF).1 hb3
      refine Run_seq ?_
      refine Run_reg 2 (by kernel_rfl) (L' := [(4, .bool false), (5, .int .i64 0)]) ?_ ?_
      · refine QRun_b [.bool false, .int .i64 0] 0 _ (by kernel_rfl) (fun w => by kernel_rfl) ?_
        exact QRun_done [4, 5] (by kernel_rfl) (by kernel_rfl)
      have hF := M.ret_some hF
      subst hF
      have H8 : Hold h h4 [] := H7.pick [] (by kernel_rfl)
      exact Run_ret2 rfl (ResV_tmp (v := .bool false) (by kernel_rfl)) (ResV_tmp (v := .int .i64 0) (by kernel_rfl)) ⟨rfl, H8⟩
    · have hF := (M.ite_some hF).2 hb3
      refine Run_skip ?_
      refine Run_seq ?_
      obtain ⟨x7, hx6, hF⟩ := M.bind_some hF
      refine Run_reg 6 (by kernel_rfl) (L' := [(4, .bool (!x7)), (5, .int .i64 0)]) ?_ ?_
      · refine QRun_b [.slice a1 x4.length c1, .func (.func 124) #[] #[.pointer (some ⟨b1, 0, none⟩), .pointer (some ⟨b2, 0, none⟩)]] 0 _ (by kernel_rfl) (fun w => by kernel_rfl) ?_
        refine QRun_y (.bool x7) (by kernel_rfl) (Y_callq (f := 123) (args := #[.slice a1 x4.length c1, .func (.func 124) #[] #[.pointer (some ⟨b1, 0, none⟩), .pointer (some ⟨b2, 0, none⟩)]]) (v := .bool x7) (by kernel_rfl) (w_slices_ContainsFunc_int_F_impl_SameFunction_1 h4 x4 a1 c1 (H7.rd 1 rfl) c_ ac_ cc_ (rc_.at H7.ext) b1 (H7.var 3 rfl) d ad cd (rd.at H7.ext) b2 (H7.var 2 rfl) _ _ hx6)) ?_
        refine QRun_b [.bool (!x7), .bool (!x7), .int .i64 0] 3 _ (by kernel_rfl) (fun w => by kernel_rfl) ?_
        exact QRun_done [4, 5] (by kernel_rfl) (by kernel_rfl)
      have hF := M.ret_some hF
      subst hF
      have H9 : Hold h h4 [] := H7.pick [] (by kernel_rfl)
      exact Run_ret2 rfl (ResV_tmp (v := .bool (!x7)) (by kernel_rfl)) (ResV_tmp (v := .int .i64 0) (by kernel_rfl)) ⟨rfl, H9⟩

set_option maxRecDepth 100000 in
set_option maxHeartbeats 4000000 in
theorem w_spec_l01Same (h : Heap) (a_ : List Int) {Sa_ : Bs} (aa_ : Option Addr) (ca_ : Nat) (ra_ : Rd cd2 h Sa_ aa_ ca_ a_) (b : List Int) {Sb : Bs} (ab : Option Addr) (cb : Nat) (rb : Rd cd2 h Sb ab cb b) (n : Nat) (r : Bool) (hF : spec_l01Same a_ b n = some r) :
    Fn Try.prog 106 #[.slice aa_ a_.length ca_, .slice ab b.length cb] h fun v h' => v = .bool r ∧ h' = h := by
  unfold spec_l01Same at hF
  refine Fn_enter (args := [.slice aa_ a_.length ca_, .slice ab b.length cb]) Try.func106 rfl (by kernel_rfl) (by kernel_rfl) (fun w0 _ => ?_)
  refine Run_seq ?_
  refine Run_reg 1 (by kernel_rfl) (L' := [(0, .slice aa_ a_.length ca_), (1, .slice ab b.length cb)]) ?_ ?_
  · refine QRun_b [.bool false] 0 _ (by kernel_rfl) (fun w => by kernel_rfl) ?_
    exact QRun_done [0, 1] (by kernel_rfl) (by kernel_rfl)
  refine Run_seq ?_
  refine Run_seq ?_
  refine Run_reg 5 (by kernel_rfl) (L' := [(0, .slice aa_ a_.length ca_), (1, .slice ab b.length cb), (10, .bool ((a_.length : Int) != (b.length : Int)))]) ?_ ?_
  · refine QRun_b [.slice aa_ a_.length ca_, .int .i64 (a_.length : Int), .slice ab b.length cb, .int .i64 (b.length : Int), .bool ((a_.length : Int) != (b.length : Int))] 0 _ (by kernel_rfl) (fun w => by kernel_rfl) ?_
    exact QRun_done [0, 1, 10] (by kernel_rfl) (by kernel_rfl)
  refine Run_cond (b := (a_.length : Int) != (b.length : Int)) (by kernel_rfl) (fun hb1 => ?_) (fun hb1 => ?_)
  · have hF := (M.ite_some hF).1 hb1
    refine Run_seq ?_
    refine Run_reg 1 (by kernel_rfl) (L' := [(4, .bool false)]) ?_ ?_
    · refine QRun_b [.bool false] 0 _ (by kernel_rfl) (fun w => by kernel_rfl) ?_
      exact QRun_done [4] (by kernel_rfl) (by kernel_rfl)
    have hF := M.ret_some hF
    subst hF
    exact Run_ret1 rfl (ResV_tmp (v := .bool false) (by kernel_rfl)) ⟨rfl, rfl⟩
  · have hF := (M.ite_some hF).2 hb1
    refine Run_skip ?_
    refine Run_seq ?_
    refine Run_seq ?_
    refine Run_reg 1 (by kernel_rfl) (L' := [(0, .slice aa_ a_.length ca_), (1, .slice ab b.length cb), (5, .int .i64 0)]) ?_ ?_
    · refine QRun_b [.int .i64 0] 0 _ (by kernel_rfl) (fun w => by kernel_rfl) ?_
      exact QRun_done [0, 1, 5] (by kernel_rfl) (by kernel_rfl)
    obtain ⟨x1, gx1, hF⟩ := M.bind_some hF
    obtain ⟨hloy1, hhiy1, gx1⟩ := M.for_start gx1
    refine Run_join (fun L' h' => ∃ (s2 : Unit), x1 = .inl s2 ∧ L' = [] ∧ h = h') ?_ ?_
    · rintro _ _ ⟨s2, es2, rfl, rfl⟩
      have hF := M.cont_inl' hF es2
      refine Run_seq ?_
      refine Run_reg 1 (by kernel_rfl) (L' := [(4, .bool true)]) ?_ ?_
      · refine QRun_b [.bool true] 0 _ (by kernel_rfl) (fun w => by kernel_rfl) ?_
        exact QRun_done [4] (by kernel_rfl) (by kernel_rfl)
      have hF := M.ret_some hF
      subst hF
      exact Run_ret1 rfl (ResV_tmp (v := .bool true) (by kernel_rfl)) ⟨rfl, rfl⟩
    · refine Run_block ?_
      refine Run_keep [0, 1, 5] (L' := [(0, .slice aa_ a_.length ca_), (1, .slice ab b.length cb), (5, .int .i64 0)]) (by kernel_rfl) ?_
      refine Run_loop (fun m L' h' => ∃ (i1 : Int) (s1 : Unit), 0 ≤ i1 ∧ M.forN (a_.length : Int) _ _ n m i1 s1 = some x1 ∧ L' = [(0, .slice aa_ a_.length ca_), (1, .slice ab b.length cb), (5, .int .i64 i1)] ∧ h = h') ((a_.length : Int) - 0 : Int).toNat ⟨0, (), Int.le_refl _, gx1, rfl, rfl⟩ ?_
      rintro my1 _ _ ⟨i1, s1, hloy1', gx1, rfl, rfl⟩
      refine Run_seq ?_
      refine Run_seq ?_
      refine Run_reg 4 (by kernel_rfl) (L' := [(0, .slice aa_ a_.length ca_), (1, .slice ab b.length cb), (5, .int .i64 i1), (14, .bool (decide (i1 < (a_.length : Int))))]) ?_ ?_
      · refine QRun_b [.int .i64 i1, .slice aa_ a_.length ca_, .int .i64 (a_.length : Int), .bool (decide (i1 < (a_.length : Int)))] 0 _ (by kernel_rfl) (fun w => by kernel_rfl) ?_
        exact QRun_done [0, 1, 5, 14] (by kernel_rfl) (by kernel_rfl)
      refine Run_cond (b := decide (i1 < (a_.length : Int))) (by kernel_rfl) (fun hb2 => ?_) (fun hb2 => ?_)
      · obtain ⟨my1, y1, rfl, hB1, hgoy1, houty1⟩ := M.for_go gx1 hb2
        have hlty1 := of_decide_eq_true hb2
        refine Run_skip ?_
        refine Run_seq ?_
        refine Run_block ?_
        refine Run_seq ?_
        obtain ⟨x2, hx1, hB1⟩ := M.bind_some hB1
        obtain ⟨hx1l, hx1u, hx1⟩ := M.idx_some hx1
        obtain ⟨x3, hx2, hB1⟩ := M.bind_some hB1
        obtain ⟨hx2l, hx2u, hx2⟩ := M.idx_some hx2
        refine Run_draw 9 mixed (by kernel_rfl) (by kernel_rfl) (L' := [(0, .slice aa_ a_.length ca_), (1, .slice ab b.length cb), (5, .int .i64 i1), (25, .bool (x2 != x3))]) ?_ ?_
        · refine QRun_b [.slice aa_ a_.length ca_, .int .i64 i1] 0 _ (by kernel_rfl) (fun w => by kernel_rfl) ?_
          refine QRun_y (.pointer (some (adr aa_ (i1.toNat * 1)))) (by kernel_rfl) (Y_idx (t := 23) (e := 2) (sz := 1) (a := aa_) (n := a_.length) (cap := ca_) (kk := .i64) (i := i1) (by kernel_rfl) Try.underlying23 (by kernel_rfl) (ra_.cell hx1).1 hx1l hx1u) ?_
          refine QRun_y (.int .i64 x2) (by kernel_rfl) (Y_load1 (t := 2) (p := adr aa_ (i1.toNat * 1)) (v := .int .i64 x2) (by kernel_rfl) (fun w => by kernel_rfl) (cd2_cell ra_ hx1)) ?_
          refine QRun_b [.slice ab b.length cb, .int .i64 i1] 4 _ (by kernel_rfl) (fun w => by kernel_rfl) ?_
          refine QRun_y (.pointer (some (adr ab (i1.toNat * 1)))) (by kernel_rfl) (Y_idx (t := 23) (e := 2) (sz := 1) (a := ab) (n := b.length) (cap := cb) (kk := .i64) (i := i1) (by kernel_rfl) Try.underlying23 (by kernel_rfl) (rb.cell hx2).1 hx2l hx2u) ?_
          refine QRun_y (.int .i64 x3) (by kernel_rfl) (Y_load1 (t := 2) (p := adr ab (i1.toNat * 1)) (v := .int .i64 x3) (by kernel_rfl) (fun w => by kernel_rfl) (cd2_cell rb hx2)) ?_
          refine QRun_b [.bool (x2 != x3)] 8 _ (by kernel_rfl) (fun w => by kernel_rfl) ?_
          exact QRun_done [0, 1, 5, 25] (by kernel_rfl) (by kernel_rfl)
        refine Run_cond (b := x2 != x3) (by kernel_rfl) (fun hb3 => ?_) (fun hb3 => ?_)
        · have hB1 := (M.ite_some hB1).1 hb3
          refine Run_seq ?_
          refine Run_reg 1 (by kernel_rfl) (L' := [(4, .bool false)]) ?_ ?_
          · refine QRun_b [.bool false] 0 _ (by kernel_rfl) (fun w => by kernel_rfl) ?_
            exact QRun_done [4] (by kernel_rfl) (by kernel_rfl)
          have hB1 := M.ret_some hB1
          have gx1 := houty1 _ hB1.symm
          have hF := M.cont_inr' hF gx1
          have hF := M.ret_some hF
          subst hF
          exact Run_ret1 rfl (ResV_tmp (v := .bool false) (by kernel_rfl)) ⟨rfl, rfl⟩
        · have hB1 := (M.ite_some hB1).2 hb3
          refine Run_skip ?_
          refine Run_blk ?_
          refine Run_reg 3 (by kernel_rfl) (L' := [(0, .slice aa_ a_.length ca_), (1, .slice ab b.length cb), (5, .int .i64 (i1 + 1))]) ?_ ?_
          · refine QRun_b [.int .i64 i1] 0 _ (by kernel_rfl) (fun w => by kernel_rfl) ?_
            refine QRun_y (.int .i64 (i1 + 1)) (by kernel_rfl) (Y_eq (v := .int .i64 (w64 (i1 + 1))) (Y_pure (fun w => by kernel_rfl)) (by rw [w64_eq _ (by omega)])) ?_
            refine QRun_b [.int .i64 (i1 + 1)] 2 _ (by kernel_rfl) (fun w => by kernel_rfl) ?_
            exact QRun_done [0, 1, 5] (by kernel_rfl) (by kernel_rfl)
          have hB1 := M.ret_some hB1
          have gx1 := hgoy1 _ hB1.symm
          exact Run_again [0, 1, 5] (by kernel_rfl) my1 (Nat.lt_succ_self _) ⟨i1 + 1, (), by omega, gx1, rfl, rfl⟩
      · have gx1 := M.for_end gx1 hb2
        subst gx1
        refine Run_exit (k' := _) rfl ?_
        exact Run_fall [] (by kernel_rfl) ⟨(), rfl, rfl, rfl⟩

set_option maxRecDepth 100000 in
set_option maxHeartbeats 4000000 in
theorem w_spec_SameFunction (h : Heap) (c_ : List Int) (ac_ : Option Addr) (cc_ : Nat) (rc_ : Rd cd2 h (Lt h) ac_ cc_ c_) (d : List Int) (ad : Option Addr) (cd : Nat) (rd : Rd cd2 h (Lt h) ad cd d) (n : Nat) (r : Bool × Int) (hF : spec_SameFunction c_ d n = some r) :
    Fn Try.prog 52 #[.slice ac_ c_.length cc_, .slice ad d.length cd] h fun v h' => v = .tuple #[.bool r.1, .int .i64 r.2] ∧ Hold h h' [] := by
  unfold spec_SameFunction at hF
  refine Fn_enter (args := [.slice ac_ c_.length cc_, .slice ad d.length cd]) Try.func52 rfl (by kernel_rfl) (by kernel_rfl) (fun w0 _ => ?_)
  have H0 := Hold.init h
  refine Run_seq ?_
  refine Run_reg 2 (by kernel_rfl) (L' := [(0, .slice ac_ c_.length cc_), (1, .slice ad d.length cd)]) ?_ ?_
  · refine QRun_b [.bool false, .int .i64 0] 0 _ (by kernel_rfl) (fun w => by kernel_rfl) ?_
    exact QRun_done [0, 1] (by kernel_rfl) (by kernel_rfl)
  refine Run_seq ?_
  refine Run_seq ?_
  obtain ⟨x1, hx1, hF⟩ := M.bind_some hF
  obtain ⟨x2, gx2, hF⟩ := M.bind_some hF
  refine Run_reg 8 (by kernel_rfl) (L' := [(0, .slice ac_ c_.length cc_), (1, .slice ad d.length cd), (16, .bool x2)]) ?_ ?_
  · refine QRun_b [.slice ac_ c_.length cc_] 0 _ (by kernel_rfl) (fun w => by kernel_rfl) ?_
    refine QRun_y (.bool x1) (by kernel_rfl) (Y_callq (f := 117) (args := #[.slice ac_ c_.length cc_]) (v := .bool x1) (by kernel_rfl) (w_spec_IsPolynomial h c_ ac_ cc_ rc_ _ _ hx1)) ?_
    refine QRun_b [.bool (!x1)] 2 _ (by kernel_rfl) (fun w => by kernel_rfl) ?_
    refine QRun_seq 8 [(0, .slice ac_ c_.length cc_), (1, .slice ad d.length cd), (16, .bool x2)] ?_ ?_
    · rcases Bool.eq_false_or_eq_true (!x1) with hb1 | hb1
      · refine QRun_bool (!x1) true (by kernel_rfl) (fun w => by kernel_rfl) hb1 ?_
        have gx2 := M.ret_some ((M.ite_some gx2).1 hb1)
        refine QRun_n (by kernel_rfl) ?_
        refine QRun_n (by kernel_rfl) ?_
        refine QRun_n (by kernel_rfl) ?_
        refine QRun_bool true x2 (by kernel_rfl) (fun w => by kernel_rfl) gx2 ?_
        exact QRun_done [0, 1, 16] (by kernel_rfl) (by kernel_rfl)
      · refine QRun_bool (!x1) false (by kernel_rfl) (fun w => by kernel_rfl) hb1 ?_
        have gx2 := (M.ite_some gx2).2 hb1
        obtain ⟨x3, hx2, gx2⟩ := M.bind_some gx2
        have gx2 := M.ret_some gx2
        refine QRun_b [.slice ad d.length cd] 4 _ (by kernel_rfl) (fun w => by kernel_rfl) ?_
        refine QRun_y (.bool x3) (by kernel_rfl) (Y_callq (f := 117) (args := #[.slice ad d.length cd]) (v := .bool x3) (by kernel_rfl) (w_spec_IsPolynomial h d ad cd rd _ _ hx2)) ?_
        refine QRun_b [.bool (!x3)] 6 _ (by kernel_rfl) (fun w => by kernel_rfl) ?_
        refine QRun_bool (!x3) x2 (by kernel_rfl) (fun w => by kernel_rfl) gx2 ?_
        exact QRun_done [0, 1, 16] (by kernel_rfl) (by kernel_rfl)
    exact QRun_done [0, 1, 16] (by kernel_rfl) (by kernel_rfl)
  refine Run_cond (b := x2) (by kernel_rfl) (fun hb2 => ?_) (fun hb2 => ?_)
  · have hF := (M.ite_some hF).1 hb2
    refine Run_seq ?_
    refine Run_reg 2 (by kernel_rfl) (L' := [(4, .bool false), (5, .int .i64 1)]) ?_ ?_
    · refine QRun_b [.bool false, .int .i64 1] 0 _ (by kernel_rfl) (fun w => by kernel_rfl) ?_
      exact QRun_done [4, 5] (by kernel_rfl) (by kernel_rfl)
    have hF := M.ret_some hF
    subst hF
    exact Run_ret2 rfl (ResV_tmp (v := .bool false) (by kernel_rfl)) (ResV_tmp (v := .int .i64 1) (by kernel_rfl)) ⟨rfl, H0⟩
  · have hF := (M.ite_some hF).2 hb2
    refine Run_skip ?_
    refine Run_seq ?_
    refine Run_ops ?_
    refine Run_b [.slice ac_ c_.length cc_] 0 _ (by kernel_rfl) (fun w => by kernel_rfl) ?_
    obtain ⟨x4, hx3, hF⟩ := M.bind_some hF
    refine Run_E (by kernel_rfl) ?_
    refine E_call (f := 118) (args := #[.slice ac_ c_.length cc_]) (w_spec_l09Terms h c_ ac_ cc_ rc_ _ _ hx3) (by kernel_rfl) (fun v1 h1 hp1 => ?_)
    obtain ⟨a1, c1, rfl, H1⟩ := hp1
    have H2 : Hold h h1 [own cd2 a1 x4.length c1 x4] := H0.call H1 rfl
    refine Run_b [.slice ad d.length cd] 2 _ (by kernel_rfl) (fun w => by kernel_rfl) ?_
    obtain ⟨x5, hx4, hF⟩ := M.bind_some hF
    refine Run_E (by kernel_rfl) ?_
    refine E_call (f := 118) (args := #[.slice ad d.length cd]) (w_spec_l09Terms h1 d ad cd (rd.at H2.ext) _ _ hx4) (by kernel_rfl) (fun v2 h2 hp2 => ?_)
    obtain ⟨a2, c2, rfl, H3⟩ := hp2
    have H4 : Hold h h2 [own cd2 a2 x5.length c2 x5, own cd2 a1 x4.length c1 x4] := H2.call H3 rfl
    refine Run_b [.slice a1 x4.length c1, .slice a2 x5.length c2] 4 _ (by kernel_rfl) (fun w => by kernel_rfl) ?_
    refine Run_nil (by kernel_rfl) ?_
    refine Run_keep [0, 1, 6, 7] (L' := [(0, .slice ac_ c_.length cc_), (1, .slice ad d.length cd), (6, .slice a1 x4.length c1), (7, .slice a2 x5.length c2)]) (by kernel_rfl) ?_
    refine Run_seq ?_
    refine Run_seq ?_
    obtain ⟨x6, hx5, hF⟩ := M.bind_some hF
    refine Run_reg 4 (by kernel_rfl) (L' := [(0, .slice ac_ c_.length cc_), (1, .slice ad d.length cd), (6, .slice a1 x4.length c1), (24, .bool (!x6))]) ?_ ?_
    · refine QRun_b [.slice a1 x4.length c1, .slice a2 x5.length c2] 0 _ (by kernel_rfl) (fun w => by kernel_rfl) ?_
      refine QRun_y (.bool x6) (by kernel_rfl) (Y_callq (f := 106) (args := #[.slice a1 x4.length c1, .slice a2 x5.length c2]) (v := .bool x6) (by kernel_rfl) (w_spec_l01Same h2 x4 a1 c1 (H4.rd 1 rfl) x5 a2 c2 (H4.rd 0 rfl) _ _ hx5)) ?_
      refine QRun_b [.bool (!x6)] 3 _ (by kernel_rfl) (fun w => by kernel_rfl) ?_
      exact QRun_done [0, 1, 6, 24] (by kernel_rfl) (by kernel_rfl)
    refine Run_cond (b := !x6) (by kernel_rfl) (fun hb3 => ?_) (fun hb3 => ?_)
    · have hF := (M.ite_some hF).1 hb3
      refine Run_seq ?_
      refine Run_reg 2 (by kernel_rfl) (L' := [(4, .bool false), (5, .int .i64 0)]) ?_ ?_
      · refine QRun_b [.bool false, .int .i64 0] 0 _ (by kernel_rfl) (fun w => by kernel_rfl) ?_
        exact QRun_done [4, 5] (by kernel_rfl) (by kernel_rfl)
      have hF := M.ret_some hF
      subst hF
      have H5 : Hold h h2 [] := H4.pick [] (by kernel_rfl)
      exact Run_ret2 rfl (ResV_tmp (v := .bool false) (by kernel_rfl)) (ResV_tmp (v := .int .i64 0) (by kernel_rfl)) ⟨rfl, H5⟩
    · have hF := (M.ite_some hF).2 hb3
      refine Run_skip ?_
      refine Run_seq ?_
      refine Run_seq ?_
      refine Run_reg 1 (by kernel_rfl) (L' := [(0, .slice ac_ c_.length cc_), (1, .slice ad d.length cd), (6, .slice a1 x4.length c1), (8, .int .i64 0)]) ?_ ?_
      · refine QRun_b [.int .i64 0] 0 _ (by kernel_rfl) (fun w => by kernel_rfl) ?_
        exact QRun_done [0, 1, 6, 8] (by kernel_rfl) (by kernel_rfl)
      obtain ⟨x7, gx7, hF⟩ := M.bind_some hF
      obtain ⟨hloy1, hhiy1, gx7⟩ := M.for_start gx7
      refine Run_join (fun L' h' => ∃ (s2 : Unit), x7 = .inl s2 ∧ L' = [] ∧ Hold h h' []) ?_ ?_
      · rintro _ h4 ⟨s2, es2, rfl, H7⟩
        have hF := M.cont_inl' hF es2
        refine Run_seq ?_
        refine Run_reg 2 (by kernel_rfl) (L' := [(4, .bool true), (5, .int .i64 0)]) ?_ ?_
        · refine QRun_b [.bool true, .int .i64 0] 0 _ (by kernel_rfl) (fun w => by kernel_rfl) ?_
          exact QRun_done [4, 5] (by kernel_rfl) (by kernel_rfl)
        have hF := M.ret_some hF
        subst hF
        exact Run_ret2 rfl (ResV_tmp (v := .bool true) (by kernel_rfl)) (ResV_tmp (v := .int .i64 0) (by kernel_rfl)) ⟨rfl, H7⟩
      · refine Run_block ?_
        have H10 : Hold h h2 [own cd2 a1 x4.length c1 x4] := H4.pick [1] (by kernel_rfl)
        refine Run_keep [0, 1, 6, 8] (L' := [(0, .slice ac_ c_.length cc_), (1, .slice ad d.length cd), (6, .slice a1 x4.length c1), (8, .int .i64 0)]) (by kernel_rfl) ?_
        refine Run_loop (fun m L' h' => ∃ (i1 : Int) (s1 : Unit), 0 ≤ i1 ∧ M.forN (x4.length : Int) _ _ n m i1 s1 = some x7 ∧ L' = [(0, .slice ac_ c_.length cc_), (1, .slice ad d.length cd), (6, .slice a1 x4.length c1), (8, .int .i64 i1)] ∧ Hold h h' [own cd2 a1 x4.length c1 x4]) ((x4.length : Int) - 0 : Int).toNat ⟨0, (), Int.le_refl _, gx7, rfl, H10⟩ ?_
        rintro my1 _ h3 ⟨i1, s1, hloy1', gx7, rfl, H6⟩
        refine Run_seq ?_
        refine Run_seq ?_
        refine Run_reg 4 (by kernel_rfl) (L' := [(0, .slice ac_ c_.length cc_), (1, .slice ad d.length cd), (6, .slice a1 x4.length c1), (8, .int .i64 i1), (28, .bool (decide (i1 < (x4.length : Int))))]) ?_ ?_
        · refine QRun_b [.int .i64 i1, .slice a1 x4.length c1, .int .i64 (x4.length : Int), .bool (decide (i1 < (x4.length : Int)))] 0 _ (by kernel_rfl) (fun w => by kernel_rfl) ?_
          exact QRun_done [0, 1, 6, 8, 28] (by kernel_rfl) (by kernel_rfl)
        refine Run_cond (b := decide (i1 < (x4.length : Int))) (by kernel_rfl) (fun hb4 => ?_) (fun hb4 => ?_)
        · obtain ⟨my1, y1, rfl, hB1, hgoy1, houty1⟩ := M.for_go gx7 hb4
          have hlty1 := of_decide_eq_true hb4
          refine Run_skip ?_
          refine Run_seq ?_
          refine Run_block ?_
          refine Run_seq ?_
          obtain ⟨x8, hx6, hB1⟩ := M.bind_some hB1
          obtain ⟨hx6l, hx6u, hx6⟩ := M.idx_some hx6
          obtain ⟨x9, hx7, hB1⟩ := M.bind_some hB1
          obtain ⟨hx7l, hx7u, hx7⟩ := M.idx_some hx7
          obtain ⟨x10, hx8, hB1⟩ := M.bind_some hB1
          obtain ⟨hx8l, hx8u, hx8⟩ := M.idx_some hx8
          obtain ⟨x11, hx9, hB1⟩ := M.bind_some hB1
          obtain ⟨hx9l, hx9u, hx9⟩ := M.idx_some hx9
          refine Run_draw 15 mixed (by kernel_rfl) (by kernel_rfl) (L' := [(0, .slice ac_ c_.length cc_), (1, .slice ad d.length cd), (6, .slice a1 x4.length c1), (8, .int .i64 i1), (45, .bool (x9 != x11))]) ?_ ?_
          · refine QRun_b [.slice ac_ c_.length cc_, .slice a1 x4.length c1, .int .i64 i1] 0 _ (by kernel_rfl) (fun w => by kernel_rfl) ?_
            refine QRun_y (.pointer (some (adr a1 (i1.toNat * 1)))) (by kernel_rfl) (Y_idx (t := 23) (e := 2) (sz := 1) (a := a1) (n := x4.length) (cap := c1) (kk := .i64) (i := i1) (by kernel_rfl) Try.underlying23 (by kernel_rfl) ((H6.rd 0 rfl).cell hx6).1 hx6l hx6u) ?_
            refine QRun_y (.int .i64 x8) (by kernel_rfl) (Y_load1 (t := 2) (p := adr a1 (i1.toNat * 1)) (v := .int .i64 x8) (by kernel_rfl) (fun w => by kernel_rfl) (cd2_cell (H6.rd 0 rfl) hx6)) ?_
            refine QRun_y (.pointer (some (adr ac_ (x8.toNat * 1)))) (by kernel_rfl) (Y_idx (t := 23) (e := 2) (sz := 1) (a := ac_) (n := c_.length) (cap := cc_) (kk := .i64) (i := x8) (by kernel_rfl) Try.underlying23 (by kernel_rfl) ((rc_.at H6.ext).cell hx7).1 hx7l hx7u) ?_
            refine QRun_y (.int .i64 x9) (by kernel_rfl) (Y_load1 (t := 2) (p := adr ac_ (x8.toNat * 1)) (v := .int .i64 x9) (by kernel_rfl) (fun w => by kernel_rfl) (cd2_cell (rc_.at H6.ext) hx7)) ?_
            refine QRun_b [.slice ad d.length cd, .slice a1 x4.length c1, .int .i64 i1] 7 _ (by kernel_rfl) (fun w => by kernel_rfl) ?_
            refine QRun_y (.pointer (some (adr a1 (i1.toNat * 1)))) (by kernel_rfl) (Y_idx (t := 23) (e := 2) (sz := 1) (a := a1) (n := x4.length) (cap := c1) (kk := .i64) (i := i1) (by kernel_rfl) Try.underlying23 (by kernel_rfl) ((H6.rd 0 rfl).cell hx8).1 hx8l hx8u) ?_
            refine QRun_y (.int .i64 x10) (by kernel_rfl) (Y_load1 (t := 2) (p := adr a1 (i1.toNat * 1)) (v := .int .i64 x10) (by kernel_rfl) (fun w => by kernel_rfl) (cd2_cell (H6.rd 0 rfl) hx8)) ?_
            refine QRun_y (.pointer (some (adr ad (x10.toNat * 1)))) (by kernel_rfl) (Y_idx (t := 23) (e := 2) (sz := 1) (a := ad) (n := d.length) (cap := cd) (kk := .i64) (i := x10) (by kernel_rfl) Try.underlying23 (by kernel_rfl) ((rd.at H6.ext).cell hx9).1 hx9l hx9u) ?_
            refine QRun_y (.int .i64 x11) (by kernel_rfl) (Y_load1 (t := 2) (p := adr ad (x10.toNat * 1)) (v := .int .i64 x11) (by kernel_rfl) (fun w => by kernel_rfl) (cd2_cell (rd.at H6.ext) hx9)) ?_
            refine QRun_b [.bool (x9 != x11)] 14 _ (by kernel_rfl) (fun w => by kernel_rfl) ?_
            exact QRun_done [0, 1, 6, 8, 45] (by kernel_rfl) (by kernel_rfl)
          refine Run_cond (b := x9 != x11) (by kernel_rfl) (fun hb5 => ?_) (fun hb5 => ?_)
          · have hB1 := (M.ite_some hB1).1 hb5
            refine Run_seq ?_
            refine Run_reg 2 (by kernel_rfl) (L' := [(4, .bool false), (5, .int .i64 0)]) ?_ ?_
            · refine QRun_b [.bool false, .int .i64 0] 0 _ (by kernel_rfl) (fun w => by kernel_rfl) ?_
              exact QRun_done [4, 5] (by kernel_rfl) (by kernel_rfl)
            have hB1 := M.ret_some hB1
            have gx7 := houty1 _ hB1.symm
            have hF := M.cont_inr' hF gx7
            have hF := M.ret_some hF
            subst hF
            have H8 : Hold h h3 [] := H6.pick [] (by kernel_rfl)
            exact Run_ret2 rfl (ResV_tmp (v := .bool false) (by kernel_rfl)) (ResV_tmp (v := .int .i64 0) (by kernel_rfl)) ⟨rfl, H8⟩
          · have hB1 := (M.ite_some hB1).2 hb5
            refine Run_skip ?_
            refine Run_blk ?_
            refine Run_reg 3 (by kernel_rfl) (L' := [(0, .slice ac_ c_.length cc_), (1, .slice ad d.length cd), (6, .slice a1 x4.length c1), (8, .int .i64 (i1 + 1))]) ?_ ?_
            · refine QRun_b [.int .i64 i1] 0 _ (by kernel_rfl) (fun w => by kernel_rfl) ?_
              refine QRun_y (.int .i64 (i1 + 1)) (by kernel_rfl) (Y_eq (v := .int .i64 (w64 (i1 + 1))) (Y_pure (fun w => by kernel_rfl)) (by rw [w64_eq _ (by omega)])) ?_
              refine QRun_b [.int .i64 (i1 + 1)] 2 _ (by kernel_rfl) (fun w => by kernel_rfl) ?_
              exact QRun_done [0, 1, 6, 8] (by kernel_rfl) (by kernel_rfl)
            have hB1 := M.ret_some hB1
            have gx7 := hgoy1 _ hB1.symm
            exact Run_again [0, 1, 6, 8] (by kernel_rfl) my1 (Nat.lt_succ_self _) ⟨i1 + 1, (), by omega, gx7, rfl, H6⟩
        · have gx7 := M.for_end gx7 hb4
          subst gx7
          refine Run_exit (k' := _) rfl ?_
          have H9 : Hold h h3 [] := H6.pick [] (by kernel_rfl)
          exact Run_fall [] (by kernel_rfl) ⟨(), rfl, rfl, H9⟩

set_option maxRecDepth 100000 in
set_option maxHeartbeats 4000000 in
theorem w_impl_EssentialTerms (h : Heap) (c_ : List Int) (ac_ : Option Addr) (cc_ : Nat) (rc_ : Rd cd2 h (Lt h) ac_ cc_ c_) (n : Nat) (r : (List Int) × Int) (hF : impl_EssentialTerms c_ n = some r) :
    Fn Try.prog 53 #[.slice ac_ c_.length cc_] h fun v h' => ∃ (a0 : Option Addr) (c0 : Nat), v = .tuple #[.slice a0 r.1.length c0, .int .i64 r.2] ∧ Hold h h' [own cd2 a0 r.1.length c0 r.1] := by
  unfold impl_EssentialTerms at hF
  refine Fn_enter (args := [.slice ac_ c_.length cc_]) Try.func53 rfl (by kernel_rfl) (by kernel_rfl) (fun w0 _ => ?_)
  have H0 := Hold.init h
  refine Run_seq ?_
  refine Run_reg 2 (by kernel_rfl) (L' := [(0, .slice ac_ c_.length cc_)]) ?_ ?_
  · refine QRun_b [.slice none 0 0, .int .i64 0] 0 _ (by kernel_rfl) (fun w => by kernel_rfl) ?_
    exact QRun_done [0] (by kernel_rfl) (by kernel_rfl)
  refine Run_seq ?_
  refine Run_seq ?_
  obtain ⟨x1, hx1, hF⟩ := M.bind_some hF
  refine Run_reg 3 (by kernel_rfl) (L' := [(0, .slice ac_ c_.length cc_), (6, .bool (!x1))]) ?_ ?_
  · refine QRun_b [.slice ac_ c_.length cc_] 0 _ (by kernel_rfl) (fun w => by kernel_rfl) ?_
    refine QRun_y (.bool x1) (by kernel_rfl) (Y_callq (f := 114) (args := #[.slice ac_ c_.length cc_]) (v := .bool x1) (by kernel_rfl) (w_impl_IsPolynomial h c_ ac_ cc_ rc_ _ _ hx1)) ?_
    refine QRun_b [.bool (!x1)] 2 _ (by kernel_rfl) (fun w => by kernel_rfl) ?_
    exact QRun_done [0, 6] (by kernel_rfl) (by kernel_rfl)
  refine Run_cond (b := !x1) (by kernel_rfl) (fun hb1 => ?_) (fun hb1 => ?_)
  · have hF := (M.ite_some hF).1 hb1
    refine Run_seq ?_
    refine Run_reg 2 (by kernel_rfl) (L' := [(2, .slice none 0 0), (3, .int .i64 1)]) ?_ ?_
    · refine QRun_b [.slice none 0 0, .int .i64 1] 0 _ (by kernel_rfl) (fun w => by kernel_rfl) ?_
      exact QRun_done [2, 3] (by kernel_rfl) (by kernel_rfl)
    have hF := M.ret_some hF
    subst hF
    have H1 := H0.empty cd2
    exact Run_ret2 rfl (ResV_tmp (v := .slice none 0 0) (by kernel_rfl)) (ResV_tmp (v := .int .i64 1) (by kernel_rfl)) ⟨none, 0, rfl, H1⟩
  · have hF := (M.ite_some hF).2 hb1
    refine Run_skip ?_
    refine Run_seq ?_
    refine Run_ops ?_
    refine Run_b [.slice ac_ c_.length cc_] 0 _ (by kernel_rfl) (fun w => by kernel_rfl) ?_
    obtain ⟨x2, hx2, hF⟩ := M.bind_some hF
    refine Run_E (by kernel_rfl) ?_
    refine E_call (f := 115) (args := #[.slice ac_ c_.length cc_]) (w_impl_essentialTerms h c_ ac_ cc_ rc_ _ _ hx2) (by kernel_rfl) (fun v1 h1 hp1 => ?_)
    obtain ⟨a1, c1, rfl, H2⟩ := hp1
    have H3 : Hold h h1 [own cd2 a1 x2.length c1 x2] := H0.call H2 rfl
    refine Run_b [.slice a1 x2.length c1, .int .i64 0] 2 _ (by kernel_rfl) (fun w => by kernel_rfl) ?_
    refine Run_nil (by kernel_rfl) ?_
    refine Run_keep [2, 3] (L' := [(2, .slice a1 x2.length c1), (3, .int .i64 0)]) (by kernel_rfl) ?_
    have hF := M.ret_some hF
    subst hF
    exact Run_ret2 rfl (ResV_tmp (v := .slice a1 x2.length c1) (by kernel_rfl)) (ResV_tmp (v := .int .i64 0) (by kernel_rfl)) ⟨a1, c1, rfl, H3⟩

set_option maxRecDepth 100000 in
set_option maxHeartbeats 4000000 in
theorem w_spec_EssentialTerms (h : Heap) (c_ : List Int) (ac_ : Option Addr) (cc_ : Nat) (rc_ : Rd cd2 h (Lt h) ac_ cc_ c_) (n : Nat) (r : (List Int) × Int) (hF : spec_EssentialTerms c_ n = some r) :
    Fn Try.prog 54 #[.slice ac_ c_.length cc_] h fun v h' => ∃ (a0 : Option Addr) (c0 : Nat), v = .tuple #[.slice a0 r.1.length c0, .int .i64 r.2] ∧ Hold h h' [own cd2 a0 r.1.length c0 r.1] := by
  unfold spec_EssentialTerms at hF
  refine Fn_enter (args := [.slice ac_ c_.length cc_]) Try.func54 rfl (by kernel_rfl) (by kernel_rfl) (fun w0 _ => ?_)
  have H0 := Hold.init h
  refine Run_seq ?_
  refine Run_reg 2 (by kernel_rfl) (L' := [(0, .slice ac_ c_.length cc_)]) ?_ ?_
  · refine QRun_b [.slice none 0 0, .int .i64 0] 0 _ (by kernel_rfl) (fun w => by kernel_rfl) ?_
    exact QRun_done [0] (by kernel_rfl) (by kernel_rfl)
  refine Run_seq ?_
  refine Run_seq ?_
  obtain ⟨x1, hx1, hF⟩ := M.bind_some hF
  refine Run_reg 3 (by kernel_rfl) (L' := [(0, .slice ac_ c_.length cc_), (6, .bool (!x1))]) ?_ ?_
  · refine QRun_b [.slice ac_ c_.length cc_] 0 _ (by kernel_rfl) (fun w => by kernel_rfl) ?_
    refine QRun_y (.bool x1) (by kernel_rfl) (Y_callq (f := 117) (args := #[.slice ac_ c_.length cc_]) (v := .bool x1) (by kernel_rfl) (w_spec_IsPolynomial h c_ ac_ cc_ rc_ _ _ hx1)) ?_
    refine QRun_b [.bool (!x1)] 2 _ (by kernel_rfl) (fun w => by kernel_rfl) ?_
    exact QRun_done [0, 6] (by kernel_rfl) (by kernel_rfl)
  refine Run_cond (b := !x1) (by kernel_rfl) (fun hb1 => ?_) (fun hb1 => ?_)
  · have hF := (M.ite_some hF).1 hb1
    refine Run_seq ?_
    refine Run_reg 2 (by kernel_rfl) (L' := [(2, .slice none 0 0), (3, .int .i64 1)]) ?_ ?_
    · refine QRun_b [.slice none 0 0, .int .i64 1] 0 _ (by kernel_rfl) (fun w => by kernel_rfl) ?_
      exact QRun_done [2, 3] (by kernel_rfl) (by kernel_rfl)
    have hF := M.ret_some hF
    subst hF
    have H1 := H0.empty cd2
    exact Run_ret2 rfl (ResV_tmp (v := .slice none 0 0) (by kernel_rfl)) (ResV_tmp (v := .int .i64 1) (by kernel_rfl)) ⟨none, 0, rfl, H1⟩
  · have hF := (M.ite_some hF).2 hb1
    refine Run_skip ?_
    refine Run_seq ?_
    refine Run_ops ?_
    refine Run_b [.slice ac_ c_.length cc_] 0 _ (by kernel_rfl) (fun w => by kernel_rfl) ?_
    obtain ⟨x2, hx2, hF⟩ := M.bind_some hF
    refine Run_E (by kernel_rfl) ?_
    refine E_call (f := 118) (args := #[.slice ac_ c_.length cc_]) (w_spec_l09Terms h c_ ac_ cc_ rc_ _ _ hx2) (by kernel_rfl) (fun v1 h1 hp1 => ?_)
    obtain ⟨a1, c1, rfl, H2⟩ := hp1
    have H3 : Hold h h1 [own cd2 a1 x2.length c1 x2] := H0.call H2 rfl
    refine Run_b [.slice a1 x2.length c1, .int .i64 0] 2 _ (by kernel_rfl) (fun w => by kernel_rfl) ?_
    refine Run_nil (by kernel_rfl) ?_
    refine Run_keep [2, 3] (L' := [(2, .slice a1 x2.length c1), (3, .int .i64 0)]) (by kernel_rfl) ?_
    have hF := M.ret_some hF
    subst hF
    exact Run_ret2 rfl (ResV_tmp (v := .slice a1 x2.length c1) (by kernel_rfl)) (ResV_tmp (v := .int .i64 0) (by kernel_rfl)) ⟨a1, c1, rfl, H3⟩

set_option maxRecDepth 100000 in
set_option maxHeartbeats 4000000 in
theorem w_laws_likeInts (h : Heap) (a_ : List Int) {Sa_ : Bs} (aa_ : Option Addr) (ca_ : Nat) (ra_ : Rd cd2 h Sa_ aa_ ca_ a_) (b : List Int) {Sb : Bs} (ab : Option Addr) (cb : Nat) (rb : Rd cd2 h Sb ab cb b) (n : Nat) (r : Bool) (hF : laws_likeInts a_ b n = some r) :
    Fn Try.prog 27 #[.slice aa_ a_.length ca_, .slice ab b.length cb] h fun v h' => v = .bool r ∧ h' = h := by
  unfold laws_likeInts at hF
  refine Fn_enter (args := [.slice aa_ a_.length ca_, .slice ab b.length cb]) Try.func27 rfl (by kernel_rfl) (by kernel_rfl) (fun w0 _ => ?_)
  refine Run_seq ?_
  refine Run_reg 1 (by kernel_rfl) (L' := [(0, .slice aa_ a_.length ca_), (1, .slice ab b.length cb)]) ?_ ?_
  · refine QRun_b [.bool false] 0 _ (by kernel_rfl) (fun w => by kernel_rfl) ?_
    exact QRun_done [0, 1] (by kernel_rfl) (by kernel_rfl)
  refine Run_seq ?_
  refine Run_seq ?_
  refine Run_reg 5 (by kernel_rfl) (L' := [(0, .slice aa_ a_.length ca_), (1, .slice ab b.length cb), (10, .bool ((a_.length : Int) != (b.length : Int)))]) ?_ ?_
  · refine QRun_b [.slice aa_ a_.length ca_, .int .i64 (a_.length : Int), .slice ab b.length cb, .int .i64 (b.length : Int), .bool ((a_.length : Int) != (b.length : Int))] 0 _ (by kernel_rfl) (fun w => by kernel_rfl) ?_
    exact QRun_done [0, 1, 10] (by kernel_rfl) (by kernel_rfl)
  refine Run_cond (b := (a_.length : Int) != (b.length : Int)) (by kernel_rfl) (fun hb1 => ?_) (fun hb1 => ?_)
  · have hF := (M.ite_some hF).1 hb1
    refine Run_seq ?_
    refine Run_reg 1 (by kernel_rfl) (L' := [(4, .bool false)]) ?_ ?_
    · refine QRun_b [.bool false] 0 _ (by kernel_rfl) (fun w => by kernel_rfl) ?_
      exact QRun_done [4] (by kernel_rfl) (by kernel_rfl)
    have hF := M.ret_some hF
    subst hF
    exact Run_ret1 rfl (ResV_tmp (v := .bool false) (by kernel_rfl)) ⟨rfl, rfl⟩
  · have hF := (M.ite_some hF).2 hb1
    refine Run_skip ?_
    refine Run_seq ?_
    refine Run_seq ?_
    refine Run_reg 1 (by kernel_rfl) (L' := [(0, .slice aa_ a_.length ca_), (1, .slice ab b.length cb), (5, .int .i64 0)]) ?_ ?_
    · refine QRun_b [.int .i64 0] 0 _ (by kernel_rfl) (fun w => by kernel_rfl) ?_
      exact QRun_done [0, 1, 5] (by kernel_rfl) (by kernel_rfl)
    obtain ⟨x1, gx1, hF⟩ := M.bind_some hF
    obtain ⟨hloy1, hhiy1, gx1⟩ := M.for_start gx1
    refine Run_join (fun L' h' => ∃ (s2 : Unit), x1 = .inl s2 ∧ L' = [] ∧ h = h') ?_ ?_
    · rintro _ _ ⟨s2, es2, rfl, rfl⟩
      have hF := M.cont_inl' hF es2
      refine Run_seq ?_
      refine Run_reg 1 (by kernel_rfl) (L' := [(4, .bool true)]) ?_ ?_
      · refine QRun_b [.bool true] 0 _ (by kernel_rfl) (fun w => by kernel_rfl) ?_
        exact QRun_done [4] (by kernel_rfl) (by kernel_rfl)
      have hF := M.ret_some hF
      subst hF
      exact Run_ret1 rfl (ResV_tmp (v := .bool true) (by kernel_rfl)) ⟨rfl, rfl⟩
    · refine Run_block ?_
      refine Run_keep [0, 1, 5] (L' := [(0, .slice aa_ a_.length ca_), (1, .slice ab b.length cb), (5, .int .i64 0)]) (by kernel_rfl) ?_
      refine Run_loop (fun m L' h' => ∃ (i1 : Int) (s1 : Unit), 0 ≤ i1 ∧ M.forN (a_.length : Int) _ _ n m i1 s1 = some x1 ∧ L' = [(0, .slice aa_ a_.length ca_), (1, .slice ab b.length cb), (5, .int .i64 i1)] ∧ h = h') ((a_.length : Int) - 0 : Int).toNat ⟨0, (), Int.le_refl _, gx1, rfl, rfl⟩ ?_
      rintro my1 _ _ ⟨i1, s1, hloy1', gx1, rfl, rfl⟩
      refine Run_seq ?_
      refine Run_seq ?_
      refine Run_reg 4 (by kernel_rfl) (L' := [(0, .slice aa_ a_.length ca_), (1, .slice ab b.length cb), (5, .int .i64 i1), (14, .bool (decide (i1 < (a_.length : Int))))]) ?_ ?_
      · refine QRun_b [.int .i64 i1, .slice aa_ a_.length ca_, .int .i64 (a_.length : Int), .bool (decide (i1 < (a_.length : Int)))] 0 _ (by kernel_rfl) (fun w => by kernel_rfl) ?_
        exact QRun_done [0, 1, 5, 14] (by kernel_rfl) (by kernel_rfl)
      refine Run_cond (b := decide (i1 < (a_.length : Int))) (by kernel_rfl) (fun hb2 => ?_) (fun hb2 => ?_)
      · obtain ⟨my1, y1, rfl, hB1, hgoy1, houty1⟩ := M.for_go gx1 hb2
        have hlty1 := of_decide_eq_true hb2
        refine Run_skip ?_
        refine Run_seq ?_
        refine Run_block ?_
        refine Run_seq ?_
        obtain ⟨x2, hx1, hB1⟩ := M.bind_some hB1
        obtain ⟨hx1l, hx1u, hx1⟩ := M.idx_some hx1
        obtain ⟨x3, hx2, hB1⟩ := M.bind_some hB1
        obtain ⟨hx2l, hx2u, hx2⟩ := M.idx_some hx2
        refine Run_draw 9 mixed (by kernel_rfl) (by kernel_rfl) (L' := [(0, .slice aa_ a_.length ca_), (1, .slice ab b.length cb), (5, .int .i64 i1), (25, .bool (x2 != x3))]) ?_ ?_
        · refine QRun_b [.slice aa_ a_.length ca_, .int .i64 i1] 0 _ (by kernel_rfl) (fun w => by kernel_rfl) ?_
          refine QRun_y (.pointer (some (adr aa_ (i1.toNat * 1)))) (by kernel_rfl) (Y_idx (t := 23) (e := 2) (sz := 1) (a := aa_) (n := a_.length) (cap := ca_) (kk := .i64) (i := i1) (by kernel_rfl) Try.underlying23 (by kernel_rfl) (ra_.cell hx1).1 hx1l hx1u) ?_
          refine QRun_y (.int .i64 x2) (by kernel_rfl) (Y_load1 (t := 2) (p := adr aa_ (i1.toNat * 1)) (v := .int .i64 x2) (by kernel_rfl) (fun w => by kernel_rfl) (cd2_cell ra_ hx1)) ?_
          refine QRun_b [.slice ab b.length cb, .int .i64 i1] 4 _ (by kernel_rfl) (fun w => by kernel_rfl) ?_
          refine QRun_y (.pointer (some (adr ab (i1.toNat * 1)))) (by kernel_rfl) (Y_idx (t := 23) (e := 2) (sz := 1) (a := ab) (n := b.length) (cap := cb) (kk := .i64) (i := i1) (by kernel_rfl) Try.underlying23 (by kernel_rfl) (rb.cell hx2).1 hx2l hx2u) ?_
          refine QRun_y (.int .i64 x3) (by kernel_rfl) (Y_load1 (t := 2) (p := adr ab (i1.toNat * 1)) (v := .int .i64 x3) (by kernel_rfl) (fun w => by kernel_rfl) (cd2_cell rb hx2)) ?_
          refine QRun_b [.bool (x2 != x3)] 8 _ (by kernel_rfl) (fun w => by kernel_rfl) ?_
          exact QRun_done [0, 1, 5, 25] (by kernel_rfl) (by kernel_rfl)
        refine Run_cond (b := x2 != x3) (by kernel_rfl) (fun hb3 => ?_) (fun hb3 => ?_)
        · have hB1 := (M.ite_some hB1).1 hb3
          refine Run_seq ?_
          refine Run_reg 1 (by kernel_rfl) (L' := [(4, .bool false)]) ?_ ?_
          · refine QRun_b [.bool false] 0 _ (by kernel_rfl) (fun w => by kernel_rfl) ?_
            exact QRun_done [4] (by kernel_rfl) (by kernel_rfl)
          have hB1 := M.ret_some hB1
          have gx1 := houty1 _ hB1.symm
          have hF := M.cont_inr' hF gx1
          have hF := M.ret_some hF
          subst hF
          exact Run_ret1 rfl (ResV_tmp (v := .bool false) (by kernel_rfl)) ⟨rfl, rfl⟩
        · have hB1 := (M.ite_some hB1).2 hb3
          refine Run_skip ?_
          refine Run_blk ?_
          refine Run_reg 3 (by kernel_rfl) (L' := [(0, .slice aa_ a_.length ca_), (1, .slice ab b.length cb), (5, .int .i64 (i1 + 1))]) ?_ ?_
          · refine QRun_b [.int .i64 i1] 0 _ (by kernel_rfl) (fun w => by kernel_rfl) ?_
            refine QRun_y (.int .i64 (i1 + 1)) (by kernel_rfl) (Y_eq (v := .int .i64 (w64 (i1 + 1))) (Y_pure (fun w => by kernel_rfl)) (by rw [w64_eq _ (by omega)])) ?_
            refine QRun_b [.int .i64 (i1 + 1)] 2 _ (by kernel_rfl) (fun w => by kernel_rfl) ?_
            exact QRun_done [0, 1, 5] (by kernel_rfl) (by kernel_rfl)
          have hB1 := M.ret_some hB1
          have gx1 := hgoy1 _ hB1.symm
          exact Run_again [0, 1, 5] (by kernel_rfl) my1 (Nat.lt_succ_self _) ⟨i1 + 1, (), by omega, gx1, rfl, rfl⟩
      · have gx1 := M.for_end gx1 hb2
        subst gx1
        refine Run_exit (k' := _) rfl ?_
        exact Run_fall [] (by kernel_rfl) ⟨(), rfl, rfl, rfl⟩

set_option maxRecDepth 100000 in
set_option maxHeartbeats 4000000 in
theorem w_laws_below9 (h : Heap) (a_ : List Int) {Sa_ : Bs} (aa_ : Option Addr) (ca_ : Nat) (ra_ : Rd cd2 h Sa_ aa_ ca_ a_) (b : List Int) {Sb : Bs} (ab : Option Addr) (cb : Nat) (rb : Rd cd2 h Sb ab cb b) (n : Nat) (r : Bool) (hF : laws_below9 a_ b n = some r) :
    Fn Try.prog 55 #[.slice aa_ a_.length ca_, .slice ab b.length cb] h fun v h' => v = .bool r ∧ h' = h := by
  unfold laws_below9 at hF
  refine Fn_enter (args := [.slice aa_ a_.length ca_, .slice ab b.length cb]) Try.func55 rfl (by kernel_rfl) (by kernel_rfl) (fun w0 _ => ?_)
  refine Run_seq ?_
  refine Run_reg 1 (by kernel_rfl) (L' := [(0, .slice aa_ a_.length ca_), (1, .slice ab b.length cb)]) ?_ ?_
  · refine QRun_b [.bool false] 0 _ (by kernel_rfl) (fun w => by kernel_rfl) ?_
    exact QRun_done [0, 1] (by kernel_rfl) (by kernel_rfl)
  refine Run_seq ?_
  refine Run_seq ?_
  refine Run_reg 5 (by kernel_rfl) (L' := [(0, .slice aa_ a_.length ca_), (1, .slice ab b.length cb), (10, .bool ((a_.length : Int) != (b.length : Int)))]) ?_ ?_
  · refine QRun_b [.slice aa_ a_.length ca_, .int .i64 (a_.length : Int), .slice ab b.length cb, .int .i64 (b.length : Int), .bool ((a_.length : Int) != (b.length : Int))] 0 _ (by kernel_rfl) (fun w => by kernel_rfl) ?_
    exact QRun_done [0, 1, 10] (by kernel_rfl) (by kernel_rfl)
  refine Run_cond (b := (a_.length : Int) != (b.length : Int)) (by kernel_rfl) (fun hb1 => ?_) (fun hb1 => ?_)
  · have hF := (M.ite_some hF).1 hb1
    refine Run_seq ?_
    refine Run_reg 1 (by kernel_rfl) (L' := [(4, .bool false)]) ?_ ?_
    · refine QRun_b [.bool false] 0 _ (by kernel_rfl) (fun w => by kernel_rfl) ?_
      exact QRun_done [4] (by kernel_rfl) (by kernel_rfl)
    have hF := M.ret_some hF
    subst hF
    exact Run_ret1 rfl (ResV_tmp (v := .bool false) (by kernel_rfl)) ⟨rfl, rfl⟩
  · have hF := (M.ite_some hF).2 hb1
    refine Run_skip ?_
    refine Run_seq ?_
    refine Run_seq ?_
    refine Run_reg 1 (by kernel_rfl) (L' := [(0, .slice aa_ a_.length ca_), (1, .slice ab b.length cb), (5, .int .i64 0)]) ?_ ?_
    · refine QRun_b [.int .i64 0] 0 _ (by kernel_rfl) (fun w => by kernel_rfl) ?_
      exact QRun_done [0, 1, 5] (by kernel_rfl) (by kernel_rfl)
    obtain ⟨x1, gx1, hF⟩ := M.bind_some hF
    obtain ⟨hloy1, hhiy1, gx1⟩ := M.for_start gx1
    refine Run_join (fun L' h' => ∃ (s2 : Unit), x1 = .inl s2 ∧ L' = [] ∧ h = h') ?_ ?_
    · rintro _ _ ⟨s2, es2, rfl, rfl⟩
      have hF := M.cont_inl' hF es2
      refine Run_seq ?_
      refine Run_reg 1 (by kernel_rfl) (L' := [(4, .bool true)]) ?_ ?_
      · refine QRun_b [.bool true] 0 _ (by kernel_rfl) (fun w => by kernel_rfl) ?_
        exact QRun_done [4] (by kernel_rfl) (by kernel_rfl)
      have hF := M.ret_some hF
      subst hF
      exact Run_ret1 rfl (ResV_tmp (v := .bool true) (by kernel_rfl)) ⟨rfl, rfl⟩
    · refine Run_block ?_
      refine Run_keep [0, 1, 5] (L' := [(0, .slice aa_ a_.length ca_), (1, .slice ab b.length cb), (5, .int .i64 0)]) (by kernel_rfl) ?_
      refine Run_loop (fun m L' h' => ∃ (i1 : Int) (s1 : Unit), 0 ≤ i1 ∧ M.forN (a_.length : Int) _ _ n m i1 s1 = some x1 ∧ L' = [(0, .slice aa_ a_.length ca_), (1, .slice ab b.length cb), (5, .int .i64 i1)] ∧ h = h') ((a_.length : Int) - 0 : Int).toNat ⟨0, (), Int.le_refl _, gx1, rfl, rfl⟩ ?_
      rintro my1 _ _ ⟨i1, s1, hloy1', gx1, rfl, rfl⟩
      refine Run_seq ?_
      refine Run_seq ?_
      refine Run_reg 4 (by kernel_rfl) (L' := [(0, .slice aa_ a_.length ca_), (1, .slice ab b.length cb), (5, .int .i64 i1), (14, .bool (decide (i1 < (a_.length : Int))))]) ?_ ?_
      · refine QRun_b [.int .i64 i1, .slice aa_ a_.length ca_, .int .i64 (a_.length : Int), .bool (decide (i1 < (a_.length : Int)))] 0 _ (by kernel_rfl) (fun w => by kernel_rfl) ?_
        exact QRun_done [0, 1, 5, 14] (by kernel_rfl) (by kernel_rfl)
      refine Run_cond (b := decide (i1 < (a_.length : Int))) (by kernel_rfl) (fun hb2 => ?_) (fun hb2 => ?_)
      · obtain ⟨my1, y1, rfl, hB1, hgoy1, houty1⟩ := M.for_go gx1 hb2
        have hlty1 := of_decide_eq_true hb2
        refine Run_skip ?_
        refine Run_seq ?_
        refine Run_block ?_
        refine Run_seq ?_
        obtain ⟨x2, hx1, hB1⟩ := M.bind_some hB1
        obtain ⟨hx1l, hx1u, hx1⟩ := M.idx_some hx1
        obtain ⟨x3, hx2, hB1⟩ := M.bind_some hB1
        obtain ⟨hx2l, hx2u, hx2⟩ := M.idx_some hx2
        refine Run_draw 9 mixed (by kernel_rfl) (by kernel_rfl) (L' := [(0, .slice aa_ a_.length ca_), (1, .slice ab b.length cb), (5, .int .i64 i1), (25, .bool (decide (x3 < x2)))]) ?_ ?_
        · refine QRun_b [.slice aa_ a_.length ca_, .int .i64 i1] 0 _ (by kernel_rfl) (fun w => by kernel_rfl) ?_
          refine QRun_y (.pointer (some (adr aa_ (i1.toNat * 1)))) (by kernel_rfl) (Y_idx (t := 23) (e := 2) (sz := 1) (a := aa_) (n := a_.length) (cap := ca_) (kk := .i64) (i := i1) (by kernel_rfl) Try.underlying23 (by kernel_rfl) (ra_.cell hx1).1 hx1l hx1u) ?_
          refine QRun_y (.int .i64 x2) (by kernel_rfl) (Y_load1 (t := 2) (p := adr aa_ (i1.toNat * 1)) (v := .int .i64 x2) (by kernel_rfl) (fun w => by kernel_rfl) (cd2_cell ra_ hx1)) ?_
          refine QRun_b [.slice ab b.length cb, .int .i64 i1] 4 _ (by kernel_rfl) (fun w => by kernel_rfl) ?_
          refine QRun_y (.pointer (some (adr ab (i1.toNat * 1)))) (by kernel_rfl) (Y_idx (t := 23) (e := 2) (sz := 1) (a := ab) (n := b.length) (cap := cb) (kk := .i64) (i := i1) (by kernel_rfl) Try.underlying23 (by kernel_rfl) (rb.cell hx2).1 hx2l hx2u) ?_
          refine QRun_y (.int .i64 x3) (by kernel_rfl) (Y_load1 (t := 2) (p := adr ab (i1.toNat * 1)) (v := .int .i64 x3) (by kernel_rfl) (fun w => by kernel_rfl) (cd2_cell rb hx2)) ?_
          refine QRun_b [.bool (decide (x3 < x2))] 8 _ (by kernel_rfl) (fun w => by kernel_rfl) ?_
          exact QRun_done [0, 1, 5, 25] (by kernel_rfl) (by kernel_rfl)
        refine Run_cond (b := decide (x3 < x2)) (by kernel_rfl) (fun hb3 => ?_) (fun hb3 => ?_)
        · have hB1 := (M.ite_some hB1).1 hb3
          refine Run_seq ?_
          refine Run_reg 1 (by kernel_rfl) (L' := [(4, .bool false)]) ?_ ?_
          · refine QRun_b [.bool false] 0 _ (by kernel_rfl) (fun w => by kernel_rfl) ?_
            exact QRun_done [4] (by kernel_rfl) (by kernel_rfl)
          have hB1 := M.ret_some hB1
          have gx1 := houty1 _ hB1.symm
          have hF := M.cont_inr' hF gx1
          have hF := M.ret_some hF
          subst hF
          exact Run_ret1 rfl (ResV_tmp (v := .bool false) (by kernel_rfl)) ⟨rfl, rfl⟩
        · have hB1 := (M.ite_some hB1).2 hb3
          refine Run_skip ?_
          refine Run_blk ?_
          refine Run_reg 3 (by kernel_rfl) (L' := [(0, .slice aa_ a_.length ca_), (1, .slice ab b.length cb), (5, .int .i64 (i1 + 1))]) ?_ ?_
          · refine QRun_b [.int .i64 i1] 0 _ (by kernel_rfl) (fun w => by kernel_rfl) ?_
            refine QRun_y (.int .i64 (i1 + 1)) (by kernel_rfl) (Y_eq (v := .int .i64 (w64 (i1 + 1))) (Y_pure (fun w => by kernel_rfl)) (by rw [w64_eq _ (by omega)])) ?_
            refine QRun_b [.int .i64 (i1 + 1)] 2 _ (by kernel_rfl) (fun w => by kernel_rfl) ?_
            exact QRun_done [0, 1, 5] (by kernel_rfl) (by kernel_rfl)
          have hB1 := M.ret_some hB1
          have gx1 := hgoy1 _ hB1.symm
          exact Run_again [0, 1, 5] (by kernel_rfl) my1 (Nat.lt_succ_self _) ⟨i1 + 1, (), by omega, gx1, rfl, rfl⟩
      · have gx1 := M.for_end gx1 hb2
        subst gx1
        refine Run_exit (k' := _) rfl ?_
        exact Run_fall [] (by kernel_rfl) ⟨(), rfl, rfl, rfl⟩

set_option maxRecDepth 100000 in
set_option maxHeartbeats 4000000 in
theorem w_laws_FnFullPolynomials (h : Heap) (code : List Int) (acode : Option Addr) (ccode : Nat) (rcode : Rd cd5 h (Lt h) acode ccode code) (n : Nat) (r : Bool) (hF : laws_FnFullPolynomials code n = some r) :
    Fn Try.prog 8 #[.slice acode code.length ccode] h fun v h' => v = .bool r ∧ Hold h h' [] := by
  unfold laws_FnFullPolynomials at hF
  refine Fn_enter (args := [.slice acode code.length ccode]) Try.func8 rfl (by kernel_rfl) (by kernel_rfl) (fun w0 _ => ?_)
  have H0 := Hold.init h
  refine Run_seq ?_
  refine Run_reg 1 (by kernel_rfl) (L' := [(0, .slice acode code.length ccode)]) ?_ ?_
  · refine QRun_b [.bool false] 0 _ (by kernel_rfl) (fun w => by kernel_rfl) ?_
    exact QRun_done [0] (by kernel_rfl) (by kernel_rfl)
  refine Run_seq ?_
  refine Run_seq ?_
  obtain ⟨x1, hx1, hF⟩ := M.bind_some hF
  refine Run_reg 2 (by kernel_rfl) (L' := [(0, .slice acode code.length ccode), (24, .bool x1)]) ?_ ?_
  · refine QRun_b [.slice acode code.length ccode] 0 _ (by kernel_rfl) (fun w => by kernel_rfl) ?_
    refine QRun_y (.bool x1) (by kernel_rfl) (Y_callq (f := 17) (args := #[.slice acode code.length ccode]) (v := .bool x1) (by kernel_rfl) (w_laws_big h code acode ccode rcode _ _ hx1)) ?_
    exact QRun_done [0, 24] (by kernel_rfl) (by kernel_rfl)
  refine Run_cond (b := x1) (by kernel_rfl) (fun hb1 => ?_) (fun hb1 => ?_)
  · have hF := (M.ite_some hF).1 hb1
    refine Run_seq ?_
    refine Run_reg 1 (by kernel_rfl) (L' := [(2, .bool true)]) ?_ ?_
    · refine QRun_b [.bool true] 0 _ (by kernel_rfl) (fun w => by kernel_rfl) ?_
      exact QRun_done [2] (by kernel_rfl) (by kernel_rfl)
    have hF := M.ret_some hF
    subst hF
    exact Run_ret1 rfl (ResV_tmp (v := .bool true) (by kernel_rfl)) ⟨rfl, H0⟩
  · have hF := (M.ite_some hF).2 hb1
    refine Run_skip ?_
    refine Run_seq ?_
    refine Run_ops ?_
    refine Run_b [.slice acode code.length ccode] 0 _ (by kernel_rfl) (fun w => by kernel_rfl) ?_
    obtain ⟨x2, hx2, hF⟩ := M.bind_some hF
    refine Run_E (by kernel_rfl) ?_
    refine E_call (f := 47) (args := #[.slice acode code.length ccode]) (w_spec_DrawFullPolynomial h code acode ccode rcode _ _ hx2) (by kernel_rfl) (fun v1 h1 hp1 => ?_)
    obtain ⟨a1, c1, rfl, H1⟩ := hp1
    have H2 : Hold h h1 [own cd2 a1 x2.length c1 x2] := H0.call H1 rfl
    refine Run_b [.slice a1 x2.length c1] 2 _ (by kernel_rfl) (fun w => by kernel_rfl) ?_
    refine Run_nil (by kernel_rfl) ?_
    refine Run_keep [0, 3] (L' := [(0, .slice acode code.length ccode), (3, .slice a1 x2.length c1)]) (by kernel_rfl) ?_
    refine Run_seq ?_
    refine Run_ops ?_
    refine Run_b [.slice a1 x2.length c1] 0 _ (by kernel_rfl) (fun w => by kernel_rfl) ?_
    obtain ⟨x3, hx3, hF⟩ := M.bind_some hF
    refine Run_E (by kernel_rfl) ?_
    refine E_call (f := 48) (args := #[.slice a1 x2.length c1]) (w_impl_FullPolynomial h1 x2 a1 c1 (H2.rd 0 rfl) _ _ hx3) (by kernel_rfl) (fun v2 h2 hp2 => ?_)
    obtain ⟨a2, c2, rfl, H3⟩ := hp2
    have H4 : Hold h h2 [own cd2 a2 x3.1.length c2 x3.1, own cd2 a1 x2.length c1 x2] := H2.call H3 rfl
    refine Run_b [.tuple #[.slice a2 x3.1.length c2, .int .i64 x3.2], .slice a2 x3.1.length c2, .int .i64 x3.2, .slice a2 x3.1.length c2, .int .i64 x3.2] 2 _ (by kernel_rfl) (fun w => by kernel_rfl) ?_
    refine Run_nil (by kernel_rfl) ?_
    refine Run_keep [0, 3, 4, 5] (L' := [(0, .slice acode code.length ccode), (3, .slice a1 x2.length c1), (4, .slice a2 x3.1.length c2), (5, .int .i64 x3.2)]) (by kernel_rfl) ?_
    refine Run_seq ?_
    refine Run_ops ?_
    refine Run_b [.slice a1 x2.length c1] 0 _ (by kernel_rfl) (fun w => by kernel_rfl) ?_
    obtain ⟨x4, hx4, hF⟩ := M.bind_some hF
    refine Run_E (by kernel_rfl) ?_
    refine E_call (f := 49) (args := #[.slice a1 x2.length c1]) (w_spec_FullPolynomial h2 x2 a1 c1 (H4.rd 1 rfl) _ _ hx4) (by kernel_rfl) (fun v3 h3 hp3 => ?_)
    obtain ⟨a3, c3, rfl, H5⟩ := hp3
    have H6 : Hold h h3 [own cd2 a3 x4.1.length c3 x4.1, own cd2 a2 x3.1.length c2 x3.1, own cd2 a1 x2.length c1 x2] := H4.call H5 rfl
    refine Run_b [.tuple #[.slice a3 x4.1.length c3, .int .i64 x4.2], .slice a3 x4.1.length c3, .int .i64 x4.2, .slice a3 x4.1.length c3, .int .i64 x4.2] 2 _ (by kernel_rfl) (fun w => by kernel_rfl) ?_
    refine Run_nil (by kernel_rfl) ?_
    refine Run_keep [0, 3, 4, 5, 6, 7] (L' := [(0, .slice acode code.length ccode), (3, .slice a1 x2.length c1), (4, .slice a2 x3.1.length c2), (5, .int .i64 x3.2), (6, .slice a3 x4.1.length c3), (7, .int .i64 x4.2)]) (by kernel_rfl) ?_
    refine Run_seq ?_
    refine Run_ops ?_
    refine Run_b [.slice acode code.length ccode] 0 _ (by kernel_rfl) (fun w => by kernel_rfl) ?_
    obtain ⟨x5, hx5, hF⟩ := M.bind_some hF
    refine Run_E (by kernel_rfl) ?_
    refine E_call (f := 50) (args := #[.slice acode code.length ccode]) (w_spec_DrawSameFunction h3 code acode ccode (rcode.at H6.ext) _ _ hx5) (by kernel_rfl) (fun v4 h4 hp4 => ?_)
    obtain ⟨a4, c4, a5, c5, rfl, H7⟩ := hp4
    have H8 : Hold h h4 [own cd2 a4 x5.1.length c4 x5.1, own cd2 a5 x5.2.length c5 x5.2, own cd2 a3 x4.1.length c3 x4.1, own cd2 a2 x3.1.length c2 x3.1, own cd2 a1 x2.length c1 x2] := H6.call H7 rfl
    refine Run_b [.tuple #[.slice a4 x5.1.length c4, .slice a5 x5.2.length c5], .slice a4 x5.1.length c4, .slice a5 x5.2.length c5, .slice a4 x5.1.length c4, .slice a5 x5.2.length c5] 2 _ (by kernel_rfl) (fun w => by kernel_rfl) ?_
    refine Run_nil (by kernel_rfl) ?_
    refine Run_keep [3, 4, 5, 6, 7, 8, 9] (L' := [(3, .slice a1 x2.length c1), (4, .slice a2 x3.1.length c2), (5, .int .i64 x3.2), (6, .slice a3 x4.1.length c3), (7, .int .i64 x4.2), (8, .slice a4 x5.1.length c4), (9, .slice a5 x5.2.length c5)]) (by kernel_rfl) ?_
    refine Run_seq ?_
    obtain ⟨x6, hx6, hF⟩ := M.bind_some hF
    refine Run_regC (j := 8) (C := fun x => Hold h x [own cd2 a4 x5.1.length c4 x5.1, own cd2 a5 x5.2.length c5 x5.2, own cd2 a3 x4.1.length c3 x4.1, own cd2 a2 x3.1.length c2 x3.1, own cd2 a1 x2.length c1 x2]) (by kernel_rfl) H8 (L' := [(3, .slice a1 x2.length c1), (4, .slice a2 x3.1.length c2), (5, .int .i64 x3.2), (6, .slice a3 x4.1.length c3), (7, .int .i64 x4.2), (8, .slice a4 x5.1.length c4), (9, .slice a5 x5.2.length c5), (10, .bool x6.1), (11, .int .i64 x6.2)]) ?_ (fun h5 H9 => ?_)
    · refine QRun_b [.slice a4 x5.1.length c4, .slice a5 x5.2.length c5] 0 _ (by kernel_rfl) (fun w => by kernel_rfl) ?_
      refine QRun_y (.tuple #[.bool x6.1, .int .i64 x6.2]) (by kernel_rfl) (Y_call (f := 51) (args := #[.slice a4 x5.1.length c4, .slice a5 x5.2.length c5]) (v := .tuple #[.bool x6.1, .int .i64 x6.2]) (by kernel_rfl) fun hx Hx => (w_impl_SameFunction hx x5.1 a4 c4 (Hx.rd 0 rfl) x5.2 a5 c5 (Hx.rd 1 rfl) _ _ hx6).mono fun _ _ ⟨e, H'⟩ => ⟨e, Hx.call H' rfl⟩) ?_
      refine QRun_b [.tuple #[.bool x6.1, .int .i64 x6.2], .bool x6.1, .int .i64 x6.2, .bool x6.1, .int .i64 x6.2] 3 _ (by kernel_rfl) (fun w => by kernel_rfl) ?_
      exact QRun_done [3, 4, 5, 6, 7, 8, 9, 10, 11] (by kernel_rfl) (by kernel_rfl)
    have H10 : Hold h h5 [own cd2 a4 x5.1.length c4 x5.1, own cd2 a5 x5.2.length c5 x5.2, own cd2 a3 x4.1.length c3 x4.1, own cd2 a2 x3.1.length c2 x3.1, own cd2 a1 x2.length c1 x2] := H9
    refine Run_seq ?_
    obtain ⟨x7, hx7, hF⟩ := M.bind_some hF
    refine Run_regC (j := 8) (C := fun x => Hold h x [own cd2 a4 x5.1.length c4 x5.1, own cd2 a5 x5.2.length c5 x5.2, own cd2 a3 x4.1.length c3 x4.1, own cd2 a2 x3.1.length c2 x3.1, own cd2 a1 x2.length c1 x2]) (by kernel_rfl) H10 (L' := [(3, .slice a1 x2.length c1), (4, .slice a2 x3.1.length c2), (5, .int .i64 x3.2), (6, .slice a3 x4.1.length c3), (7, .int .i64 x4.2), (10, .bool x6.1), (11, .int .i64 x6.2), (12, .bool x7.1), (13, .int .i64 x7.2)]) ?_ (fun h6 H11 => ?_)
    · refine QRun_b [.slice a4 x5.1.length c4, .slice a5 x5.2.length c5] 0 _ (by kernel_rfl) (fun w => by kernel_rfl) ?_
      refine QRun_y (.tuple #[.bool x7.1, .int .i64 x7.2]) (by kernel_rfl) (Y_call (f := 52) (args := #[.slice a4 x5.1.length c4, .slice a5 x5.2.length c5]) (v := .tuple #[.bool x7.1, .int .i64 x7.2]) (by kernel_rfl) fun hx Hx => (w_spec_SameFunction hx x5.1 a4 c4 (Hx.rd 0 rfl) x5.2 a5 c5 (Hx.rd 1 rfl) _ _ hx7).mono fun _ _ ⟨e, H'⟩ => ⟨e, Hx.call H' rfl⟩) ?_
      refine QRun_b [.tuple #[.bool x7.1, .int .i64 x7.2], .bool x7.1, .int .i64 x7.2, .bool x7.1, .int .i64 x7.2] 3 _ (by kernel_rfl) (fun w => by kernel_rfl) ?_
      exact QRun_done [3, 4, 5, 6, 7, 10, 11, 12, 13] (by kernel_rfl) (by kernel_rfl)
    have H12 : Hold h h6 [own cd2 a4 x5.1.length c4 x5.1, own cd2 a5 x5.2.length c5 x5.2, own cd2 a3 x4.1.length c3 x4.1, own cd2 a2 x3.1.length c2 x3.1, own cd2 a1 x2.length c1 x2] := H11
    refine Run_seq ?_
    refine Run_ops ?_
    refine Run_b [.slice a1 x2.length c1] 0 _ (by kernel_rfl) (fun w => by kernel_rfl) ?_
    obtain ⟨x8, hx8, hF⟩ := M.bind_some hF
    refine Run_E (by kernel_rfl) ?_
    refine E_call (f := 53) (args := #[.slice a1 x2.length c1]) (w_impl_EssentialTerms h6 x2 a1 c1 (H12.rd 4 rfl) _ _ hx8) (by kernel_rfl) (fun v5 h7 hp5 => ?_)
    obtain ⟨a6, c6, rfl, H13⟩ := hp5
    have H14 : Hold h h7 [own cd2 a6 x8.1.length c6 x8.1, own cd2 a4 x5.1.length c4 x5.1, own cd2 a5 x5.2.length c5 x5.2, own cd2 a3 x4.1.length c3 x4.1, own cd2 a2 x3.1.length c2 x3.1, own cd2 a1 x2.length c1 x2] := H12.call H13 rfl
    refine Run_b [.tuple #[.slice a6 x8.1.length c6, .int .i64 x8.2], .slice a6 x8.1.length c6, .int .i64 x8.2, .slice a6 x8.1.length c6, .int .i64 x8.2] 2 _ (by kernel_rfl) (fun w => by kernel_rfl) ?_
    refine Run_nil (by kernel_rfl) ?_
    refine Run_keep [3, 4, 5, 6, 7, 10, 11, 12, 13, 14, 15] (L' := [(3, .slice a1 x2.length c1), (4, .slice a2 x3.1.length c2), (5, .int .i64 x3.2), (6, .slice a3 x4.1.length c3), (7, .int .i64 x4.2), (10, .bool x6.1), (11, .int .i64 x6.2), (12, .bool x7.1), (13, .int .i64 x7.2), (14, .slice a6 x8.1.length c6), (15, .int .i64 x8.2)]) (by kernel_rfl) ?_
    refine Run_seq ?_
    refine Run_ops ?_
    refine Run_b [.slice a1 x2.length c1] 0 _ (by kernel_rfl) (fun w => by kernel_rfl) ?_
    obtain ⟨x9, hx9, hF⟩ := M.bind_some hF
    refine Run_E (by kernel_rfl) ?_
    refine E_call (f := 54) (args := #[.slice a1 x2.length c1]) (w_spec_EssentialTerms h7 x2 a1 c1 (H14.rd 5 rfl) _ _ hx9) (by kernel_rfl) (fun v6 h8 hp6 => ?_)
    obtain ⟨a7, c7, rfl, H15⟩ := hp6
    have H16 : Hold h h8 [own cd2 a7 x9.1.length c7 x9.1, own cd2 a6 x8.1.length c6 x8.1, own cd2 a4 x5.1.length c4 x5.1, own cd2 a5 x5.2.length c5 x5.2, own cd2 a3 x4.1.length c3 x4.1, own cd2 a2 x3.1.length c2 x3.1, own cd2 a1 x2.length c1 x2] := H14.call H15 rfl
    refine Run_b [.tuple #[.slice a7 x9.1.length c7, .int .i64 x9.2], .slice a7 x9.1.length c7, .int .i64 x9.2, .slice a7 x9.1.length c7, .int .i64 x9.2] 2 _ (by kernel_rfl) (fun w => by kernel_rfl) ?_
    refine Run_nil (by kernel_rfl) ?_
    refine Run_keep [3, 4, 5, 6, 7, 10, 11, 12, 13, 14, 15, 16, 17] (L' := [(3, .slice a1 x2.length c1), (4, .slice a2 x3.1.length c2), (5, .int .i64 x3.2), (6, .slice a3 x4.1.length c3), (7, .int .i64 x4.2), (10, .bool x6.1), (11, .int .i64 x6.2), (12, .bool x7.1), (13, .int .i64 x7.2), (14, .slice a6 x8.1.length c6), (15, .int .i64 x8.2), (16, .slice a7 x9.1.length c7), (17, .int .i64 x9.2)]) (by kernel_rfl) ?_
    refine Run_seq ?_
    refine Run_seq ?_
    obtain ⟨x10, gx10, hF⟩ := M.bind_some hF
    obtain ⟨x15, gx15, hF⟩ := M.bind_some hF
    refine Run_reg 30 (by kernel_rfl) (L' := [(3, .slice a1 x2.length c1), (4, .slice a2 x3.1.length c2), (5, .int .i64 x3.2), (14, .slice a6 x8.1.length c6), (93, .bool x15)]) ?_ ?_
    · refine QRun_b [.int .i64 x3.2, .int .i64 x4.2, .bool (x3.2 != x4.2)] 0 _ (by kernel_rfl) (fun w => by kernel_rfl) ?_
      refine QRun_seq 9 [(3, .slice a1 x2.length c1), (4, .slice a2 x3.1.length c2), (5, .int .i64 x3.2), (10, .bool x6.1), (11, .int .i64 x6.2), (12, .bool x7.1), (13, .int .i64 x7.2), (14, .slice a6 x8.1.length c6), (15, .int .i64 x8.2), (16, .slice a7 x9.1.length c7), (17, .int .i64 x9.2), (72, .bool x10)] ?_ ?_
      · rcases Bool.eq_false_or_eq_true (x3.2 != x4.2) with hb2 | hb2
        · refine QRun_bool (x3.2 != x4.2) true (by kernel_rfl) (fun w => by kernel_rfl) hb2 ?_
          have gx10 := M.ret_some ((M.ite_some gx10).1 hb2)
          refine QRun_n (by kernel_rfl) ?_
          refine QRun_n (by kernel_rfl) ?_
          refine QRun_n (by kernel_rfl) ?_
          refine QRun_n (by kernel_rfl) ?_
          refine QRun_bool true x10 (by kernel_rfl) (fun w => by kernel_rfl) gx10 ?_
          exact QRun_done [3, 4, 5, 10, 11, 12, 13, 14, 15, 16, 17, 72] (by kernel_rfl) (by kernel_rfl)
        · refine QRun_bool (x3.2 != x4.2) false (by kernel_rfl) (fun w => by kernel_rfl) hb2 ?_
          have gx10 := (M.ite_some gx10).2 hb2
          obtain ⟨x11, hx10, gx10⟩ := M.bind_some gx10
          have gx10 := M.ret_some gx10
          refine QRun_b [.slice a2 x3.1.length c2, .slice a3 x4.1.length c3] 4 _ (by kernel_rfl) (fun w => by kernel_rfl) ?_
          refine QRun_y (.bool x11) (by kernel_rfl) (Y_callq (f := 27) (args := #[.slice a2 x3.1.length c2, .slice a3 x4.1.length c3]) (v := .bool x11) (by kernel_rfl) (w_laws_likeInts h8 x3.1 a2 c2 (H16.rd 5 rfl) x4.1 a3 c3 (H16.rd 4 rfl) _ _ hx10)) ?_
          refine QRun_b [.bool (!x11)] 7 _ (by kernel_rfl) (fun w => by kernel_rfl) ?_
          refine QRun_bool (!x11) x10 (by kernel_rfl) (fun w => by kernel_rfl) gx10 ?_
          exact QRun_done [3, 4, 5, 10, 11, 12, 13, 14, 15, 16, 17, 72] (by kernel_rfl) (by kernel_rfl)
      refine QRun_seq 14 [(3, .slice a1 x2.length c1), (4, .slice a2 x3.1.length c2), (5, .int .i64 x3.2), (10, .bool x6.1), (12, .bool x7.1), (14, .slice a6 x8.1.length c6), (15, .int .i64 x8.2), (16, .slice a7 x9.1.length c7), (17, .int .i64 x9.2), (77, .bool (x10 || (x6.2 != x7.2)))] ?_ ?_
      · rcases Bool.eq_false_or_eq_true x10 with hb3 | hb3
        · refine QRun_bool x10 true (by kernel_rfl) (fun w => by kernel_rfl) hb3 ?_
          refine QRun_n (by kernel_rfl) ?_
          refine QRun_n (by kernel_rfl) ?_
          refine QRun_n (by kernel_rfl) ?_
          refine QRun_bool true (x10 || (x6.2 != x7.2)) (by kernel_rfl) (fun w => by kernel_rfl) (by rw [hb3]; rfl) ?_
          exact QRun_done [3, 4, 5, 10, 12, 14, 15, 16, 17, 77] (by kernel_rfl) (by kernel_rfl)
        · refine QRun_bool x10 false (by kernel_rfl) (fun w => by kernel_rfl) hb3 ?_
          refine QRun_b [.int .i64 x6.2, .int .i64 x7.2, .bool (x6.2 != x7.2)] 10 _ (by kernel_rfl) (fun w => by kernel_rfl) ?_
          refine QRun_bool (x6.2 != x7.2) (x10 || (x6.2 != x7.2)) (by kernel_rfl) (fun w => by kernel_rfl) (by rw [hb3]; rfl) ?_
          exact QRun_done [3, 4, 5, 10, 12, 14, 15, 16, 17, 77] (by kernel_rfl) (by kernel_rfl)
      refine QRun_seq 19 [(3, .slice a1 x2.length c1), (4, .slice a2 x3.1.length c2), (5, .int .i64 x3.2), (14, .slice a6 x8.1.length c6), (15, .int .i64 x8.2), (16, .slice a7 x9.1.length c7), (17, .int .i64 x9.2), (82, .bool ((x10 || (x6.2 != x7.2)) || (!(x6.1 == x7.1))))] ?_ ?_
      · rcases Bool.eq_false_or_eq_true (x10 || (x6.2 != x7.2)) with hb4 | hb4
        · refine QRun_bool (x10 || (x6.2 != x7.2)) true (by kernel_rfl) (fun w => by kernel_rfl) hb4 ?_
          refine QRun_n (by kernel_rfl) ?_
          refine QRun_n (by kernel_rfl) ?_
          refine QRun_n (by kernel_rfl) ?_
          refine QRun_bool true ((x10 || (x6.2 != x7.2)) || (!(x6.1 == x7.1))) (by kernel_rfl) (fun w => by kernel_rfl) (by rw [hb4]; rfl) ?_
          exact QRun_done [3, 4, 5, 14, 15, 16, 17, 82] (by kernel_rfl) (by kernel_rfl)
        · refine QRun_bool (x10 || (x6.2 != x7.2)) false (by kernel_rfl) (fun w => by kernel_rfl) hb4 ?_
          refine QRun_b [.bool x6.1, .bool x7.1, .bool (!(x6.1 == x7.1))] 15 _ (by kernel_rfl) (fun w => by kernel_rfl) ?_
          refine QRun_bool (!(x6.1 == x7.1)) ((x10 || (x6.2 != x7.2)) || (!(x6.1 == x7.1))) (by kernel_rfl) (fun w => by kernel_rfl) (by rw [hb4]; rfl) ?_
          exact QRun_done [3, 4, 5, 14, 15, 16, 17, 82] (by kernel_rfl) (by kernel_rfl)
      refine QRun_seq 24 [(3, .slice a1 x2.length c1), (4, .slice a2 x3.1.length c2), (5, .int .i64 x3.2), (14, .slice a6 x8.1.length c6), (16, .slice a7 x9.1.length c7), (87, .bool (((x10 || (x6.2 != x7.2)) || (!(x6.1 == x7.1))) || (x8.2 != x9.2)))] ?_ ?_
      · rcases Bool.eq_false_or_eq_true ((x10 || (x6.2 != x7.2)) || (!(x6.1 == x7.1))) with hb5 | hb5
        · refine QRun_bool ((x10 || (x6.2 != x7.2)) || (!(x6.1 == x7.1))) true (by kernel_rfl) (fun w => by kernel_rfl) hb5 ?_
          refine QRun_n (by kernel_rfl) ?_
          refine QRun_n (by kernel_rfl) ?_
          refine QRun_n (by kernel_rfl) ?_
          refine QRun_bool true (((x10 || (x6.2 != x7.2)) || (!(x6.1 == x7.1))) || (x8.2 != x9.2)) (by kernel_rfl) (fun w => by kernel_rfl) (by rw [hb5]; rfl) ?_
          exact QRun_done [3, 4, 5, 14, 16, 87] (by kernel_rfl) (by kernel_rfl)
        · refine QRun_bool ((x10 || (x6.2 != x7.2)) || (!(x6.1 == x7.1))) false (by kernel_rfl) (fun w => by kernel_rfl) hb5 ?_
          refine QRun_b [.int .i64 x8.2, .int .i64 x9.2, .bool (x8.2 != x9.2)] 20 _ (by kernel_rfl) (fun w => by kernel_rfl) ?_
          refine QRun_bool (x8.2 != x9.2) (((x10 || (x6.2 != x7.2)) || (!(x6.1 == x7.1))) || (x8.2 != x9.2)) (by kernel_rfl) (fun w => by kernel_rfl) (by rw [hb5]; rfl) ?_
          exact QRun_done [3, 4, 5, 14, 16, 87] (by kernel_rfl) (by kernel_rfl)
      refine QRun_seq 30 [(3, .slice a1 x2.length c1), (4, .slice a2 x3.1.length c2), (5, .int .i64 x3.2), (14, .slice a6 x8.1.length c6), (93, .bool x15)] ?_ ?_
      · rcases Bool.eq_false_or_eq_true (((x10 || (x6.2 != x7.2)) || (!(x6.1 == x7.1))) || (x8.2 != x9.2)) with hb6 | hb6
        · refine QRun_bool (((x10 || (x6.2 != x7.2)) || (!(x6.1 == x7.1))) || (x8.2 != x9.2)) true (by kernel_rfl) (fun w => by kernel_rfl) hb6 ?_
          have gx15 := M.ret_some ((M.ite_some gx15).1 hb6)
          refine QRun_n (by kernel_rfl) ?_
          refine QRun_n (by kernel_rfl) ?_
          refine QRun_n (by kernel_rfl) ?_
          refine QRun_n (by kernel_rfl) ?_
          refine QRun_bool true x15 (by kernel_rfl) (fun w => by kernel_rfl) gx15 ?_
          exact QRun_done [3, 4, 5, 14, 93] (by kernel_rfl) (by kernel_rfl)
        · refine QRun_bool (((x10 || (x6.2 != x7.2)) || (!(x6.1 == x7.1))) || (x8.2 != x9.2)) false (by kernel_rfl) (fun w => by kernel_rfl) hb6 ?_
          have gx15 := (M.ite_some gx15).2 hb6
          obtain ⟨x16, hx11, gx15⟩ := M.bind_some gx15
          have gx15 := M.ret_some gx15
          refine QRun_b [.slice a6 x8.1.length c6, .slice a7 x9.1.length c7] 25 _ (by kernel_rfl) (fun w => by kernel_rfl) ?_
          refine QRun_y (.bool x16) (by kernel_rfl) (Y_callq (f := 27) (args := #[.slice a6 x8.1.length c6, .slice a7 x9.1.length c7]) (v := .bool x16) (by kernel_rfl) (w_laws_likeInts h8 x8.1 a6 c6 (H16.rd 1 rfl) x9.1 a7 c7 (H16.rd 0 rfl) _ _ hx11)) ?_
          refine QRun_b [.bool (!x16)] 28 _ (by kernel_rfl) (fun w => by kernel_rfl) ?_
          refine QRun_bool (!x16) x15 (by kernel_rfl) (fun w => by kernel_rfl) gx15 ?_
          exact QRun_done [3, 4, 5, 14, 93] (by kernel_rfl) (by kernel_rfl)
      exact QRun_done [3, 4, 5, 14, 93] (by kernel_rfl) (by kernel_rfl)
    refine Run_cond (b := x15) (by kernel_rfl) (fun hb7 => ?_) (fun hb7 => ?_)
    · have hF := (M.ite_some hF).1 hb7
      refine Run_seq ?_
      refine Run_reg 1 (by kernel_rfl) (L' := [(2, .bool false)]) ?_ ?_
      · refine QRun_b [.bool false] 0 _ (by kernel_rfl) (fun w => by kernel_rfl) ?_
        exact QRun_done [2] (by kernel_rfl) (by kernel_rfl)
      have hF := M.ret_some hF
      subst hF
      have H17 : Hold h h8 [] := H16.pick [] (by kernel_rfl)
      exact Run_ret1 rfl (ResV_tmp (v := .bool false) (by kernel_rfl)) ⟨rfl, H17⟩
    · have hF := (M.ite_some hF).2 hb7
      refine Run_skip ?_
      refine Run_seq ?_
      refine Run_seq ?_
      refine Run_reg 2 (by kernel_rfl) (L' := [(3, .slice a1 x2.length c1), (4, .slice a2 x3.1.length c2), (14, .slice a6 x8.1.length c6), (95, .bool (x3.2 != 0))]) ?_ ?_
      · refine QRun_b [.int .i64 x3.2, .bool (x3.2 != 0)] 0 _ (by kernel_rfl) (fun w => by kernel_rfl) ?_
        exact QRun_done [3, 4, 14, 95] (by kernel_rfl) (by kernel_rfl)
      refine Run_cond (b := x3.2 != 0) (by kernel_rfl) (fun hb8 => ?_) (fun hb8 => ?_)
      · have hF := (M.ite_some hF).1 hb8
        refine Run_seq ?_
        refine Run_reg 1 (by kernel_rfl) (L' := [(2, .bool true)]) ?_ ?_
        · refine QRun_b [.bool true] 0 _ (by kernel_rfl) (fun w => by kernel_rfl) ?_
          exact QRun_done [2] (by kernel_rfl) (by kernel_rfl)
        have hF := M.ret_some hF
        subst hF
        have H18 : Hold h h8 [] := H16.pick [] (by kernel_rfl)
        exact Run_ret1 rfl (ResV_tmp (v := .bool true) (by kernel_rfl)) ⟨rfl, H18⟩
      · have hF := (M.ite_some hF).2 hb8
        refine Run_skip ?_
        refine Run_seq ?_
        obtain ⟨x17, hx12, hF⟩ := M.bind_some hF
        refine Run_regC (j := 8) (C := fun x => Hold h x [own cd2 a7 x9.1.length c7 x9.1, own cd2 a6 x8.1.length c6 x8.1, own cd2 a4 x5.1.length c4 x5.1, own cd2 a5 x5.2.length c5 x5.2, own cd2 a3 x4.1.length c3 x4.1, own cd2 a2 x3.1.length c2 x3.1, own cd2 a1 x2.length c1 x2]) (by kernel_rfl) H16 (L' := [(3, .slice a1 x2.length c1), (4, .slice a2 x3.1.length c2), (14, .slice a6 x8.1.length c6), (18, .bool x17.1), (19, .int .i64 x17.2)]) ?_ (fun h9 H19 => ?_)
        · refine QRun_b [.slice a1 x2.length c1, .slice a2 x3.1.length c2] 0 _ (by kernel_rfl) (fun w => by kernel_rfl) ?_
          refine QRun_y (.tuple #[.bool x17.1, .int .i64 x17.2]) (by kernel_rfl) (Y_call (f := 51) (args := #[.slice a1 x2.length c1, .slice a2 x3.1.length c2]) (v := .tuple #[.bool x17.1, .int .i64 x17.2]) (by kernel_rfl) fun hx Hx => (w_impl_SameFunction hx x2 a1 c1 (Hx.rd 6 rfl) x3.1 a2 c2 (Hx.rd 5 rfl) _ _ hx12).mono fun _ _ ⟨e, H'⟩ => ⟨e, Hx.call H' rfl⟩) ?_
          refine QRun_b [.tuple #[.bool x17.1, .int .i64 x17.2], .bool x17.1, .int .i64 x17.2, .bool x17.1, .int .i64 x17.2] 3 _ (by kernel_rfl) (fun w => by kernel_rfl) ?_
          exact QRun_done [3, 4, 14, 18, 19] (by kernel_rfl) (by kernel_rfl)
        have H20 : Hold h h9 [own cd2 a7 x9.1.length c7 x9.1, own cd2 a6 x8.1.length c6 x8.1, own cd2 a4 x5.1.length c4 x5.1, own cd2 a5 x5.2.length c5 x5.2, own cd2 a3 x4.1.length c3 x4.1, own cd2 a2 x3.1.length c2 x3.1, own cd2 a1 x2.length c1 x2] := H19
        refine Run_seq ?_
        refine Run_ops ?_
        refine Run_b [.slice a2 x3.1.length c2] 0 _ (by kernel_rfl) (fun w => by kernel_rfl) ?_
        obtain ⟨x18, hx13, hF⟩ := M.bind_some hF
        refine Run_E (by kernel_rfl) ?_
        refine E_call (f := 48) (args := #[.slice a2 x3.1.length c2]) (w_impl_FullPolynomial h9 x3.1 a2 c2 (H20.rd 5 rfl) _ _ hx13) (by kernel_rfl) (fun v7 h10 hp7 => ?_)
        obtain ⟨a8, c8, rfl, H21⟩ := hp7
        have H22 : Hold h h10 [own cd2 a8 x18.1.length c8 x18.1, own cd2 a7 x9.1.length c7 x9.1, own cd2 a6 x8.1.length c6 x8.1, own cd2 a4 x5.1.length c4 x5.1, own cd2 a5 x5.2.length c5 x5.2, own cd2 a3 x4.1.length c3 x4.1, own cd2 a2 x3.1.length c2 x3.1, own cd2 a1 x2.length c1 x2] := H20.call H21 rfl
        refine Run_b [.tuple #[.slice a8 x18.1.length c8, .int .i64 x18.2], .slice a8 x18.1.length c8, .int .i64 x18.2, .slice a8 x18.1.length c8, .int .i64 x18.2] 2 _ (by kernel_rfl) (fun w => by kernel_rfl) ?_
        refine Run_nil (by kernel_rfl) ?_
        refine Run_keep [3, 4, 14, 18, 19, 20, 21] (L' := [(3, .slice a1 x2.length c1), (4, .slice a2 x3.1.length c2), (14, .slice a6 x8.1.length c6), (18, .bool x17.1), (19, .int .i64 x17.2), (20, .slice a8 x18.1.length c8), (21, .int .i64 x18.2)]) (by kernel_rfl) ?_
        refine Run_seq ?_
        refine Run_seq ?_
        obtain ⟨x21, gx21, hF⟩ := M.bind_some hF
        obtain ⟨x23, gx23, hF⟩ := M.bind_some hF
        refine Run_reg 22 (by kernel_rfl) (L' := [(3, .slice a1 x2.length c1), (4, .slice a2 x3.1.length c2), (14, .slice a6 x8.1.length c6), (128, .bool x23)]) ?_ ?_
        · refine QRun_b [.int .i64 x17.2, .bool (x17.2 != 0)] 0 _ (by kernel_rfl) (fun w => by kernel_rfl) ?_
          refine QRun_seq 6 [(3, .slice a1 x2.length c1), (4, .slice a2 x3.1.length c2), (14, .slice a6 x8.1.length c6), (20, .slice a8 x18.1.length c8), (21, .int .i64 x18.2), (112, .bool ((x17.2 != 0) || (!x17.1)))] ?_ ?_
          · rcases Bool.eq_false_or_eq_true (x17.2 != 0) with hb9 | hb9
            · refine QRun_bool (x17.2 != 0) true (by kernel_rfl) (fun w => by kernel_rfl) hb9 ?_
              refine QRun_n (by kernel_rfl) ?_
              refine QRun_n (by kernel_rfl) ?_
              refine QRun_bool true ((x17.2 != 0) || (!x17.1)) (by kernel_rfl) (fun w => by kernel_rfl) (by rw [hb9]; rfl) ?_
              exact QRun_done [3, 4, 14, 20, 21, 112] (by kernel_rfl) (by kernel_rfl)
            · refine QRun_bool (x17.2 != 0) false (by kernel_rfl) (fun w => by kernel_rfl) hb9 ?_
              refine QRun_b [.bool x17.1, .bool (!x17.1)] 3 _ (by kernel_rfl) (fun w => by kernel_rfl) ?_
              refine QRun_bool (!x17.1) ((x17.2 != 0) || (!x17.1)) (by kernel_rfl) (fun w => by kernel_rfl) (by rw [hb9]; rfl) ?_
              exact QRun_done [3, 4, 14, 20, 21, 112] (by kernel_rfl) (by kernel_rfl)
          refine QRun_seq 10 [(3, .slice a1 x2.length c1), (4, .slice a2 x3.1.length c2), (14, .slice a6 x8.1.length c6), (20, .slice a8 x18.1.length c8), (116, .bool (((x17.2 != 0) || (!x17.1)) || (x18.2 != 0)))] ?_ ?_
          · rcases Bool.eq_false_or_eq_true ((x17.2 != 0) || (!x17.1)) with hb10 | hb10
            · refine QRun_bool ((x17.2 != 0) || (!x17.1)) true (by kernel_rfl) (fun w => by kernel_rfl) hb10 ?_
              refine QRun_n (by kernel_rfl) ?_
              refine QRun_n (by kernel_rfl) ?_
              refine QRun_bool true (((x17.2 != 0) || (!x17.1)) || (x18.2 != 0)) (by kernel_rfl) (fun w => by kernel_rfl) (by rw [hb10]; rfl) ?_
              exact QRun_done [3, 4, 14, 20, 116] (by kernel_rfl) (by kernel_rfl)
            · refine QRun_bool ((x17.2 != 0) || (!x17.1)) false (by kernel_rfl) (fun w => by kernel_rfl) hb10 ?_
              refine QRun_b [.int .i64 x18.2, .bool (x18.2 != 0)] 7 _ (by kernel_rfl) (fun w => by kernel_rfl) ?_
              refine QRun_bool (x18.2 != 0) (((x17.2 != 0) || (!x17.1)) || (x18.2 != 0)) (by kernel_rfl) (fun w => by kernel_rfl) (by rw [hb10]; rfl) ?_
              exact QRun_done [3, 4, 14, 20, 116] (by kernel_rfl) (by kernel_rfl)
          refine QRun_seq 16 [(3, .slice a1 x2.length c1), (4, .slice a2 x3.1.length c2), (14, .slice a6 x8.1.length c6), (122, .bool x21)] ?_ ?_
          · rcases Bool.eq_false_or_eq_true (((x17.2 != 0) || (!x17.1)) || (x18.2 != 0)) with hb11 | hb11
            · refine QRun_bool (((x17.2 != 0) || (!x17.1)) || (x18.2 != 0)) true (by kernel_rfl) (fun w => by kernel_rfl) hb11 ?_
              have gx21 := M.ret_some ((M.ite_some gx21).1 hb11)
              refine QRun_n (by kernel_rfl) ?_
              refine QRun_n (by kernel_rfl) ?_
              refine QRun_n (by kernel_rfl) ?_
              refine QRun_n (by kernel_rfl) ?_
              refine QRun_bool true x21 (by kernel_rfl) (fun w => by kernel_rfl) gx21 ?_
              exact QRun_done [3, 4, 14, 122] (by kernel_rfl) (by kernel_rfl)
            · refine QRun_bool (((x17.2 != 0) || (!x17.1)) || (x18.2 != 0)) false (by kernel_rfl) (fun w => by kernel_rfl) hb11 ?_
              have gx21 := (M.ite_some gx21).2 hb11
              obtain ⟨x22, hx14, gx21⟩ := M.bind_some gx21
              have gx21 := M.ret_some gx21
              refine QRun_b [.slice a8 x18.1.length c8, .slice a2 x3.1.length c2] 11 _ (by kernel_rfl) (fun w => by kernel_rfl) ?_
              refine QRun_y (.bool x22) (by kernel_rfl) (Y_callq (f := 27) (args := #[.slice a8 x18.1.length c8, .slice a2 x3.1.length c2]) (v := .bool x22) (by kernel_rfl) (w_laws_likeInts h10 x18.1 a8 c8 (H22.rd 0 rfl) x3.1 a2 c2 (H22.rd 6 rfl) _ _ hx14)) ?_
              refine QRun_b [.bool (!x22)] 14 _ (by kernel_rfl) (fun w => by kernel_rfl) ?_
              refine QRun_bool (!x22) x21 (by kernel_rfl) (fun w => by kernel_rfl) gx21 ?_
              exact QRun_done [3, 4, 14, 122] (by kernel_rfl) (by kernel_rfl)
          refine QRun_seq 22 [(3, .slice a1 x2.length c1), (4, .slice a2 x3.1.length c2), (14, .slice a6 x8.1.length c6), (128, .bool x23)] ?_ ?_
          · rcases Bool.eq_false_or_eq_true x21 with hb12 | hb12
            · refine QRun_bool x21 true (by kernel_rfl) (fun w => by kernel_rfl) hb12 ?_
              have gx23 := M.ret_some ((M.ite_some gx23).1 hb12)
              refine QRun_n (by kernel_rfl) ?_
              refine QRun_n (by kernel_rfl) ?_
              refine QRun_n (by kernel_rfl) ?_
              refine QRun_n (by kernel_rfl) ?_
              refine QRun_bool true x23 (by kernel_rfl) (fun w => by kernel_rfl) gx23 ?_
              exact QRun_done [3, 4, 14, 128] (by kernel_rfl) (by kernel_rfl)
            · refine QRun_bool x21 false (by kernel_rfl) (fun w => by kernel_rfl) hb12 ?_
              have gx23 := (M.ite_some gx23).2 hb12
              obtain ⟨x24, hx15, gx23⟩ := M.bind_some gx23
              have gx23 := M.ret_some gx23
              refine QRun_b [.slice a1 x2.length c1, .slice a2 x3.1.length c2] 17 _ (by kernel_rfl) (fun w => by kernel_rfl) ?_
              refine QRun_y (.bool x24) (by kernel_rfl) (Y_callq (f := 55) (args := #[.slice a1 x2.length c1, .slice a2 x3.1.length c2]) (v := .bool x24) (by kernel_rfl) (w_laws_below9 h10 x2 a1 c1 (H22.rd 7 rfl) x3.1 a2 c2 (H22.rd 6 rfl) _ _ hx15)) ?_
              refine QRun_b [.bool (!x24)] 20 _ (by kernel_rfl) (fun w => by kernel_rfl) ?_
              refine QRun_bool (!x24) x23 (by kernel_rfl) (fun w => by kernel_rfl) gx23 ?_
              exact QRun_done [3, 4, 14, 128] (by kernel_rfl) (by kernel_rfl)
          exact QRun_done [3, 4, 14, 128] (by kernel_rfl) (by kernel_rfl)
        refine Run_cond (b := x23) (by kernel_rfl) (fun hb13 => ?_) (fun hb13 => ?_)
        · have hF := (M.ite_some hF).1 hb13
          refine Run_seq ?_
          refine Run_reg 1 (by kernel_rfl) (L' := [(2, .bool false)]) ?_ ?_
          · refine QRun_b [.bool false] 0 _ (by kernel_rfl) (fun w => by kernel_rfl) ?_
            exact QRun_done [2] (by kernel_rfl) (by kernel_rfl)
          have hF := M.ret_some hF
          subst hF
          have H23 : Hold h h10 [] := H22.pick [] (by kernel_rfl)
          exact Run_ret1 rfl (ResV_tmp (v := .bool false) (by kernel_rfl)) ⟨rfl, H23⟩
        · have hF := (M.ite_some hF).2 hb13
          refine Run_skip ?_
          refine Run_seq ?_
          refine Run_seq ?_
          refine Run_reg 1 (by kernel_rfl) (L' := [(3, .slice a1 x2.length c1), (4, .slice a2 x3.1.length c2), (14, .slice a6 x8.1.length c6), (22, .int .i64 0)]) ?_ ?_
          · refine QRun_b [.int .i64 0] 0 _ (by kernel_rfl) (fun w => by kernel_rfl) ?_
            exact QRun_done [3, 4, 14, 22] (by kernel_rfl) (by kernel_rfl)
          obtain ⟨x25, gx25, hF⟩ := M.bind_some hF
          obtain ⟨hloy1, hhiy1, gx25⟩ := M.for_start gx25
          refine Run_join (fun L' h' => ∃ (s2 : Unit), x25 = .inl s2 ∧ L' = [] ∧ Hold h h' []) ?_ ?_
          · rintro _ h12 ⟨s2, es2, rfl, H25⟩
            have hF := M.cont_inl' hF es2
            refine Run_seq ?_
            refine Run_reg 1 (by kernel_rfl) (L' := [(2, .bool true)]) ?_ ?_
            · refine QRun_b [.bool true] 0 _ (by kernel_rfl) (fun w => by kernel_rfl) ?_
              exact QRun_done [2] (by kernel_rfl) (by kernel_rfl)
            have hF := M.ret_some hF
            subst hF
            exact Run_ret1 rfl (ResV_tmp (v := .bool true) (by kernel_rfl)) ⟨rfl, H25⟩
          · refine Run_block ?_
            have H28 : Hold h h10 [own cd2 a1 x2.length c1 x2, own cd2 a2 x3.1.length c2 x3.1, own cd2 a6 x8.1.length c6 x8.1] := H22.pick [7, 6, 2] (by kernel_rfl)
            refine Run_keep [3, 4, 14, 22] (L' := [(3, .slice a1 x2.length c1), (4, .slice a2 x3.1.length c2), (14, .slice a6 x8.1.length c6), (22, .int .i64 0)]) (by kernel_rfl) ?_
            refine Run_loop (fun m L' h' => ∃ (i1 : Int) (s1 : Unit), 0 ≤ i1 ∧ M.forN (x8.1.length : Int) _ _ n m i1 s1 = some x25 ∧ L' = [(3, .slice a1 x2.length c1), (4, .slice a2 x3.1.length c2), (14, .slice a6 x8.1.length c6), (22, .int .i64 i1)] ∧ Hold h h' [own cd2 a1 x2.length c1 x2, own cd2 a2 x3.1.length c2 x3.1, own cd2 a6 x8.1.length c6 x8.1]) ((x8.1.length : Int) - 0 : Int).toNat ⟨0, (), Int.le_refl _, gx25, rfl, H28⟩ ?_
            rintro my1 _ h11 ⟨i1, s1, hloy1', gx25, rfl, H24⟩
            refine Run_seq ?_
            refine Run_seq ?_
            refine Run_reg 4 (by kernel_rfl) (L' := [(3, .slice a1 x2.length c1), (4, .slice a2 x3.1.length c2), (14, .slice a6 x8.1.length c6), (22, .int .i64 i1), (132, .bool (decide (i1 < (x8.1.length : Int))))]) ?_ ?_
            · refine QRun_b [.int .i64 i1, .slice a6 x8.1.length c6, .int .i64 (x8.1.length : Int), .bool (decide (i1 < (x8.1.length : Int)))] 0 _ (by kernel_rfl) (fun w => by kernel_rfl) ?_
              exact QRun_done [3, 4, 14, 22, 132] (by kernel_rfl) (by kernel_rfl)
            refine Run_cond (b := decide (i1 < (x8.1.length : Int))) (by kernel_rfl) (fun hb14 => ?_) (fun hb14 => ?_)
            · obtain ⟨my1, y1, rfl, hB1, hgoy1, houty1⟩ := M.for_go gx25 hb14
              have hlty1 := of_decide_eq_true hb14
              refine Run_skip ?_
              refine Run_seq ?_
              refine Run_block ?_
              refine Run_seq ?_
              obtain ⟨x26, hx16, hB1⟩ := M.bind_some hB1
              obtain ⟨hx16l, hx16u, hx16⟩ := M.idx_some hx16
              obtain ⟨x27, hx17, hB1⟩ := M.bind_some hB1
              obtain ⟨hx17l, hx17u, hx17⟩ := M.idx_some hx17
              obtain ⟨x28, hx18, hB1⟩ := M.bind_some hB1
              obtain ⟨hx18l, hx18u, hx18⟩ := M.idx_some hx18
              obtain ⟨x29, hx19, hB1⟩ := M.bind_some hB1
              obtain ⟨hx19l, hx19u, hx19⟩ := M.idx_some hx19
              refine Run_draw 15 mixed (by kernel_rfl) (by kernel_rfl) (L' := [(3, .slice a1 x2.length c1), (4, .slice a2 x3.1.length c2), (14, .slice a6 x8.1.length c6), (22, .int .i64 i1), (149, .bool (x27 != x29))]) ?_ ?_
              · refine QRun_b [.slice a2 x3.1.length c2, .slice a6 x8.1.length c6, .int .i64 i1] 0 _ (by kernel_rfl) (fun w => by kernel_rfl) ?_
                refine QRun_y (.pointer (some (adr a6 (i1.toNat * 1)))) (by kernel_rfl) (Y_idx (t := 23) (e := 2) (sz := 1) (a := a6) (n := x8.1.length) (cap := c6) (kk := .i64) (i := i1) (by kernel_rfl) Try.underlying23 (by kernel_rfl) ((H24.rd 2 rfl).cell hx16).1 hx16l hx16u) ?_
                refine QRun_y (.int .i64 x26) (by kernel_rfl) (Y_load1 (t := 2) (p := adr a6 (i1.toNat * 1)) (v := .int .i64 x26) (by kernel_rfl) (fun w => by kernel_rfl) (cd2_cell (H24.rd 2 rfl) hx16)) ?_
                refine QRun_y (.pointer (some (adr a2 (x26.toNat * 1)))) (by kernel_rfl) (Y_idx (t := 23) (e := 2) (sz := 1) (a := a2) (n := x3.1.length) (cap := c2) (kk := .i64) (i := x26) (by kernel_rfl) Try.underlying23 (by kernel_rfl) ((H24.rd 1 rfl).cell hx17).1 hx17l hx17u) ?_
                refine QRun_y (.int .i64 x27) (by kernel_rfl) (Y_load1 (t := 2) (p := adr a2 (x26.toNat * 1)) (v := .int .i64 x27) (by kernel_rfl) (fun w => by kernel_rfl) (cd2_cell (H24.rd 1 rfl) hx17)) ?_
                refine QRun_b [.slice a1 x2.length c1, .slice a6 x8.1.length c6, .int .i64 i1] 7 _ (by kernel_rfl) (fun w => by kernel_rfl) ?_
                refine QRun_y (.pointer (some (adr a6 (i1.toNat * 1)))) (by kernel_rfl) (Y_idx (t := 23) (e := 2) (sz := 1) (a := a6) (n := x8.1.length) (cap := c6) (kk := .i64) (i := i1) (by kernel_rfl) Try.underlying23 (by kernel_rfl) ((H24.rd 2 rfl).cell hx18).1 hx18l hx18u) ?_
                refine QRun_y (.int .i64 x28) (by kernel_rfl) (Y_load1 (t := 2) (p := adr a6 (i1.toNat * 1)) (v := .int .i64 x28) (by kernel_rfl) (fun w => by kernel_rfl) (cd2_cell (H24.rd 2 rfl) hx18)) ?_
                refine QRun_y (.pointer (some (adr a1 (x28.toNat * 1)))) (by kernel_rfl) (Y_idx (t := 23) (e := 2) (sz := 1) (a := a1) (n := x2.length) (cap := c1) (kk := .i64) (i := x28) (by kernel_rfl) Try.underlying23 (by kernel_rfl) ((H24.rd 0 rfl).cell hx19).1 hx19l hx19u) ?_
                refine QRun_y (.int .i64 x29) (by kernel_rfl) (Y_load1 (t := 2) (p := adr a1 (x28.toNat * 1)) (v := .int .i64 x29) (by kernel_rfl) (fun w => by kernel_rfl) (cd2_cell (H24.rd 0 rfl) hx19)) ?_
                refine QRun_b [.bool (x27 != x29)] 14 _ (by kernel_rfl) (fun w => by kernel_rfl) ?_
                exact QRun_done [3, 4, 14, 22, 149] (by kernel_rfl) (by kernel_rfl)
              refine Run_cond (b := x27 != x29) (by kernel_rfl) (fun hb15 => ?_) (fun hb15 => ?_)
              · have hB1 := (M.ite_some hB1).1 hb15
                refine Run_seq ?_
                refine Run_reg 1 (by kernel_rfl) (L' := [(2, .bool false)]) ?_ ?_
                · refine QRun_b [.bool false] 0 _ (by kernel_rfl) (fun w => by kernel_rfl) ?_
                  exact QRun_done [2] (by kernel_rfl) (by kernel_rfl)
                have hB1 := M.ret_some hB1
                have gx25 := houty1 _ hB1.symm
                have hF := M.cont_inr' hF gx25
                have hF := M.ret_some hF
                subst hF
                have H26 : Hold h h11 [] := H24.pick [] (by kernel_rfl)
                exact Run_ret1 rfl (ResV_tmp (v := .bool false) (by kernel_rfl)) ⟨rfl, H26⟩
              · have hB1 := (M.ite_some hB1).2 hb15
                refine Run_skip ?_
                refine Run_blk ?_
                refine Run_reg 3 (by kernel_rfl) (L' := [(3, .slice a1 x2.length c1), (4, .slice a2 x3.1.length c2), (14, .slice a6 x8.1.length c6), (22, .int .i64 (i1 + 1))]) ?_ ?_
                · refine QRun_b [.int .i64 i1] 0 _ (by kernel_rfl) (fun w => by kernel_rfl) ?_
                  refine QRun_y (.int .i64 (i1 + 1)) (by kernel_rfl) (Y_eq (v := .int .i64 (w64 (i1 + 1))) (Y_pure (fun w => by kernel_rfl)) (by rw [w64_eq _ (by omega)])) ?_
                  refine QRun_b [.int .i64 (i1 + 1)] 2 _ (by kernel_rfl) (fun w => by kernel_rfl) ?_
                  exact QRun_done [3, 4, 14, 22] (by kernel_rfl) (by kernel_rfl)
                have hB1 := M.ret_some hB1
                have gx25 := hgoy1 _ hB1.symm
                exact Run_again [3, 4, 14, 22] (by kernel_rfl) my1 (Nat.lt_succ_self _) ⟨i1 + 1, (), by omega, gx25, rfl, H24⟩
            · have gx25 := M.for_end gx25 hb14
              subst gx25
              refine Run_exit (k' := _) rfl ?_
              have H27 : Hold h h11 [] := H24.pick [] (by kernel_rfl)
              exact Run_fall [] (by kernel_rfl) ⟨(), rfl, rfl, H27⟩

end Go.Proofs.Ytjdcdcipilhmeaa
