/-
  Walks: each Go function, called with what reads as plain data, returns what its plain program computes.
  Conditions: None beyond the given statement.
-/
import Derived.Test.YtipdgiljgbjjkaaW0
namespace Go.Proofs.Ytipdgiljgbjjkaa
open Go
attribute [local irreducible] setL setB opA fineI idleI fineB evB okB markB markBs readyB readyBs chainB lk rho pickL dropSlot tailOK
set_option maxRecDepth 100000 in
set_option maxHeartbeats 4000000 in
theorem w_spec_DualOf (h : Heap) (a_ : List (List Int)) (aa_ : Option Addr) (ca_ : Nat) (ra_ : Rd cd39 h (Lt h) aa_ ca_ a_) (n : Nat) (r : (List Int) × (List Int) × Int) (hF : spec_DualOf a_ n = some r) :
    Fn Try.prog 19 #[.slice aa_ a_.length ca_] h fun v h' => ∃ (a0 : Option Addr) (c0 : Nat), ∃ (a1 : Option Addr) (c1 : Nat), v = .tuple #[.slice a0 r.1.length c0, .slice a1 r.2.1.length c1, .int .i64 r.2.2] ∧ Hold h h' [own cd2 a0 r.1.length c0 r.1, own cd2 a1 r.2.1.length c1 r.2.1] := by
  unfold spec_DualOf at hF
  refine Fn_enter (args := [.slice aa_ a_.length ca_]) Try.func19 rfl (by kernel_rfl) (by kernel_rfl) (fun w0 _ => ?_)
  have H0 := Hold.init h
  refine Run_seq ?_
  refine Run_reg 3 (by kernel_rfl) (L' := [(0, .slice aa_ a_.length ca_)]) ?_ ?_
  · refine QRun_b [.slice none 0 0, .slice none 0 0, .int .i64 0] 0 _ (by kernel_rfl) (fun w => by kernel_rfl) ?_
    exact QRun_done [0] (by kernel_rfl) (by kernel_rfl)
  refine Run_seq ?_
  refine Run_seq ?_
  obtain ⟨x1, hx1, hF⟩ := M.bind_some hF
  refine Run_reg 3 (by kernel_rfl) (L' := [(0, .slice aa_ a_.length ca_), (17, .bool (!x1))]) ?_ ?_
  · refine QRun_b [.slice aa_ a_.length ca_] 0 _ (by kernel_rfl) (fun w => by kernel_rfl) ?_
    refine QRun_y (.bool x1) (by kernel_rfl) (Y_callq (f := 82) (args := #[.slice aa_ a_.length ca_]) (v := .bool x1) (by kernel_rfl) (w_spec_l02Square h a_ aa_ ca_ ra_ _ _ hx1)) ?_
    refine QRun_b [.bool (!x1)] 2 _ (by kernel_rfl) (fun w => by kernel_rfl) ?_
    exact QRun_done [0, 17] (by kernel_rfl) (by kernel_rfl)
  refine Run_cond (b := !x1) (by kernel_rfl) (fun hb1 => ?_) (fun hb1 => ?_)
  · have hF := (M.ite_some hF).1 hb1
    refine Run_seq ?_
    refine Run_reg 3 (by kernel_rfl) (L' := [(2, .slice none 0 0), (3, .slice none 0 0), (4, .int .i64 1)]) ?_ ?_
    · refine QRun_b [.slice none 0 0, .slice none 0 0, .int .i64 1] 0 _ (by kernel_rfl) (fun w => by kernel_rfl) ?_
      exact QRun_done [2, 3, 4] (by kernel_rfl) (by kernel_rfl)
    have hF := M.ret_some hF
    subst hF
    have H1 := H0.empty cd2
    have H2 := H1.empty cd2
    have H3 : Hold h h [own cd2 none 0 0 [], own cd2 none 0 0 []] := H2.pick [1, 0] (by kernel_rfl)
    exact Run_ret3 rfl (ResV_tmp (v := .slice none 0 0) (by kernel_rfl)) (ResV_tmp (v := .slice none 0 0) (by kernel_rfl)) (ResV_tmp (v := .int .i64 1) (by kernel_rfl)) ⟨none, 0, none, 0, rfl, H3⟩
  · have hF := (M.ite_some hF).2 hb1
    refine Run_skip ?_
    refine Run_seq ?_
    refine Run_ops ?_
    refine Run_b [.slice aa_ a_.length ca_] 0 _ (by kernel_rfl) (fun w => by kernel_rfl) ?_
    obtain ⟨x2, hx2, hF⟩ := M.bind_some hF
    refine Run_E (by kernel_rfl) ?_
    refine E_call (f := 83) (args := #[.slice aa_ a_.length ca_]) (w_spec_l10Assignment h a_ aa_ ca_ ra_ _ _ hx2) (by kernel_rfl) (fun v1 h1 hp1 => ?_)
    obtain ⟨a1, c1, rfl, H4⟩ := hp1
    have H5 : Hold h h1 [own cd2 a1 x2.1.length c1 x2.1] := H0.call H4 rfl
    refine Run_b [.tuple #[.slice a1 x2.1.length c1, .bool x2.2], .slice a1 x2.1.length c1, .bool x2.2, .slice a1 x2.1.length c1, .bool x2.2] 2 _ (by kernel_rfl) (fun w => by kernel_rfl) ?_
    refine Run_nil (by kernel_rfl) ?_
    refine Run_keep [0, 5, 6] (L' := [(0, .slice aa_ a_.length ca_), (5, .slice a1 x2.1.length c1), (6, .bool x2.2)]) (by kernel_rfl) ?_
    refine Run_seq ?_
    refine Run_seq ?_
    refine Run_reg 2 (by kernel_rfl) (L' := [(0, .slice aa_ a_.length ca_), (5, .slice a1 x2.1.length c1), (24, .bool (!x2.2))]) ?_ ?_
    · refine QRun_b [.bool x2.2, .bool (!x2.2)] 0 _ (by kernel_rfl) (fun w => by kernel_rfl) ?_
      exact QRun_done [0, 5, 24] (by kernel_rfl) (by kernel_rfl)
    refine Run_cond (b := !x2.2) (by kernel_rfl) (fun hb2 => ?_) (fun hb2 => ?_)
    · have hF := (M.ite_some hF).1 hb2
      refine Run_seq ?_
      refine Run_reg 3 (by kernel_rfl) (L' := [(2, .slice none 0 0), (3, .slice none 0 0), (4, .int .i64 4)]) ?_ ?_
      · refine QRun_b [.slice none 0 0, .slice none 0 0, .int .i64 4] 0 _ (by kernel_rfl) (fun w => by kernel_rfl) ?_
        exact QRun_done [2, 3, 4] (by kernel_rfl) (by kernel_rfl)
      have hF := M.ret_some hF
      subst hF
      have H6 := H5.empty cd2
      have H7 := H6.empty cd2
      have H8 : Hold h h1 [own cd2 none 0 0 [], own cd2 none 0 0 []] := H7.pick [1, 0] (by kernel_rfl)
      exact Run_ret3 rfl (ResV_tmp (v := .slice none 0 0) (by kernel_rfl)) (ResV_tmp (v := .slice none 0 0) (by kernel_rfl)) (ResV_tmp (v := .int .i64 4) (by kernel_rfl)) ⟨none, 0, none, 0, rfl, H8⟩
    · have hF := (M.ite_some hF).2 hb2
      refine Run_skip ?_
      refine Run_seq ?_
      refine Run_ops ?_
      refine Run_b [.slice aa_ a_.length ca_, .int .i64 (a_.length : Int), .slice aa_ a_.length ca_, .int .i64 (a_.length : Int)] 0 _ (by kernel_rfl) (fun w => by kernel_rfl) ?_
      obtain ⟨x3, hx3, hF⟩ := M.bind_some hF
      refine Run_E (by kernel_rfl) ?_
      refine E_call (f := 84) (args := #[.int .i64 (a_.length : Int), .int .i64 (a_.length : Int)]) (w_spec_l02Bottom h1 (a_.length : Int) (a_.length : Int) _ _ hx3) (by kernel_rfl) (fun v2 h2 hp2 => ?_)
      obtain ⟨a2, c2, rfl, H9⟩ := hp2
      have H10 : Hold h h2 [own cd39 a2 x3.length c2 x3, own cd2 a1 x2.1.length c1 x2.1] := H5.call H9 rfl
      refine Run_b [.slice a2 x3.length c2] 5 _ (by kernel_rfl) (fun w => by kernel_rfl) ?_
      refine Run_nil (by kernel_rfl) ?_
      refine Run_keep [0, 5, 7] (L' := [(0, .slice aa_ a_.length ca_), (5, .slice a1 x2.1.length c1), (7, .slice a2 x3.length c2)]) (by kernel_rfl) ?_
      refine Run_seq ?_
      refine Run_seq ?_
      refine Run_reg 1 (by kernel_rfl) (L' := [(0, .slice aa_ a_.length ca_), (5, .slice a1 x2.1.length c1), (7, .slice a2 x3.length c2), (8, .int .i64 0)]) ?_ ?_
      · refine QRun_b [.int .i64 0] 0 _ (by kernel_rfl) (fun w => by kernel_rfl) ?_
        exact QRun_done [0, 5, 7, 8] (by kernel_rfl) (by kernel_rfl)
      obtain ⟨x4, gx4, hF⟩ := M.bind_some hF
      obtain ⟨hloy1, hhiy1, gx4⟩ := M.for_start gx4
      refine Run_join (fun L' h' => L' = [(0, .slice aa_ a_.length ca_), (5, .slice a1 x2.1.length c1), (7, .slice a2 x3.length c2)] ∧ Hold h h' [own cd2 a1 x2.1.length c1 x2.1, own cd39 a2 x3.length c2 x4]) ?_ ?_
      · rintro _ h4 ⟨rfl, H12⟩
        refine Run_seq ?_
        refine Run_ops ?_
        refine Run_b [.slice a2 x3.length c2] 0 _ (by kernel_rfl) (fun w => by kernel_rfl) ?_
        obtain ⟨x17, hx15, hF⟩ := M.bind_some hF
        refine Run_E (by kernel_rfl) ?_
        refine E_call (f := 85) (args := #[.slice a2 x3.length c2]) (Fn.arg (w_spec_l03Star h4 x4 a2 c2 (H12.rd 1 rfl) _ _ hx15) (by simp only [(H12.len 1 rfl)])) (by kernel_rfl) (fun v3 h10 hp3 => ?_)
        obtain ⟨a7, c7, rfl, H26⟩ := hp3
        have H27 : Hold h h10 [own cd39 a7 x17.1.length c7 x17.1, own cd2 a1 x2.1.length c1 x2.1, own cd39 a2 x3.length c2 x4] := H12.call H26 rfl
        refine Run_b [.tuple #[.slice a7 x17.1.length c7, .bool x17.2], .slice a7 x17.1.length c7, .bool x17.2, .slice a7 x17.1.length c7, .bool x17.2] 2 _ (by kernel_rfl) (fun w => by kernel_rfl) ?_
        refine Run_nil (by kernel_rfl) ?_
        refine Run_keep [0, 5, 10] (L' := [(0, .slice aa_ a_.length ca_), (5, .slice a1 x2.1.length c1), (10, .slice a7 x17.1.length c7)]) (by kernel_rfl) ?_
        refine Run_seq ?_
        refine Run_ops ?_
        refine Run_b [.slice a7 x17.1.length c7, .slice aa_ a_.length ca_, .int .i64 (a_.length : Int)] 0 _ (by kernel_rfl) (fun w => by kernel_rfl) ?_
        obtain ⟨l2, hl1, hF⟩ := M.bind_some hF
        have hl1 := M.make_some hl1
        refine Run_E (by kernel_rfl) ?_
        refine E_make cd2 0 (kl := .i64) (kc := .i64) H27 cd2_ti Try.underlying39 (by decide) cd2_zero (by kernel_rfl) hl1 (fun a8 h11 H28 => ?_)
        obtain ⟨x18, hx16, hF⟩ := M.bind_some hF
        refine Run_E (by kernel_rfl) ?_
        refine E_call (f := 86) (args := #[.slice a7 x17.1.length c7, .slice a8 l2.length l2.length]) (w_spec_l02Apply h11 x17.1 a7 c7 (H28.rd 1 rfl) l2 a8 l2.length (H28.rd 0 rfl) _ _ hx16) (by kernel_rfl) (fun v4 h12 hp4 => ?_)
        obtain ⟨a9, c8, rfl, H29⟩ := hp4
        have H30 : Hold h h12 [own cd2 a9 x18.length c8 x18, own cd2 a8 l2.length l2.length l2, own cd39 a7 x17.1.length c7 x17.1, own cd2 a1 x2.1.length c1 x2.1, own cd39 a2 x3.length c2 x4] := H28.call H29 rfl
        refine Run_b [.slice a9 x18.length c8] 5 _ (by kernel_rfl) (fun w => by kernel_rfl) ?_
        refine Run_nil (by kernel_rfl) ?_
        refine Run_keep [0, 5, 12] (L' := [(0, .slice aa_ a_.length ca_), (5, .slice a1 x2.1.length c1), (12, .slice a9 x18.length c8)]) (by kernel_rfl) ?_
        refine Run_seq ?_
        refine Run_ops ?_
        refine Run_b [.slice aa_ a_.length ca_, .int .i64 (a_.length : Int)] 0 _ (by kernel_rfl) (fun w => by kernel_rfl) ?_
        obtain ⟨l3, hl2, hF⟩ := M.bind_some hF
        have hl2 := M.make_some hl2
        refine Run_E (by kernel_rfl) ?_
        refine E_make cd2 0 (kl := .i64) (kc := .i64) H30 cd2_ti Try.underlying39 (by decide) cd2_zero (by kernel_rfl) hl2 (fun a10 h13 H31 => ?_)
        refine Run_b [.slice a10 l3.length l3.length] 3 _ (by kernel_rfl) (fun w => by kernel_rfl) ?_
        refine Run_nil (by kernel_rfl) ?_
        refine Run_keep [0, 5, 12, 13] (L' := [(0, .slice aa_ a_.length ca_), (5, .slice a1 x2.1.length c1), (12, .slice a9 x18.length c8), (13, .slice a10 l3.length l3.length)]) (by kernel_rfl) ?_
        refine Run_seq ?_
        refine Run_seq ?_
        refine Run_reg 1 (by kernel_rfl) (L' := [(0, .slice aa_ a_.length ca_), (5, .slice a1 x2.1.length c1), (12, .slice a9 x18.length c8), (13, .slice a10 l3.length l3.length), (14, .int .i64 0)]) ?_ ?_
        · refine QRun_b [.int .i64 0] 0 _ (by kernel_rfl) (fun w => by kernel_rfl) ?_
          exact QRun_done [0, 5, 12, 13, 14] (by kernel_rfl) (by kernel_rfl)
        obtain ⟨x19, gx19, hF⟩ := M.bind_some hF
        obtain ⟨hloy3, hhiy3, gx19⟩ := M.for_start gx19
        refine Run_join (fun L' h' => L' = [(12, .slice a9 x18.length c8), (13, .slice a10 l3.length l3.length)] ∧ Hold h h' [own cd2 a9 x18.length c8 x18, own cd2 a10 l3.length l3.length x19]) ?_ ?_
        · rintro _ h15 ⟨rfl, H33⟩
          refine Run_seq ?_
          refine Run_seq ?_
          obtain ⟨x26, hx23, hF⟩ := M.bind_some hF
          obtain ⟨x27, gx27, hF⟩ := M.bind_some hF
          refine Run_reg 8 (by kernel_rfl) (L' := [(12, .slice a9 x18.length c8), (13, .slice a10 l3.length l3.length), (127, .bool x27)]) ?_ ?_
          · refine QRun_b [.slice a9 x18.length c8] 0 _ (by kernel_rfl) (fun w => by kernel_rfl) ?_
            refine QRun_y (.bool x26) (by kernel_rfl) (Y_callq (f := 87) (args := #[.slice a9 x18.length c8, .bool true]) (v := .bool x26) (by kernel_rfl) (w_spec_l01All h15 x18 a9 c8 (H33.rd 0 rfl) true _ _ hx23)) ?_
            refine QRun_b [.bool (!x26)] 2 _ (by kernel_rfl) (fun w => by kernel_rfl) ?_
            refine QRun_seq 8 [(12, .slice a9 x18.length c8), (13, .slice a10 l3.length l3.length), (127, .bool x27)] ?_ ?_
            · rcases Bool.eq_false_or_eq_true (!x26) with hb7 | hb7
              · refine QRun_bool (!x26) true (by kernel_rfl) (fun w => by kernel_rfl) hb7 ?_
                have gx27 := M.ret_some ((M.ite_some gx27).1 hb7)
                refine QRun_n (by kernel_rfl) ?_
                refine QRun_n (by kernel_rfl) ?_
                refine QRun_n (by kernel_rfl) ?_
                refine QRun_bool true x27 (by kernel_rfl) (fun w => by kernel_rfl) gx27 ?_
                exact QRun_done [12, 13, 127] (by kernel_rfl) (by kernel_rfl)
              · refine QRun_bool (!x26) false (by kernel_rfl) (fun w => by kernel_rfl) hb7 ?_
                have gx27 := (M.ite_some gx27).2 hb7
                obtain ⟨x28, hx24, gx27⟩ := M.bind_some gx27
                have gx27 := M.ret_some gx27
                refine QRun_b [.slice a10 l3.length l3.length] 4 _ (by kernel_rfl) (fun w => by kernel_rfl) ?_
                refine QRun_y (.bool x28) (by kernel_rfl) (Y_callq (f := 87) (args := #[.slice a10 l3.length l3.length, .bool true]) (v := .bool x28) (by kernel_rfl) (Fn.arg (w_spec_l01All h15 x19 a10 l3.length (H33.rd 1 rfl) true _ _ hx24) (by simp only [(H33.len 1 rfl)]))) ?_
                refine QRun_b [.bool (!x28)] 6 _ (by kernel_rfl) (fun w => by kernel_rfl) ?_
                refine QRun_bool (!x28) x27 (by kernel_rfl) (fun w => by kernel_rfl) gx27 ?_
                exact QRun_done [12, 13, 127] (by kernel_rfl) (by kernel_rfl)
            exact QRun_done [12, 13, 127] (by kernel_rfl) (by kernel_rfl)
          refine Run_cond (b := x27) (by kernel_rfl) (fun hb8 => ?_) (fun hb8 => ?_)
          · have hF := (M.ite_some hF).1 hb8
            refine Run_seq ?_
            refine Run_reg 3 (by kernel_rfl) (L' := [(2, .slice none 0 0), (3, .slice none 0 0), (4, .int .i64 3)]) ?_ ?_
            · refine QRun_b [.slice none 0 0, .slice none 0 0, .int .i64 3] 0 _ (by kernel_rfl) (fun w => by kernel_rfl) ?_
              exact QRun_done [2, 3, 4] (by kernel_rfl) (by kernel_rfl)
            have hF := M.ret_some hF
            subst hF
            have H40 := H33.empty cd2
            have H41 := H40.empty cd2
            have H42 : Hold h h15 [own cd2 none 0 0 [], own cd2 none 0 0 []] := H41.pick [1, 0] (by kernel_rfl)
            exact Run_ret3 rfl (ResV_tmp (v := .slice none 0 0) (by kernel_rfl)) (ResV_tmp (v := .slice none 0 0) (by kernel_rfl)) (ResV_tmp (v := .int .i64 3) (by kernel_rfl)) ⟨none, 0, none, 0, rfl, H42⟩
          · have hF := (M.ite_some hF).2 hb8
            refine Run_skip ?_
            refine Run_seq ?_
            refine Run_reg 5 (by kernel_rfl) (L' := [(2, .slice a9 x18.length c8), (3, .slice a10 l3.length l3.length), (4, .int .i64 0)]) ?_ ?_
            · refine QRun_b [.slice a9 x18.length c8, .slice a10 l3.length l3.length, .slice a9 x18.length c8, .slice a10 l3.length l3.length, .int .i64 0] 0 _ (by kernel_rfl) (fun w => by kernel_rfl) ?_
              exact QRun_done [2, 3, 4] (by kernel_rfl) (by kernel_rfl)
            have hF := M.ret_some hF
            subst hF
            have H43 : Hold h h15 [own cd2 a10 l3.length l3.length x19, own cd2 a9 x18.length c8 x18] := H33.pick [1, 0] (by kernel_rfl)
            have H44 := H43.norm
            have H45 : Hold h h15 [own cd2 a9 x18.length c8 x18, own cd2 a10 x19.length l3.length x19] := H44.pick [1, 0] (by kernel_rfl)
            exact Run_ret3 rfl (ResV_tmp (v := .slice a9 x18.length c8) (by kernel_rfl)) (ResV_tmp (v := .slice a10 l3.length l3.length) (by kernel_rfl)) (ResV_tmp (v := .int .i64 0) (by kernel_rfl)) ⟨a9, c8, a10, l3.length, (by simp only [(H43.len 0 rfl)]), H45⟩
        · refine Run_block ?_
          have H46 : Hold h h13 [own cd2 a1 x2.1.length c1 x2.1, own cd2 a9 x18.length c8 x18, own cd2 a10 l3.length l3.length l3] := H31.pick [4, 1, 0] (by kernel_rfl)
          refine Run_keep [0, 5, 12, 13, 14] (L' := [(0, .slice aa_ a_.length ca_), (5, .slice a1 x2.1.length c1), (12, .slice a9 x18.length c8), (13, .slice a10 l3.length l3.length), (14, .int .i64 0)]) (by kernel_rfl) ?_
          refine Run_loop (fun m L' h' => ∃ (i3 : Int) (s4 : (List Int)), 0 ≤ i3 ∧ M.forN (a_.length : Int) _ _ n m i3 s4 = some x19 ∧ L' = [(0, .slice aa_ a_.length ca_), (5, .slice a1 x2.1.length c1), (12, .slice a9 x18.length c8), (13, .slice a10 l3.length l3.length), (14, .int .i64 i3)] ∧ Hold h h' [own cd2 a1 x2.1.length c1 x2.1, own cd2 a9 x18.length c8 x18, own cd2 a10 l3.length l3.length s4]) ((a_.length : Int) - 0 : Int).toNat ⟨0, l3, Int.le_refl _, gx19, rfl, H46⟩ ?_
          rintro my3 _ h14 ⟨i3, s4, hloy3', gx19, rfl, H32⟩
          refine Run_seq ?_
          refine Run_seq ?_
          refine Run_reg 4 (by kernel_rfl) (L' := [(0, .slice aa_ a_.length ca_), (5, .slice a1 x2.1.length c1), (12, .slice a9 x18.length c8), (13, .slice a10 l3.length l3.length), (14, .int .i64 i3), (96, .bool (decide (i3 < (a_.length : Int))))]) ?_ ?_
          · refine QRun_b [.int .i64 i3, .slice aa_ a_.length ca_, .int .i64 (a_.length : Int), .bool (decide (i3 < (a_.length : Int)))] 0 _ (by kernel_rfl) (fun w => by kernel_rfl) ?_
            exact QRun_done [0, 5, 12, 13, 14, 96] (by kernel_rfl) (by kernel_rfl)
          refine Run_cond (b := decide (i3 < (a_.length : Int))) (by kernel_rfl) (fun hb6 => ?_) (fun hb6 => ?_)
          · obtain ⟨my3, y3, rfl, hB3, hgoy3, houty3⟩ := M.for_go gx19 hb6
            have hlty3 := of_decide_eq_true hb6
            refine Run_skip ?_
            refine Run_seq ?_
            refine Run_block ?_
            obtain ⟨x20, hx17, hB3⟩ := M.bind_some hB3
            obtain ⟨hx17l, hx17u, hx17⟩ := M.idx_some hx17
            obtain ⟨x21, hx18, hB3⟩ := M.bind_some hB3
            obtain ⟨hx18l, hx18u, hx18⟩ := M.idx_some hx18
            obtain ⟨a11, c9, hc4, r4⟩ := ra_.row hx18
            obtain ⟨x22, hx19, hB3⟩ := M.bind_some hB3
            obtain ⟨hx19l, hx19u, hx19⟩ := M.idx_some hx19
            obtain ⟨x23, hx20, hB3⟩ := M.bind_some hB3
            obtain ⟨hx20l, hx20u, hx20⟩ := M.idx_some hx20
            obtain ⟨x24, hx21, hB3⟩ := M.bind_some hB3
            obtain ⟨hx21l, hx21u, hx21⟩ := M.idx_some hx21
            obtain ⟨x25, hx22, hB3⟩ := M.bind_some hB3
            obtain ⟨hx22l, hx22u, hx22⟩ := M.idx_some hx22
            refine Run_D (fun x => Hold h x [own cd2 a1 x2.1.length c1 x2.1, own cd2 a9 x18.length c8 x18, own cd2 a10 l3.length l3.length s4]) (fun x => Hold h x [own cd2 a1 x2.1.length c1 x2.1, own cd2 a9 x18.length c8 x18, own cd2 a10 l3.length l3.length s4]) mixed (by kernel_rfl) H32 Hold.stable (fun x Hy => (show Hold h x [own cd2 a1 x2.1.length c1 x2.1, own cd2 a9 x18.length c8 x18, own cd2 a10 l3.length l3.length s4] from Hy).pick [0, 1, 2] (by kernel_rfl)) ?_
            refine DR_b 19 [.slice a10 l3.length l3.length, .slice a1 x2.1.length c1, .int .i64 i3] 0 (by kernel_rfl) (by kernel_rfl) (by kernel_rfl) (fun w => by kernel_rfl) ?_
            refine DR_y 18 (i := 3) (.pointer (some (adr a1 (i3.toNat * 1)))) (by kernel_rfl) (by kernel_rfl) (by kernel_rfl) (fun hx Hx => (YE.of (Y_idx (t := 39) (e := 2) (sz := 1) (a := a1) (n := x2.1.length) (cap := c1) (kk := .i64) (i := i3) (by kernel_rfl) Try.underlying39 (by kernel_rfl) ((H32.rd 0 rfl).cell hx17).1 hx17l hx17u))) ?_
            refine DR_y 17 (i := 4) (.int .i64 x20) (by kernel_rfl) (by kernel_rfl) (by kernel_rfl) (fun hx Hx => (YE.of (Y_load1 (t := 2) (p := adr a1 (i3.toNat * 1)) (v := .int .i64 x20) (by kernel_rfl) (fun w => by kernel_rfl) (cd2_cell (Hx.rd 0 rfl) hx17)))) ?_
            refine DR_b 15 [.slice aa_ a_.length ca_, .int .i64 i3] 5 (by kernel_rfl) (by kernel_rfl) (by kernel_rfl) (fun w => by kernel_rfl) ?_
            refine DR_y 14 (i := 7) (.pointer (some (adr aa_ (i3.toNat * 1)))) (by kernel_rfl) (by kernel_rfl) (by kernel_rfl) (fun hx Hx => (YE.of (Y_idx (t := 37) (e := 39) (sz := 1) (a := aa_) (n := a_.length) (cap := ca_) (kk := .i64) (i := i3) (by kernel_rfl) Try.underlying37 (by kernel_rfl) ((ra_.at H32.ext).cell hx18).1 hx18l hx18u))) ?_
            refine DR_y 13 (i := 8) (.slice a11 x21.length c9) (by kernel_rfl) (by kernel_rfl) (by kernel_rfl) (fun hx Hx => (YE.of (Y_load1 (t := 39) (p := adr aa_ (i3.toNat * 1)) (v := .slice a11 x21.length c9) (by kernel_rfl) (fun w => by kernel_rfl) (cell_at Hx.ext hc4)))) ?_
            refine DR_b 11 [.slice a1 x2.1.length c1, .int .i64 i3] 9 (by kernel_rfl) (by kernel_rfl) (by kernel_rfl) (fun w => by kernel_rfl) ?_
            refine DR_y 10 (i := 11) (.pointer (some (adr a1 (i3.toNat * 1)))) (by kernel_rfl) (by kernel_rfl) (by kernel_rfl) (fun hx Hx => (YE.of (Y_idx (t := 39) (e := 2) (sz := 1) (a := a1) (n := x2.1.length) (cap := c1) (kk := .i64) (i := i3) (by kernel_rfl) Try.underlying39 (by kernel_rfl) ((H32.rd 0 rfl).cell hx19).1 hx19l hx19u))) ?_
            refine DR_y 9 (i := 12) (.int .i64 x22) (by kernel_rfl) (by kernel_rfl) (by kernel_rfl) (fun hx Hx => (YE.of (Y_load1 (t := 2) (p := adr a1 (i3.toNat * 1)) (v := .int .i64 x22) (by kernel_rfl) (fun w => by kernel_rfl) (cd2_cell (Hx.rd 0 rfl) hx19)))) ?_
            refine DR_y 8 (i := 13) (.pointer (some (adr a11 (x22.toNat * 1)))) (by kernel_rfl) (by kernel_rfl) (by kernel_rfl) (fun hx Hx => (YE.of (Y_idx (t := 39) (e := 2) (sz := 1) (a := a11) (n := x21.length) (cap := c9) (kk := .i64) (i := x22) (by kernel_rfl) Try.underlying39 (by kernel_rfl) ((r4.at H32.ext).cell hx20).1 hx20l hx20u))) ?_
            refine DR_y 7 (i := 14) (.int .i64 x23) (by kernel_rfl) (by kernel_rfl) (by kernel_rfl) (fun hx Hx => (YE.of (Y_load1 (t := 2) (p := adr a11 (x22.toNat * 1)) (v := .int .i64 x23) (by kernel_rfl) (fun w => by kernel_rfl) (cd2_cell (r4.at Hx.ext) hx20)))) ?_
            refine DR_b 5 [.slice a9 x18.length c8, .int .i64 i3] 15 (by kernel_rfl) (by kernel_rfl) (by kernel_rfl) (fun w => by kernel_rfl) ?_
            refine DR_y 4 (i := 17) (.pointer (some (adr a9 (i3.toNat * 1)))) (by kernel_rfl) (by kernel_rfl) (by kernel_rfl) (fun hx Hx => (YE.of (Y_idx (t := 39) (e := 2) (sz := 1) (a := a9) (n := x18.length) (cap := c8) (kk := .i64) (i := i3) (by kernel_rfl) Try.underlying39 (by kernel_rfl) ((H32.rd 1 rfl).cell hx21).1 hx21l hx21u))) ?_
            refine DR_y 3 (i := 18) (.int .i64 x24) (by kernel_rfl) (by kernel_rfl) (by kernel_rfl) (fun hx Hx => (YE.of (Y_load1 (t := 2) (p := adr a9 (i3.toNat * 1)) (v := .int .i64 x24) (by kernel_rfl) (fun w => by kernel_rfl) (cd2_cell (Hx.rd 1 rfl) hx21)))) ?_
            refine DR_b 2 [.int .i64 (w64 (x23 - x24))] 19 (by kernel_rfl) (by kernel_rfl) (by kernel_rfl) (fun w => by kernel_rfl) ?_
            refine DR_y 1 (i := 20) (.pointer (some (adr a10 (x20.toNat * 1)))) (by kernel_rfl) (by kernel_rfl) (by kernel_rfl) (fun hx Hx => (YE.of (Y_idx (t := 39) (e := 2) (sz := 1) (a := a10) (n := l3.length) (cap := l3.length) (kk := .i64) (i := x20) (by kernel_rfl) Try.underlying39 (by kernel_rfl) ((H32.rd 2 rfl).cell hx22).1 hx22l (by rw [← (H32.len 2 rfl)]; exact hx22u)))) ?_
            refine DR_tail (i := 21) (by kernel_rfl) (by kernel_rfl) (by kernel_rfl) (fun h16 H34 => ?_)
            have H35 : Hold h h16 [own cd2 a1 x2.1.length c1 x2.1, own cd2 a9 x18.length c8 x18, own cd2 a10 l3.length l3.length s4] := H34
            obtain ⟨l4, hu2, hB3⟩ := M.bind_some hB3
            have hu2 := M.upd_some hu2
            have H37 : Hold h h16 [own cd2 a10 l3.length l3.length s4, own cd2 a1 x2.1.length c1 x2.1, own cd2 a9 x18.length c8 x18] := H35.pick [2, 0, 1] (by kernel_rfl)
            refine Run_E (by kernel_rfl) ?_
            refine E_put (C := cd2) (t := 2) (sz := 1) (j := x20) (x := (w64 (x23 - x24))) (v := .int .i64 (w64 (x23 - x24))) H37 cd2_flat (by kernel_rfl) rfl (cd2_own _) (by kernel_rfl) hu2 (fun h17 H36 => ?_)
            refine Run_nil (by kernel_rfl) ?_
            refine Run_keep [0, 5, 12, 13, 14] (L' := [(0, .slice aa_ a_.length ca_), (5, .slice a1 x2.1.length c1), (12, .slice a9 x18.length c8), (13, .slice a10 l3.length l3.length), (14, .int .i64 i3)]) (by kernel_rfl) ?_
            refine Run_blk ?_
            refine Run_reg 3 (by kernel_rfl) (L' := [(0, .slice aa_ a_.length ca_), (5, .slice a1 x2.1.length c1), (12, .slice a9 x18.length c8), (13, .slice a10 l3.length l3.length), (14, .int .i64 (i3 + 1))]) ?_ ?_
            · refine QRun_b [.int .i64 i3] 0 _ (by kernel_rfl) (fun w => by kernel_rfl) ?_
              refine QRun_y (.int .i64 (i3 + 1)) (by kernel_rfl) (Y_eq (v := .int .i64 (w64 (i3 + 1))) (Y_pure (fun w => by kernel_rfl)) (by rw [w64_eq _ (by omega)])) ?_
              refine QRun_b [.int .i64 (i3 + 1)] 2 _ (by kernel_rfl) (fun w => by kernel_rfl) ?_
              exact QRun_done [0, 5, 12, 13, 14] (by kernel_rfl) (by kernel_rfl)
            have H38 : Hold h h17 [own cd2 a1 x2.1.length c1 x2.1, own cd2 a9 x18.length c8 x18, own cd2 a10 l3.length l3.length l4] := H36.pick [1, 2, 0] (by kernel_rfl)
            have hB3 := M.ret_some hB3
            have gx19 := hgoy3 _ hB3.symm
            exact Run_again [0, 5, 12, 13, 14] (by kernel_rfl) my3 (Nat.lt_succ_self _) ⟨i3 + 1, l4, by omega, gx19, rfl, H38⟩
          · have gx19 := M.for_end gx19 hb6
            subst gx19
            refine Run_exit (k' := _) rfl ?_
            have H39 : Hold h h14 [own cd2 a9 x18.length c8 x18, own cd2 a10 l3.length l3.length s4] := H32.pick [1, 2] (by kernel_rfl)
            exact Run_fall [12, 13] (by kernel_rfl) ⟨rfl, H39⟩
      · refine Run_block ?_
        have H47 : Hold h h2 [own cd2 a1 x2.1.length c1 x2.1, own cd39 a2 x3.length c2 x3] := H10.pick [1, 0] (by kernel_rfl)
        refine Run_keep [0, 5, 7, 8] (L' := [(0, .slice aa_ a_.length ca_), (5, .slice a1 x2.1.length c1), (7, .slice a2 x3.length c2), (8, .int .i64 0)]) (by kernel_rfl) ?_
        refine Run_loop (fun m L' h' => ∃ (i1 : Int) (s1 : (List (List Int))), 0 ≤ i1 ∧ M.forN (a_.length : Int) _ _ n m i1 s1 = some x4 ∧ L' = [(0, .slice aa_ a_.length ca_), (5, .slice a1 x2.1.length c1), (7, .slice a2 x3.length c2), (8, .int .i64 i1)] ∧ Hold h h' [own cd2 a1 x2.1.length c1 x2.1, own cd39 a2 x3.length c2 s1]) ((a_.length : Int) - 0 : Int).toNat ⟨0, x3, Int.le_refl _, gx4, rfl, H47⟩ ?_
        rintro my1 _ h3 ⟨i1, s1, hloy1', gx4, rfl, H11⟩
        refine Run_seq ?_
        refine Run_seq ?_
        refine Run_reg 4 (by kernel_rfl) (L' := [(0, .slice aa_ a_.length ca_), (5, .slice a1 x2.1.length c1), (7, .slice a2 x3.length c2), (8, .int .i64 i1), (33, .bool (decide (i1 < (a_.length : Int))))]) ?_ ?_
        · refine QRun_b [.int .i64 i1, .slice aa_ a_.length ca_, .int .i64 (a_.length : Int), .bool (decide (i1 < (a_.length : Int)))] 0 _ (by kernel_rfl) (fun w => by kernel_rfl) ?_
          exact QRun_done [0, 5, 7, 8, 33] (by kernel_rfl) (by kernel_rfl)
        refine Run_cond (b := decide (i1 < (a_.length : Int))) (by kernel_rfl) (fun hb3 => ?_) (fun hb3 => ?_)
        · obtain ⟨my1, y1, rfl, hB1, hgoy1, houty1⟩ := M.for_go gx4 hb3
          have hlty1 := of_decide_eq_true hb3
          refine Run_skip ?_
          refine Run_seq ?_
          refine Run_block ?_
          refine Run_seq ?_
          refine Run_reg 1 (by kernel_rfl) (L' := [(0, .slice aa_ a_.length ca_), (5, .slice a1 x2.1.length c1), (7, .slice a2 x3.length c2), (8, .int .i64 i1), (9, .int .i64 0)]) ?_ ?_
          · refine QRun_b [.int .i64 0] 0 _ (by kernel_rfl) (fun w => by kernel_rfl) ?_
            exact QRun_done [0, 5, 7, 8, 9] (by kernel_rfl) (by kernel_rfl)
          obtain ⟨x5, gx5, hB1⟩ := M.bind_some hB1
          obtain ⟨hloy2, hhiy2, gx5⟩ := M.for_start gx5
          refine Run_join (fun L' h' => L' = [(0, .slice aa_ a_.length ca_), (5, .slice a1 x2.1.length c1), (7, .slice a2 x3.length c2), (8, .int .i64 i1)] ∧ Hold h h' [own cd2 a1 x2.1.length c1 x2.1, own cd39 a2 x3.length c2 x5]) ?_ ?_
          · rintro _ h6 ⟨rfl, H14⟩
            refine Run_blk ?_
            refine Run_reg 3 (by kernel_rfl) (L' := [(0, .slice aa_ a_.length ca_), (5, .slice a1 x2.1.length c1), (7, .slice a2 x3.length c2), (8, .int .i64 (i1 + 1))]) ?_ ?_
            · refine QRun_b [.int .i64 i1] 0 _ (by kernel_rfl) (fun w => by kernel_rfl) ?_
              refine QRun_y (.int .i64 (i1 + 1)) (by kernel_rfl) (Y_eq (v := .int .i64 (w64 (i1 + 1))) (Y_pure (fun w => by kernel_rfl)) (by rw [w64_eq _ (by omega)])) ?_
              refine QRun_b [.int .i64 (i1 + 1)] 2 _ (by kernel_rfl) (fun w => by kernel_rfl) ?_
              exact QRun_done [0, 5, 7, 8] (by kernel_rfl) (by kernel_rfl)
            have hB1 := M.ret_some hB1
            have gx4 := hgoy1 _ hB1.symm
            exact Run_again [0, 5, 7, 8] (by kernel_rfl) my1 (Nat.lt_succ_self _) ⟨i1 + 1, x5, by omega, gx4, rfl, H14⟩
          · refine Run_block ?_
            refine Run_keep [0, 5, 7, 8, 9] (L' := [(0, .slice aa_ a_.length ca_), (5, .slice a1 x2.1.length c1), (7, .slice a2 x3.length c2), (8, .int .i64 i1), (9, .int .i64 0)]) (by kernel_rfl) ?_
            refine Run_loop (fun m L' h' => ∃ (i2 : Int) (s2 : (List (List Int))), 0 ≤ i2 ∧ M.forN (a_.length : Int) _ _ n m i2 s2 = some x5 ∧ L' = [(0, .slice aa_ a_.length ca_), (5, .slice a1 x2.1.length c1), (7, .slice a2 x3.length c2), (8, .int .i64 i1), (9, .int .i64 i2)] ∧ Hold h h' [own cd2 a1 x2.1.length c1 x2.1, own cd39 a2 x3.length c2 s2]) ((a_.length : Int) - 0 : Int).toNat ⟨0, s1, Int.le_refl _, gx5, rfl, H11⟩ ?_
            rintro my2 _ h5 ⟨i2, s2, hloy2', gx5, rfl, H13⟩
            refine Run_seq ?_
            refine Run_seq ?_
            refine Run_reg 4 (by kernel_rfl) (L' := [(0, .slice aa_ a_.length ca_), (5, .slice a1 x2.1.length c1), (7, .slice a2 x3.length c2), (8, .int .i64 i1), (9, .int .i64 i2), (39, .bool (decide (i2 < (a_.length : Int))))]) ?_ ?_
            · refine QRun_b [.int .i64 i2, .slice aa_ a_.length ca_, .int .i64 (a_.length : Int), .bool (decide (i2 < (a_.length : Int)))] 0 _ (by kernel_rfl) (fun w => by kernel_rfl) ?_
              exact QRun_done [0, 5, 7, 8, 9, 39] (by kernel_rfl) (by kernel_rfl)
            refine Run_cond (b := decide (i2 < (a_.length : Int))) (by kernel_rfl) (fun hb4 => ?_) (fun hb4 => ?_)
            · obtain ⟨my2, y2, rfl, hB2, hgoy2, houty2⟩ := M.for_go gx5 hb4
              have hlty2 := of_decide_eq_true hb4
              refine Run_skip ?_
              refine Run_seq ?_
              refine Run_block ?_
              refine Run_seq ?_
              obtain ⟨x6, hx4, hB2⟩ := M.bind_some hB2
              obtain ⟨hx4l, hx4u, hx4⟩ := M.idx_some hx4
              obtain ⟨a3, c3, hc1, r1⟩ := ra_.row hx4
              obtain ⟨x7, hx5, hB2⟩ := M.bind_some hB2
              obtain ⟨hx5l, hx5u, hx5⟩ := M.idx_some hx5
              obtain ⟨x8, hx6, hB2⟩ := M.bind_some hB2
              obtain ⟨hx6l, hx6u, hx6⟩ := M.idx_some hx6
              refine Run_draw 11 mixed (by kernel_rfl) (by kernel_rfl) (L' := [(0, .slice aa_ a_.length ca_), (5, .slice a1 x2.1.length c1), (7, .slice a2 x3.length c2), (8, .int .i64 i1), (9, .int .i64 i2), (52, .bool (x8 != (-1000000000000000)))]) ?_ ?_
              · refine QRun_b [.slice aa_ a_.length ca_, .int .i64 i1] 0 _ (by kernel_rfl) (fun w => by kernel_rfl) ?_
                refine QRun_y (.pointer (some (adr aa_ (i1.toNat * 1)))) (by kernel_rfl) (Y_idx (t := 37) (e := 39) (sz := 1) (a := aa_) (n := a_.length) (cap := ca_) (kk := .i64) (i := i1) (by kernel_rfl) Try.underlying37 (by kernel_rfl) ((ra_.at H13.ext).cell hx4).1 hx4l hx4u) ?_
                refine QRun_y (.slice a3 x6.length c3) (by kernel_rfl) (Y_load1 (t := 39) (p := adr aa_ (i1.toNat * 1)) (v := .slice a3 x6.length c3) (by kernel_rfl) (fun w => by kernel_rfl) (cell_at H13.ext hc1)) ?_
                refine QRun_b [.slice a1 x2.1.length c1, .int .i64 i2] 4 _ (by kernel_rfl) (fun w => by kernel_rfl) ?_
                refine QRun_y (.pointer (some (adr a1 (i2.toNat * 1)))) (by kernel_rfl) (Y_idx (t := 39) (e := 2) (sz := 1) (a := a1) (n := x2.1.length) (cap := c1) (kk := .i64) (i := i2) (by kernel_rfl) Try.underlying39 (by kernel_rfl) ((H13.rd 0 rfl).cell hx5).1 hx5l hx5u) ?_
                refine QRun_y (.int .i64 x7) (by kernel_rfl) (Y_load1 (t := 2) (p := adr a1 (i2.toNat * 1)) (v := .int .i64 x7) (by kernel_rfl) (fun w => by kernel_rfl) (cd2_cell (H13.rd 0 rfl) hx5)) ?_
                refine QRun_y (.pointer (some (adr a3 (x7.toNat * 1)))) (by kernel_rfl) (Y_idx (t := 39) (e := 2) (sz := 1) (a := a3) (n := x6.length) (cap := c3) (kk := .i64) (i := x7) (by kernel_rfl) Try.underlying39 (by kernel_rfl) ((r1.at H13.ext).cell hx6).1 hx6l hx6u) ?_
                refine QRun_y (.int .i64 x8) (by kernel_rfl) (Y_load1 (t := 2) (p := adr a3 (x7.toNat * 1)) (v := .int .i64 x8) (by kernel_rfl) (fun w => by kernel_rfl) (cd2_cell (r1.at H13.ext) hx6)) ?_
                refine QRun_b [.bool (x8 != (-1000000000000000))] 10 _ (by kernel_rfl) (fun w => by kernel_rfl) ?_
                exact QRun_done [0, 5, 7, 8, 9, 52] (by kernel_rfl) (by kernel_rfl)
              obtain ⟨s3, gs3, hB2⟩ := M.bind_some hB2
              refine Run_join (fun L' h' => L' = [(0, .slice aa_ a_.length ca_), (5, .slice a1 x2.1.length c1), (7, .slice a2 x3.length c2), (8, .int .i64 i1), (9, .int .i64 i2)] ∧ Hold h h' [own cd2 a1 x2.1.length c1 x2.1, own cd39 a2 x3.length c2 s3]) ?_ ?_
              · rintro _ h9 ⟨rfl, H23⟩
                refine Run_blk ?_
                refine Run_reg 3 (by kernel_rfl) (L' := [(0, .slice aa_ a_.length ca_), (5, .slice a1 x2.1.length c1), (7, .slice a2 x3.length c2), (8, .int .i64 i1), (9, .int .i64 (i2 + 1))]) ?_ ?_
                · refine QRun_b [.int .i64 i2] 0 _ (by kernel_rfl) (fun w => by kernel_rfl) ?_
                  refine QRun_y (.int .i64 (i2 + 1)) (by kernel_rfl) (Y_eq (v := .int .i64 (w64 (i2 + 1))) (Y_pure (fun w => by kernel_rfl)) (by rw [w64_eq _ (by omega)])) ?_
                  refine QRun_b [.int .i64 (i2 + 1)] 2 _ (by kernel_rfl) (fun w => by kernel_rfl) ?_
                  exact QRun_done [0, 5, 7, 8, 9] (by kernel_rfl) (by kernel_rfl)
                have hB2 := M.ret_some hB2
                have gx5 := hgoy2 _ hB2.symm
                exact Run_again [0, 5, 7, 8, 9] (by kernel_rfl) my2 (Nat.lt_succ_self _) ⟨i2 + 1, s3, by omega, gx5, rfl, H23⟩
              · refine Run_cond (b := x8 != (-1000000000000000)) (by kernel_rfl) (fun hb5 => ?_) (fun hb5 => ?_)
                · have gs3 := (M.ite_some gs3).1 hb5
                  obtain ⟨x9, hx7, gs3⟩ := M.bind_some gs3
                  obtain ⟨hx7l, hx7u, hx7⟩ := M.idx_some hx7
                  have H15 : Hold h h5 [own cd39 a2 x3.length c2 s2, own cd2 a1 x2.1.length c1 x2.1] := H13.pick [1, 0] (by kernel_rfl)
                  have H16 := H15.toRows
                  obtain ⟨a4, c4, H17⟩ := H16.pinRow hx7
                  have H18 : Hold h h5 [own cd2 a1 x2.1.length c1 x2.1, rowsP cd2 39 a2 x3.length c2 s2 [(i1.toNat, a4, x9.length, c4, x9)]] := H17.pick [1, 0] (by kernel_rfl)
                  obtain ⟨x10, hx8, gs3⟩ := M.bind_some gs3
                  obtain ⟨hx8l, hx8u, hx8⟩ := M.idx_some hx8
                  obtain ⟨a5, c5, hc2, r2⟩ := ra_.row hx8
                  obtain ⟨x11, hx9, gs3⟩ := M.bind_some gs3
                  obtain ⟨hx9l, hx9u, hx9⟩ := M.idx_some hx9
                  obtain ⟨x12, hx10, gs3⟩ := M.bind_some gs3
                  obtain ⟨hx10l, hx10u, hx10⟩ := M.idx_some hx10
                  obtain ⟨x13, hx11, gs3⟩ := M.bind_some gs3
                  obtain ⟨hx11l, hx11u, hx11⟩ := M.idx_some hx11
                  obtain ⟨a6, c6, hc3, r3⟩ := ra_.row hx11
                  obtain ⟨x14, hx12, gs3⟩ := M.bind_some gs3
                  obtain ⟨hx12l, hx12u, hx12⟩ := M.idx_some hx12
                  obtain ⟨x15, hx13, gs3⟩ := M.bind_some gs3
                  obtain ⟨hx13l, hx13u, hx13⟩ := M.idx_some hx13
                  obtain ⟨x16, hx14, gs3⟩ := M.bind_some gs3
                  obtain ⟨hx14l, hx14u, hx14⟩ := M.idx_some hx14
                  refine Run_D (fun x => Hold h x [own cd2 a1 x2.1.length c1 x2.1, rowsP cd2 39 a2 x3.length c2 s2 [(i1.toNat, a4, x9.length, c4, x9)]]) (fun x => Hold h x [own cd2 a1 x2.1.length c1 x2.1, rowsP cd2 39 a2 x3.length c2 s2 [(i1.toNat, a4, x9.length, c4, x9)]]) mixed (by kernel_rfl) H18 Hold.stable (fun x Hy => (show Hold h x [own cd2 a1 x2.1.length c1 x2.1, rowsP cd2 39 a2 x3.length c2 s2 [(i1.toNat, a4, x9.length, c4, x9)]] from Hy).pick [0, 1] (by kernel_rfl)) ?_
                  refine DR_b 26 [.slice a2 x3.length c2, .int .i64 i1] 0 (by kernel_rfl) (by kernel_rfl) (by kernel_rfl) (fun w => by kernel_rfl) ?_
                  refine DR_y 25 (i := 2) (.pointer (some (adr a2 (i1.toNat * 1)))) (by kernel_rfl) (by kernel_rfl) (by kernel_rfl) (fun hx Hx => (YE.of (Y_idx (t := 37) (e := 39) (sz := 1) (a := a2) (n := x3.length) (cap := c2) (kk := .i64) (i := i1) (by kernel_rfl) Try.underlying37 (by kernel_rfl) ((H13.rd 1 rfl).cell hx7).1 hx7l (by rw [← (H13.len 1 rfl)]; exact hx7u)))) ?_
                  refine DR_y 24 (i := 3) (.slice a4 x9.length c4) (by kernel_rfl) (by kernel_rfl) (by kernel_rfl) (fun hx Hx => (YE.of (Y_load1 (t := 39) (p := adr a2 (i1.toNat * 1)) (v := .slice a4 x9.length c4) (by kernel_rfl) (fun w => by kernel_rfl) (Hx.cellPin 1 rfl 0 rfl)))) ?_
                  refine DR_b 21 [.int .i64 i2, .slice aa_ a_.length ca_, .int .i64 i1] 4 (by kernel_rfl) (by kernel_rfl) (by kernel_rfl) (fun w => by kernel_rfl) ?_
                  refine DR_y 20 (i := 7) (.pointer (some (adr aa_ (i1.toNat * 1)))) (by kernel_rfl) (by kernel_rfl) (by kernel_rfl) (fun hx Hx => (YE.of (Y_idx (t := 37) (e := 39) (sz := 1) (a := aa_) (n := a_.length) (cap := ca_) (kk := .i64) (i := i1) (by kernel_rfl) Try.underlying37 (by kernel_rfl) ((ra_.at H18.ext).cell hx8).1 hx8l hx8u))) ?_
                  refine DR_y 19 (i := 8) (.slice a5 x10.length c5) (by kernel_rfl) (by kernel_rfl) (by kernel_rfl) (fun hx Hx => (YE.of (Y_load1 (t := 39) (p := adr aa_ (i1.toNat * 1)) (v := .slice a5 x10.length c5) (by kernel_rfl) (fun w => by kernel_rfl) (cell_at Hx.ext hc2)))) ?_
                  refine DR_b 17 [.slice a1 x2.1.length c1, .int .i64 i2] 9 (by kernel_rfl) (by kernel_rfl) (by kernel_rfl) (fun w => by kernel_rfl) ?_
                  refine DR_y 16 (i := 11) (.pointer (some (adr a1 (i2.toNat * 1)))) (by kernel_rfl) (by kernel_rfl) (by kernel_rfl) (fun hx Hx => (YE.of (Y_idx (t := 39) (e := 2) (sz := 1) (a := a1) (n := x2.1.length) (cap := c1) (kk := .i64) (i := i2) (by kernel_rfl) Try.underlying39 (by kernel_rfl) ((H18.rd 0 rfl).cell hx9).1 hx9l hx9u))) ?_
                  refine DR_y 15 (i := 12) (.int .i64 x11) (by kernel_rfl) (by kernel_rfl) (by kernel_rfl) (fun hx Hx => (YE.of (Y_load1 (t := 2) (p := adr a1 (i2.toNat * 1)) (v := .int .i64 x11) (by kernel_rfl) (fun w => by kernel_rfl) (cd2_cell (Hx.rd 0 rfl) hx9)))) ?_
                  refine DR_y 14 (i := 13) (.pointer (some (adr a5 (x11.toNat * 1)))) (by kernel_rfl) (by kernel_rfl) (by kernel_rfl) (fun hx Hx => (YE.of (Y_idx (t := 39) (e := 2) (sz := 1) (a := a5) (n := x10.length) (cap := c5) (kk := .i64) (i := x11) (by kernel_rfl) Try.underlying39 (by kernel_rfl) ((r2.at H18.ext).cell hx10).1 hx10l hx10u))) ?_
                  refine DR_y 13 (i := 14) (.int .i64 x12) (by kernel_rfl) (by kernel_rfl) (by kernel_rfl) (fun hx Hx => (YE.of (Y_load1 (t := 2) (p := adr a5 (x11.toNat * 1)) (v := .int .i64 x12) (by kernel_rfl) (fun w => by kernel_rfl) (cd2_cell (r2.at Hx.ext) hx10)))) ?_
                  refine DR_b 11 [.slice aa_ a_.length ca_, .int .i64 i2] 15 (by kernel_rfl) (by kernel_rfl) (by kernel_rfl) (fun w => by kernel_rfl) ?_
                  refine DR_y 10 (i := 17) (.pointer (some (adr aa_ (i2.toNat * 1)))) (by kernel_rfl) (by kernel_rfl) (by kernel_rfl) (fun hx Hx => (YE.of (Y_idx (t := 37) (e := 39) (sz := 1) (a := aa_) (n := a_.length) (cap := ca_) (kk := .i64) (i := i2) (by kernel_rfl) Try.underlying37 (by kernel_rfl) ((ra_.at H18.ext).cell hx11).1 hx11l hx11u))) ?_
                  refine DR_y 9 (i := 18) (.slice a6 x13.length c6) (by kernel_rfl) (by kernel_rfl) (by kernel_rfl) (fun hx Hx => (YE.of (Y_load1 (t := 39) (p := adr aa_ (i2.toNat * 1)) (v := .slice a6 x13.length c6) (by kernel_rfl) (fun w => by kernel_rfl) (cell_at Hx.ext hc3)))) ?_
                  refine DR_b 7 [.slice a1 x2.1.length c1, .int .i64 i2] 19 (by kernel_rfl) (by kernel_rfl) (by kernel_rfl) (fun w => by kernel_rfl) ?_
                  refine DR_y 6 (i := 21) (.pointer (some (adr a1 (i2.toNat * 1)))) (by kernel_rfl) (by kernel_rfl) (by kernel_rfl) (fun hx Hx => (YE.of (Y_idx (t := 39) (e := 2) (sz := 1) (a := a1) (n := x2.1.length) (cap := c1) (kk := .i64) (i := i2) (by kernel_rfl) Try.underlying39 (by kernel_rfl) ((H18.rd 0 rfl).cell hx12).1 hx12l hx12u))) ?_
                  refine DR_y 5 (i := 22) (.int .i64 x14) (by kernel_rfl) (by kernel_rfl) (by kernel_rfl) (fun hx Hx => (YE.of (Y_load1 (t := 2) (p := adr a1 (i2.toNat * 1)) (v := .int .i64 x14) (by kernel_rfl) (fun w => by kernel_rfl) (cd2_cell (Hx.rd 0 rfl) hx12)))) ?_
                  refine DR_y 4 (i := 23) (.pointer (some (adr a6 (x14.toNat * 1)))) (by kernel_rfl) (by kernel_rfl) (by kernel_rfl) (fun hx Hx => (YE.of (Y_idx (t := 39) (e := 2) (sz := 1) (a := a6) (n := x13.length) (cap := c6) (kk := .i64) (i := x14) (by kernel_rfl) Try.underlying39 (by kernel_rfl) ((r3.at H18.ext).cell hx13).1 hx13l hx13u))) ?_
                  refine DR_y 3 (i := 24) (.int .i64 x15) (by kernel_rfl) (by kernel_rfl) (by kernel_rfl) (fun hx Hx => (YE.of (Y_load1 (t := 2) (p := adr a6 (x14.toNat * 1)) (v := .int .i64 x15) (by kernel_rfl) (fun w => by kernel_rfl) (cd2_cell (r3.at Hx.ext) hx13)))) ?_
                  refine DR_b 2 [.int .i64 (w64 (x12 - x15))] 25 (by kernel_rfl) (by kernel_rfl) (by kernel_rfl) (fun w => by kernel_rfl) ?_
                  refine DR_y 1 (i := 26) (.pointer (some (adr a4 (i2.toNat * 1)))) (by kernel_rfl) (by kernel_rfl) (by kernel_rfl) (fun hx Hx => (YE.of (Y_idx (t := 39) (e := 2) (sz := 1) (a := a4) (n := x9.length) (cap := c4) (kk := .i64) (i := i2) (by kernel_rfl) Try.underlying39 (by kernel_rfl) ((H18.rdPin 1 rfl 0 rfl).cell hx14).1 hx14l hx14u))) ?_
                  refine DR_tail (i := 27) (by kernel_rfl) (by kernel_rfl) (by kernel_rfl) (fun h7 H19 => ?_)
                  have H20 : Hold h h7 [own cd2 a1 x2.1.length c1 x2.1, rowsP cd2 39 a2 x3.length c2 s2 [(i1.toNat, a4, x9.length, c4, x9)]] := H19
                  obtain ⟨l1, hu1, gs3⟩ := M.bind_some gs3
                  have hu1 := M.upd_some hu1
                  have H22 : Hold h h7 [rowsP cd2 39 a2 x3.length c2 s2 [(i1.toNat, a4, x9.length, c4, x9)], own cd2 a1 x2.1.length c1 x2.1] := H20.pick [1, 0] (by kernel_rfl)
                  refine Run_E (by kernel_rfl) ?_
                  refine E_put2 (C := cd2) (t := 2) (sz := 1) (j := i2) (x := (w64 (x12 - x15))) (v := .int .i64 (w64 (x12 - x15))) (m2 := s2.set i1.toNat l1) H22 cd2_flat 0 rfl (by kernel_rfl) rfl (cd2_own _) (by kernel_rfl) hu1 rfl (fun h8 H21 => ?_)
                  refine Run_nil (by kernel_rfl) ?_
                  refine Run_keep [0, 5, 7, 8, 9] (L' := [(0, .slice aa_ a_.length ca_), (5, .slice a1 x2.1.length c1), (7, .slice a2 x3.length c2), (8, .int .i64 i1), (9, .int .i64 i2)]) (by kernel_rfl) ?_
                  have H24 := H21.ofRows
                  have H25 : Hold h h8 [own cd2 a1 x2.1.length c1 x2.1, own cd39 a2 x3.length c2 (s2.set i1.toNat l1)] := H24.pick [1, 0] (by kernel_rfl)
                  have gs3 := M.ret_some gs3
                  subst gs3
                  exact Run_fall [0, 5, 7, 8, 9] (by kernel_rfl) ⟨rfl, H25⟩
                · have gs3 := (M.ite_some gs3).2 hb5
                  refine Run_skip ?_
                  have gs3 := M.ret_some gs3
                  subst gs3
                  exact Run_fall [0, 5, 7, 8, 9] (by kernel_rfl) ⟨rfl, H13⟩
            · have gx5 := M.for_end gx5 hb4
              subst gx5
              refine Run_exit (k' := _) rfl ?_
              exact Run_fall [0, 5, 7, 8] (by kernel_rfl) ⟨rfl, H13⟩
        · have gx4 := M.for_end gx4 hb3
          subst gx4
          refine Run_exit (k' := _) rfl ?_
          exact Run_fall [0, 5, 7] (by kernel_rfl) ⟨rfl, H11⟩

set_option maxRecDepth 100000 in
set_option maxHeartbeats 4000000 in
theorem w_impl_within (h : Heap) (n_ : Int) (low : Int) (high : Int) (n : Nat) (r : Bool) (hF : impl_within n_ low high n = some r) :
    Fn Try.prog 108 #[.int .i64 n_, .int .i64 low, .int .i64 high] h fun v h' => v = .bool r ∧ h' = h := by
  unfold impl_within at hF
  refine Fn_enter (args := [.int .i64 n_, .int .i64 low, .int .i64 high]) Try.func108 rfl (by kernel_rfl) (by kernel_rfl) (fun w0 _ => ?_)
  refine Run_seq ?_
  refine Run_reg 1 (by kernel_rfl) (L' := [(0, .int .i64 n_), (1, .int .i64 low), (2, .int .i64 high)]) ?_ ?_
  · refine QRun_b [.bool false] 0 _ (by kernel_rfl) (fun w => by kernel_rfl) ?_
    exact QRun_done [0, 1, 2] (by kernel_rfl) (by kernel_rfl)
  refine Run_seq ?_
  refine Run_reg 9 (by kernel_rfl) (L' := [(6, .bool ((decide (low ≤ n_)) && (decide (n_ ≤ high))))]) ?_ ?_
  · refine QRun_b [.int .i64 n_, .int .i64 low, .bool (decide (low ≤ n_))] 0 _ (by kernel_rfl) (fun w => by kernel_rfl) ?_
    refine QRun_seq 8 [(14, .bool ((decide (low ≤ n_)) && (decide (n_ ≤ high))))] ?_ ?_
    · rcases Bool.eq_false_or_eq_true (decide (low ≤ n_)) with hb1 | hb1
      · refine QRun_bool (decide (low ≤ n_)) true (by kernel_rfl) (fun w => by kernel_rfl) hb1 ?_
        refine QRun_b [.int .i64 n_, .int .i64 high, .bool (decide (n_ ≤ high))] 4 _ (by kernel_rfl) (fun w => by kernel_rfl) ?_
        refine QRun_bool (decide (n_ ≤ high)) ((decide (low ≤ n_)) && (decide (n_ ≤ high))) (by kernel_rfl) (fun w => by kernel_rfl) (by rw [hb1]; rfl) ?_
        exact QRun_done [14] (by kernel_rfl) (by kernel_rfl)
      · refine QRun_bool (decide (low ≤ n_)) false (by kernel_rfl) (fun w => by kernel_rfl) hb1 ?_
        refine QRun_n (by kernel_rfl) ?_
        refine QRun_n (by kernel_rfl) ?_
        refine QRun_n (by kernel_rfl) ?_
        refine QRun_bool false ((decide (low ≤ n_)) && (decide (n_ ≤ high))) (by kernel_rfl) (fun w => by kernel_rfl) (by rw [hb1]; rfl) ?_
        exact QRun_done [14] (by kernel_rfl) (by kernel_rfl)
    refine QRun_b [.bool ((decide (low ≤ n_)) && (decide (n_ ≤ high)))] 8 _ (by kernel_rfl) (fun w => by kernel_rfl) ?_
    exact QRun_done [6] (by kernel_rfl) (by kernel_rfl)
  have hF := M.ret_some hF
  subst hF
  exact Run_ret1 rfl (ResV_tmp (v := .bool ((decide (low ≤ n_)) && (decide (n_ ≤ high)))) (by kernel_rfl)) ⟨rfl, rfl⟩

set_option maxRecDepth 100000 in
set_option maxHeartbeats 4000000 in
theorem w_impl_isFinite (h : Heap) (n_ : Int) (n : Nat) (r : Bool) (hF : impl_isFinite n_ n = some r) :
    Fn Try.prog 167 #[.int .i64 n_] h fun v h' => v = .bool r ∧ h' = h := by
  unfold impl_isFinite at hF
  refine Fn_enter (args := [.int .i64 n_]) Try.func167 rfl (by kernel_rfl) (by kernel_rfl) (fun w0 _ => ?_)
  refine Run_seq ?_
  refine Run_reg 1 (by kernel_rfl) (L' := [(0, .int .i64 n_)]) ?_ ?_
  · refine QRun_b [.bool false] 0 _ (by kernel_rfl) (fun w => by kernel_rfl) ?_
    exact QRun_done [0] (by kernel_rfl) (by kernel_rfl)
  refine Run_seq ?_
  obtain ⟨x1, hx1, hF⟩ := M.bind_some hF
  refine Run_reg 3 (by kernel_rfl) (L' := [(2, .bool x1)]) ?_ ?_
  · refine QRun_b [.int .i64 n_] 0 _ (by kernel_rfl) (fun w => by kernel_rfl) ?_
    refine QRun_y (.bool x1) (by kernel_rfl) (Y_callq (f := 108) (args := #[.int .i64 n_, .int .i64 (-1000000), .int .i64 1000000]) (v := .bool x1) (by kernel_rfl) (w_impl_within h n_ (-1000000) 1000000 _ _ hx1)) ?_
    refine QRun_b [.bool x1] 2 _ (by kernel_rfl) (fun w => by kernel_rfl) ?_
    exact QRun_done [2] (by kernel_rfl) (by kernel_rfl)
  have hF := M.ret_some hF
  subst hF
  exact Run_ret1 rfl (ResV_tmp (v := .bool x1) (by kernel_rfl)) ⟨rfl, rfl⟩

set_option maxRecDepth 100000 in
set_option maxHeartbeats 4000000 in
theorem w_impl_IsValue (h : Heap) (a_ : Int) (n : Nat) (r : Bool) (hF : impl_IsValue a_ n = some r) :
    Fn Try.prog 159 #[.int .i64 a_] h fun v h' => v = .bool r ∧ h' = h := by
  unfold impl_IsValue at hF
  refine Fn_enter (args := [.int .i64 a_]) Try.func159 rfl (by kernel_rfl) (by kernel_rfl) (fun w0 _ => ?_)
  refine Run_seq ?_
  refine Run_reg 1 (by kernel_rfl) (L' := [(0, .int .i64 a_)]) ?_ ?_
  · refine QRun_b [.bool false] 0 _ (by kernel_rfl) (fun w => by kernel_rfl) ?_
    exact QRun_done [0] (by kernel_rfl) (by kernel_rfl)
  refine Run_seq ?_
  obtain ⟨x1, gx1, hF⟩ := M.bind_some hF
  refine Run_reg 7 (by kernel_rfl) (L' := [(2, .bool x1)]) ?_ ?_
  · refine QRun_b [.int .i64 a_, .bool (a_ == (-1000000000000000))] 0 _ (by kernel_rfl) (fun w => by kernel_rfl) ?_
    refine QRun_seq 6 [(8, .bool x1)] ?_ ?_
    · rcases Bool.eq_false_or_eq_true (a_ == (-1000000000000000)) with hb1 | hb1
      · refine QRun_bool (a_ == (-1000000000000000)) true (by kernel_rfl) (fun w => by kernel_rfl) hb1 ?_
        have gx1 := M.ret_some ((M.ite_some gx1).1 hb1)
        refine QRun_n (by kernel_rfl) ?_
        refine QRun_n (by kernel_rfl) ?_
        refine QRun_bool true x1 (by kernel_rfl) (fun w => by kernel_rfl) gx1 ?_
        exact QRun_done [8] (by kernel_rfl) (by kernel_rfl)
      · refine QRun_bool (a_ == (-1000000000000000)) false (by kernel_rfl) (fun w => by kernel_rfl) hb1 ?_
        have gx1 := (M.ite_some gx1).2 hb1
        obtain ⟨x2, hx1, gx1⟩ := M.bind_some gx1
        have gx1 := M.ret_some gx1
        refine QRun_b [.int .i64 a_] 3 _ (by kernel_rfl) (fun w => by kernel_rfl) ?_
        refine QRun_y (.bool x2) (by kernel_rfl) (Y_callq (f := 167) (args := #[.int .i64 a_]) (v := .bool x2) (by kernel_rfl) (w_impl_isFinite h a_ _ _ hx1)) ?_
        refine QRun_bool x2 x1 (by kernel_rfl) (fun w => by kernel_rfl) gx1 ?_
        exact QRun_done [8] (by kernel_rfl) (by kernel_rfl)
    refine QRun_b [.bool x1] 6 _ (by kernel_rfl) (fun w => by kernel_rfl) ?_
    exact QRun_done [2] (by kernel_rfl) (by kernel_rfl)
  have hF := M.ret_some hF
  subst hF
  exact Run_ret1 rfl (ResV_tmp (v := .bool x1) (by kernel_rfl)) ⟨rfl, rfl⟩

set_option maxRecDepth 100000 in
set_option maxHeartbeats 4000000 in
theorem w_impl_areValues_1 (h : Heap) (n_ : Int) (n : Nat) (r : Bool) (hF : impl_areValues_1 n_ n = some r) :
    Fn Try.prog 158 #[.int .i64 n_] h fun v h' => v = .bool r ∧ h' = h := by
  unfold impl_areValues_1 at hF
  refine Fn_enter (args := [.int .i64 n_]) Try.func158 rfl (by kernel_rfl) (by kernel_rfl) (fun w0 _ => ?_)
  refine Run_seq ?_
  refine Run_reg 1 (by kernel_rfl) (L' := [(0, .int .i64 n_)]) ?_ ?_
  · refine QRun_b [.bool false] 0 _ (by kernel_rfl) (fun w => by kernel_rfl) ?_
    exact QRun_done [0] (by kernel_rfl) (by kernel_rfl)
  refine Run_seq ?_
  obtain ⟨x1, hx1, hF⟩ := M.bind_some hF
  refine Run_reg 4 (by kernel_rfl) (L' := [(2, .bool (!x1))]) ?_ ?_
  · refine QRun_b [.int .i64 n_] 0 _ (by kernel_rfl) (fun w => by kernel_rfl) ?_
    refine QRun_y (.bool x1) (by kernel_rfl) (Y_callq (f := 159) (args := #[.int .i64 n_]) (v := .bool x1) (by kernel_rfl) (w_impl_IsValue h n_ _ _ hx1)) ?_
    refine QRun_b [.bool (!x1), .bool (!x1)] 2 _ (by kernel_rfl) (fun w => by kernel_rfl) ?_
    exact QRun_done [2] (by kernel_rfl) (by kernel_rfl)
  have hF := M.ret_some hF
  subst hF
  exact Run_ret1 rfl (ResV_tmp (v := .bool (!x1)) (by kernel_rfl)) ⟨rfl, rfl⟩

set_option maxRecDepth 100000 in
set_option maxHeartbeats 4000000 in
theorem w_slices_IndexFunc_int_F_impl_areValues_1 (h : Heap) (s_ : List Int) {Ss_ : Bs} (as_ : Option Addr) (cs_ : Nat) (rs_ : Rd cd2 h Ss_ as_ cs_ s_) (n : Nat) (r : Int) (hF : slices_IndexFunc_int_F_impl_areValues_1 s_ n = some r) :
    Fn Try.prog 182 #[.slice as_ s_.length cs_, .func (.func 158) #[] #[]] h fun v h' => v = .int .i64 r ∧ h' = h := by
  unfold slices_IndexFunc_int_F_impl_areValues_1 at hF
  refine Fn_enter (args := [.slice as_ s_.length cs_, .func (.func 158) #[] #[]]) Try.func182 rfl (by kernel_rfl) (by kernel_rfl) (fun w0 _ => ?_)
  refine Run_seq ?_
  refine Run_reg 1 (by kernel_rfl) (L' := [(0, .slice as_ s_.length cs_), (1, .func (.func 158) #[] #[])]) ?_ ?_
  · refine QRun_b [.int .i64 0] 0 _ (by kernel_rfl) (fun w => by kernel_rfl) ?_
    exact QRun_done [0, 1] (by kernel_rfl) (by kernel_rfl)
  refine Run_seq ?_
  refine Run_seq ?_
  refine Run_reg 3 (by kernel_rfl) (L' := [(0, .slice as_ s_.length cs_), (1, .func (.func 158) #[] #[]), (7, .int .i64 (s_.length : Int)), (8, .int .i64 0)]) ?_ ?_
  · refine QRun_b [.slice as_ s_.length cs_, .int .i64 (s_.length : Int), .int .i64 0] 0 _ (by kernel_rfl) (fun w => by kernel_rfl) ?_
    exact QRun_done [0, 1, 7, 8] (by kernel_rfl) (by kernel_rfl)
  obtain ⟨x1, gx1, hF⟩ := M.bind_some hF
  obtain ⟨hloy1, hhiy1, gx1⟩ := M.for_start gx1
  refine Run_join (fun L' h' => ∃ (s2 : Unit), x1 = .inl s2 ∧ L' = [] ∧ h = h') ?_ ?_
  · rintro _ _ ⟨s2, es2, rfl, rfl⟩
    have hF := M.cont_inl' hF es2
    refine Run_seq ?_
    refine Run_reg 1 (by kernel_rfl) (L' := [(4, .int .i64 (-1))]) ?_ ?_
    · refine QRun_b [.int .i64 (-1)] 0 _ (by kernel_rfl) (fun w => by kernel_rfl) ?_
      exact QRun_done [4] (by kernel_rfl) (by kernel_rfl)
    have hF := M.ret_some hF
    subst hF
    exact Run_ret1 rfl (ResV_tmp (v := .int .i64 (-1)) (by kernel_rfl)) ⟨rfl, rfl⟩
  · refine Run_block ?_
    refine Run_keep [0, 1, 7, 8] (L' := [(0, .slice as_ s_.length cs_), (1, .func (.func 158) #[] #[]), (7, .int .i64 (s_.length : Int)), (8, .int .i64 0)]) (by kernel_rfl) ?_
    refine Run_loop (fun m L' h' => ∃ (i1 : Int) (s1 : Unit), 0 ≤ i1 ∧ M.forN (s_.length : Int) _ _ n m i1 s1 = some x1 ∧ L' = [(0, .slice as_ s_.length cs_), (1, .func (.func 158) #[] #[]), (7, .int .i64 (s_.length : Int)), (8, .int .i64 i1)] ∧ h = h') ((s_.length : Int) - 0 : Int).toNat ⟨0, (), Int.le_refl _, gx1, rfl, rfl⟩ ?_
    rintro my1 _ _ ⟨i1, s1, hloy1', gx1, rfl, rfl⟩
    refine Run_seq ?_
    refine Run_reg 1 (by kernel_rfl) (L' := [(0, .slice as_ s_.length cs_), (1, .func (.func 158) #[] #[]), (7, .int .i64 (s_.length : Int)), (8, .int .i64 i1), (9, .bool (decide (i1 < (s_.length : Int))))]) ?_ ?_
    · refine QRun_b [.bool (decide (i1 < (s_.length : Int)))] 0 _ (by kernel_rfl) (fun w => by kernel_rfl) ?_
      exact QRun_done [0, 1, 7, 8, 9] (by kernel_rfl) (by kernel_rfl)
    refine Run_seq ?_
    refine Run_cond (b := decide (i1 < (s_.length : Int))) (by kernel_rfl) (fun hb1 => ?_) (fun hb1 => ?_)
    · obtain ⟨my1, y1, rfl, hB1, hgoy1, houty1⟩ := M.for_go gx1 hb1
      have hlty1 := of_decide_eq_true hb1
      refine Run_skip ?_
      refine Run_seq ?_
      refine Run_block ?_
      refine Run_seq ?_
      refine Run_reg 2 (by kernel_rfl) (L' := [(0, .slice as_ s_.length cs_), (1, .func (.func 158) #[] #[]), (5, .int .i64 i1), (7, .int .i64 (s_.length : Int)), (8, .int .i64 i1)]) ?_ ?_
      · refine QRun_b [.int .i64 i1, .int .i64 i1] 0 _ (by kernel_rfl) (fun w => by kernel_rfl) ?_
        exact QRun_done [0, 1, 5, 7, 8] (by kernel_rfl) (by kernel_rfl)
      refine Run_seq ?_
      obtain ⟨x2, hx1, hB1⟩ := M.bind_some hB1
      obtain ⟨hx1l, hx1u, hx1⟩ := M.idx_some hx1
      obtain ⟨x3, hx2, hB1⟩ := M.bind_some hB1
      refine Run_reg 6 (by kernel_rfl) (L' := [(0, .slice as_ s_.length cs_), (1, .func (.func 158) #[] #[]), (5, .int .i64 i1), (7, .int .i64 (s_.length : Int)), (8, .int .i64 i1), (16, .bool x3)]) ?_ ?_
      · refine QRun_b [.func (.func 158) #[] #[], .slice as_ s_.length cs_, .int .i64 i1] 0 _ (by kernel_rfl) (fun w => by kernel_rfl) ?_
        refine QRun_y (.pointer (some (adr as_ (i1.toNat * 1)))) (by kernel_rfl) (Y_idx (t := 39) (e := 2) (sz := 1) (a := as_) (n := s_.length) (cap := cs_) (kk := .i64) (i := i1) (by kernel_rfl) Try.underlying39 (by kernel_rfl) (rs_.cell hx1).1 hx1l hx1u) ?_
        refine QRun_y (.int .i64 x2) (by kernel_rfl) (Y_load1 (t := 2) (p := adr as_ (i1.toNat * 1)) (v := .int .i64 x2) (by kernel_rfl) (fun w => by kernel_rfl) (cd2_cell rs_ hx1)) ?_
        refine QRun_y (.bool x3) (by kernel_rfl) (Y_callq (f := 158) (args := #[.int .i64 x2]) (v := .bool x3) (by kernel_rfl) (w_impl_areValues_1 h x2 _ _ hx2)) ?_
        exact QRun_done [0, 1, 5, 7, 8, 16] (by kernel_rfl) (by kernel_rfl)
      refine Run_cond (b := x3) (by kernel_rfl) (fun hb2 => ?_) (fun hb2 => ?_)
      · have hB1 := (M.ite_some hB1).1 hb2
        refine Run_seq ?_
        refine Run_reg 2 (by kernel_rfl) (L' := [(4, .int .i64 i1)]) ?_ ?_
        · refine QRun_b [.int .i64 i1, .int .i64 i1] 0 _ (by kernel_rfl) (fun w => by kernel_rfl) ?_
          exact QRun_done [4] (by kernel_rfl) (by kernel_rfl)
        have hB1 := M.ret_some hB1
        have gx1 := houty1 _ hB1.symm
        have hF := M.cont_inr' hF gx1
        have hF := M.ret_some hF
        subst hF
        exact Run_ret1 rfl (ResV_tmp (v := .int .i64 i1) (by kernel_rfl)) ⟨rfl, rfl⟩
      · have hB1 := (M.ite_some hB1).2 hb2
        refine Run_skip ?_
        refine Run_blk ?_
        refine Run_reg 2 (by kernel_rfl) (L' := [(0, .slice as_ s_.length cs_), (1, .func (.func 158) #[] #[]), (7, .int .i64 (s_.length : Int)), (8, .int .i64 (i1 + 1))]) ?_ ?_
        · refine QRun_y (.int .i64 (i1 + 1)) (by kernel_rfl) (Y_eq (v := .int .i64 (w64 (i1 + 1))) (Y_pure (fun w => by kernel_rfl)) (by rw [w64_eq _ (by omega)])) ?_
          refine QRun_b [.int .i64 (i1 + 1)] 1 _ (by kernel_rfl) (fun w => by kernel_rfl) ?_
          exact QRun_done [0, 1, 7, 8] (by kernel_rfl) (by kernel_rfl)
        have hB1 := M.ret_some hB1
        have gx1 := hgoy1 _ hB1.symm
        exact Run_again [0, 1, 7, 8] (by kernel_rfl) my1 (Nat.lt_succ_self _) ⟨i1 + 1, (), by omega, gx1, rfl, rfl⟩
    · have gx1 := M.for_end gx1 hb1
      subst gx1
      refine Run_exit (k' := _) rfl ?_
      exact Run_fall [] (by kernel_rfl) ⟨(), rfl, rfl, rfl⟩

set_option maxRecDepth 100000 in
set_option maxHeartbeats 4000000 in
theorem w_slices_ContainsFunc_int_F_impl_areValues_1 (h : Heap) (s_ : List Int) {Ss_ : Bs} (as_ : Option Addr) (cs_ : Nat) (rs_ : Rd cd2 h Ss_ as_ cs_ s_) (n : Nat) (r : Bool) (hF : slices_ContainsFunc_int_F_impl_areValues_1 s_ n = some r) :
    Fn Try.prog 157 #[.slice as_ s_.length cs_, .func (.func 158) #[] #[]] h fun v h' => v = .bool r ∧ h' = h := by
  unfold slices_ContainsFunc_int_F_impl_areValues_1 at hF
  refine Fn_enter (args := [.slice as_ s_.length cs_, .func (.func 158) #[] #[]]) Try.func157 rfl (by kernel_rfl) (by kernel_rfl) (fun w0 _ => ?_)
  refine Run_seq ?_
  refine Run_reg 1 (by kernel_rfl) (L' := [(0, .slice as_ s_.length cs_), (1, .func (.func 158) #[] #[])]) ?_ ?_
  · refine QRun_b [.bool false] 0 _ (by kernel_rfl) (fun w => by kernel_rfl) ?_
    exact QRun_done [0, 1] (by kernel_rfl) (by kernel_rfl)
  refine Run_seq ?_
  obtain ⟨x1, hx1, hF⟩ := M.bind_some hF
  refine Run_reg 5 (by kernel_rfl) (L' := [(4, .bool (decide (0 ≤ x1)))]) ?_ ?_
  · refine QRun_b [.slice as_ s_.length cs_, .func (.func 158) #[] #[]] 0 _ (by kernel_rfl) (fun w => by kernel_rfl) ?_
    refine QRun_y (.int .i64 x1) (by kernel_rfl) (Y_callq (f := 182) (args := #[.slice as_ s_.length cs_, .func (.func 158) #[] #[]]) (v := .int .i64 x1) (by kernel_rfl) (w_slices_IndexFunc_int_F_impl_areValues_1 h s_ as_ cs_ rs_ _ _ hx1)) ?_
    refine QRun_b [.bool (decide (0 ≤ x1)), .bool (decide (0 ≤ x1))] 3 _ (by kernel_rfl) (fun w => by kernel_rfl) ?_
    exact QRun_done [4] (by kernel_rfl) (by kernel_rfl)
  have hF := M.ret_some hF
  subst hF
  exact Run_ret1 rfl (ResV_tmp (v := .bool (decide (0 ≤ x1))) (by kernel_rfl)) ⟨rfl, rfl⟩

set_option maxRecDepth 100000 in
set_option maxHeartbeats 4000000 in
theorem w_impl_areValues (h : Heap) (list : List Int) {Slist : Bs} (alist : Option Addr) (clist : Nat) (rlist : Rd cd2 h Slist alist clist list) (n : Nat) (r : Bool) (hF : impl_areValues list n = some r) :
    Fn Try.prog 96 #[.slice alist list.length clist] h fun v h' => v = .bool r ∧ h' = h := by
  unfold impl_areValues at hF
  refine Fn_enter (args := [.slice alist list.length clist]) Try.func96 rfl (by kernel_rfl) (by kernel_rfl) (fun w0 _ => ?_)
  refine Run_seq ?_
  refine Run_reg 1 (by kernel_rfl) (L' := [(0, .slice alist list.length clist)]) ?_ ?_
  · refine QRun_b [.bool false] 0 _ (by kernel_rfl) (fun w => by kernel_rfl) ?_
    exact QRun_done [0] (by kernel_rfl) (by kernel_rfl)
  refine Run_seq ?_
  obtain ⟨x1, hx1, hF⟩ := M.bind_some hF
  refine Run_reg 4 (by kernel_rfl) (L' := [(2, .bool (!x1))]) ?_ ?_
  · refine QRun_b [.slice alist list.length clist] 0 _ (by kernel_rfl) (fun w => by kernel_rfl) ?_
    refine QRun_y (.bool x1) (by kernel_rfl) (Y_callq (f := 157) (args := #[.slice alist list.length clist, .func (.func 158) #[] #[]]) (v := .bool x1) (by kernel_rfl) (w_slices_ContainsFunc_int_F_impl_areValues_1 h list alist clist rlist _ _ hx1)) ?_
    refine QRun_b [.bool (!x1), .bool (!x1)] 2 _ (by kernel_rfl) (fun w => by kernel_rfl) ?_
    exact QRun_done [2] (by kernel_rfl) (by kernel_rfl)
  have hF := M.ret_some hF
  subst hF
  exact Run_ret1 rfl (ResV_tmp (v := .bool (!x1)) (by kernel_rfl)) ⟨rfl, rfl⟩

set_option maxRecDepth 100000 in
set_option maxHeartbeats 4000000 in
theorem w_impl_IsMatrix_1 (h : Heap) (row : List Int) {Srow : Bs} (arow : Option Addr) (crow : Nat) (rrow : Rd cd2 h Srow arow crow row) (z0 : List (List Int)) {Sz0 : Bs} (az0 : Option Addr) (cz0 : Nat) (rz0 : Rd cd39 h Sz0 az0 cz0 z0) (bz0 : Nat) (vz0 : VarAt h bz0 37 [.slice az0 z0.length cz0]) (n : Nat) (r : Bool) (hF : impl_IsMatrix_1 row z0 n = some r) :
    Fn Try.prog 179 #[.slice arow row.length crow, .pointer (some ⟨bz0, 0, none⟩)] h fun v h' => v = .bool r ∧ h' = h := by
  unfold impl_IsMatrix_1 at hF
  refine Fn_enter (args := [.slice arow row.length crow, .pointer (some ⟨bz0, 0, none⟩)]) Try.func179 rfl (by kernel_rfl) (by kernel_rfl) (fun w0 _ => ?_)
  refine Run_seq ?_
  refine Run_reg 1 (by kernel_rfl) (L' := [(0, .slice arow row.length crow), (1, .pointer (some ⟨bz0, 0, none⟩))]) ?_ ?_
  · refine QRun_b [.bool false] 0 _ (by kernel_rfl) (fun w => by kernel_rfl) ?_
    exact QRun_done [0, 1] (by kernel_rfl) (by kernel_rfl)
  refine Run_seq ?_
  obtain ⟨x1, hx1, hF⟩ := M.bind_some hF
  obtain ⟨hx1l, hx1u, hx1⟩ := M.idx_some hx1
  obtain ⟨a1, c1, hc1, r1⟩ := rz0.row hx1
  obtain ⟨x2, gx2, hF⟩ := M.bind_some hF
  refine Run_reg 13 (by kernel_rfl) (L' := [(3, .bool x2)]) ?_ ?_
  · refine QRun_b [.slice arow row.length crow, .int .i64 (row.length : Int)] 0 _ (by kernel_rfl) (fun w => by kernel_rfl) ?_
    refine QRun_y (.slice az0 z0.length cz0) (by kernel_rfl) (Y_load1 (t := 37) (p := ⟨bz0, 0, none⟩) (v := .slice az0 z0.length cz0) (by kernel_rfl) (fun w => by kernel_rfl) (VarAt.cell vz0 rfl)) ?_
    refine QRun_y (.pointer (some (adr az0 (0 * 1)))) (by kernel_rfl) (Y_idx (t := 37) (e := 39) (sz := 1) (a := az0) (n := z0.length) (cap := cz0) (kk := .i64) (i := 0) (by kernel_rfl) Try.underlying37 (by kernel_rfl) (rz0.cell hx1).1 hx1l hx1u) ?_
    refine QRun_y (.slice a1 x1.length c1) (by kernel_rfl) (Y_load1 (t := 39) (p := adr az0 (0 * 1)) (v := .slice a1 x1.length c1) (by kernel_rfl) (fun w => by kernel_rfl) hc1) ?_
    refine QRun_b [.int .i64 (x1.length : Int), .bool ((row.length : Int) != (x1.length : Int))] 5 _ (by kernel_rfl) (fun w => by kernel_rfl) ?_
    refine QRun_seq 12 [(15, .bool x2)] ?_ ?_
    · rcases Bool.eq_false_or_eq_true ((row.length : Int) != (x1.length : Int)) with hb1 | hb1
      · refine QRun_bool ((row.length : Int) != (x1.length : Int)) true (by kernel_rfl) (fun w => by kernel_rfl) hb1 ?_
        have gx2 := M.ret_some ((M.ite_some gx2).1 hb1)
        refine QRun_n (by kernel_rfl) ?_
        refine QRun_n (by kernel_rfl) ?_
        refine QRun_n (by kernel_rfl) ?_
        refine QRun_bool true x2 (by kernel_rfl) (fun w => by kernel_rfl) gx2 ?_
        exact QRun_done [15] (by kernel_rfl) (by kernel_rfl)
      · refine QRun_bool ((row.length : Int) != (x1.length : Int)) false (by kernel_rfl) (fun w => by kernel_rfl) hb1 ?_
        have gx2 := (M.ite_some gx2).2 hb1
        obtain ⟨x3, hx2, gx2⟩ := M.bind_some gx2
        have gx2 := M.ret_some gx2
        refine QRun_b [.slice arow row.length crow] 8 _ (by kernel_rfl) (fun w => by kernel_rfl) ?_
        refine QRun_y (.bool x3) (by kernel_rfl) (Y_callq (f := 96) (args := #[.slice arow row.length crow]) (v := .bool x3) (by kernel_rfl) (w_impl_areValues h row arow crow rrow _ _ hx2)) ?_
        refine QRun_b [.bool (!x3)] 10 _ (by kernel_rfl) (fun w => by kernel_rfl) ?_
        refine QRun_bool (!x3) x2 (by kernel_rfl) (fun w => by kernel_rfl) gx2 ?_
        exact QRun_done [15] (by kernel_rfl) (by kernel_rfl)
    refine QRun_b [.bool x2] 12 _ (by kernel_rfl) (fun w => by kernel_rfl) ?_
    exact QRun_done [3] (by kernel_rfl) (by kernel_rfl)
  have hF := M.ret_some hF
  subst hF
  exact Run_ret1 rfl (ResV_tmp (v := .bool x2) (by kernel_rfl)) ⟨rfl, rfl⟩

set_option maxRecDepth 100000 in
set_option maxHeartbeats 4000000 in
theorem w_slices_IndexFunc_row_F_impl_IsMatrix_1 (h : Heap) (s_ : List (List Int)) {Ss_ : Bs} (as_ : Option Addr) (cs_ : Nat) (rs_ : Rd cd39 h Ss_ as_ cs_ s_) (f0 : List (List Int)) {Sf0 : Bs} (af0 : Option Addr) (cf0 : Nat) (rf0 : Rd cd39 h Sf0 af0 cf0 f0) (bf0 : Nat) (vf0 : VarAt h bf0 37 [.slice af0 f0.length cf0]) (n : Nat) (r : Int) (hF : slices_IndexFunc_row_F_impl_IsMatrix_1 s_ f0 n = some r) :
    Fn Try.prog 188 #[.slice as_ s_.length cs_, .func (.func 179) #[] #[.pointer (some ⟨bf0, 0, none⟩)]] h fun v h' => v = .int .i64 r ∧ h' = h := by
  unfold slices_IndexFunc_row_F_impl_IsMatrix_1 at hF
  refine Fn_enter (args := [.slice as_ s_.length cs_, .func (.func 179) #[] #[.pointer (some ⟨bf0, 0, none⟩)]]) Try.func188 rfl (by kernel_rfl) (by kernel_rfl) (fun w0 _ => ?_)
  refine Run_seq ?_
  refine Run_reg 1 (by kernel_rfl) (L' := [(0, .slice as_ s_.length cs_), (1, .func (.func 179) #[] #[.pointer (some ⟨bf0, 0, none⟩)])]) ?_ ?_
  · refine QRun_b [.int .i64 0] 0 _ (by kernel_rfl) (fun w => by kernel_rfl) ?_
    exact QRun_done [0, 1] (by kernel_rfl) (by kernel_rfl)
  refine Run_seq ?_
  refine Run_seq ?_
  refine Run_reg 3 (by kernel_rfl) (L' := [(0, .slice as_ s_.length cs_), (1, .func (.func 179) #[] #[.pointer (some ⟨bf0, 0, none⟩)]), (7, .int .i64 (s_.length : Int)), (8, .int .i64 0)]) ?_ ?_
  · refine QRun_b [.slice as_ s_.length cs_, .int .i64 (s_.length : Int), .int .i64 0] 0 _ (by kernel_rfl) (fun w => by kernel_rfl) ?_
    exact QRun_done [0, 1, 7, 8] (by kernel_rfl) (by kernel_rfl)
  obtain ⟨x1, gx1, hF⟩ := M.bind_some hF
  obtain ⟨hloy1, hhiy1, gx1⟩ := M.for_start gx1
  refine Run_join (fun L' h' => ∃ (s2 : Unit), x1 = .inl s2 ∧ L' = [] ∧ h = h') ?_ ?_
  · rintro _ _ ⟨s2, es2, rfl, rfl⟩
    have hF := M.cont_inl' hF es2
    refine Run_seq ?_
    refine Run_reg 1 (by kernel_rfl) (L' := [(4, .int .i64 (-1))]) ?_ ?_
    · refine QRun_b [.int .i64 (-1)] 0 _ (by kernel_rfl) (fun w => by kernel_rfl) ?_
      exact QRun_done [4] (by kernel_rfl) (by kernel_rfl)
    have hF := M.ret_some hF
    subst hF
    exact Run_ret1 rfl (ResV_tmp (v := .int .i64 (-1)) (by kernel_rfl)) ⟨rfl, rfl⟩
  · refine Run_block ?_
    refine Run_keep [0, 1, 7, 8] (L' := [(0, .slice as_ s_.length cs_), (1, .func (.func 179) #[] #[.pointer (some ⟨bf0, 0, none⟩)]), (7, .int .i64 (s_.length : Int)), (8, .int .i64 0)]) (by kernel_rfl) ?_
    refine Run_loop (fun m L' h' => ∃ (i1 : Int) (s1 : Unit), 0 ≤ i1 ∧ M.forN (s_.length : Int) _ _ n m i1 s1 = some x1 ∧ L' = [(0, .slice as_ s_.length cs_), (1, .func (.func 179) #[] #[.pointer (some ⟨bf0, 0, none⟩)]), (7, .int .i64 (s_.length : Int)), (8, .int .i64 i1)] ∧ h = h') ((s_.length : Int) - 0 : Int).toNat ⟨0, (), Int.le_refl _, gx1, rfl, rfl⟩ ?_
    rintro my1 _ _ ⟨i1, s1, hloy1', gx1, rfl, rfl⟩
    refine Run_seq ?_
    refine Run_reg 1 (by kernel_rfl) (L' := [(0, .slice as_ s_.length cs_), (1, .func (.func 179) #[] #[.pointer (some ⟨bf0, 0, none⟩)]), (7, .int .i64 (s_.length : Int)), (8, .int .i64 i1), (9, .bool (decide (i1 < (s_.length : Int))))]) ?_ ?_
    · refine QRun_b [.bool (decide (i1 < (s_.length : Int)))] 0 _ (by kernel_rfl) (fun w => by kernel_rfl) ?_
      exact QRun_done [0, 1, 7, 8, 9] (by kernel_rfl) (by kernel_rfl)
    refine Run_seq ?_
    refine Run_cond (b := decide (i1 < (s_.length : Int))) (by kernel_rfl) (fun hb1 => ?_) (fun hb1 => ?_)
    · obtain ⟨my1, y1, rfl, hB1, hgoy1, houty1⟩ := M.for_go gx1 hb1
      have hlty1 := of_decide_eq_true hb1
      refine Run_skip ?_
      refine Run_seq ?_
      refine Run_block ?_
      refine Run_seq ?_
      refine Run_reg 2 (by kernel_rfl) (L' := [(0, .slice as_ s_.length cs_), (1, .func (.func 179) #[] #[.pointer (some ⟨bf0, 0, none⟩)]), (5, .int .i64 i1), (7, .int .i64 (s_.length : Int)), (8, .int .i64 i1)]) ?_ ?_
      · refine QRun_b [.int .i64 i1, .int .i64 i1] 0 _ (by kernel_rfl) (fun w => by kernel_rfl) ?_
        exact QRun_done [0, 1, 5, 7, 8] (by kernel_rfl) (by kernel_rfl)
      refine Run_seq ?_
      obtain ⟨x2, hx1, hB1⟩ := M.bind_some hB1
      obtain ⟨hx1l, hx1u, hx1⟩ := M.idx_some hx1
      obtain ⟨a1, c1, hc1, r1⟩ := rs_.row hx1
      obtain ⟨x3, hx2, hB1⟩ := M.bind_some hB1
      refine Run_reg 6 (by kernel_rfl) (L' := [(0, .slice as_ s_.length cs_), (1, .func (.func 179) #[] #[.pointer (some ⟨bf0, 0, none⟩)]), (5, .int .i64 i1), (7, .int .i64 (s_.length : Int)), (8, .int .i64 i1), (16, .bool x3)]) ?_ ?_
      · refine QRun_b [.func (.func 179) #[] #[.pointer (some ⟨bf0, 0, none⟩)], .slice as_ s_.length cs_, .int .i64 i1] 0 _ (by kernel_rfl) (fun w => by kernel_rfl) ?_
        refine QRun_y (.pointer (some (adr as_ (i1.toNat * 1)))) (by kernel_rfl) (Y_idx (t := 37) (e := 39) (sz := 1) (a := as_) (n := s_.length) (cap := cs_) (kk := .i64) (i := i1) (by kernel_rfl) Try.underlying37 (by kernel_rfl) (rs_.cell hx1).1 hx1l hx1u) ?_
        refine QRun_y (.slice a1 x2.length c1) (by kernel_rfl) (Y_load1 (t := 39) (p := adr as_ (i1.toNat * 1)) (v := .slice a1 x2.length c1) (by kernel_rfl) (fun w => by kernel_rfl) hc1) ?_
        refine QRun_y (.bool x3) (by kernel_rfl) (Y_callq (f := 179) (args := #[.slice a1 x2.length c1, .pointer (some ⟨bf0, 0, none⟩)]) (v := .bool x3) (by kernel_rfl) (w_impl_IsMatrix_1 h x2 a1 c1 r1 f0 af0 cf0 rf0 bf0 vf0 _ _ hx2)) ?_
        exact QRun_done [0, 1, 5, 7, 8, 16] (by kernel_rfl) (by kernel_rfl)
      refine Run_cond (b := x3) (by kernel_rfl) (fun hb2 => ?_) (fun hb2 => ?_)
      · have hB1 := (M.ite_some hB1).1 hb2
        refine Run_seq ?_
        refine Run_reg 2 (by kernel_rfl) (L' := [(4, .int .i64 i1)]) ?_ ?_
        · refine QRun_b [.int .i64 i1, .int .i64 i1] 0 _ (by kernel_rfl) (fun w => by kernel_rfl) ?_
          exact QRun_done [4] (by kernel_rfl) (by kernel_rfl)
        have hB1 := M.ret_some hB1
        have gx1 := houty1 _ hB1.symm
        have hF := M.cont_inr' hF gx1
        have hF := M.ret_some hF
        subst hF
        exact Run_ret1 rfl (ResV_tmp (v := .int .i64 i1) (by kernel_rfl)) ⟨rfl, rfl⟩
      · have hB1 := (M.ite_some hB1).2 hb2
        refine Run_skip ?_
        refine Run_blk ?_
        refine Run_reg 2 (by kernel_rfl) (L' := [(0, .slice as_ s_.length cs_), (1, .func (.func 179) #[] #[.pointer (some ⟨bf0, 0, none⟩)]), (7, .int .i64 (s_.length : Int)), (8, .int .i64 (i1 + 1))]) ?_ ?_
        · refine QRun_y (.int .i64 (i1 + 1)) (by kernel_rfl) (Y_eq (v := .int .i64 (w64 (i1 + 1))) (Y_pure (fun w => by kernel_rfl)) (by rw [w64_eq _ (by omega)])) ?_
          refine QRun_b [.int .i64 (i1 + 1)] 1 _ (by kernel_rfl) (fun w => by kernel_rfl) ?_
          exact QRun_done [0, 1, 7, 8] (by kernel_rfl) (by kernel_rfl)
        have hB1 := M.ret_some hB1
        have gx1 := hgoy1 _ hB1.symm
        exact Run_again [0, 1, 7, 8] (by kernel_rfl) my1 (Nat.lt_succ_self _) ⟨i1 + 1, (), by omega, gx1, rfl, rfl⟩
    · have gx1 := M.for_end gx1 hb1
      subst gx1
      refine Run_exit (k' := _) rfl ?_
      exact Run_fall [] (by kernel_rfl) ⟨(), rfl, rfl, rfl⟩

set_option maxRecDepth 100000 in
set_option maxHeartbeats 4000000 in
theorem w_slices_ContainsFunc_row_F_impl_IsMatrix_1 (h : Heap) (s_ : List (List Int)) {Ss_ : Bs} (as_ : Option Addr) (cs_ : Nat) (rs_ : Rd cd39 h Ss_ as_ cs_ s_) (f0 : List (List Int)) {Sf0 : Bs} (af0 : Option Addr) (cf0 : Nat) (rf0 : Rd cd39 h Sf0 af0 cf0 f0) (bf0 : Nat) (vf0 : VarAt h bf0 37 [.slice af0 f0.length cf0]) (n : Nat) (r : Bool) (hF : slices_ContainsFunc_row_F_impl_IsMatrix_1 s_ f0 n = some r) :
    Fn Try.prog 178 #[.slice as_ s_.length cs_, .func (.func 179) #[] #[.pointer (some ⟨bf0, 0, none⟩)]] h fun v h' => v = .bool r ∧ h' = h := by
  unfold slices_ContainsFunc_row_F_impl_IsMatrix_1 at hF
  refine Fn_enter (args := [.slice as_ s_.length cs_, .func (.func 179) #[] #[.pointer (some ⟨bf0, 0, none⟩)]]) Try.func178 rfl (by kernel_rfl) (by kernel_rfl) (fun w0 _ => ?_)
  refine Run_seq ?_
  refine Run_reg 1 (by kernel_rfl) (L' := [(0, .slice as_ s_.length cs_), (1, .func (.func 179) #[] #[.pointer (some ⟨bf0, 0, none⟩)])]) ?_ ?_
  · refine QRun_b [.bool false] 0 _ (by kernel_rfl) (fun w => by kernel_rfl) ?_
    exact QRun_done [0, 1] (by kernel_rfl) (by kernel_rfl)
  refine Run_seq ?_
  obtain ⟨x1, hx1, hF⟩ := M.bind_some hF
  refine Run_reg 5 (by kernel_rfl) (L' := [(4, .bool (decide (0 ≤ x1)))]) ?_ ?_
  · refine QRun_b [.slice as_ s_.length cs_, .func (.func 179) #[] #[.pointer (some ⟨bf0, 0, none⟩)]] 0 _ (by kernel_rfl) (fun w => by kernel_rfl) ?_
    refine QRun_y (.int .i64 x1) (by kernel_rfl) (Y_callq (f := 188) (args := #[.slice as_ s_.length cs_, .func (.func 179) #[] #[.pointer (some ⟨bf0, 0, none⟩)]]) (v := .int .i64 x1) (by kernel_rfl) (w_slices_IndexFunc_row_F_impl_IsMatrix_1 h s_ as_ cs_ rs_ f0 af0 cf0 rf0 bf0 vf0 _ _ hx1)) ?_
    refine QRun_b [.bool (decide (0 ≤ x1)), .bool (decide (0 ≤ x1))] 3 _ (by kernel_rfl) (fun w => by kernel_rfl) ?_
    exact QRun_done [4] (by kernel_rfl) (by kernel_rfl)
  have hF := M.ret_some hF
  subst hF
  exact Run_ret1 rfl (ResV_tmp (v := .bool (decide (0 ≤ x1))) (by kernel_rfl)) ⟨rfl, rfl⟩

set_option maxRecDepth 100000 in
set_option maxHeartbeats 4000000 in
theorem w_impl_IsMatrix (h : Heap) (a_ : List (List Int)) (aa_ : Option Addr) (ca_ : Nat) (ra_ : Rd cd39 h (Lt h) aa_ ca_ a_) (n : Nat) (r : Bool) (hF : impl_IsMatrix a_ n = some r) :
    Fn Try.prog 154 #[.slice aa_ a_.length ca_] h fun v h' => v = .bool r ∧ Hold h h' [] := by
  unfold impl_IsMatrix at hF
  refine Fn_enter (args := [.slice aa_ a_.length ca_]) Try.func154 rfl (by kernel_rfl) (by kernel_rfl) (fun w0 _ => ?_)
  have H0 := Hold.init h
  refine Run_seq ?_
  refine Run_ops ?_
  refine Run_E (by kernel_rfl) ?_
  refine E_box (ty := 37) (cs := [.slice aa_ a_.length ca_]) H0 (fun w => by kernel_rfl) (fun b1 h1 H1 => ?_)
  refine Run_b [.bool false] 1 _ (by kernel_rfl) (fun w => by kernel_rfl) ?_
  refine Run_nil (by kernel_rfl) ?_
  refine Run_keep [1] (L' := [(1, .pointer (some ⟨b1, 0, none⟩))]) (by kernel_rfl) ?_
  refine Run_seq ?_
  refine Run_seq ?_
  obtain ⟨x1, hx1, hF⟩ := M.bind_some hF
  obtain ⟨x2, gx2, hF⟩ := M.bind_some hF
  refine Run_reg 12 (by kernel_rfl) (L' := [(1, .pointer (some ⟨b1, 0, none⟩)), (14, .bool x2)]) ?_ ?_
  · refine QRun_y (.slice aa_ a_.length ca_) (by kernel_rfl) (Y_load1 (t := 37) (p := ⟨b1, 0, none⟩) (v := .slice aa_ a_.length ca_) (by kernel_rfl) (fun w => by kernel_rfl) (H1.cell 0 rfl rfl)) ?_
    refine QRun_b [.int .i64 (a_.length : Int)] 1 _ (by kernel_rfl) (fun w => by kernel_rfl) ?_
    refine QRun_y (.bool x1) (by kernel_rfl) (Y_callq (f := 108) (args := #[.int .i64 (a_.length : Int), .int .i64 1, .int .i64 10]) (v := .bool x1) (by kernel_rfl) (w_impl_within h1 (a_.length : Int) 1 10 _ _ hx1)) ?_
    refine QRun_b [.bool (!x1)] 3 _ (by kernel_rfl) (fun w => by kernel_rfl) ?_
    refine QRun_seq 12 [(1, .pointer (some ⟨b1, 0, none⟩)), (14, .bool x2)] ?_ ?_
    · rcases Bool.eq_false_or_eq_true (!x1) with hb1 | hb1
      · refine QRun_bool (!x1) true (by kernel_rfl) (fun w => by kernel_rfl) hb1 ?_
        have gx2 := M.ret_some ((M.ite_some gx2).1 hb1)
        refine QRun_n (by kernel_rfl) ?_
        refine QRun_n (by kernel_rfl) ?_
        refine QRun_n (by kernel_rfl) ?_
        refine QRun_n (by kernel_rfl) ?_
        refine QRun_n (by kernel_rfl) ?_
        refine QRun_n (by kernel_rfl) ?_
        refine QRun_bool true x2 (by kernel_rfl) (fun w => by kernel_rfl) gx2 ?_
        exact QRun_done [1, 14] (by kernel_rfl) (by kernel_rfl)
      · refine QRun_bool (!x1) false (by kernel_rfl) (fun w => by kernel_rfl) hb1 ?_
        have gx2 := (M.ite_some gx2).2 hb1
        obtain ⟨x3, hx2, gx2⟩ := M.bind_some gx2
        obtain ⟨hx2l, hx2u, hx2⟩ := M.idx_some hx2
        obtain ⟨a1, c1, hc1, r1⟩ := ra_.row hx2
        obtain ⟨x4, hx3, gx2⟩ := M.bind_some gx2
        have gx2 := M.ret_some gx2
        refine QRun_y (.slice aa_ a_.length ca_) (by kernel_rfl) (Y_load1 (t := 37) (p := ⟨b1, 0, none⟩) (v := .slice aa_ a_.length ca_) (by kernel_rfl) (fun w => by kernel_rfl) (H1.cell 0 rfl rfl)) ?_
        refine QRun_y (.pointer (some (adr aa_ (0 * 1)))) (by kernel_rfl) (Y_idx (t := 37) (e := 39) (sz := 1) (a := aa_) (n := a_.length) (cap := ca_) (kk := .i64) (i := 0) (by kernel_rfl) Try.underlying37 (by kernel_rfl) ((ra_.at H1.ext).cell hx2).1 hx2l hx2u) ?_
        refine QRun_y (.slice a1 x3.length c1) (by kernel_rfl) (Y_load1 (t := 39) (p := adr aa_ (0 * 1)) (v := .slice a1 x3.length c1) (by kernel_rfl) (fun w => by kernel_rfl) (cell_at H1.ext hc1)) ?_
        refine QRun_b [.int .i64 (x3.length : Int)] 8 _ (by kernel_rfl) (fun w => by kernel_rfl) ?_
        refine QRun_y (.bool x4) (by kernel_rfl) (Y_callq (f := 108) (args := #[.int .i64 (x3.length : Int), .int .i64 1, .int .i64 10]) (v := .bool x4) (by kernel_rfl) (w_impl_within h1 (x3.length : Int) 1 10 _ _ hx3)) ?_
        refine QRun_b [.bool (!x4)] 10 _ (by kernel_rfl) (fun w => by kernel_rfl) ?_
        refine QRun_bool (!x4) x2 (by kernel_rfl) (fun w => by kernel_rfl) gx2 ?_
        exact QRun_done [1, 14] (by kernel_rfl) (by kernel_rfl)
    exact QRun_done [1, 14] (by kernel_rfl) (by kernel_rfl)
  refine Run_cond (b := x2) (by kernel_rfl) (fun hb2 => ?_) (fun hb2 => ?_)
  · have hF := (M.ite_some hF).1 hb2
    refine Run_seq ?_
    refine Run_reg 1 (by kernel_rfl) (L' := [(2, .bool false)]) ?_ ?_
    · refine QRun_b [.bool false] 0 _ (by kernel_rfl) (fun w => by kernel_rfl) ?_
      exact QRun_done [2] (by kernel_rfl) (by kernel_rfl)
    have hF := M.ret_some hF
    subst hF
    have H2 : Hold h h1 [] := H1.pick [] (by kernel_rfl)
    exact Run_ret1 rfl (ResV_tmp (v := .bool false) (by kernel_rfl)) ⟨rfl, H2⟩
  · have hF := (M.ite_some hF).2 hb2
    refine Run_skip ?_
    refine Run_seq ?_
    obtain ⟨x5, hx4, hF⟩ := M.bind_some hF
    refine Run_reg 5 (by kernel_rfl) (L' := [(2, .bool (!x5))]) ?_ ?_
    · refine QRun_y (.slice aa_ a_.length ca_) (by kernel_rfl) (Y_load1 (t := 37) (p := ⟨b1, 0, none⟩) (v := .slice aa_ a_.length ca_) (by kernel_rfl) (fun w => by kernel_rfl) (H1.cell 0 rfl rfl)) ?_
      refine QRun_b [.func (.func 179) #[] #[.pointer (some ⟨b1, 0, none⟩)]] 1 _ (by kernel_rfl) (fun w => by kernel_rfl) ?_
      refine QRun_y (.bool x5) (by kernel_rfl) (Y_callq (f := 178) (args := #[.slice aa_ a_.length ca_, .func (.func 179) #[] #[.pointer (some ⟨b1, 0, none⟩)]]) (v := .bool x5) (by kernel_rfl) (w_slices_ContainsFunc_row_F_impl_IsMatrix_1 h1 a_ aa_ ca_ (ra_.at H1.ext) a_ aa_ ca_ (ra_.at H1.ext) b1 (H1.var 0 rfl) _ _ hx4)) ?_
      refine QRun_b [.bool (!x5), .bool (!x5)] 3 _ (by kernel_rfl) (fun w => by kernel_rfl) ?_
      exact QRun_done [2] (by kernel_rfl) (by kernel_rfl)
    have hF := M.ret_some hF
    subst hF
    have H3 : Hold h h1 [] := H1.pick [] (by kernel_rfl)
    exact Run_ret1 rfl (ResV_tmp (v := .bool (!x5)) (by kernel_rfl)) ⟨rfl, H3⟩

set_option maxRecDepth 100000 in
set_option maxHeartbeats 4000000 in
theorem w_impl_isSquare (h : Heap) (a_ : List (List Int)) (aa_ : Option Addr) (ca_ : Nat) (ra_ : Rd cd39 h (Lt h) aa_ ca_ a_) (n : Nat) (r : Bool) (hF : impl_isSquare a_ n = some r) :
    Fn Try.prog 89 #[.slice aa_ a_.length ca_] h fun v h' => v = .bool r ∧ Hold h h' [] := by
  unfold impl_isSquare at hF
  refine Fn_enter (args := [.slice aa_ a_.length ca_]) Try.func89 rfl (by kernel_rfl) (by kernel_rfl) (fun w0 _ => ?_)
  have H0 := Hold.init h
  refine Run_seq ?_
  refine Run_reg 1 (by kernel_rfl) (L' := [(0, .slice aa_ a_.length ca_)]) ?_ ?_
  · refine QRun_b [.bool false] 0 _ (by kernel_rfl) (fun w => by kernel_rfl) ?_
    exact QRun_done [0] (by kernel_rfl) (by kernel_rfl)
  refine Run_seq ?_
  obtain ⟨x1, hx1, hF⟩ := M.bind_some hF
  obtain ⟨x2, gx2, hF⟩ := M.bind_some hF
  refine Run_regC (j := 12) (C := fun x => Hold h x []) (by kernel_rfl) H0 (L' := [(2, .bool x2)]) ?_ (fun h1 H1 => ?_)
  · refine QRun_b [.slice aa_ a_.length ca_] 0 _ (by kernel_rfl) (fun w => by kernel_rfl) ?_
    refine QRun_y (.bool x1) (by kernel_rfl) (Y_call (f := 154) (args := #[.slice aa_ a_.length ca_]) (v := .bool x1) (by kernel_rfl) fun hx Hx => (w_impl_IsMatrix hx a_ aa_ ca_ (ra_.at Hx.ext) _ _ hx1).mono fun _ _ ⟨e, H'⟩ => ⟨e, Hx.call H' rfl⟩) ?_
    refine QRun_seq 11 [(13, .bool x2)] ?_ ?_
    · rcases Bool.eq_false_or_eq_true x1 with hb1 | hb1
      · refine QRun_bool x1 true (by kernel_rfl) (fun w => by kernel_rfl) hb1 ?_
        have gx2 := (M.ite_some gx2).1 hb1
        obtain ⟨x3, hx2, gx2⟩ := M.bind_some gx2
        obtain ⟨hx2l, hx2u, hx2⟩ := M.idx_some hx2
        obtain ⟨a1, c1, hc1, r1⟩ := ra_.row hx2
        have gx2 := M.ret_some gx2
        refine QRun_b [.slice aa_ a_.length ca_, .int .i64 (a_.length : Int), .slice aa_ a_.length ca_] 3 _ (by kernel_rfl) (fun w => by kernel_rfl) ?_
        refine QRun_y (.pointer (some (adr aa_ (0 * 1)))) (by kernel_rfl) (Y_cls fun hx Hx => (Y_idx (t := 37) (e := 39) (sz := 1) (a := aa_) (n := a_.length) (cap := ca_) (kk := .i64) (i := 0) (by kernel_rfl) Try.underlying37 (by kernel_rfl) (ra_.cell hx2).1 hx2l hx2u)) ?_
        refine QRun_y (.slice a1 x3.length c1) (by kernel_rfl) (Y_cls fun hx Hx => (Y_load1 (t := 39) (p := adr aa_ (0 * 1)) (v := .slice a1 x3.length c1) (by kernel_rfl) (fun w => by kernel_rfl) (cell_at Hx.ext hc1))) ?_
        refine QRun_b [.int .i64 (x3.length : Int), .bool ((a_.length : Int) == (x3.length : Int))] 8 _ (by kernel_rfl) (fun w => by kernel_rfl) ?_
        refine QRun_bool ((a_.length : Int) == (x3.length : Int)) x2 (by kernel_rfl) (fun w => by kernel_rfl) gx2 ?_
        exact QRun_done [13] (by kernel_rfl) (by kernel_rfl)
      · refine QRun_bool x1 false (by kernel_rfl) (fun w => by kernel_rfl) hb1 ?_
        have gx2 := M.ret_some ((M.ite_some gx2).2 hb1)
        refine QRun_n (by kernel_rfl) ?_
        refine QRun_n (by kernel_rfl) ?_
        refine QRun_n (by kernel_rfl) ?_
        refine QRun_n (by kernel_rfl) ?_
        refine QRun_n (by kernel_rfl) ?_
        refine QRun_n (by kernel_rfl) ?_
        refine QRun_n (by kernel_rfl) ?_
        refine QRun_bool false x2 (by kernel_rfl) (fun w => by kernel_rfl) gx2 ?_
        exact QRun_done [13] (by kernel_rfl) (by kernel_rfl)
    refine QRun_b [.bool x2] 11 _ (by kernel_rfl) (fun w => by kernel_rfl) ?_
    exact QRun_done [2] (by kernel_rfl) (by kernel_rfl)
  have H2 : Hold h h1 [] := H1
  have hF := M.ret_some hF
  subst hF
  exact Run_ret1 rfl (ResV_tmp (v := .bool x2) (by kernel_rfl)) ⟨rfl, H2⟩

set_option maxRecDepth 100000 in
set_option maxHeartbeats 4000000 in
theorem w_math_bits_OnesCount64 (h : Heap) (x_ : Int) (n : Nat) (r : Int) (hF : math_bits_OnesCount64 x_ n = some r) :
    Fn Try.prog 185 #[.int .u64 x_] h fun v h' => v = .int .i64 r ∧ h' = h := by
  unfold math_bits_OnesCount64 at hF
  refine Fn_enter (args := [.int .u64 x_]) Try.func185 rfl (by kernel_rfl) (by kernel_rfl) (fun w0 _ => ?_)
  refine Run_seq ?_
  refine Run_reg 1 (by kernel_rfl) (L' := [(0, .int .u64 x_)]) ?_ ?_
  · refine QRun_b [.int .i64 0] 0 _ (by kernel_rfl) (fun w => by kernel_rfl) ?_
    exact QRun_done [0] (by kernel_rfl) (by kernel_rfl)
  refine Run_seq ?_
  obtain ⟨u1, hz1, hF⟩ := M.bind_some hF
  have hz1 := M.guard_some hz1
  refine Run_reg 7 (by kernel_rfl) (L' := [(0, .int .u64 (IntKind.u64.wrap ((ibit .and .u64 (ishr .u64 x_ 1) 6148914691236517205) + (ibit .and .u64 x_ 6148914691236517205))))]) ?_ ?_
  · refine QRun_b [.int .u64 x_] 0 _ (by kernel_rfl) (fun w => by kernel_rfl) ?_
    refine QRun_y (.int .u64 (ishr .u64 x_ 1)) (by kernel_rfl) (Y_shr (k := .u64) (x := x_) (kk := .u64) (y := 1) (by kernel_rfl) hz1) ?_
    refine QRun_b [.int .u64 (ibit .and .u64 (ishr .u64 x_ 1) 6148914691236517205), .int .u64 x_, .int .u64 (ibit .and .u64 x_ 6148914691236517205), .int .u64 (IntKind.u64.wrap ((ibit .and .u64 (ishr .u64 x_ 1) 6148914691236517205) + (ibit .and .u64 x_ 6148914691236517205))), .int .u64 (IntKind.u64.wrap ((ibit .and .u64 (ishr .u64 x_ 1) 6148914691236517205) + (ibit .and .u64 x_ 6148914691236517205)))] 2 _ (by kernel_rfl) (fun w => by kernel_rfl) ?_
    exact QRun_done [0] (by kernel_rfl) (by kernel_rfl)
  refine Run_seq ?_
  obtain ⟨u2, hz2, hF⟩ := M.bind_some hF
  have hz2 := M.guard_some hz2
  refine Run_reg 7 (by kernel_rfl) (L' := [(0, .int .u64 (IntKind.u64.wrap ((ibit .and .u64 (ishr .u64 (IntKind.u64.wrap ((ibit .and .u64 (ishr .u64 x_ 1) 6148914691236517205) + (ibit .and .u64 x_ 6148914691236517205))) 2) 3689348814741910323) + (ibit .and .u64 (IntKind.u64.wrap ((ibit .and .u64 (ishr .u64 x_ 1) 6148914691236517205) + (ibit .and .u64 x_ 6148914691236517205))) 3689348814741910323))))]) ?_ ?_
  · refine QRun_b [.int .u64 (IntKind.u64.wrap ((ibit .and .u64 (ishr .u64 x_ 1) 6148914691236517205) + (ibit .and .u64 x_ 6148914691236517205)))] 0 _ (by kernel_rfl) (fun w => by kernel_rfl) ?_
    refine QRun_y (.int .u64 (ishr .u64 (IntKind.u64.wrap ((ibit .and .u64 (ishr .u64 x_ 1) 6148914691236517205) + (ibit .and .u64 x_ 6148914691236517205))) 2)) (by kernel_rfl) (Y_shr (k := .u64) (x := IntKind.u64.wrap ((ibit .and .u64 (ishr .u64 x_ 1) 6148914691236517205) + (ibit .and .u64 x_ 6148914691236517205))) (kk := .u64) (y := 2) (by kernel_rfl) hz2) ?_
    refine QRun_b [.int .u64 (ibit .and .u64 (ishr .u64 (IntKind.u64.wrap ((ibit .and .u64 (ishr .u64 x_ 1) 6148914691236517205) + (ibit .and .u64 x_ 6148914691236517205))) 2) 3689348814741910323), .int .u64 (IntKind.u64.wrap ((ibit .and .u64 (ishr .u64 x_ 1) 6148914691236517205) + (ibit .and .u64 x_ 6148914691236517205))), .int .u64 (ibit .and .u64 (IntKind.u64.wrap ((ibit .and .u64 (ishr .u64 x_ 1) 6148914691236517205) + (ibit .and .u64 x_ 6148914691236517205))) 3689348814741910323), .int .u64 (IntKind.u64.wrap ((ibit .and .u64 (ishr .u64 (IntKind.u64.wrap ((ibit .and .u64 (ishr .u64 x_ 1) 6148914691236517205) + (ibit .and .u64 x_ 6148914691236517205))) 2) 3689348814741910323) + (ibit .and .u64 (IntKind.u64.wrap ((ibit .and .u64 (ishr .u64 x_ 1) 6148914691236517205) + (ibit .and .u64 x_ 6148914691236517205))) 3689348814741910323))), .int .u64 (IntKind.u64.wrap ((ibit .and .u64 (ishr .u64 (IntKind.u64.wrap ((ibit .and .u64 (ishr .u64 x_ 1) 6148914691236517205) + (ibit .and .u64 x_ 6148914691236517205))) 2) 3689348814741910323) + (ibit .and .u64 (IntKind.u64.wrap ((ibit .and .u64 (ishr .u64 x_ 1) 6148914691236517205) + (ibit .and .u64 x_ 6148914691236517205))) 3689348814741910323)))] 2 _ (by kernel_rfl) (fun w => by kernel_rfl) ?_
    exact QRun_done [0] (by kernel_rfl) (by kernel_rfl)
  refine Run_seq ?_
  obtain ⟨u3, hz3, hF⟩ := M.bind_some hF
  have hz3 := M.guard_some hz3
  refine Run_reg 6 (by kernel_rfl) (L' := [(0, .int .u64 (ibit .and .u64 (IntKind.u64.wrap ((ishr .u64 (IntKind.u64.wrap ((ibit .and .u64 (ishr .u64 (IntKind.u64.wrap ((ibit .and .u64 (ishr .u64 x_ 1) 6148914691236517205) + (ibit .and .u64 x_ 6148914691236517205))) 2) 3689348814741910323) + (ibit .and .u64 (IntKind.u64.wrap ((ibit .and .u64 (ishr .u64 x_ 1) 6148914691236517205) + (ibit .and .u64 x_ 6148914691236517205))) 3689348814741910323))) 4) + (IntKind.u64.wrap ((ibit .and .u64 (ishr .u64 (IntKind.u64.wrap ((ibit .and .u64 (ishr .u64 x_ 1) 6148914691236517205) + (ibit .and .u64 x_ 6148914691236517205))) 2) 3689348814741910323) + (ibit .and .u64 (IntKind.u64.wrap ((ibit .and .u64 (ishr .u64 x_ 1) 6148914691236517205) + (ibit .and .u64 x_ 6148914691236517205))) 3689348814741910323))))) 1085102592571150095))]) ?_ ?_
  · refine QRun_b [.int .u64 (IntKind.u64.wrap ((ibit .and .u64 (ishr .u64 (IntKind.u64.wrap ((ibit .and .u64 (ishr .u64 x_ 1) 6148914691236517205) + (ibit .and .u64 x_ 6148914691236517205))) 2) 3689348814741910323) + (ibit .and .u64 (IntKind.u64.wrap ((ibit .and .u64 (ishr .u64 x_ 1) 6148914691236517205) + (ibit .and .u64 x_ 6148914691236517205))) 3689348814741910323)))] 0 _ (by kernel_rfl) (fun w => by kernel_rfl) ?_
    refine QRun_y (.int .u64 (ishr .u64 (IntKind.u64.wrap ((ibit .and .u64 (ishr .u64 (IntKind.u64.wrap ((ibit .and .u64 (ishr .u64 x_ 1) 6148914691236517205) + (ibit .and .u64 x_ 6148914691236517205))) 2) 3689348814741910323) + (ibit .and .u64 (IntKind.u64.wrap ((ibit .and .u64 (ishr .u64 x_ 1) 6148914691236517205) + (ibit .and .u64 x_ 6148914691236517205))) 3689348814741910323))) 4)) (by kernel_rfl) (Y_shr (k := .u64) (x := IntKind.u64.wrap ((ibit .and .u64 (ishr .u64 (IntKind.u64.wrap ((ibit .and .u64 (ishr .u64 x_ 1) 6148914691236517205) + (ibit .and .u64 x_ 6148914691236517205))) 2) 3689348814741910323) + (ibit .and .u64 (IntKind.u64.wrap ((ibit .and .u64 (ishr .u64 x_ 1) 6148914691236517205) + (ibit .and .u64 x_ 6148914691236517205))) 3689348814741910323))) (kk := .u64) (y := 4) (by kernel_rfl) hz3) ?_
    refine QRun_b [.int .u64 (IntKind.u64.wrap ((ibit .and .u64 (ishr .u64 (IntKind.u64.wrap ((ibit .and .u64 (ishr .u64 x_ 1) 6148914691236517205) + (ibit .and .u64 x_ 6148914691236517205))) 2) 3689348814741910323) + (ibit .and .u64 (IntKind.u64.wrap ((ibit .and .u64 (ishr .u64 x_ 1) 6148914691236517205) + (ibit .and .u64 x_ 6148914691236517205))) 3689348814741910323))), .int .u64 (IntKind.u64.wrap ((ishr .u64 (IntKind.u64.wrap ((ibit .and .u64 (ishr .u64 (IntKind.u64.wrap ((ibit .and .u64 (ishr .u64 x_ 1) 6148914691236517205) + (ibit .and .u64 x_ 6148914691236517205))) 2) 3689348814741910323) + (ibit .and .u64 (IntKind.u64.wrap ((ibit .and .u64 (ishr .u64 x_ 1) 6148914691236517205) + (ibit .and .u64 x_ 6148914691236517205))) 3689348814741910323))) 4) + (IntKind.u64.wrap ((ibit .and .u64 (ishr .u64 (IntKind.u64.wrap ((ibit .and .u64 (ishr .u64 x_ 1) 6148914691236517205) + (ibit .and .u64 x_ 6148914691236517205))) 2) 3689348814741910323) + (ibit .and .u64 (IntKind.u64.wrap ((ibit .and .u64 (ishr .u64 x_ 1) 6148914691236517205) + (ibit .and .u64 x_ 6148914691236517205))) 3689348814741910323))))), .int .u64 (ibit .and .u64 (IntKind.u64.wrap ((ishr .u64 (IntKind.u64.wrap ((ibit .and .u64 (ishr .u64 (IntKind.u64.wrap ((ibit .and .u64 (ishr .u64 x_ 1) 6148914691236517205) + (ibit .and .u64 x_ 6148914691236517205))) 2) 3689348814741910323) + (ibit .and .u64 (IntKind.u64.wrap ((ibit .and .u64 (ishr .u64 x_ 1) 6148914691236517205) + (ibit .and .u64 x_ 6148914691236517205))) 3689348814741910323))) 4) + (IntKind.u64.wrap ((ibit .and .u64 (ishr .u64 (IntKind.u64.wrap ((ibit .and .u64 (ishr .u64 x_ 1) 6148914691236517205) + (ibit .and .u64 x_ 6148914691236517205))) 2) 3689348814741910323) + (ibit .and .u64 (IntKind.u64.wrap ((ibit .and .u64 (ishr .u64 x_ 1) 6148914691236517205) + (ibit .and .u64 x_ 6148914691236517205))) 3689348814741910323))))) 1085102592571150095), .int .u64 (ibit .and .u64 (IntKind.u64.wrap ((ishr .u64 (IntKind.u64.wrap ((ibit .and .u64 (ishr .u64 (IntKind.u64.wrap ((ibit .and .u64 (ishr .u64 x_ 1) 6148914691236517205) + (ibit .and .u64 x_ 6148914691236517205))) 2) 3689348814741910323) + (ibit .and .u64 (IntKind.u64.wrap ((ibit .and .u64 (ishr .u64 x_ 1) 6148914691236517205) + (ibit .and .u64 x_ 6148914691236517205))) 3689348814741910323))) 4) + (IntKind.u64.wrap ((ibit .and .u64 (ishr .u64 (IntKind.u64.wrap ((ibit .and .u64 (ishr .u64 x_ 1) 6148914691236517205) + (ibit .and .u64 x_ 6148914691236517205))) 2) 3689348814741910323) + (ibit .and .u64 (IntKind.u64.wrap ((ibit .and .u64 (ishr .u64 x_ 1) 6148914691236517205) + (ibit .and .u64 x_ 6148914691236517205))) 3689348814741910323))))) 1085102592571150095)] 2 _ (by kernel_rfl) (fun w => by kernel_rfl) ?_
    exact QRun_done [0] (by kernel_rfl) (by kernel_rfl)
  refine Run_seq ?_
  obtain ⟨u4, hz4, hF⟩ := M.bind_some hF
  have hz4 := M.guard_some hz4
  refine Run_reg 5 (by kernel_rfl) (L' := [(0, .int .u64 (IntKind.u64.wrap ((ibit .and .u64 (IntKind.u64.wrap ((ishr .u64 (IntKind.u64.wrap ((ibit .and .u64 (ishr .u64 (IntKind.u64.wrap ((ibit .and .u64 (ishr .u64 x_ 1) 6148914691236517205) + (ibit .and .u64 x_ 6148914691236517205))) 2) 3689348814741910323) + (ibit .and .u64 (IntKind.u64.wrap ((ibit .and .u64 (ishr .u64 x_ 1) 6148914691236517205) + (ibit .and .u64 x_ 6148914691236517205))) 3689348814741910323))) 4) + (IntKind.u64.wrap ((ibit .and .u64 (ishr .u64 (IntKind.u64.wrap ((ibit .and .u64 (ishr .u64 x_ 1) 6148914691236517205) + (ibit .and .u64 x_ 6148914691236517205))) 2) 3689348814741910323) + (ibit .and .u64 (IntKind.u64.wrap ((ibit .and .u64 (ishr .u64 x_ 1) 6148914691236517205) + (ibit .and .u64 x_ 6148914691236517205))) 3689348814741910323))))) 1085102592571150095) + (ishr .u64 (ibit .and .u64 (IntKind.u64.wrap ((ishr .u64 (IntKind.u64.wrap ((ibit .and .u64 (ishr .u64 (IntKind.u64.wrap ((ibit .and .u64 (ishr .u64 x_ 1) 6148914691236517205) + (ibit .and .u64 x_ 6148914691236517205))) 2) 3689348814741910323) + (ibit .and .u64 (IntKind.u64.wrap ((ibit .and .u64 (ishr .u64 x_ 1) 6148914691236517205) + (ibit .and .u64 x_ 6148914691236517205))) 3689348814741910323))) 4) + (IntKind.u64.wrap ((ibit .and .u64 (ishr .u64 (IntKind.u64.wrap ((ibit .and .u64 (ishr .u64 x_ 1) 6148914691236517205) + (ibit .and .u64 x_ 6148914691236517205))) 2) 3689348814741910323) + (ibit .and .u64 (IntKind.u64.wrap ((ibit .and .u64 (ishr .u64 x_ 1) 6148914691236517205) + (ibit .and .u64 x_ 6148914691236517205))) 3689348814741910323))))) 1085102592571150095) 8))))]) ?_ ?_
  · refine QRun_b [.int .u64 (ibit .and .u64 (IntKind.u64.wrap ((ishr .u64 (IntKind.u64.wrap ((ibit .and .u64 (ishr .u64 (IntKind.u64.wrap ((ibit .and .u64 (ishr .u64 x_ 1) 6148914691236517205) + (ibit .and .u64 x_ 6148914691236517205))) 2) 3689348814741910323) + (ibit .and .u64 (IntKind.u64.wrap ((ibit .and .u64 (ishr .u64 x_ 1) 6148914691236517205) + (ibit .and .u64 x_ 6148914691236517205))) 3689348814741910323))) 4) + (IntKind.u64.wrap ((ibit .and .u64 (ishr .u64 (IntKind.u64.wrap ((ibit .and .u64 (ishr .u64 x_ 1) 6148914691236517205) + (ibit .and .u64 x_ 6148914691236517205))) 2) 3689348814741910323) + (ibit .and .u64 (IntKind.u64.wrap ((ibit .and .u64 (ishr .u64 x_ 1) 6148914691236517205) + (ibit .and .u64 x_ 6148914691236517205))) 3689348814741910323))))) 1085102592571150095), .int .u64 (ibit .and .u64 (IntKind.u64.wrap ((ishr .u64 (IntKind.u64.wrap ((ibit .and .u64 (ishr .u64 (IntKind.u64.wrap ((ibit .and .u64 (ishr .u64 x_ 1) 6148914691236517205) + (ibit .and .u64 x_ 6148914691236517205))) 2) 3689348814741910323) + (ibit .and .u64 (IntKind.u64.wrap ((ibit .and .u64 (ishr .u64 x_ 1) 6148914691236517205) + (ibit .and .u64 x_ 6148914691236517205))) 3689348814741910323))) 4) + (IntKind.u64.wrap ((ibit .and .u64 (ishr .u64 (IntKind.u64.wrap ((ibit .and .u64 (ishr .u64 x_ 1) 6148914691236517205) + (ibit .and .u64 x_ 6148914691236517205))) 2) 3689348814741910323) + (ibit .and .u64 (IntKind.u64.wrap ((ibit .and .u64 (ishr .u64 x_ 1) 6148914691236517205) + (ibit .and .u64 x_ 6148914691236517205))) 3689348814741910323))))) 1085102592571150095)] 0 _ (by kernel_rfl) (fun w => by kernel_rfl) ?_
    refine QRun_y (.int .u64 (ishr .u64 (ibit .and .u64 (IntKind.u64.wrap ((ishr .u64 (IntKind.u64.wrap ((ibit .and .u64 (ishr .u64 (IntKind.u64.wrap ((ibit .and .u64 (ishr .u64 x_ 1) 6148914691236517205) + (ibit .and .u64 x_ 6148914691236517205))) 2) 3689348814741910323) + (ibit .and .u64 (IntKind.u64.wrap ((ibit .and .u64 (ishr .u64 x_ 1) 6148914691236517205) + (ibit .and .u64 x_ 6148914691236517205))) 3689348814741910323))) 4) + (IntKind.u64.wrap ((ibit .and .u64 (ishr .u64 (IntKind.u64.wrap ((ibit .and .u64 (ishr .u64 x_ 1) 6148914691236517205) + (ibit .and .u64 x_ 6148914691236517205))) 2) 3689348814741910323) + (ibit .and .u64 (IntKind.u64.wrap ((ibit .and .u64 (ishr .u64 x_ 1) 6148914691236517205) + (ibit .and .u64 x_ 6148914691236517205))) 3689348814741910323))))) 1085102592571150095) 8)) (by kernel_rfl) (Y_shr (k := .u64) (x := ibit .and .u64 (IntKind.u64.wrap ((ishr .u64 (IntKind.u64.wrap ((ibit .and .u64 (ishr .u64 (IntKind.u64.wrap ((ibit .and .u64 (ishr .u64 x_ 1) 6148914691236517205) + (ibit .and .u64 x_ 6148914691236517205))) 2) 3689348814741910323) + (ibit .and .u64 (IntKind.u64.wrap ((ibit .and .u64 (ishr .u64 x_ 1) 6148914691236517205) + (ibit .and .u64 x_ 6148914691236517205))) 3689348814741910323))) 4) + (IntKind.u64.wrap ((ibit .and .u64 (ishr .u64 (IntKind.u64.wrap ((ibit .and .u64 (ishr .u64 x_ 1) 6148914691236517205) + (ibit .and .u64 x_ 6148914691236517205))) 2) 3689348814741910323) + (ibit .and .u64 (IntKind.u64.wrap ((ibit .and .u64 (ishr .u64 x_ 1) 6148914691236517205) + (ibit .and .u64 x_ 6148914691236517205))) 3689348814741910323))))) 1085102592571150095) (kk := .u64) (y := 8) (by kernel_rfl) hz4) ?_
    refine QRun_b [.int .u64 (IntKind.u64.wrap ((ibit .and .u64 (IntKind.u64.wrap ((ishr .u64 (IntKind.u64.wrap ((ibit .and .u64 (ishr .u64 (IntKind.u64.wrap ((ibit .and .u64 (ishr .u64 x_ 1) 6148914691236517205) + (ibit .and .u64 x_ 6148914691236517205))) 2) 3689348814741910323) + (ibit .and .u64 (IntKind.u64.wrap ((ibit .and .u64 (ishr .u64 x_ 1) 6148914691236517205) + (ibit .and .u64 x_ 6148914691236517205))) 3689348814741910323))) 4) + (IntKind.u64.wrap ((ibit .and .u64 (ishr .u64 (IntKind.u64.wrap ((ibit .and .u64 (ishr .u64 x_ 1) 6148914691236517205) + (ibit .and .u64 x_ 6148914691236517205))) 2) 3689348814741910323) + (ibit .and .u64 (IntKind.u64.wrap ((ibit .and .u64 (ishr .u64 x_ 1) 6148914691236517205) + (ibit .and .u64 x_ 6148914691236517205))) 3689348814741910323))))) 1085102592571150095) + (ishr .u64 (ibit .and .u64 (IntKind.u64.wrap ((ishr .u64 (IntKind.u64.wrap ((ibit .and .u64 (ishr .u64 (IntKind.u64.wrap ((ibit .and .u64 (ishr .u64 x_ 1) 6148914691236517205) + (ibit .and .u64 x_ 6148914691236517205))) 2) 3689348814741910323) + (ibit .and .u64 (IntKind.u64.wrap ((ibit .and .u64 (ishr .u64 x_ 1) 6148914691236517205) + (ibit .and .u64 x_ 6148914691236517205))) 3689348814741910323))) 4) + (IntKind.u64.wrap ((ibit .and .u64 (ishr .u64 (IntKind.u64.wrap ((ibit .and .u64 (ishr .u64 x_ 1) 6148914691236517205) + (ibit .and .u64 x_ 6148914691236517205))) 2) 3689348814741910323) + (ibit .and .u64 (IntKind.u64.wrap ((ibit .and .u64 (ishr .u64 x_ 1) 6148914691236517205) + (ibit .and .u64 x_ 6148914691236517205))) 3689348814741910323))))) 1085102592571150095) 8))), .int .u64 (IntKind.u64.wrap ((ibit .and .u64 (IntKind.u64.wrap ((ishr .u64 (IntKind.u64.wrap ((ibit .and .u64 (ishr .u64 (IntKind.u64.wrap ((ibit .and .u64 (ishr .u64 x_ 1) 6148914691236517205) + (ibit .and .u64 x_ 6148914691236517205))) 2) 3689348814741910323) + (ibit .and .u64 (IntKind.u64.wrap ((ibit .and .u64 (ishr .u64 x_ 1) 6148914691236517205) + (ibit .and .u64 x_ 6148914691236517205))) 3689348814741910323))) 4) + (IntKind.u64.wrap ((ibit .and .u64 (ishr .u64 (IntKind.u64.wrap ((ibit .and .u64 (ishr .u64 x_ 1) 6148914691236517205) + (ibit .and .u64 x_ 6148914691236517205))) 2) 3689348814741910323) + (ibit .and .u64 (IntKind.u64.wrap ((ibit .and .u64 (ishr .u64 x_ 1) 6148914691236517205) + (ibit .and .u64 x_ 6148914691236517205))) 3689348814741910323))))) 1085102592571150095) + (ishr .u64 (ibit .and .u64 (IntKind.u64.wrap ((ishr .u64 (IntKind.u64.wrap ((ibit .and .u64 (ishr .u64 (IntKind.u64.wrap ((ibit .and .u64 (ishr .u64 x_ 1) 6148914691236517205) + (ibit .and .u64 x_ 6148914691236517205))) 2) 3689348814741910323) + (ibit .and .u64 (IntKind.u64.wrap ((ibit .and .u64 (ishr .u64 x_ 1) 6148914691236517205) + (ibit .and .u64 x_ 6148914691236517205))) 3689348814741910323))) 4) + (IntKind.u64.wrap ((ibit .and .u64 (ishr .u64 (IntKind.u64.wrap ((ibit .and .u64 (ishr .u64 x_ 1) 6148914691236517205) + (ibit .and .u64 x_ 6148914691236517205))) 2) 3689348814741910323) + (ibit .and .u64 (IntKind.u64.wrap ((ibit .and .u64 (ishr .u64 x_ 1) 6148914691236517205) + (ibit .and .u64 x_ 6148914691236517205))) 3689348814741910323))))) 1085102592571150095) 8)))] 3 _ (by kernel_rfl) (fun w => by kernel_rfl) ?_
    exact QRun_done [0] (by kernel_rfl) (by kernel_rfl)
  refine Run_seq ?_
  obtain ⟨u5, hz5, hF⟩ := M.bind_some hF
  have hz5 := M.guard_some hz5
  refine Run_reg 5 (by kernel_rfl) (L' := [(0, .int .u64 (IntKind.u64.wrap ((IntKind.u64.wrap ((ibit .and .u64 (IntKind.u64.wrap ((ishr .u64 (IntKind.u64.wrap ((ibit .and .u64 (ishr .u64 (IntKind.u64.wrap ((ibit .and .u64 (ishr .u64 x_ 1) 6148914691236517205) + (ibit .and .u64 x_ 6148914691236517205))) 2) 3689348814741910323) + (ibit .and .u64 (IntKind.u64.wrap ((ibit .and .u64 (ishr .u64 x_ 1) 6148914691236517205) + (ibit .and .u64 x_ 6148914691236517205))) 3689348814741910323))) 4) + (IntKind.u64.wrap ((ibit .and .u64 (ishr .u64 (IntKind.u64.wrap ((ibit .and .u64 (ishr .u64 x_ 1) 6148914691236517205) + (ibit .and .u64 x_ 6148914691236517205))) 2) 3689348814741910323) + (ibit .and .u64 (IntKind.u64.wrap ((ibit .and .u64 (ishr .u64 x_ 1) 6148914691236517205) + (ibit .and .u64 x_ 6148914691236517205))) 3689348814741910323))))) 1085102592571150095) + (ishr .u64 (ibit .and .u64 (IntKind.u64.wrap ((ishr .u64 (IntKind.u64.wrap ((ibit .and .u64 (ishr .u64 (IntKind.u64.wrap ((ibit .and .u64 (ishr .u64 x_ 1) 6148914691236517205) + (ibit .and .u64 x_ 6148914691236517205))) 2) 3689348814741910323) + (ibit .and .u64 (IntKind.u64.wrap ((ibit .and .u64 (ishr .u64 x_ 1) 6148914691236517205) + (ibit .and .u64 x_ 6148914691236517205))) 3689348814741910323))) 4) + (IntKind.u64.wrap ((ibit .and .u64 (ishr .u64 (IntKind.u64.wrap ((ibit .and .u64 (ishr .u64 x_ 1) 6148914691236517205) + (ibit .and .u64 x_ 6148914691236517205))) 2) 3689348814741910323) + (ibit .and .u64 (IntKind.u64.wrap ((ibit .and .u64 (ishr .u64 x_ 1) 6148914691236517205) + (ibit .and .u64 x_ 6148914691236517205))) 3689348814741910323))))) 1085102592571150095) 8))) + (ishr .u64 (IntKind.u64.wrap ((ibit .and .u64 (IntKind.u64.wrap ((ishr .u64 (IntKind.u64.wrap ((ibit .and .u64 (ishr .u64 (IntKind.u64.wrap ((ibit .and .u64 (ishr .u64 x_ 1) 6148914691236517205) + (ibit .and .u64 x_ 6148914691236517205))) 2) 3689348814741910323) + (ibit .and .u64 (IntKind.u64.wrap ((ibit .and .u64 (ishr .u64 x_ 1) 6148914691236517205) + (ibit .and .u64 x_ 6148914691236517205))) 3689348814741910323))) 4) + (IntKind.u64.wrap ((ibit .and .u64 (ishr .u64 (IntKind.u64.wrap ((ibit .and .u64 (ishr .u64 x_ 1) 6148914691236517205) + (ibit .and .u64 x_ 6148914691236517205))) 2) 3689348814741910323) + (ibit .and .u64 (IntKind.u64.wrap ((ibit .and .u64 (ishr .u64 x_ 1) 6148914691236517205) + (ibit .and .u64 x_ 6148914691236517205))) 3689348814741910323))))) 1085102592571150095) + (ishr .u64 (ibit .and .u64 (IntKind.u64.wrap ((ishr .u64 (IntKind.u64.wrap ((ibit .and .u64 (ishr .u64 (IntKind.u64.wrap ((ibit .and .u64 (ishr .u64 x_ 1) 6148914691236517205) + (ibit .and .u64 x_ 6148914691236517205))) 2) 3689348814741910323) + (ibit .and .u64 (IntKind.u64.wrap ((ibit .and .u64 (ishr .u64 x_ 1) 6148914691236517205) + (ibit .and .u64 x_ 6148914691236517205))) 3689348814741910323))) 4) + (IntKind.u64.wrap ((ibit .and .u64 (ishr .u64 (IntKind.u64.wrap ((ibit .and .u64 (ishr .u64 x_ 1) 6148914691236517205) + (ibit .and .u64 x_ 6148914691236517205))) 2) 3689348814741910323) + (ibit .and .u64 (IntKind.u64.wrap ((ibit .and .u64 (ishr .u64 x_ 1) 6148914691236517205) + (ibit .and .u64 x_ 6148914691236517205))) 3689348814741910323))))) 1085102592571150095) 8))) 16))))]) ?_ ?_
  · refine QRun_b [.int .u64 (IntKind.u64.wrap ((ibit .and .u64 (IntKind.u64.wrap ((ishr .u64 (IntKind.u64.wrap ((ibit .and .u64 (ishr .u64 (IntKind.u64.wrap ((ibit .and .u64 (ishr .u64 x_ 1) 6148914691236517205) + (ibit .and .u64 x_ 6148914691236517205))) 2) 3689348814741910323) + (ibit .and .u64 (IntKind.u64.wrap ((ibit .and .u64 (ishr .u64 x_ 1) 6148914691236517205) + (ibit .and .u64 x_ 6148914691236517205))) 3689348814741910323))) 4) + (IntKind.u64.wrap ((ibit .and .u64 (ishr .u64 (IntKind.u64.wrap ((ibit .and .u64 (ishr .u64 x_ 1) 6148914691236517205) + (ibit .and .u64 x_ 6148914691236517205))) 2) 3689348814741910323) + (ibit .and .u64 (IntKind.u64.wrap ((ibit .and .u64 (ishr .u64 x_ 1) 6148914691236517205) + (ibit .and .u64 x_ 6148914691236517205))) 3689348814741910323))))) 1085102592571150095) + (ishr .u64 (ibit .and .u64 (IntKind.u64.wrap ((ishr .u64 (IntKind.u64.wrap ((ibit .and .u64 (ishr .u64 (IntKind.u64.wrap ((ibit .and .u64 (ishr .u64 x_ 1) 6148914691236517205) + (ibit .and .u64 x_ 6148914691236517205))) 2) 3689348814741910323) + (ibit .and .u64 (IntKind.u64.wrap ((ibit .and .u64 (ishr .u64 x_ 1) 6148914691236517205) + (ibit .and .u64 x_ 6148914691236517205))) 3689348814741910323))) 4) + (IntKind.u64.wrap ((ibit .and .u64 (ishr .u64 (IntKind.u64.wrap ((ibit .and .u64 (ishr .u64 x_ 1) 6148914691236517205) + (ibit .and .u64 x_ 6148914691236517205))) 2) 3689348814741910323) + (ibit .and .u64 (IntKind.u64.wrap ((ibit .and .u64 (ishr .u64 x_ 1) 6148914691236517205) + (ibit .and .u64 x_ 6148914691236517205))) 3689348814741910323))))) 1085102592571150095) 8))), .int .u64 (IntKind.u64.wrap ((ibit .and .u64 (IntKind.u64.wrap ((ishr .u64 (IntKind.u64.wrap ((ibit .and .u64 (ishr .u64 (IntKind.u64.wrap ((ibit .and .u64 (ishr .u64 x_ 1) 6148914691236517205) + (ibit .and .u64 x_ 6148914691236517205))) 2) 3689348814741910323) + (ibit .and .u64 (IntKind.u64.wrap ((ibit .and .u64 (ishr .u64 x_ 1) 6148914691236517205) + (ibit .and .u64 x_ 6148914691236517205))) 3689348814741910323))) 4) + (IntKind.u64.wrap ((ibit .and .u64 (ishr .u64 (IntKind.u64.wrap ((ibit .and .u64 (ishr .u64 x_ 1) 6148914691236517205) + (ibit .and .u64 x_ 6148914691236517205))) 2) 3689348814741910323) + (ibit .and .u64 (IntKind.u64.wrap ((ibit .and .u64 (ishr .u64 x_ 1) 6148914691236517205) + (ibit .and .u64 x_ 6148914691236517205))) 3689348814741910323))))) 1085102592571150095) + (ishr .u64 (ibit .and .u64 (IntKind.u64.wrap ((ishr .u64 (IntKind.u64.wrap ((ibit .and .u64 (ishr .u64 (IntKind.u64.wrap ((ibit .and .u64 (ishr .u64 x_ 1) 6148914691236517205) + (ibit .and .u64 x_ 6148914691236517205))) 2) 3689348814741910323) + (ibit .and .u64 (IntKind.u64.wrap ((ibit .and .u64 (ishr .u64 x_ 1) 6148914691236517205) + (ibit .and .u64 x_ 6148914691236517205))) 3689348814741910323))) 4) + (IntKind.u64.wrap ((ibit .and .u64 (ishr .u64 (IntKind.u64.wrap ((ibit .and .u64 (ishr .u64 x_ 1) 6148914691236517205) + (ibit .and .u64 x_ 6148914691236517205))) 2) 3689348814741910323) + (ibit .and .u64 (IntKind.u64.wrap ((ibit .and .u64 (ishr .u64 x_ 1) 6148914691236517205) + (ibit .and .u64 x_ 6148914691236517205))) 3689348814741910323))))) 1085102592571150095) 8)))] 0 _ (by kernel_rfl) (fun w => by kernel_rfl) ?_
    refine QRun_y (.int .u64 (ishr .u64 (IntKind.u64.wrap ((ibit .and .u64 (IntKind.u64.wrap ((ishr .u64 (IntKind.u64.wrap ((ibit .and .u64 (ishr .u64 (IntKind.u64.wrap ((ibit .and .u64 (ishr .u64 x_ 1) 6148914691236517205) + (ibit .and .u64 x_ 6148914691236517205))) 2) 3689348814741910323) + (ibit .and .u64 (IntKind.u64.wrap ((ibit .and .u64 (ishr .u64 x_ 1) 6148914691236517205) + (ibit .and .u64 x_ 6148914691236517205))) 3689348814741910323))) 4) + (IntKind.u64.wrap ((ibit .and .u64 (ishr .u64 (IntKind.u64.wrap ((ibit .and .u64 (ishr .u64 x_ 1) 6148914691236517205) + (ibit .and .u64 x_ 6148914691236517205))) 2) 3689348814741910323) + (ibit .and .u64 (IntKind.u64.wrap ((ibit .and .u64 (ishr .u64 x_ 1) 6148914691236517205) + (ibit .and .u64 x_ 6148914691236517205))) 3689348814741910323))))) 1085102592571150095) + (ishr .u64 (ibit .and .u64 (IntKind.u64.wrap ((ishr .u64 (IntKind.u64.wrap ((ibit .and .u64 (ishr .u64 (IntKind.u64.wrap ((ibit .and .u64 (ishr .u64 x_ 1) 6148914691236517205) + (ibit .and .u64 x_ 6148914691236517205))) 2) 3689348814741910323) + (ibit .and .u64 (IntKind.u64.wrap ((ibit .and .u64 (ishr .u64 x_ 1) 6148914691236517205) + (ibit .and .u64 x_ 6148914691236517205))) 3689348814741910323))) 4) + (IntKind.u64.wrap ((ibit .and .u64 (ishr .u64 (IntKind.u64.wrap ((ibit .and .u64 (ishr .u64 x_ 1) 6148914691236517205) + (ibit .and .u64 x_ 6148914691236517205))) 2) 3689348814741910323) + (ibit .and .u64 (IntKind.u64.wrap ((ibit .and .u64 (ishr .u64 x_ 1) 6148914691236517205) + (ibit .and .u64 x_ 6148914691236517205))) 3689348814741910323))))) 1085102592571150095) 8))) 16)) (by kernel_rfl) (Y_shr (k := .u64) (x := IntKind.u64.wrap ((ibit .and .u64 (IntKind.u64.wrap ((ishr .u64 (IntKind.u64.wrap ((ibit .and .u64 (ishr .u64 (IntKind.u64.wrap ((ibit .and .u64 (ishr .u64 x_ 1) 6148914691236517205) + (ibit .and .u64 x_ 6148914691236517205))) 2) 3689348814741910323) + (ibit .and .u64 (IntKind.u64.wrap ((ibit .and .u64 (ishr .u64 x_ 1) 6148914691236517205) + (ibit .and .u64 x_ 6148914691236517205))) 3689348814741910323))) 4) + (IntKind.u64.wrap ((ibit .and .u64 (ishr .u64 (IntKind.u64.wrap ((ibit .and .u64 (ishr .u64 x_ 1) 6148914691236517205) + (ibit .and .u64 x_ 6148914691236517205))) 2) 3689348814741910323) + (ibit .and .u64 (IntKind.u64.wrap ((ibit .and .u64 (ishr .u64 x_ 1) 6148914691236517205) + (ibit .and .u64 x_ 6148914691236517205))) 3689348814741910323))))) 1085102592571150095) + (ishr .u64 (ibit .and .u64 (IntKind.u64.wrap ((ishr .u64 (IntKind.u64.wrap ((ibit .and .u64 (ishr .u64 (IntKind.u64.wrap ((ibit .and .u64 (ishr .u64 x_ 1) 6148914691236517205) + (ibit .and .u64 x_ 6148914691236517205))) 2) 3689348814741910323) + (ibit .and .u64 (IntKind.u64.wrap ((ibit .and .u64 (ishr .u64 x_ 1) 6148914691236517205) + (ibit .and .u64 x_ 6148914691236517205))) 3689348814741910323))) 4) + (IntKind.u64.wrap ((ibit .and .u64 (ishr .u64 (IntKind.u64.wrap ((ibit .and .u64 (ishr .u64 x_ 1) 6148914691236517205) + (ibit .and .u64 x_ 6148914691236517205))) 2) 3689348814741910323) + (ibit .and .u64 (IntKind.u64.wrap ((ibit .and .u64 (ishr .u64 x_ 1) 6148914691236517205) + (ibit .and .u64 x_ 6148914691236517205))) 3689348814741910323))))) 1085102592571150095) 8))) (kk := .u64) (y := 16) (by kernel_rfl) hz5) ?_
    refine QRun_b [.int .u64 (IntKind.u64.wrap ((IntKind.u64.wrap ((ibit .and .u64 (IntKind.u64.wrap ((ishr .u64 (IntKind.u64.wrap ((ibit .and .u64 (ishr .u64 (IntKind.u64.wrap ((ibit .and .u64 (ishr .u64 x_ 1) 6148914691236517205) + (ibit .and .u64 x_ 6148914691236517205))) 2) 3689348814741910323) + (ibit .and .u64 (IntKind.u64.wrap ((ibit .and .u64 (ishr .u64 x_ 1) 6148914691236517205) + (ibit .and .u64 x_ 6148914691236517205))) 3689348814741910323))) 4) + (IntKind.u64.wrap ((ibit .and .u64 (ishr .u64 (IntKind.u64.wrap ((ibit .and .u64 (ishr .u64 x_ 1) 6148914691236517205) + (ibit .and .u64 x_ 6148914691236517205))) 2) 3689348814741910323) + (ibit .and .u64 (IntKind.u64.wrap ((ibit .and .u64 (ishr .u64 x_ 1) 6148914691236517205) + (ibit .and .u64 x_ 6148914691236517205))) 3689348814741910323))))) 1085102592571150095) + (ishr .u64 (ibit .and .u64 (IntKind.u64.wrap ((ishr .u64 (IntKind.u64.wrap ((ibit .and .u64 (ishr .u64 (IntKind.u64.wrap ((ibit .and .u64 (ishr .u64 x_ 1) 6148914691236517205) + (ibit .and .u64 x_ 6148914691236517205))) 2) 3689348814741910323) + (ibit .and .u64 (IntKind.u64.wrap ((ibit .and .u64 (ishr .u64 x_ 1) 6148914691236517205) + (ibit .and .u64 x_ 6148914691236517205))) 3689348814741910323))) 4) + (IntKind.u64.wrap ((ibit .and .u64 (ishr .u64 (IntKind.u64.wrap ((ibit .and .u64 (ishr .u64 x_ 1) 6148914691236517205) + (ibit .and .u64 x_ 6148914691236517205))) 2) 3689348814741910323) + (ibit .and .u64 (IntKind.u64.wrap ((ibit .and .u64 (ishr .u64 x_ 1) 6148914691236517205) + (ibit .and .u64 x_ 6148914691236517205))) 3689348814741910323))))) 1085102592571150095) 8))) + (ishr .u64 (IntKind.u64.wrap ((ibit .and .u64 (IntKind.u64.wrap ((ishr .u64 (IntKind.u64.wrap ((ibit .and .u64 (ishr .u64 (IntKind.u64.wrap ((ibit .and .u64 (ishr .u64 x_ 1) 6148914691236517205) + (ibit .and .u64 x_ 6148914691236517205))) 2) 3689348814741910323) + (ibit .and .u64 (IntKind.u64.wrap ((ibit .and .u64 (ishr .u64 x_ 1) 6148914691236517205) + (ibit .and .u64 x_ 6148914691236517205))) 3689348814741910323))) 4) + (IntKind.u64.wrap ((ibit .and .u64 (ishr .u64 (IntKind.u64.wrap ((ibit .and .u64 (ishr .u64 x_ 1) 6148914691236517205) + (ibit .and .u64 x_ 6148914691236517205))) 2) 3689348814741910323) + (ibit .and .u64 (IntKind.u64.wrap ((ibit .and .u64 (ishr .u64 x_ 1) 6148914691236517205) + (ibit .and .u64 x_ 6148914691236517205))) 3689348814741910323))))) 1085102592571150095) + (ishr .u64 (ibit .and .u64 (IntKind.u64.wrap ((ishr .u64 (IntKind.u64.wrap ((ibit .and .u64 (ishr .u64 (IntKind.u64.wrap ((ibit .and .u64 (ishr .u64 x_ 1) 6148914691236517205) + (ibit .and .u64 x_ 6148914691236517205))) 2) 3689348814741910323) + (ibit .and .u64 (IntKind.u64.wrap ((ibit .and .u64 (ishr .u64 x_ 1) 6148914691236517205) + (ibit .and .u64 x_ 6148914691236517205))) 3689348814741910323))) 4) + (IntKind.u64.wrap ((ibit .and .u64 (ishr .u64 (IntKind.u64.wrap ((ibit .and .u64 (ishr .u64 x_ 1) 6148914691236517205) + (ibit .and .u64 x_ 6148914691236517205))) 2) 3689348814741910323) + (ibit .and .u64 (IntKind.u64.wrap ((ibit .and .u64 (ishr .u64 x_ 1) 6148914691236517205) + (ibit .and .u64 x_ 6148914691236517205))) 3689348814741910323))))) 1085102592571150095) 8))) 16))), .int .u64 (IntKind.u64.wrap ((IntKind.u64.wrap ((ibit .and .u64 (IntKind.u64.wrap ((ishr .u64 (IntKind.u64.wrap ((ibit .and .u64 (ishr .u64 (IntKind.u64.wrap ((ibit .and .u64 (ishr .u64 x_ 1) 6148914691236517205) + (ibit .and .u64 x_ 6148914691236517205))) 2) 3689348814741910323) + (ibit .and .u64 (IntKind.u64.wrap ((ibit .and .u64 (ishr .u64 x_ 1) 6148914691236517205) + (ibit .and .u64 x_ 6148914691236517205))) 3689348814741910323))) 4) + (IntKind.u64.wrap ((ibit .and .u64 (ishr .u64 (IntKind.u64.wrap ((ibit .and .u64 (ishr .u64 x_ 1) 6148914691236517205) + (ibit .and .u64 x_ 6148914691236517205))) 2) 3689348814741910323) + (ibit .and .u64 (IntKind.u64.wrap ((ibit .and .u64 (ishr .u64 x_ 1) 6148914691236517205) + (ibit .and .u64 x_ 6148914691236517205))) 3689348814741910323))))) 1085102592571150095) + (ishr .u64 (ibit .and .u64 (IntKind.u64.wrap ((ishr .u64 (IntKind.u64.wrap ((ibit .and .u64 (ishr .u64 (IntKind.u64.wrap ((ibit .and .u64 (ishr .u64 x_ 1) 6148914691236517205) + (ibit .and .u64 x_ 6148914691236517205))) 2) 3689348814741910323) + (ibit .and .u64 (IntKind.u64.wrap ((ibit .and .u64 (ishr .u64 x_ 1) 6148914691236517205) + (ibit .and .u64 x_ 6148914691236517205))) 3689348814741910323))) 4) + (IntKind.u64.wrap ((ibit .and .u64 (ishr .u64 (IntKind.u64.wrap ((ibit .and .u64 (ishr .u64 x_ 1) 6148914691236517205) + (ibit .and .u64 x_ 6148914691236517205))) 2) 3689348814741910323) + (ibit .and .u64 (IntKind.u64.wrap ((ibit .and .u64 (ishr .u64 x_ 1) 6148914691236517205) + (ibit .and .u64 x_ 6148914691236517205))) 3689348814741910323))))) 1085102592571150095) 8))) + (ishr .u64 (IntKind.u64.wrap ((ibit .and .u64 (IntKind.u64.wrap ((ishr .u64 (IntKind.u64.wrap ((ibit .and .u64 (ishr .u64 (IntKind.u64.wrap ((ibit .and .u64 (ishr .u64 x_ 1) 6148914691236517205) + (ibit .and .u64 x_ 6148914691236517205))) 2) 3689348814741910323) + (ibit .and .u64 (IntKind.u64.wrap ((ibit .and .u64 (ishr .u64 x_ 1) 6148914691236517205) + (ibit .and .u64 x_ 6148914691236517205))) 3689348814741910323))) 4) + (IntKind.u64.wrap ((ibit .and .u64 (ishr .u64 (IntKind.u64.wrap ((ibit .and .u64 (ishr .u64 x_ 1) 6148914691236517205) + (ibit .and .u64 x_ 6148914691236517205))) 2) 3689348814741910323) + (ibit .and .u64 (IntKind.u64.wrap ((ibit .and .u64 (ishr .u64 x_ 1) 6148914691236517205) + (ibit .and .u64 x_ 6148914691236517205))) 3689348814741910323))))) 1085102592571150095) + (ishr .u64 (ibit .and .u64 (IntKind.u64.wrap ((ishr .u64 (IntKind.u64.wrap ((ibit .and .u64 (ishr .u64 (IntKind.u64.wrap ((ibit .and .u64 (ishr .u64 x_ 1) 6148914691236517205) + (ibit .and .u64 x_ 6148914691236517205))) 2) 3689348814741910323) + (ibit .and .u64 (IntKind.u64.wrap ((ibit .and .u64 (ishr .u64 x_ 1) 6148914691236517205) + (ibit .and .u64 x_ 6148914691236517205))) 3689348814741910323))) 4) + (IntKind.u64.wrap ((ibit .and .u64 (ishr .u64 (IntKind.u64.wrap ((ibit .and .u64 (ishr .u64 x_ 1) 6148914691236517205) + (ibit .and .u64 x_ 6148914691236517205))) 2) 3689348814741910323) + (ibit .and .u64 (IntKind.u64.wrap ((ibit .and .u64 (ishr .u64 x_ 1) 6148914691236517205) + (ibit .and .u64 x_ 6148914691236517205))) 3689348814741910323))))) 1085102592571150095) 8))) 16)))] 3 _ (by kernel_rfl) (fun w => by kernel_rfl) ?_
    exact QRun_done [0] (by kernel_rfl) (by kernel_rfl)
  refine Run_seq ?_
  obtain ⟨u6, hz6, hF⟩ := M.bind_some hF
  have hz6 := M.guard_some hz6
  refine Run_reg 5 (by kernel_rfl) (L' := [(0, .int .u64 (IntKind.u64.wrap ((IntKind.u64.wrap ((IntKind.u64.wrap ((ibit .and .u64 (IntKind.u64.wrap ((ishr .u64 (IntKind.u64.wrap ((ibit .and .u64 (ishr .u64 (IntKind.u64.wrap ((ibit .and .u64 (ishr .u64 x_ 1) 6148914691236517205) + (ibit .and .u64 x_ 6148914691236517205))) 2) 3689348814741910323) + (ibit .and .u64 (IntKind.u64.wrap ((ibit .and .u64 (ishr .u64 x_ 1) 6148914691236517205) + (ibit .and .u64 x_ 6148914691236517205))) 3689348814741910323))) 4) + (IntKind.u64.wrap ((ibit .and .u64 (ishr .u64 (IntKind.u64.wrap ((ibit .and .u64 (ishr .u64 x_ 1) 6148914691236517205) + (ibit .and .u64 x_ 6148914691236517205))) 2) 3689348814741910323) + (ibit .and .u64 (IntKind.u64.wrap ((ibit .and .u64 (ishr .u64 x_ 1) 6148914691236517205) + (ibit .and .u64 x_ 6148914691236517205))) 3689348814741910323))))) 1085102592571150095) + (ishr .u64 (ibit .and .u64 (IntKind.u64.wrap ((ishr .u64 (IntKind.u64.wrap ((ibit .and .u64 (ishr .u64 (IntKind.u64.wrap ((ibit .and .u64 (ishr .u64 x_ 1) 6148914691236517205) + (ibit .and .u64 x_ 6148914691236517205))) 2) 3689348814741910323) + (ibit .and .u64 (IntKind.u64.wrap ((ibit .and .u64 (ishr .u64 x_ 1) 6148914691236517205) + (ibit .and .u64 x_ 6148914691236517205))) 3689348814741910323))) 4) + (IntKind.u64.wrap ((ibit .and .u64 (ishr .u64 (IntKind.u64.wrap ((ibit .and .u64 (ishr .u64 x_ 1) 6148914691236517205) + (ibit .and .u64 x_ 6148914691236517205))) 2) 3689348814741910323) + (ibit .and .u64 (IntKind.u64.wrap ((ibit .and .u64 (ishr .u64 x_ 1) 6148914691236517205) + (ibit .and .u64 x_ 6148914691236517205))) 3689348814741910323))))) 1085102592571150095) 8))) + (ishr .u64 (IntKind.u64.wrap ((ibit .and .u64 (IntKind.u64.wrap ((ishr .u64 (IntKind.u64.wrap ((ibit .and .u64 (ishr .u64 (IntKind.u64.wrap ((ibit .and .u64 (ishr .u64 x_ 1) 6148914691236517205) + (ibit .and .u64 x_ 6148914691236517205))) 2) 3689348814741910323) + (ibit .and .u64 (IntKind.u64.wrap ((ibit .and .u64 (ishr .u64 x_ 1) 6148914691236517205) + (ibit .and .u64 x_ 6148914691236517205))) 3689348814741910323))) 4) + (IntKind.u64.wrap ((ibit .and .u64 (ishr .u64 (IntKind.u64.wrap ((ibit .and .u64 (ishr .u64 x_ 1) 6148914691236517205) + (ibit .and .u64 x_ 6148914691236517205))) 2) 3689348814741910323) + (ibit .and .u64 (IntKind.u64.wrap ((ibit .and .u64 (ishr .u64 x_ 1) 6148914691236517205) + (ibit .and .u64 x_ 6148914691236517205))) 3689348814741910323))))) 1085102592571150095) + (ishr .u64 (ibit .and .u64 (IntKind.u64.wrap ((ishr .u64 (IntKind.u64.wrap ((ibit .and .u64 (ishr .u64 (IntKind.u64.wrap ((ibit .and .u64 (ishr .u64 x_ 1) 6148914691236517205) + (ibit .and .u64 x_ 6148914691236517205))) 2) 3689348814741910323) + (ibit .and .u64 (IntKind.u64.wrap ((ibit .and .u64 (ishr .u64 x_ 1) 6148914691236517205) + (ibit .and .u64 x_ 6148914691236517205))) 3689348814741910323))) 4) + (IntKind.u64.wrap ((ibit .and .u64 (ishr .u64 (IntKind.u64.wrap ((ibit .and .u64 (ishr .u64 x_ 1) 6148914691236517205) + (ibit .and .u64 x_ 6148914691236517205))) 2) 3689348814741910323) + (ibit .and .u64 (IntKind.u64.wrap ((ibit .and .u64 (ishr .u64 x_ 1) 6148914691236517205) + (ibit .and .u64 x_ 6148914691236517205))) 3689348814741910323))))) 1085102592571150095) 8))) 16))) + (ishr .u64 (IntKind.u64.wrap ((IntKind.u64.wrap ((ibit .and .u64 (IntKind.u64.wrap ((ishr .u64 (IntKind.u64.wrap ((ibit .and .u64 (ishr .u64 (IntKind.u64.wrap ((ibit .and .u64 (ishr .u64 x_ 1) 6148914691236517205) + (ibit .and .u64 x_ 6148914691236517205))) 2) 3689348814741910323) + (ibit .and .u64 (IntKind.u64.wrap ((ibit .and .u64 (ishr .u64 x_ 1) 6148914691236517205) + (ibit .and .u64 x_ 6148914691236517205))) 3689348814741910323))) 4) + (IntKind.u64.wrap ((ibit .and .u64 (ishr .u64 (IntKind.u64.wrap ((ibit .and .u64 (ishr .u64 x_ 1) 6148914691236517205) + (ibit .and .u64 x_ 6148914691236517205))) 2) 3689348814741910323) + (ibit .and .u64 (IntKind.u64.wrap ((ibit .and .u64 (ishr .u64 x_ 1) 6148914691236517205) + (ibit .and .u64 x_ 6148914691236517205))) 3689348814741910323))))) 1085102592571150095) + (ishr .u64 (ibit .and .u64 (IntKind.u64.wrap ((ishr .u64 (IntKind.u64.wrap ((ibit .and .u64 (ishr .u64 (IntKind.u64.wrap ((ibit .and .u64 (ishr .u64 x_ 1) 6148914691236517205) + (ibit .and .u64 x_ 6148914691236517205))) 2) 3689348814741910323) + (ibit .and .u64 (IntKind.u64.wrap ((ibit .and .u64 (ishr .u64 x_ 1) 6148914691236517205) + (ibit .and .u64 x_ 6148914691236517205))) 3689348814741910323))) 4) + (IntKind.u64.wrap ((ibit .and .u64 (ishr .u64 (IntKind.u64.wrap ((ibit .and .u64 (ishr .u64 x_ 1) 6148914691236517205) + (ibit .and .u64 x_ 6148914691236517205))) 2) 3689348814741910323) + (ibit .and .u64 (IntKind.u64.wrap ((ibit .and .u64 (ishr .u64 x_ 1) 6148914691236517205) + (ibit .and .u64 x_ 6148914691236517205))) 3689348814741910323))))) 1085102592571150095) 8))) + (ishr .u64 (IntKind.u64.wrap ((ibit .and .u64 (IntKind.u64.wrap ((ishr .u64 (IntKind.u64.wrap ((ibit .and .u64 (ishr .u64 (IntKind.u64.wrap ((ibit .and .u64 (ishr .u64 x_ 1) 6148914691236517205) + (ibit .and .u64 x_ 6148914691236517205))) 2) 3689348814741910323) + (ibit .and .u64 (IntKind.u64.wrap ((ibit .and .u64 (ishr .u64 x_ 1) 6148914691236517205) + (ibit .and .u64 x_ 6148914691236517205))) 3689348814741910323))) 4) + (IntKind.u64.wrap ((ibit .and .u64 (ishr .u64 (IntKind.u64.wrap ((ibit .and .u64 (ishr .u64 x_ 1) 6148914691236517205) + (ibit .and .u64 x_ 6148914691236517205))) 2) 3689348814741910323) + (ibit .and .u64 (IntKind.u64.wrap ((ibit .and .u64 (ishr .u64 x_ 1) 6148914691236517205) + (ibit .and .u64 x_ 6148914691236517205))) 3689348814741910323))))) 1085102592571150095) + (ishr .u64 (ibit .and .u64 (IntKind.u64.wrap ((ishr .u64 (IntKind.u64.wrap ((ibit .and .u64 (ishr .u64 (IntKind.u64.wrap ((ibit .and .u64 (ishr .u64 x_ 1) 6148914691236517205) + (ibit .and .u64 x_ 6148914691236517205))) 2) 3689348814741910323) + (ibit .and .u64 (IntKind.u64.wrap ((ibit .and .u64 (ishr .u64 x_ 1) 6148914691236517205) + (ibit .and .u64 x_ 6148914691236517205))) 3689348814741910323))) 4) + (IntKind.u64.wrap ((ibit .and .u64 (ishr .u64 (IntKind.u64.wrap ((ibit .and .u64 (ishr .u64 x_ 1) 6148914691236517205) + (ibit .and .u64 x_ 6148914691236517205))) 2) 3689348814741910323) + (ibit .and .u64 (IntKind.u64.wrap ((ibit .and .u64 (ishr .u64 x_ 1) 6148914691236517205) + (ibit .and .u64 x_ 6148914691236517205))) 3689348814741910323))))) 1085102592571150095) 8))) 16))) 32))))]) ?_ ?_
  · refine QRun_b [.int .u64 (IntKind.u64.wrap ((IntKind.u64.wrap ((ibit .and .u64 (IntKind.u64.wrap ((ishr .u64 (IntKind.u64.wrap ((ibit .and .u64 (ishr .u64 (IntKind.u64.wrap ((ibit .and .u64 (ishr .u64 x_ 1) 6148914691236517205) + (ibit .and .u64 x_ 6148914691236517205))) 2) 3689348814741910323) + (ibit .and .u64 (IntKind.u64.wrap ((ibit .and .u64 (ishr .u64 x_ 1) 6148914691236517205) + (ibit .and .u64 x_ 6148914691236517205))) 3689348814741910323))) 4) + (IntKind.u64.wrap ((ibit .and .u64 (ishr .u64 (IntKind.u64.wrap ((ibit .and .u64 (ishr .u64 x_ 1) 6148914691236517205) + (ibit .and .u64 x_ 6148914691236517205))) 2) 3689348814741910323) + (ibit .and .u64 (IntKind.u64.wrap ((ibit .and .u64 (ishr .u64 x_ 1) 6148914691236517205) + (ibit .and .u64 x_ 6148914691236517205))) 3689348814741910323))))) 1085102592571150095) + (ishr .u64 (ibit .and .u64 (IntKind.u64.wrap ((ishr .u64 (IntKind.u64.wrap ((ibit .and .u64 (ishr .u64 (IntKind.u64.wrap ((ibit .and .u64 (ishr .u64 x_ 1) 6148914691236517205) + (ibit .and .u64 x_ 6148914691236517205))) 2) 3689348814741910323) + (ibit .and .u64 (IntKind.u64.wrap ((ibit .and .u64 (ishr .u64 x_ 1) 6148914691236517205) + (ibit .and .u64 x_ 6148914691236517205))) 3689348814741910323))) 4) + (IntKind.u64.wrap ((ibit .and .u64 (ishr .u64 (IntKind.u64.wrap ((ibit .and .u64 (ishr .u64 x_ 1) 6148914691236517205) + (ibit .and .u64 x_ 6148914691236517205))) 2) 3689348814741910323) + (ibit .and .u64 (IntKind.u64.wrap ((ibit .and .u64 (ishr .u64 x_ 1) 6148914691236517205) + (ibit .and .u64 x_ 6148914691236517205))) 3689348814741910323))))) 1085102592571150095) 8))) + (ishr .u64 (IntKind.u64.wrap ((ibit .and .u64 (IntKind.u64.wrap ((ishr .u64 (IntKind.u64.wrap ((ibit .and .u64 (ishr .u64 (IntKind.u64.wrap ((ibit .and .u64 (ishr .u64 x_ 1) 6148914691236517205) + (ibit .and .u64 x_ 6148914691236517205))) 2) 3689348814741910323) + (ibit .and .u64 (IntKind.u64.wrap ((ibit .and .u64 (ishr .u64 x_ 1) 6148914691236517205) + (ibit .and .u64 x_ 6148914691236517205))) 3689348814741910323))) 4) + (IntKind.u64.wrap ((ibit .and .u64 (ishr .u64 (IntKind.u64.wrap ((ibit .and .u64 (ishr .u64 x_ 1) 6148914691236517205) + (ibit .and .u64 x_ 6148914691236517205))) 2) 3689348814741910323) + (ibit .and .u64 (IntKind.u64.wrap ((ibit .and .u64 (ishr .u64 x_ 1) 6148914691236517205) + (ibit .and .u64 x_ 6148914691236517205))) 3689348814741910323))))) 1085102592571150095) + (ishr .u64 (ibit .and .u64 (IntKind.u64.wrap ((ishr .u64 (IntKind.u64.wrap ((ibit .and .u64 (ishr .u64 (IntKind.u64.wrap ((ibit .and .u64 (ishr .u64 x_ 1) 6148914691236517205) + (ibit .and .u64 x_ 6148914691236517205))) 2) 3689348814741910323) + (ibit .and .u64 (IntKind.u64.wrap ((ibit .and .u64 (ishr .u64 x_ 1) 6148914691236517205) + (ibit .and .u64 x_ 6148914691236517205))) 3689348814741910323))) 4) + (IntKind.u64.wrap ((ibit .and .u64 (ishr .u64 (IntKind.u64.wrap ((ibit .and .u64 (ishr .u64 x_ 1) 6148914691236517205) + (ibit .and .u64 x_ 6148914691236517205))) 2) 3689348814741910323) + (ibit .and .u64 (IntKind.u64.wrap ((ibit .and .u64 (ishr .u64 x_ 1) 6148914691236517205) + (ibit .and .u64 x_ 6148914691236517205))) 3689348814741910323))))) 1085102592571150095) 8))) 16))), .int .u64 (IntKind.u64.wrap ((IntKind.u64.wrap ((ibit .and .u64 (IntKind.u64.wrap ((ishr .u64 (IntKind.u64.wrap ((ibit .and .u64 (ishr .u64 (IntKind.u64.wrap ((ibit .and .u64 (ishr .u64 x_ 1) 6148914691236517205) + (ibit .and .u64 x_ 6148914691236517205))) 2) 3689348814741910323) + (ibit .and .u64 (IntKind.u64.wrap ((ibit .and .u64 (ishr .u64 x_ 1) 6148914691236517205) + (ibit .and .u64 x_ 6148914691236517205))) 3689348814741910323))) 4) + (IntKind.u64.wrap ((ibit .and .u64 (ishr .u64 (IntKind.u64.wrap ((ibit .and .u64 (ishr .u64 x_ 1) 6148914691236517205) + (ibit .and .u64 x_ 6148914691236517205))) 2) 3689348814741910323) + (ibit .and .u64 (IntKind.u64.wrap ((ibit .and .u64 (ishr .u64 x_ 1) 6148914691236517205) + (ibit .and .u64 x_ 6148914691236517205))) 3689348814741910323))))) 1085102592571150095) + (ishr .u64 (ibit .and .u64 (IntKind.u64.wrap ((ishr .u64 (IntKind.u64.wrap ((ibit .and .u64 (ishr .u64 (IntKind.u64.wrap ((ibit .and .u64 (ishr .u64 x_ 1) 6148914691236517205) + (ibit .and .u64 x_ 6148914691236517205))) 2) 3689348814741910323) + (ibit .and .u64 (IntKind.u64.wrap ((ibit .and .u64 (ishr .u64 x_ 1) 6148914691236517205) + (ibit .and .u64 x_ 6148914691236517205))) 3689348814741910323))) 4) + (IntKind.u64.wrap ((ibit .and .u64 (ishr .u64 (IntKind.u64.wrap ((ibit .and .u64 (ishr .u64 x_ 1) 6148914691236517205) + (ibit .and .u64 x_ 6148914691236517205))) 2) 3689348814741910323) + (ibit .and .u64 (IntKind.u64.wrap ((ibit .and .u64 (ishr .u64 x_ 1) 6148914691236517205) + (ibit .and .u64 x_ 6148914691236517205))) 3689348814741910323))))) 1085102592571150095) 8))) + (ishr .u64 (IntKind.u64.wrap ((ibit .and .u64 (IntKind.u64.wrap ((ishr .u64 (IntKind.u64.wrap ((ibit .and .u64 (ishr .u64 (IntKind.u64.wrap ((ibit .and .u64 (ishr .u64 x_ 1) 6148914691236517205) + (ibit .and .u64 x_ 6148914691236517205))) 2) 3689348814741910323) + (ibit .and .u64 (IntKind.u64.wrap ((ibit .and .u64 (ishr .u64 x_ 1) 6148914691236517205) + (ibit .and .u64 x_ 6148914691236517205))) 3689348814741910323))) 4) + (IntKind.u64.wrap ((ibit .and .u64 (ishr .u64 (IntKind.u64.wrap ((ibit .and .u64 (ishr .u64 x_ 1) 6148914691236517205) + (ibit .and .u64 x_ 6148914691236517205))) 2) 3689348814741910323) + (ibit .and .u64 (IntKind.u64.wrap ((ibit .and .u64 (ishr .u64 x_ 1) 6148914691236517205) + (ibit .and .u64 x_ 6148914691236517205))) 3689348814741910323))))) 1085102592571150095) + (ishr .u64 (ibit .and .u64 (IntKind.u64.wrap ((ishr .u64 (IntKind.u64.wrap ((ibit .and .u64 (ishr .u64 (IntKind.u64.wrap ((ibit .and .u64 (ishr .u64 x_ 1) 6148914691236517205) + (ibit .and .u64 x_ 6148914691236517205))) 2) 3689348814741910323) + (ibit .and .u64 (IntKind.u64.wrap ((ibit .and .u64 (ishr .u64 x_ 1) 6148914691236517205) + (ibit .and .u64 x_ 6148914691236517205))) 3689348814741910323))) 4) + (IntKind.u64.wrap ((ibit .and .u64 (ishr .u64 (IntKind.u64.wrap ((ibit .and .u64 (ishr .u64 x_ 1) 6148914691236517205) + (ibit .and .u64 x_ 6148914691236517205))) 2) 3689348814741910323) + (ibit .and .u64 (IntKind.u64.wrap ((ibit .and .u64 (ishr .u64 x_ 1) 6148914691236517205) + (ibit .and .u64 x_ 6148914691236517205))) 3689348814741910323))))) 1085102592571150095) 8))) 16)))] 0 _ (by kernel_rfl) (fun w => by kernel_rfl) ?_
    refine QRun_y (.int .u64 (ishr .u64 (IntKind.u64.wrap ((IntKind.u64.wrap ((ibit .and .u64 (IntKind.u64.wrap ((ishr .u64 (IntKind.u64.wrap ((ibit .and .u64 (ishr .u64 (IntKind.u64.wrap ((ibit .and .u64 (ishr .u64 x_ 1) 6148914691236517205) + (ibit .and .u64 x_ 6148914691236517205))) 2) 3689348814741910323) + (ibit .and .u64 (IntKind.u64.wrap ((ibit .and .u64 (ishr .u64 x_ 1) 6148914691236517205) + (ibit .and .u64 x_ 6148914691236517205))) 3689348814741910323))) 4) + (IntKind.u64.wrap ((ibit .and .u64 (ishr .u64 (IntKind.u64.wrap ((ibit .and .u64 (ishr .u64 x_ 1) 6148914691236517205) + (ibit .and .u64 x_ 6148914691236517205))) 2) 3689348814741910323) + (ibit .and .u64 (IntKind.u64.wrap ((ibit .and .u64 (ishr .u64 x_ 1) 6148914691236517205) + (ibit .and .u64 x_ 6148914691236517205))) 3689348814741910323))))) 1085102592571150095) + (ishr .u64 (ibit .and .u64 (IntKind.u64.wrap ((ishr .u64 (IntKind.u64.wrap ((ibit .and .u64 (ishr .u64 (IntKind.u64.wrap ((ibit .and .u64 (ishr .u64 x_ 1) 6148914691236517205) + (ibit .and .u64 x_ 6148914691236517205))) 2) 3689348814741910323) + (ibit .and .u64 (IntKind.u64.wrap ((ibit .and .u64 (ishr .u64 x_ 1) 6148914691236517205) + (ibit .and .u64 x_ 6148914691236517205))) 3689348814741910323))) 4) + (IntKind.u64.wrap ((ibit .and .u64 (ishr .u64 (IntKind.u64.wrap ((ibit .and .u64 (ishr .u64 x_ 1) 6148914691236517205) + (ibit .and .u64 x_ 6148914691236517205))) 2) 3689348814741910323) + (ibit .and .u64 (IntKind.u64.wrap ((ibit .and .u64 (ishr .u64 x_ 1) 6148914691236517205) + (ibit .and .u64 x_ 6148914691236517205))) 3689348814741910323))))) 1085102592571150095) 8))) + (ishr .u64 (IntKind.u64.wrap ((ibit .and .u64 (IntKind.u64.wrap ((ishr .u64 (IntKind.u64.wrap ((ibit .and .u64 (ishr .u64 (IntKind.u64.wrap ((ibit .and .u64 (ishr .u64 x_ 1) 6148914691236517205) + (ibit .and .u64 x_ 6148914691236517205))) 2) 3689348814741910323) + (ibit .and .u64 (IntKind.u64.wrap ((ibit .and .u64 (ishr .u64 x_ 1) 6148914691236517205) + (ibit .and .u64 x_ 6148914691236517205))) 3689348814741910323))) 4) + (IntKind.u64.wrap ((ibit .and .u64 (ishr .u64 (IntKind.u64.wrap ((ibit .and .u64 (ishr .u64 x_ 1) 6148914691236517205) + (ibit .and .u64 x_ 6148914691236517205))) 2) 3689348814741910323) + (ibit .and .u64 (IntKind.u64.wrap ((ibit .and .u64 (ishr .u64 x_ 1) 6148914691236517205) + (ibit .and .u64 x_ 6148914691236517205))) 3689348814741910323))))) 1085102592571150095) + (ishr .u64 (ibit .and .u64 (IntKind.u64.wrap ((ishr .u64 (IntKind.u64.wrap ((ibit .and .u64 (ishr .u64 (IntKind.u64.wrap ((ibit .and .u64 (ishr .u64 x_ 1) 6148914691236517205) + (ibit .and .u64 x_ 6148914691236517205))) 2) 3689348814741910323) + (ibit .and .u64 (IntKind.u64.wrap ((ibit .and .u64 (ishr .u64 x_ 1) 6148914691236517205) + (ibit .and .u64 x_ 6148914691236517205))) 3689348814741910323))) 4) + (IntKind.u64.wrap ((ibit .and .u64 (ishr .u64 (IntKind.u64.wrap ((ibit .and .u64 (ishr .u64 x_ 1) 6148914691236517205) + (ibit .and .u64 x_ 6148914691236517205))) 2) 3689348814741910323) + (ibit .and .u64 (IntKind.u64.wrap ((ibit .and .u64 (ishr .u64 x_ 1) 6148914691236517205) + (ibit .and .u64 x_ 6148914691236517205))) 3689348814741910323))))) 1085102592571150095) 8))) 16))) 32)) (by kernel_rfl) (Y_shr (k := .u64) (x := IntKind.u64.wrap ((IntKind.u64.wrap ((ibit .and .u64 (IntKind.u64.wrap ((ishr .u64 (IntKind.u64.wrap ((ibit .and .u64 (ishr .u64 (IntKind.u64.wrap ((ibit .and .u64 (ishr .u64 x_ 1) 6148914691236517205) + (ibit .and .u64 x_ 6148914691236517205))) 2) 3689348814741910323) + (ibit .and .u64 (IntKind.u64.wrap ((ibit .and .u64 (ishr .u64 x_ 1) 6148914691236517205) + (ibit .and .u64 x_ 6148914691236517205))) 3689348814741910323))) 4) + (IntKind.u64.wrap ((ibit .and .u64 (ishr .u64 (IntKind.u64.wrap ((ibit .and .u64 (ishr .u64 x_ 1) 6148914691236517205) + (ibit .and .u64 x_ 6148914691236517205))) 2) 3689348814741910323) + (ibit .and .u64 (IntKind.u64.wrap ((ibit .and .u64 (ishr .u64 x_ 1) 6148914691236517205) + (ibit .and .u64 x_ 6148914691236517205))) 3689348814741910323))))) 1085102592571150095) + (ishr .u64 (ibit .and .u64 (IntKind.u64.wrap ((ishr .u64 (IntKind.u64.wrap ((ibit .and .u64 (ishr .u64 (IntKind.u64.wrap ((ibit .and .u64 (ishr .u64 x_ 1) 6148914691236517205) + (ibit .and .u64 x_ 6148914691236517205))) 2) 3689348814741910323) + (ibit .and .u64 (IntKind.u64.wrap ((ibit .and .u64 (ishr .u64 x_ 1) 6148914691236517205) + (ibit .and .u64 x_ 6148914691236517205))) 3689348814741910323))) 4) + (IntKind.u64.wrap ((ibit .and .u64 (ishr .u64 (IntKind.u64.wrap ((ibit .and .u64 (ishr .u64 x_ 1) 6148914691236517205) + (ibit .and .u64 x_ 6148914691236517205))) 2) 3689348814741910323) + (ibit .and .u64 (IntKind.u64.wrap ((ibit .and .u64 (ishr .u64 x_ 1) 6148914691236517205) + (ibit .and .u64 x_ 6148914691236517205))) 3689348814741910323))))) 1085102592571150095) 8))) + (ishr .u64 (IntKind.u64.wrap ((ibit .and .u64 (IntKind.u64.wrap ((ishr .u64 (IntKind.u64.wrap ((ibit .and .u64 (ishr .u64 (IntKind.u64.wrap ((ibit .and .u64 (ishr .u64 x_ 1) 6148914691236517205) + (ibit .and .u64 x_ 6148914691236517205))) 2) 3689348814741910323) + (ibit .and .u64 (IntKind.u64.wrap ((ibit .and .u64 (ishr .u64 x_ 1) 6148914691236517205) + (ibit .and .u64 x_ 6148914691236517205))) 3689348814741910323))) 4) + (IntKind.u64.wrap ((ibit .and .u64 (ishr .u64 (IntKind.u64.wrap ((ibit .and .u64 (ishr .u64 x_ 1) 6148914691236517205) + (ibit .and .u64 x_ 6148914691236517205))) 2) 3689348814741910323) + (ibit .and .u64 (IntKind.u64.wrap ((ibit .and .u64 (ishr .u64 x_ 1) 6148914691236517205) + (ibit .and .u64 x_ 6148914691236517205))) 3689348814741910323))))) 1085102592571150095) + (ishr .u64 (ibit .and .u64 (IntKind.u64.wrap ((ishr .u64 (IntKind.u64.wrap ((ibit .and .u64 (ishr .u64 (IntKind.u64.wrap ((ibit .and .u64 (ishr .u64 x_ 1) 6148914691236517205) + (ibit .and .u64 x_ 6148914691236517205))) 2) 3689348814741910323) + (ibit .and .u64 (IntKind.u64.wrap ((ibit .and .u64 (ishr .u64 x_ 1) 6148914691236517205) + (ibit .and .u64 x_ 6148914691236517205))) 3689348814741910323))) 4) + (IntKind.u64.wrap ((ibit .and .u64 (ishr .u64 (IntKind.u64.wrap ((ibit .and .u64 (ishr .u64 x_ 1) 6148914691236517205) + (ibit .and .u64 x_ 6148914691236517205))) 2) 3689348814741910323) + (ibit .and .u64 (IntKind.u64.wrap ((ibit .and .u64 (ishr .u64 x_ 1) 6148914691236517205) + (ibit .and .u64 x_ 6148914691236517205))) 3689348814741910323))))) 1085102592571150095) 8))) 16))) (kk := .u64) (y := 32) (by kernel_rfl) hz6) ?_
    refine QRun_b [.int .u64 (IntKind.u64.wrap ((IntKind.u64.wrap ((IntKind.u64.wrap ((ibit .and .u64 (IntKind.u64.wrap ((ishr .u64 (IntKind.u64.wrap ((ibit .and .u64 (ishr .u64 (IntKind.u64.wrap ((ibit .and .u64 (ishr .u64 x_ 1) 6148914691236517205) + (ibit .and .u64 x_ 6148914691236517205))) 2) 3689348814741910323) + (ibit .and .u64 (IntKind.u64.wrap ((ibit .and .u64 (ishr .u64 x_ 1) 6148914691236517205) + (ibit .and .u64 x_ 6148914691236517205))) 3689348814741910323))) 4) + (IntKind.u64.wrap ((ibit .and .u64 (ishr .u64 (IntKind.u64.wrap ((ibit .and .u64 (ishr .u64 x_ 1) 6148914691236517205) + (ibit .and .u64 x_ 6148914691236517205))) 2) 3689348814741910323) + (ibit .and .u64 (IntKind.u64.wrap ((ibit .and .u64 (ishr .u64 x_ 1) 6148914691236517205) + (ibit .and .u64 x_ 6148914691236517205))) 3689348814741910323))))) 1085102592571150095) + (ishr .u64 (ibit .and .u64 (IntKind.u64.wrap ((ishr .u64 (IntKind.u64.wrap ((ibit .and .u64 (ishr .u64 (IntKind.u64.wrap ((ibit .and .u64 (ishr .u64 x_ 1) 6148914691236517205) + (ibit .and .u64 x_ 6148914691236517205))) 2) 3689348814741910323) + (ibit .and .u64 (IntKind.u64.wrap ((ibit .and .u64 (ishr .u64 x_ 1) 6148914691236517205) + (ibit .and .u64 x_ 6148914691236517205))) 3689348814741910323))) 4) + (IntKind.u64.wrap ((ibit .and .u64 (ishr .u64 (IntKind.u64.wrap ((ibit .and .u64 (ishr .u64 x_ 1) 6148914691236517205) + (ibit .and .u64 x_ 6148914691236517205))) 2) 3689348814741910323) + (ibit .and .u64 (IntKind.u64.wrap ((ibit .and .u64 (ishr .u64 x_ 1) 6148914691236517205) + (ibit .and .u64 x_ 6148914691236517205))) 3689348814741910323))))) 1085102592571150095) 8))) + (ishr .u64 (IntKind.u64.wrap ((ibit .and .u64 (IntKind.u64.wrap ((ishr .u64 (IntKind.u64.wrap ((ibit .and .u64 (ishr .u64 (IntKind.u64.wrap ((ibit .and .u64 (ishr .u64 x_ 1) 6148914691236517205) + (ibit .and .u64 x_ 6148914691236517205))) 2) 3689348814741910323) + (ibit .and .u64 (IntKind.u64.wrap ((ibit .and .u64 (ishr .u64 x_ 1) 6148914691236517205) + (ibit .and .u64 x_ 6148914691236517205))) 3689348814741910323))) 4) + (IntKind.u64.wrap ((ibit .and .u64 (ishr .u64 (IntKind.u64.wrap ((ibit .and .u64 (ishr .u64 x_ 1) 6148914691236517205) + (ibit .and .u64 x_ 6148914691236517205))) 2) 3689348814741910323) + (ibit .and .u64 (IntKind.u64.wrap ((ibit .and .u64 (ishr .u64 x_ 1) 6148914691236517205) + (ibit .and .u64 x_ 6148914691236517205))) 3689348814741910323))))) 1085102592571150095) + (ishr .u64 (ibit .and .u64 (IntKind.u64.wrap ((ishr .u64 (IntKind.u64.wrap ((ibit .and .u64 (ishr .u64 (IntKind.u64.wrap ((ibit .and .u64 (ishr .u64 x_ 1) 6148914691236517205) + (ibit .and .u64 x_ 6148914691236517205))) 2) 3689348814741910323) + (ibit .and .u64 (IntKind.u64.wrap ((ibit .and .u64 (ishr .u64 x_ 1) 6148914691236517205) + (ibit .and .u64 x_ 6148914691236517205))) 3689348814741910323))) 4) + (IntKind.u64.wrap ((ibit .and .u64 (ishr .u64 (IntKind.u64.wrap ((ibit .and .u64 (ishr .u64 x_ 1) 6148914691236517205) + (ibit .and .u64 x_ 6148914691236517205))) 2) 3689348814741910323) + (ibit .and .u64 (IntKind.u64.wrap ((ibit .and .u64 (ishr .u64 x_ 1) 6148914691236517205) + (ibit .and .u64 x_ 6148914691236517205))) 3689348814741910323))))) 1085102592571150095) 8))) 16))) + (ishr .u64 (IntKind.u64.wrap ((IntKind.u64.wrap ((ibit .and .u64 (IntKind.u64.wrap ((ishr .u64 (IntKind.u64.wrap ((ibit .and .u64 (ishr .u64 (IntKind.u64.wrap ((ibit .and .u64 (ishr .u64 x_ 1) 6148914691236517205) + (ibit .and .u64 x_ 6148914691236517205))) 2) 3689348814741910323) + (ibit .and .u64 (IntKind.u64.wrap ((ibit .and .u64 (ishr .u64 x_ 1) 6148914691236517205) + (ibit .and .u64 x_ 6148914691236517205))) 3689348814741910323))) 4) + (IntKind.u64.wrap ((ibit .and .u64 (ishr .u64 (IntKind.u64.wrap ((ibit .and .u64 (ishr .u64 x_ 1) 6148914691236517205) + (ibit .and .u64 x_ 6148914691236517205))) 2) 3689348814741910323) + (ibit .and .u64 (IntKind.u64.wrap ((ibit .and .u64 (ishr .u64 x_ 1) 6148914691236517205) + (ibit .and .u64 x_ 6148914691236517205))) 3689348814741910323))))) 1085102592571150095) + (ishr .u64 (ibit .and .u64 (IntKind.u64.wrap ((ishr .u64 (IntKind.u64.wrap ((ibit .and .u64 (ishr .u64 (IntKind.u64.wrap ((ibit .and .u64 (ishr .u64 x_ 1) 6148914691236517205) + (ibit .and .u64 x_ 6148914691236517205))) 2) 3689348814741910323) + (ibit .and .u64 (IntKind.u64.wrap ((ibit .and .u64 (ishr .u64 x_ 1) 6148914691236517205) + (ibit .and .u64 x_ 6148914691236517205))) 3689348814741910323))) 4) + (IntKind.u64.wrap ((ibit .and .u64 (ishr .u64 (IntKind.u64.wrap ((ibit .and .u64 (ishr .u64 x_ 1) 6148914691236517205) + (ibit .and .u64 x_ 6148914691236517205))) 2) 3689348814741910323) + (ibit .and .u64 (IntKind.u64.wrap ((ibit .and .u64 (ishr .u64 x_ 1) 6148914691236517205) + (ibit .and .u64 x_ 6148914691236517205))) 3689348814741910323))))) 1085102592571150095) 8))) + (ishr .u64 (IntKind.u64.wrap ((ibit .and .u64 (IntKind.u64.wrap ((ishr .u64 (IntKind.u64.wrap ((ibit .and .u64 (ishr .u64 (IntKind.u64.wrap ((ibit .and .u64 (ishr .u64 x_ 1) 6148914691236517205) + (ibit .and .u64 x_ 6148914691236517205))) 2) 3689348814741910323) + (ibit .and .u64 (IntKind.u64.wrap ((ibit .and .u64 (ishr .u64 x_ 1) 6148914691236517205) + (ibit .and .u64 x_ 6148914691236517205))) 3689348814741910323))) 4) + (IntKind.u64.wrap ((ibit .and .u64 (ishr .u64 (IntKind.u64.wrap ((ibit .and .u64 (ishr .u64 x_ 1) 6148914691236517205) + (ibit .and .u64 x_ 6148914691236517205))) 2) 3689348814741910323) + (ibit .and .u64 (IntKind.u64.wrap ((ibit .and .u64 (ishr .u64 x_ 1) 6148914691236517205) + (ibit .and .u64 x_ 6148914691236517205))) 3689348814741910323))))) 1085102592571150095) + (ishr .u64 (ibit .and .u64 (IntKind.u64.wrap ((ishr .u64 (IntKind.u64.wrap ((ibit .and .u64 (ishr .u64 (IntKind.u64.wrap ((ibit .and .u64 (ishr .u64 x_ 1) 6148914691236517205) + (ibit .and .u64 x_ 6148914691236517205))) 2) 3689348814741910323) + (ibit .and .u64 (IntKind.u64.wrap ((ibit .and .u64 (ishr .u64 x_ 1) 6148914691236517205) + (ibit .and .u64 x_ 6148914691236517205))) 3689348814741910323))) 4) + (IntKind.u64.wrap ((ibit .and .u64 (ishr .u64 (IntKind.u64.wrap ((ibit .and .u64 (ishr .u64 x_ 1) 6148914691236517205) + (ibit .and .u64 x_ 6148914691236517205))) 2) 3689348814741910323) + (ibit .and .u64 (IntKind.u64.wrap ((ibit .and .u64 (ishr .u64 x_ 1) 6148914691236517205) + (ibit .and .u64 x_ 6148914691236517205))) 3689348814741910323))))) 1085102592571150095) 8))) 16))) 32))), .int .u64 (IntKind.u64.wrap ((IntKind.u64.wrap ((IntKind.u64.wrap ((ibit .and .u64 (IntKind.u64.wrap ((ishr .u64 (IntKind.u64.wrap ((ibit .and .u64 (ishr .u64 (IntKind.u64.wrap ((ibit .and .u64 (ishr .u64 x_ 1) 6148914691236517205) + (ibit .and .u64 x_ 6148914691236517205))) 2) 3689348814741910323) + (ibit .and .u64 (IntKind.u64.wrap ((ibit .and .u64 (ishr .u64 x_ 1) 6148914691236517205) + (ibit .and .u64 x_ 6148914691236517205))) 3689348814741910323))) 4) + (IntKind.u64.wrap ((ibit .and .u64 (ishr .u64 (IntKind.u64.wrap ((ibit .and .u64 (ishr .u64 x_ 1) 6148914691236517205) + (ibit .and .u64 x_ 6148914691236517205))) 2) 3689348814741910323) + (ibit .and .u64 (IntKind.u64.wrap ((ibit .and .u64 (ishr .u64 x_ 1) 6148914691236517205) + (ibit .and .u64 x_ 6148914691236517205))) 3689348814741910323))))) 1085102592571150095) + (ishr .u64 (ibit .and .u64 (IntKind.u64.wrap ((ishr .u64 (IntKind.u64.wrap ((ibit .and .u64 (ishr .u64 (IntKind.u64.wrap ((ibit .and .u64 (ishr .u64 x_ 1) 6148914691236517205) + (ibit .and .u64 x_ 6148914691236517205))) 2) 3689348814741910323) + (ibit .and .u64 (IntKind.u64.wrap ((ibit .and .u64 (ishr .u64 x_ 1) 6148914691236517205) + (ibit .and .u64 x_ 6148914691236517205))) 3689348814741910323))) 4) + (IntKind.u64.wrap ((ibit .and .u64 (ishr .u64 (IntKind.u64.wrap ((ibit .and .u64 (ishr .u64 x_ 1) 6148914691236517205) + (ibit .and .u64 x_ 6148914691236517205))) 2) 3689348814741910323) + (ibit .and .u64 (IntKind.u64.wrap ((ibit .and .u64 (ishr .u64 x_ 1) 6148914691236517205) + (ibit .and .u64 x_ 6148914691236517205))) 3689348814741910323))))) 1085102592571150095) 8))) + (ishr .u64 (IntKind.u64.wrap ((ibit .and .u64 (IntKind.u64.wrap ((ishr .u64 (IntKind.u64.wrap ((ibit .and .u64 (ishr .u64 (IntKind.u64.wrap ((ibit .and .u64 (ishr .u64 x_ 1) 6148914691236517205) + (ibit .and .u64 x_ 6148914691236517205))) 2) 3689348814741910323) + (ibit .and .u64 (IntKind.u64.wrap ((ibit .and .u64 (ishr .u64 x_ 1) 6148914691236517205) + (ibit .and .u64 x_ 6148914691236517205))) 3689348814741910323))) 4) + (IntKind.u64.wrap ((ibit .and .u64 (ishr .u64 (IntKind.u64.wrap ((ibit .and .u64 (ishr .u64 x_ 1) 6148914691236517205) + (ibit .and .u64 x_ 6148914691236517205))) 2) 3689348814741910323) + (ibit .and .u64 (IntKind.u64.wrap ((ibit .and .u64 (ishr .u64 x_ 1) 6148914691236517205) + (ibit .and .u64 x_ 6148914691236517205))) 3689348814741910323))))) 1085102592571150095) + (ishr .u64 (ibit .and .u64 (IntKind.u64.wrap ((ishr .u64 (IntKind.u64.wrap ((ibit .and .u64 (ishr .u64 (IntKind.u64.wrap ((ibit .and .u64 (ishr .u64 x_ 1) 6148914691236517205) + (ibit .and .u64 x_ 6148914691236517205))) 2) 3689348814741910323) + (ibit .and .u64 (IntKind.u64.wrap ((ibit .and .u64 (ishr .u64 x_ 1) 6148914691236517205) + (ibit .and .u64 x_ 6148914691236517205))) 3689348814741910323))) 4) + (IntKind.u64.wrap ((ibit .and .u64 (ishr .u64 (IntKind.u64.wrap ((ibit .and .u64 (ishr .u64 x_ 1) 6148914691236517205) + (ibit .and .u64 x_ 6148914691236517205))) 2) 3689348814741910323) + (ibit .and .u64 (IntKind.u64.wrap ((ibit .and .u64 (ishr .u64 x_ 1) 6148914691236517205) + (ibit .and .u64 x_ 6148914691236517205))) 3689348814741910323))))) 1085102592571150095) 8))) 16))) + (ishr .u64 (IntKind.u64.wrap ((IntKind.u64.wrap ((ibit .and .u64 (IntKind.u64.wrap ((ishr .u64 (IntKind.u64.wrap ((ibit .and .u64 (ishr .u64 (IntKind.u64.wrap ((ibit .and .u64 (ishr .u64 x_ 1) 6148914691236517205) + (ibit .and .u64 x_ 6148914691236517205))) 2) 3689348814741910323) + (ibit .and .u64 (IntKind.u64.wrap ((ibit .and .u64 (ishr .u64 x_ 1) 6148914691236517205) + (ibit .and .u64 x_ 6148914691236517205))) 3689348814741910323))) 4) + (IntKind.u64.wrap ((ibit .and .u64 (ishr .u64 (IntKind.u64.wrap ((ibit .and .u64 (ishr .u64 x_ 1) 6148914691236517205) + (ibit .and .u64 x_ 6148914691236517205))) 2) 3689348814741910323) + (ibit .and .u64 (IntKind.u64.wrap ((ibit .and .u64 (ishr .u64 x_ 1) 6148914691236517205) + (ibit .and .u64 x_ 6148914691236517205))) 3689348814741910323))))) 1085102592571150095) + (ishr .u64 (ibit .and .u64 (IntKind.u64.wrap ((ishr .u64 (IntKind.u64.wrap ((ibit .and .u64 (ishr .u64 (IntKind.u64.wrap ((ibit .and .u64 (ishr .u64 x_ 1) 6148914691236517205) + (ibit .and .u64 x_ 6148914691236517205))) 2) 3689348814741910323) + (ibit .and .u64 (IntKind.u64.wrap ((ibit .and .u64 (ishr .u64 x_ 1) 6148914691236517205) + (ibit .and .u64 x_ 6148914691236517205))) 3689348814741910323))) 4) + (IntKind.u64.wrap ((ibit .and .u64 (ishr .u64 (IntKind.u64.wrap ((ibit .and .u64 (ishr .u64 x_ 1) 6148914691236517205) + (ibit .and .u64 x_ 6148914691236517205))) 2) 3689348814741910323) + (ibit .and .u64 (IntKind.u64.wrap ((ibit .and .u64 (ishr .u64 x_ 1) 6148914691236517205) + (ibit .and .u64 x_ 6148914691236517205))) 3689348814741910323))))) 1085102592571150095) 8))) + (ishr .u64 (IntKind.u64.wrap ((ibit .and .u64 (IntKind.u64.wrap ((ishr .u64 (IntKind.u64.wrap ((ibit .and .u64 (ishr .u64 (IntKind.u64.wrap ((ibit .and .u64 (ishr .u64 x_ 1) 6148914691236517205) + (ibit .and .u64 x_ 6148914691236517205))) 2) 3689348814741910323) + (ibit .and .u64 (IntKind.u64.wrap ((ibit .and .u64 (ishr .u64 x_ 1) 6148914691236517205) + (ibit .and .u64 x_ 6148914691236517205))) 3689348814741910323))) 4) + (IntKind.u64.wrap ((ibit .and .u64 (ishr .u64 (IntKind.u64.wrap ((ibit .and .u64 (ishr .u64 x_ 1) 6148914691236517205) + (ibit .and .u64 x_ 6148914691236517205))) 2) 3689348814741910323) + (ibit .and .u64 (IntKind.u64.wrap ((ibit .and .u64 (ishr .u64 x_ 1) 6148914691236517205) + (ibit .and .u64 x_ 6148914691236517205))) 3689348814741910323))))) 1085102592571150095) + (ishr .u64 (ibit .and .u64 (IntKind.u64.wrap ((ishr .u64 (IntKind.u64.wrap ((ibit .and .u64 (ishr .u64 (IntKind.u64.wrap ((ibit .and .u64 (ishr .u64 x_ 1) 6148914691236517205) + (ibit .and .u64 x_ 6148914691236517205))) 2) 3689348814741910323) + (ibit .and .u64 (IntKind.u64.wrap ((ibit .and .u64 (ishr .u64 x_ 1) 6148914691236517205) + (ibit .and .u64 x_ 6148914691236517205))) 3689348814741910323))) 4) + (IntKind.u64.wrap ((ibit .and .u64 (ishr .u64 (IntKind.u64.wrap ((ibit .and .u64 (ishr .u64 x_ 1) 6148914691236517205) + (ibit .and .u64 x_ 6148914691236517205))) 2) 3689348814741910323) + (ibit .and .u64 (IntKind.u64.wrap ((ibit .and .u64 (ishr .u64 x_ 1) 6148914691236517205) + (ibit .and .u64 x_ 6148914691236517205))) 3689348814741910323))))) 1085102592571150095) 8))) 16))) 32)))] 3 _ (by kernel_rfl) (fun w => by kernel_rfl) ?_
    exact QRun_done [0] (by kernel_rfl) (by kernel_rfl)
  refine Run_seq ?_
  refine Run_reg 4 (by kernel_rfl) (L' := [(2, .int .i64 (ibit .and .i64 (w64 (IntKind.u64.wrap ((IntKind.u64.wrap ((IntKind.u64.wrap ((ibit .and .u64 (IntKind.u64.wrap ((ishr .u64 (IntKind.u64.wrap ((ibit .and .u64 (ishr .u64 (IntKind.u64.wrap ((ibit .and .u64 (ishr .u64 x_ 1) 6148914691236517205) + (ibit .and .u64 x_ 6148914691236517205))) 2) 3689348814741910323) + (ibit .and .u64 (IntKind.u64.wrap ((ibit .and .u64 (ishr .u64 x_ 1) 6148914691236517205) + (ibit .and .u64 x_ 6148914691236517205))) 3689348814741910323))) 4) + (IntKind.u64.wrap ((ibit .and .u64 (ishr .u64 (IntKind.u64.wrap ((ibit .and .u64 (ishr .u64 x_ 1) 6148914691236517205) + (ibit .and .u64 x_ 6148914691236517205))) 2) 3689348814741910323) + (ibit .and .u64 (IntKind.u64.wrap ((ibit .and .u64 (ishr .u64 x_ 1) 6148914691236517205) + (ibit .and .u64 x_ 6148914691236517205))) 3689348814741910323))))) 1085102592571150095) + (ishr .u64 (ibit .and .u64 (IntKind.u64.wrap ((ishr .u64 (IntKind.u64.wrap ((ibit .and .u64 (ishr .u64 (IntKind.u64.wrap ((ibit .and .u64 (ishr .u64 x_ 1) 6148914691236517205) + (ibit .and .u64 x_ 6148914691236517205))) 2) 3689348814741910323) + (ibit .and .u64 (IntKind.u64.wrap ((ibit .and .u64 (ishr .u64 x_ 1) 6148914691236517205) + (ibit .and .u64 x_ 6148914691236517205))) 3689348814741910323))) 4) + (IntKind.u64.wrap ((ibit .and .u64 (ishr .u64 (IntKind.u64.wrap ((ibit .and .u64 (ishr .u64 x_ 1) 6148914691236517205) + (ibit .and .u64 x_ 6148914691236517205))) 2) 3689348814741910323) + (ibit .and .u64 (IntKind.u64.wrap ((ibit .and .u64 (ishr .u64 x_ 1) 6148914691236517205) + (ibit .and .u64 x_ 6148914691236517205))) 3689348814741910323))))) 1085102592571150095) 8))) + (ishr .u64 (IntKind.u64.wrap ((ibit .and .u64 (IntKind.u64.wrap ((ishr .u64 (IntKind.u64.wrap ((ibit .and .u64 (ishr .u64 (IntKind.u64.wrap ((ibit .and .u64 (ishr .u64 x_ 1) 6148914691236517205) + (ibit .and .u64 x_ 6148914691236517205))) 2) 3689348814741910323) + (ibit .and .u64 (IntKind.u64.wrap ((ibit .and .u64 (ishr .u64 x_ 1) 6148914691236517205) + (ibit .and .u64 x_ 6148914691236517205))) 3689348814741910323))) 4) + (IntKind.u64.wrap ((ibit .and .u64 (ishr .u64 (IntKind.u64.wrap ((ibit .and .u64 (ishr .u64 x_ 1) 6148914691236517205) + (ibit .and .u64 x_ 6148914691236517205))) 2) 3689348814741910323) + (ibit .and .u64 (IntKind.u64.wrap ((ibit .and .u64 (ishr .u64 x_ 1) 6148914691236517205) + (ibit .and .u64 x_ 6148914691236517205))) 3689348814741910323))))) 1085102592571150095) + (ishr .u64 (ibit .and .u64 (IntKind.u64.wrap ((ishr .u64 (IntKind.u64.wrap ((ibit .and .u64 (ishr .u64 (IntKind.u64.wrap ((ibit .and .u64 (ishr .u64 x_ 1) 6148914691236517205) + (ibit .and .u64 x_ 6148914691236517205))) 2) 3689348814741910323) + (ibit .and .u64 (IntKind.u64.wrap ((ibit .and .u64 (ishr .u64 x_ 1) 6148914691236517205) + (ibit .and .u64 x_ 6148914691236517205))) 3689348814741910323))) 4) + (IntKind.u64.wrap ((ibit .and .u64 (ishr .u64 (IntKind.u64.wrap ((ibit .and .u64 (ishr .u64 x_ 1) 6148914691236517205) + (ibit .and .u64 x_ 6148914691236517205))) 2) 3689348814741910323) + (ibit .and .u64 (IntKind.u64.wrap ((ibit .and .u64 (ishr .u64 x_ 1) 6148914691236517205) + (ibit .and .u64 x_ 6148914691236517205))) 3689348814741910323))))) 1085102592571150095) 8))) 16))) + (ishr .u64 (IntKind.u64.wrap ((IntKind.u64.wrap ((ibit .and .u64 (IntKind.u64.wrap ((ishr .u64 (IntKind.u64.wrap ((ibit .and .u64 (ishr .u64 (IntKind.u64.wrap ((ibit .and .u64 (ishr .u64 x_ 1) 6148914691236517205) + (ibit .and .u64 x_ 6148914691236517205))) 2) 3689348814741910323) + (ibit .and .u64 (IntKind.u64.wrap ((ibit .and .u64 (ishr .u64 x_ 1) 6148914691236517205) + (ibit .and .u64 x_ 6148914691236517205))) 3689348814741910323))) 4) + (IntKind.u64.wrap ((ibit .and .u64 (ishr .u64 (IntKind.u64.wrap ((ibit .and .u64 (ishr .u64 x_ 1) 6148914691236517205) + (ibit .and .u64 x_ 6148914691236517205))) 2) 3689348814741910323) + (ibit .and .u64 (IntKind.u64.wrap ((ibit .and .u64 (ishr .u64 x_ 1) 6148914691236517205) + (ibit .and .u64 x_ 6148914691236517205))) 3689348814741910323))))) 1085102592571150095) + (ishr .u64 (ibit .and .u64 (IntKind.u64.wrap ((ishr .u64 (IntKind.u64.wrap ((ibit .and .u64 (ishr .u64 (IntKind.u64.wrap ((ibit .and .u64 (ishr .u64 x_ 1) 6148914691236517205) + (ibit .and .u64 x_ 6148914691236517205))) 2) 3689348814741910323) + (ibit .and .u64 (IntKind.u64.wrap ((ibit .and .u64 (ishr .u64 x_ 1) 6148914691236517205) + (ibit .and .u64 x_ 6148914691236517205))) 3689348814741910323))) 4) + (IntKind.u64.wrap ((ibit .and .u64 (ishr .u64 (IntKind.u64.wrap ((ibit .and .u64 (ishr .u64 x_ 1) 6148914691236517205) + (ibit .and .u64 x_ 6148914691236517205))) 2) 3689348814741910323) + (ibit .and .u64 (IntKind.u64.wrap ((ibit .and .u64 (ishr .u64 x_ 1) 6148914691236517205) + (ibit .and .u64 x_ 6148914691236517205))) 3689348814741910323))))) 1085102592571150095) 8))) + (ishr .u64 (IntKind.u64.wrap ((ibit .and .u64 (IntKind.u64.wrap ((ishr .u64 (IntKind.u64.wrap ((ibit .and .u64 (ishr .u64 (IntKind.u64.wrap ((ibit .and .u64 (ishr .u64 x_ 1) 6148914691236517205) + (ibit .and .u64 x_ 6148914691236517205))) 2) 3689348814741910323) + (ibit .and .u64 (IntKind.u64.wrap ((ibit .and .u64 (ishr .u64 x_ 1) 6148914691236517205) + (ibit .and .u64 x_ 6148914691236517205))) 3689348814741910323))) 4) + (IntKind.u64.wrap ((ibit .and .u64 (ishr .u64 (IntKind.u64.wrap ((ibit .and .u64 (ishr .u64 x_ 1) 6148914691236517205) + (ibit .and .u64 x_ 6148914691236517205))) 2) 3689348814741910323) + (ibit .and .u64 (IntKind.u64.wrap ((ibit .and .u64 (ishr .u64 x_ 1) 6148914691236517205) + (ibit .and .u64 x_ 6148914691236517205))) 3689348814741910323))))) 1085102592571150095) + (ishr .u64 (ibit .and .u64 (IntKind.u64.wrap ((ishr .u64 (IntKind.u64.wrap ((ibit .and .u64 (ishr .u64 (IntKind.u64.wrap ((ibit .and .u64 (ishr .u64 x_ 1) 6148914691236517205) + (ibit .and .u64 x_ 6148914691236517205))) 2) 3689348814741910323) + (ibit .and .u64 (IntKind.u64.wrap ((ibit .and .u64 (ishr .u64 x_ 1) 6148914691236517205) + (ibit .and .u64 x_ 6148914691236517205))) 3689348814741910323))) 4) + (IntKind.u64.wrap ((ibit .and .u64 (ishr .u64 (IntKind.u64.wrap ((ibit .and .u64 (ishr .u64 x_ 1) 6148914691236517205) + (ibit .and .u64 x_ 6148914691236517205))) 2) 3689348814741910323) + (ibit .and .u64 (IntKind.u64.wrap ((ibit .and .u64 (ishr .u64 x_ 1) 6148914691236517205) + (ibit .and .u64 x_ 6148914691236517205))) 3689348814741910323))))) 1085102592571150095) 8))) 16))) 32)))) 127))]) ?_ ?_
  · refine QRun_b [.int .u64 (IntKind.u64.wrap ((IntKind.u64.wrap ((IntKind.u64.wrap ((ibit .and .u64 (IntKind.u64.wrap ((ishr .u64 (IntKind.u64.wrap ((ibit .and .u64 (ishr .u64 (IntKind.u64.wrap ((ibit .and .u64 (ishr .u64 x_ 1) 6148914691236517205) + (ibit .and .u64 x_ 6148914691236517205))) 2) 3689348814741910323) + (ibit .and .u64 (IntKind.u64.wrap ((ibit .and .u64 (ishr .u64 x_ 1) 6148914691236517205) + (ibit .and .u64 x_ 6148914691236517205))) 3689348814741910323))) 4) + (IntKind.u64.wrap ((ibit .and .u64 (ishr .u64 (IntKind.u64.wrap ((ibit .and .u64 (ishr .u64 x_ 1) 6148914691236517205) + (ibit .and .u64 x_ 6148914691236517205))) 2) 3689348814741910323) + (ibit .and .u64 (IntKind.u64.wrap ((ibit .and .u64 (ishr .u64 x_ 1) 6148914691236517205) + (ibit .and .u64 x_ 6148914691236517205))) 3689348814741910323))))) 1085102592571150095) + (ishr .u64 (ibit .and .u64 (IntKind.u64.wrap ((ishr .u64 (IntKind.u64.wrap ((ibit .and .u64 (ishr .u64 (IntKind.u64.wrap ((ibit .and .u64 (ishr .u64 x_ 1) 6148914691236517205) + (ibit .and .u64 x_ 6148914691236517205))) 2) 3689348814741910323) + (ibit .and .u64 (IntKind.u64.wrap ((ibit .and .u64 (ishr .u64 x_ 1) 6148914691236517205) + (ibit .and .u64 x_ 6148914691236517205))) 3689348814741910323))) 4) + (IntKind.u64.wrap ((ibit .and .u64 (ishr .u64 (IntKind.u64.wrap ((ibit .and .u64 (ishr .u64 x_ 1) 6148914691236517205) + (ibit .and .u64 x_ 6148914691236517205))) 2) 3689348814741910323) + (ibit .and .u64 (IntKind.u64.wrap ((ibit .and .u64 (ishr .u64 x_ 1) 6148914691236517205) + (ibit .and .u64 x_ 6148914691236517205))) 3689348814741910323))))) 1085102592571150095) 8))) + (ishr .u64 (IntKind.u64.wrap ((ibit .and .u64 (IntKind.u64.wrap ((ishr .u64 (IntKind.u64.wrap ((ibit .and .u64 (ishr .u64 (IntKind.u64.wrap ((ibit .and .u64 (ishr .u64 x_ 1) 6148914691236517205) + (ibit .and .u64 x_ 6148914691236517205))) 2) 3689348814741910323) + (ibit .and .u64 (IntKind.u64.wrap ((ibit .and .u64 (ishr .u64 x_ 1) 6148914691236517205) + (ibit .and .u64 x_ 6148914691236517205))) 3689348814741910323))) 4) + (IntKind.u64.wrap ((ibit .and .u64 (ishr .u64 (IntKind.u64.wrap ((ibit .and .u64 (ishr .u64 x_ 1) 6148914691236517205) + (ibit .and .u64 x_ 6148914691236517205))) 2) 3689348814741910323) + (ibit .and .u64 (IntKind.u64.wrap ((ibit .and .u64 (ishr .u64 x_ 1) 6148914691236517205) + (ibit .and .u64 x_ 6148914691236517205))) 3689348814741910323))))) 1085102592571150095) + (ishr .u64 (ibit .and .u64 (IntKind.u64.wrap ((ishr .u64 (IntKind.u64.wrap ((ibit .and .u64 (ishr .u64 (IntKind.u64.wrap ((ibit .and .u64 (ishr .u64 x_ 1) 6148914691236517205) + (ibit .and .u64 x_ 6148914691236517205))) 2) 3689348814741910323) + (ibit .and .u64 (IntKind.u64.wrap ((ibit .and .u64 (ishr .u64 x_ 1) 6148914691236517205) + (ibit .and .u64 x_ 6148914691236517205))) 3689348814741910323))) 4) + (IntKind.u64.wrap ((ibit .and .u64 (ishr .u64 (IntKind.u64.wrap ((ibit .and .u64 (ishr .u64 x_ 1) 6148914691236517205) + (ibit .and .u64 x_ 6148914691236517205))) 2) 3689348814741910323) + (ibit .and .u64 (IntKind.u64.wrap ((ibit .and .u64 (ishr .u64 x_ 1) 6148914691236517205) + (ibit .and .u64 x_ 6148914691236517205))) 3689348814741910323))))) 1085102592571150095) 8))) 16))) + (ishr .u64 (IntKind.u64.wrap ((IntKind.u64.wrap ((ibit .and .u64 (IntKind.u64.wrap ((ishr .u64 (IntKind.u64.wrap ((ibit .and .u64 (ishr .u64 (IntKind.u64.wrap ((ibit .and .u64 (ishr .u64 x_ 1) 6148914691236517205) + (ibit .and .u64 x_ 6148914691236517205))) 2) 3689348814741910323) + (ibit .and .u64 (IntKind.u64.wrap ((ibit .and .u64 (ishr .u64 x_ 1) 6148914691236517205) + (ibit .and .u64 x_ 6148914691236517205))) 3689348814741910323))) 4) + (IntKind.u64.wrap ((ibit .and .u64 (ishr .u64 (IntKind.u64.wrap ((ibit .and .u64 (ishr .u64 x_ 1) 6148914691236517205) + (ibit .and .u64 x_ 6148914691236517205))) 2) 3689348814741910323) + (ibit .and .u64 (IntKind.u64.wrap ((ibit .and .u64 (ishr .u64 x_ 1) 6148914691236517205) + (ibit .and .u64 x_ 6148914691236517205))) 3689348814741910323))))) 1085102592571150095) + (ishr .u64 (ibit .and .u64 (IntKind.u64.wrap ((ishr .u64 (IntKind.u64.wrap ((ibit .and .u64 (ishr .u64 (IntKind.u64.wrap ((ibit .and .u64 (ishr .u64 x_ 1) 6148914691236517205) + (ibit .and .u64 x_ 6148914691236517205))) 2) 3689348814741910323) + (ibit .and .u64 (IntKind.u64.wrap ((ibit .and .u64 (ishr .u64 x_ 1) 6148914691236517205) + (ibit .and .u64 x_ 6148914691236517205))) 3689348814741910323))) 4) + (IntKind.u64.wrap ((ibit .and .u64 (ishr .u64 (IntKind.u64.wrap ((ibit .and .u64 (ishr .u64 x_ 1) 6148914691236517205) + (ibit .and .u64 x_ 6148914691236517205))) 2) 3689348814741910323) + (ibit .and .u64 (IntKind.u64.wrap ((ibit .and .u64 (ishr .u64 x_ 1) 6148914691236517205) + (ibit .and .u64 x_ 6148914691236517205))) 3689348814741910323))))) 1085102592571150095) 8))) + (ishr .u64 (IntKind.u64.wrap ((ibit .and .u64 (IntKind.u64.wrap ((ishr .u64 (IntKind.u64.wrap ((ibit .and .u64 (ishr .u64 (IntKind.u64.wrap ((ibit .and .u64 (ishr .u64 x_ 1) 6148914691236517205) + (ibit .and .u64 x_ 6148914691236517205))) 2) 3689348814741910323) + (ibit .and .u64 (IntKind.u64.wrap ((ibit .and .u64 (ishr .u64 x_ 1) 6148914691236517205) + (ibit .and .u64 x_ 6148914691236517205))) 3689348814741910323))) 4) + (IntKind.u64.wrap ((ibit .and .u64 (ishr .u64 (IntKind.u64.wrap ((ibit .and .u64 (ishr .u64 x_ 1) 6148914691236517205) + (ibit .and .u64 x_ 6148914691236517205))) 2) 3689348814741910323) + (ibit .and .u64 (IntKind.u64.wrap ((ibit .and .u64 (ishr .u64 x_ 1) 6148914691236517205) + (ibit .and .u64 x_ 6148914691236517205))) 3689348814741910323))))) 1085102592571150095) + (ishr .u64 (ibit .and .u64 (IntKind.u64.wrap ((ishr .u64 (IntKind.u64.wrap ((ibit .and .u64 (ishr .u64 (IntKind.u64.wrap ((ibit .and .u64 (ishr .u64 x_ 1) 6148914691236517205) + (ibit .and .u64 x_ 6148914691236517205))) 2) 3689348814741910323) + (ibit .and .u64 (IntKind.u64.wrap ((ibit .and .u64 (ishr .u64 x_ 1) 6148914691236517205) + (ibit .and .u64 x_ 6148914691236517205))) 3689348814741910323))) 4) + (IntKind.u64.wrap ((ibit .and .u64 (ishr .u64 (IntKind.u64.wrap ((ibit .and .u64 (ishr .u64 x_ 1) 6148914691236517205) + (ibit .and .u64 x_ 6148914691236517205))) 2) 3689348814741910323) + (ibit .and .u64 (IntKind.u64.wrap ((ibit .and .u64 (ishr .u64 x_ 1) 6148914691236517205) + (ibit .and .u64 x_ 6148914691236517205))) 3689348814741910323))))) 1085102592571150095) 8))) 16))) 32))), .int .i64 (w64 (IntKind.u64.wrap ((IntKind.u64.wrap ((IntKind.u64.wrap ((ibit .and .u64 (IntKind.u64.wrap ((ishr .u64 (IntKind.u64.wrap ((ibit .and .u64 (ishr .u64 (IntKind.u64.wrap ((ibit .and .u64 (ishr .u64 x_ 1) 6148914691236517205) + (ibit .and .u64 x_ 6148914691236517205))) 2) 3689348814741910323) + (ibit .and .u64 (IntKind.u64.wrap ((ibit .and .u64 (ishr .u64 x_ 1) 6148914691236517205) + (ibit .and .u64 x_ 6148914691236517205))) 3689348814741910323))) 4) + (IntKind.u64.wrap ((ibit .and .u64 (ishr .u64 (IntKind.u64.wrap ((ibit .and .u64 (ishr .u64 x_ 1) 6148914691236517205) + (ibit .and .u64 x_ 6148914691236517205))) 2) 3689348814741910323) + (ibit .and .u64 (IntKind.u64.wrap ((ibit .and .u64 (ishr .u64 x_ 1) 6148914691236517205) + (ibit .and .u64 x_ 6148914691236517205))) 3689348814741910323))))) 1085102592571150095) + (ishr .u64 (ibit .and .u64 (IntKind.u64.wrap ((ishr .u64 (IntKind.u64.wrap ((ibit .and .u64 (ishr .u64 (IntKind.u64.wrap ((ibit .and .u64 (ishr .u64 x_ 1) 6148914691236517205) + (ibit .and .u64 x_ 6148914691236517205))) 2) 3689348814741910323) + (ibit .and .u64 (IntKind.u64.wrap ((ibit .and .u64 (ishr .u64 x_ 1) 6148914691236517205) + (ibit .and .u64 x_ 6148914691236517205))) 3689348814741910323))) 4) + (IntKind.u64.wrap ((ibit .and .u64 (ishr .u64 (IntKind.u64.wrap ((ibit .and .u64 (ishr .u64 x_ 1) 6148914691236517205) + (ibit .and .u64 x_ 6148914691236517205))) 2) 3689348814741910323) + (ibit .and .u64 (IntKind.u64.wrap ((ibit .and .u64 (ishr .u64 x_ 1) 6148914691236517205) + (ibit .and .u64 x_ 6148914691236517205))) 3689348814741910323))))) 1085102592571150095) 8))) + (ishr .u64 (IntKind.u64.wrap ((ibit .and .u64 (IntKind.u64.wrap ((ishr .u64 (IntKind.u64.wrap ((ibit .and .u64 (ishr .u64 (IntKind.u64.wrap ((ibit .and .u64 (ishr .u64 x_ 1) 6148914691236517205) + (ibit .and .u64 x_ 6148914691236517205))) 2) 3689348814741910323) + (ibit .and .u64 (IntKind.u64.wrap ((ibit .and .u64 (ishr .u64 x_ 1) 6148914691236517205) + (ibit .and .u64 x_ 6148914691236517205))) 3689348814741910323))) 4) + (IntKind.u64.wrap ((ibit .and .u64 (ishr .u64 (IntKind.u64.wrap ((ibit .and .u64 (ishr .u64 x_ 1) 6148914691236517205) + (ibit .and .u64 x_ 6148914691236517205))) 2) 3689348814741910323) + (ibit .and .u64 (IntKind.u64.wrap ((ibit .and .u64 (ishr .u64 x_ 1) 6148914691236517205) + (ibit .and .u64 x_ 6148914691236517205))) 3689348814741910323))))) 1085102592571150095) + (ishr .u64 (ibit .and .u64 (IntKind.u64.wrap ((ishr .u64 (IntKind.u64.wrap ((ibit .and .u64 (ishr .u64 (IntKind.u64.wrap ((ibit .and .u64 (ishr .u64 x_ 1) 6148914691236517205) + (ibit .and .u64 x_ 6148914691236517205))) 2) 3689348814741910323) + (ibit .and .u64 (IntKind.u64.wrap ((ibit .and .u64 (ishr .u64 x_ 1) 6148914691236517205) + (ibit .and .u64 x_ 6148914691236517205))) 3689348814741910323))) 4) + (IntKind.u64.wrap ((ibit .and .u64 (ishr .u64 (IntKind.u64.wrap ((ibit .and .u64 (ishr .u64 x_ 1) 6148914691236517205) + (ibit .and .u64 x_ 6148914691236517205))) 2) 3689348814741910323) + (ibit .and .u64 (IntKind.u64.wrap ((ibit .and .u64 (ishr .u64 x_ 1) 6148914691236517205) + (ibit .and .u64 x_ 6148914691236517205))) 3689348814741910323))))) 1085102592571150095) 8))) 16))) + (ishr .u64 (IntKind.u64.wrap ((IntKind.u64.wrap ((ibit .and .u64 (IntKind.u64.wrap ((ishr .u64 (IntKind.u64.wrap ((ibit .and .u64 (ishr .u64 (IntKind.u64.wrap ((ibit .and .u64 (ishr .u64 x_ 1) 6148914691236517205) + (ibit .and .u64 x_ 6148914691236517205))) 2) 3689348814741910323) + (ibit .and .u64 (IntKind.u64.wrap ((ibit .and .u64 (ishr .u64 x_ 1) 6148914691236517205) + (ibit .and .u64 x_ 6148914691236517205))) 3689348814741910323))) 4) + (IntKind.u64.wrap ((ibit .and .u64 (ishr .u64 (IntKind.u64.wrap ((ibit .and .u64 (ishr .u64 x_ 1) 6148914691236517205) + (ibit .and .u64 x_ 6148914691236517205))) 2) 3689348814741910323) + (ibit .and .u64 (IntKind.u64.wrap ((ibit .and .u64 (ishr .u64 x_ 1) 6148914691236517205) + (ibit .and .u64 x_ 6148914691236517205))) 3689348814741910323))))) 1085102592571150095) + (ishr .u64 (ibit .and .u64 (IntKind.u64.wrap ((ishr .u64 (IntKind.u64.wrap ((ibit .and .u64 (ishr .u64 (IntKind.u64.wrap ((ibit .and .u64 (ishr .u64 x_ 1) 6148914691236517205) + (ibit .and .u64 x_ 6148914691236517205))) 2) 3689348814741910323) + (ibit .and .u64 (IntKind.u64.wrap ((ibit .and .u64 (ishr .u64 x_ 1) 6148914691236517205) + (ibit .and .u64 x_ 6148914691236517205))) 3689348814741910323))) 4) + (IntKind.u64.wrap ((ibit .and .u64 (ishr .u64 (IntKind.u64.wrap ((ibit .and .u64 (ishr .u64 x_ 1) 6148914691236517205) + (ibit .and .u64 x_ 6148914691236517205))) 2) 3689348814741910323) + (ibit .and .u64 (IntKind.u64.wrap ((ibit .and .u64 (ishr .u64 x_ 1) 6148914691236517205) + (ibit .and .u64 x_ 6148914691236517205))) 3689348814741910323))))) 1085102592571150095) 8))) + (ishr .u64 (IntKind.u64.wrap ((ibit .and .u64 (IntKind.u64.wrap ((ishr .u64 (IntKind.u64.wrap ((ibit .and .u64 (ishr .u64 (IntKind.u64.wrap ((ibit .and .u64 (ishr .u64 x_ 1) 6148914691236517205) + (ibit .and .u64 x_ 6148914691236517205))) 2) 3689348814741910323) + (ibit .and .u64 (IntKind.u64.wrap ((ibit .and .u64 (ishr .u64 x_ 1) 6148914691236517205) + (ibit .and .u64 x_ 6148914691236517205))) 3689348814741910323))) 4) + (IntKind.u64.wrap ((ibit .and .u64 (ishr .u64 (IntKind.u64.wrap ((ibit .and .u64 (ishr .u64 x_ 1) 6148914691236517205) + (ibit .and .u64 x_ 6148914691236517205))) 2) 3689348814741910323) + (ibit .and .u64 (IntKind.u64.wrap ((ibit .and .u64 (ishr .u64 x_ 1) 6148914691236517205) + (ibit .and .u64 x_ 6148914691236517205))) 3689348814741910323))))) 1085102592571150095) + (ishr .u64 (ibit .and .u64 (IntKind.u64.wrap ((ishr .u64 (IntKind.u64.wrap ((ibit .and .u64 (ishr .u64 (IntKind.u64.wrap ((ibit .and .u64 (ishr .u64 x_ 1) 6148914691236517205) + (ibit .and .u64 x_ 6148914691236517205))) 2) 3689348814741910323) + (ibit .and .u64 (IntKind.u64.wrap ((ibit .and .u64 (ishr .u64 x_ 1) 6148914691236517205) + (ibit .and .u64 x_ 6148914691236517205))) 3689348814741910323))) 4) + (IntKind.u64.wrap ((ibit .and .u64 (ishr .u64 (IntKind.u64.wrap ((ibit .and .u64 (ishr .u64 x_ 1) 6148914691236517205) + (ibit .and .u64 x_ 6148914691236517205))) 2) 3689348814741910323) + (ibit .and .u64 (IntKind.u64.wrap ((ibit .and .u64 (ishr .u64 x_ 1) 6148914691236517205) + (ibit .and .u64 x_ 6148914691236517205))) 3689348814741910323))))) 1085102592571150095) 8))) 16))) 32)))), .int .i64 (ibit .and .i64 (w64 (IntKind.u64.wrap ((IntKind.u64.wrap ((IntKind.u64.wrap ((ibit .and .u64 (IntKind.u64.wrap ((ishr .u64 (IntKind.u64.wrap ((ibit .and .u64 (ishr .u64 (IntKind.u64.wrap ((ibit .and .u64 (ishr .u64 x_ 1) 6148914691236517205) + (ibit .and .u64 x_ 6148914691236517205))) 2) 3689348814741910323) + (ibit .and .u64 (IntKind.u64.wrap ((ibit .and .u64 (ishr .u64 x_ 1) 6148914691236517205) + (ibit .and .u64 x_ 6148914691236517205))) 3689348814741910323))) 4) + (IntKind.u64.wrap ((ibit .and .u64 (ishr .u64 (IntKind.u64.wrap ((ibit .and .u64 (ishr .u64 x_ 1) 6148914691236517205) + (ibit .and .u64 x_ 6148914691236517205))) 2) 3689348814741910323) + (ibit .and .u64 (IntKind.u64.wrap ((ibit .and .u64 (ishr .u64 x_ 1) 6148914691236517205) + (ibit .and .u64 x_ 6148914691236517205))) 3689348814741910323))))) 1085102592571150095) + (ishr .u64 (ibit .and .u64 (IntKind.u64.wrap ((ishr .u64 (IntKind.u64.wrap ((ibit .and .u64 (ishr .u64 (IntKind.u64.wrap ((ibit .and .u64 (ishr .u64 x_ 1) 6148914691236517205) + (ibit .and .u64 x_ 6148914691236517205))) 2) 3689348814741910323) + (ibit .and .u64 (IntKind.u64.wrap ((ibit .and .u64 (ishr .u64 x_ 1) 6148914691236517205) + (ibit .and .u64 x_ 6148914691236517205))) 3689348814741910323))) 4) + (IntKind.u64.wrap ((ibit .and .u64 (ishr .u64 (IntKind.u64.wrap ((ibit .and .u64 (ishr .u64 x_ 1) 6148914691236517205) + (ibit .and .u64 x_ 6148914691236517205))) 2) 3689348814741910323) + (ibit .and .u64 (IntKind.u64.wrap ((ibit .and .u64 (ishr .u64 x_ 1) 6148914691236517205) + (ibit .and .u64 x_ 6148914691236517205))) 3689348814741910323))))) 1085102592571150095) 8))) + (ishr .u64 (IntKind.u64.wrap ((ibit .and .u64 (IntKind.u64.wrap ((ishr .u64 (IntKind.u64.wrap ((ibit .and .u64 (ishr .u64 (IntKind.u64.wrap ((ibit .and .u64 (ishr .u64 x_ 1) 6148914691236517205) + (ibit .and .u64 x_ 6148914691236517205))) 2) 3689348814741910323) + (ibit .and .u64 (IntKind.u64.wrap ((ibit .and .u64 (ishr .u64 x_ 1) 6148914691236517205) + (ibit .and .u64 x_ 6148914691236517205))) 3689348814741910323))) 4) + (IntKind.u64.wrap ((ibit .and .u64 (ishr .u64 (IntKind.u64.wrap ((ibit .and .u64 (ishr .u64 x_ 1) 6148914691236517205) + (ibit .and .u64 x_ 6148914691236517205))) 2) 3689348814741910323) + (ibit .and .u64 (IntKind.u64.wrap ((ibit .and .u64 (ishr .u64 x_ 1) 6148914691236517205) + (ibit .and .u64 x_ 6148914691236517205))) 3689348814741910323))))) 1085102592571150095) + (ishr .u64 (ibit .and .u64 (IntKind.u64.wrap ((ishr .u64 (IntKind.u64.wrap ((ibit .and .u64 (ishr .u64 (IntKind.u64.wrap ((ibit .and .u64 (ishr .u64 x_ 1) 6148914691236517205) + (ibit .and .u64 x_ 6148914691236517205))) 2) 3689348814741910323) + (ibit .and .u64 (IntKind.u64.wrap ((ibit .and .u64 (ishr .u64 x_ 1) 6148914691236517205) + (ibit .and .u64 x_ 6148914691236517205))) 3689348814741910323))) 4) + (IntKind.u64.wrap ((ibit .and .u64 (ishr .u64 (IntKind.u64.wrap ((ibit .and .u64 (ishr .u64 x_ 1) 6148914691236517205) + (ibit .and .u64 x_ 6148914691236517205))) 2) 3689348814741910323) + (ibit .and .u64 (IntKind.u64.wrap ((ibit .and .u64 (ishr .u64 x_ 1) 6148914691236517205) + (ibit .and .u64 x_ 6148914691236517205))) 3689348814741910323))))) 1085102592571150095) 8))) 16))) + (ishr .u64 (IntKind.u64.wrap ((IntKind.u64.wrap ((ibit .and .u64 (IntKind.u64.wrap ((ishr .u64 (IntKind.u64.wrap ((ibit .and .u64 (ishr .u64 (IntKind.u64.wrap ((ibit .and .u64 (ishr .u64 x_ 1) 6148914691236517205) + (ibit .and .u64 x_ 6148914691236517205))) 2) 3689348814741910323) + (ibit .and .u64 (IntKind.u64.wrap ((ibit .and .u64 (ishr .u64 x_ 1) 6148914691236517205) + (ibit .and .u64 x_ 6148914691236517205))) 3689348814741910323))) 4) + (IntKind.u64.wrap ((ibit .and .u64 (ishr .u64 (IntKind.u64.wrap ((ibit .and .u64 (ishr .u64 x_ 1) 6148914691236517205) + (ibit .and .u64 x_ 6148914691236517205))) 2) 3689348814741910323) + (ibit .and .u64 (IntKind.u64.wrap ((ibit .and .u64 (ishr .u64 x_ 1) 6148914691236517205) + (ibit .and .u64 x_ 6148914691236517205))) 3689348814741910323))))) 1085102592571150095) + (ishr .u64 (ibit .and .u64 (IntKind.u64.wrap ((ishr .u64 (IntKind.u64.wrap ((ibit .and .u64 (ishr .u64 (IntKind.u64.wrap ((ibit .and .u64 (ishr .u64 x_ 1) 6148914691236517205) + (ibit .and .u64 x_ 6148914691236517205))) 2) 3689348814741910323) + (ibit .and .u64 (IntKind.u64.wrap ((ibit .and .u64 (ishr .u64 x_ 1) 6148914691236517205) + (ibit .and .u64 x_ 6148914691236517205))) 3689348814741910323))) 4) + (IntKind.u64.wrap ((ibit .and .u64 (ishr .u64 (IntKind.u64.wrap ((ibit .and .u64 (ishr .u64 x_ 1) 6148914691236517205) + (ibit .and .u64 x_ 6148914691236517205))) 2) 3689348814741910323) + (ibit .and .u64 (IntKind.u64.wrap ((ibit .and .u64 (ishr .u64 x_ 1) 6148914691236517205) + (ibit .and .u64 x_ 6148914691236517205))) 3689348814741910323))))) 1085102592571150095) 8))) + (ishr .u64 (IntKind.u64.wrap ((ibit .and .u64 (IntKind.u64.wrap ((ishr .u64 (IntKind.u64.wrap ((ibit .and .u64 (ishr .u64 (IntKind.u64.wrap ((ibit .and .u64 (ishr .u64 x_ 1) 6148914691236517205) + (ibit .and .u64 x_ 6148914691236517205))) 2) 3689348814741910323) + (ibit .and .u64 (IntKind.u64.wrap ((ibit .and .u64 (ishr .u64 x_ 1) 6148914691236517205) + (ibit .and .u64 x_ 6148914691236517205))) 3689348814741910323))) 4) + (IntKind.u64.wrap ((ibit .and .u64 (ishr .u64 (IntKind.u64.wrap ((ibit .and .u64 (ishr .u64 x_ 1) 6148914691236517205) + (ibit .and .u64 x_ 6148914691236517205))) 2) 3689348814741910323) + (ibit .and .u64 (IntKind.u64.wrap ((ibit .and .u64 (ishr .u64 x_ 1) 6148914691236517205) + (ibit .and .u64 x_ 6148914691236517205))) 3689348814741910323))))) 1085102592571150095) + (ishr .u64 (ibit .and .u64 (IntKind.u64.wrap ((ishr .u64 (IntKind.u64.wrap ((ibit .and .u64 (ishr .u64 (IntKind.u64.wrap ((ibit .and .u64 (ishr .u64 x_ 1) 6148914691236517205) + (ibit .and .u64 x_ 6148914691236517205))) 2) 3689348814741910323) + (ibit .and .u64 (IntKind.u64.wrap ((ibit .and .u64 (ishr .u64 x_ 1) 6148914691236517205) + (ibit .and .u64 x_ 6148914691236517205))) 3689348814741910323))) 4) + (IntKind.u64.wrap ((ibit .and .u64 (ishr .u64 (IntKind.u64.wrap ((ibit .and .u64 (ishr .u64 x_ 1) 6148914691236517205) + (ibit .and .u64 x_ 6148914691236517205))) 2) 3689348814741910323) + (ibit .and .u64 (IntKind.u64.wrap ((ibit .and .u64 (ishr .u64 x_ 1) 6148914691236517205) + (ibit .and .u64 x_ 6148914691236517205))) 3689348814741910323))))) 1085102592571150095) 8))) 16))) 32)))) 127), .int .i64 (ibit .and .i64 (w64 (IntKind.u64.wrap ((IntKind.u64.wrap ((IntKind.u64.wrap ((ibit .and .u64 (IntKind.u64.wrap ((ishr .u64 (IntKind.u64.wrap ((ibit .and .u64 (ishr .u64 (IntKind.u64.wrap ((ibit .and .u64 (ishr .u64 x_ 1) 6148914691236517205) + (ibit .and .u64 x_ 6148914691236517205))) 2) 3689348814741910323) + (ibit .and .u64 (IntKind.u64.wrap ((ibit .and .u64 (ishr .u64 x_ 1) 6148914691236517205) + (ibit .and .u64 x_ 6148914691236517205))) 3689348814741910323))) 4) + (IntKind.u64.wrap ((ibit .and .u64 (ishr .u64 (IntKind.u64.wrap ((ibit .and .u64 (ishr .u64 x_ 1) 6148914691236517205) + (ibit .and .u64 x_ 6148914691236517205))) 2) 3689348814741910323) + (ibit .and .u64 (IntKind.u64.wrap ((ibit .and .u64 (ishr .u64 x_ 1) 6148914691236517205) + (ibit .and .u64 x_ 6148914691236517205))) 3689348814741910323))))) 1085102592571150095) + (ishr .u64 (ibit .and .u64 (IntKind.u64.wrap ((ishr .u64 (IntKind.u64.wrap ((ibit .and .u64 (ishr .u64 (IntKind.u64.wrap ((ibit .and .u64 (ishr .u64 x_ 1) 6148914691236517205) + (ibit .and .u64 x_ 6148914691236517205))) 2) 3689348814741910323) + (ibit .and .u64 (IntKind.u64.wrap ((ibit .and .u64 (ishr .u64 x_ 1) 6148914691236517205) + (ibit .and .u64 x_ 6148914691236517205))) 3689348814741910323))) 4) + (IntKind.u64.wrap ((ibit .and .u64 (ishr .u64 (IntKind.u64.wrap ((ibit .and .u64 (ishr .u64 x_ 1) 6148914691236517205) + (ibit .and .u64 x_ 6148914691236517205))) 2) 3689348814741910323) + (ibit .and .u64 (IntKind.u64.wrap ((ibit .and .u64 (ishr .u64 x_ 1) 6148914691236517205) + (ibit .and .u64 x_ 6148914691236517205))) 3689348814741910323))))) 1085102592571150095) 8))) + (ishr .u64 (IntKind.u64.wrap ((ibit .and .u64 (IntKind.u64.wrap ((ishr .u64 (IntKind.u64.wrap ((ibit .and .u64 (ishr .u64 (IntKind.u64.wrap ((ibit .and .u64 (ishr .u64 x_ 1) 6148914691236517205) + (ibit .and .u64 x_ 6148914691236517205))) 2) 3689348814741910323) + (ibit .and .u64 (IntKind.u64.wrap ((ibit .and .u64 (ishr .u64 x_ 1) 6148914691236517205) + (ibit .and .u64 x_ 6148914691236517205))) 3689348814741910323))) 4) + (IntKind.u64.wrap ((ibit .and .u64 (ishr .u64 (IntKind.u64.wrap ((ibit .and .u64 (ishr .u64 x_ 1) 6148914691236517205) + (ibit .and .u64 x_ 6148914691236517205))) 2) 3689348814741910323) + (ibit .and .u64 (IntKind.u64.wrap ((ibit .and .u64 (ishr .u64 x_ 1) 6148914691236517205) + (ibit .and .u64 x_ 6148914691236517205))) 3689348814741910323))))) 1085102592571150095) + (ishr .u64 (ibit .and .u64 (IntKind.u64.wrap ((ishr .u64 (IntKind.u64.wrap ((ibit .and .u64 (ishr .u64 (IntKind.u64.wrap ((ibit .and .u64 (ishr .u64 x_ 1) 6148914691236517205) + (ibit .and .u64 x_ 6148914691236517205))) 2) 3689348814741910323) + (ibit .and .u64 (IntKind.u64.wrap ((ibit .and .u64 (ishr .u64 x_ 1) 6148914691236517205) + (ibit .and .u64 x_ 6148914691236517205))) 3689348814741910323))) 4) + (IntKind.u64.wrap ((ibit .and .u64 (ishr .u64 (IntKind.u64.wrap ((ibit .and .u64 (ishr .u64 x_ 1) 6148914691236517205) + (ibit .and .u64 x_ 6148914691236517205))) 2) 3689348814741910323) + (ibit .and .u64 (IntKind.u64.wrap ((ibit .and .u64 (ishr .u64 x_ 1) 6148914691236517205) + (ibit .and .u64 x_ 6148914691236517205))) 3689348814741910323))))) 1085102592571150095) 8))) 16))) + (ishr .u64 (IntKind.u64.wrap ((IntKind.u64.wrap ((ibit .and .u64 (IntKind.u64.wrap ((ishr .u64 (IntKind.u64.wrap ((ibit .and .u64 (ishr .u64 (IntKind.u64.wrap ((ibit .and .u64 (ishr .u64 x_ 1) 6148914691236517205) + (ibit .and .u64 x_ 6148914691236517205))) 2) 3689348814741910323) + (ibit .and .u64 (IntKind.u64.wrap ((ibit .and .u64 (ishr .u64 x_ 1) 6148914691236517205) + (ibit .and .u64 x_ 6148914691236517205))) 3689348814741910323))) 4) + (IntKind.u64.wrap ((ibit .and .u64 (ishr .u64 (IntKind.u64.wrap ((ibit .and .u64 (ishr .u64 x_ 1) 6148914691236517205) + (ibit .and .u64 x_ 6148914691236517205))) 2) 3689348814741910323) + (ibit .and .u64 (IntKind.u64.wrap ((ibit .and .u64 (ishr .u64 x_ 1) 6148914691236517205) + (ibit .and .u64 x_ 6148914691236517205))) 3689348814741910323))))) 1085102592571150095) + (ishr .u64 (ibit .and .u64 (IntKind.u64.wrap ((ishr .u64 (IntKind.u64.wrap ((ibit .and .u64 (ishr .u64 (IntKind.u64.wrap ((ibit .and .u64 (ishr .u64 x_ 1) 6148914691236517205) + (ibit .and .u64 x_ 6148914691236517205))) 2) 3689348814741910323) + (ibit .and .u64 (IntKind.u64.wrap ((ibit .and .u64 (ishr .u64 x_ 1) 6148914691236517205) + (ibit .and .u64 x_ 6148914691236517205))) 3689348814741910323))) 4) + (IntKind.u64.wrap ((ibit .and .u64 (ishr .u64 (IntKind.u64.wrap ((ibit .and .u64 (ishr .u64 x_ 1) 6148914691236517205) + (ibit .and .u64 x_ 6148914691236517205))) 2) 3689348814741910323) + (ibit .and .u64 (IntKind.u64.wrap ((ibit .and .u64 (ishr .u64 x_ 1) 6148914691236517205) + (ibit .and .u64 x_ 6148914691236517205))) 3689348814741910323))))) 1085102592571150095) 8))) + (ishr .u64 (IntKind.u64.wrap ((ibit .and .u64 (IntKind.u64.wrap ((ishr .u64 (IntKind.u64.wrap ((ibit .and .u64 (ishr .u64 (IntKind.u64.wrap ((ibit .and .u64 (ishr .u64 x_ 1) 6148914691236517205) + (ibit .and .u64 x_ 6148914691236517205))) 2) 3689348814741910323) + (ibit .and .u64 (IntKind.u64.wrap ((ibit .and .u64 (ishr .u64 x_ 1) 6148914691236517205) + (ibit .and .u64 x_ 6148914691236517205))) 3689348814741910323))) 4) + (IntKind.u64.wrap ((ibit .and .u64 (ishr .u64 (IntKind.u64.wrap ((ibit .and .u64 (ishr .u64 x_ 1) 6148914691236517205) + (ibit .and .u64 x_ 6148914691236517205))) 2) 3689348814741910323) + (ibit .and .u64 (IntKind.u64.wrap ((ibit .and .u64 (ishr .u64 x_ 1) 6148914691236517205) + (ibit .and .u64 x_ 6148914691236517205))) 3689348814741910323))))) 1085102592571150095) + (ishr .u64 (ibit .and .u64 (IntKind.u64.wrap ((ishr .u64 (IntKind.u64.wrap ((ibit .and .u64 (ishr .u64 (IntKind.u64.wrap ((ibit .and .u64 (ishr .u64 x_ 1) 6148914691236517205) + (ibit .and .u64 x_ 6148914691236517205))) 2) 3689348814741910323) + (ibit .and .u64 (IntKind.u64.wrap ((ibit .and .u64 (ishr .u64 x_ 1) 6148914691236517205) + (ibit .and .u64 x_ 6148914691236517205))) 3689348814741910323))) 4) + (IntKind.u64.wrap ((ibit .and .u64 (ishr .u64 (IntKind.u64.wrap ((ibit .and .u64 (ishr .u64 x_ 1) 6148914691236517205) + (ibit .and .u64 x_ 6148914691236517205))) 2) 3689348814741910323) + (ibit .and .u64 (IntKind.u64.wrap ((ibit .and .u64 (ishr .u64 x_ 1) 6148914691236517205) + (ibit .and .u64 x_ 6148914691236517205))) 3689348814741910323))))) 1085102592571150095) 8))) 16))) 32)))) 127)] 0 _ (by kernel_rfl) (fun w => by kernel_rfl) ?_
    exact QRun_done [2] (by kernel_rfl) (by kernel_rfl)
  have hF := M.ret_some hF
  subst hF
  exact Run_ret1 rfl (ResV_tmp (v := .int .i64 (ibit .and .i64 (w64 (IntKind.u64.wrap ((IntKind.u64.wrap ((IntKind.u64.wrap ((ibit .and .u64 (IntKind.u64.wrap ((ishr .u64 (IntKind.u64.wrap ((ibit .and .u64 (ishr .u64 (IntKind.u64.wrap ((ibit .and .u64 (ishr .u64 x_ 1) 6148914691236517205) + (ibit .and .u64 x_ 6148914691236517205))) 2) 3689348814741910323) + (ibit .and .u64 (IntKind.u64.wrap ((ibit .and .u64 (ishr .u64 x_ 1) 6148914691236517205) + (ibit .and .u64 x_ 6148914691236517205))) 3689348814741910323))) 4) + (IntKind.u64.wrap ((ibit .and .u64 (ishr .u64 (IntKind.u64.wrap ((ibit .and .u64 (ishr .u64 x_ 1) 6148914691236517205) + (ibit .and .u64 x_ 6148914691236517205))) 2) 3689348814741910323) + (ibit .and .u64 (IntKind.u64.wrap ((ibit .and .u64 (ishr .u64 x_ 1) 6148914691236517205) + (ibit .and .u64 x_ 6148914691236517205))) 3689348814741910323))))) 1085102592571150095) + (ishr .u64 (ibit .and .u64 (IntKind.u64.wrap ((ishr .u64 (IntKind.u64.wrap ((ibit .and .u64 (ishr .u64 (IntKind.u64.wrap ((ibit .and .u64 (ishr .u64 x_ 1) 6148914691236517205) + (ibit .and .u64 x_ 6148914691236517205))) 2) 3689348814741910323) + (ibit .and .u64 (IntKind.u64.wrap ((ibit .and .u64 (ishr .u64 x_ 1) 6148914691236517205) + (ibit .and .u64 x_ 6148914691236517205))) 3689348814741910323))) 4) + (IntKind.u64.wrap ((ibit .and .u64 (ishr .u64 (IntKind.u64.wrap ((ibit .and .u64 (ishr .u64 x_ 1) 6148914691236517205) + (ibit .and .u64 x_ 6148914691236517205))) 2) 3689348814741910323) + (ibit .and .u64 (IntKind.u64.wrap ((ibit .and .u64 (ishr .u64 x_ 1) 6148914691236517205) + (ibit .and .u64 x_ 6148914691236517205))) 3689348814741910323))))) 1085102592571150095) 8))) + (ishr .u64 (IntKind.u64.wrap ((ibit .and .u64 (IntKind.u64.wrap ((ishr .u64 (IntKind.u64.wrap ((ibit .and .u64 (ishr .u64 (IntKind.u64.wrap ((ibit .and .u64 (ishr .u64 x_ 1) 6148914691236517205) + (ibit .and .u64 x_ 6148914691236517205))) 2) 3689348814741910323) + (ibit .and .u64 (IntKind.u64.wrap ((ibit .and .u64 (ishr .u64 x_ 1) 6148914691236517205) + (ibit .and .u64 x_ 6148914691236517205))) 3689348814741910323))) 4) + (IntKind.u64.wrap ((ibit .and .u64 (ishr .u64 (IntKind.u64.wrap ((ibit .and .u64 (ishr .u64 x_ 1) 6148914691236517205) + (ibit .and .u64 x_ 6148914691236517205))) 2) 3689348814741910323) + (ibit .and .u64 (IntKind.u64.wrap ((ibit .and .u64 (ishr .u64 x_ 1) 6148914691236517205) + (ibit .and .u64 x_ 6148914691236517205))) 3689348814741910323))))) 1085102592571150095) + (ishr .u64 (ibit .and .u64 (IntKind.u64.wrap ((ishr .u64 (IntKind.u64.wrap ((ibit .and .u64 (ishr .u64 (IntKind.u64.wrap ((ibit .and .u64 (ishr .u64 x_ 1) 6148914691236517205) + (ibit .and .u64 x_ 6148914691236517205))) 2) 3689348814741910323) + (ibit .and .u64 (IntKind.u64.wrap ((ibit .and .u64 (ishr .u64 x_ 1) 6148914691236517205) + (ibit .and .u64 x_ 6148914691236517205))) 3689348814741910323))) 4) + (IntKind.u64.wrap ((ibit .and .u64 (ishr .u64 (IntKind.u64.wrap ((ibit .and .u64 (ishr .u64 x_ 1) 6148914691236517205) + (ibit .and .u64 x_ 6148914691236517205))) 2) 3689348814741910323) + (ibit .and .u64 (IntKind.u64.wrap ((ibit .and .u64 (ishr .u64 x_ 1) 6148914691236517205) + (ibit .and .u64 x_ 6148914691236517205))) 3689348814741910323))))) 1085102592571150095) 8))) 16))) + (ishr .u64 (IntKind.u64.wrap ((IntKind.u64.wrap ((ibit .and .u64 (IntKind.u64.wrap ((ishr .u64 (IntKind.u64.wrap ((ibit .and .u64 (ishr .u64 (IntKind.u64.wrap ((ibit .and .u64 (ishr .u64 x_ 1) 6148914691236517205) + (ibit .and .u64 x_ 6148914691236517205))) 2) 3689348814741910323) + (ibit .and .u64 (IntKind.u64.wrap ((ibit .and .u64 (ishr .u64 x_ 1) 6148914691236517205) + (ibit .and .u64 x_ 6148914691236517205))) 3689348814741910323))) 4) + (IntKind.u64.wrap ((ibit .and .u64 (ishr .u64 (IntKind.u64.wrap ((ibit .and .u64 (ishr .u64 x_ 1) 6148914691236517205) + (ibit .and .u64 x_ 6148914691236517205))) 2) 3689348814741910323) + (ibit .and .u64 (IntKind.u64.wrap ((ibit .and .u64 (ishr .u64 x_ 1) 6148914691236517205) + (ibit .and .u64 x_ 6148914691236517205))) 3689348814741910323))))) 1085102592571150095) + (ishr .u64 (ibit .and .u64 (IntKind.u64.wrap ((ishr .u64 (IntKind.u64.wrap ((ibit .and .u64 (ishr .u64 (IntKind.u64.wrap ((ibit .and .u64 (ishr .u64 x_ 1) 6148914691236517205) + (ibit .and .u64 x_ 6148914691236517205))) 2) 3689348814741910323) + (ibit .and .u64 (IntKind.u64.wrap ((ibit .and .u64 (ishr .u64 x_ 1) 6148914691236517205) + (ibit .and .u64 x_ 6148914691236517205))) 3689348814741910323))) 4) + (IntKind.u64.wrap ((ibit .and .u64 (ishr .u64 (IntKind.u64.wrap ((ibit .and .u64 (ishr .u64 x_ 1) 6148914691236517205) + (ibit .and .u64 x_ 6148914691236517205))) 2) 3689348814741910323) + (ibit .and .u64 (IntKind.u64.wrap ((ibit .and .u64 (ishr .u64 x_ 1) 6148914691236517205) + (ibit .and .u64 x_ 6148914691236517205))) 3689348814741910323))))) 1085102592571150095) 8))) + (ishr .u64 (IntKind.u64.wrap ((ibit .and .u64 (IntKind.u64.wrap ((ishr .u64 (IntKind.u64.wrap ((ibit .and .u64 (ishr .u64 (IntKind.u64.wrap ((ibit .and .u64 (ishr .u64 x_ 1) 6148914691236517205) + (ibit .and .u64 x_ 6148914691236517205))) 2) 3689348814741910323) + (ibit .and .u64 (IntKind.u64.wrap ((ibit .and .u64 (ishr .u64 x_ 1) 6148914691236517205) + (ibit .and .u64 x_ 6148914691236517205))) 3689348814741910323))) 4) + (IntKind.u64.wrap ((ibit .and .u64 (ishr .u64 (IntKind.u64.wrap ((ibit .and .u64 (ishr .u64 x_ 1) 6148914691236517205) + (ibit .and .u64 x_ 6148914691236517205))) 2) 3689348814741910323) + (ibit .and .u64 (IntKind.u64.wrap ((ibit .and .u64 (ishr .u64 x_ 1) 6148914691236517205) + (ibit .and .u64 x_ 6148914691236517205))) 3689348814741910323))))) 1085102592571150095) + (ishr .u64 (ibit .and .u64 (IntKind.u64.wrap ((ishr .u64 (IntKind.u64.wrap ((ibit .and .u64 (ishr .u64 (IntKind.u64.wrap ((ibit .and .u64 (ishr .u64 x_ 1) 6148914691236517205) + (ibit .and .u64 x_ 6148914691236517205))) 2) 3689348814741910323) + (ibit .and .u64 (IntKind.u64.wrap ((ibit .and .u64 (ishr .u64 x_ 1) 6148914691236517205) + (ibit .and .u64 x_ 6148914691236517205))) 3689348814741910323))) 4) + (IntKind.u64.wrap ((ibit .and .u64 (ishr .u64 (IntKind.u64.wrap ((ibit .and .u64 (ishr .u64 x_ 1) 6148914691236517205) + (ibit .and .u64 x_ 6148914691236517205))) 2) 3689348814741910323) + (ibit .and .u64 (IntKind.u64.wrap ((ibit .and .u64 (ishr .u64 x_ 1) 6148914691236517205) + (ibit .and .u64 x_ 6148914691236517205))) 3689348814741910323))))) 1085102592571150095) 8))) 16))) 32)))) 127)) (by kernel_rfl)) ⟨rfl, rfl⟩

set_option maxRecDepth 100000 in
set_option maxHeartbeats 4000000 in
theorem w_math_bits_OnesCount (h : Heap) (x_ : Int) (n : Nat) (r : Int) (hF : math_bits_OnesCount x_ n = some r) :
    Fn Try.prog 171 #[.int .u64 x_] h fun v h' => v = .int .i64 r ∧ h' = h := by
  unfold math_bits_OnesCount at hF
  refine Fn_enter (args := [.int .u64 x_]) Try.func171 rfl (by kernel_rfl) (by kernel_rfl) (fun w0 _ => ?_)
  refine Run_seq ?_
  refine Run_reg 1 (by kernel_rfl) (L' := [(0, .int .u64 x_)]) ?_ ?_
  · refine QRun_b [.int .i64 0] 0 _ (by kernel_rfl) (fun w => by kernel_rfl) ?_
    exact QRun_done [0] (by kernel_rfl) (by kernel_rfl)
  refine Run_seq ?_
  refine Run_condF ?_
  refine Run_skip ?_
  refine Run_seq ?_
  obtain ⟨x1, hx1, hF⟩ := M.bind_some hF
  refine Run_reg 3 (by kernel_rfl) (L' := [(2, .int .i64 x1)]) ?_ ?_
  · refine QRun_b [.int .u64 x_] 0 _ (by kernel_rfl) (fun w => by kernel_rfl) ?_
    refine QRun_y (.int .i64 x1) (by kernel_rfl) (Y_callq (f := 185) (args := #[.int .u64 x_]) (v := .int .i64 x1) (by kernel_rfl) (w_math_bits_OnesCount64 h x_ _ _ hx1)) ?_
    refine QRun_b [.int .i64 x1] 2 _ (by kernel_rfl) (fun w => by kernel_rfl) ?_
    exact QRun_done [2] (by kernel_rfl) (by kernel_rfl)
  have hF := M.ret_some hF
  subst hF
  exact Run_ret1 rfl (ResV_tmp (v := .int .i64 x1) (by kernel_rfl)) ⟨rfl, rfl⟩

set_option maxRecDepth 100000 in
set_option maxHeartbeats 4000000 in
theorem w_impl_permanents (h : Heap) (a_ : List (List Int)) (aa_ : Option Addr) (ca_ : Nat) (ra_ : Rd cd39 h (Lt h) aa_ ca_ a_) (n : Nat) (r : (List TPermanent)) (hF : impl_permanents a_ n = some r) :
    Fn Try.prog 130 #[.slice aa_ a_.length ca_] h fun v h' => ∃ (a0 : Option Addr) (c0 : Nat), v = .slice a0 r.length c0 ∧ Hold h h' [own cd127 a0 r.length c0 r] := by
  unfold impl_permanents at hF
  refine Fn_enter (args := [.slice aa_ a_.length ca_]) Try.func130 rfl (by kernel_rfl) (by kernel_rfl) (fun w0 _ => ?_)
  have H0 := Hold.init h
  refine Run_seq ?_
  refine Run_reg 1 (by kernel_rfl) (L' := [(0, .slice aa_ a_.length ca_)]) ?_ ?_
  · refine QRun_b [.slice none 0 0] 0 _ (by kernel_rfl) (fun w => by kernel_rfl) ?_
    exact QRun_done [0] (by kernel_rfl) (by kernel_rfl)
  refine Run_seq ?_
  refine Run_reg 3 (by kernel_rfl) (L' := [(0, .slice aa_ a_.length ca_), (3, .int .i64 (a_.length : Int))]) ?_ ?_
  · refine QRun_b [.slice aa_ a_.length ca_, .int .i64 (a_.length : Int), .int .i64 (a_.length : Int)] 0 _ (by kernel_rfl) (fun w => by kernel_rfl) ?_
    exact QRun_done [0, 3] (by kernel_rfl) (by kernel_rfl)
  refine Run_seq ?_
  refine Run_ops ?_
  obtain ⟨u1, hz1, hF⟩ := M.bind_some hF
  have hz1 := M.guard_some hz1
  refine Run_b [.int .i64 (a_.length : Int)] 0 _ (by kernel_rfl) (fun w => by kernel_rfl) ?_
  refine Run_y (.int .i64 (ishl .i64 1 (a_.length : Int))) (by kernel_rfl) (Y_shl (k := .i64) (x := 1) (kk := .i64) (y := (a_.length : Int)) (by kernel_rfl) hz1) ?_
  obtain ⟨l1, hl1, hF⟩ := M.bind_some hF
  have hl1 := M.make_some hl1
  refine Run_E (by kernel_rfl) ?_
  refine E_make cd127 (⟨0, 0⟩ : TPermanent) (kl := .i64) (kc := .i64) H0 cd127_ti Try.underlying128 (by decide) cd127_zero (by kernel_rfl) hl1 (fun a1 h1 H1 => ?_)
  refine Run_b [.slice a1 l1.length l1.length] 3 _ (by kernel_rfl) (fun w => by kernel_rfl) ?_
  refine Run_nil (by kernel_rfl) ?_
  refine Run_keep [0, 3, 4] (L' := [(0, .slice aa_ a_.length ca_), (3, .int .i64 (a_.length : Int)), (4, .slice a1 l1.length l1.length)]) (by kernel_rfl) ?_
  refine Run_seq ?_
  obtain ⟨u2, hz2, hF⟩ := M.bind_some hF
  have hz2 := M.guard_some hz2
  refine Run_reg 4 (by kernel_rfl) (L' := [(0, .slice aa_ a_.length ca_), (4, .slice a1 l1.length l1.length), (5, .int .i64 (w64 ((ishl .i64 1 (a_.length : Int)) - 1)))]) ?_ ?_
  · refine QRun_b [.int .i64 (a_.length : Int)] 0 _ (by kernel_rfl) (fun w => by kernel_rfl) ?_
    refine QRun_y (.int .i64 (ishl .i64 1 (a_.length : Int))) (by kernel_rfl) (Y_shl (k := .i64) (x := 1) (kk := .i64) (y := (a_.length : Int)) (by kernel_rfl) hz2) ?_
    refine QRun_b [.int .i64 (w64 ((ishl .i64 1 (a_.length : Int)) - 1)), .int .i64 (w64 ((ishl .i64 1 (a_.length : Int)) - 1))] 2 _ (by kernel_rfl) (fun w => by kernel_rfl) ?_
    exact QRun_done [0, 4, 5] (by kernel_rfl) (by kernel_rfl)
  refine Run_seq ?_
  refine Run_seq ?_
  refine Run_reg 2 (by kernel_rfl) (L' := [(0, .slice aa_ a_.length ca_), (4, .slice a1 l1.length l1.length), (5, .int .i64 (w64 ((ishl .i64 1 (a_.length : Int)) - 1))), (6, .int .i64 (w64 ((ishl .i64 1 (a_.length : Int)) - 1)))]) ?_ ?_
  · refine QRun_b [.int .i64 (w64 ((ishl .i64 1 (a_.length : Int)) - 1)), .int .i64 (w64 ((ishl .i64 1 (a_.length : Int)) - 1))] 0 _ (by kernel_rfl) (fun w => by kernel_rfl) ?_
    exact QRun_done [0, 4, 5, 6] (by kernel_rfl) (by kernel_rfl)
  obtain ⟨x1, gx1, hF⟩ := M.bind_some hF
  refine Run_join (fun L' h' => L' = [(4, .slice a1 l1.length l1.length)] ∧ Hold h h' [own cd127 a1 l1.length l1.length x1.1]) ?_ ?_
  · rintro _ h3 ⟨rfl, H3⟩
    refine Run_seq ?_
    refine Run_reg 2 (by kernel_rfl) (L' := [(2, .slice a1 l1.length l1.length)]) ?_ ?_
    · refine QRun_b [.slice a1 l1.length l1.length, .slice a1 l1.length l1.length] 0 _ (by kernel_rfl) (fun w => by kernel_rfl) ?_
      exact QRun_done [2] (by kernel_rfl) (by kernel_rfl)
    have hF := M.ret_some hF
    subst hF
    have H25 := H3.norm
    exact Run_ret1 rfl (ResV_tmp (v := .slice a1 l1.length l1.length) (by kernel_rfl)) ⟨a1, l1.length, (by simp only [(H3.len 0 rfl)]), H25⟩
  · refine Run_block ?_
    refine Run_keep [0, 4, 5, 6] (L' := [(0, .slice aa_ a_.length ca_), (4, .slice a1 l1.length l1.length), (5, .int .i64 (w64 ((ishl .i64 1 (a_.length : Int)) - 1))), (6, .int .i64 (w64 ((ishl .i64 1 (a_.length : Int)) - 1)))]) (by kernel_rfl) ?_
    refine Run_loop (fun m L' h' => ∃ (s1 : (List TPermanent) × Int), M.loopN _ n m s1 = some x1 ∧ L' = [(0, .slice aa_ a_.length ca_), (4, .slice a1 l1.length l1.length), (5, .int .i64 (w64 ((ishl .i64 1 (a_.length : Int)) - 1))), (6, .int .i64 s1.2)] ∧ Hold h h' [own cd127 a1 l1.length l1.length s1.1]) n ⟨(l1, (w64 ((ishl .i64 1 (a_.length : Int)) - 1))), gx1, rfl, H1⟩ ?_
    rintro my1 _ h2 ⟨s1, gx1, rfl, H2⟩
    obtain ⟨my1, y1, rfl, hB1, hgoy1, houty1⟩ := M.loop_some gx1
    refine Run_seq ?_
    refine Run_seq ?_
    refine Run_reg 2 (by kernel_rfl) (L' := [(0, .slice aa_ a_.length ca_), (4, .slice a1 l1.length l1.length), (5, .int .i64 (w64 ((ishl .i64 1 (a_.length : Int)) - 1))), (6, .int .i64 s1.2), (23, .bool (decide (0 ≤ s1.2)))]) ?_ ?_
    · refine QRun_b [.int .i64 s1.2, .bool (decide (0 ≤ s1.2))] 0 _ (by kernel_rfl) (fun w => by kernel_rfl) ?_
      exact QRun_done [0, 4, 5, 6, 23] (by kernel_rfl) (by kernel_rfl)
    refine Run_cond (b := decide (0 ≤ s1.2)) (by kernel_rfl) (fun hb1 => ?_) (fun hb1 => ?_)
    · have hB1 := (M.ite_some hB1).1 hb1
      refine Run_skip ?_
      refine Run_seq ?_
      obtain ⟨s2, gs2, hB1⟩ := M.bind_some hB1
      refine Run_join (fun L' h' => L' = [(0, .slice aa_ a_.length ca_), (4, .slice a1 l1.length l1.length), (5, .int .i64 (w64 ((ishl .i64 1 (a_.length : Int)) - 1))), (6, .int .i64 s1.2)] ∧ Hold h h' [own cd127 a1 l1.length l1.length s2]) ?_ ?_
      · rintro _ h16 ⟨rfl, H23⟩
        refine Run_reg 3 (by kernel_rfl) (L' := [(0, .slice aa_ a_.length ca_), (4, .slice a1 l1.length l1.length), (5, .int .i64 (w64 ((ishl .i64 1 (a_.length : Int)) - 1))), (6, .int .i64 (w64 (s1.2 - 1)))]) ?_ ?_
        · refine QRun_b [.int .i64 s1.2, .int .i64 (w64 (s1.2 - 1)), .int .i64 (w64 (s1.2 - 1))] 0 _ (by kernel_rfl) (fun w => by kernel_rfl) ?_
          exact QRun_done [0, 4, 5, 6] (by kernel_rfl) (by kernel_rfl)
        have hB1 := M.ret_some hB1
        have gx1 := hgoy1 _ hB1.symm
        exact Run_again [0, 4, 5, 6] (by kernel_rfl) my1 (Nat.lt_succ_self _) ⟨(s2, (w64 (s1.2 - 1))), gx1, rfl, H23⟩
      · refine Run_block ?_
        refine Run_seq ?_
        refine Run_seq ?_
        refine Run_reg 3 (by kernel_rfl) (L' := [(0, .slice aa_ a_.length ca_), (4, .slice a1 l1.length l1.length), (5, .int .i64 (w64 ((ishl .i64 1 (a_.length : Int)) - 1))), (6, .int .i64 s1.2), (28, .bool (s1.2 == (w64 ((ishl .i64 1 (a_.length : Int)) - 1))))]) ?_ ?_
        · refine QRun_b [.int .i64 s1.2, .int .i64 (w64 ((ishl .i64 1 (a_.length : Int)) - 1)), .bool (s1.2 == (w64 ((ishl .i64 1 (a_.length : Int)) - 1)))] 0 _ (by kernel_rfl) (fun w => by kernel_rfl) ?_
          exact QRun_done [0, 4, 5, 6, 28] (by kernel_rfl) (by kernel_rfl)
        refine Run_cond (b := s1.2 == (w64 ((ishl .i64 1 (a_.length : Int)) - 1))) (by kernel_rfl) (fun hb2 => ?_) (fun hb2 => ?_)
        · have gs2 := (M.ite_some gs2).1 hb2
          refine Run_seq ?_
          refine Run_ops ?_
          obtain ⟨x2, hx1, gs2⟩ := M.bind_some gs2
          obtain ⟨hx1l, hx1u, hx1⟩ := M.idx_some hx1
          refine Run_b [.slice a1 l1.length l1.length, .int .i64 s1.2, .agg #[.int .i64 0, .int .i64 1]] 0 _ (by kernel_rfl) (fun w => by kernel_rfl) ?_
          refine Run_y (.pointer (some (adr a1 (s1.2.toNat * 2)))) (by kernel_rfl) (Y_idx (t := 128) (e := 127) (sz := 2) (a := a1) (n := l1.length) (cap := l1.length) (kk := .i64) (i := s1.2) (by kernel_rfl) Try.underlying128 (by kernel_rfl) ((H2.rd 0 rfl).cell hx1).1 hx1l (by rw [← (H2.len 0 rfl)]; exact hx1u)) ?_
          obtain ⟨l2, hu1, gs2⟩ := M.bind_some gs2
          have hu1 := M.upd_some hu1
          refine Run_E (by kernel_rfl) ?_
          refine E_put (C := cd127) (t := 127) (sz := 2) (j := s1.2) (x := ⟨0, 1⟩) (v := .agg #[.int .i64 0, .int .i64 1]) H2 cd127_flat (by kernel_rfl) rfl (cd127_own _) (by kernel_rfl) hu1 (fun h4 H4 => ?_)
          refine Run_nil (by kernel_rfl) ?_
          refine Run_keep [0, 4, 5, 6] (L' := [(0, .slice aa_ a_.length ca_), (4, .slice a1 l1.length l1.length), (5, .int .i64 (w64 ((ishl .i64 1 (a_.length : Int)) - 1))), (6, .int .i64 s1.2)]) (by kernel_rfl) ?_
          refine Run_exit (k' := _) rfl ?_
          have gs2 := M.ret_some gs2
          subst gs2
          exact Run_fall [0, 4, 5, 6] (by kernel_rfl) ⟨rfl, H4⟩
        · have gs2 := (M.ite_some gs2).2 hb2
          refine Run_skip ?_
          refine Run_seq ?_
          obtain ⟨x3, hx2, gs2⟩ := M.bind_some gs2
          refine Run_reg 4 (by kernel_rfl) (L' := [(0, .slice aa_ a_.length ca_), (4, .slice a1 l1.length l1.length), (5, .int .i64 (w64 ((ishl .i64 1 (a_.length : Int)) - 1))), (6, .int .i64 s1.2), (7, .int .i64 x3)]) ?_ ?_
          · refine QRun_b [.int .i64 s1.2, .int .u64 (IntKind.u64.wrap (s1.2))] 0 _ (by kernel_rfl) (fun w => by kernel_rfl) ?_
            refine QRun_y (.int .i64 x3) (by kernel_rfl) (Y_callq (f := 171) (args := #[.int .u64 (IntKind.u64.wrap (s1.2))]) (v := .int .i64 x3) (by kernel_rfl) (w_math_bits_OnesCount h2 (IntKind.u64.wrap (s1.2)) _ _ hx2)) ?_
            refine QRun_b [.int .i64 x3] 3 _ (by kernel_rfl) (fun w => by kernel_rfl) ?_
            exact QRun_done [0, 4, 5, 6, 7] (by kernel_rfl) (by kernel_rfl)
          refine Run_seq ?_
          refine Run_ops ?_
          refine Run_b [.agg #[.int .i64 (-1000000000000000), .int .i64 0]] 0 _ (by kernel_rfl) (fun w => by kernel_rfl) ?_
          refine Run_E (by kernel_rfl) ?_
          refine E_box (ty := 127) (cs := [.int .i64 0, .int .i64 0]) H2 (fun w => by kernel_rfl) (fun b1 h5 H5 => ?_)
          refine Run_E (by kernel_rfl) ?_
          refine E_bput (t := 127) (off := 0) (us := [.int .i64 (-1000000000000000), .int .i64 0]) (v := .agg #[.int .i64 (-1000000000000000), .int .i64 0]) H5 (by kernel_rfl) (by kernel_rfl) rfl (by kernel_rfl) rfl (fun h6 H6 => ?_)
          refine Run_nil (by kernel_rfl) ?_
          refine Run_keep [0, 4, 5, 6, 7, 8] (L' := [(0, .slice aa_ a_.length ca_), (4, .slice a1 l1.length l1.length), (5, .int .i64 (w64 ((ishl .i64 1 (a_.length : Int)) - 1))), (6, .int .i64 s1.2), (7, .int .i64 x3), (8, .pointer (some ⟨b1, 0, none⟩))]) (by kernel_rfl) ?_
          refine Run_seq ?_
          refine Run_seq ?_
          obtain ⟨x4, hx3, gs2⟩ := M.bind_some gs2
          obtain ⟨hx3l, hx3u, hx3⟩ := M.idx_some hx3
          obtain ⟨a2, c1, hc1, r1⟩ := ra_.row hx3
          refine Run_reg 6 (by kernel_rfl) (L' := [(0, .slice aa_ a_.length ca_), (4, .slice a1 l1.length l1.length), (5, .int .i64 (w64 ((ishl .i64 1 (a_.length : Int)) - 1))), (6, .int .i64 s1.2), (8, .pointer (some ⟨b1, 0, none⟩)), (40, .slice a2 x4.length c1), (41, .int .i64 (x4.length : Int)), (42, .int .i64 0)]) ?_ ?_
          · refine QRun_b [.slice aa_ a_.length ca_, .int .i64 x3] 0 _ (by kernel_rfl) (fun w => by kernel_rfl) ?_
            refine QRun_y (.pointer (some (adr aa_ (x3.toNat * 1)))) (by kernel_rfl) (Y_idx (t := 37) (e := 39) (sz := 1) (a := aa_) (n := a_.length) (cap := ca_) (kk := .i64) (i := x3) (by kernel_rfl) Try.underlying37 (by kernel_rfl) ((ra_.at H6.ext).cell hx3).1 hx3l hx3u) ?_
            refine QRun_y (.slice a2 x4.length c1) (by kernel_rfl) (Y_load1 (t := 39) (p := adr aa_ (x3.toNat * 1)) (v := .slice a2 x4.length c1) (by kernel_rfl) (fun w => by kernel_rfl) (cell_at H6.ext hc1)) ?_
            refine QRun_b [.int .i64 (x4.length : Int), .int .i64 0] 4 _ (by kernel_rfl) (fun w => by kernel_rfl) ?_
            exact QRun_done [0, 4, 5, 6, 8, 40, 41, 42] (by kernel_rfl) (by kernel_rfl)
          obtain ⟨x5, gx5, gs2⟩ := M.bind_some gs2
          obtain ⟨hloy2, hhiy2, gx5⟩ := M.for_start gx5
          refine Run_join (fun L' h' => L' = [(0, .slice aa_ a_.length ca_), (4, .slice a1 l1.length l1.length), (5, .int .i64 (w64 ((ishl .i64 1 (a_.length : Int)) - 1))), (6, .int .i64 s1.2), (8, .pointer (some ⟨b1, 0, none⟩))] ∧ Hold h h' [own cd127 a1 l1.length l1.length s1.1, box b1 127 [.int .i64 x5.weight, .int .i64 x5.count]]) ?_ ?_
          · rintro _ h8 ⟨rfl, H8⟩
            refine Run_ops ?_
            obtain ⟨x11, hx6, gs2⟩ := M.bind_some gs2
            obtain ⟨hx6l, hx6u, hx6⟩ := M.idx_some hx6
            refine Run_b [.slice a1 l1.length l1.length, .int .i64 s1.2] 0 _ (by kernel_rfl) (fun w => by kernel_rfl) ?_
            refine Run_y (.agg #[.int .i64 x5.weight, .int .i64 x5.count]) (by kernel_rfl) (Y_loadA (t := 127) (n := 2) (p := ⟨b1, 0, none⟩) (cs := [.int .i64 x5.weight, .int .i64 x5.count]) (by kernel_rfl) (fun w => by kernel_rfl) (by kernel_rfl) rfl (H8.cells (n := 2) (off := 0) 1 rfl rfl)) ?_
            refine Run_y (.pointer (some (adr a1 (s1.2.toNat * 2)))) (by kernel_rfl) (Y_idx (t := 128) (e := 127) (sz := 2) (a := a1) (n := l1.length) (cap := l1.length) (kk := .i64) (i := s1.2) (by kernel_rfl) Try.underlying128 (by kernel_rfl) ((H8.rd 0 rfl).cell hx6).1 hx6l (by rw [← (H8.len 0 rfl)]; exact hx6u)) ?_
            obtain ⟨l3, hu2, gs2⟩ := M.bind_some gs2
            have hu2 := M.upd_some hu2
            refine Run_E (by kernel_rfl) ?_
            refine E_put (C := cd127) (t := 127) (sz := 2) (j := s1.2) (x := x5) (v := .agg #[.int .i64 x5.weight, .int .i64 x5.count]) H8 cd127_flat (by kernel_rfl) rfl (cd127_own _) (by kernel_rfl) hu2 (fun h15 H21 => ?_)
            refine Run_nil (by kernel_rfl) ?_
            refine Run_keep [0, 4, 5, 6] (L' := [(0, .slice aa_ a_.length ca_), (4, .slice a1 l1.length l1.length), (5, .int .i64 (w64 ((ishl .i64 1 (a_.length : Int)) - 1))), (6, .int .i64 s1.2)]) (by kernel_rfl) ?_
            refine Run_blk ?_
            have H24 : Hold h h15 [own cd127 a1 l1.length l1.length l3] := H21.pick [0] (by kernel_rfl)
            have gs2 := M.ret_some gs2
            subst gs2
            exact Run_fall [0, 4, 5, 6] (by kernel_rfl) ⟨rfl, H24⟩
          · refine Run_block ?_
            have H22 : Hold h h6 [own cd127 a1 l1.length l1.length s1.1, box b1 127 [.int .i64 (-1000000000000000), .int .i64 0]] := H6.pick [1, 0] (by kernel_rfl)
            refine Run_keep [0, 4, 5, 6, 8, 40, 41, 42] (L' := [(0, .slice aa_ a_.length ca_), (4, .slice a1 l1.length l1.length), (5, .int .i64 (w64 ((ishl .i64 1 (a_.length : Int)) - 1))), (6, .int .i64 s1.2), (8, .pointer (some ⟨b1, 0, none⟩)), (40, .slice a2 x4.length c1), (41, .int .i64 (x4.length : Int)), (42, .int .i64 0)]) (by kernel_rfl) ?_
            refine Run_loop (fun m L' h' => ∃ (i1 : Int) (s3 : TPermanent), 0 ≤ i1 ∧ M.forN (x4.length : Int) _ _ n m i1 s3 = some x5 ∧ L' = [(0, .slice aa_ a_.length ca_), (4, .slice a1 l1.length l1.length), (5, .int .i64 (w64 ((ishl .i64 1 (a_.length : Int)) - 1))), (6, .int .i64 s1.2), (8, .pointer (some ⟨b1, 0, none⟩)), (40, .slice a2 x4.length c1), (41, .int .i64 (x4.length : Int)), (42, .int .i64 i1)] ∧ Hold h h' [own cd127 a1 l1.length l1.length s1.1, box b1 127 [.int .i64 s3.weight, .int .i64 s3.count]]) ((x4.length : Int) - 0 : Int).toNat ⟨0, (⟨(-1000000000000000), 0⟩ : TPermanent), Int.le_refl _, gx5, rfl, H22⟩ ?_
            rintro my2 _ h7 ⟨i1, s3, hloy2', gx5, rfl, H7⟩
            refine Run_seq ?_
            refine Run_reg 1 (by kernel_rfl) (L' := [(0, .slice aa_ a_.length ca_), (4, .slice a1 l1.length l1.length), (5, .int .i64 (w64 ((ishl .i64 1 (a_.length : Int)) - 1))), (6, .int .i64 s1.2), (8, .pointer (some ⟨b1, 0, none⟩)), (40, .slice a2 x4.length c1), (41, .int .i64 (x4.length : Int)), (42, .int .i64 i1), (43, .bool (decide (i1 < (x4.length : Int))))]) ?_ ?_
            · refine QRun_b [.bool (decide (i1 < (x4.length : Int)))] 0 _ (by kernel_rfl) (fun w => by kernel_rfl) ?_
              exact QRun_done [0, 4, 5, 6, 8, 40, 41, 42, 43] (by kernel_rfl) (by kernel_rfl)
            refine Run_seq ?_
            refine Run_cond (b := decide (i1 < (x4.length : Int))) (by kernel_rfl) (fun hb3 => ?_) (fun hb3 => ?_)
            · obtain ⟨my2, y2, rfl, hB2, hgoy2, houty2⟩ := M.for_go gx5 hb3
              have hlty2 := of_decide_eq_true hb3
              refine Run_skip ?_
              refine Run_seq ?_
              obtain ⟨s4, gs4, hB2⟩ := M.bind_some hB2
              refine Run_join (fun L' h' => L' = [(0, .slice aa_ a_.length ca_), (4, .slice a1 l1.length l1.length), (5, .int .i64 (w64 ((ishl .i64 1 (a_.length : Int)) - 1))), (6, .int .i64 s1.2), (8, .pointer (some ⟨b1, 0, none⟩)), (40, .slice a2 x4.length c1), (41, .int .i64 (x4.length : Int)), (42, .int .i64 i1)] ∧ Hold h h' [own cd127 a1 l1.length l1.length s1.1, box b1 127 [.int .i64 s4.weight, .int .i64 s4.count]]) ?_ ?_
              · rintro _ h14 ⟨rfl, H19⟩
                refine Run_reg 2 (by kernel_rfl) (L' := [(0, .slice aa_ a_.length ca_), (4, .slice a1 l1.length l1.length), (5, .int .i64 (w64 ((ishl .i64 1 (a_.length : Int)) - 1))), (6, .int .i64 s1.2), (8, .pointer (some ⟨b1, 0, none⟩)), (40, .slice a2 x4.length c1), (41, .int .i64 (x4.length : Int)), (42, .int .i64 (i1 + 1))]) ?_ ?_
                · refine QRun_y (.int .i64 (i1 + 1)) (by kernel_rfl) (Y_eq (v := .int .i64 (w64 (i1 + 1))) (Y_pure (fun w => by kernel_rfl)) (by rw [w64_eq _ (by omega)])) ?_
                  refine QRun_b [.int .i64 (i1 + 1)] 1 _ (by kernel_rfl) (fun w => by kernel_rfl) ?_
                  exact QRun_done [0, 4, 5, 6, 8, 40, 41, 42] (by kernel_rfl) (by kernel_rfl)
                have hB2 := M.ret_some hB2
                have gx5 := hgoy2 _ hB2.symm
                exact Run_again [0, 4, 5, 6, 8, 40, 41, 42] (by kernel_rfl) my2 (Nat.lt_succ_self _) ⟨i1 + 1, s4, by omega, gx5, rfl, H19⟩
              · refine Run_block ?_
                refine Run_seq ?_
                obtain ⟨x6, hx4, gs4⟩ := M.bind_some gs4
                obtain ⟨hx4l, hx4u, hx4⟩ := M.idx_some hx4
                refine Run_reg 5 (by kernel_rfl) (L' := [(0, .slice aa_ a_.length ca_), (4, .slice a1 l1.length l1.length), (5, .int .i64 (w64 ((ishl .i64 1 (a_.length : Int)) - 1))), (6, .int .i64 s1.2), (8, .pointer (some ⟨b1, 0, none⟩)), (9, .int .i64 i1), (10, .int .i64 x6), (40, .slice a2 x4.length c1), (41, .int .i64 (x4.length : Int)), (42, .int .i64 i1)]) ?_ ?_
                · refine QRun_b [.int .i64 i1] 0 _ (by kernel_rfl) (fun w => by kernel_rfl) ?_
                  refine QRun_y (.pointer (some (adr a2 (i1.toNat * 1)))) (by kernel_rfl) (Y_idx (t := 39) (e := 2) (sz := 1) (a := a2) (n := x4.length) (cap := c1) (kk := .i64) (i := i1) (by kernel_rfl) Try.underlying39 (by kernel_rfl) ((r1.at H7.ext).cell hx4).1 hx4l hx4u) ?_
                  refine QRun_y (.int .i64 x6) (by kernel_rfl) (Y_load1 (t := 2) (p := adr a2 (i1.toNat * 1)) (v := .int .i64 x6) (by kernel_rfl) (fun w => by kernel_rfl) (cd2_cell (r1.at H7.ext) hx4)) ?_
                  refine QRun_b [.int .i64 i1, .int .i64 x6] 3 _ (by kernel_rfl) (fun w => by kernel_rfl) ?_
                  exact QRun_done [0, 4, 5, 6, 8, 9, 10, 40, 41, 42] (by kernel_rfl) (by kernel_rfl)
                refine Run_seq ?_
                refine Run_ops ?_
                obtain ⟨u3, hz3, gs4⟩ := M.bind_some gs4
                have hz3 := M.guard_some hz3
                obtain ⟨x7, hx5, gs4⟩ := M.bind_some gs4
                obtain ⟨hx5l, hx5u, hx5⟩ := M.idx_some hx5
                refine Run_b [.slice a1 l1.length l1.length, .int .i64 s1.2, .int .i64 i1] 0 _ (by kernel_rfl) (fun w => by kernel_rfl) ?_
                refine Run_y (.int .i64 (ishl .i64 1 i1)) (by kernel_rfl) (Y_shl (k := .i64) (x := 1) (kk := .i64) (y := i1) (by kernel_rfl) hz3) ?_
                refine Run_b [.int .i64 (ibit .or .i64 s1.2 (ishl .i64 1 i1))] 4 _ (by kernel_rfl) (fun w => by kernel_rfl) ?_
                refine Run_y (.pointer (some (adr a1 ((ibit .or .i64 s1.2 (ishl .i64 1 i1)).toNat * 2)))) (by kernel_rfl) (Y_idx (t := 128) (e := 127) (sz := 2) (a := a1) (n := l1.length) (cap := l1.length) (kk := .i64) (i := ibit .or .i64 s1.2 (ishl .i64 1 i1)) (by kernel_rfl) Try.underlying128 (by kernel_rfl) ((H7.rd 0 rfl).cell hx5).1 hx5l (by rw [← (H7.len 0 rfl)]; exact hx5u)) ?_
                refine Run_y (.agg #[.int .i64 x7.weight, .int .i64 x7.count]) (by kernel_rfl) (Y_loadA (t := 127) (n := 2) (p := adr a1 ((ibit .or .i64 s1.2 (ishl .i64 1 i1)).toNat * 2)) (cs := [.int .i64 x7.weight, .int .i64 x7.count]) (by kernel_rfl) (fun w => by kernel_rfl) (by kernel_rfl) rfl (cd127_elem (H7.rd 0 rfl) hx5)) ?_
                refine Run_E (by kernel_rfl) ?_
                refine E_box (ty := 127) (cs := [.int .i64 0, .int .i64 0]) H7 (fun w => by kernel_rfl) (fun b2 h9 H9 => ?_)
                refine Run_E (by kernel_rfl) ?_
                refine E_bput (t := 127) (off := 0) (us := [.int .i64 x7.weight, .int .i64 x7.count]) (v := .agg #[.int .i64 x7.weight, .int .i64 x7.count]) H9 (by kernel_rfl) (by kernel_rfl) rfl (by kernel_rfl) rfl (fun h10 H10 => ?_)
                refine Run_nil (by kernel_rfl) ?_
                refine Run_keep [0, 4, 5, 6, 8, 9, 10, 11, 40, 41, 42] (L' := [(0, .slice aa_ a_.length ca_), (4, .slice a1 l1.length l1.length), (5, .int .i64 (w64 ((ishl .i64 1 (a_.length : Int)) - 1))), (6, .int .i64 s1.2), (8, .pointer (some ⟨b1, 0, none⟩)), (9, .int .i64 i1), (10, .int .i64 x6), (11, .pointer (some ⟨b2, 0, none⟩)), (40, .slice a2 x4.length c1), (41, .int .i64 (x4.length : Int)), (42, .int .i64 i1)]) (by kernel_rfl) ?_
                refine Run_seq ?_
                refine Run_seq ?_
                obtain ⟨u4, hz4, gs4⟩ := M.bind_some gs4
                have hz4 := M.guard_some hz4
                refine Run_reg 14 (by kernel_rfl) (L' := [(0, .slice aa_ a_.length ca_), (4, .slice a1 l1.length l1.length), (5, .int .i64 (w64 ((ishl .i64 1 (a_.length : Int)) - 1))), (6, .int .i64 s1.2), (8, .pointer (some ⟨b1, 0, none⟩)), (10, .int .i64 x6), (11, .pointer (some ⟨b2, 0, none⟩)), (40, .slice a2 x4.length c1), (41, .int .i64 (x4.length : Int)), (42, .int .i64 i1), (67, .bool ((((ibit .and .i64 (ishr .i64 s1.2 i1) 1) == 1) || (x6 == (-1000000000000000))) || (x7.weight == (-1000000000000000))))]) ?_ ?_
                · refine QRun_b [.int .i64 s1.2, .int .i64 i1] 0 _ (by kernel_rfl) (fun w => by kernel_rfl) ?_
                  refine QRun_y (.int .i64 (ishr .i64 s1.2 i1)) (by kernel_rfl) (Y_shr (k := .i64) (x := s1.2) (kk := .i64) (y := i1) (by kernel_rfl) hz4) ?_
                  refine QRun_b [.int .i64 (ibit .and .i64 (ishr .i64 s1.2 i1) 1), .bool ((ibit .and .i64 (ishr .i64 s1.2 i1) 1) == 1)] 3 _ (by kernel_rfl) (fun w => by kernel_rfl) ?_
                  refine QRun_seq 9 [(0, .slice aa_ a_.length ca_), (4, .slice a1 l1.length l1.length), (5, .int .i64 (w64 ((ishl .i64 1 (a_.length : Int)) - 1))), (6, .int .i64 s1.2), (8, .pointer (some ⟨b1, 0, none⟩)), (10, .int .i64 x6), (11, .pointer (some ⟨b2, 0, none⟩)), (40, .slice a2 x4.length c1), (41, .int .i64 (x4.length : Int)), (42, .int .i64 i1), (62, .bool (((ibit .and .i64 (ishr .i64 s1.2 i1) 1) == 1) || (x6 == (-1000000000000000))))] ?_ ?_
                  · rcases Bool.eq_false_or_eq_true ((ibit .and .i64 (ishr .i64 s1.2 i1) 1) == 1) with hb4 | hb4
                    · refine QRun_bool ((ibit .and .i64 (ishr .i64 s1.2 i1) 1) == 1) true (by kernel_rfl) (fun w => by kernel_rfl) hb4 ?_
                      refine QRun_n (by kernel_rfl) ?_
                      refine QRun_n (by kernel_rfl) ?_
                      refine QRun_bool true (((ibit .and .i64 (ishr .i64 s1.2 i1) 1) == 1) || (x6 == (-1000000000000000))) (by kernel_rfl) (fun w => by kernel_rfl) (by rw [hb4]; rfl) ?_
                      exact QRun_done [0, 4, 5, 6, 8, 10, 11, 40, 41, 42, 62] (by kernel_rfl) (by kernel_rfl)
                    · refine QRun_bool ((ibit .and .i64 (ishr .i64 s1.2 i1) 1) == 1) false (by kernel_rfl) (fun w => by kernel_rfl) hb4 ?_
                      refine QRun_b [.int .i64 x6, .bool (x6 == (-1000000000000000))] 6 _ (by kernel_rfl) (fun w => by kernel_rfl) ?_
                      refine QRun_bool (x6 == (-1000000000000000)) (((ibit .and .i64 (ishr .i64 s1.2 i1) 1) == 1) || (x6 == (-1000000000000000))) (by kernel_rfl) (fun w => by kernel_rfl) (by rw [hb4]; rfl) ?_
                      exact QRun_done [0, 4, 5, 6, 8, 10, 11, 40, 41, 42, 62] (by kernel_rfl) (by kernel_rfl)
                  refine QRun_seq 14 [(0, .slice aa_ a_.length ca_), (4, .slice a1 l1.length l1.length), (5, .int .i64 (w64 ((ishl .i64 1 (a_.length : Int)) - 1))), (6, .int .i64 s1.2), (8, .pointer (some ⟨b1, 0, none⟩)), (10, .int .i64 x6), (11, .pointer (some ⟨b2, 0, none⟩)), (40, .slice a2 x4.length c1), (41, .int .i64 (x4.length : Int)), (42, .int .i64 i1), (67, .bool ((((ibit .and .i64 (ishr .i64 s1.2 i1) 1) == 1) || (x6 == (-1000000000000000))) || (x7.weight == (-1000000000000000))))] ?_ ?_
                  · rcases Bool.eq_false_or_eq_true (((ibit .and .i64 (ishr .i64 s1.2 i1) 1) == 1) || (x6 == (-1000000000000000))) with hb5 | hb5
                    · refine QRun_bool (((ibit .and .i64 (ishr .i64 s1.2 i1) 1) == 1) || (x6 == (-1000000000000000))) true (by kernel_rfl) (fun w => by kernel_rfl) hb5 ?_
                      refine QRun_n (by kernel_rfl) ?_
                      refine QRun_n (by kernel_rfl) ?_
                      refine QRun_n (by kernel_rfl) ?_
                      refine QRun_bool true ((((ibit .and .i64 (ishr .i64 s1.2 i1) 1) == 1) || (x6 == (-1000000000000000))) || (x7.weight == (-1000000000000000))) (by kernel_rfl) (fun w => by kernel_rfl) (by rw [hb5]; rfl) ?_
                      exact QRun_done [0, 4, 5, 6, 8, 10, 11, 40, 41, 42, 67] (by kernel_rfl) (by kernel_rfl)
                    · refine QRun_bool (((ibit .and .i64 (ishr .i64 s1.2 i1) 1) == 1) || (x6 == (-1000000000000000))) false (by kernel_rfl) (fun w => by kernel_rfl) hb5 ?_
                      refine QRun_b [.pointer (some ⟨b2, 0, none⟩)] 10 _ (by kernel_rfl) (fun w => by kernel_rfl) ?_
                      refine QRun_y (.int .i64 x7.weight) (by kernel_rfl) (Y_load1 (t := 2) (p := ⟨b2, 0, none⟩) (v := .int .i64 x7.weight) (by kernel_rfl) (fun w => by kernel_rfl) (H10.cell 0 rfl rfl)) ?_
                      refine QRun_b [.bool (x7.weight == (-1000000000000000))] 12 _ (by kernel_rfl) (fun w => by kernel_rfl) ?_
                      refine QRun_bool (x7.weight == (-1000000000000000)) ((((ibit .and .i64 (ishr .i64 s1.2 i1) 1) == 1) || (x6 == (-1000000000000000))) || (x7.weight == (-1000000000000000))) (by kernel_rfl) (fun w => by kernel_rfl) (by rw [hb5]; rfl) ?_
                      exact QRun_done [0, 4, 5, 6, 8, 10, 11, 40, 41, 42, 67] (by kernel_rfl) (by kernel_rfl)
                  exact QRun_done [0, 4, 5, 6, 8, 10, 11, 40, 41, 42, 67] (by kernel_rfl) (by kernel_rfl)
                refine Run_cond (b := (((ibit .and .i64 (ishr .i64 s1.2 i1) 1) == 1) || (x6 == (-1000000000000000))) || (x7.weight == (-1000000000000000))) (by kernel_rfl) (fun hb6 => ?_) (fun hb6 => ?_)
                · have gs4 := (M.ite_some gs4).1 hb6
                  refine Run_exit (k' := _) rfl ?_
                  have H20 : Hold h h10 [own cd127 a1 l1.length l1.length s1.1, box b1 127 [.int .i64 s3.weight, .int .i64 s3.count]] := H10.pick [1, 2] (by kernel_rfl)
                  have gs4 := M.ret_some gs4
                  subst gs4
                  exact Run_fall [0, 4, 5, 6, 8, 40, 41, 42] (by kernel_rfl) ⟨rfl, H20⟩
                · have gs4 := (M.ite_some gs4).2 hb6
                  refine Run_skip ?_
                  refine Run_seq ?_
                  refine Run_reg 5 (by kernel_rfl) (L' := [(0, .slice aa_ a_.length ca_), (4, .slice a1 l1.length l1.length), (5, .int .i64 (w64 ((ishl .i64 1 (a_.length : Int)) - 1))), (6, .int .i64 s1.2), (8, .pointer (some ⟨b1, 0, none⟩)), (11, .pointer (some ⟨b2, 0, none⟩)), (12, .int .i64 (w64 (x6 + x7.weight))), (40, .slice a2 x4.length c1), (41, .int .i64 (x4.length : Int)), (42, .int .i64 i1)]) ?_ ?_
                  · refine QRun_b [.int .i64 x6, .pointer (some ⟨b2, 0, none⟩)] 0 _ (by kernel_rfl) (fun w => by kernel_rfl) ?_
                    refine QRun_y (.int .i64 x7.weight) (by kernel_rfl) (Y_load1 (t := 2) (p := ⟨b2, 0, none⟩) (v := .int .i64 x7.weight) (by kernel_rfl) (fun w => by kernel_rfl) (H10.cell 0 rfl rfl)) ?_
                    refine QRun_b [.int .i64 (w64 (x6 + x7.weight)), .int .i64 (w64 (x6 + x7.weight))] 3 _ (by kernel_rfl) (fun w => by kernel_rfl) ?_
                    exact QRun_done [0, 4, 5, 6, 8, 11, 12, 40, 41, 42] (by kernel_rfl) (by kernel_rfl)
                  refine Run_block ?_
                  refine Run_seq ?_
                  refine Run_reg 10 (by kernel_rfl) (L' := [(0, .slice aa_ a_.length ca_), (4, .slice a1 l1.length l1.length), (5, .int .i64 (w64 ((ishl .i64 1 (a_.length : Int)) - 1))), (6, .int .i64 s1.2), (8, .pointer (some ⟨b1, 0, none⟩)), (11, .pointer (some ⟨b2, 0, none⟩)), (12, .int .i64 (w64 (x6 + x7.weight))), (40, .slice a2 x4.length c1), (41, .int .i64 (x4.length : Int)), (42, .int .i64 i1), (72, .bool ((s3.count == 0) || (decide (s3.weight < (w64 (x6 + x7.weight))))))]) ?_ ?_
                  · refine QRun_b [.pointer (some ⟨b1, 1, none⟩)] 0 _ (by kernel_rfl) (fun w => by kernel_rfl) ?_
                    refine QRun_y (.int .i64 s3.count) (by kernel_rfl) (Y_load1 (t := 2) (p := ⟨b1, 1, none⟩) (v := .int .i64 s3.count) (by kernel_rfl) (fun w => by kernel_rfl) (H10.cell 2 rfl rfl)) ?_
                    refine QRun_b [.bool (s3.count == 0)] 2 _ (by kernel_rfl) (fun w => by kernel_rfl) ?_
                    refine QRun_seq 9 [(0, .slice aa_ a_.length ca_), (4, .slice a1 l1.length l1.length), (5, .int .i64 (w64 ((ishl .i64 1 (a_.length : Int)) - 1))), (6, .int .i64 s1.2), (8, .pointer (some ⟨b1, 0, none⟩)), (11, .pointer (some ⟨b2, 0, none⟩)), (12, .int .i64 (w64 (x6 + x7.weight))), (40, .slice a2 x4.length c1), (41, .int .i64 (x4.length : Int)), (42, .int .i64 i1), (81, .bool ((s3.count == 0) || (decide (s3.weight < (w64 (x6 + x7.weight))))))] ?_ ?_
                    · rcases Bool.eq_false_or_eq_true (s3.count == 0) with hb7 | hb7
                      · refine QRun_bool (s3.count == 0) true (by kernel_rfl) (fun w => by kernel_rfl) hb7 ?_
                        refine QRun_n (by kernel_rfl) ?_
                        refine QRun_n (by kernel_rfl) ?_
                        refine QRun_n (by kernel_rfl) ?_
                        refine QRun_n (by kernel_rfl) ?_
                        refine QRun_bool true ((s3.count == 0) || (decide (s3.weight < (w64 (x6 + x7.weight))))) (by kernel_rfl) (fun w => by kernel_rfl) (by rw [hb7]; rfl) ?_
                        exact QRun_done [0, 4, 5, 6, 8, 11, 12, 40, 41, 42, 81] (by kernel_rfl) (by kernel_rfl)
                      · refine QRun_bool (s3.count == 0) false (by kernel_rfl) (fun w => by kernel_rfl) hb7 ?_
                        refine QRun_b [.int .i64 (w64 (x6 + x7.weight)), .pointer (some ⟨b1, 0, none⟩)] 4 _ (by kernel_rfl) (fun w => by kernel_rfl) ?_
                        refine QRun_y (.int .i64 s3.weight) (by kernel_rfl) (Y_load1 (t := 2) (p := ⟨b1, 0, none⟩) (v := .int .i64 s3.weight) (by kernel_rfl) (fun w => by kernel_rfl) (H10.cell 2 rfl rfl)) ?_
                        refine QRun_b [.bool (decide (s3.weight < (w64 (x6 + x7.weight))))] 7 _ (by kernel_rfl) (fun w => by kernel_rfl) ?_
                        refine QRun_bool (decide (s3.weight < (w64 (x6 + x7.weight)))) ((s3.count == 0) || (decide (s3.weight < (w64 (x6 + x7.weight))))) (by kernel_rfl) (fun w => by kernel_rfl) (by rw [hb7]; rfl) ?_
                        exact QRun_done [0, 4, 5, 6, 8, 11, 12, 40, 41, 42, 81] (by kernel_rfl) (by kernel_rfl)
                    refine QRun_b [.bool ((s3.count == 0) || (decide (s3.weight < (w64 (x6 + x7.weight)))))] 9 _ (by kernel_rfl) (fun w => by kernel_rfl) ?_
                    exact QRun_done [0, 4, 5, 6, 8, 11, 12, 40, 41, 42, 72] (by kernel_rfl) (by kernel_rfl)
                  obtain ⟨s5, gs5, gs4⟩ := M.bind_some gs4
                  refine Run_join (fun L' h' => L' = [(0, .slice aa_ a_.length ca_), (4, .slice a1 l1.length l1.length), (5, .int .i64 (w64 ((ishl .i64 1 (a_.length : Int)) - 1))), (6, .int .i64 s1.2), (8, .pointer (some ⟨b1, 0, none⟩)), (40, .slice a2 x4.length c1), (41, .int .i64 (x4.length : Int)), (42, .int .i64 i1)] ∧ Hold h h' [own cd127 a1 l1.length l1.length s1.1, box b1 127 [.int .i64 s5.weight, .int .i64 s5.count]]) ?_ ?_
                  · rintro _ h13 ⟨rfl, H15⟩
                    refine Run_blk ?_
                    refine Run_blk ?_
                    have gs4 := M.ret_some gs4
                    subst gs4
                    exact Run_fall [0, 4, 5, 6, 8, 40, 41, 42] (by kernel_rfl) ⟨rfl, H15⟩
                  · refine Run_cond (b := (s3.count == 0) || (decide (s3.weight < (w64 (x6 + x7.weight))))) (by kernel_rfl) (fun hb8 => ?_) (fun hb8 => ?_)
                    · have gs5 := (M.ite_some gs5).1 hb8
                      refine Run_ops ?_
                      refine Run_b [.int .i64 (w64 (x6 + x7.weight)), .pointer (some ⟨b2, 1, none⟩)] 0 _ (by kernel_rfl) (fun w => by kernel_rfl) ?_
                      refine Run_y (.int .i64 x7.count) (by kernel_rfl) (Y_load1 (t := 2) (p := ⟨b2, 1, none⟩) (v := .int .i64 x7.count) (by kernel_rfl) (fun w => by kernel_rfl) (H10.cell 0 rfl rfl)) ?_
                      refine Run_b [.agg #[.int .i64 (w64 (x6 + x7.weight)), .int .i64 x7.count]] 3 _ (by kernel_rfl) (fun w => by kernel_rfl) ?_
                      have H12 : Hold h h10 [box b1 127 [.int .i64 s3.weight, .int .i64 s3.count], box b2 127 [.int .i64 x7.weight, .int .i64 x7.count], own cd127 a1 l1.length l1.length s1.1] := H10.pick [2, 0, 1] (by kernel_rfl)
                      refine Run_E (by kernel_rfl) ?_
                      refine E_bput (t := 127) (off := 0) (us := [.int .i64 (w64 (x6 + x7.weight)), .int .i64 x7.count]) (v := .agg #[.int .i64 (w64 (x6 + x7.weight)), .int .i64 x7.count]) H12 (by kernel_rfl) (by kernel_rfl) rfl (by kernel_rfl) rfl (fun h11 H11 => ?_)
                      refine Run_nil (by kernel_rfl) ?_
                      refine Run_keep [0, 4, 5, 6, 8, 40, 41, 42] (L' := [(0, .slice aa_ a_.length ca_), (4, .slice a1 l1.length l1.length), (5, .int .i64 (w64 ((ishl .i64 1 (a_.length : Int)) - 1))), (6, .int .i64 s1.2), (8, .pointer (some ⟨b1, 0, none⟩)), (40, .slice a2 x4.length c1), (41, .int .i64 (x4.length : Int)), (42, .int .i64 i1)]) (by kernel_rfl) ?_
                      have H16 : Hold h h11 [own cd127 a1 l1.length l1.length s1.1, box b1 127 [.int .i64 (w64 (x6 + x7.weight)), .int .i64 x7.count]] := H11.pick [2, 0] (by kernel_rfl)
                      have gs5 := M.ret_some gs5
                      subst gs5
                      exact Run_fall [0, 4, 5, 6, 8, 40, 41, 42] (by kernel_rfl) ⟨rfl, H16⟩
                    · have gs5 := (M.ite_some gs5).2 hb8
                      refine Run_seq ?_
                      refine Run_reg 5 (by kernel_rfl) (L' := [(0, .slice aa_ a_.length ca_), (4, .slice a1 l1.length l1.length), (5, .int .i64 (w64 ((ishl .i64 1 (a_.length : Int)) - 1))), (6, .int .i64 s1.2), (8, .pointer (some ⟨b1, 0, none⟩)), (11, .pointer (some ⟨b2, 0, none⟩)), (40, .slice a2 x4.length c1), (41, .int .i64 (x4.length : Int)), (42, .int .i64 i1), (86, .bool ((w64 (x6 + x7.weight)) == s3.weight))]) ?_ ?_
                      · refine QRun_b [.int .i64 (w64 (x6 + x7.weight)), .pointer (some ⟨b1, 0, none⟩)] 0 _ (by kernel_rfl) (fun w => by kernel_rfl) ?_
                        refine QRun_y (.int .i64 s3.weight) (by kernel_rfl) (Y_load1 (t := 2) (p := ⟨b1, 0, none⟩) (v := .int .i64 s3.weight) (by kernel_rfl) (fun w => by kernel_rfl) (H10.cell 2 rfl rfl)) ?_
                        refine QRun_b [.bool ((w64 (x6 + x7.weight)) == s3.weight), .bool ((w64 (x6 + x7.weight)) == s3.weight)] 3 _ (by kernel_rfl) (fun w => by kernel_rfl) ?_
                        exact QRun_done [0, 4, 5, 6, 8, 11, 40, 41, 42, 86] (by kernel_rfl) (by kernel_rfl)
                      refine Run_cond (b := (w64 (x6 + x7.weight)) == s3.weight) (by kernel_rfl) (fun hb9 => ?_) (fun hb9 => ?_)
                      · have gs5 := (M.ite_some gs5).1 hb9
                        refine Run_ops ?_
                        refine Run_b [.pointer (some ⟨b1, 1, none⟩)] 0 _ (by kernel_rfl) (fun w => by kernel_rfl) ?_
                        refine Run_y (.int .i64 s3.count) (by kernel_rfl) (Y_load1 (t := 2) (p := ⟨b1, 1, none⟩) (v := .int .i64 s3.count) (by kernel_rfl) (fun w => by kernel_rfl) (H10.cell 2 rfl rfl)) ?_
                        refine Run_b [.pointer (some ⟨b2, 1, none⟩)] 2 _ (by kernel_rfl) (fun w => by kernel_rfl) ?_
                        refine Run_y (.int .i64 x7.count) (by kernel_rfl) (Y_load1 (t := 2) (p := ⟨b2, 1, none⟩) (v := .int .i64 x7.count) (by kernel_rfl) (fun w => by kernel_rfl) (H10.cell 0 rfl rfl)) ?_
                        refine Run_b [.int .i64 (w64 (s3.count + x7.count)), .pointer (some ⟨b1, 1, none⟩)] 4 _ (by kernel_rfl) (fun w => by kernel_rfl) ?_
                        have H14 : Hold h h10 [box b1 127 [.int .i64 s3.weight, .int .i64 s3.count], box b2 127 [.int .i64 x7.weight, .int .i64 x7.count], own cd127 a1 l1.length l1.length s1.1] := H10.pick [2, 0, 1] (by kernel_rfl)
                        refine Run_E (by kernel_rfl) ?_
                        refine E_bput (t := 2) (off := 1) (us := [.int .i64 s3.weight, .int .i64 (w64 (s3.count + x7.count))]) (v := .int .i64 (w64 (s3.count + x7.count))) H14 (by kernel_rfl) (by kernel_rfl) rfl (by kernel_rfl) rfl (fun h12 H13 => ?_)
                        refine Run_nil (by kernel_rfl) ?_
                        refine Run_keep [0, 4, 5, 6, 8, 40, 41, 42] (L' := [(0, .slice aa_ a_.length ca_), (4, .slice a1 l1.length l1.length), (5, .int .i64 (w64 ((ishl .i64 1 (a_.length : Int)) - 1))), (6, .int .i64 s1.2), (8, .pointer (some ⟨b1, 0, none⟩)), (40, .slice a2 x4.length c1), (41, .int .i64 (x4.length : Int)), (42, .int .i64 i1)]) (by kernel_rfl) ?_
                        have H17 : Hold h h12 [own cd127 a1 l1.length l1.length s1.1, box b1 127 [.int .i64 s3.weight, .int .i64 (w64 (s3.count + x7.count))]] := H13.pick [2, 0] (by kernel_rfl)
                        have gs5 := M.ret_some gs5
                        subst gs5
                        exact Run_fall [0, 4, 5, 6, 8, 40, 41, 42] (by kernel_rfl) ⟨rfl, H17⟩
                      · have gs5 := (M.ite_some gs5).2 hb9
                        refine Run_skip ?_
                        have H18 : Hold h h10 [own cd127 a1 l1.length l1.length s1.1, box b1 127 [.int .i64 s3.weight, .int .i64 s3.count]] := H10.pick [1, 2] (by kernel_rfl)
                        have gs5 := M.ret_some gs5
                        subst gs5
                        exact Run_fall [0, 4, 5, 6, 8, 40, 41, 42] (by kernel_rfl) ⟨rfl, H18⟩
            · have gx5 := M.for_end gx5 hb3
              subst gx5
              refine Run_exit (k' := _) rfl ?_
              exact Run_fall [0, 4, 5, 6, 8] (by kernel_rfl) ⟨rfl, H7⟩
    · have hB1 := (M.ite_some hB1).2 hb1
      refine Run_exit (k' := _) rfl ?_
      have hB1 := M.ret_some hB1
      have gx1 := houty1 _ hB1.symm
      subst gx1
      exact Run_fall [4] (by kernel_rfl) ⟨rfl, H2⟩

end Go.Proofs.Ytipdgiljgbjjkaa
