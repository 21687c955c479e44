/-
  Walks: each Go function, called with what reads as plain data, returns what its plain program computes.
  Conditions: None beyond the given statement.
-/
import Derived.Test.YtbemhgddkkggmaaW0
namespace Go.Proofs.Ytbemhgddkkggmaa
open Go
attribute [local irreducible] setL setB opA fineI idleI fineB evB okB markB markBs readyB readyBs chainB lk rho pickL dropSlot tailOK
set_option maxRecDepth 100000 in
set_option maxHeartbeats 4000000 in
theorem w_laws_eqPlaceS (h : Heap) (a_ : List TPlace) (aa_ : Option Addr) (ca_ : Nat) (ra_ : Rd cd50 h (Lt h) aa_ ca_ a_) (b : List TPlace) (ab : Option Addr) (cb : Nat) (rb : Rd cd50 h (Lt h) ab cb b) (n : Nat) (r : Bool) (hF : laws_eqPlaceS a_ b n = some r) :
    Fn Try.prog 23 #[.slice aa_ a_.length ca_, .slice ab b.length cb] h fun v h' => v = .bool r ∧ Hold h h' [] := by
  unfold laws_eqPlaceS at hF
  refine Fn_enter (args := [.slice aa_ a_.length ca_, .slice ab b.length cb]) Try.func23 rfl (by kernel_rfl) (by kernel_rfl) (fun w0 _ => ?_)
  have H0 := Hold.init h
  refine Run_seq ?_
  refine Run_reg 1 (by kernel_rfl) (L' := [(0, .slice aa_ a_.length ca_), (1, .slice ab b.length cb)]) ?_ ?_
  · refine QRun_b [.bool false] 0 _ (by kernel_rfl) (fun w => by kernel_rfl) ?_
    exact QRun_done [0, 1] (by kernel_rfl) (by kernel_rfl)
  refine Run_seq ?_
  refine Run_seq ?_
  refine Run_reg 5 (by kernel_rfl) (L' := [(0, .slice aa_ a_.length ca_), (1, .slice ab b.length cb), (10, .bool ((a_.length : Int) != (b.length : Int)))]) ?_ ?_
  · refine QRun_b [.slice aa_ a_.length ca_, .int .i64 (a_.length : Int), .slice ab b.length cb, .int .i64 (b.length : Int), .bool ((a_.length : Int) != (b.length : Int))] 0 _ (by kernel_rfl) (fun w => by kernel_rfl) ?_
    exact QRun_done [0, 1, 10] (by kernel_rfl) (by kernel_rfl)
  refine Run_cond (b := (a_.length : Int) != (b.length : Int)) (by kernel_rfl) (fun hb1 => ?_) (fun hb1 => ?_)
  · have hF := (M.ite_some hF).1 hb1
    refine Run_seq ?_
    refine Run_reg 1 (by kernel_rfl) (L' := [(4, .bool false)]) ?_ ?_
    · refine QRun_b [.bool false] 0 _ (by kernel_rfl) (fun w => by kernel_rfl) ?_
      exact QRun_done [4] (by kernel_rfl) (by kernel_rfl)
    have hF := M.ret_some hF
    subst hF
    exact Run_ret1 rfl (ResV_tmp (v := .bool false) (by kernel_rfl)) ⟨rfl, H0⟩
  · have hF := (M.ite_some hF).2 hb1
    refine Run_skip ?_
    refine Run_seq ?_
    refine Run_seq ?_
    refine Run_reg 1 (by kernel_rfl) (L' := [(0, .slice aa_ a_.length ca_), (1, .slice ab b.length cb), (5, .int .i64 0)]) ?_ ?_
    · refine QRun_b [.int .i64 0] 0 _ (by kernel_rfl) (fun w => by kernel_rfl) ?_
      exact QRun_done [0, 1, 5] (by kernel_rfl) (by kernel_rfl)
    obtain ⟨x1, gx1, hF⟩ := M.bind_some hF
    obtain ⟨hloy1, hhiy1, gx1⟩ := M.for_start gx1
    refine Run_join (fun L' h' => ∃ (s2 : Unit), x1 = .inl s2 ∧ L' = [] ∧ Hold h h' []) ?_ ?_
    · rintro _ h2 ⟨s2, es2, rfl, H2⟩
      have hF := M.cont_inl' hF es2
      refine Run_seq ?_
      refine Run_reg 1 (by kernel_rfl) (L' := [(4, .bool true)]) ?_ ?_
      · refine QRun_b [.bool true] 0 _ (by kernel_rfl) (fun w => by kernel_rfl) ?_
        exact QRun_done [4] (by kernel_rfl) (by kernel_rfl)
      have hF := M.ret_some hF
      subst hF
      exact Run_ret1 rfl (ResV_tmp (v := .bool true) (by kernel_rfl)) ⟨rfl, H2⟩
    · refine Run_block ?_
      refine Run_keep [0, 1, 5] (L' := [(0, .slice aa_ a_.length ca_), (1, .slice ab b.length cb), (5, .int .i64 0)]) (by kernel_rfl) ?_
      refine Run_loop (fun m L' h' => ∃ (i1 : Int) (s1 : Unit), 0 ≤ i1 ∧ M.forN (a_.length : Int) _ _ n m i1 s1 = some x1 ∧ L' = [(0, .slice aa_ a_.length ca_), (1, .slice ab b.length cb), (5, .int .i64 i1)] ∧ Hold h h' []) ((a_.length : Int) - 0 : Int).toNat ⟨0, (), Int.le_refl _, gx1, rfl, H0⟩ ?_
      rintro my1 _ h1 ⟨i1, s1, hloy1', gx1, rfl, H1⟩
      refine Run_seq ?_
      refine Run_seq ?_
      refine Run_reg 4 (by kernel_rfl) (L' := [(0, .slice aa_ a_.length ca_), (1, .slice ab b.length cb), (5, .int .i64 i1), (14, .bool (decide (i1 < (a_.length : Int))))]) ?_ ?_
      · refine QRun_b [.int .i64 i1, .slice aa_ a_.length ca_, .int .i64 (a_.length : Int), .bool (decide (i1 < (a_.length : Int)))] 0 _ (by kernel_rfl) (fun w => by kernel_rfl) ?_
        exact QRun_done [0, 1, 5, 14] (by kernel_rfl) (by kernel_rfl)
      refine Run_cond (b := decide (i1 < (a_.length : Int))) (by kernel_rfl) (fun hb2 => ?_) (fun hb2 => ?_)
      · obtain ⟨my1, y1, rfl, hB1, hgoy1, houty1⟩ := M.for_go gx1 hb2
        have hlty1 := of_decide_eq_true hb2
        refine Run_skip ?_
        refine Run_seq ?_
        refine Run_block ?_
        refine Run_seq ?_
        obtain ⟨x2, hx1, hB1⟩ := M.bind_some hB1
        obtain ⟨hx1l, hx1u, hx1⟩ := M.idx_some hx1
        obtain ⟨x3, hx2, hB1⟩ := M.bind_some hB1
        obtain ⟨hx2l, hx2u, hx2⟩ := M.idx_some hx2
        obtain ⟨x4, hx3, hB1⟩ := M.bind_some hB1
        refine Run_drawC (j := 10) (C := fun x => Hold h x []) mixed (by kernel_rfl) (by kernel_rfl) H1 (L' := [(0, .slice aa_ a_.length ca_), (1, .slice ab b.length cb), (5, .int .i64 i1), (26, .bool (!x4))]) ?_ (fun h3 H3 => ?_)
        · refine QRun_b [.slice aa_ a_.length ca_, .int .i64 i1] 0 _ (by kernel_rfl) (fun w => by kernel_rfl) ?_
          refine QRun_y (.pointer (some (adr aa_ (i1.toNat * 4)))) (by kernel_rfl) (Y_cls fun hx Hx => (Y_idx (t := 28) (e := 50) (sz := 4) (a := aa_) (n := a_.length) (cap := ca_) (kk := .i64) (i := i1) (by kernel_rfl) Try.underlying28 (by kernel_rfl) ((ra_.at H1.ext).cell hx1).1 hx1l hx1u)) ?_
          refine QRun_y (.agg #[.int .i64 x2.From, .int .i64 x2.To, .int .i64 x2.Delay, .int .i64 x2.Tokens]) (by kernel_rfl) (Y_cls fun hx Hx => (Y_loadA (t := 50) (n := 4) (p := adr aa_ (i1.toNat * 4)) (cs := [.int .i64 x2.From, .int .i64 x2.To, .int .i64 x2.Delay, .int .i64 x2.Tokens]) (by kernel_rfl) (fun w => by kernel_rfl) (by kernel_rfl) rfl (cd50_elem (ra_.at Hx.ext) hx1))) ?_
          refine QRun_b [.slice ab b.length cb, .int .i64 i1] 4 _ (by kernel_rfl) (fun w => by kernel_rfl) ?_
          refine QRun_y (.pointer (some (adr ab (i1.toNat * 4)))) (by kernel_rfl) (Y_cls fun hx Hx => (Y_idx (t := 28) (e := 50) (sz := 4) (a := ab) (n := b.length) (cap := cb) (kk := .i64) (i := i1) (by kernel_rfl) Try.underlying28 (by kernel_rfl) ((rb.at H1.ext).cell hx2).1 hx2l hx2u)) ?_
          refine QRun_y (.agg #[.int .i64 x3.From, .int .i64 x3.To, .int .i64 x3.Delay, .int .i64 x3.Tokens]) (by kernel_rfl) (Y_cls fun hx Hx => (Y_loadA (t := 50) (n := 4) (p := adr ab (i1.toNat * 4)) (cs := [.int .i64 x3.From, .int .i64 x3.To, .int .i64 x3.Delay, .int .i64 x3.Tokens]) (by kernel_rfl) (fun w => by kernel_rfl) (by kernel_rfl) rfl (cd50_elem (rb.at Hx.ext) hx2))) ?_
          refine QRun_y (.bool x4) (by kernel_rfl) (Y_call (f := 41) (args := #[.agg #[.int .i64 x2.From, .int .i64 x2.To, .int .i64 x2.Delay, .int .i64 x2.Tokens], .agg #[.int .i64 x3.From, .int .i64 x3.To, .int .i64 x3.Delay, .int .i64 x3.Tokens]]) (v := .bool x4) (by kernel_rfl) fun hx Hx => (w_laws_eqPlace hx x2 x3 _ _ hx3).mono fun _ _ ⟨e, H'⟩ => ⟨e, Hx.call H' rfl⟩) ?_
          refine QRun_b [.bool (!x4)] 9 _ (by kernel_rfl) (fun w => by kernel_rfl) ?_
          exact QRun_done [0, 1, 5, 26] (by kernel_rfl) (by kernel_rfl)
        have H4 : Hold h h3 [] := H3
        refine Run_cond (b := !x4) (by kernel_rfl) (fun hb3 => ?_) (fun hb3 => ?_)
        · have hB1 := (M.ite_some hB1).1 hb3
          refine Run_seq ?_
          refine Run_reg 1 (by kernel_rfl) (L' := [(4, .bool false)]) ?_ ?_
          · refine QRun_b [.bool false] 0 _ (by kernel_rfl) (fun w => by kernel_rfl) ?_
            exact QRun_done [4] (by kernel_rfl) (by kernel_rfl)
          have hB1 := M.ret_some hB1
          have gx1 := houty1 _ hB1.symm
          have hF := M.cont_inr' hF gx1
          have hF := M.ret_some hF
          subst hF
          exact Run_ret1 rfl (ResV_tmp (v := .bool false) (by kernel_rfl)) ⟨rfl, H4⟩
        · have hB1 := (M.ite_some hB1).2 hb3
          refine Run_skip ?_
          refine Run_blk ?_
          refine Run_reg 3 (by kernel_rfl) (L' := [(0, .slice aa_ a_.length ca_), (1, .slice ab b.length cb), (5, .int .i64 (i1 + 1))]) ?_ ?_
          · refine QRun_b [.int .i64 i1] 0 _ (by kernel_rfl) (fun w => by kernel_rfl) ?_
            refine QRun_y (.int .i64 (i1 + 1)) (by kernel_rfl) (Y_eq (v := .int .i64 (w64 (i1 + 1))) (Y_pure (fun w => by kernel_rfl)) (by rw [w64_eq _ (by omega)])) ?_
            refine QRun_b [.int .i64 (i1 + 1)] 2 _ (by kernel_rfl) (fun w => by kernel_rfl) ?_
            exact QRun_done [0, 1, 5] (by kernel_rfl) (by kernel_rfl)
          have hB1 := M.ret_some hB1
          have gx1 := hgoy1 _ hB1.symm
          exact Run_again [0, 1, 5] (by kernel_rfl) my1 (Nat.lt_succ_self _) ⟨i1 + 1, (), by omega, gx1, rfl, H4⟩
      · have gx1 := M.for_end gx1 hb2
        subst gx1
        refine Run_exit (k' := _) rfl ?_
        exact Run_fall [] (by kernel_rfl) ⟨(), rfl, rfl, H1⟩

set_option maxRecDepth 100000 in
set_option maxHeartbeats 4000000 in
theorem w_laws_eqEventGraph (h : Heap) (a_ : TGraph) (aa_Places : Option Addr) (ca_Places : Nat) (ra_Places : Rd cd50 h (Lt h) aa_Places ca_Places a_.Places) (b : TGraph) (abPlaces : Option Addr) (cbPlaces : Nat) (rbPlaces : Rd cd50 h (Lt h) abPlaces cbPlaces b.Places) (n : Nat) (r : Bool) (hF : laws_eqEventGraph a_ b n = some r) :
    Fn Try.prog 10 #[.agg #[.int .i64 a_.Events, .slice aa_Places a_.Places.length ca_Places], .agg #[.int .i64 b.Events, .slice abPlaces b.Places.length cbPlaces]] h fun v h' => v = .bool r ∧ Hold h h' [] := by
  unfold laws_eqEventGraph at hF
  refine Fn_enter (args := [.agg #[.int .i64 a_.Events, .slice aa_Places a_.Places.length ca_Places], .agg #[.int .i64 b.Events, .slice abPlaces b.Places.length cbPlaces]]) Try.func10 rfl (by kernel_rfl) (by kernel_rfl) (fun w0 _ => ?_)
  have H0 := Hold.init h
  refine Run_seq ?_
  refine Run_ops ?_
  refine Run_E (by kernel_rfl) ?_
  refine E_box (ty := 30) (cs := [.int .i64 a_.Events, .slice aa_Places a_.Places.length ca_Places]) H0 (fun w => by kernel_rfl) (fun b1 h1 H1 => ?_)
  refine Run_E (by kernel_rfl) ?_
  refine E_box (ty := 30) (cs := [.int .i64 b.Events, .slice abPlaces b.Places.length cbPlaces]) H1 (fun w => by kernel_rfl) (fun b2 h2 H2 => ?_)
  refine Run_b [.bool false] 2 _ (by kernel_rfl) (fun w => by kernel_rfl) ?_
  refine Run_nil (by kernel_rfl) ?_
  refine Run_keep [2, 3] (L' := [(2, .pointer (some ⟨b1, 0, none⟩)), (3, .pointer (some ⟨b2, 0, none⟩))]) (by kernel_rfl) ?_
  refine Run_seq ?_
  refine Run_seq ?_
  refine Run_reg 5 (by kernel_rfl) (L' := [(2, .pointer (some ⟨b1, 0, none⟩)), (3, .pointer (some ⟨b2, 0, none⟩)), (9, .bool (a_.Events != b.Events))]) ?_ ?_
  · refine QRun_b [.pointer (some ⟨b1, 0, none⟩)] 0 _ (by kernel_rfl) (fun w => by kernel_rfl) ?_
    refine QRun_y (.int .i64 a_.Events) (by kernel_rfl) (Y_load1 (t := 2) (p := ⟨b1, 0, none⟩) (v := .int .i64 a_.Events) (by kernel_rfl) (fun w => by kernel_rfl) (H2.cell 1 rfl rfl)) ?_
    refine QRun_b [.pointer (some ⟨b2, 0, none⟩)] 2 _ (by kernel_rfl) (fun w => by kernel_rfl) ?_
    refine QRun_y (.int .i64 b.Events) (by kernel_rfl) (Y_load1 (t := 2) (p := ⟨b2, 0, none⟩) (v := .int .i64 b.Events) (by kernel_rfl) (fun w => by kernel_rfl) (H2.cell 0 rfl rfl)) ?_
    refine QRun_b [.bool (a_.Events != b.Events)] 4 _ (by kernel_rfl) (fun w => by kernel_rfl) ?_
    exact QRun_done [2, 3, 9] (by kernel_rfl) (by kernel_rfl)
  refine Run_cond (b := a_.Events != b.Events) (by kernel_rfl) (fun hb1 => ?_) (fun hb1 => ?_)
  · have hF := (M.ite_some hF).1 hb1
    refine Run_seq ?_
    refine Run_reg 1 (by kernel_rfl) (L' := [(4, .bool false)]) ?_ ?_
    · refine QRun_b [.bool false] 0 _ (by kernel_rfl) (fun w => by kernel_rfl) ?_
      exact QRun_done [4] (by kernel_rfl) (by kernel_rfl)
    have hF := M.ret_some hF
    subst hF
    have H3 : Hold h h2 [] := H2.pick [] (by kernel_rfl)
    exact Run_ret1 rfl (ResV_tmp (v := .bool false) (by kernel_rfl)) ⟨rfl, H3⟩
  · have hF := (M.ite_some hF).2 hb1
    refine Run_skip ?_
    refine Run_seq ?_
    refine Run_seq ?_
    obtain ⟨x1, hx1, hF⟩ := M.bind_some hF
    refine Run_regC (j := 6) (C := fun x => Hold h x [box b2 30 [.int .i64 b.Events, .slice abPlaces b.Places.length cbPlaces], box b1 30 [.int .i64 a_.Events, .slice aa_Places a_.Places.length ca_Places]]) (by kernel_rfl) H2 (L' := [(15, .bool (!x1))]) ?_ (fun h3 H4 => ?_)
    · refine QRun_b [.pointer (some ⟨b1, 1, none⟩)] 0 _ (by kernel_rfl) (fun w => by kernel_rfl) ?_
      refine QRun_y (.slice aa_Places a_.Places.length ca_Places) (by kernel_rfl) (Y_cls fun hx Hx => (Y_load1 (t := 28) (p := ⟨b1, 1, none⟩) (v := .slice aa_Places a_.Places.length ca_Places) (by kernel_rfl) (fun w => by kernel_rfl) (Hx.cell 1 rfl rfl))) ?_
      refine QRun_b [.pointer (some ⟨b2, 1, none⟩)] 2 _ (by kernel_rfl) (fun w => by kernel_rfl) ?_
      refine QRun_y (.slice abPlaces b.Places.length cbPlaces) (by kernel_rfl) (Y_cls fun hx Hx => (Y_load1 (t := 28) (p := ⟨b2, 1, none⟩) (v := .slice abPlaces b.Places.length cbPlaces) (by kernel_rfl) (fun w => by kernel_rfl) (Hx.cell 0 rfl rfl))) ?_
      refine QRun_y (.bool x1) (by kernel_rfl) (Y_call (f := 23) (args := #[.slice aa_Places a_.Places.length ca_Places, .slice abPlaces b.Places.length cbPlaces]) (v := .bool x1) (by kernel_rfl) fun hx Hx => (w_laws_eqPlaceS hx a_.Places aa_Places ca_Places (ra_Places.at Hx.ext) b.Places abPlaces cbPlaces (rbPlaces.at Hx.ext) _ _ hx1).mono fun _ _ ⟨e, H'⟩ => ⟨e, Hx.call H' rfl⟩) ?_
      refine QRun_b [.bool (!x1)] 5 _ (by kernel_rfl) (fun w => by kernel_rfl) ?_
      exact QRun_done [15] (by kernel_rfl) (by kernel_rfl)
    have H5 : Hold h h3 [box b2 30 [.int .i64 b.Events, .slice abPlaces b.Places.length cbPlaces], box b1 30 [.int .i64 a_.Events, .slice aa_Places a_.Places.length ca_Places]] := H4
    refine Run_cond (b := !x1) (by kernel_rfl) (fun hb2 => ?_) (fun hb2 => ?_)
    · have hF := (M.ite_some hF).1 hb2
      refine Run_seq ?_
      refine Run_reg 1 (by kernel_rfl) (L' := [(4, .bool false)]) ?_ ?_
      · refine QRun_b [.bool false] 0 _ (by kernel_rfl) (fun w => by kernel_rfl) ?_
        exact QRun_done [4] (by kernel_rfl) (by kernel_rfl)
      have hF := M.ret_some hF
      subst hF
      have H6 : Hold h h3 [] := H5.pick [] (by kernel_rfl)
      exact Run_ret1 rfl (ResV_tmp (v := .bool false) (by kernel_rfl)) ⟨rfl, H6⟩
    · have hF := (M.ite_some hF).2 hb2
      refine Run_skip ?_
      refine Run_seq ?_
      refine Run_reg 1 (by kernel_rfl) (L' := [(4, .bool true)]) ?_ ?_
      · refine QRun_b [.bool true] 0 _ (by kernel_rfl) (fun w => by kernel_rfl) ?_
        exact QRun_done [4] (by kernel_rfl) (by kernel_rfl)
      have hF := M.ret_some hF
      subst hF
      have H7 : Hold h h3 [] := H5.pick [] (by kernel_rfl)
      exact Run_ret1 rfl (ResV_tmp (v := .bool true) (by kernel_rfl)) ⟨rfl, H7⟩

set_option maxRecDepth 100000 in
set_option maxHeartbeats 4000000 in
theorem w_laws_FnExactIsLive (h : Heap) (aG : TGraph) (aaGPlaces : Option Addr) (caGPlaces : Nat) (raGPlaces : Rd cd58 h (Lt h) aaGPlaces caGPlaces aG.Places) (n : Nat) (r : Bool) (hF : laws_FnExactIsLive aG n = some r) :
    Fn Try.prog 3 #[.agg #[.int .i64 aG.Events, .slice aaGPlaces aG.Places.length caGPlaces]] h fun v h' => v = .bool r ∧ Hold h h' [] := by
  unfold laws_FnExactIsLive at hF
  refine Fn_enter (args := [.agg #[.int .i64 aG.Events, .slice aaGPlaces aG.Places.length caGPlaces]]) Try.func3 rfl (by kernel_rfl) (by kernel_rfl) (fun w0 _ => ?_)
  have H0 := Hold.init h
  refine Run_seq ?_
  refine Run_ops ?_
  refine Run_E (by kernel_rfl) ?_
  refine E_box (ty := 24) (cs := [.int .i64 aG.Events, .slice aaGPlaces aG.Places.length caGPlaces]) H0 (fun w => by kernel_rfl) (fun b1 h1 H1 => ?_)
  refine Run_b [.bool false] 1 _ (by kernel_rfl) (fun w => by kernel_rfl) ?_
  refine Run_nil (by kernel_rfl) ?_
  refine Run_keep [1] (L' := [(1, .pointer (some ⟨b1, 0, none⟩))]) (by kernel_rfl) ?_
  refine Run_seq ?_
  refine Run_reg 1 (by kernel_rfl) (L' := [(1, .pointer (some ⟨b1, 0, none⟩)), (3, .int .i64 1048576)]) ?_ ?_
  · refine QRun_b [.int .i64 1048576] 0 _ (by kernel_rfl) (fun w => by kernel_rfl) ?_
    exact QRun_done [1, 3] (by kernel_rfl) (by kernel_rfl)
  refine Run_seq ?_
  obtain ⟨x1, hx1, hF⟩ := M.bind_some hF
  refine Run_regC (j := 4) (C := fun x => Hold h x [box b1 24 [.int .i64 aG.Events, .slice aaGPlaces aG.Places.length caGPlaces]]) (by kernel_rfl) H1 (L' := [(1, .pointer (some ⟨b1, 0, none⟩)), (3, .int .i64 x1)]) ?_ (fun h2 H2 => ?_)
  · refine QRun_y (.agg #[.int .i64 aG.Events, .slice aaGPlaces aG.Places.length caGPlaces]) (by kernel_rfl) (Y_cls fun hx Hx => (Y_loadA (t := 24) (n := 2) (p := ⟨b1, 0, none⟩) (cs := [.int .i64 aG.Events, .slice aaGPlaces aG.Places.length caGPlaces]) (by kernel_rfl) (fun w => by kernel_rfl) (by kernel_rfl) rfl (Hx.cells (n := 2) (off := 0) 0 rfl rfl))) ?_
    refine QRun_b [.int .i64 1048576] 1 _ (by kernel_rfl) (fun w => by kernel_rfl) ?_
    refine QRun_y (.int .i64 x1) (by kernel_rfl) (Y_call (f := 6) (args := #[.agg #[.int .i64 aG.Events, .slice aaGPlaces aG.Places.length caGPlaces], .int .i64 1048576]) (v := .int .i64 x1) (by kernel_rfl) fun hx Hx => (w_laws_szEventGraph hx aG aaGPlaces caGPlaces (raGPlaces.at Hx.ext) 1048576 _ _ hx1).mono fun _ _ ⟨e, H'⟩ => ⟨e, Hx.call H' rfl⟩) ?_
    refine QRun_b [.int .i64 x1] 3 _ (by kernel_rfl) (fun w => by kernel_rfl) ?_
    exact QRun_done [1, 3] (by kernel_rfl) (by kernel_rfl)
  have H3 : Hold h h2 [box b1 24 [.int .i64 aG.Events, .slice aaGPlaces aG.Places.length caGPlaces]] := H2
  refine Run_seq ?_
  refine Run_seq ?_
  refine Run_reg 2 (by kernel_rfl) (L' := [(1, .pointer (some ⟨b1, 0, none⟩)), (13, .bool (decide (x1 < 0)))]) ?_ ?_
  · refine QRun_b [.int .i64 x1, .bool (decide (x1 < 0))] 0 _ (by kernel_rfl) (fun w => by kernel_rfl) ?_
    exact QRun_done [1, 13] (by kernel_rfl) (by kernel_rfl)
  refine Run_cond (b := decide (x1 < 0)) (by kernel_rfl) (fun hb1 => ?_) (fun hb1 => ?_)
  · have hF := (M.ite_some hF).1 hb1
    refine Run_seq ?_
    refine Run_reg 1 (by kernel_rfl) (L' := [(2, .bool true)]) ?_ ?_
    · refine QRun_b [.bool true] 0 _ (by kernel_rfl) (fun w => by kernel_rfl) ?_
      exact QRun_done [2] (by kernel_rfl) (by kernel_rfl)
    have hF := M.ret_some hF
    subst hF
    have H4 : Hold h h2 [] := H3.pick [] (by kernel_rfl)
    exact Run_ret1 rfl (ResV_tmp (v := .bool true) (by kernel_rfl)) ⟨rfl, H4⟩
  · have hF := (M.ite_some hF).2 hb1
    refine Run_skip ?_
    refine Run_seq ?_
    refine Run_ops ?_
    refine Run_y (.agg #[.int .i64 aG.Events, .slice aaGPlaces aG.Places.length caGPlaces]) (by kernel_rfl) (Y_loadA (t := 24) (n := 2) (p := ⟨b1, 0, none⟩) (cs := [.int .i64 aG.Events, .slice aaGPlaces aG.Places.length caGPlaces]) (by kernel_rfl) (fun w => by kernel_rfl) (by kernel_rfl) rfl (H3.cells (n := 2) (off := 0) 0 rfl rfl)) ?_
    obtain ⟨x2, hx2, hF⟩ := M.bind_some hF
    refine Run_E (by kernel_rfl) ?_
    refine E_call (f := 8) (args := #[.agg #[.int .i64 aG.Events, .slice aaGPlaces aG.Places.length caGPlaces]]) (w_laws_toEventGraph h2 aG aaGPlaces caGPlaces (raGPlaces.at H3.ext) _ _ hx2) (by kernel_rfl) (fun v1 h3 hp1 => ?_)
    obtain ⟨a1, c1, rfl, H5⟩ := hp1
    have H6 : Hold h h3 [own cd50 a1 x2.Places.length c1 x2.Places, box b1 24 [.int .i64 aG.Events, .slice aaGPlaces aG.Places.length caGPlaces]] := H3.call H5 rfl
    obtain ⟨x3, hx3, hF⟩ := M.bind_some hF
    refine Run_E (by kernel_rfl) ?_
    refine E_call (f := 7) (args := #[.agg #[.int .i64 x2.Events, .slice a1 x2.Places.length c1]]) (w_spec_IsLive h3 x2 a1 c1 (H6.rd 0 rfl) _ _ hx3) (by kernel_rfl) (fun v2 h4 hp2 => ?_)
    obtain ⟨rfl, H7⟩ := hp2
    have H8 : Hold h h4 [own cd50 a1 x2.Places.length c1 x2.Places, box b1 24 [.int .i64 aG.Events, .slice aaGPlaces aG.Places.length caGPlaces]] := H6.call H7 rfl
    refine Run_b [.tuple #[.bool x3.1, .int .i64 x3.2], .bool x3.1, .int .i64 x3.2, .bool x3.1, .int .i64 x3.2] 3 _ (by kernel_rfl) (fun w => by kernel_rfl) ?_
    refine Run_nil (by kernel_rfl) ?_
    refine Run_keep [1, 4, 5] (L' := [(1, .pointer (some ⟨b1, 0, none⟩)), (4, .bool x3.1), (5, .int .i64 x3.2)]) (by kernel_rfl) ?_
    refine Run_seq ?_
    refine Run_ops ?_
    refine Run_y (.agg #[.int .i64 aG.Events, .slice aaGPlaces aG.Places.length caGPlaces]) (by kernel_rfl) (Y_loadA (t := 24) (n := 2) (p := ⟨b1, 0, none⟩) (cs := [.int .i64 aG.Events, .slice aaGPlaces aG.Places.length caGPlaces]) (by kernel_rfl) (fun w => by kernel_rfl) (by kernel_rfl) rfl (H8.cells (n := 2) (off := 0) 1 rfl rfl)) ?_
    obtain ⟨x4, hx4, hF⟩ := M.bind_some hF
    refine Run_E (by kernel_rfl) ?_
    refine E_call (f := 8) (args := #[.agg #[.int .i64 aG.Events, .slice aaGPlaces aG.Places.length caGPlaces]]) (w_laws_toEventGraph h4 aG aaGPlaces caGPlaces (raGPlaces.at H8.ext) _ _ hx4) (by kernel_rfl) (fun v3 h5 hp3 => ?_)
    obtain ⟨a2, c2, rfl, H9⟩ := hp3
    have H10 : Hold h h5 [own cd50 a2 x4.Places.length c2 x4.Places, own cd50 a1 x2.Places.length c1 x2.Places, box b1 24 [.int .i64 aG.Events, .slice aaGPlaces aG.Places.length caGPlaces]] := H8.call H9 rfl
    refine Run_E (by kernel_rfl) ?_
    refine E_box (ty := 30) (cs := [.int .i64 0, .slice none 0 0]) H10 (fun w => by kernel_rfl) (fun b2 h6 H11 => ?_)
    refine Run_E (by kernel_rfl) ?_
    refine E_bput (t := 30) (off := 0) (us := [.int .i64 x4.Events, .slice a2 x4.Places.length c2]) (v := .agg #[.int .i64 x4.Events, .slice a2 x4.Places.length c2]) H11 (by kernel_rfl) (by kernel_rfl) rfl (by kernel_rfl) rfl (fun h7 H12 => ?_)
    refine Run_nil (by kernel_rfl) ?_
    refine Run_keep [1, 4, 5, 6] (L' := [(1, .pointer (some ⟨b1, 0, none⟩)), (4, .bool x3.1), (5, .int .i64 x3.2), (6, .pointer (some ⟨b2, 0, none⟩))]) (by kernel_rfl) ?_
    refine Run_seq ?_
    obtain ⟨x5, hx5, hF⟩ := M.bind_some hF
    refine Run_regC (j := 7) (C := fun x => Hold h x [box b2 30 [.int .i64 x4.Events, .slice a2 x4.Places.length c2], own cd50 a2 x4.Places.length c2 x4.Places, own cd50 a1 x2.Places.length c1 x2.Places, box b1 24 [.int .i64 aG.Events, .slice aaGPlaces aG.Places.length caGPlaces]]) (by kernel_rfl) H12 (L' := [(1, .pointer (some ⟨b1, 0, none⟩)), (4, .bool x3.1), (5, .int .i64 x3.2), (6, .pointer (some ⟨b2, 0, none⟩)), (7, .bool x5.1), (8, .int .i64 x5.2)]) ?_ (fun h8 H13 => ?_)
    · refine QRun_y (.agg #[.int .i64 x4.Events, .slice a2 x4.Places.length c2]) (by kernel_rfl) (Y_cls fun hx Hx => (Y_loadA (t := 30) (n := 2) (p := ⟨b2, 0, none⟩) (cs := [.int .i64 x4.Events, .slice a2 x4.Places.length c2]) (by kernel_rfl) (fun w => by kernel_rfl) (by kernel_rfl) rfl (Hx.cells (n := 2) (off := 0) 0 rfl rfl))) ?_
      refine QRun_y (.tuple #[.bool x5.1, .int .i64 x5.2]) (by kernel_rfl) (Y_call (f := 9) (args := #[.agg #[.int .i64 x4.Events, .slice a2 x4.Places.length c2]]) (v := .tuple #[.bool x5.1, .int .i64 x5.2]) (by kernel_rfl) fun hx Hx => (w_impl_IsLive hx x4 a2 c2 (Hx.rd 1 rfl) _ _ hx5).mono fun _ _ ⟨e, H'⟩ => ⟨e, Hx.call H' rfl⟩) ?_
      refine QRun_b [.tuple #[.bool x5.1, .int .i64 x5.2], .bool x5.1, .int .i64 x5.2, .bool x5.1, .int .i64 x5.2] 2 _ (by kernel_rfl) (fun w => by kernel_rfl) ?_
      exact QRun_done [1, 4, 5, 6, 7, 8] (by kernel_rfl) (by kernel_rfl)
    have H14 : Hold h h8 [box b2 30 [.int .i64 x4.Events, .slice a2 x4.Places.length c2], own cd50 a2 x4.Places.length c2 x4.Places, own cd50 a1 x2.Places.length c1 x2.Places, box b1 24 [.int .i64 aG.Events, .slice aaGPlaces aG.Places.length caGPlaces]] := H13
    refine Run_seq ?_
    refine Run_seq ?_
    refine Run_reg 8 (by kernel_rfl) (L' := [(1, .pointer (some ⟨b1, 0, none⟩)), (6, .pointer (some ⟨b2, 0, none⟩)), (34, .bool ((!(x5.1 == x3.1)) || (x5.2 != x3.2)))]) ?_ ?_
    · refine QRun_b [.bool x5.1, .bool x3.1, .bool (!(x5.1 == x3.1))] 0 _ (by kernel_rfl) (fun w => by kernel_rfl) ?_
      refine QRun_seq 8 [(1, .pointer (some ⟨b1, 0, none⟩)), (6, .pointer (some ⟨b2, 0, none⟩)), (34, .bool ((!(x5.1 == x3.1)) || (x5.2 != x3.2)))] ?_ ?_
      · rcases Bool.eq_false_or_eq_true (!(x5.1 == x3.1)) with hb2 | hb2
        · refine QRun_bool (!(x5.1 == x3.1)) true (by kernel_rfl) (fun w => by kernel_rfl) hb2 ?_
          refine QRun_n (by kernel_rfl) ?_
          refine QRun_n (by kernel_rfl) ?_
          refine QRun_n (by kernel_rfl) ?_
          refine QRun_bool true ((!(x5.1 == x3.1)) || (x5.2 != x3.2)) (by kernel_rfl) (fun w => by kernel_rfl) (by rw [hb2]; rfl) ?_
          exact QRun_done [1, 6, 34] (by kernel_rfl) (by kernel_rfl)
        · refine QRun_bool (!(x5.1 == x3.1)) false (by kernel_rfl) (fun w => by kernel_rfl) hb2 ?_
          refine QRun_b [.int .i64 x5.2, .int .i64 x3.2, .bool (x5.2 != x3.2)] 4 _ (by kernel_rfl) (fun w => by kernel_rfl) ?_
          refine QRun_bool (x5.2 != x3.2) ((!(x5.1 == x3.1)) || (x5.2 != x3.2)) (by kernel_rfl) (fun w => by kernel_rfl) (by rw [hb2]; rfl) ?_
          exact QRun_done [1, 6, 34] (by kernel_rfl) (by kernel_rfl)
      exact QRun_done [1, 6, 34] (by kernel_rfl) (by kernel_rfl)
    refine Run_cond (b := (!(x5.1 == x3.1)) || (x5.2 != x3.2)) (by kernel_rfl) (fun hb3 => ?_) (fun hb3 => ?_)
    · have hF := (M.ite_some hF).1 hb3
      refine Run_seq ?_
      refine Run_reg 1 (by kernel_rfl) (L' := [(2, .bool false)]) ?_ ?_
      · refine QRun_b [.bool false] 0 _ (by kernel_rfl) (fun w => by kernel_rfl) ?_
        exact QRun_done [2] (by kernel_rfl) (by kernel_rfl)
      have hF := M.ret_some hF
      subst hF
      have H15 : Hold h h8 [] := H14.pick [] (by kernel_rfl)
      exact Run_ret1 rfl (ResV_tmp (v := .bool false) (by kernel_rfl)) ⟨rfl, H15⟩
    · have hF := (M.ite_some hF).2 hb3
      refine Run_skip ?_
      refine Run_seq ?_
      refine Run_seq ?_
      refine Run_D (fun x => Hold h x [box b2 30 [.int .i64 x4.Events, .slice a2 x4.Places.length c2], own cd50 a2 x4.Places.length c2 x4.Places, own cd50 a1 x2.Places.length c1 x2.Places, box b1 24 [.int .i64 aG.Events, .slice aaGPlaces aG.Places.length caGPlaces]]) (fun x => Hold h x [box b2 30 [.int .i64 x4.Events, .slice a2 x4.Places.length c2], own cd50 a2 x4.Places.length c2 x4.Places, own cd50 a1 x2.Places.length c1 x2.Places, box b1 24 [.int .i64 aG.Events, .slice aaGPlaces aG.Places.length caGPlaces]]) mixed (by kernel_rfl) H14 Hold.stable (fun x Hy => (show Hold h x [box b2 30 [.int .i64 x4.Events, .slice a2 x4.Places.length c2], own cd50 a2 x4.Places.length c2 x4.Places, own cd50 a1 x2.Places.length c1 x2.Places, box b1 24 [.int .i64 aG.Events, .slice aaGPlaces aG.Places.length caGPlaces]] from Hy).pick [0, 1, 2, 3] (by kernel_rfl)) ?_
      refine DR_y 4 (i := 0) (.agg #[.int .i64 x4.Events, .slice a2 x4.Places.length c2]) (by kernel_rfl) (by kernel_rfl) (by kernel_rfl) (fun hx Hx => (YE.of (Y_loadA (t := 30) (n := 2) (p := ⟨b2, 0, none⟩) (cs := [.int .i64 x4.Events, .slice a2 x4.Places.length c2]) (by kernel_rfl) (fun w => by kernel_rfl) (by kernel_rfl) rfl (Hx.cells (n := 2) (off := 0) 0 rfl rfl)))) ?_
      refine DR_y 3 (i := 1) (.agg #[.int .i64 aG.Events, .slice aaGPlaces aG.Places.length caGPlaces]) (by kernel_rfl) (by kernel_rfl) (by kernel_rfl) (fun hx Hx => (YE.of (Y_loadA (t := 24) (n := 2) (p := ⟨b1, 0, none⟩) (cs := [.int .i64 aG.Events, .slice aaGPlaces aG.Places.length caGPlaces]) (by kernel_rfl) (fun w => by kernel_rfl) (by kernel_rfl) rfl (Hx.cells (n := 2) (off := 0) 3 rfl rfl)))) ?_
      refine DR_e 2 2 (by kernel_rfl) (by kernel_rfl) (by kernel_rfl) (fun h9 H16 => ?_)
      have H17 : Hold h h9 [box b2 30 [.int .i64 x4.Events, .slice a2 x4.Places.length c2], own cd50 a2 x4.Places.length c2 x4.Places, own cd50 a1 x2.Places.length c1 x2.Places, box b1 24 [.int .i64 aG.Events, .slice aaGPlaces aG.Places.length caGPlaces]] := H16
      obtain ⟨x7, hx6, hF⟩ := M.bind_some hF
      refine E_call (f := 8) (args := #[.agg #[.int .i64 aG.Events, .slice aaGPlaces aG.Places.length caGPlaces]]) (w_laws_toEventGraph h9 aG aaGPlaces caGPlaces (raGPlaces.at H17.ext) _ _ hx6) (by kernel_rfl) (fun v4 h10 hp4 => ?_)
      obtain ⟨a3, c3, rfl, H18⟩ := hp4
      have H19 : Hold h h10 [own cd50 a3 x7.Places.length c3 x7.Places, box b2 30 [.int .i64 x4.Events, .slice a2 x4.Places.length c2], own cd50 a2 x4.Places.length c2 x4.Places, own cd50 a1 x2.Places.length c1 x2.Places, box b1 24 [.int .i64 aG.Events, .slice aaGPlaces aG.Places.length caGPlaces]] := H17.call H18 rfl
      refine ⟨fun x => Hold h x [box b2 30 [.int .i64 x4.Events, .slice a2 x4.Places.length c2], own cd50 a2 x4.Places.length c2 x4.Places, own cd50 a1 x2.Places.length c1 x2.Places, box b1 24 [.int .i64 aG.Events, .slice aaGPlaces aG.Places.length caGPlaces], own cd50 a3 x7.Places.length c3 x7.Places], fun x => Hold h x [own cd50 a3 x7.Places.length c3 x7.Places, box b2 30 [.int .i64 x4.Events, .slice a2 x4.Places.length c2], own cd50 a2 x4.Places.length c2 x4.Places, own cd50 a1 x2.Places.length c1 x2.Places, box b1 24 [.int .i64 aG.Events, .slice aaGPlaces aG.Places.length caGPlaces]], H19, Hold.stable, fun x Hy => (show Hold h x [own cd50 a3 x7.Places.length c3 x7.Places, box b2 30 [.int .i64 x4.Events, .slice a2 x4.Places.length c2], own cd50 a2 x4.Places.length c2 x4.Places, own cd50 a1 x2.Places.length c1 x2.Places, box b1 24 [.int .i64 aG.Events, .slice aaGPlaces aG.Places.length caGPlaces]] from Hy).pick [1, 2, 3, 4, 0] (by kernel_rfl), fun x Hy => (show Hold h x [box b2 30 [.int .i64 x4.Events, .slice a2 x4.Places.length c2], own cd50 a2 x4.Places.length c2 x4.Places, own cd50 a1 x2.Places.length c1 x2.Places, box b1 24 [.int .i64 aG.Events, .slice aaGPlaces aG.Places.length caGPlaces], own cd50 a3 x7.Places.length c3 x7.Places] from Hy).pick [0, 1, 2, 3] (by kernel_rfl), ?_⟩
      obtain ⟨x8, hx7, hF⟩ := M.bind_some hF
      refine DR_y 1 (i := 3) (.bool x8) (by kernel_rfl) (by kernel_rfl) (by kernel_rfl) (fun hx Hx => (YE_call (f := 10) (args := #[.agg #[.int .i64 x4.Events, .slice a2 x4.Places.length c2], .agg #[.int .i64 x7.Events, .slice a3 x7.Places.length c3]]) (v := .bool x8) (by kernel_rfl) ((w_laws_eqEventGraph hx x4 a2 c2 (Hx.rd 1 rfl) x7 a3 c3 (Hx.rd 4 rfl) _ _ hx7).mono fun _ _ ⟨e, H'⟩ => ⟨e, H'.ext⟩))) ?_
      refine DR_b 0 [.bool (!x8)] 4 (by kernel_rfl) (by kernel_rfl) (by kernel_rfl) (fun w => by kernel_rfl) ?_
      refine DR_tail (i := 5) (by kernel_rfl) (by kernel_rfl) (by kernel_rfl) (fun h11 H20 => ?_)
      have H21 : Hold h h11 [own cd50 a3 x7.Places.length c3 x7.Places, box b2 30 [.int .i64 x4.Events, .slice a2 x4.Places.length c2], own cd50 a2 x4.Places.length c2 x4.Places, own cd50 a1 x2.Places.length c1 x2.Places, box b1 24 [.int .i64 aG.Events, .slice aaGPlaces aG.Places.length caGPlaces]] := H20
      refine Run_nil (by kernel_rfl) ?_
      refine Run_keep [39] (L' := [(39, .bool (!x8))]) (by kernel_rfl) ?_
      refine Run_cond (b := !x8) (by kernel_rfl) (fun hb4 => ?_) (fun hb4 => ?_)
      · have hF := (M.ite_some hF).1 hb4
        refine Run_seq ?_
        refine Run_reg 1 (by kernel_rfl) (L' := [(2, .bool false)]) ?_ ?_
        · refine QRun_b [.bool false] 0 _ (by kernel_rfl) (fun w => by kernel_rfl) ?_
          exact QRun_done [2] (by kernel_rfl) (by kernel_rfl)
        have hF := M.ret_some hF
        subst hF
        have H22 : Hold h h11 [] := H21.pick [] (by kernel_rfl)
        exact Run_ret1 rfl (ResV_tmp (v := .bool false) (by kernel_rfl)) ⟨rfl, H22⟩
      · have hF := (M.ite_some hF).2 hb4
        refine Run_skip ?_
        refine Run_seq ?_
        refine Run_reg 1 (by kernel_rfl) (L' := [(2, .bool true)]) ?_ ?_
        · refine QRun_b [.bool true] 0 _ (by kernel_rfl) (fun w => by kernel_rfl) ?_
          exact QRun_done [2] (by kernel_rfl) (by kernel_rfl)
        have hF := M.ret_some hF
        subst hF
        have H23 : Hold h h11 [] := H21.pick [] (by kernel_rfl)
        exact Run_ret1 rfl (ResV_tmp (v := .bool true) (by kernel_rfl)) ⟨rfl, H23⟩

end Go.Proofs.Ytbemhgddkkggmaa
