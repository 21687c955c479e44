/-
  Walks: each Go function, called with what reads as plain data, returns what its plain program computes.
  Conditions: None beyond the given statement.
-/
import Derived.Test.YtbemhgddkkggmaaRows
import Derived.Test.YtbemhgddkkggmaaP
import Derived.Test.YtbemhgddkkggmaaMut
namespace Go.Proofs.Ytbemhgddkkggmaa
open Go
attribute [local irreducible] setL setB opA fineI idleI fineB evB okB markB markBs readyB readyBs chainB lk rho pickL dropSlot tailOK
theorem mixed : Try.prog.follows .mixedOrders = true := by kernel_rfl
def cd58 : Cd (TPlace) := flatCd 58 4 (by decide) (fun x => [.int .i64 x.From, .int .i64 x.To, .int .i64 x.Delay, .int .i64 x.Tokens]) (fun _ => rfl) (fun _ => rfl)
theorem cd58_own (x : TPlace) : ∀ h, cd58.own h x [.int .i64 x.From, .int .i64 x.To, .int .i64 x.Delay, .int .i64 x.Tokens] [] := fun _ => ⟨rfl, rfl⟩
theorem cd58_flat : Flat cd58 := fun _ _ _ _ o => o.2
theorem cd58_copies : Copies cd58 := fun _ _ _ _ o => ⟨o, rfl⟩
theorem cd58_zero : ∀ h, cd58.own h (⟨0, 0, 0, 0⟩ : TPlace) [.int .i64 0, .int .i64 0, .int .i64 0, .int .i64 0] [] := fun _ => ⟨rfl, rfl⟩
theorem cd58_ti : TI Try.prog 58 (.agg #[.int .i64 0, .int .i64 0, .int .i64 0, .int .i64 0]) 4 32 := by unfold TI; kernel_rfl
theorem cd58_elem {h : Heap} {B : Bs} {a : Option Addr} {c : Nat} {l : List (TPlace)} {j : Nat} {x : TPlace} (r : Rd cd58 h B a c l) (hx : l[j]? = some x) : ∀ i v, ([.int .i64 x.From, .int .i64 x.To, .int .i64 x.Delay, .int .i64 x.Tokens] : List Value)[i]? = some v → cellH h ((adr a (j * 4)).add i) = some v := r.elem hx (fun _ o => o)
theorem cd58_f0 {h : Heap} {B : Bs} {a : Option Addr} {c : Nat} {l : List (TPlace)} {j : Nat} {x : TPlace} (r : Rd cd58 h B a c l) (hx : l[j]? = some x) : cellH h ((adr a (j * 4)).add 0) = some (.int .i64 x.From) := r.field hx (fun vs o => by rw [show vs = _ from o]; rfl)
theorem cd58_f1 {h : Heap} {B : Bs} {a : Option Addr} {c : Nat} {l : List (TPlace)} {j : Nat} {x : TPlace} (r : Rd cd58 h B a c l) (hx : l[j]? = some x) : cellH h ((adr a (j * 4)).add 1) = some (.int .i64 x.To) := r.field hx (fun vs o => by rw [show vs = _ from o]; rfl)
theorem cd58_f2 {h : Heap} {B : Bs} {a : Option Addr} {c : Nat} {l : List (TPlace)} {j : Nat} {x : TPlace} (r : Rd cd58 h B a c l) (hx : l[j]? = some x) : cellH h ((adr a (j * 4)).add 2) = some (.int .i64 x.Delay) := r.field hx (fun vs o => by rw [show vs = _ from o]; rfl)
theorem cd58_f3 {h : Heap} {B : Bs} {a : Option Addr} {c : Nat} {l : List (TPlace)} {j : Nat} {x : TPlace} (r : Rd cd58 h B a c l) (hx : l[j]? = some x) : cellH h ((adr a (j * 4)).add 3) = some (.int .i64 x.Tokens) := r.field hx (fun vs o => by rw [show vs = _ from o]; rfl)
def cd50 : Cd (TPlace) := flatCd 50 4 (by decide) (fun x => [.int .i64 x.From, .int .i64 x.To, .int .i64 x.Delay, .int .i64 x.Tokens]) (fun _ => rfl) (fun _ => rfl)
theorem cd50_own (x : TPlace) : ∀ h, cd50.own h x [.int .i64 x.From, .int .i64 x.To, .int .i64 x.Delay, .int .i64 x.Tokens] [] := fun _ => ⟨rfl, rfl⟩
theorem cd50_flat : Flat cd50 := fun _ _ _ _ o => o.2
theorem cd50_copies : Copies cd50 := fun _ _ _ _ o => ⟨o, rfl⟩
theorem cd50_zero : ∀ h, cd50.own h (⟨0, 0, 0, 0⟩ : TPlace) [.int .i64 0, .int .i64 0, .int .i64 0, .int .i64 0] [] := fun _ => ⟨rfl, rfl⟩
theorem cd50_ti : TI Try.prog 50 (.agg #[.int .i64 0, .int .i64 0, .int .i64 0, .int .i64 0]) 4 32 := by unfold TI; kernel_rfl
theorem cd50_elem {h : Heap} {B : Bs} {a : Option Addr} {c : Nat} {l : List (TPlace)} {j : Nat} {x : TPlace} (r : Rd cd50 h B a c l) (hx : l[j]? = some x) : ∀ i v, ([.int .i64 x.From, .int .i64 x.To, .int .i64 x.Delay, .int .i64 x.Tokens] : List Value)[i]? = some v → cellH h ((adr a (j * 4)).add i) = some v := r.elem hx (fun _ o => o)
theorem cd50_f0 {h : Heap} {B : Bs} {a : Option Addr} {c : Nat} {l : List (TPlace)} {j : Nat} {x : TPlace} (r : Rd cd50 h B a c l) (hx : l[j]? = some x) : cellH h ((adr a (j * 4)).add 0) = some (.int .i64 x.From) := r.field hx (fun vs o => by rw [show vs = _ from o]; rfl)
theorem cd50_f1 {h : Heap} {B : Bs} {a : Option Addr} {c : Nat} {l : List (TPlace)} {j : Nat} {x : TPlace} (r : Rd cd50 h B a c l) (hx : l[j]? = some x) : cellH h ((adr a (j * 4)).add 1) = some (.int .i64 x.To) := r.field hx (fun vs o => by rw [show vs = _ from o]; rfl)
theorem cd50_f2 {h : Heap} {B : Bs} {a : Option Addr} {c : Nat} {l : List (TPlace)} {j : Nat} {x : TPlace} (r : Rd cd50 h B a c l) (hx : l[j]? = some x) : cellH h ((adr a (j * 4)).add 2) = some (.int .i64 x.Delay) := r.field hx (fun vs o => by rw [show vs = _ from o]; rfl)
theorem cd50_f3 {h : Heap} {B : Bs} {a : Option Addr} {c : Nat} {l : List (TPlace)} {j : Nat} {x : TPlace} (r : Rd cd50 h B a c l) (hx : l[j]? = some x) : cellH h ((adr a (j * 4)).add 3) = some (.int .i64 x.Tokens) := r.field hx (fun vs o => by rw [show vs = _ from o]; rfl)
def cd2 : Cd (Int) := flatCd 2 1 (by decide) (fun x => [.int .i64 x]) (fun _ => rfl) (fun _ => rfl)
theorem cd2_own (x : Int) : ∀ h, cd2.own h x [.int .i64 x] [] := fun _ => ⟨rfl, rfl⟩
theorem cd2_flat : Flat cd2 := fun _ _ _ _ o => o.2
theorem cd2_copies : Copies cd2 := fun _ _ _ _ o => ⟨o, rfl⟩
theorem cd2_zero : ∀ h, cd2.own h 0 [.int .i64 0] [] := fun _ => ⟨rfl, rfl⟩
theorem cd2_ti : TI Try.prog 2 (.int .i64 0) 1 8 := by unfold TI; kernel_rfl
theorem cd2_cell {h : Heap} {B : Bs} {a : Option Addr} {c : Nat} {l : List (Int)} {j : Nat} {x : Int} (r : Rd cd2 h B a c l) (hx : l[j]? = some x) : cellH h (adr a (j * 1)) = some (.int .i64 x) := r.cell1 hx (fun vs o => by rw [show vs = _ from o]; rfl)
abbrev cd41 : Cd (List Int) := rowCd cd2 41
theorem cd41_zero : ∀ h, cd41.own h [] [.slice none 0 0] [] := fun h => ⟨none, 0, rfl, Own.nil _ h⟩
theorem cd41_ti : TI Try.prog 41 (.slice none 0 0) 1 24 := by unfold TI; kernel_rfl
set_option maxRecDepth 100000 in
set_option maxHeartbeats 4000000 in
theorem w_laws_szPlaceS (h : Heap) (a_ : List TPlace) {Sa_ : Bs} (aa_ : Option Addr) (ca_ : Nat) (ra_ : Rd cd58 h Sa_ aa_ ca_ a_) (left : Int) (n : Nat) (r : Int) (hF : laws_szPlaceS a_ left n = some r) :
    Fn Try.prog 17 #[.slice aa_ a_.length ca_, .int .i64 left] h fun v h' => v = .int .i64 r ∧ h' = h := by
  unfold laws_szPlaceS at hF
  refine Fn_enter (args := [.slice aa_ a_.length ca_, .int .i64 left]) Try.func17 rfl (by kernel_rfl) (by kernel_rfl) (fun w0 _ => ?_)
  refine Run_seq ?_
  refine Run_reg 1 (by kernel_rfl) (L' := [(0, .slice aa_ a_.length ca_), (1, .int .i64 left)]) ?_ ?_
  · refine QRun_b [.int .i64 0] 0 _ (by kernel_rfl) (fun w => by kernel_rfl) ?_
    exact QRun_done [0, 1] (by kernel_rfl) (by kernel_rfl)
  refine Run_seq ?_
  refine Run_reg 5 (by kernel_rfl) (L' := [(1, .int .i64 (w64 (left - (a_.length : Int))))]) ?_ ?_
  · refine QRun_b [.int .i64 left, .slice aa_ a_.length ca_, .int .i64 (a_.length : Int), .int .i64 (w64 (left - (a_.length : Int))), .int .i64 (w64 (left - (a_.length : Int)))] 0 _ (by kernel_rfl) (fun w => by kernel_rfl) ?_
    exact QRun_done [1] (by kernel_rfl) (by kernel_rfl)
  refine Run_seq ?_
  refine Run_seq ?_
  refine Run_reg 2 (by kernel_rfl) (L' := [(1, .int .i64 (w64 (left - (a_.length : Int)))), (10, .bool (decide ((w64 (left - (a_.length : Int))) < 0)))]) ?_ ?_
  · refine QRun_b [.int .i64 (w64 (left - (a_.length : Int))), .bool (decide ((w64 (left - (a_.length : Int))) < 0))] 0 _ (by kernel_rfl) (fun w => by kernel_rfl) ?_
    exact QRun_done [1, 10] (by kernel_rfl) (by kernel_rfl)
  refine Run_cond (b := decide ((w64 (left - (a_.length : Int))) < 0)) (by kernel_rfl) (fun hb1 => ?_) (fun hb1 => ?_)
  · have hF := (M.ite_some hF).1 hb1
    refine Run_seq ?_
    refine Run_reg 1 (by kernel_rfl) (L' := [(4, .int .i64 (-1))]) ?_ ?_
    · refine QRun_b [.int .i64 (-1)] 0 _ (by kernel_rfl) (fun w => by kernel_rfl) ?_
      exact QRun_done [4] (by kernel_rfl) (by kernel_rfl)
    have hF := M.ret_some hF
    subst hF
    exact Run_ret1 rfl (ResV_tmp (v := .int .i64 (-1)) (by kernel_rfl)) ⟨rfl, rfl⟩
  · have hF := (M.ite_some hF).2 hb1
    refine Run_skip ?_
    refine Run_seq ?_
    refine Run_reg 2 (by kernel_rfl) (L' := [(4, .int .i64 (w64 (left - (a_.length : Int))))]) ?_ ?_
    · refine QRun_b [.int .i64 (w64 (left - (a_.length : Int))), .int .i64 (w64 (left - (a_.length : Int)))] 0 _ (by kernel_rfl) (fun w => by kernel_rfl) ?_
      exact QRun_done [4] (by kernel_rfl) (by kernel_rfl)
    have hF := M.ret_some hF
    subst hF
    exact Run_ret1 rfl (ResV_tmp (v := .int .i64 (w64 (left - (a_.length : Int)))) (by kernel_rfl)) ⟨rfl, rfl⟩

set_option maxRecDepth 100000 in
set_option maxHeartbeats 4000000 in
theorem w_laws_szEventGraph (h : Heap) (a_ : TGraph) (aa_Places : Option Addr) (ca_Places : Nat) (ra_Places : Rd cd58 h (Lt h) aa_Places ca_Places a_.Places) (left : Int) (n : Nat) (r : Int) (hF : laws_szEventGraph a_ left n = some r) :
    Fn Try.prog 6 #[.agg #[.int .i64 a_.Events, .slice aa_Places a_.Places.length ca_Places], .int .i64 left] h fun v h' => v = .int .i64 r ∧ Hold h h' [] := by
  unfold laws_szEventGraph at hF
  refine Fn_enter (args := [.agg #[.int .i64 a_.Events, .slice aa_Places a_.Places.length ca_Places], .int .i64 left]) Try.func6 rfl (by kernel_rfl) (by kernel_rfl) (fun w0 _ => ?_)
  have H0 := Hold.init h
  refine Run_seq ?_
  refine Run_ops ?_
  refine Run_E (by kernel_rfl) ?_
  refine E_box (ty := 24) (cs := [.int .i64 a_.Events, .slice aa_Places a_.Places.length ca_Places]) H0 (fun w => by kernel_rfl) (fun b1 h1 H1 => ?_)
  refine Run_b [.int .i64 0] 1 _ (by kernel_rfl) (fun w => by kernel_rfl) ?_
  refine Run_nil (by kernel_rfl) ?_
  refine Run_keep [1, 2] (L' := [(1, .int .i64 left), (2, .pointer (some ⟨b1, 0, none⟩))]) (by kernel_rfl) ?_
  refine Run_seq ?_
  obtain ⟨x1, hx1, hF⟩ := M.bind_some hF
  refine Run_reg 5 (by kernel_rfl) (L' := [(1, .int .i64 x1)]) ?_ ?_
  · refine QRun_b [.pointer (some ⟨b1, 1, none⟩)] 0 _ (by kernel_rfl) (fun w => by kernel_rfl) ?_
    refine QRun_y (.slice aa_Places a_.Places.length ca_Places) (by kernel_rfl) (Y_load1 (t := 22) (p := ⟨b1, 1, none⟩) (v := .slice aa_Places a_.Places.length ca_Places) (by kernel_rfl) (fun w => by kernel_rfl) (H1.cell 0 rfl rfl)) ?_
    refine QRun_b [.int .i64 left] 2 _ (by kernel_rfl) (fun w => by kernel_rfl) ?_
    refine QRun_y (.int .i64 x1) (by kernel_rfl) (Y_callq (f := 17) (args := #[.slice aa_Places a_.Places.length ca_Places, .int .i64 left]) (v := .int .i64 x1) (by kernel_rfl) (w_laws_szPlaceS h1 a_.Places aa_Places ca_Places (ra_Places.at H1.ext) left _ _ hx1)) ?_
    refine QRun_b [.int .i64 x1] 4 _ (by kernel_rfl) (fun w => by kernel_rfl) ?_
    exact QRun_done [1] (by kernel_rfl) (by kernel_rfl)
  refine Run_seq ?_
  refine Run_seq ?_
  refine Run_reg 2 (by kernel_rfl) (L' := [(1, .int .i64 x1), (10, .bool (decide (x1 < 0)))]) ?_ ?_
  · refine QRun_b [.int .i64 x1, .bool (decide (x1 < 0))] 0 _ (by kernel_rfl) (fun w => by kernel_rfl) ?_
    exact QRun_done [1, 10] (by kernel_rfl) (by kernel_rfl)
  refine Run_cond (b := decide (x1 < 0)) (by kernel_rfl) (fun hb1 => ?_) (fun hb1 => ?_)
  · have hF := (M.ite_some hF).1 hb1
    refine Run_seq ?_
    refine Run_reg 1 (by kernel_rfl) (L' := [(4, .int .i64 (-1))]) ?_ ?_
    · refine QRun_b [.int .i64 (-1)] 0 _ (by kernel_rfl) (fun w => by kernel_rfl) ?_
      exact QRun_done [4] (by kernel_rfl) (by kernel_rfl)
    have hF := M.ret_some hF
    subst hF
    have H2 : Hold h h1 [] := H1.pick [] (by kernel_rfl)
    exact Run_ret1 rfl (ResV_tmp (v := .int .i64 (-1)) (by kernel_rfl)) ⟨rfl, H2⟩
  · have hF := (M.ite_some hF).2 hb1
    refine Run_skip ?_
    refine Run_seq ?_
    refine Run_reg 2 (by kernel_rfl) (L' := [(4, .int .i64 x1)]) ?_ ?_
    · refine QRun_b [.int .i64 x1, .int .i64 x1] 0 _ (by kernel_rfl) (fun w => by kernel_rfl) ?_
      exact QRun_done [4] (by kernel_rfl) (by kernel_rfl)
    have hF := M.ret_some hF
    subst hF
    have H3 : Hold h h1 [] := H1.pick [] (by kernel_rfl)
    exact Run_ret1 rfl (ResV_tmp (v := .int .i64 x1) (by kernel_rfl)) ⟨rfl, H3⟩

set_option maxRecDepth 100000 in
set_option maxHeartbeats 4000000 in
theorem w_laws_toPlace (h : Heap) (a_ : TPlace) (n : Nat) (r : TPlace) (hF : laws_toPlace a_ n = some r) :
    Fn Try.prog 36 #[.agg #[.int .i64 a_.From, .int .i64 a_.To, .int .i64 a_.Delay, .int .i64 a_.Tokens]] h fun v h' => v = .agg #[.int .i64 r.From, .int .i64 r.To, .int .i64 r.Delay, .int .i64 r.Tokens] ∧ Hold h h' [] := by
  unfold laws_toPlace at hF
  refine Fn_enter (args := [.agg #[.int .i64 a_.From, .int .i64 a_.To, .int .i64 a_.Delay, .int .i64 a_.Tokens]]) Try.func36 rfl (by kernel_rfl) (by kernel_rfl) (fun w0 _ => ?_)
  have H0 := Hold.init h
  refine Run_seq ?_
  refine Run_ops ?_
  refine Run_E (by kernel_rfl) ?_
  refine E_box (ty := 58) (cs := [.int .i64 a_.From, .int .i64 a_.To, .int .i64 a_.Delay, .int .i64 a_.Tokens]) H0 (fun w => by kernel_rfl) (fun b1 h1 H1 => ?_)
  refine Run_E (by kernel_rfl) ?_
  refine E_box (ty := 50) (cs := [.int .i64 0, .int .i64 0, .int .i64 0, .int .i64 0]) H1 (fun w => by kernel_rfl) (fun b2 h2 H2 => ?_)
  refine Run_nil (by kernel_rfl) ?_
  refine Run_keep [1, 2] (L' := [(1, .pointer (some ⟨b1, 0, none⟩)), (2, .pointer (some ⟨b2, 0, none⟩))]) (by kernel_rfl) ?_
  refine Run_seq ?_
  refine Run_ops ?_
  refine Run_E (by kernel_rfl) ?_
  refine E_box (ty := 50) (cs := [.int .i64 0, .int .i64 0, .int .i64 0, .int .i64 0]) H2 (fun w => by kernel_rfl) (fun b3 h3 H3 => ?_)
  refine Run_nil (by kernel_rfl) ?_
  refine Run_keep [1, 2, 3] (L' := [(1, .pointer (some ⟨b1, 0, none⟩)), (2, .pointer (some ⟨b2, 0, none⟩)), (3, .pointer (some ⟨b3, 0, none⟩))]) (by kernel_rfl) ?_
  refine Run_seq ?_
  refine Run_ops ?_
  refine Run_b [.pointer (some ⟨b1, 0, none⟩)] 0 _ (by kernel_rfl) (fun w => by kernel_rfl) ?_
  refine Run_y (.int .i64 a_.From) (by kernel_rfl) (Y_load1 (t := 2) (p := ⟨b1, 0, none⟩) (v := .int .i64 a_.From) (by kernel_rfl) (fun w => by kernel_rfl) (H3.cell 2 rfl rfl)) ?_
  refine Run_b [.pointer (some ⟨b3, 0, none⟩)] 2 _ (by kernel_rfl) (fun w => by kernel_rfl) ?_
  refine Run_E (by kernel_rfl) ?_
  refine E_bput (t := 2) (off := 0) (us := [.int .i64 a_.From, .int .i64 0, .int .i64 0, .int .i64 0]) (v := .int .i64 a_.From) H3 (by kernel_rfl) (by kernel_rfl) rfl (by kernel_rfl) rfl (fun h4 H4 => ?_)
  refine Run_nil (by kernel_rfl) ?_
  refine Run_keep [1, 2, 3] (L' := [(1, .pointer (some ⟨b1, 0, none⟩)), (2, .pointer (some ⟨b2, 0, none⟩)), (3, .pointer (some ⟨b3, 0, none⟩))]) (by kernel_rfl) ?_
  refine Run_seq ?_
  refine Run_ops ?_
  refine Run_b [.pointer (some ⟨b1, 1, none⟩)] 0 _ (by kernel_rfl) (fun w => by kernel_rfl) ?_
  refine Run_y (.int .i64 a_.To) (by kernel_rfl) (Y_load1 (t := 2) (p := ⟨b1, 1, none⟩) (v := .int .i64 a_.To) (by kernel_rfl) (fun w => by kernel_rfl) (H4.cell 2 rfl rfl)) ?_
  refine Run_b [.pointer (some ⟨b3, 1, none⟩)] 2 _ (by kernel_rfl) (fun w => by kernel_rfl) ?_
  refine Run_E (by kernel_rfl) ?_
  refine E_bput (t := 2) (off := 1) (us := [.int .i64 a_.From, .int .i64 a_.To, .int .i64 0, .int .i64 0]) (v := .int .i64 a_.To) H4 (by kernel_rfl) (by kernel_rfl) rfl (by kernel_rfl) rfl (fun h5 H5 => ?_)
  refine Run_nil (by kernel_rfl) ?_
  refine Run_keep [1, 2, 3] (L' := [(1, .pointer (some ⟨b1, 0, none⟩)), (2, .pointer (some ⟨b2, 0, none⟩)), (3, .pointer (some ⟨b3, 0, none⟩))]) (by kernel_rfl) ?_
  refine Run_seq ?_
  refine Run_ops ?_
  refine Run_b [.pointer (some ⟨b1, 2, none⟩)] 0 _ (by kernel_rfl) (fun w => by kernel_rfl) ?_
  refine Run_y (.int .i64 a_.Delay) (by kernel_rfl) (Y_load1 (t := 2) (p := ⟨b1, 2, none⟩) (v := .int .i64 a_.Delay) (by kernel_rfl) (fun w => by kernel_rfl) (H5.cell 2 rfl rfl)) ?_
  refine Run_b [.pointer (some ⟨b3, 2, none⟩)] 2 _ (by kernel_rfl) (fun w => by kernel_rfl) ?_
  refine Run_E (by kernel_rfl) ?_
  refine E_bput (t := 2) (off := 2) (us := [.int .i64 a_.From, .int .i64 a_.To, .int .i64 a_.Delay, .int .i64 0]) (v := .int .i64 a_.Delay) H5 (by kernel_rfl) (by kernel_rfl) rfl (by kernel_rfl) rfl (fun h6 H6 => ?_)
  refine Run_nil (by kernel_rfl) ?_
  refine Run_keep [1, 2, 3] (L' := [(1, .pointer (some ⟨b1, 0, none⟩)), (2, .pointer (some ⟨b2, 0, none⟩)), (3, .pointer (some ⟨b3, 0, none⟩))]) (by kernel_rfl) ?_
  refine Run_seq ?_
  refine Run_ops ?_
  refine Run_b [.pointer (some ⟨b1, 3, none⟩)] 0 _ (by kernel_rfl) (fun w => by kernel_rfl) ?_
  refine Run_y (.int .i64 a_.Tokens) (by kernel_rfl) (Y_load1 (t := 2) (p := ⟨b1, 3, none⟩) (v := .int .i64 a_.Tokens) (by kernel_rfl) (fun w => by kernel_rfl) (H6.cell 2 rfl rfl)) ?_
  refine Run_b [.pointer (some ⟨b3, 3, none⟩)] 2 _ (by kernel_rfl) (fun w => by kernel_rfl) ?_
  refine Run_E (by kernel_rfl) ?_
  refine E_bput (t := 2) (off := 3) (us := [.int .i64 a_.From, .int .i64 a_.To, .int .i64 a_.Delay, .int .i64 a_.Tokens]) (v := .int .i64 a_.Tokens) H6 (by kernel_rfl) (by kernel_rfl) rfl (by kernel_rfl) rfl (fun h7 H7 => ?_)
  refine Run_nil (by kernel_rfl) ?_
  refine Run_keep [2, 3] (L' := [(2, .pointer (some ⟨b2, 0, none⟩)), (3, .pointer (some ⟨b3, 0, none⟩))]) (by kernel_rfl) ?_
  refine Run_seq ?_
  refine Run_ops ?_
  refine Run_y (.agg #[.int .i64 a_.From, .int .i64 a_.To, .int .i64 a_.Delay, .int .i64 a_.Tokens]) (by kernel_rfl) (Y_loadA (t := 50) (n := 4) (p := ⟨b3, 0, none⟩) (cs := [.int .i64 a_.From, .int .i64 a_.To, .int .i64 a_.Delay, .int .i64 a_.Tokens]) (by kernel_rfl) (fun w => by kernel_rfl) (by kernel_rfl) rfl (H7.cells (n := 4) (off := 0) 0 rfl rfl)) ?_
  have H9 : Hold h h7 [box b2 50 [.int .i64 0, .int .i64 0, .int .i64 0, .int .i64 0], box b3 50 [.int .i64 a_.From, .int .i64 a_.To, .int .i64 a_.Delay, .int .i64 a_.Tokens], box b1 58 [.int .i64 a_.From, .int .i64 a_.To, .int .i64 a_.Delay, .int .i64 a_.Tokens]] := H7.pick [1, 0, 2] (by kernel_rfl)
  refine Run_E (by kernel_rfl) ?_
  refine E_bput (t := 50) (off := 0) (us := [.int .i64 a_.From, .int .i64 a_.To, .int .i64 a_.Delay, .int .i64 a_.Tokens]) (v := .agg #[.int .i64 a_.From, .int .i64 a_.To, .int .i64 a_.Delay, .int .i64 a_.Tokens]) H9 (by kernel_rfl) (by kernel_rfl) rfl (by kernel_rfl) rfl (fun h8 H8 => ?_)
  refine Run_nil (by kernel_rfl) ?_
  refine Run_keep [2] (L' := [(2, .pointer (some ⟨b2, 0, none⟩))]) (by kernel_rfl) ?_
  have hF := M.ret_some hF
  subst hF
  have H10 : Hold h h8 [] := H8.pick [] (by kernel_rfl)
  exact Run_ret1 rfl (ResV_cell (n := 4) (cs := [.int .i64 a_.From, .int .i64 a_.To, .int .i64 a_.Delay, .int .i64 a_.Tokens]) (by kernel_rfl) (fun w => by kernel_rfl) (by kernel_rfl) rfl (H8.cells (n := 4) (off := 0) 0 rfl rfl)) ⟨rfl, H10⟩

set_option maxRecDepth 100000 in
set_option maxHeartbeats 4000000 in
theorem w_laws_toPlaceS (h : Heap) (a_ : List TPlace) (aa_ : Option Addr) (ca_ : Nat) (ra_ : Rd cd58 h (Lt h) aa_ ca_ a_) (n : Nat) (r : (List TPlace)) (hF : laws_toPlaceS a_ n = some r) :
    Fn Try.prog 20 #[.slice aa_ a_.length ca_] h fun v h' => ∃ (a0 : Option Addr) (c0 : Nat), v = .slice a0 r.length c0 ∧ Hold h h' [own cd50 a0 r.length c0 r] := by
  unfold laws_toPlaceS at hF
  refine Fn_enter (args := [.slice aa_ a_.length ca_]) Try.func20 rfl (by kernel_rfl) (by kernel_rfl) (fun w0 _ => ?_)
  have H0 := Hold.init h
  refine Run_seq ?_
  refine Run_reg 1 (by kernel_rfl) (L' := [(0, .slice aa_ a_.length ca_)]) ?_ ?_
  · refine QRun_b [.slice none 0 0] 0 _ (by kernel_rfl) (fun w => by kernel_rfl) ?_
    exact QRun_done [0] (by kernel_rfl) (by kernel_rfl)
  refine Run_seq ?_
  refine Run_ops ?_
  refine Run_b [.slice aa_ a_.length ca_, .int .i64 (a_.length : Int)] 0 _ (by kernel_rfl) (fun w => by kernel_rfl) ?_
  obtain ⟨l1, hl1, hF⟩ := M.bind_some hF
  have hl1 := M.make_some hl1
  refine Run_E (by kernel_rfl) ?_
  refine E_make cd50 (⟨0, 0, 0, 0⟩ : TPlace) (kl := .i64) (kc := .i64) H0 cd50_ti Try.underlying28 (by decide) cd50_zero (by kernel_rfl) hl1 (fun a1 h1 H1 => ?_)
  refine Run_b [.slice a1 l1.length l1.length] 3 _ (by kernel_rfl) (fun w => by kernel_rfl) ?_
  refine Run_nil (by kernel_rfl) ?_
  refine Run_keep [0, 3] (L' := [(0, .slice aa_ a_.length ca_), (3, .slice a1 l1.length l1.length)]) (by kernel_rfl) ?_
  refine Run_seq ?_
  refine Run_seq ?_
  refine Run_reg 1 (by kernel_rfl) (L' := [(0, .slice aa_ a_.length ca_), (3, .slice a1 l1.length l1.length), (4, .int .i64 0)]) ?_ ?_
  · refine QRun_b [.int .i64 0] 0 _ (by kernel_rfl) (fun w => by kernel_rfl) ?_
    exact QRun_done [0, 3, 4] (by kernel_rfl) (by kernel_rfl)
  obtain ⟨x1, gx1, hF⟩ := M.bind_some hF
  obtain ⟨hloy1, hhiy1, gx1⟩ := M.for_start gx1
  refine Run_join (fun L' h' => L' = [(3, .slice a1 l1.length l1.length)] ∧ Hold h h' [own cd50 a1 l1.length l1.length x1]) ?_ ?_
  · rintro _ h3 ⟨rfl, H3⟩
    refine Run_seq ?_
    refine Run_reg 2 (by kernel_rfl) (L' := [(2, .slice a1 l1.length l1.length)]) ?_ ?_
    · refine QRun_b [.slice a1 l1.length l1.length, .slice a1 l1.length l1.length] 0 _ (by kernel_rfl) (fun w => by kernel_rfl) ?_
      exact QRun_done [2] (by kernel_rfl) (by kernel_rfl)
    have hF := M.ret_some hF
    subst hF
    have H7 := H3.norm
    exact Run_ret1 rfl (ResV_tmp (v := .slice a1 l1.length l1.length) (by kernel_rfl)) ⟨a1, l1.length, (by simp only [(H3.len 0 rfl)]), H7⟩
  · refine Run_block ?_
    refine Run_keep [0, 3, 4] (L' := [(0, .slice aa_ a_.length ca_), (3, .slice a1 l1.length l1.length), (4, .int .i64 0)]) (by kernel_rfl) ?_
    refine Run_loop (fun m L' h' => ∃ (i1 : Int) (s1 : (List TPlace)), 0 ≤ i1 ∧ M.forN (a_.length : Int) _ _ n m i1 s1 = some x1 ∧ L' = [(0, .slice aa_ a_.length ca_), (3, .slice a1 l1.length l1.length), (4, .int .i64 i1)] ∧ Hold h h' [own cd50 a1 l1.length l1.length s1]) ((a_.length : Int) - 0 : Int).toNat ⟨0, l1, Int.le_refl _, gx1, rfl, H1⟩ ?_
    rintro my1 _ h2 ⟨i1, s1, hloy1', gx1, rfl, H2⟩
    refine Run_seq ?_
    refine Run_seq ?_
    refine Run_reg 4 (by kernel_rfl) (L' := [(0, .slice aa_ a_.length ca_), (3, .slice a1 l1.length l1.length), (4, .int .i64 i1), (11, .bool (decide (i1 < (a_.length : Int))))]) ?_ ?_
    · refine QRun_b [.int .i64 i1, .slice aa_ a_.length ca_, .int .i64 (a_.length : Int), .bool (decide (i1 < (a_.length : Int)))] 0 _ (by kernel_rfl) (fun w => by kernel_rfl) ?_
      exact QRun_done [0, 3, 4, 11] (by kernel_rfl) (by kernel_rfl)
    refine Run_cond (b := decide (i1 < (a_.length : Int))) (by kernel_rfl) (fun hb1 => ?_) (fun hb1 => ?_)
    · obtain ⟨my1, y1, rfl, hB1, hgoy1, houty1⟩ := M.for_go gx1 hb1
      have hlty1 := of_decide_eq_true hb1
      refine Run_skip ?_
      refine Run_seq ?_
      refine Run_block ?_
      refine Run_ops ?_
      obtain ⟨x2, hx1, hB1⟩ := M.bind_some hB1
      obtain ⟨hx1l, hx1u, hx1⟩ := M.idx_some hx1
      refine Run_b [.slice a1 l1.length l1.length, .int .i64 i1, .slice aa_ a_.length ca_, .int .i64 i1] 0 _ (by kernel_rfl) (fun w => by kernel_rfl) ?_
      refine Run_y (.pointer (some (adr aa_ (i1.toNat * 4)))) (by kernel_rfl) (Y_idx (t := 22) (e := 58) (sz := 4) (a := aa_) (n := a_.length) (cap := ca_) (kk := .i64) (i := i1) (by kernel_rfl) Try.underlying22 (by kernel_rfl) ((ra_.at H2.ext).cell hx1).1 hx1l hx1u) ?_
      refine Run_y (.agg #[.int .i64 x2.From, .int .i64 x2.To, .int .i64 x2.Delay, .int .i64 x2.Tokens]) (by kernel_rfl) (Y_loadA (t := 58) (n := 4) (p := adr aa_ (i1.toNat * 4)) (cs := [.int .i64 x2.From, .int .i64 x2.To, .int .i64 x2.Delay, .int .i64 x2.Tokens]) (by kernel_rfl) (fun w => by kernel_rfl) (by kernel_rfl) rfl (cd58_elem (ra_.at H2.ext) hx1)) ?_
      obtain ⟨x3, hx2, hB1⟩ := M.bind_some hB1
      refine Run_E (by kernel_rfl) ?_
      refine E_call (f := 36) (args := #[.agg #[.int .i64 x2.From, .int .i64 x2.To, .int .i64 x2.Delay, .int .i64 x2.Tokens]]) (w_laws_toPlace h2 x2 _ _ hx2) (by kernel_rfl) (fun v1 h4 hp1 => ?_)
      obtain ⟨rfl, H4⟩ := hp1
      have H5 : Hold h h4 [own cd50 a1 l1.length l1.length s1] := H2.call H4 rfl
      obtain ⟨x4, hx3, hB1⟩ := M.bind_some hB1
      obtain ⟨hx3l, hx3u, hx3⟩ := M.idx_some hx3
      refine Run_y (.pointer (some (adr a1 (i1.toNat * 4)))) (by kernel_rfl) (Y_idx (t := 28) (e := 50) (sz := 4) (a := a1) (n := l1.length) (cap := l1.length) (kk := .i64) (i := i1) (by kernel_rfl) Try.underlying28 (by kernel_rfl) ((H5.rd 0 rfl).cell hx3).1 hx3l (by rw [← (H5.len 0 rfl)]; exact hx3u)) ?_
      obtain ⟨l2, hu1, hB1⟩ := M.bind_some hB1
      have hu1 := M.upd_some hu1
      refine Run_E (by kernel_rfl) ?_
      refine E_put (C := cd50) (t := 50) (sz := 4) (j := i1) (x := x3) (v := .agg #[.int .i64 x3.From, .int .i64 x3.To, .int .i64 x3.Delay, .int .i64 x3.Tokens]) H5 cd50_flat (by kernel_rfl) rfl (cd50_own _) (by kernel_rfl) hu1 (fun h5 H6 => ?_)
      refine Run_nil (by kernel_rfl) ?_
      refine Run_keep [0, 3, 4] (L' := [(0, .slice aa_ a_.length ca_), (3, .slice a1 l1.length l1.length), (4, .int .i64 i1)]) (by kernel_rfl) ?_
      refine Run_blk ?_
      refine Run_reg 3 (by kernel_rfl) (L' := [(0, .slice aa_ a_.length ca_), (3, .slice a1 l1.length l1.length), (4, .int .i64 (i1 + 1))]) ?_ ?_
      · refine QRun_b [.int .i64 i1] 0 _ (by kernel_rfl) (fun w => by kernel_rfl) ?_
        refine QRun_y (.int .i64 (i1 + 1)) (by kernel_rfl) (Y_eq (v := .int .i64 (w64 (i1 + 1))) (Y_pure (fun w => by kernel_rfl)) (by rw [w64_eq _ (by omega)])) ?_
        refine QRun_b [.int .i64 (i1 + 1)] 2 _ (by kernel_rfl) (fun w => by kernel_rfl) ?_
        exact QRun_done [0, 3, 4] (by kernel_rfl) (by kernel_rfl)
      have hB1 := M.ret_some hB1
      have gx1 := hgoy1 _ hB1.symm
      exact Run_again [0, 3, 4] (by kernel_rfl) my1 (Nat.lt_succ_self _) ⟨i1 + 1, l2, by omega, gx1, rfl, H6⟩
    · have gx1 := M.for_end gx1 hb1
      subst gx1
      refine Run_exit (k' := _) rfl ?_
      exact Run_fall [3] (by kernel_rfl) ⟨rfl, H2⟩

set_option maxRecDepth 100000 in
set_option maxHeartbeats 4000000 in
theorem w_laws_toEventGraph (h : Heap) (a_ : TGraph) (aa_Places : Option Addr) (ca_Places : Nat) (ra_Places : Rd cd58 h (Lt h) aa_Places ca_Places a_.Places) (n : Nat) (r : TGraph) (hF : laws_toEventGraph a_ n = some r) :
    Fn Try.prog 8 #[.agg #[.int .i64 a_.Events, .slice aa_Places a_.Places.length ca_Places]] h fun v h' => ∃ (a0 : Option Addr) (c0 : Nat), v = .agg #[.int .i64 r.Events, .slice a0 r.Places.length c0] ∧ Hold h h' [own cd50 a0 r.Places.length c0 r.Places] := by
  unfold laws_toEventGraph at hF
  refine Fn_enter (args := [.agg #[.int .i64 a_.Events, .slice aa_Places a_.Places.length ca_Places]]) Try.func8 rfl (by kernel_rfl) (by kernel_rfl) (fun w0 _ => ?_)
  have H0 := Hold.init h
  refine Run_seq ?_
  refine Run_ops ?_
  refine Run_E (by kernel_rfl) ?_
  refine E_box (ty := 24) (cs := [.int .i64 a_.Events, .slice aa_Places a_.Places.length ca_Places]) H0 (fun w => by kernel_rfl) (fun b1 h1 H1 => ?_)
  refine Run_E (by kernel_rfl) ?_
  refine E_box (ty := 30) (cs := [.int .i64 0, .slice none 0 0]) H1 (fun w => by kernel_rfl) (fun b2 h2 H2 => ?_)
  refine Run_nil (by kernel_rfl) ?_
  refine Run_keep [1, 2] (L' := [(1, .pointer (some ⟨b1, 0, none⟩)), (2, .pointer (some ⟨b2, 0, none⟩))]) (by kernel_rfl) ?_
  refine Run_seq ?_
  refine Run_ops ?_
  refine Run_E (by kernel_rfl) ?_
  refine E_box (ty := 30) (cs := [.int .i64 0, .slice none 0 0]) H2 (fun w => by kernel_rfl) (fun b3 h3 H3 => ?_)
  refine Run_nil (by kernel_rfl) ?_
  refine Run_keep [1, 2, 3] (L' := [(1, .pointer (some ⟨b1, 0, none⟩)), (2, .pointer (some ⟨b2, 0, none⟩)), (3, .pointer (some ⟨b3, 0, none⟩))]) (by kernel_rfl) ?_
  refine Run_seq ?_
  refine Run_ops ?_
  refine Run_b [.pointer (some ⟨b1, 0, none⟩)] 0 _ (by kernel_rfl) (fun w => by kernel_rfl) ?_
  refine Run_y (.int .i64 a_.Events) (by kernel_rfl) (Y_load1 (t := 2) (p := ⟨b1, 0, none⟩) (v := .int .i64 a_.Events) (by kernel_rfl) (fun w => by kernel_rfl) (H3.cell 2 rfl rfl)) ?_
  refine Run_b [.pointer (some ⟨b3, 0, none⟩)] 2 _ (by kernel_rfl) (fun w => by kernel_rfl) ?_
  refine Run_E (by kernel_rfl) ?_
  refine E_bput (t := 2) (off := 0) (us := [.int .i64 a_.Events, .slice none 0 0]) (v := .int .i64 a_.Events) H3 (by kernel_rfl) (by kernel_rfl) rfl (by kernel_rfl) rfl (fun h4 H4 => ?_)
  refine Run_nil (by kernel_rfl) ?_
  refine Run_keep [1, 2, 3] (L' := [(1, .pointer (some ⟨b1, 0, none⟩)), (2, .pointer (some ⟨b2, 0, none⟩)), (3, .pointer (some ⟨b3, 0, none⟩))]) (by kernel_rfl) ?_
  refine Run_seq ?_
  refine Run_ops ?_
  refine Run_b [.pointer (some ⟨b1, 1, none⟩)] 0 _ (by kernel_rfl) (fun w => by kernel_rfl) ?_
  refine Run_y (.slice aa_Places a_.Places.length ca_Places) (by kernel_rfl) (Y_load1 (t := 22) (p := ⟨b1, 1, none⟩) (v := .slice aa_Places a_.Places.length ca_Places) (by kernel_rfl) (fun w => by kernel_rfl) (H4.cell 2 rfl rfl)) ?_
  obtain ⟨x1, hx1, hF⟩ := M.bind_some hF
  refine Run_E (by kernel_rfl) ?_
  refine E_call (f := 20) (args := #[.slice aa_Places a_.Places.length ca_Places]) (w_laws_toPlaceS h4 a_.Places aa_Places ca_Places (ra_Places.at H4.ext) _ _ hx1) (by kernel_rfl) (fun v1 h5 hp1 => ?_)
  obtain ⟨a1, c1, rfl, H5⟩ := hp1
  have H6 : Hold h h5 [own cd50 a1 x1.length c1 x1, box b3 30 [.int .i64 a_.Events, .slice none 0 0], box b2 30 [.int .i64 0, .slice none 0 0], box b1 24 [.int .i64 a_.Events, .slice aa_Places a_.Places.length ca_Places]] := H4.call H5 rfl
  refine Run_b [.pointer (some ⟨b3, 1, none⟩)] 3 _ (by kernel_rfl) (fun w => by kernel_rfl) ?_
  have H8 : Hold h h5 [box b3 30 [.int .i64 a_.Events, .slice none 0 0], own cd50 a1 x1.length c1 x1, box b2 30 [.int .i64 0, .slice none 0 0], box b1 24 [.int .i64 a_.Events, .slice aa_Places a_.Places.length ca_Places]] := H6.pick [1, 0, 2, 3] (by kernel_rfl)
  refine Run_E (by kernel_rfl) ?_
  refine E_bput (t := 28) (off := 1) (us := [.int .i64 a_.Events, .slice a1 x1.length c1]) (v := .slice a1 x1.length c1) H8 (by kernel_rfl) (by kernel_rfl) rfl (by kernel_rfl) rfl (fun h6 H7 => ?_)
  refine Run_nil (by kernel_rfl) ?_
  refine Run_keep [2, 3] (L' := [(2, .pointer (some ⟨b2, 0, none⟩)), (3, .pointer (some ⟨b3, 0, none⟩))]) (by kernel_rfl) ?_
  refine Run_seq ?_
  refine Run_ops ?_
  refine Run_y (.agg #[.int .i64 a_.Events, .slice a1 x1.length c1]) (by kernel_rfl) (Y_loadA (t := 30) (n := 2) (p := ⟨b3, 0, none⟩) (cs := [.int .i64 a_.Events, .slice a1 x1.length c1]) (by kernel_rfl) (fun w => by kernel_rfl) (by kernel_rfl) rfl (H7.cells (n := 2) (off := 0) 0 rfl rfl)) ?_
  have H10 : Hold h h6 [box b2 30 [.int .i64 0, .slice none 0 0], box b3 30 [.int .i64 a_.Events, .slice a1 x1.length c1], own cd50 a1 x1.length c1 x1, box b1 24 [.int .i64 a_.Events, .slice aa_Places a_.Places.length ca_Places]] := H7.pick [2, 0, 1, 3] (by kernel_rfl)
  refine Run_E (by kernel_rfl) ?_
  refine E_bput (t := 30) (off := 0) (us := [.int .i64 a_.Events, .slice a1 x1.length c1]) (v := .agg #[.int .i64 a_.Events, .slice a1 x1.length c1]) H10 (by kernel_rfl) (by kernel_rfl) rfl (by kernel_rfl) rfl (fun h7 H9 => ?_)
  refine Run_nil (by kernel_rfl) ?_
  refine Run_keep [2] (L' := [(2, .pointer (some ⟨b2, 0, none⟩))]) (by kernel_rfl) ?_
  have hF := M.ret_some hF
  subst hF
  have H11 : Hold h h7 [own cd50 a1 x1.length c1 x1, box b2 30 [.int .i64 a_.Events, .slice a1 x1.length c1], box b3 30 [.int .i64 a_.Events, .slice a1 x1.length c1], box b1 24 [.int .i64 a_.Events, .slice aa_Places a_.Places.length ca_Places]] := H9.pick [2, 0, 1, 3] (by kernel_rfl)
  have H12 : Hold h h7 [own cd50 a1 x1.length c1 x1] := H11.pick [0] (by kernel_rfl)
  exact Run_ret1 rfl (ResV_cell (n := 2) (cs := [.int .i64 a_.Events, .slice a1 x1.length c1]) (by kernel_rfl) (fun w => by kernel_rfl) (by kernel_rfl) rfl (H9.cells (n := 2) (off := 0) 0 rfl rfl)) ⟨a1, c1, rfl, H12⟩

set_option maxRecDepth 100000 in
set_option maxHeartbeats 4000000 in
theorem w_spec_l01In (h : Heap) (n_ : Int) (low : Int) (high : Int) (n : Nat) (r : Bool) (hF : spec_l01In n_ low high n = some r) :
    Fn Try.prog 33 #[.int .i64 n_, .int .i64 low, .int .i64 high] h fun v h' => v = .bool r ∧ h' = h := by
  unfold spec_l01In at hF
  refine Fn_enter (args := [.int .i64 n_, .int .i64 low, .int .i64 high]) Try.func33 rfl (by kernel_rfl) (by kernel_rfl) (fun w0 _ => ?_)
  refine Run_seq ?_
  refine Run_reg 1 (by kernel_rfl) (L' := [(0, .int .i64 n_), (1, .int .i64 low), (2, .int .i64 high)]) ?_ ?_
  · refine QRun_b [.bool false] 0 _ (by kernel_rfl) (fun w => by kernel_rfl) ?_
    exact QRun_done [0, 1, 2] (by kernel_rfl) (by kernel_rfl)
  refine Run_seq ?_
  refine Run_reg 9 (by kernel_rfl) (L' := [(6, .bool ((decide (low ≤ n_)) && (decide (n_ ≤ high))))]) ?_ ?_
  · refine QRun_b [.int .i64 n_, .int .i64 low, .bool (decide (low ≤ n_))] 0 _ (by kernel_rfl) (fun w => by kernel_rfl) ?_
    refine QRun_seq 8 [(14, .bool ((decide (low ≤ n_)) && (decide (n_ ≤ high))))] ?_ ?_
    · rcases Bool.eq_false_or_eq_true (decide (low ≤ n_)) with hb1 | hb1
      · refine QRun_bool (decide (low ≤ n_)) true (by kernel_rfl) (fun w => by kernel_rfl) hb1 ?_
        refine QRun_b [.int .i64 n_, .int .i64 high, .bool (decide (n_ ≤ high))] 4 _ (by kernel_rfl) (fun w => by kernel_rfl) ?_
        refine QRun_bool (decide (n_ ≤ high)) ((decide (low ≤ n_)) && (decide (n_ ≤ high))) (by kernel_rfl) (fun w => by kernel_rfl) (by rw [hb1]; rfl) ?_
        exact QRun_done [14] (by kernel_rfl) (by kernel_rfl)
      · refine QRun_bool (decide (low ≤ n_)) false (by kernel_rfl) (fun w => by kernel_rfl) hb1 ?_
        refine QRun_n (by kernel_rfl) ?_
        refine QRun_n (by kernel_rfl) ?_
        refine QRun_n (by kernel_rfl) ?_
        refine QRun_bool false ((decide (low ≤ n_)) && (decide (n_ ≤ high))) (by kernel_rfl) (fun w => by kernel_rfl) (by rw [hb1]; rfl) ?_
        exact QRun_done [14] (by kernel_rfl) (by kernel_rfl)
    refine QRun_b [.bool ((decide (low ≤ n_)) && (decide (n_ ≤ high)))] 8 _ (by kernel_rfl) (fun w => by kernel_rfl) ?_
    exact QRun_done [6] (by kernel_rfl) (by kernel_rfl)
  have hF := M.ret_some hF
  subst hF
  exact Run_ret1 rfl (ResV_tmp (v := .bool ((decide (low ≤ n_)) && (decide (n_ ≤ high)))) (by kernel_rfl)) ⟨rfl, rfl⟩

set_option maxRecDepth 100000 in
set_option maxHeartbeats 4000000 in
theorem w_spec_l11Place (h : Heap) (p : TPlace) (events : Int) (n : Nat) (r : Bool) (hF : spec_l11Place p events n = some r) :
    Fn Try.prog 32 #[.agg #[.int .i64 p.From, .int .i64 p.To, .int .i64 p.Delay, .int .i64 p.Tokens], .int .i64 events] h fun v h' => v = .bool r ∧ Hold h h' [] := by
  unfold spec_l11Place at hF
  refine Fn_enter (args := [.agg #[.int .i64 p.From, .int .i64 p.To, .int .i64 p.Delay, .int .i64 p.Tokens], .int .i64 events]) Try.func32 rfl (by kernel_rfl) (by kernel_rfl) (fun w0 _ => ?_)
  have H0 := Hold.init h
  refine Run_seq ?_
  refine Run_ops ?_
  refine Run_E (by kernel_rfl) ?_
  refine E_box (ty := 50) (cs := [.int .i64 p.From, .int .i64 p.To, .int .i64 p.Delay, .int .i64 p.Tokens]) H0 (fun w => by kernel_rfl) (fun b1 h1 H1 => ?_)
  refine Run_b [.bool false] 1 _ (by kernel_rfl) (fun w => by kernel_rfl) ?_
  refine Run_nil (by kernel_rfl) ?_
  refine Run_keep [1, 2] (L' := [(1, .int .i64 events), (2, .pointer (some ⟨b1, 0, none⟩))]) (by kernel_rfl) ?_
  refine Run_seq ?_
  obtain ⟨x1, hx1, hF⟩ := M.bind_some hF
  obtain ⟨x2, gx2, hF⟩ := M.bind_some hF
  obtain ⟨x4, gx4, hF⟩ := M.bind_some hF
  obtain ⟨x6, gx6, hF⟩ := M.bind_some hF
  refine Run_reg 23 (by kernel_rfl) (L' := [(4, .bool x6)]) ?_ ?_
  · refine QRun_b [.pointer (some ⟨b1, 0, none⟩)] 0 _ (by kernel_rfl) (fun w => by kernel_rfl) ?_
    refine QRun_y (.int .i64 p.From) (by kernel_rfl) (Y_load1 (t := 2) (p := ⟨b1, 0, none⟩) (v := .int .i64 p.From) (by kernel_rfl) (fun w => by kernel_rfl) (H1.cell 0 rfl rfl)) ?_
    refine QRun_b [.int .i64 events, .int .i64 (w64 (events - 1))] 2 _ (by kernel_rfl) (fun w => by kernel_rfl) ?_
    refine QRun_y (.bool x1) (by kernel_rfl) (Y_callq (f := 33) (args := #[.int .i64 p.From, .int .i64 0, .int .i64 (w64 (events - 1))]) (v := .bool x1) (by kernel_rfl) (w_spec_l01In h1 p.From 0 (w64 (events - 1)) _ _ hx1)) ?_
    refine QRun_seq 12 [(2, .pointer (some ⟨b1, 0, none⟩)), (16, .bool x2)] ?_ ?_
    · rcases Bool.eq_false_or_eq_true x1 with hb1 | hb1
      · refine QRun_bool x1 true (by kernel_rfl) (fun w => by kernel_rfl) hb1 ?_
        have gx2 := (M.ite_some gx2).1 hb1
        obtain ⟨x3, hx2, gx2⟩ := M.bind_some gx2
        have gx2 := M.ret_some gx2
        refine QRun_b [.pointer (some ⟨b1, 1, none⟩)] 6 _ (by kernel_rfl) (fun w => by kernel_rfl) ?_
        refine QRun_y (.int .i64 p.To) (by kernel_rfl) (Y_load1 (t := 2) (p := ⟨b1, 1, none⟩) (v := .int .i64 p.To) (by kernel_rfl) (fun w => by kernel_rfl) (H1.cell 0 rfl rfl)) ?_
        refine QRun_b [.int .i64 events, .int .i64 (w64 (events - 1))] 8 _ (by kernel_rfl) (fun w => by kernel_rfl) ?_
        refine QRun_y (.bool x3) (by kernel_rfl) (Y_callq (f := 33) (args := #[.int .i64 p.To, .int .i64 0, .int .i64 (w64 (events - 1))]) (v := .bool x3) (by kernel_rfl) (w_spec_l01In h1 p.To 0 (w64 (events - 1)) _ _ hx2)) ?_
        refine QRun_bool x3 x2 (by kernel_rfl) (fun w => by kernel_rfl) gx2 ?_
        exact QRun_done [2, 16] (by kernel_rfl) (by kernel_rfl)
      · refine QRun_bool x1 false (by kernel_rfl) (fun w => by kernel_rfl) hb1 ?_
        have gx2 := M.ret_some ((M.ite_some gx2).2 hb1)
        refine QRun_n (by kernel_rfl) ?_
        refine QRun_n (by kernel_rfl) ?_
        refine QRun_n (by kernel_rfl) ?_
        refine QRun_n (by kernel_rfl) ?_
        refine QRun_n (by kernel_rfl) ?_
        refine QRun_bool false x2 (by kernel_rfl) (fun w => by kernel_rfl) gx2 ?_
        exact QRun_done [2, 16] (by kernel_rfl) (by kernel_rfl)
    refine QRun_seq 17 [(2, .pointer (some ⟨b1, 0, none⟩)), (21, .bool x4)] ?_ ?_
    · rcases Bool.eq_false_or_eq_true x2 with hb2 | hb2
      · refine QRun_bool x2 true (by kernel_rfl) (fun w => by kernel_rfl) hb2 ?_
        have gx4 := (M.ite_some gx4).1 hb2
        obtain ⟨x5, hx3, gx4⟩ := M.bind_some gx4
        have gx4 := M.ret_some gx4
        refine QRun_b [.pointer (some ⟨b1, 2, none⟩)] 13 _ (by kernel_rfl) (fun w => by kernel_rfl) ?_
        refine QRun_y (.int .i64 p.Delay) (by kernel_rfl) (Y_load1 (t := 2) (p := ⟨b1, 2, none⟩) (v := .int .i64 p.Delay) (by kernel_rfl) (fun w => by kernel_rfl) (H1.cell 0 rfl rfl)) ?_
        refine QRun_y (.bool x5) (by kernel_rfl) (Y_callq (f := 33) (args := #[.int .i64 p.Delay, .int .i64 0, .int .i64 1000]) (v := .bool x5) (by kernel_rfl) (w_spec_l01In h1 p.Delay 0 1000 _ _ hx3)) ?_
        refine QRun_bool x5 x4 (by kernel_rfl) (fun w => by kernel_rfl) gx4 ?_
        exact QRun_done [2, 21] (by kernel_rfl) (by kernel_rfl)
      · refine QRun_bool x2 false (by kernel_rfl) (fun w => by kernel_rfl) hb2 ?_
        have gx4 := M.ret_some ((M.ite_some gx4).2 hb2)
        refine QRun_n (by kernel_rfl) ?_
        refine QRun_n (by kernel_rfl) ?_
        refine QRun_n (by kernel_rfl) ?_
        refine QRun_bool false x4 (by kernel_rfl) (fun w => by kernel_rfl) gx4 ?_
        exact QRun_done [2, 21] (by kernel_rfl) (by kernel_rfl)
    refine QRun_seq 22 [(26, .bool x6)] ?_ ?_
    · rcases Bool.eq_false_or_eq_true x4 with hb3 | hb3
      · refine QRun_bool x4 true (by kernel_rfl) (fun w => by kernel_rfl) hb3 ?_
        have gx6 := (M.ite_some gx6).1 hb3
        obtain ⟨x7, hx4, gx6⟩ := M.bind_some gx6
        have gx6 := M.ret_some gx6
        refine QRun_b [.pointer (some ⟨b1, 3, none⟩)] 18 _ (by kernel_rfl) (fun w => by kernel_rfl) ?_
        refine QRun_y (.int .i64 p.Tokens) (by kernel_rfl) (Y_load1 (t := 2) (p := ⟨b1, 3, none⟩) (v := .int .i64 p.Tokens) (by kernel_rfl) (fun w => by kernel_rfl) (H1.cell 0 rfl rfl)) ?_
        refine QRun_y (.bool x7) (by kernel_rfl) (Y_callq (f := 33) (args := #[.int .i64 p.Tokens, .int .i64 0, .int .i64 5]) (v := .bool x7) (by kernel_rfl) (w_spec_l01In h1 p.Tokens 0 5 _ _ hx4)) ?_
        refine QRun_bool x7 x6 (by kernel_rfl) (fun w => by kernel_rfl) gx6 ?_
        exact QRun_done [26] (by kernel_rfl) (by kernel_rfl)
      · refine QRun_bool x4 false (by kernel_rfl) (fun w => by kernel_rfl) hb3 ?_
        have gx6 := M.ret_some ((M.ite_some gx6).2 hb3)
        refine QRun_n (by kernel_rfl) ?_
        refine QRun_n (by kernel_rfl) ?_
        refine QRun_n (by kernel_rfl) ?_
        refine QRun_bool false x6 (by kernel_rfl) (fun w => by kernel_rfl) gx6 ?_
        exact QRun_done [26] (by kernel_rfl) (by kernel_rfl)
    refine QRun_b [.bool x6] 22 _ (by kernel_rfl) (fun w => by kernel_rfl) ?_
    exact QRun_done [4] (by kernel_rfl) (by kernel_rfl)
  have hF := M.ret_some hF
  subst hF
  have H2 : Hold h h1 [] := H1.pick [] (by kernel_rfl)
  exact Run_ret1 rfl (ResV_tmp (v := .bool x6) (by kernel_rfl)) ⟨rfl, H2⟩

set_option maxRecDepth 100000 in
set_option maxHeartbeats 4000000 in
theorem w_spec_IsEventGraph (h : Heap) (g : TGraph) (agPlaces : Option Addr) (cgPlaces : Nat) (rgPlaces : Rd cd50 h (Lt h) agPlaces cgPlaces g.Places) (n : Nat) (r : Bool) (hF : spec_IsEventGraph g n = some r) :
    Fn Try.prog 18 #[.agg #[.int .i64 g.Events, .slice agPlaces g.Places.length cgPlaces]] h fun v h' => v = .bool r ∧ Hold h h' [] := by
  unfold spec_IsEventGraph at hF
  refine Fn_enter (args := [.agg #[.int .i64 g.Events, .slice agPlaces g.Places.length cgPlaces]]) Try.func18 rfl (by kernel_rfl) (by kernel_rfl) (fun w0 _ => ?_)
  have H0 := Hold.init h
  refine Run_seq ?_
  refine Run_ops ?_
  refine Run_E (by kernel_rfl) ?_
  refine E_box (ty := 30) (cs := [.int .i64 g.Events, .slice agPlaces g.Places.length cgPlaces]) H0 (fun w => by kernel_rfl) (fun b1 h1 H1 => ?_)
  refine Run_b [.bool false] 1 _ (by kernel_rfl) (fun w => by kernel_rfl) ?_
  refine Run_nil (by kernel_rfl) ?_
  refine Run_keep [1] (L' := [(1, .pointer (some ⟨b1, 0, none⟩))]) (by kernel_rfl) ?_
  refine Run_seq ?_
  refine Run_seq ?_
  refine Run_reg 1 (by kernel_rfl) (L' := [(1, .pointer (some ⟨b1, 0, none⟩)), (3, .int .i64 0)]) ?_ ?_
  · refine QRun_b [.int .i64 0] 0 _ (by kernel_rfl) (fun w => by kernel_rfl) ?_
    exact QRun_done [1, 3] (by kernel_rfl) (by kernel_rfl)
  obtain ⟨x1, gx1, hF⟩ := M.bind_some hF
  refine Run_join (fun L' h' => ∃ (s2 : Int), x1 = .inl s2 ∧ L' = [(1, .pointer (some ⟨b1, 0, none⟩))] ∧ Hold h h' [box b1 30 [.int .i64 g.Events, .slice agPlaces g.Places.length cgPlaces]]) ?_ ?_
  · rintro _ h3 ⟨s2, es2, rfl, H3⟩
    have hF := M.cont_inl' hF es2
    refine Run_seq ?_
    obtain ⟨x4, hx3, hF⟩ := M.bind_some hF
    refine Run_reg 10 (by kernel_rfl) (L' := [(2, .bool (x4 && (decide ((g.Places.length : Int) ≤ 30))))]) ?_ ?_
    · refine QRun_b [.pointer (some ⟨b1, 0, none⟩)] 0 _ (by kernel_rfl) (fun w => by kernel_rfl) ?_
      refine QRun_y (.int .i64 g.Events) (by kernel_rfl) (Y_load1 (t := 2) (p := ⟨b1, 0, none⟩) (v := .int .i64 g.Events) (by kernel_rfl) (fun w => by kernel_rfl) (H3.cell 0 rfl rfl)) ?_
      refine QRun_y (.bool x4) (by kernel_rfl) (Y_callq (f := 33) (args := #[.int .i64 g.Events, .int .i64 1, .int .i64 10]) (v := .bool x4) (by kernel_rfl) (w_spec_l01In h3 g.Events 1 10 _ _ hx3)) ?_
      refine QRun_seq 9 [(28, .bool (x4 && (decide ((g.Places.length : Int) ≤ 30))))] ?_ ?_
      · rcases Bool.eq_false_or_eq_true x4 with hb3 | hb3
        · refine QRun_bool x4 true (by kernel_rfl) (fun w => by kernel_rfl) hb3 ?_
          refine QRun_b [.pointer (some ⟨b1, 1, none⟩)] 4 _ (by kernel_rfl) (fun w => by kernel_rfl) ?_
          refine QRun_y (.slice agPlaces g.Places.length cgPlaces) (by kernel_rfl) (Y_load1 (t := 28) (p := ⟨b1, 1, none⟩) (v := .slice agPlaces g.Places.length cgPlaces) (by kernel_rfl) (fun w => by kernel_rfl) (H3.cell 0 rfl rfl)) ?_
          refine QRun_b [.int .i64 (g.Places.length : Int), .bool (decide ((g.Places.length : Int) ≤ 30))] 6 _ (by kernel_rfl) (fun w => by kernel_rfl) ?_
          refine QRun_bool (decide ((g.Places.length : Int) ≤ 30)) (x4 && (decide ((g.Places.length : Int) ≤ 30))) (by kernel_rfl) (fun w => by kernel_rfl) (by rw [hb3]; rfl) ?_
          exact QRun_done [28] (by kernel_rfl) (by kernel_rfl)
        · refine QRun_bool x4 false (by kernel_rfl) (fun w => by kernel_rfl) hb3 ?_
          refine QRun_n (by kernel_rfl) ?_
          refine QRun_n (by kernel_rfl) ?_
          refine QRun_n (by kernel_rfl) ?_
          refine QRun_n (by kernel_rfl) ?_
          refine QRun_bool false (x4 && (decide ((g.Places.length : Int) ≤ 30))) (by kernel_rfl) (fun w => by kernel_rfl) (by rw [hb3]; rfl) ?_
          exact QRun_done [28] (by kernel_rfl) (by kernel_rfl)
      refine QRun_b [.bool (x4 && (decide ((g.Places.length : Int) ≤ 30)))] 9 _ (by kernel_rfl) (fun w => by kernel_rfl) ?_
      exact QRun_done [2] (by kernel_rfl) (by kernel_rfl)
    have hF := M.ret_some hF
    subst hF
    have H7 : Hold h h3 [] := H3.pick [] (by kernel_rfl)
    exact Run_ret1 rfl (ResV_tmp (v := .bool (x4 && (decide ((g.Places.length : Int) ≤ 30)))) (by kernel_rfl)) ⟨rfl, H7⟩
  · refine Run_block ?_
    refine Run_keep [1, 3] (L' := [(1, .pointer (some ⟨b1, 0, none⟩)), (3, .int .i64 0)]) (by kernel_rfl) ?_
    refine Run_loop (fun m L' h' => ∃ (s1 : Int), M.loopN _ n m s1 = some x1 ∧ L' = [(1, .pointer (some ⟨b1, 0, none⟩)), (3, .int .i64 s1)] ∧ Hold h h' [box b1 30 [.int .i64 g.Events, .slice agPlaces g.Places.length cgPlaces]]) n ⟨0, gx1, rfl, H1⟩ ?_
    rintro my1 _ h2 ⟨s1, gx1, rfl, H2⟩
    obtain ⟨my1, y1, rfl, hB1, hgoy1, houty1⟩ := M.loop_some gx1
    refine Run_seq ?_
    refine Run_seq ?_
    refine Run_reg 5 (by kernel_rfl) (L' := [(1, .pointer (some ⟨b1, 0, none⟩)), (3, .int .i64 s1), (8, .bool (decide (s1 < (g.Places.length : Int))))]) ?_ ?_
    · refine QRun_b [.int .i64 s1, .pointer (some ⟨b1, 1, none⟩)] 0 _ (by kernel_rfl) (fun w => by kernel_rfl) ?_
      refine QRun_y (.slice agPlaces g.Places.length cgPlaces) (by kernel_rfl) (Y_load1 (t := 28) (p := ⟨b1, 1, none⟩) (v := .slice agPlaces g.Places.length cgPlaces) (by kernel_rfl) (fun w => by kernel_rfl) (H2.cell 0 rfl rfl)) ?_
      refine QRun_b [.int .i64 (g.Places.length : Int), .bool (decide (s1 < (g.Places.length : Int)))] 3 _ (by kernel_rfl) (fun w => by kernel_rfl) ?_
      exact QRun_done [1, 3, 8] (by kernel_rfl) (by kernel_rfl)
    refine Run_cond (b := decide (s1 < (g.Places.length : Int))) (by kernel_rfl) (fun hb1 => ?_) (fun hb1 => ?_)
    · have hB1 := (M.ite_some hB1).1 hb1
      refine Run_skip ?_
      refine Run_seq ?_
      refine Run_block ?_
      refine Run_seq ?_
      obtain ⟨x2, hx1, hB1⟩ := M.bind_some hB1
      obtain ⟨hx1l, hx1u, hx1⟩ := M.idx_some hx1
      obtain ⟨x3, hx2, hB1⟩ := M.bind_some hB1
      refine Run_drawC (j := 9) (C := fun x => Hold h x [box b1 30 [.int .i64 g.Events, .slice agPlaces g.Places.length cgPlaces]]) mixed (by kernel_rfl) (by kernel_rfl) H2 (L' := [(1, .pointer (some ⟨b1, 0, none⟩)), (3, .int .i64 s1), (19, .bool (!x3))]) ?_ (fun h4 H4 => ?_)
      · refine QRun_b [.pointer (some ⟨b1, 1, none⟩)] 0 _ (by kernel_rfl) (fun w => by kernel_rfl) ?_
        refine QRun_y (.slice agPlaces g.Places.length cgPlaces) (by kernel_rfl) (Y_cls fun hx Hx => (Y_load1 (t := 28) (p := ⟨b1, 1, none⟩) (v := .slice agPlaces g.Places.length cgPlaces) (by kernel_rfl) (fun w => by kernel_rfl) (Hx.cell 0 rfl rfl))) ?_
        refine QRun_b [.int .i64 s1] 2 _ (by kernel_rfl) (fun w => by kernel_rfl) ?_
        refine QRun_y (.pointer (some (adr agPlaces (s1.toNat * 4)))) (by kernel_rfl) (Y_cls fun hx Hx => (Y_idx (t := 28) (e := 50) (sz := 4) (a := agPlaces) (n := g.Places.length) (cap := cgPlaces) (kk := .i64) (i := s1) (by kernel_rfl) Try.underlying28 (by kernel_rfl) ((rgPlaces.at H2.ext).cell hx1).1 hx1l hx1u)) ?_
        refine QRun_y (.agg #[.int .i64 x2.From, .int .i64 x2.To, .int .i64 x2.Delay, .int .i64 x2.Tokens]) (by kernel_rfl) (Y_cls fun hx Hx => (Y_loadA (t := 50) (n := 4) (p := adr agPlaces (s1.toNat * 4)) (cs := [.int .i64 x2.From, .int .i64 x2.To, .int .i64 x2.Delay, .int .i64 x2.Tokens]) (by kernel_rfl) (fun w => by kernel_rfl) (by kernel_rfl) rfl (cd50_elem (rgPlaces.at Hx.ext) hx1))) ?_
        refine QRun_b [.pointer (some ⟨b1, 0, none⟩)] 5 _ (by kernel_rfl) (fun w => by kernel_rfl) ?_
        refine QRun_y (.int .i64 g.Events) (by kernel_rfl) (Y_cls fun hx Hx => (Y_load1 (t := 2) (p := ⟨b1, 0, none⟩) (v := .int .i64 g.Events) (by kernel_rfl) (fun w => by kernel_rfl) (Hx.cell 0 rfl rfl))) ?_
        refine QRun_y (.bool x3) (by kernel_rfl) (Y_call (f := 32) (args := #[.agg #[.int .i64 x2.From, .int .i64 x2.To, .int .i64 x2.Delay, .int .i64 x2.Tokens], .int .i64 g.Events]) (v := .bool x3) (by kernel_rfl) fun hx Hx => (w_spec_l11Place hx x2 g.Events _ _ hx2).mono fun _ _ ⟨e, H'⟩ => ⟨e, Hx.call H' rfl⟩) ?_
        refine QRun_b [.bool (!x3)] 8 _ (by kernel_rfl) (fun w => by kernel_rfl) ?_
        exact QRun_done [1, 3, 19] (by kernel_rfl) (by kernel_rfl)
      have H5 : Hold h h4 [box b1 30 [.int .i64 g.Events, .slice agPlaces g.Places.length cgPlaces]] := H4
      refine Run_cond (b := !x3) (by kernel_rfl) (fun hb2 => ?_) (fun hb2 => ?_)
      · have hB1 := (M.ite_some hB1).1 hb2
        refine Run_seq ?_
        refine Run_reg 1 (by kernel_rfl) (L' := [(2, .bool false)]) ?_ ?_
        · refine QRun_b [.bool false] 0 _ (by kernel_rfl) (fun w => by kernel_rfl) ?_
          exact QRun_done [2] (by kernel_rfl) (by kernel_rfl)
        have hB1 := M.ret_some hB1
        have gx1 := houty1 _ hB1.symm
        have hF := M.cont_inr' hF gx1
        have hF := M.ret_some hF
        subst hF
        have H6 : Hold h h4 [] := H5.pick [] (by kernel_rfl)
        exact Run_ret1 rfl (ResV_tmp (v := .bool false) (by kernel_rfl)) ⟨rfl, H6⟩
      · have hB1 := (M.ite_some hB1).2 hb2
        refine Run_skip ?_
        refine Run_blk ?_
        refine Run_reg 3 (by kernel_rfl) (L' := [(1, .pointer (some ⟨b1, 0, none⟩)), (3, .int .i64 (w64 (s1 + 1)))]) ?_ ?_
        · refine QRun_b [.int .i64 s1, .int .i64 (w64 (s1 + 1)), .int .i64 (w64 (s1 + 1))] 0 _ (by kernel_rfl) (fun w => by kernel_rfl) ?_
          exact QRun_done [1, 3] (by kernel_rfl) (by kernel_rfl)
        have hB1 := M.ret_some hB1
        have gx1 := hgoy1 _ hB1.symm
        exact Run_again [1, 3] (by kernel_rfl) my1 (Nat.lt_succ_self _) ⟨(w64 (s1 + 1)), gx1, rfl, H5⟩
    · have hB1 := (M.ite_some hB1).2 hb1
      refine Run_exit (k' := _) rfl ?_
      have hB1 := M.ret_some hB1
      have gx1 := houty1 _ hB1.symm
      subst gx1
      exact Run_fall [1] (by kernel_rfl) ⟨s1, rfl, rfl, H2⟩

set_option maxRecDepth 100000 in
set_option maxHeartbeats 4000000 in
theorem w_spec_l02Bottom (h : Heap) (m_ : Int) (n_ : Int) (n : Nat) (r : (List (List Int))) (hF : spec_l02Bottom m_ n_ n = some r) :
    Fn Try.prog 51 #[.int .i64 m_, .int .i64 n_] h fun v h' => ∃ (a0 : Option Addr) (c0 : Nat), v = .slice a0 r.length c0 ∧ Hold h h' [own cd41 a0 r.length c0 r] := by
  unfold spec_l02Bottom at hF
  refine Fn_enter (args := [.int .i64 m_, .int .i64 n_]) Try.func51 rfl (by kernel_rfl) (by kernel_rfl) (fun w0 _ => ?_)
  have H0 := Hold.init h
  refine Run_seq ?_
  refine Run_reg 1 (by kernel_rfl) (L' := [(0, .int .i64 m_), (1, .int .i64 n_)]) ?_ ?_
  · refine QRun_b [.slice none 0 0] 0 _ (by kernel_rfl) (fun w => by kernel_rfl) ?_
    exact QRun_done [0, 1] (by kernel_rfl) (by kernel_rfl)
  refine Run_seq ?_
  refine Run_ops ?_
  refine Run_E (by kernel_rfl) ?_
  refine E_lit (C := cd41) (n := 0) (l := []) (cs := []) H0 (fun w => by kernel_rfl) (Enc.nil _ _) rfl (by decide) (fun a1 h1 H1 => ?_)
  refine Run_b [.slice a1 0 0] 1 _ (by kernel_rfl) (fun w => by kernel_rfl) ?_
  refine Run_nil (by kernel_rfl) ?_
  refine Run_keep [0, 1, 5] (L' := [(0, .int .i64 m_), (1, .int .i64 n_), (5, .slice a1 0 0)]) (by kernel_rfl) ?_
  refine Run_seq ?_
  refine Run_seq ?_
  refine Run_reg 1 (by kernel_rfl) (L' := [(0, .int .i64 m_), (1, .int .i64 n_), (5, .slice a1 0 0), (6, .int .i64 0)]) ?_ ?_
  · refine QRun_b [.int .i64 0] 0 _ (by kernel_rfl) (fun w => by kernel_rfl) ?_
    exact QRun_done [0, 1, 5, 6] (by kernel_rfl) (by kernel_rfl)
  obtain ⟨x1, gx1, hF⟩ := M.bind_some hF
  obtain ⟨hloy1, hhiy1, gx1⟩ := M.for_start gx1
  refine Run_join (fun L' h' => ∃ (a3 : Option Addr) (c2 : Nat), L' = [(5, .slice a3 x1.length c2)] ∧ Hold h h' [own cd41 a3 x1.length c2 x1]) ?_ ?_
  · rintro _ h3 ⟨a3, c2, rfl, H3⟩
    refine Run_seq ?_
    refine Run_reg 2 (by kernel_rfl) (L' := [(4, .slice a3 x1.length c2)]) ?_ ?_
    · refine QRun_b [.slice a3 x1.length c2, .slice a3 x1.length c2] 0 _ (by kernel_rfl) (fun w => by kernel_rfl) ?_
      exact QRun_done [4] (by kernel_rfl) (by kernel_rfl)
    have hF := M.ret_some hF
    subst hF
    exact Run_ret1 rfl (ResV_tmp (v := .slice a3 x1.length c2) (by kernel_rfl)) ⟨a3, c2, rfl, H3⟩
  · refine Run_block ?_
    have hn2 := (H1.len 0 rfl)
    have H23 : Hold h h1 [own cd41 a1 (([] : List (List Int)).length) 0 ([] : List (List Int))] := by rw [hn2]; exact H1
    refine Run_keep [0, 1, 5, 6] (L' := [(0, .int .i64 m_), (1, .int .i64 n_), (5, .slice a1 (([] : List (List Int)).length) 0), (6, .int .i64 0)]) (by first | kernel_rfl | (rw [hn2]; kernel_rfl) | (simp only [hn2]; kernel_rfl)) ?_
    refine Run_loop (fun m L' h' => ∃ (i1 : Int) (s1 : (List (List Int))) (a2 : Option Addr) (c1 : Nat), 0 ≤ i1 ∧ M.forN m_ _ _ n m i1 s1 = some x1 ∧ L' = [(0, .int .i64 m_), (1, .int .i64 n_), (5, .slice a2 s1.length c1), (6, .int .i64 i1)] ∧ Hold h h' [own cd41 a2 s1.length c1 s1]) (m_ - 0 : Int).toNat ⟨0, ([] : List (List Int)), a1, 0, Int.le_refl _, gx1, rfl, H23⟩ ?_
    rintro my1 _ h2 ⟨i1, s1, a2, c1, hloy1', gx1, rfl, H2⟩
    refine Run_seq ?_
    refine Run_seq ?_
    refine Run_reg 3 (by kernel_rfl) (L' := [(0, .int .i64 m_), (1, .int .i64 n_), (5, .slice a2 s1.length c1), (6, .int .i64 i1), (12, .bool (decide (i1 < m_)))]) ?_ ?_
    · refine QRun_b [.int .i64 i1, .int .i64 m_, .bool (decide (i1 < m_))] 0 _ (by kernel_rfl) (fun w => by kernel_rfl) ?_
      exact QRun_done [0, 1, 5, 6, 12] (by kernel_rfl) (by kernel_rfl)
    refine Run_cond (b := decide (i1 < m_)) (by kernel_rfl) (fun hb1 => ?_) (fun hb1 => ?_)
    · obtain ⟨my1, y1, rfl, hB1, hgoy1, houty1⟩ := M.for_go gx1 hb1
      have hlty1 := of_decide_eq_true hb1
      refine Run_skip ?_
      refine Run_seq ?_
      refine Run_block ?_
      refine Run_seq ?_
      refine Run_ops ?_
      refine Run_E (by kernel_rfl) ?_
      refine E_lit (C := cd2) (n := 0) (l := ([] : List Int)) (cs := []) H2 (fun w => by kernel_rfl) (Enc.nil _ _) rfl (by decide) (fun a4 h4 H4 => ?_)
      refine Run_b [.slice a4 0 0] 1 _ (by kernel_rfl) (fun w => by kernel_rfl) ?_
      refine Run_nil (by kernel_rfl) ?_
      refine Run_keep [0, 1, 5, 6, 7] (L' := [(0, .int .i64 m_), (1, .int .i64 n_), (5, .slice a2 s1.length c1), (6, .int .i64 i1), (7, .slice a4 0 0)]) (by kernel_rfl) ?_
      refine Run_seq ?_
      refine Run_seq ?_
      refine Run_reg 1 (by kernel_rfl) (L' := [(0, .int .i64 m_), (1, .int .i64 n_), (5, .slice a2 s1.length c1), (6, .int .i64 i1), (7, .slice a4 0 0), (8, .int .i64 0)]) ?_ ?_
      · refine QRun_b [.int .i64 0] 0 _ (by kernel_rfl) (fun w => by kernel_rfl) ?_
        exact QRun_done [0, 1, 5, 6, 7, 8] (by kernel_rfl) (by kernel_rfl)
      obtain ⟨x2, gx2, hB1⟩ := M.bind_some hB1
      obtain ⟨hloy2, hhiy2, gx2⟩ := M.for_start gx2
      refine Run_join (fun L' h' => ∃ (a6 : Option Addr) (c4 : Nat), L' = [(0, .int .i64 m_), (1, .int .i64 n_), (5, .slice a2 s1.length c1), (6, .int .i64 i1), (7, .slice a6 x2.length c4)] ∧ Hold h h' [own cd41 a2 s1.length c1 s1, own cd2 a6 x2.length c4 x2]) ?_ ?_
      · rintro _ h6 ⟨a6, c4, rfl, H6⟩
        refine Run_ops ?_
        refine Run_b [.slice a2 s1.length c1, .slice a6 x2.length c4] 0 _ (by kernel_rfl) (fun w => by kernel_rfl) ?_
        have H16 : Hold h h6 [own cd2 a6 x2.length c4 x2, own cd41 a2 s1.length c1 s1] := H6.pick [1, 0] (by kernel_rfl)
        refine Run_E (by kernel_rfl) ?_
        refine E_lit1 (ey := 41) (n := x2.length) H16 (fun w => by kernel_rfl) rfl (fun a9 h9 H15 => ?_)
        obtain ⟨l2, hl2, hB1⟩ := M.bind_some hB1
        have hl2 := M.app_some hl2
        have H17 : Hold h h9 [own cd41 a2 s1.length c1 s1, own cd41 a9 1 1 [x2]] := H15.pick [1, 0] (by kernel_rfl)
        have H18 : Hold h h9 [own cd41 a9 1 1 [x2], own cd41 a2 s1.length c1 s1] := H17.pick [1, 0] (by kernel_rfl)
        have H19 : Hold h h9 [own cd41 a2 s1.length c1 s1, own cd41 a9 1 1 [x2]] := H18.pick [1, 0] (by kernel_rfl)
        refine Run_E (by kernel_rfl) ?_
        refine E_app (C := cd41) (t := 55) (ty := 55) (n := s1.length) (m := 1) H19 cd41_ti rfl Try.underlying55 (by decide) (by kernel_rfl) hl2 (fun a10 c6 h10 H20 => ?_)
        refine Run_b [.slice a10 l2.length c6] 4 _ (by kernel_rfl) (fun w => by kernel_rfl) ?_
        refine Run_nil (by kernel_rfl) ?_
        refine Run_keep [0, 1, 5, 6] (L' := [(0, .int .i64 m_), (1, .int .i64 n_), (5, .slice a10 l2.length c6), (6, .int .i64 i1)]) (by kernel_rfl) ?_
        refine Run_blk ?_
        refine Run_reg 3 (by kernel_rfl) (L' := [(0, .int .i64 m_), (1, .int .i64 n_), (5, .slice a10 l2.length c6), (6, .int .i64 (i1 + 1))]) ?_ ?_
        · refine QRun_b [.int .i64 i1] 0 _ (by kernel_rfl) (fun w => by kernel_rfl) ?_
          refine QRun_y (.int .i64 (i1 + 1)) (by kernel_rfl) (Y_eq (v := .int .i64 (w64 (i1 + 1))) (Y_pure (fun w => by kernel_rfl)) (by rw [w64_eq _ (by omega)])) ?_
          refine QRun_b [.int .i64 (i1 + 1)] 2 _ (by kernel_rfl) (fun w => by kernel_rfl) ?_
          exact QRun_done [0, 1, 5, 6] (by kernel_rfl) (by kernel_rfl)
        have hB1 := M.ret_some hB1
        have gx1 := hgoy1 _ hB1.symm
        exact Run_again [0, 1, 5, 6] (by kernel_rfl) my1 (Nat.lt_succ_self _) ⟨i1 + 1, l2, a10, c6, by omega, gx1, rfl, H20⟩
      · refine Run_block ?_
        have hn1 := (H4.len 0 rfl)
        have H21 : Hold h h4 [own cd2 a4 (([] : List Int).length) 0 ([] : List Int), own cd41 a2 s1.length c1 s1] := by rw [hn1]; exact H4
        have H22 : Hold h h4 [own cd41 a2 s1.length c1 s1, own cd2 a4 (([] : List Int).length) 0 ([] : List Int)] := H21.pick [1, 0] (by kernel_rfl)
        refine Run_keep [0, 1, 5, 6, 7, 8] (L' := [(0, .int .i64 m_), (1, .int .i64 n_), (5, .slice a2 s1.length c1), (6, .int .i64 i1), (7, .slice a4 (([] : List Int).length) 0), (8, .int .i64 0)]) (by first | kernel_rfl | (rw [hn1]; kernel_rfl) | (simp only [hn1]; kernel_rfl)) ?_
        refine Run_loop (fun m L' h' => ∃ (i2 : Int) (s2 : (List Int)) (a5 : Option Addr) (c3 : Nat), 0 ≤ i2 ∧ M.forN n_ _ _ n m i2 s2 = some x2 ∧ L' = [(0, .int .i64 m_), (1, .int .i64 n_), (5, .slice a2 s1.length c1), (6, .int .i64 i1), (7, .slice a5 s2.length c3), (8, .int .i64 i2)] ∧ Hold h h' [own cd41 a2 s1.length c1 s1, own cd2 a5 s2.length c3 s2]) (n_ - 0 : Int).toNat ⟨0, ([] : List Int), a4, 0, Int.le_refl _, gx2, rfl, H22⟩ ?_
        rintro my2 _ h5 ⟨i2, s2, a5, c3, hloy2', gx2, rfl, H5⟩
        refine Run_seq ?_
        refine Run_seq ?_
        refine Run_reg 3 (by kernel_rfl) (L' := [(0, .int .i64 m_), (1, .int .i64 n_), (5, .slice a2 s1.length c1), (6, .int .i64 i1), (7, .slice a5 s2.length c3), (8, .int .i64 i2), (18, .bool (decide (i2 < n_)))]) ?_ ?_
        · refine QRun_b [.int .i64 i2, .int .i64 n_, .bool (decide (i2 < n_))] 0 _ (by kernel_rfl) (fun w => by kernel_rfl) ?_
          exact QRun_done [0, 1, 5, 6, 7, 8, 18] (by kernel_rfl) (by kernel_rfl)
        refine Run_cond (b := decide (i2 < n_)) (by kernel_rfl) (fun hb2 => ?_) (fun hb2 => ?_)
        · obtain ⟨my2, y2, rfl, hB2, hgoy2, houty2⟩ := M.for_go gx2 hb2
          have hlty2 := of_decide_eq_true hb2
          refine Run_skip ?_
          refine Run_seq ?_
          refine Run_block ?_
          refine Run_ops ?_
          refine Run_b [.slice a5 s2.length c3] 0 _ (by kernel_rfl) (fun w => by kernel_rfl) ?_
          refine Run_E (by kernel_rfl) ?_
          refine E_lit (C := cd2) (n := 1) (l := ([(-1000000000000000)] : List Int)) (cs := [.int .i64 (-1000000000000000)]) H5 (fun w => by kernel_rfl) (Enc.consE (cd2_own (-1000000000000000) _) (Enc.nil _ _) rfl) rfl (by decide) (fun a7 h7 H7 => ?_)
          obtain ⟨l1, hl1, hB2⟩ := M.bind_some hB2
          have hl1 := M.app_some hl1
          have H8 : Hold h h7 [own cd2 a5 s2.length c3 s2, own cd2 a7 1 1 ([(-1000000000000000)] : List Int), own cd41 a2 s1.length c1 s1] := H7.pick [2, 0, 1] (by kernel_rfl)
          have H9 : Hold h h7 [own cd2 a7 1 1 ([(-1000000000000000)] : List Int), own cd2 a5 s2.length c3 s2, own cd41 a2 s1.length c1 s1] := H8.pick [1, 0, 2] (by kernel_rfl)
          have H10 : Hold h h7 [own cd2 a5 s2.length c3 s2, own cd2 a7 1 1 ([(-1000000000000000)] : List Int), own cd41 a2 s1.length c1 s1] := H9.pick [1, 0, 2] (by kernel_rfl)
          refine Run_E (by kernel_rfl) ?_
          refine E_app (C := cd2) (t := 41) (ty := 41) (n := s2.length) (m := 1) H10 cd2_ti rfl Try.underlying41 (by decide) (by kernel_rfl) hl1 (fun a8 c5 h8 H11 => ?_)
          refine Run_b [.slice a8 l1.length c5] 3 _ (by kernel_rfl) (fun w => by kernel_rfl) ?_
          refine Run_nil (by kernel_rfl) ?_
          refine Run_keep [0, 1, 5, 6, 7, 8] (L' := [(0, .int .i64 m_), (1, .int .i64 n_), (5, .slice a2 s1.length c1), (6, .int .i64 i1), (7, .slice a8 l1.length c5), (8, .int .i64 i2)]) (by kernel_rfl) ?_
          refine Run_blk ?_
          refine Run_reg 3 (by kernel_rfl) (L' := [(0, .int .i64 m_), (1, .int .i64 n_), (5, .slice a2 s1.length c1), (6, .int .i64 i1), (7, .slice a8 l1.length c5), (8, .int .i64 (i2 + 1))]) ?_ ?_
          · refine QRun_b [.int .i64 i2] 0 _ (by kernel_rfl) (fun w => by kernel_rfl) ?_
            refine QRun_y (.int .i64 (i2 + 1)) (by kernel_rfl) (Y_eq (v := .int .i64 (w64 (i2 + 1))) (Y_pure (fun w => by kernel_rfl)) (by rw [w64_eq _ (by omega)])) ?_
            refine QRun_b [.int .i64 (i2 + 1)] 2 _ (by kernel_rfl) (fun w => by kernel_rfl) ?_
            exact QRun_done [0, 1, 5, 6, 7, 8] (by kernel_rfl) (by kernel_rfl)
          have H12 : Hold h h8 [own cd41 a2 s1.length c1 s1, own cd2 a8 l1.length c5 l1] := H11.pick [1, 0] (by kernel_rfl)
          have hB2 := M.ret_some hB2
          have gx2 := hgoy2 _ hB2.symm
          exact Run_again [0, 1, 5, 6, 7, 8] (by kernel_rfl) my2 (Nat.lt_succ_self _) ⟨i2 + 1, l1, a8, c5, by omega, gx2, rfl, H12⟩
        · have gx2 := M.for_end gx2 hb2
          subst gx2
          refine Run_exit (k' := _) rfl ?_
          have H13 : Hold h h5 [own cd2 a5 s2.length c3 s2, own cd41 a2 s1.length c1 s1] := H5.pick [1, 0] (by kernel_rfl)
          have H14 : Hold h h5 [own cd41 a2 s1.length c1 s1, own cd2 a5 s2.length c3 s2] := H13.pick [1, 0] (by kernel_rfl)
          exact Run_fall [0, 1, 5, 6, 7] (by kernel_rfl) ⟨a5, c3, rfl, H14⟩
    · have gx1 := M.for_end gx1 hb1
      subst gx1
      refine Run_exit (k' := _) rfl ?_
      exact Run_fall [5] (by kernel_rfl) ⟨a2, c1, rfl, H2⟩

set_option maxRecDepth 100000 in
set_option maxHeartbeats 4000000 in
theorem w_spec_l12Free (h : Heap) (g : TGraph) (agPlaces : Option Addr) (cgPlaces : Nat) (rgPlaces : Rd cd50 h (Lt h) agPlaces cgPlaces g.Places) (n : Nat) (r : (List (List Int))) (hF : spec_l12Free g n = some r) :
    Fn Try.prog 35 #[.agg #[.int .i64 g.Events, .slice agPlaces g.Places.length cgPlaces]] h fun v h' => ∃ (a0 : Option Addr) (c0 : Nat), v = .slice a0 r.length c0 ∧ Hold h h' [own cd41 a0 r.length c0 r] := by
  unfold spec_l12Free at hF
  refine Fn_enter (args := [.agg #[.int .i64 g.Events, .slice agPlaces g.Places.length cgPlaces]]) Try.func35 rfl (by kernel_rfl) (by kernel_rfl) (fun w0 _ => ?_)
  have H0 := Hold.init h
  refine Run_seq ?_
  refine Run_ops ?_
  refine Run_E (by kernel_rfl) ?_
  refine E_box (ty := 30) (cs := [.int .i64 g.Events, .slice agPlaces g.Places.length cgPlaces]) H0 (fun w => by kernel_rfl) (fun b1 h1 H1 => ?_)
  refine Run_b [.slice none 0 0] 1 _ (by kernel_rfl) (fun w => by kernel_rfl) ?_
  refine Run_nil (by kernel_rfl) ?_
  refine Run_keep [1] (L' := [(1, .pointer (some ⟨b1, 0, none⟩))]) (by kernel_rfl) ?_
  refine Run_seq ?_
  refine Run_ops ?_
  refine Run_b [.pointer (some ⟨b1, 0, none⟩)] 0 _ (by kernel_rfl) (fun w => by kernel_rfl) ?_
  refine Run_y (.int .i64 g.Events) (by kernel_rfl) (Y_load1 (t := 2) (p := ⟨b1, 0, none⟩) (v := .int .i64 g.Events) (by kernel_rfl) (fun w => by kernel_rfl) (H1.cell 0 rfl rfl)) ?_
  refine Run_b [.pointer (some ⟨b1, 0, none⟩)] 2 _ (by kernel_rfl) (fun w => by kernel_rfl) ?_
  refine Run_y (.int .i64 g.Events) (by kernel_rfl) (Y_load1 (t := 2) (p := ⟨b1, 0, none⟩) (v := .int .i64 g.Events) (by kernel_rfl) (fun w => by kernel_rfl) (H1.cell 0 rfl rfl)) ?_
  obtain ⟨x1, hx1, hF⟩ := M.bind_some hF
  refine Run_E (by kernel_rfl) ?_
  refine E_call (f := 51) (args := #[.int .i64 g.Events, .int .i64 g.Events]) (w_spec_l02Bottom h1 g.Events g.Events _ _ hx1) (by kernel_rfl) (fun v1 h2 hp1 => ?_)
  obtain ⟨a1, c1, rfl, H2⟩ := hp1
  have H3 : Hold h h2 [own cd41 a1 x1.length c1 x1, box b1 30 [.int .i64 g.Events, .slice agPlaces g.Places.length cgPlaces]] := H1.call H2 rfl
  refine Run_b [.slice a1 x1.length c1] 5 _ (by kernel_rfl) (fun w => by kernel_rfl) ?_
  refine Run_nil (by kernel_rfl) ?_
  refine Run_keep [1, 3] (L' := [(1, .pointer (some ⟨b1, 0, none⟩)), (3, .slice a1 x1.length c1)]) (by kernel_rfl) ?_
  refine Run_seq ?_
  refine Run_seq ?_
  refine Run_reg 1 (by kernel_rfl) (L' := [(1, .pointer (some ⟨b1, 0, none⟩)), (3, .slice a1 x1.length c1), (4, .int .i64 0)]) ?_ ?_
  · refine QRun_b [.int .i64 0] 0 _ (by kernel_rfl) (fun w => by kernel_rfl) ?_
    exact QRun_done [1, 3, 4] (by kernel_rfl) (by kernel_rfl)
  obtain ⟨x2, gx2, hF⟩ := M.bind_some hF
  refine Run_join (fun L' h' => L' = [(3, .slice a1 x1.length c1)] ∧ Hold h h' [own cd41 a1 x1.length c1 x2.1]) ?_ ?_
  · rintro _ h4 ⟨rfl, H5⟩
    refine Run_seq ?_
    refine Run_reg 2 (by kernel_rfl) (L' := [(2, .slice a1 x1.length c1)]) ?_ ?_
    · refine QRun_b [.slice a1 x1.length c1, .slice a1 x1.length c1] 0 _ (by kernel_rfl) (fun w => by kernel_rfl) ?_
      exact QRun_done [2] (by kernel_rfl) (by kernel_rfl)
    have hF := M.ret_some hF
    subst hF
    have H18 := H5.norm
    exact Run_ret1 rfl (ResV_tmp (v := .slice a1 x1.length c1) (by kernel_rfl)) ⟨a1, c1, (by simp only [(H5.len 0 rfl)]), H18⟩
  · refine Run_block ?_
    have H19 : Hold h h2 [box b1 30 [.int .i64 g.Events, .slice agPlaces g.Places.length cgPlaces], own cd41 a1 x1.length c1 x1] := H3.pick [1, 0] (by kernel_rfl)
    refine Run_keep [1, 3, 4] (L' := [(1, .pointer (some ⟨b1, 0, none⟩)), (3, .slice a1 x1.length c1), (4, .int .i64 0)]) (by kernel_rfl) ?_
    refine Run_loop (fun m L' h' => ∃ (s1 : (List (List Int)) × Int), M.loopN _ n m s1 = some x2 ∧ L' = [(1, .pointer (some ⟨b1, 0, none⟩)), (3, .slice a1 x1.length c1), (4, .int .i64 s1.2)] ∧ Hold h h' [box b1 30 [.int .i64 g.Events, .slice agPlaces g.Places.length cgPlaces], own cd41 a1 x1.length c1 s1.1]) n ⟨(x1, 0), gx2, rfl, H19⟩ ?_
    rintro my1 _ h3 ⟨s1, gx2, rfl, H4⟩
    obtain ⟨my1, y1, rfl, hB1, hgoy1, houty1⟩ := M.loop_some gx2
    refine Run_seq ?_
    refine Run_seq ?_
    refine Run_reg 5 (by kernel_rfl) (L' := [(1, .pointer (some ⟨b1, 0, none⟩)), (3, .slice a1 x1.length c1), (4, .int .i64 s1.2), (14, .bool (decide (s1.2 < (g.Places.length : Int))))]) ?_ ?_
    · refine QRun_b [.int .i64 s1.2, .pointer (some ⟨b1, 1, none⟩)] 0 _ (by kernel_rfl) (fun w => by kernel_rfl) ?_
      refine QRun_y (.slice agPlaces g.Places.length cgPlaces) (by kernel_rfl) (Y_load1 (t := 28) (p := ⟨b1, 1, none⟩) (v := .slice agPlaces g.Places.length cgPlaces) (by kernel_rfl) (fun w => by kernel_rfl) (H4.cell 0 rfl rfl)) ?_
      refine QRun_b [.int .i64 (g.Places.length : Int), .bool (decide (s1.2 < (g.Places.length : Int)))] 3 _ (by kernel_rfl) (fun w => by kernel_rfl) ?_
      exact QRun_done [1, 3, 4, 14] (by kernel_rfl) (by kernel_rfl)
    refine Run_cond (b := decide (s1.2 < (g.Places.length : Int))) (by kernel_rfl) (fun hb1 => ?_) (fun hb1 => ?_)
    · have hB1 := (M.ite_some hB1).1 hb1
      refine Run_skip ?_
      refine Run_seq ?_
      refine Run_block ?_
      refine Run_seq ?_
      obtain ⟨x3, hx2, hB1⟩ := M.bind_some hB1
      obtain ⟨hx2l, hx2u, hx2⟩ := M.idx_some hx2
      refine Run_reg 7 (by kernel_rfl) (L' := [(1, .pointer (some ⟨b1, 0, none⟩)), (3, .slice a1 x1.length c1), (4, .int .i64 s1.2), (23, .bool (x3.Tokens == 0))]) ?_ ?_
      · refine QRun_b [.pointer (some ⟨b1, 1, none⟩)] 0 _ (by kernel_rfl) (fun w => by kernel_rfl) ?_
        refine QRun_y (.slice agPlaces g.Places.length cgPlaces) (by kernel_rfl) (Y_load1 (t := 28) (p := ⟨b1, 1, none⟩) (v := .slice agPlaces g.Places.length cgPlaces) (by kernel_rfl) (fun w => by kernel_rfl) (H4.cell 0 rfl rfl)) ?_
        refine QRun_b [.int .i64 s1.2] 2 _ (by kernel_rfl) (fun w => by kernel_rfl) ?_
        refine QRun_y (.pointer (some (adr agPlaces (s1.2.toNat * 4)))) (by kernel_rfl) (Y_idx (t := 28) (e := 50) (sz := 4) (a := agPlaces) (n := g.Places.length) (cap := cgPlaces) (kk := .i64) (i := s1.2) (by kernel_rfl) Try.underlying28 (by kernel_rfl) ((rgPlaces.at H4.ext).cell hx2).1 hx2l hx2u) ?_
        refine QRun_b [.pointer (some ((adr agPlaces (s1.2.toNat * 4)).add 3))] 4 _ (by kernel_rfl) (fun w => by kernel_rfl) ?_
        refine QRun_y (.int .i64 x3.Tokens) (by kernel_rfl) (Y_load1 (t := 2) (p := (adr agPlaces (s1.2.toNat * 4)).add 3) (v := .int .i64 x3.Tokens) (by kernel_rfl) (fun w => by kernel_rfl) (cd50_f3 (rgPlaces.at H4.ext) hx2)) ?_
        refine QRun_b [.bool (x3.Tokens == 0)] 6 _ (by kernel_rfl) (fun w => by kernel_rfl) ?_
        exact QRun_done [1, 3, 4, 23] (by kernel_rfl) (by kernel_rfl)
      obtain ⟨s2, gs2, hB1⟩ := M.bind_some hB1
      refine Run_join (fun L' h' => L' = [(1, .pointer (some ⟨b1, 0, none⟩)), (3, .slice a1 x1.length c1), (4, .int .i64 s1.2)] ∧ Hold h h' [box b1 30 [.int .i64 g.Events, .slice agPlaces g.Places.length cgPlaces], own cd41 a1 x1.length c1 s2]) ?_ ?_
      · rintro _ h7 ⟨rfl, H14⟩
        refine Run_blk ?_
        refine Run_reg 3 (by kernel_rfl) (L' := [(1, .pointer (some ⟨b1, 0, none⟩)), (3, .slice a1 x1.length c1), (4, .int .i64 (w64 (s1.2 + 1)))]) ?_ ?_
        · refine QRun_b [.int .i64 s1.2, .int .i64 (w64 (s1.2 + 1)), .int .i64 (w64 (s1.2 + 1))] 0 _ (by kernel_rfl) (fun w => by kernel_rfl) ?_
          exact QRun_done [1, 3, 4] (by kernel_rfl) (by kernel_rfl)
        have hB1 := M.ret_some hB1
        have gx2 := hgoy1 _ hB1.symm
        exact Run_again [1, 3, 4] (by kernel_rfl) my1 (Nat.lt_succ_self _) ⟨(s2, (w64 (s1.2 + 1))), gx2, rfl, H14⟩
      · refine Run_cond (b := x3.Tokens == 0) (by kernel_rfl) (fun hb2 => ?_) (fun hb2 => ?_)
        · have gs2 := (M.ite_some gs2).1 hb2
          obtain ⟨x4, hx3, gs2⟩ := M.bind_some gs2
          obtain ⟨hx3l, hx3u, hx3⟩ := M.idx_some hx3
          obtain ⟨x5, hx4, gs2⟩ := M.bind_some gs2
          obtain ⟨hx4l, hx4u, hx4⟩ := M.idx_some hx4
          have H6 : Hold h h3 [own cd41 a1 x1.length c1 s1.1, box b1 30 [.int .i64 g.Events, .slice agPlaces g.Places.length cgPlaces]] := H4.pick [1, 0] (by kernel_rfl)
          have H7 := H6.toRows
          obtain ⟨a2, c2, H8⟩ := H7.pinRow hx4
          have H9 : Hold h h3 [box b1 30 [.int .i64 g.Events, .slice agPlaces g.Places.length cgPlaces], rowsP cd2 41 a1 x1.length c1 s1.1 [(x4.To.toNat, a2, x5.length, c2, x5)]] := H8.pick [1, 0] (by kernel_rfl)
          obtain ⟨x6, hx5, gs2⟩ := M.bind_some gs2
          obtain ⟨hx5l, hx5u, hx5⟩ := M.idx_some hx5
          obtain ⟨x7, hx6, gs2⟩ := M.bind_some gs2
          obtain ⟨hx6l, hx6u, hx6⟩ := M.idx_some hx6
          refine Run_D (fun x => Hold h x [box b1 30 [.int .i64 g.Events, .slice agPlaces g.Places.length cgPlaces], rowsP cd2 41 a1 x1.length c1 s1.1 [(x4.To.toNat, a2, x5.length, c2, x5)]]) (fun x => Hold h x [box b1 30 [.int .i64 g.Events, .slice agPlaces g.Places.length cgPlaces], rowsP cd2 41 a1 x1.length c1 s1.1 [(x4.To.toNat, a2, x5.length, c2, x5)]]) mixed (by kernel_rfl) H9 Hold.stable (fun x Hy => (show Hold h x [box b1 30 [.int .i64 g.Events, .slice agPlaces g.Places.length cgPlaces], rowsP cd2 41 a1 x1.length c1 s1.1 [(x4.To.toNat, a2, x5.length, c2, x5)]] from Hy).pick [0, 1] (by kernel_rfl)) ?_
          refine DR_b 15 [.slice a1 x1.length c1, .pointer (some ⟨b1, 1, none⟩)] 0 (by kernel_rfl) (by kernel_rfl) (by kernel_rfl) (fun w => by kernel_rfl) ?_
          refine DR_y 14 (i := 2) (.slice agPlaces g.Places.length cgPlaces) (by kernel_rfl) (by kernel_rfl) (by kernel_rfl) (fun hx Hx => (YE.of (Y_load1 (t := 28) (p := ⟨b1, 1, none⟩) (v := .slice agPlaces g.Places.length cgPlaces) (by kernel_rfl) (fun w => by kernel_rfl) (Hx.cell 0 rfl rfl)))) ?_
          refine DR_b 13 [.int .i64 s1.2] 3 (by kernel_rfl) (by kernel_rfl) (by kernel_rfl) (fun w => by kernel_rfl) ?_
          refine DR_y 12 (i := 4) (.pointer (some (adr agPlaces (s1.2.toNat * 4)))) (by kernel_rfl) (by kernel_rfl) (by kernel_rfl) (fun hx Hx => (YE.of (Y_idx (t := 28) (e := 50) (sz := 4) (a := agPlaces) (n := g.Places.length) (cap := cgPlaces) (kk := .i64) (i := s1.2) (by kernel_rfl) Try.underlying28 (by kernel_rfl) ((rgPlaces.at H4.ext).cell hx3).1 hx3l hx3u))) ?_
          refine DR_b 11 [.pointer (some ((adr agPlaces (s1.2.toNat * 4)).add 1))] 5 (by kernel_rfl) (by kernel_rfl) (by kernel_rfl) (fun w => by kernel_rfl) ?_
          refine DR_y 10 (i := 6) (.int .i64 x4.To) (by kernel_rfl) (by kernel_rfl) (by kernel_rfl) (fun hx Hx => (YE.of (Y_load1 (t := 2) (p := (adr agPlaces (s1.2.toNat * 4)).add 1) (v := .int .i64 x4.To) (by kernel_rfl) (fun w => by kernel_rfl) (cd50_f1 (rgPlaces.at Hx.ext) hx3)))) ?_
          refine DR_y 9 (i := 7) (.pointer (some (adr a1 (x4.To.toNat * 1)))) (by kernel_rfl) (by kernel_rfl) (by kernel_rfl) (fun hx Hx => (YE.of (Y_idx (t := 55) (e := 41) (sz := 1) (a := a1) (n := x1.length) (cap := c1) (kk := .i64) (i := x4.To) (by kernel_rfl) Try.underlying55 (by kernel_rfl) ((H4.rd 1 rfl).cell hx4).1 hx4l (by rw [← (H4.len 1 rfl)]; exact hx4u)))) ?_
          refine DR_y 8 (i := 8) (.slice a2 x5.length c2) (by kernel_rfl) (by kernel_rfl) (by kernel_rfl) (fun hx Hx => (YE.of (Y_load1 (t := 41) (p := adr a1 (x4.To.toNat * 1)) (v := .slice a2 x5.length c2) (by kernel_rfl) (fun w => by kernel_rfl) (Hx.cellPin 1 rfl 0 rfl)))) ?_
          refine DR_b 7 [.pointer (some ⟨b1, 1, none⟩)] 9 (by kernel_rfl) (by kernel_rfl) (by kernel_rfl) (fun w => by kernel_rfl) ?_
          refine DR_y 6 (i := 10) (.slice agPlaces g.Places.length cgPlaces) (by kernel_rfl) (by kernel_rfl) (by kernel_rfl) (fun hx Hx => (YE.of (Y_load1 (t := 28) (p := ⟨b1, 1, none⟩) (v := .slice agPlaces g.Places.length cgPlaces) (by kernel_rfl) (fun w => by kernel_rfl) (Hx.cell 0 rfl rfl)))) ?_
          refine DR_b 5 [.int .i64 s1.2] 11 (by kernel_rfl) (by kernel_rfl) (by kernel_rfl) (fun w => by kernel_rfl) ?_
          refine DR_y 4 (i := 12) (.pointer (some (adr agPlaces (s1.2.toNat * 4)))) (by kernel_rfl) (by kernel_rfl) (by kernel_rfl) (fun hx Hx => (YE.of (Y_idx (t := 28) (e := 50) (sz := 4) (a := agPlaces) (n := g.Places.length) (cap := cgPlaces) (kk := .i64) (i := s1.2) (by kernel_rfl) Try.underlying28 (by kernel_rfl) ((rgPlaces.at H9.ext).cell hx5).1 hx5l hx5u))) ?_
          refine DR_b 3 [.pointer (some ((adr agPlaces (s1.2.toNat * 4)).add 0))] 13 (by kernel_rfl) (by kernel_rfl) (by kernel_rfl) (fun w => by kernel_rfl) ?_
          refine DR_y 2 (i := 14) (.int .i64 x6.From) (by kernel_rfl) (by kernel_rfl) (by kernel_rfl) (fun hx Hx => (YE.of (Y_load1 (t := 2) (p := (adr agPlaces (s1.2.toNat * 4)).add 0) (v := .int .i64 x6.From) (by kernel_rfl) (fun w => by kernel_rfl) (cd50_f0 (rgPlaces.at Hx.ext) hx5)))) ?_
          refine DR_y 1 (i := 15) (.pointer (some (adr a2 (x6.From.toNat * 1)))) (by kernel_rfl) (by kernel_rfl) (by kernel_rfl) (fun hx Hx => (YE.of (Y_idx (t := 41) (e := 2) (sz := 1) (a := a2) (n := x5.length) (cap := c2) (kk := .i64) (i := x6.From) (by kernel_rfl) Try.underlying41 (by kernel_rfl) ((H9.rdPin 1 rfl 0 rfl).cell hx6).1 hx6l hx6u))) ?_
          refine DR_tail (i := 16) (by kernel_rfl) (by kernel_rfl) (by kernel_rfl) (fun h5 H10 => ?_)
          have H11 : Hold h h5 [box b1 30 [.int .i64 g.Events, .slice agPlaces g.Places.length cgPlaces], rowsP cd2 41 a1 x1.length c1 s1.1 [(x4.To.toNat, a2, x5.length, c2, x5)]] := H10
          obtain ⟨l1, hu1, gs2⟩ := M.bind_some gs2
          have hu1 := M.upd_some hu1
          have H13 : Hold h h5 [rowsP cd2 41 a1 x1.length c1 s1.1 [(x4.To.toNat, a2, x5.length, c2, x5)], box b1 30 [.int .i64 g.Events, .slice agPlaces g.Places.length cgPlaces]] := H11.pick [1, 0] (by kernel_rfl)
          refine Run_E (by kernel_rfl) ?_
          refine E_put2 (C := cd2) (t := 2) (sz := 1) (j := x6.From) (x := 0) (v := .int .i64 0) (m2 := s1.1.set x4.To.toNat l1) H13 cd2_flat 0 rfl (by kernel_rfl) rfl (cd2_own _) (by kernel_rfl) hu1 rfl (fun h6 H12 => ?_)
          refine Run_nil (by kernel_rfl) ?_
          refine Run_keep [1, 3, 4] (L' := [(1, .pointer (some ⟨b1, 0, none⟩)), (3, .slice a1 x1.length c1), (4, .int .i64 s1.2)]) (by kernel_rfl) ?_
          have H15 := H12.ofRows
          have H16 : Hold h h6 [box b1 30 [.int .i64 g.Events, .slice agPlaces g.Places.length cgPlaces], own cd41 a1 x1.length c1 (s1.1.set x4.To.toNat l1)] := H15.pick [1, 0] (by kernel_rfl)
          have gs2 := M.ret_some gs2
          subst gs2
          exact Run_fall [1, 3, 4] (by kernel_rfl) ⟨rfl, H16⟩
        · have gs2 := (M.ite_some gs2).2 hb2
          refine Run_skip ?_
          have gs2 := M.ret_some gs2
          subst gs2
          exact Run_fall [1, 3, 4] (by kernel_rfl) ⟨rfl, H4⟩
    · have hB1 := (M.ite_some hB1).2 hb1
      refine Run_exit (k' := _) rfl ?_
      have H17 : Hold h h3 [own cd41 a1 x1.length c1 s1.1] := H4.pick [1] (by kernel_rfl)
      have hB1 := M.ret_some hB1
      have gx2 := houty1 _ hB1.symm
      subst gx2
      exact Run_fall [3] (by kernel_rfl) ⟨rfl, H17⟩

set_option maxRecDepth 100000 in
set_option maxHeartbeats 4000000 in
theorem w_spec_l01Has (h : Heap) (list : List Int) {Slist : Bs} (alist : Option Addr) (clist : Nat) (rlist : Rd cd2 h Slist alist clist list) (x_ : Int) (n : Nat) (r : Bool) (hF : spec_l01Has list x_ n = some r) :
    Fn Try.prog 59 #[.slice alist list.length clist, .int .i64 x_] h fun v h' => v = .bool r ∧ h' = h := by
  unfold spec_l01Has at hF
  refine Fn_enter (args := [.slice alist list.length clist, .int .i64 x_]) Try.func59 rfl (by kernel_rfl) (by kernel_rfl) (fun w0 _ => ?_)
  refine Run_seq ?_
  refine Run_reg 1 (by kernel_rfl) (L' := [(0, .slice alist list.length clist), (1, .int .i64 x_)]) ?_ ?_
  · refine QRun_b [.bool false] 0 _ (by kernel_rfl) (fun w => by kernel_rfl) ?_
    exact QRun_done [0, 1] (by kernel_rfl) (by kernel_rfl)
  refine Run_seq ?_
  refine Run_seq ?_
  refine Run_reg 1 (by kernel_rfl) (L' := [(0, .slice alist list.length clist), (1, .int .i64 x_), (5, .int .i64 0)]) ?_ ?_
  · refine QRun_b [.int .i64 0] 0 _ (by kernel_rfl) (fun w => by kernel_rfl) ?_
    exact QRun_done [0, 1, 5] (by kernel_rfl) (by kernel_rfl)
  obtain ⟨x1, gx1, hF⟩ := M.bind_some hF
  obtain ⟨hloy1, hhiy1, gx1⟩ := M.for_start gx1
  refine Run_join (fun L' h' => ∃ (s2 : Unit), x1 = .inl s2 ∧ L' = [] ∧ h = h') ?_ ?_
  · rintro _ _ ⟨s2, es2, rfl, rfl⟩
    have hF := M.cont_inl' hF es2
    refine Run_seq ?_
    refine Run_reg 1 (by kernel_rfl) (L' := [(4, .bool false)]) ?_ ?_
    · refine QRun_b [.bool false] 0 _ (by kernel_rfl) (fun w => by kernel_rfl) ?_
      exact QRun_done [4] (by kernel_rfl) (by kernel_rfl)
    have hF := M.ret_some hF
    subst hF
    exact Run_ret1 rfl (ResV_tmp (v := .bool false) (by kernel_rfl)) ⟨rfl, rfl⟩
  · refine Run_block ?_
    refine Run_keep [0, 1, 5] (L' := [(0, .slice alist list.length clist), (1, .int .i64 x_), (5, .int .i64 0)]) (by kernel_rfl) ?_
    refine Run_loop (fun m L' h' => ∃ (i1 : Int) (s1 : Unit), 0 ≤ i1 ∧ M.forN (list.length : Int) _ _ n m i1 s1 = some x1 ∧ L' = [(0, .slice alist list.length clist), (1, .int .i64 x_), (5, .int .i64 i1)] ∧ h = h') ((list.length : Int) - 0 : Int).toNat ⟨0, (), Int.le_refl _, gx1, rfl, rfl⟩ ?_
    rintro my1 _ _ ⟨i1, s1, hloy1', gx1, rfl, rfl⟩
    refine Run_seq ?_
    refine Run_seq ?_
    refine Run_reg 4 (by kernel_rfl) (L' := [(0, .slice alist list.length clist), (1, .int .i64 x_), (5, .int .i64 i1), (9, .bool (decide (i1 < (list.length : Int))))]) ?_ ?_
    · refine QRun_b [.int .i64 i1, .slice alist list.length clist, .int .i64 (list.length : Int), .bool (decide (i1 < (list.length : Int)))] 0 _ (by kernel_rfl) (fun w => by kernel_rfl) ?_
      exact QRun_done [0, 1, 5, 9] (by kernel_rfl) (by kernel_rfl)
    refine Run_cond (b := decide (i1 < (list.length : Int))) (by kernel_rfl) (fun hb1 => ?_) (fun hb1 => ?_)
    · obtain ⟨my1, y1, rfl, hB1, hgoy1, houty1⟩ := M.for_go gx1 hb1
      have hlty1 := of_decide_eq_true hb1
      refine Run_skip ?_
      refine Run_seq ?_
      refine Run_block ?_
      refine Run_seq ?_
      obtain ⟨x2, hx1, hB1⟩ := M.bind_some hB1
      obtain ⟨hx1l, hx1u, hx1⟩ := M.idx_some hx1
      refine Run_reg 6 (by kernel_rfl) (L' := [(0, .slice alist list.length clist), (1, .int .i64 x_), (5, .int .i64 i1), (17, .bool (x2 == x_))]) ?_ ?_
      · refine QRun_b [.slice alist list.length clist, .int .i64 i1] 0 _ (by kernel_rfl) (fun w => by kernel_rfl) ?_
        refine QRun_y (.pointer (some (adr alist (i1.toNat * 1)))) (by kernel_rfl) (Y_idx (t := 41) (e := 2) (sz := 1) (a := alist) (n := list.length) (cap := clist) (kk := .i64) (i := i1) (by kernel_rfl) Try.underlying41 (by kernel_rfl) (rlist.cell hx1).1 hx1l hx1u) ?_
        refine QRun_y (.int .i64 x2) (by kernel_rfl) (Y_load1 (t := 2) (p := adr alist (i1.toNat * 1)) (v := .int .i64 x2) (by kernel_rfl) (fun w => by kernel_rfl) (cd2_cell rlist hx1)) ?_
        refine QRun_b [.int .i64 x_, .bool (x2 == x_)] 4 _ (by kernel_rfl) (fun w => by kernel_rfl) ?_
        exact QRun_done [0, 1, 5, 17] (by kernel_rfl) (by kernel_rfl)
      refine Run_cond (b := x2 == x_) (by kernel_rfl) (fun hb2 => ?_) (fun hb2 => ?_)
      · have hB1 := (M.ite_some hB1).1 hb2
        refine Run_seq ?_
        refine Run_reg 1 (by kernel_rfl) (L' := [(4, .bool true)]) ?_ ?_
        · refine QRun_b [.bool true] 0 _ (by kernel_rfl) (fun w => by kernel_rfl) ?_
          exact QRun_done [4] (by kernel_rfl) (by kernel_rfl)
        have hB1 := M.ret_some hB1
        have gx1 := houty1 _ hB1.symm
        have hF := M.cont_inr' hF gx1
        have hF := M.ret_some hF
        subst hF
        exact Run_ret1 rfl (ResV_tmp (v := .bool true) (by kernel_rfl)) ⟨rfl, rfl⟩
      · have hB1 := (M.ite_some hB1).2 hb2
        refine Run_skip ?_
        refine Run_blk ?_
        refine Run_reg 3 (by kernel_rfl) (L' := [(0, .slice alist list.length clist), (1, .int .i64 x_), (5, .int .i64 (i1 + 1))]) ?_ ?_
        · refine QRun_b [.int .i64 i1] 0 _ (by kernel_rfl) (fun w => by kernel_rfl) ?_
          refine QRun_y (.int .i64 (i1 + 1)) (by kernel_rfl) (Y_eq (v := .int .i64 (w64 (i1 + 1))) (Y_pure (fun w => by kernel_rfl)) (by rw [w64_eq _ (by omega)])) ?_
          refine QRun_b [.int .i64 (i1 + 1)] 2 _ (by kernel_rfl) (fun w => by kernel_rfl) ?_
          exact QRun_done [0, 1, 5] (by kernel_rfl) (by kernel_rfl)
        have hB1 := M.ret_some hB1
        have gx1 := hgoy1 _ hB1.symm
        exact Run_again [0, 1, 5] (by kernel_rfl) my1 (Nat.lt_succ_self _) ⟨i1 + 1, (), by omega, gx1, rfl, rfl⟩
    · have gx1 := M.for_end gx1 hb1
      subst gx1
      refine Run_exit (k' := _) rfl ?_
      exact Run_fall [] (by kernel_rfl) ⟨(), rfl, rfl, rfl⟩

set_option maxRecDepth 100000 in
set_option maxHeartbeats 4000000 in
theorem w_spec_l01Own (h : Heap) (list : List Int) (alist : Option Addr) (clist : Nat) (rlist : Rd cd2 h (Lt h) alist clist list) (n : Nat) (r : (List Int)) (hF : spec_l01Own list n = some r) :
    Fn Try.prog 60 #[.slice alist list.length clist] h fun v h' => ∃ (a0 : Option Addr) (c0 : Nat), v = .slice a0 r.length c0 ∧ Hold h h' [own cd2 a0 r.length c0 r] := by
  unfold spec_l01Own at hF
  refine Fn_enter (args := [.slice alist list.length clist]) Try.func60 rfl (by kernel_rfl) (by kernel_rfl) (fun w0 _ => ?_)
  have H0 := Hold.init h
  refine Run_seq ?_
  refine Run_reg 1 (by kernel_rfl) (L' := [(0, .slice alist list.length clist)]) ?_ ?_
  · refine QRun_b [.slice none 0 0] 0 _ (by kernel_rfl) (fun w => by kernel_rfl) ?_
    exact QRun_done [0] (by kernel_rfl) (by kernel_rfl)
  refine Run_seq ?_
  refine Run_ops ?_
  refine Run_E (by kernel_rfl) ?_
  refine E_lit (C := cd2) (n := 0) (l := ([] : List Int)) (cs := []) H0 (fun w => by kernel_rfl) (Enc.nil _ _) rfl (by decide) (fun a1 h1 H1 => ?_)
  refine Run_b [.slice alist list.length clist] 1 _ (by kernel_rfl) (fun w => by kernel_rfl) ?_
  obtain ⟨l1, hl1, hF⟩ := M.bind_some hF
  have hl1 := M.app_some hl1
  refine Run_E (by kernel_rfl) ?_
  refine E_appR (C := cd2) (t := 41) (ty := 41) (n := 0) (m := list.length) H1 cd2_copies (rlist.at H1.ext) rfl cd2_ti rfl Try.underlying41 (by decide) (by kernel_rfl) hl1 (fun a2 c1 h2 H2 => ?_)
  refine Run_b [.slice a2 l1.length c1] 3 _ (by kernel_rfl) (fun w => by kernel_rfl) ?_
  refine Run_nil (by kernel_rfl) ?_
  refine Run_keep [2] (L' := [(2, .slice a2 l1.length c1)]) (by kernel_rfl) ?_
  have hF := M.ret_some hF
  subst hF
  exact Run_ret1 rfl (ResV_tmp (v := .slice a2 l1.length c1) (by kernel_rfl)) ⟨a2, c1, rfl, H2⟩

set_option maxRecDepth 100000 in
set_option maxHeartbeats 4000000 in
theorem w_spec_l03Grow_R (kR : Nat) : ∀ (h hE : Heap) (it : Item) (a_ : List (List Int)) (aa_ : Option Addr) (ca_ : Nat) (ra_ : Rd cd41 h (Lt h) aa_ ca_ a_) (path : List Int) (apath : Option Addr) (cpath : Nat) (weight : Int) (over : Int) (HM : Hold h hE [own cd2 apath path.length cpath path, it]) (n : Nat) (r : (List Int)) (hF : spec_l03Grow_R kR a_ path weight over n = some r),
    Fn Try.prog 50 #[.slice aa_ a_.length ca_, .slice apath path.length cpath, .int .i64 weight, .int .i64 over] hE fun v h' => ∃ (a0 : Option Addr) (c0 : Nat), v = .slice a0 r.length c0 ∧ Hold h h' [own cd2 a0 r.length c0 r, it] := by
  induction kR with
  | zero => intros; rename_i hF; cases hF
  | succ kR ih =>
    intro h hE it a_ aa_ ca_ ra_ path apath cpath weight over HM n r hF
    rw [show spec_l03Grow_R (kR + 1) a_ path weight over = (M.bind (M.idx path 0) (fun x1 => M.bind (M.idx path (w64 ((path.length : Int) - 1))) (fun x2 => M.bind (M.idx a_ x1) (fun x3 => M.bind (M.idx x3 x2) (fun x4 => M.bind (M.ite (x4 != (-1000000000000000)) (M.bind (M.idx a_ x1) (fun x6 => M.bind (M.idx x6 x2) (fun x7 => M.ret (decide (over < (w64 (weight + x7))))))) (M.ret false)) (fun x5 => M.ite x5 (M.ret path) (M.bind (M.forI (w64 (x1 + 1)) (a_.length : Int) (fun s => .inl s) (fun i1 => (fun (_ : Unit) => M.bind (M.idx a_ i1) (fun x9 => M.bind (M.idx x9 x2) (fun x10 => M.bind (M.ite (x10 == (-1000000000000000)) (M.ret true) (M.bind (spec_l01Has path i1) (fun x12 => M.ret x12))) (fun x11 => M.ite x11 (M.ret (.inl ())) (M.bind (M.bind (M.idx a_ i1) (fun x15 => M.bind (M.idx x15 x2) (fun x16 => M.bind (spec_l01Own path) (fun x17 => M.bind (M.app x17 ([i1] : List Int)) (fun l1 => M.bind (spec_l03Grow_R kR a_ l1 (w64 (weight + x16)) over) (fun x18 => M.ret x18)))))) (fun (s3 : (List Int)) => M.ite (decide (0 < (s3.length : Int))) (M.ret (.inr (.inr s3))) (M.ret (.inl ()))))))))) ()) (fun x8 => M.cont x8 (fun _ => M.ret ([] : List Int)) (fun r => M.ret r))))))))) from rfl] at hF
    refine Fn_enter (args := [.slice aa_ a_.length ca_, .slice apath path.length cpath, .int .i64 weight, .int .i64 over]) Try.func50 rfl (by kernel_rfl) (by kernel_rfl) (fun w0 _ => ?_)
    refine Run_seq ?_
    refine Run_reg 1 (by kernel_rfl) (L' := [(0, .slice aa_ a_.length ca_), (1, .slice apath path.length cpath), (2, .int .i64 weight), (3, .int .i64 over)]) ?_ ?_
    · refine QRun_b [.slice none 0 0] 0 _ (by kernel_rfl) (fun w => by kernel_rfl) ?_
      exact QRun_done [0, 1, 2, 3] (by kernel_rfl) (by kernel_rfl)
    refine Run_seq ?_
    obtain ⟨x1, hx1, hF⟩ := M.bind_some hF
    obtain ⟨hx1l, hx1u, hx1⟩ := M.idx_some hx1
    obtain ⟨x2, hx2, hF⟩ := M.bind_some hF
    obtain ⟨hx2l, hx2u, hx2⟩ := M.idx_some hx2
    refine Run_draw 11 mixed (by kernel_rfl) (by kernel_rfl) (L' := [(0, .slice aa_ a_.length ca_), (1, .slice apath path.length cpath), (2, .int .i64 weight), (3, .int .i64 over), (9, .int .i64 x1), (10, .int .i64 x2)]) ?_ ?_
    · refine QRun_b [.slice apath path.length cpath] 0 _ (by kernel_rfl) (fun w => by kernel_rfl) ?_
      refine QRun_y (.pointer (some (adr apath (0 * 1)))) (by kernel_rfl) (Y_idx (t := 41) (e := 2) (sz := 1) (a := apath) (n := path.length) (cap := cpath) (kk := .i64) (i := 0) (by kernel_rfl) Try.underlying41 (by kernel_rfl) ((HM.rd 0 rfl).cell hx1).1 hx1l hx1u) ?_
      refine QRun_y (.int .i64 x1) (by kernel_rfl) (Y_load1 (t := 2) (p := adr apath (0 * 1)) (v := .int .i64 x1) (by kernel_rfl) (fun w => by kernel_rfl) (cd2_cell (HM.rd 0 rfl) hx1)) ?_
      refine QRun_b [.slice apath path.length cpath, .slice apath path.length cpath, .int .i64 (path.length : Int), .int .i64 (w64 ((path.length : Int) - 1))] 3 _ (by kernel_rfl) (fun w => by kernel_rfl) ?_
      refine QRun_y (.pointer (some (adr apath ((w64 ((path.length : Int) - 1)).toNat * 1)))) (by kernel_rfl) (Y_idx (t := 41) (e := 2) (sz := 1) (a := apath) (n := path.length) (cap := cpath) (kk := .i64) (i := w64 ((path.length : Int) - 1)) (by kernel_rfl) Try.underlying41 (by kernel_rfl) ((HM.rd 0 rfl).cell hx2).1 hx2l hx2u) ?_
      refine QRun_y (.int .i64 x2) (by kernel_rfl) (Y_load1 (t := 2) (p := adr apath ((w64 ((path.length : Int) - 1)).toNat * 1)) (v := .int .i64 x2) (by kernel_rfl) (fun w => by kernel_rfl) (cd2_cell (HM.rd 0 rfl) hx2)) ?_
      refine QRun_b [.int .i64 x1, .int .i64 x2] 9 _ (by kernel_rfl) (fun w => by kernel_rfl) ?_
      exact QRun_done [0, 1, 2, 3, 9, 10] (by kernel_rfl) (by kernel_rfl)
    refine Run_seq ?_
    refine Run_seq ?_
    obtain ⟨x3, hx3, hF⟩ := M.bind_some hF
    obtain ⟨hx3l, hx3u, hx3⟩ := M.idx_some hx3
    obtain ⟨a1, c1, hc1, r1⟩ := ra_.row hx3
    obtain ⟨x4, hx4, hF⟩ := M.bind_some hF
    obtain ⟨hx4l, hx4u, hx4⟩ := M.idx_some hx4
    obtain ⟨x5, gx5, hF⟩ := M.bind_some hF
    refine Run_reg 21 (by kernel_rfl) (L' := [(0, .slice aa_ a_.length ca_), (1, .slice apath path.length cpath), (2, .int .i64 weight), (3, .int .i64 over), (9, .int .i64 x1), (10, .int .i64 x2), (42, .bool x5)]) ?_ ?_
    · refine QRun_b [.slice aa_ a_.length ca_, .int .i64 x1] 0 _ (by kernel_rfl) (fun w => by kernel_rfl) ?_
      refine QRun_y (.pointer (some (adr aa_ (x1.toNat * 1)))) (by kernel_rfl) (Y_idx (t := 55) (e := 41) (sz := 1) (a := aa_) (n := a_.length) (cap := ca_) (kk := .i64) (i := x1) (by kernel_rfl) Try.underlying55 (by kernel_rfl) ((ra_.at HM.ext).cell hx3).1 hx3l hx3u) ?_
      refine QRun_y (.slice a1 x3.length c1) (by kernel_rfl) (Y_load1 (t := 41) (p := adr aa_ (x1.toNat * 1)) (v := .slice a1 x3.length c1) (by kernel_rfl) (fun w => by kernel_rfl) (cell_at HM.ext hc1)) ?_
      refine QRun_b [.int .i64 x2] 4 _ (by kernel_rfl) (fun w => by kernel_rfl) ?_
      refine QRun_y (.pointer (some (adr a1 (x2.toNat * 1)))) (by kernel_rfl) (Y_idx (t := 41) (e := 2) (sz := 1) (a := a1) (n := x3.length) (cap := c1) (kk := .i64) (i := x2) (by kernel_rfl) Try.underlying41 (by kernel_rfl) ((r1.at HM.ext).cell hx4).1 hx4l hx4u) ?_
      refine QRun_y (.int .i64 x4) (by kernel_rfl) (Y_load1 (t := 2) (p := adr a1 (x2.toNat * 1)) (v := .int .i64 x4) (by kernel_rfl) (fun w => by kernel_rfl) (cd2_cell (r1.at HM.ext) hx4)) ?_
      refine QRun_b [.bool (x4 != (-1000000000000000))] 7 _ (by kernel_rfl) (fun w => by kernel_rfl) ?_
      refine QRun_seq 21 [(0, .slice aa_ a_.length ca_), (1, .slice apath path.length cpath), (2, .int .i64 weight), (3, .int .i64 over), (9, .int .i64 x1), (10, .int .i64 x2), (42, .bool x5)] ?_ ?_
      · rcases Bool.eq_false_or_eq_true (x4 != (-1000000000000000)) with hb1 | hb1
        · refine QRun_bool (x4 != (-1000000000000000)) true (by kernel_rfl) (fun w => by kernel_rfl) hb1 ?_
          have gx5 := (M.ite_some gx5).1 hb1
          obtain ⟨x6, hx5, gx5⟩ := M.bind_some gx5
          obtain ⟨hx5l, hx5u, hx5⟩ := M.idx_some hx5
          obtain ⟨a2, c2, hc2, r2⟩ := ra_.row hx5
          obtain ⟨x7, hx6, gx5⟩ := M.bind_some gx5
          obtain ⟨hx6l, hx6u, hx6⟩ := M.idx_some hx6
          have gx5 := M.ret_some gx5
          refine QRun_b [.int .i64 weight, .slice aa_ a_.length ca_, .int .i64 x1] 9 _ (by kernel_rfl) (fun w => by kernel_rfl) ?_
          refine QRun_y (.pointer (some (adr aa_ (x1.toNat * 1)))) (by kernel_rfl) (Y_idx (t := 55) (e := 41) (sz := 1) (a := aa_) (n := a_.length) (cap := ca_) (kk := .i64) (i := x1) (by kernel_rfl) Try.underlying55 (by kernel_rfl) ((ra_.at HM.ext).cell hx5).1 hx5l hx5u) ?_
          refine QRun_y (.slice a2 x6.length c2) (by kernel_rfl) (Y_load1 (t := 41) (p := adr aa_ (x1.toNat * 1)) (v := .slice a2 x6.length c2) (by kernel_rfl) (fun w => by kernel_rfl) (cell_at HM.ext hc2)) ?_
          refine QRun_b [.int .i64 x2] 14 _ (by kernel_rfl) (fun w => by kernel_rfl) ?_
          refine QRun_y (.pointer (some (adr a2 (x2.toNat * 1)))) (by kernel_rfl) (Y_idx (t := 41) (e := 2) (sz := 1) (a := a2) (n := x6.length) (cap := c2) (kk := .i64) (i := x2) (by kernel_rfl) Try.underlying41 (by kernel_rfl) ((r2.at HM.ext).cell hx6).1 hx6l hx6u) ?_
          refine QRun_y (.int .i64 x7) (by kernel_rfl) (Y_load1 (t := 2) (p := adr a2 (x2.toNat * 1)) (v := .int .i64 x7) (by kernel_rfl) (fun w => by kernel_rfl) (cd2_cell (r2.at HM.ext) hx6)) ?_
          refine QRun_b [.int .i64 (w64 (weight + x7)), .int .i64 over, .bool (decide (over < (w64 (weight + x7))))] 17 _ (by kernel_rfl) (fun w => by kernel_rfl) ?_
          refine QRun_bool (decide (over < (w64 (weight + x7)))) x5 (by kernel_rfl) (fun w => by kernel_rfl) gx5 ?_
          exact QRun_done [0, 1, 2, 3, 9, 10, 42] (by kernel_rfl) (by kernel_rfl)
        · refine QRun_bool (x4 != (-1000000000000000)) false (by kernel_rfl) (fun w => by kernel_rfl) hb1 ?_
          have gx5 := M.ret_some ((M.ite_some gx5).2 hb1)
          refine QRun_n (by kernel_rfl) ?_
          refine QRun_n (by kernel_rfl) ?_
          refine QRun_n (by kernel_rfl) ?_
          refine QRun_n (by kernel_rfl) ?_
          refine QRun_n (by kernel_rfl) ?_
          refine QRun_n (by kernel_rfl) ?_
          refine QRun_n (by kernel_rfl) ?_
          refine QRun_n (by kernel_rfl) ?_
          refine QRun_n (by kernel_rfl) ?_
          refine QRun_n (by kernel_rfl) ?_
          refine QRun_n (by kernel_rfl) ?_
          refine QRun_bool false x5 (by kernel_rfl) (fun w => by kernel_rfl) gx5 ?_
          exact QRun_done [0, 1, 2, 3, 9, 10, 42] (by kernel_rfl) (by kernel_rfl)
      exact QRun_done [0, 1, 2, 3, 9, 10, 42] (by kernel_rfl) (by kernel_rfl)
    refine Run_cond (b := x5) (by kernel_rfl) (fun hb2 => ?_) (fun hb2 => ?_)
    · have hF := (M.ite_some hF).1 hb2
      refine Run_seq ?_
      refine Run_reg 2 (by kernel_rfl) (L' := [(8, .slice apath path.length cpath)]) ?_ ?_
      · refine QRun_b [.slice apath path.length cpath, .slice apath path.length cpath] 0 _ (by kernel_rfl) (fun w => by kernel_rfl) ?_
        exact QRun_done [8] (by kernel_rfl) (by kernel_rfl)
      have hF := M.ret_some hF
      subst hF
      exact Run_ret1 rfl (ResV_tmp (v := .slice apath path.length cpath) (by kernel_rfl)) ⟨apath, cpath, rfl, HM⟩
    · have hF := (M.ite_some hF).2 hb2
      refine Run_skip ?_
      refine Run_seq ?_
      refine Run_seq ?_
      refine Run_reg 3 (by kernel_rfl) (L' := [(0, .slice aa_ a_.length ca_), (1, .slice apath path.length cpath), (2, .int .i64 weight), (3, .int .i64 over), (10, .int .i64 x2), (11, .int .i64 (w64 (x1 + 1)))]) ?_ ?_
      · refine QRun_b [.int .i64 x1, .int .i64 (w64 (x1 + 1)), .int .i64 (w64 (x1 + 1))] 0 _ (by kernel_rfl) (fun w => by kernel_rfl) ?_
        exact QRun_done [0, 1, 2, 3, 10, 11] (by kernel_rfl) (by kernel_rfl)
      obtain ⟨x8, gx8, hF⟩ := M.bind_some hF
      obtain ⟨hloy1, hhiy1, gx8⟩ := M.for_start gx8
      refine Run_join (fun L' h' => ∃ (s2 : Unit), x8 = .inl s2 ∧ L' = [] ∧ Hold h h' [it]) ?_ ?_
      · rintro _ h2 ⟨s2, es2, rfl, H2⟩
        have hF := M.cont_inl' hF es2
        refine Run_seq ?_
        refine Run_reg 1 (by kernel_rfl) (L' := [(8, .slice none 0 0)]) ?_ ?_
        · refine QRun_b [.slice none 0 0] 0 _ (by kernel_rfl) (fun w => by kernel_rfl) ?_
          exact QRun_done [8] (by kernel_rfl) (by kernel_rfl)
        have hF := M.ret_some hF
        subst hF
        have H49 := H2.empty cd2
        exact Run_ret1 rfl (ResV_tmp (v := .slice none 0 0) (by kernel_rfl)) ⟨none, 0, rfl, H49⟩
      · refine Run_block ?_
        refine Run_keep [0, 1, 2, 3, 10, 11] (L' := [(0, .slice aa_ a_.length ca_), (1, .slice apath path.length cpath), (2, .int .i64 weight), (3, .int .i64 over), (10, .int .i64 x2), (11, .int .i64 (w64 (x1 + 1)))]) (by kernel_rfl) ?_
        refine Run_loop (fun m L' h' => ∃ (i1 : Int) (s1 : Unit), w64 (x1 + 1) ≤ i1 ∧ M.forN (a_.length : Int) _ _ n m i1 s1 = some x8 ∧ L' = [(0, .slice aa_ a_.length ca_), (1, .slice apath path.length cpath), (2, .int .i64 weight), (3, .int .i64 over), (10, .int .i64 x2), (11, .int .i64 i1)] ∧ Hold h h' [own cd2 apath path.length cpath path, it]) ((a_.length : Int) - (w64 (x1 + 1)) : Int).toNat ⟨w64 (x1 + 1), (), Int.le_refl _, gx8, rfl, HM⟩ ?_
        rintro my1 _ h1 ⟨i1, s1, hloy1', gx8, rfl, H1⟩
        refine Run_seq ?_
        refine Run_seq ?_
        refine Run_reg 4 (by kernel_rfl) (L' := [(0, .slice aa_ a_.length ca_), (1, .slice apath path.length cpath), (2, .int .i64 weight), (3, .int .i64 over), (10, .int .i64 x2), (11, .int .i64 i1), (49, .bool (decide (i1 < (a_.length : Int))))]) ?_ ?_
        · refine QRun_b [.int .i64 i1, .slice aa_ a_.length ca_, .int .i64 (a_.length : Int), .bool (decide (i1 < (a_.length : Int)))] 0 _ (by kernel_rfl) (fun w => by kernel_rfl) ?_
          exact QRun_done [0, 1, 2, 3, 10, 11, 49] (by kernel_rfl) (by kernel_rfl)
        refine Run_cond (b := decide (i1 < (a_.length : Int))) (by kernel_rfl) (fun hb3 => ?_) (fun hb3 => ?_)
        · obtain ⟨my1, y1, rfl, hB1, hgoy1, houty1⟩ := M.for_go gx8 hb3
          have hlty1 := of_decide_eq_true hb3
          refine Run_skip ?_
          refine Run_seq ?_
          refine Run_block ?_
          refine Run_seq ?_
          refine Run_seq ?_
          obtain ⟨x9, hx7, hB1⟩ := M.bind_some hB1
          obtain ⟨hx7l, hx7u, hx7⟩ := M.idx_some hx7
          obtain ⟨a3, c3, hc3, r3⟩ := ra_.row hx7
          obtain ⟨x10, hx8, hB1⟩ := M.bind_some hB1
          obtain ⟨hx8l, hx8u, hx8⟩ := M.idx_some hx8
          obtain ⟨x11, gx11, hB1⟩ := M.bind_some hB1
          refine Run_reg 13 (by kernel_rfl) (L' := [(0, .slice aa_ a_.length ca_), (1, .slice apath path.length cpath), (2, .int .i64 weight), (3, .int .i64 over), (10, .int .i64 x2), (11, .int .i64 i1), (64, .bool x11)]) ?_ ?_
          · refine QRun_b [.slice aa_ a_.length ca_, .int .i64 i1] 0 _ (by kernel_rfl) (fun w => by kernel_rfl) ?_
            refine QRun_y (.pointer (some (adr aa_ (i1.toNat * 1)))) (by kernel_rfl) (Y_idx (t := 55) (e := 41) (sz := 1) (a := aa_) (n := a_.length) (cap := ca_) (kk := .i64) (i := i1) (by kernel_rfl) Try.underlying55 (by kernel_rfl) ((ra_.at H1.ext).cell hx7).1 hx7l hx7u) ?_
            refine QRun_y (.slice a3 x9.length c3) (by kernel_rfl) (Y_load1 (t := 41) (p := adr aa_ (i1.toNat * 1)) (v := .slice a3 x9.length c3) (by kernel_rfl) (fun w => by kernel_rfl) (cell_at H1.ext hc3)) ?_
            refine QRun_b [.int .i64 x2] 4 _ (by kernel_rfl) (fun w => by kernel_rfl) ?_
            refine QRun_y (.pointer (some (adr a3 (x2.toNat * 1)))) (by kernel_rfl) (Y_idx (t := 41) (e := 2) (sz := 1) (a := a3) (n := x9.length) (cap := c3) (kk := .i64) (i := x2) (by kernel_rfl) Try.underlying41 (by kernel_rfl) ((r3.at H1.ext).cell hx8).1 hx8l hx8u) ?_
            refine QRun_y (.int .i64 x10) (by kernel_rfl) (Y_load1 (t := 2) (p := adr a3 (x2.toNat * 1)) (v := .int .i64 x10) (by kernel_rfl) (fun w => by kernel_rfl) (cd2_cell (r3.at H1.ext) hx8)) ?_
            refine QRun_b [.bool (x10 == (-1000000000000000))] 7 _ (by kernel_rfl) (fun w => by kernel_rfl) ?_
            refine QRun_seq 13 [(0, .slice aa_ a_.length ca_), (1, .slice apath path.length cpath), (2, .int .i64 weight), (3, .int .i64 over), (10, .int .i64 x2), (11, .int .i64 i1), (64, .bool x11)] ?_ ?_
            · rcases Bool.eq_false_or_eq_true (x10 == (-1000000000000000)) with hb4 | hb4
              · refine QRun_bool (x10 == (-1000000000000000)) true (by kernel_rfl) (fun w => by kernel_rfl) hb4 ?_
                have gx11 := M.ret_some ((M.ite_some gx11).1 hb4)
                refine QRun_n (by kernel_rfl) ?_
                refine QRun_n (by kernel_rfl) ?_
                refine QRun_n (by kernel_rfl) ?_
                refine QRun_bool true x11 (by kernel_rfl) (fun w => by kernel_rfl) gx11 ?_
                exact QRun_done [0, 1, 2, 3, 10, 11, 64] (by kernel_rfl) (by kernel_rfl)
              · refine QRun_bool (x10 == (-1000000000000000)) false (by kernel_rfl) (fun w => by kernel_rfl) hb4 ?_
                have gx11 := (M.ite_some gx11).2 hb4
                obtain ⟨x12, hx9, gx11⟩ := M.bind_some gx11
                have gx11 := M.ret_some gx11
                refine QRun_b [.slice apath path.length cpath, .int .i64 i1] 9 _ (by kernel_rfl) (fun w => by kernel_rfl) ?_
                refine QRun_y (.bool x12) (by kernel_rfl) (Y_callq (f := 59) (args := #[.slice apath path.length cpath, .int .i64 i1]) (v := .bool x12) (by kernel_rfl) (w_spec_l01Has h1 path apath cpath (H1.rd 0 rfl) i1 _ _ hx9)) ?_
                refine QRun_bool x12 x11 (by kernel_rfl) (fun w => by kernel_rfl) gx11 ?_
                exact QRun_done [0, 1, 2, 3, 10, 11, 64] (by kernel_rfl) (by kernel_rfl)
            exact QRun_done [0, 1, 2, 3, 10, 11, 64] (by kernel_rfl) (by kernel_rfl)
          refine Run_cond (b := x11) (by kernel_rfl) (fun hb5 => ?_) (fun hb5 => ?_)
          · have hB1 := (M.ite_some hB1).1 hb5
            refine Run_exit (k' := _) rfl ?_
            refine Run_reg 3 (by kernel_rfl) (L' := [(0, .slice aa_ a_.length ca_), (1, .slice apath path.length cpath), (2, .int .i64 weight), (3, .int .i64 over), (10, .int .i64 x2), (11, .int .i64 (i1 + 1))]) ?_ ?_
            · refine QRun_b [.int .i64 i1] 0 _ (by kernel_rfl) (fun w => by kernel_rfl) ?_
              refine QRun_y (.int .i64 (i1 + 1)) (by kernel_rfl) (Y_eq (v := .int .i64 (w64 (i1 + 1))) (Y_pure (fun w => by kernel_rfl)) (by rw [w64_eq _ (by omega)])) ?_
              refine QRun_b [.int .i64 (i1 + 1)] 2 _ (by kernel_rfl) (fun w => by kernel_rfl) ?_
              exact QRun_done [0, 1, 2, 3, 10, 11] (by kernel_rfl) (by kernel_rfl)
            have hB1 := M.ret_some hB1
            have gx8 := hgoy1 _ hB1.symm
            exact Run_again [0, 1, 2, 3, 10, 11] (by kernel_rfl) my1 (Nat.lt_succ_self _) ⟨i1 + 1, (), by omega, gx8, rfl, H1⟩
          · have hB1 := (M.ite_some hB1).2 hb5
            refine Run_skip ?_
            refine Run_seq ?_
            obtain ⟨s3, gs3, hB1⟩ := M.bind_some hB1
            refine Run_join (fun L' h' => ∃ (a14 : Option Addr), ∃ (c12 : Nat), L' = [(0, .slice aa_ a_.length ca_), (1, .slice apath path.length cpath), (2, .int .i64 weight), (3, .int .i64 over), (10, .int .i64 x2), (11, .int .i64 i1), (12, .slice a14 s3.length c12)] ∧ Hold h h' [own cd2 apath path.length cpath path, own cd2 a14 s3.length c12 s3, it]) ?_ ?_
            · rintro _ h19 ⟨a14, c12, rfl, H38⟩
              refine Run_seq ?_
              refine Run_reg 3 (by kernel_rfl) (L' := [(0, .slice aa_ a_.length ca_), (1, .slice apath path.length cpath), (2, .int .i64 weight), (3, .int .i64 over), (10, .int .i64 x2), (11, .int .i64 i1), (12, .slice a14 s3.length c12), (84, .bool (decide (0 < (s3.length : Int))))]) ?_ ?_
              · refine QRun_b [.slice a14 s3.length c12, .int .i64 (s3.length : Int), .bool (decide (0 < (s3.length : Int)))] 0 _ (by kernel_rfl) (fun w => by kernel_rfl) ?_
                exact QRun_done [0, 1, 2, 3, 10, 11, 12, 84] (by kernel_rfl) (by kernel_rfl)
              refine Run_cond (b := decide (0 < (s3.length : Int))) (by kernel_rfl) (fun hb6 => ?_) (fun hb6 => ?_)
              · have hB1 := (M.ite_some hB1).1 hb6
                refine Run_seq ?_
                refine Run_reg 2 (by kernel_rfl) (L' := [(8, .slice a14 s3.length c12)]) ?_ ?_
                · refine QRun_b [.slice a14 s3.length c12, .slice a14 s3.length c12] 0 _ (by kernel_rfl) (fun w => by kernel_rfl) ?_
                  exact QRun_done [8] (by kernel_rfl) (by kernel_rfl)
                have hB1 := M.ret_some hB1
                have gx8 := houty1 _ hB1.symm
                have hF := M.cont_inr' hF gx8
                have hF := M.ret_some hF
                subst hF
                have H45 : Hold h h19 [own cd2 a14 s3.length c12 s3, own cd2 apath path.length cpath path, it] := H38.pick [1, 0, 2] (by kernel_rfl)
                have H46 : Hold h h19 [own cd2 a14 s3.length c12 s3, it] := H45.pick [0, 2] (by kernel_rfl)
                exact Run_ret1 rfl (ResV_tmp (v := .slice a14 s3.length c12) (by kernel_rfl)) ⟨a14, c12, rfl, H46⟩
              · have hB1 := (M.ite_some hB1).2 hb6
                refine Run_skip ?_
                refine Run_blk ?_
                refine Run_reg 3 (by kernel_rfl) (L' := [(0, .slice aa_ a_.length ca_), (1, .slice apath path.length cpath), (2, .int .i64 weight), (3, .int .i64 over), (10, .int .i64 x2), (11, .int .i64 (i1 + 1))]) ?_ ?_
                · refine QRun_b [.int .i64 i1] 0 _ (by kernel_rfl) (fun w => by kernel_rfl) ?_
                  refine QRun_y (.int .i64 (i1 + 1)) (by kernel_rfl) (Y_eq (v := .int .i64 (w64 (i1 + 1))) (Y_pure (fun w => by kernel_rfl)) (by rw [w64_eq _ (by omega)])) ?_
                  refine QRun_b [.int .i64 (i1 + 1)] 2 _ (by kernel_rfl) (fun w => by kernel_rfl) ?_
                  exact QRun_done [0, 1, 2, 3, 10, 11] (by kernel_rfl) (by kernel_rfl)
                have H47 : Hold h h19 [own cd2 apath path.length cpath path, it] := H38.pick [0, 2] (by kernel_rfl)
                have hB1 := M.ret_some hB1
                have gx8 := hgoy1 _ hB1.symm
                exact Run_again [0, 1, 2, 3, 10, 11] (by kernel_rfl) my1 (Nat.lt_succ_self _) ⟨i1 + 1, (), by omega, gx8, rfl, H47⟩
            · obtain ⟨x15, hx12, gs3⟩ := M.bind_some gs3
              obtain ⟨hx12l, hx12u, hx12⟩ := M.idx_some hx12
              obtain ⟨a5, c5, hc5, r5⟩ := ra_.row hx12
              obtain ⟨x16, hx13, gs3⟩ := M.bind_some gs3
              obtain ⟨hx13l, hx13u, hx13⟩ := M.idx_some hx13
              refine Run_D (fun x => Hold h x [own cd2 apath path.length cpath path, it]) (fun x => Hold h x [own cd2 apath path.length cpath path, it]) mixed (by kernel_rfl) H1 Hold.stable (fun x Hy => (show Hold h x [own cd2 apath path.length cpath path, it] from Hy).pick [0, 1] (by kernel_rfl)) ?_
              refine DR_b 16 [.slice aa_ a_.length ca_, .slice apath path.length cpath] 0 (by kernel_rfl) (by kernel_rfl) (by kernel_rfl) (fun w => by kernel_rfl) ?_
              refine DR_b 15 [.int .i64 i1] 3 (by kernel_rfl) (by kernel_rfl) (by kernel_rfl) (fun w => by kernel_rfl) ?_
              refine DR_b 12 [.int .i64 weight, .slice aa_ a_.length ca_, .int .i64 i1] 6 (by kernel_rfl) (by kernel_rfl) (by kernel_rfl) (fun w => by kernel_rfl) ?_
              refine DR_y 11 (i := 9) (.pointer (some (adr aa_ (i1.toNat * 1)))) (by kernel_rfl) (by kernel_rfl) (by kernel_rfl) (fun hx Hx => (YE.of (Y_idx (t := 55) (e := 41) (sz := 1) (a := aa_) (n := a_.length) (cap := ca_) (kk := .i64) (i := i1) (by kernel_rfl) Try.underlying55 (by kernel_rfl) ((ra_.at H1.ext).cell hx12).1 hx12l hx12u))) ?_
              refine DR_y 10 (i := 10) (.slice a5 x15.length c5) (by kernel_rfl) (by kernel_rfl) (by kernel_rfl) (fun hx Hx => (YE.of (Y_load1 (t := 41) (p := adr aa_ (i1.toNat * 1)) (v := .slice a5 x15.length c5) (by kernel_rfl) (fun w => by kernel_rfl) (cell_at Hx.ext hc5)))) ?_
              refine DR_b 9 [.int .i64 x2] 11 (by kernel_rfl) (by kernel_rfl) (by kernel_rfl) (fun w => by kernel_rfl) ?_
              refine DR_y 8 (i := 12) (.pointer (some (adr a5 (x2.toNat * 1)))) (by kernel_rfl) (by kernel_rfl) (by kernel_rfl) (fun hx Hx => (YE.of (Y_idx (t := 41) (e := 2) (sz := 1) (a := a5) (n := x15.length) (cap := c5) (kk := .i64) (i := x2) (by kernel_rfl) Try.underlying41 (by kernel_rfl) ((r5.at H1.ext).cell hx13).1 hx13l hx13u))) ?_
              refine DR_y 7 (i := 13) (.int .i64 x16) (by kernel_rfl) (by kernel_rfl) (by kernel_rfl) (fun hx Hx => (YE.of (Y_load1 (t := 2) (p := adr a5 (x2.toNat * 1)) (v := .int .i64 x16) (by kernel_rfl) (fun w => by kernel_rfl) (cd2_cell (r5.at Hx.ext) hx13)))) ?_
              refine DR_b 5 [.int .i64 (w64 (weight + x16)), .int .i64 over] 14 (by kernel_rfl) (by kernel_rfl) (by kernel_rfl) (fun w => by kernel_rfl) ?_
              refine DR_e2 4 2 4 (by kernel_rfl) (by kernel_rfl) (by kernel_rfl) (by kernel_rfl) ?_ ?_
              · intro h3 H3
                have H4 : Hold h h3 [own cd2 apath path.length cpath path, it] := H3
                obtain ⟨x17, hx14, gs3⟩ := M.bind_some gs3
                refine E_call (f := 60) (args := #[.slice apath path.length cpath]) (w_spec_l01Own h3 path apath cpath (H4.rd 0 rfl) _ _ hx14) (by kernel_rfl) (fun v1 h4 hp1 => ?_)
                obtain ⟨a6, c6, rfl, H5⟩ := hp1
                have H6 : Hold h h4 [own cd2 a6 x17.length c6 x17, own cd2 apath path.length cpath path, it] := H4.call H5 rfl
                refine ⟨fun x => Hold h x [own cd2 apath path.length cpath path, it], fun x => Hold h x [own cd2 a6 x17.length c6 x17, own cd2 apath path.length cpath path, it], H6, Hold.stable, fun x Hy => (show Hold h x [own cd2 a6 x17.length c6 x17, own cd2 apath path.length cpath path, it] from Hy).pick [1, 2] (by kernel_rfl), fun x Hy => (show Hold h x [own cd2 apath path.length cpath path, it] from Hy).pick [0, 1] (by kernel_rfl), ?_⟩
                refine DR_e 3 4 (by kernel_rfl) (by kernel_rfl) (by kernel_rfl) (fun h5 H7 => ?_)
                have H8 : Hold h h5 [own cd2 a6 x17.length c6 x17, own cd2 apath path.length cpath path, it] := H7
                refine E_lit (C := cd2) (n := 1) (l := ([i1] : List Int)) (cs := [.int .i64 i1]) H8 (fun w => by kernel_rfl) (Enc.consE (cd2_own i1 _) (Enc.nil _ _) rfl) rfl (by decide) (fun a7 h6 H9 => ?_)
                refine ⟨fun x => Hold h x [own cd2 apath path.length cpath path, it], fun x => Hold h x [own cd2 a7 1 1 ([i1] : List Int), own cd2 a6 x17.length c6 x17, own cd2 apath path.length cpath path, it], H9, Hold.stable, fun x Hy => (show Hold h x [own cd2 a7 1 1 ([i1] : List Int), own cd2 a6 x17.length c6 x17, own cd2 apath path.length cpath path, it] from Hy).pick [2, 3] (by kernel_rfl), fun x Hy => (show Hold h x [own cd2 apath path.length cpath path, it] from Hy).pick [0, 1] (by kernel_rfl), ?_⟩
                refine DR_e 2 5 (by kernel_rfl) (by kernel_rfl) (by kernel_rfl) (fun h7 H10 => ?_)
                have H11 : Hold h h7 [own cd2 a7 1 1 ([i1] : List Int), own cd2 a6 x17.length c6 x17, own cd2 apath path.length cpath path, it] := H10
                obtain ⟨l1, hl1, gs3⟩ := M.bind_some gs3
                have hl1 := M.app_some hl1
                have H12 : Hold h h7 [own cd2 a6 x17.length c6 x17, own cd2 a7 1 1 ([i1] : List Int), own cd2 apath path.length cpath path, it] := H11.pick [1, 0, 2, 3] (by kernel_rfl)
                have H13 : Hold h h7 [own cd2 a7 1 1 ([i1] : List Int), own cd2 a6 x17.length c6 x17, own cd2 apath path.length cpath path, it] := H12.pick [1, 0, 2, 3] (by kernel_rfl)
                have H14 : Hold h h7 [own cd2 a6 x17.length c6 x17, own cd2 a7 1 1 ([i1] : List Int), own cd2 apath path.length cpath path, it] := H13.pick [1, 0, 2, 3] (by kernel_rfl)
                refine E_app (C := cd2) (t := 41) (ty := 41) (n := x17.length) (m := 1) H14 cd2_ti rfl Try.underlying41 (by decide) (by kernel_rfl) hl1 (fun a8 c7 h8 H15 => ?_)
                refine ⟨fun x => Hold h x [own cd2 apath path.length cpath path, it, own cd2 a8 l1.length c7 l1], fun x => Hold h x [own cd2 a8 l1.length c7 l1, own cd2 apath path.length cpath path, it], H15, Hold.stable, fun x Hy => (show Hold h x [own cd2 a8 l1.length c7 l1, own cd2 apath path.length cpath path, it] from Hy).pick [1, 2, 0] (by kernel_rfl), fun x Hy => (show Hold h x [own cd2 apath path.length cpath path, it, own cd2 a8 l1.length c7 l1] from Hy).pick [0, 1] (by kernel_rfl), ?_⟩
                refine DR_tail (i := 16) (by kernel_rfl) (by kernel_rfl) (by kernel_rfl) (fun h9 H16 => ?_)
                have H17 : Hold h h9 [own cd2 a8 l1.length c7 l1, own cd2 apath path.length cpath path, it] := H16
                obtain ⟨x18, hx15, gs3⟩ := M.bind_some gs3
                have H18 : Hold h h9 [own cd2 a8 l1.length c7 l1, bun [own cd2 apath path.length cpath path, it]] := Hold.bundle (S := [own cd2 a8 l1.length c7 l1]) (R := [own cd2 apath path.length cpath path, it]) H17
                refine Run_E (by kernel_rfl) ?_
                refine E_call (f := 50) (args := #[.slice aa_ a_.length ca_, .slice a8 l1.length c7, .int .i64 (w64 (weight + x16)), .int .i64 over]) (ih h h9 _ a_ aa_ ca_ ra_ l1 a8 c7 (w64 (weight + x16)) over H18 _ _ hx15) (by kernel_rfl) (fun v2 h10 hp2 => ?_)
                obtain ⟨a9, c8, rfl, H19⟩ := hp2
                have H20 : Hold h h10 [own cd2 a9 x18.length c8 x18, own cd2 apath path.length cpath path, it] := Hold.unbundle (S := [own cd2 a9 x18.length c8 x18]) (R := [own cd2 apath path.length cpath path, it]) H19 (Hold.tailBase (S := [own cd2 a8 l1.length c7 l1]) (R := [own cd2 apath path.length cpath path, it]) H17)
                refine Run_b [.slice a9 x18.length c8] 17 _ (by kernel_rfl) (fun w => by kernel_rfl) ?_
                refine Run_nil (by kernel_rfl) ?_
                refine Run_keep [0, 1, 2, 3, 10, 11, 12] (L' := [(0, .slice aa_ a_.length ca_), (1, .slice apath path.length cpath), (2, .int .i64 weight), (3, .int .i64 over), (10, .int .i64 x2), (11, .int .i64 i1), (12, .slice a9 x18.length c8)]) (by kernel_rfl) ?_
                have H43 : Hold h h10 [own cd2 apath path.length cpath path, own cd2 a9 x18.length c8 x18, it] := H20.pick [1, 0, 2] (by kernel_rfl)
                have gs3 := M.ret_some gs3
                subst gs3
                exact Run_fall [0, 1, 2, 3, 10, 11, 12] (by kernel_rfl) ⟨a9, c8, rfl, H43⟩
              · intro h11 H21
                have H22 : Hold h h11 [own cd2 apath path.length cpath path, it] := H21
                refine E_lit (C := cd2) (n := 1) (l := ([i1] : List Int)) (cs := [.int .i64 i1]) H22 (fun w => by kernel_rfl) (Enc.consE (cd2_own i1 _) (Enc.nil _ _) rfl) rfl (by decide) (fun a10 h12 H23 => ?_)
                refine ⟨fun x => Hold h x [own cd2 apath path.length cpath path, it], fun x => Hold h x [own cd2 a10 1 1 ([i1] : List Int), own cd2 apath path.length cpath path, it], H23, Hold.stable, fun x Hy => (show Hold h x [own cd2 a10 1 1 ([i1] : List Int), own cd2 apath path.length cpath path, it] from Hy).pick [1, 2] (by kernel_rfl), fun x Hy => (show Hold h x [own cd2 apath path.length cpath path, it] from Hy).pick [0, 1] (by kernel_rfl), ?_⟩
                refine DR_e 3 2 (by kernel_rfl) (by kernel_rfl) (by kernel_rfl) (fun h13 H24 => ?_)
                have H25 : Hold h h13 [own cd2 a10 1 1 ([i1] : List Int), own cd2 apath path.length cpath path, it] := H24
                obtain ⟨x19, hx16, gs3⟩ := M.bind_some gs3
                refine E_call (f := 60) (args := #[.slice apath path.length cpath]) (w_spec_l01Own h13 path apath cpath (H25.rd 1 rfl) _ _ hx16) (by kernel_rfl) (fun v3 h14 hp3 => ?_)
                obtain ⟨a11, c9, rfl, H26⟩ := hp3
                have H27 : Hold h h14 [own cd2 a11 x19.length c9 x19, own cd2 a10 1 1 ([i1] : List Int), own cd2 apath path.length cpath path, it] := H25.call H26 rfl
                refine ⟨fun x => Hold h x [own cd2 apath path.length cpath path, it], fun x => Hold h x [own cd2 a11 x19.length c9 x19, own cd2 a10 1 1 ([i1] : List Int), own cd2 apath path.length cpath path, it], H27, Hold.stable, fun x Hy => (show Hold h x [own cd2 a11 x19.length c9 x19, own cd2 a10 1 1 ([i1] : List Int), own cd2 apath path.length cpath path, it] from Hy).pick [2, 3] (by kernel_rfl), fun x Hy => (show Hold h x [own cd2 apath path.length cpath path, it] from Hy).pick [0, 1] (by kernel_rfl), ?_⟩
                refine DR_e 2 5 (by kernel_rfl) (by kernel_rfl) (by kernel_rfl) (fun h15 H28 => ?_)
                have H29 : Hold h h15 [own cd2 a11 x19.length c9 x19, own cd2 a10 1 1 ([i1] : List Int), own cd2 apath path.length cpath path, it] := H28
                obtain ⟨l2, hl2, gs3⟩ := M.bind_some gs3
                have hl2 := M.app_some hl2
                have H30 : Hold h h15 [own cd2 a10 1 1 ([i1] : List Int), own cd2 a11 x19.length c9 x19, own cd2 apath path.length cpath path, it] := H29.pick [1, 0, 2, 3] (by kernel_rfl)
                have H31 : Hold h h15 [own cd2 a11 x19.length c9 x19, own cd2 a10 1 1 ([i1] : List Int), own cd2 apath path.length cpath path, it] := H30.pick [1, 0, 2, 3] (by kernel_rfl)
                refine E_app (C := cd2) (t := 41) (ty := 41) (n := x19.length) (m := 1) H31 cd2_ti rfl Try.underlying41 (by decide) (by kernel_rfl) hl2 (fun a12 c10 h16 H32 => ?_)
                refine ⟨fun x => Hold h x [own cd2 apath path.length cpath path, it, own cd2 a12 l2.length c10 l2], fun x => Hold h x [own cd2 a12 l2.length c10 l2, own cd2 apath path.length cpath path, it], H32, Hold.stable, fun x Hy => (show Hold h x [own cd2 a12 l2.length c10 l2, own cd2 apath path.length cpath path, it] from Hy).pick [1, 2, 0] (by kernel_rfl), fun x Hy => (show Hold h x [own cd2 apath path.length cpath path, it, own cd2 a12 l2.length c10 l2] from Hy).pick [0, 1] (by kernel_rfl), ?_⟩
                refine DR_tail (i := 16) (by kernel_rfl) (by kernel_rfl) (by kernel_rfl) (fun h17 H33 => ?_)
                have H34 : Hold h h17 [own cd2 a12 l2.length c10 l2, own cd2 apath path.length cpath path, it] := H33
                obtain ⟨x20, hx17, gs3⟩ := M.bind_some gs3
                have H35 : Hold h h17 [own cd2 a12 l2.length c10 l2, bun [own cd2 apath path.length cpath path, it]] := Hold.bundle (S := [own cd2 a12 l2.length c10 l2]) (R := [own cd2 apath path.length cpath path, it]) H34
                refine Run_E (by kernel_rfl) ?_
                refine E_call (f := 50) (args := #[.slice aa_ a_.length ca_, .slice a12 l2.length c10, .int .i64 (w64 (weight + x16)), .int .i64 over]) (ih h h17 _ a_ aa_ ca_ ra_ l2 a12 c10 (w64 (weight + x16)) over H35 _ _ hx17) (by kernel_rfl) (fun v4 h18 hp4 => ?_)
                obtain ⟨a13, c11, rfl, H36⟩ := hp4
                have H37 : Hold h h18 [own cd2 a13 x20.length c11 x20, own cd2 apath path.length cpath path, it] := Hold.unbundle (S := [own cd2 a13 x20.length c11 x20]) (R := [own cd2 apath path.length cpath path, it]) H36 (Hold.tailBase (S := [own cd2 a12 l2.length c10 l2]) (R := [own cd2 apath path.length cpath path, it]) H34)
                refine Run_b [.slice a13 x20.length c11] 17 _ (by kernel_rfl) (fun w => by kernel_rfl) ?_
                refine Run_nil (by kernel_rfl) ?_
                refine Run_keep [0, 1, 2, 3, 10, 11, 12] (L' := [(0, .slice aa_ a_.length ca_), (1, .slice apath path.length cpath), (2, .int .i64 weight), (3, .int .i64 over), (10, .int .i64 x2), (11, .int .i64 i1), (12, .slice a13 x20.length c11)]) (by kernel_rfl) ?_
                have H44 : Hold h h18 [own cd2 apath path.length cpath path, own cd2 a13 x20.length c11 x20, it] := H37.pick [1, 0, 2] (by kernel_rfl)
                have gs3 := M.ret_some gs3
                subst gs3
                exact Run_fall [0, 1, 2, 3, 10, 11, 12] (by kernel_rfl) ⟨a13, c11, rfl, H44⟩
        · have gx8 := M.for_end gx8 hb3
          subst gx8
          refine Run_exit (k' := _) rfl ?_
          have H48 : Hold h h1 [it] := H1.pick [1] (by kernel_rfl)
          exact Run_fall [] (by kernel_rfl) ⟨(), rfl, rfl, H48⟩

set_option maxRecDepth 100000 in
set_option maxHeartbeats 4000000 in
theorem w_spec_l03Grow (h hE : Heap) (it : Item) (a_ : List (List Int)) (aa_ : Option Addr) (ca_ : Nat) (ra_ : Rd cd41 h (Lt h) aa_ ca_ a_) (path : List Int) (apath : Option Addr) (cpath : Nat) (weight : Int) (over : Int) (HM : Hold h hE [own cd2 apath path.length cpath path, it]) (n : Nat) (r : (List Int)) (hF : spec_l03Grow a_ path weight over n = some r) :
    Fn Try.prog 50 #[.slice aa_ a_.length ca_, .slice apath path.length cpath, .int .i64 weight, .int .i64 over] hE fun v h' => ∃ (a0 : Option Addr) (c0 : Nat), v = .slice a0 r.length c0 ∧ Hold h h' [own cd2 a0 r.length c0 r, it] := by
  exact w_spec_l03Grow_R n h hE it a_ aa_ ca_ ra_ path apath cpath weight over HM n r hF

set_option maxRecDepth 100000 in
set_option maxHeartbeats 4000000 in
theorem w_spec_l03Over (h : Heap) (a_ : List (List Int)) (aa_ : Option Addr) (ca_ : Nat) (ra_ : Rd cd41 h (Lt h) aa_ ca_ a_) (over : Int) (n : Nat) (r : (List Int)) (hF : spec_l03Over a_ over n = some r) :
    Fn Try.prog 34 #[.slice aa_ a_.length ca_, .int .i64 over] h fun v h' => ∃ (a0 : Option Addr) (c0 : Nat), v = .slice a0 r.length c0 ∧ Hold h h' [own cd2 a0 r.length c0 r] := by
  unfold spec_l03Over at hF
  refine Fn_enter (args := [.slice aa_ a_.length ca_, .int .i64 over]) Try.func34 rfl (by kernel_rfl) (by kernel_rfl) (fun w0 _ => ?_)
  have H0 := Hold.init h
  refine Run_seq ?_
  refine Run_reg 1 (by kernel_rfl) (L' := [(0, .slice aa_ a_.length ca_), (1, .int .i64 over)]) ?_ ?_
  · refine QRun_b [.slice none 0 0] 0 _ (by kernel_rfl) (fun w => by kernel_rfl) ?_
    exact QRun_done [0, 1] (by kernel_rfl) (by kernel_rfl)
  refine Run_seq ?_
  refine Run_seq ?_
  refine Run_reg 1 (by kernel_rfl) (L' := [(0, .slice aa_ a_.length ca_), (1, .int .i64 over), (5, .int .i64 0)]) ?_ ?_
  · refine QRun_b [.int .i64 0] 0 _ (by kernel_rfl) (fun w => by kernel_rfl) ?_
    exact QRun_done [0, 1, 5] (by kernel_rfl) (by kernel_rfl)
  obtain ⟨x1, gx1, hF⟩ := M.bind_some hF
  obtain ⟨hloy1, hhiy1, gx1⟩ := M.for_start gx1
  refine Run_join (fun L' h' => ∃ (s2 : Unit), x1 = .inl s2 ∧ L' = [] ∧ Hold h h' []) ?_ ?_
  · rintro _ h2 ⟨s2, es2, rfl, H2⟩
    have hF := M.cont_inl' hF es2
    refine Run_seq ?_
    refine Run_reg 1 (by kernel_rfl) (L' := [(4, .slice none 0 0)]) ?_ ?_
    · refine QRun_b [.slice none 0 0] 0 _ (by kernel_rfl) (fun w => by kernel_rfl) ?_
      exact QRun_done [4] (by kernel_rfl) (by kernel_rfl)
    have hF := M.ret_some hF
    subst hF
    have H9 := H2.empty cd2
    exact Run_ret1 rfl (ResV_tmp (v := .slice none 0 0) (by kernel_rfl)) ⟨none, 0, rfl, H9⟩
  · refine Run_block ?_
    refine Run_keep [0, 1, 5] (L' := [(0, .slice aa_ a_.length ca_), (1, .int .i64 over), (5, .int .i64 0)]) (by kernel_rfl) ?_
    refine Run_loop (fun m L' h' => ∃ (i1 : Int) (s1 : Unit), 0 ≤ i1 ∧ M.forN (a_.length : Int) _ _ n m i1 s1 = some x1 ∧ L' = [(0, .slice aa_ a_.length ca_), (1, .int .i64 over), (5, .int .i64 i1)] ∧ Hold h h' []) ((a_.length : Int) - 0 : Int).toNat ⟨0, (), Int.le_refl _, gx1, rfl, H0⟩ ?_
    rintro my1 _ h1 ⟨i1, s1, hloy1', gx1, rfl, H1⟩
    refine Run_seq ?_
    refine Run_seq ?_
    refine Run_reg 4 (by kernel_rfl) (L' := [(0, .slice aa_ a_.length ca_), (1, .int .i64 over), (5, .int .i64 i1), (10, .bool (decide (i1 < (a_.length : Int))))]) ?_ ?_
    · refine QRun_b [.int .i64 i1, .slice aa_ a_.length ca_, .int .i64 (a_.length : Int), .bool (decide (i1 < (a_.length : Int)))] 0 _ (by kernel_rfl) (fun w => by kernel_rfl) ?_
      exact QRun_done [0, 1, 5, 10] (by kernel_rfl) (by kernel_rfl)
    refine Run_cond (b := decide (i1 < (a_.length : Int))) (by kernel_rfl) (fun hb1 => ?_) (fun hb1 => ?_)
    · obtain ⟨my1, y1, rfl, hB1, hgoy1, houty1⟩ := M.for_go gx1 hb1
      have hlty1 := of_decide_eq_true hb1
      refine Run_skip ?_
      refine Run_seq ?_
      refine Run_block ?_
      refine Run_seq ?_
      refine Run_ops ?_
      refine Run_b [.slice aa_ a_.length ca_, .int .i64 i1] 0 _ (by kernel_rfl) (fun w => by kernel_rfl) ?_
      refine Run_E (by kernel_rfl) ?_
      refine E_lit (C := cd2) (n := 1) (l := ([i1] : List Int)) (cs := [.int .i64 i1]) H1 (fun w => by kernel_rfl) (Enc.consE (cd2_own i1 _) (Enc.nil _ _) rfl) rfl (by decide) (fun a1 h3 H3 => ?_)
      refine Run_b [.int .i64 over] 3 _ (by kernel_rfl) (fun w => by kernel_rfl) ?_
      obtain ⟨x2, hx1, hB1⟩ := M.bind_some hB1
      have hn1 := (H3.len 0 rfl)
      have H4 : Hold h h3 [own cd2 a1 (([i1] : List Int).length) 1 ([i1] : List Int)] := by rw [hn1]; exact H3
      have H5 : Hold h h3 [own cd2 a1 (([i1] : List Int).length) 1 ([i1] : List Int), bun []] := Hold.bundle (S := [own cd2 a1 (([i1] : List Int).length) 1 ([i1] : List Int)]) (R := []) H4
      refine Run_E (by kernel_rfl) ?_
      refine E_call (f := 50) (args := #[.slice aa_ a_.length ca_, .slice a1 1 1, .int .i64 0, .int .i64 over]) (Fn.arg (w_spec_l03Grow h h3 _ a_ aa_ ca_ ra_ ([i1] : List Int) a1 1 0 over H5 _ _ hx1) (by simp only [hn1])) (by kernel_rfl) (fun v1 h4 hp1 => ?_)
      obtain ⟨a2, c1, rfl, H6⟩ := hp1
      have H7 : Hold h h4 [own cd2 a2 x2.length c1 x2] := Hold.unbundle (S := [own cd2 a2 x2.length c1 x2]) (R := []) H6 (Hold.tailBase (S := [own cd2 a1 (([i1] : List Int).length) 1 ([i1] : List Int)]) (R := []) H4)
      refine Run_b [.slice a2 x2.length c1] 5 _ (by kernel_rfl) (fun w => by kernel_rfl) ?_
      refine Run_nil (by kernel_rfl) ?_
      refine Run_keep [0, 1, 5, 6] (L' := [(0, .slice aa_ a_.length ca_), (1, .int .i64 over), (5, .int .i64 i1), (6, .slice a2 x2.length c1)]) (by kernel_rfl) ?_
      refine Run_seq ?_
      refine Run_reg 3 (by kernel_rfl) (L' := [(0, .slice aa_ a_.length ca_), (1, .int .i64 over), (5, .int .i64 i1), (6, .slice a2 x2.length c1), (20, .bool (decide (0 < (x2.length : Int))))]) ?_ ?_
      · refine QRun_b [.slice a2 x2.length c1, .int .i64 (x2.length : Int), .bool (decide (0 < (x2.length : Int)))] 0 _ (by kernel_rfl) (fun w => by kernel_rfl) ?_
        exact QRun_done [0, 1, 5, 6, 20] (by kernel_rfl) (by kernel_rfl)
      refine Run_cond (b := decide (0 < (x2.length : Int))) (by kernel_rfl) (fun hb2 => ?_) (fun hb2 => ?_)
      · have hB1 := (M.ite_some hB1).1 hb2
        refine Run_seq ?_
        refine Run_reg 2 (by kernel_rfl) (L' := [(4, .slice a2 x2.length c1)]) ?_ ?_
        · refine QRun_b [.slice a2 x2.length c1, .slice a2 x2.length c1] 0 _ (by kernel_rfl) (fun w => by kernel_rfl) ?_
          exact QRun_done [4] (by kernel_rfl) (by kernel_rfl)
        have hB1 := M.ret_some hB1
        have gx1 := houty1 _ hB1.symm
        have hF := M.cont_inr' hF gx1
        have hF := M.ret_some hF
        subst hF
        exact Run_ret1 rfl (ResV_tmp (v := .slice a2 x2.length c1) (by kernel_rfl)) ⟨a2, c1, rfl, H7⟩
      · have hB1 := (M.ite_some hB1).2 hb2
        refine Run_skip ?_
        refine Run_blk ?_
        refine Run_reg 3 (by kernel_rfl) (L' := [(0, .slice aa_ a_.length ca_), (1, .int .i64 over), (5, .int .i64 (i1 + 1))]) ?_ ?_
        · refine QRun_b [.int .i64 i1] 0 _ (by kernel_rfl) (fun w => by kernel_rfl) ?_
          refine QRun_y (.int .i64 (i1 + 1)) (by kernel_rfl) (Y_eq (v := .int .i64 (w64 (i1 + 1))) (Y_pure (fun w => by kernel_rfl)) (by rw [w64_eq _ (by omega)])) ?_
          refine QRun_b [.int .i64 (i1 + 1)] 2 _ (by kernel_rfl) (fun w => by kernel_rfl) ?_
          exact QRun_done [0, 1, 5] (by kernel_rfl) (by kernel_rfl)
        have H8 : Hold h h4 [] := H7.pick [] (by kernel_rfl)
        have hB1 := M.ret_some hB1
        have gx1 := hgoy1 _ hB1.symm
        exact Run_again [0, 1, 5] (by kernel_rfl) my1 (Nat.lt_succ_self _) ⟨i1 + 1, (), by omega, gx1, rfl, H8⟩
    · have gx1 := M.for_end gx1 hb1
      subst gx1
      refine Run_exit (k' := _) rfl ?_
      exact Run_fall [] (by kernel_rfl) ⟨(), rfl, rfl, H1⟩

set_option maxRecDepth 100000 in
set_option maxHeartbeats 4000000 in
theorem w_spec_l12Dead (h : Heap) (g : TGraph) (agPlaces : Option Addr) (cgPlaces : Nat) (rgPlaces : Rd cd50 h (Lt h) agPlaces cgPlaces g.Places) (n : Nat) (r : (List Int)) (hF : spec_l12Dead g n = some r) :
    Fn Try.prog 19 #[.agg #[.int .i64 g.Events, .slice agPlaces g.Places.length cgPlaces]] h fun v h' => ∃ (a0 : Option Addr) (c0 : Nat), v = .slice a0 r.length c0 ∧ Hold h h' [own cd2 a0 r.length c0 r] := by
  unfold spec_l12Dead at hF
  refine Fn_enter (args := [.agg #[.int .i64 g.Events, .slice agPlaces g.Places.length cgPlaces]]) Try.func19 rfl (by kernel_rfl) (by kernel_rfl) (fun w0 _ => ?_)
  have H0 := Hold.init h
  refine Run_seq ?_
  refine Run_ops ?_
  refine Run_E (by kernel_rfl) ?_
  refine E_box (ty := 30) (cs := [.int .i64 g.Events, .slice agPlaces g.Places.length cgPlaces]) H0 (fun w => by kernel_rfl) (fun b1 h1 H1 => ?_)
  refine Run_b [.slice none 0 0] 1 _ (by kernel_rfl) (fun w => by kernel_rfl) ?_
  refine Run_nil (by kernel_rfl) ?_
  refine Run_keep [1] (L' := [(1, .pointer (some ⟨b1, 0, none⟩))]) (by kernel_rfl) ?_
  refine Run_seq ?_
  refine Run_ops ?_
  refine Run_y (.agg #[.int .i64 g.Events, .slice agPlaces g.Places.length cgPlaces]) (by kernel_rfl) (Y_loadA (t := 30) (n := 2) (p := ⟨b1, 0, none⟩) (cs := [.int .i64 g.Events, .slice agPlaces g.Places.length cgPlaces]) (by kernel_rfl) (fun w => by kernel_rfl) (by kernel_rfl) rfl (H1.cells (n := 2) (off := 0) 0 rfl rfl)) ?_
  obtain ⟨x1, hx1, hF⟩ := M.bind_some hF
  refine Run_E (by kernel_rfl) ?_
  refine E_call (f := 35) (args := #[.agg #[.int .i64 g.Events, .slice agPlaces g.Places.length cgPlaces]]) (w_spec_l12Free h1 g agPlaces cgPlaces (rgPlaces.at H1.ext) _ _ hx1) (by kernel_rfl) (fun v1 h2 hp1 => ?_)
  obtain ⟨a1, c1, rfl, H2⟩ := hp1
  have H3 : Hold h h2 [own cd41 a1 x1.length c1 x1, box b1 30 [.int .i64 g.Events, .slice agPlaces g.Places.length cgPlaces]] := H1.call H2 rfl
  obtain ⟨x2, hx2, hF⟩ := M.bind_some hF
  refine Run_E (by kernel_rfl) ?_
  refine E_call (f := 34) (args := #[.slice a1 x1.length c1, .int .i64 (-1)]) (w_spec_l03Over h2 x1 a1 c1 (H3.rd 0 rfl) (-1) _ _ hx2) (by kernel_rfl) (fun v2 h3 hp2 => ?_)
  obtain ⟨a2, c2, rfl, H4⟩ := hp2
  have H5 : Hold h h3 [own cd2 a2 x2.length c2 x2, own cd41 a1 x1.length c1 x1, box b1 30 [.int .i64 g.Events, .slice agPlaces g.Places.length cgPlaces]] := H3.call H4 rfl
  refine Run_b [.slice a2 x2.length c2] 3 _ (by kernel_rfl) (fun w => by kernel_rfl) ?_
  refine Run_nil (by kernel_rfl) ?_
  refine Run_keep [2] (L' := [(2, .slice a2 x2.length c2)]) (by kernel_rfl) ?_
  have hF := M.ret_some hF
  subst hF
  have H6 : Hold h h3 [own cd2 a2 x2.length c2 x2] := H5.pick [0] (by kernel_rfl)
  exact Run_ret1 rfl (ResV_tmp (v := .slice a2 x2.length c2) (by kernel_rfl)) ⟨a2, c2, rfl, H6⟩

set_option maxRecDepth 100000 in
set_option maxHeartbeats 4000000 in
theorem w_spec_IsLive (h : Heap) (g : TGraph) (agPlaces : Option Addr) (cgPlaces : Nat) (rgPlaces : Rd cd50 h (Lt h) agPlaces cgPlaces g.Places) (n : Nat) (r : Bool × Int) (hF : spec_IsLive g n = some r) :
    Fn Try.prog 7 #[.agg #[.int .i64 g.Events, .slice agPlaces g.Places.length cgPlaces]] h fun v h' => v = .tuple #[.bool r.1, .int .i64 r.2] ∧ Hold h h' [] := by
  unfold spec_IsLive at hF
  refine Fn_enter (args := [.agg #[.int .i64 g.Events, .slice agPlaces g.Places.length cgPlaces]]) Try.func7 rfl (by kernel_rfl) (by kernel_rfl) (fun w0 _ => ?_)
  have H0 := Hold.init h
  refine Run_seq ?_
  refine Run_ops ?_
  refine Run_E (by kernel_rfl) ?_
  refine E_box (ty := 30) (cs := [.int .i64 g.Events, .slice agPlaces g.Places.length cgPlaces]) H0 (fun w => by kernel_rfl) (fun b1 h1 H1 => ?_)
  refine Run_b [.bool false, .int .i64 0] 1 _ (by kernel_rfl) (fun w => by kernel_rfl) ?_
  refine Run_nil (by kernel_rfl) ?_
  refine Run_keep [1] (L' := [(1, .pointer (some ⟨b1, 0, none⟩))]) (by kernel_rfl) ?_
  refine Run_seq ?_
  refine Run_seq ?_
  obtain ⟨x1, hx1, hF⟩ := M.bind_some hF
  refine Run_regC (j := 3) (C := fun x => Hold h x [box b1 30 [.int .i64 g.Events, .slice agPlaces g.Places.length cgPlaces]]) (by kernel_rfl) H1 (L' := [(1, .pointer (some ⟨b1, 0, none⟩)), (6, .bool (!x1))]) ?_ (fun h2 H2 => ?_)
  · refine QRun_y (.agg #[.int .i64 g.Events, .slice agPlaces g.Places.length cgPlaces]) (by kernel_rfl) (Y_cls fun hx Hx => (Y_loadA (t := 30) (n := 2) (p := ⟨b1, 0, none⟩) (cs := [.int .i64 g.Events, .slice agPlaces g.Places.length cgPlaces]) (by kernel_rfl) (fun w => by kernel_rfl) (by kernel_rfl) rfl (Hx.cells (n := 2) (off := 0) 0 rfl rfl))) ?_
    refine QRun_y (.bool x1) (by kernel_rfl) (Y_call (f := 18) (args := #[.agg #[.int .i64 g.Events, .slice agPlaces g.Places.length cgPlaces]]) (v := .bool x1) (by kernel_rfl) fun hx Hx => (w_spec_IsEventGraph hx g agPlaces cgPlaces (rgPlaces.at Hx.ext) _ _ hx1).mono fun _ _ ⟨e, H'⟩ => ⟨e, Hx.call H' rfl⟩) ?_
    refine QRun_b [.bool (!x1)] 2 _ (by kernel_rfl) (fun w => by kernel_rfl) ?_
    exact QRun_done [1, 6] (by kernel_rfl) (by kernel_rfl)
  have H3 : Hold h h2 [box b1 30 [.int .i64 g.Events, .slice agPlaces g.Places.length cgPlaces]] := H2
  refine Run_cond (b := !x1) (by kernel_rfl) (fun hb1 => ?_) (fun hb1 => ?_)
  · have hF := (M.ite_some hF).1 hb1
    refine Run_seq ?_
    refine Run_reg 2 (by kernel_rfl) (L' := [(2, .bool false), (3, .int .i64 1)]) ?_ ?_
    · refine QRun_b [.bool false, .int .i64 1] 0 _ (by kernel_rfl) (fun w => by kernel_rfl) ?_
      exact QRun_done [2, 3] (by kernel_rfl) (by kernel_rfl)
    have hF := M.ret_some hF
    subst hF
    have H4 : Hold h h2 [] := H3.pick [] (by kernel_rfl)
    exact Run_ret2 rfl (ResV_tmp (v := .bool false) (by kernel_rfl)) (ResV_tmp (v := .int .i64 1) (by kernel_rfl)) ⟨rfl, H4⟩
  · have hF := (M.ite_some hF).2 hb1
    refine Run_skip ?_
    refine Run_seq ?_
    refine Run_ops ?_
    refine Run_y (.agg #[.int .i64 g.Events, .slice agPlaces g.Places.length cgPlaces]) (by kernel_rfl) (Y_loadA (t := 30) (n := 2) (p := ⟨b1, 0, none⟩) (cs := [.int .i64 g.Events, .slice agPlaces g.Places.length cgPlaces]) (by kernel_rfl) (fun w => by kernel_rfl) (by kernel_rfl) rfl (H3.cells (n := 2) (off := 0) 0 rfl rfl)) ?_
    obtain ⟨x2, hx2, hF⟩ := M.bind_some hF
    refine Run_E (by kernel_rfl) ?_
    refine E_call (f := 19) (args := #[.agg #[.int .i64 g.Events, .slice agPlaces g.Places.length cgPlaces]]) (w_spec_l12Dead h2 g agPlaces cgPlaces (rgPlaces.at H3.ext) _ _ hx2) (by kernel_rfl) (fun v1 h3 hp1 => ?_)
    obtain ⟨a1, c1, rfl, H5⟩ := hp1
    have H6 : Hold h h3 [own cd2 a1 x2.length c1 x2, box b1 30 [.int .i64 g.Events, .slice agPlaces g.Places.length cgPlaces]] := H3.call H5 rfl
    refine Run_b [.int .i64 (x2.length : Int), .bool ((x2.length : Int) == 0), .bool ((x2.length : Int) == 0), .int .i64 0] 2 _ (by kernel_rfl) (fun w => by kernel_rfl) ?_
    refine Run_nil (by kernel_rfl) ?_
    refine Run_keep [2, 3] (L' := [(2, .bool ((x2.length : Int) == 0)), (3, .int .i64 0)]) (by kernel_rfl) ?_
    have hF := M.ret_some hF
    subst hF
    have H7 : Hold h h3 [] := H6.pick [] (by kernel_rfl)
    exact Run_ret2 rfl (ResV_tmp (v := .bool ((x2.length : Int) == 0)) (by kernel_rfl)) (ResV_tmp (v := .int .i64 0) (by kernel_rfl)) ⟨rfl, H7⟩

set_option maxRecDepth 100000 in
set_option maxHeartbeats 4000000 in
theorem w_impl_within (h : Heap) (n_ : Int) (low : Int) (high : Int) (n : Nat) (r : Bool) (hF : impl_within n_ low high n = some r) :
    Fn Try.prog 25 #[.int .i64 n_, .int .i64 low, .int .i64 high] h fun v h' => v = .bool r ∧ h' = h := by
  unfold impl_within at hF
  refine Fn_enter (args := [.int .i64 n_, .int .i64 low, .int .i64 high]) Try.func25 rfl (by kernel_rfl) (by kernel_rfl) (fun w0 _ => ?_)
  refine Run_seq ?_
  refine Run_reg 1 (by kernel_rfl) (L' := [(0, .int .i64 n_), (1, .int .i64 low), (2, .int .i64 high)]) ?_ ?_
  · refine QRun_b [.bool false] 0 _ (by kernel_rfl) (fun w => by kernel_rfl) ?_
    exact QRun_done [0, 1, 2] (by kernel_rfl) (by kernel_rfl)
  refine Run_seq ?_
  refine Run_reg 9 (by kernel_rfl) (L' := [(6, .bool ((decide (low ≤ n_)) && (decide (n_ ≤ high))))]) ?_ ?_
  · refine QRun_b [.int .i64 n_, .int .i64 low, .bool (decide (low ≤ n_))] 0 _ (by kernel_rfl) (fun w => by kernel_rfl) ?_
    refine QRun_seq 8 [(14, .bool ((decide (low ≤ n_)) && (decide (n_ ≤ high))))] ?_ ?_
    · rcases Bool.eq_false_or_eq_true (decide (low ≤ n_)) with hb1 | hb1
      · refine QRun_bool (decide (low ≤ n_)) true (by kernel_rfl) (fun w => by kernel_rfl) hb1 ?_
        refine QRun_b [.int .i64 n_, .int .i64 high, .bool (decide (n_ ≤ high))] 4 _ (by kernel_rfl) (fun w => by kernel_rfl) ?_
        refine QRun_bool (decide (n_ ≤ high)) ((decide (low ≤ n_)) && (decide (n_ ≤ high))) (by kernel_rfl) (fun w => by kernel_rfl) (by rw [hb1]; rfl) ?_
        exact QRun_done [14] (by kernel_rfl) (by kernel_rfl)
      · refine QRun_bool (decide (low ≤ n_)) false (by kernel_rfl) (fun w => by kernel_rfl) hb1 ?_
        refine QRun_n (by kernel_rfl) ?_
        refine QRun_n (by kernel_rfl) ?_
        refine QRun_n (by kernel_rfl) ?_
        refine QRun_bool false ((decide (low ≤ n_)) && (decide (n_ ≤ high))) (by kernel_rfl) (fun w => by kernel_rfl) (by rw [hb1]; rfl) ?_
        exact QRun_done [14] (by kernel_rfl) (by kernel_rfl)
    refine QRun_b [.bool ((decide (low ≤ n_)) && (decide (n_ ≤ high)))] 8 _ (by kernel_rfl) (fun w => by kernel_rfl) ?_
    exact QRun_done [6] (by kernel_rfl) (by kernel_rfl)
  have hF := M.ret_some hF
  subst hF
  exact Run_ret1 rfl (ResV_tmp (v := .bool ((decide (low ≤ n_)) && (decide (n_ ≤ high)))) (by kernel_rfl)) ⟨rfl, rfl⟩

set_option maxRecDepth 100000 in
set_option maxHeartbeats 4000000 in
theorem w_impl_isEvent (h : Heap) (g : TGraph) (agPlaces : Option Addr) (cgPlaces : Nat) (rgPlaces : Rd cd50 h (Lt h) agPlaces cgPlaces g.Places) (event : Int) (n : Nat) (r : Bool) (hF : impl_isEvent g event n = some r) :
    Fn Try.prog 53 #[.agg #[.int .i64 g.Events, .slice agPlaces g.Places.length cgPlaces], .int .i64 event] h fun v h' => v = .bool r ∧ Hold h h' [] := by
  unfold impl_isEvent at hF
  refine Fn_enter (args := [.agg #[.int .i64 g.Events, .slice agPlaces g.Places.length cgPlaces], .int .i64 event]) Try.func53 rfl (by kernel_rfl) (by kernel_rfl) (fun w0 _ => ?_)
  have H0 := Hold.init h
  refine Run_seq ?_
  refine Run_ops ?_
  refine Run_E (by kernel_rfl) ?_
  refine E_box (ty := 30) (cs := [.int .i64 g.Events, .slice agPlaces g.Places.length cgPlaces]) H0 (fun w => by kernel_rfl) (fun b1 h1 H1 => ?_)
  refine Run_b [.bool false] 1 _ (by kernel_rfl) (fun w => by kernel_rfl) ?_
  refine Run_nil (by kernel_rfl) ?_
  refine Run_keep [1, 2] (L' := [(1, .int .i64 event), (2, .pointer (some ⟨b1, 0, none⟩))]) (by kernel_rfl) ?_
  refine Run_seq ?_
  obtain ⟨x1, hx1, hF⟩ := M.bind_some hF
  refine Run_reg 6 (by kernel_rfl) (L' := [(4, .bool x1)]) ?_ ?_
  · refine QRun_b [.int .i64 event, .pointer (some ⟨b1, 0, none⟩)] 0 _ (by kernel_rfl) (fun w => by kernel_rfl) ?_
    refine QRun_y (.int .i64 g.Events) (by kernel_rfl) (Y_load1 (t := 2) (p := ⟨b1, 0, none⟩) (v := .int .i64 g.Events) (by kernel_rfl) (fun w => by kernel_rfl) (H1.cell 0 rfl rfl)) ?_
    refine QRun_b [.int .i64 (w64 (g.Events - 1))] 3 _ (by kernel_rfl) (fun w => by kernel_rfl) ?_
    refine QRun_y (.bool x1) (by kernel_rfl) (Y_callq (f := 25) (args := #[.int .i64 event, .int .i64 0, .int .i64 (w64 (g.Events - 1))]) (v := .bool x1) (by kernel_rfl) (w_impl_within h1 event 0 (w64 (g.Events - 1)) _ _ hx1)) ?_
    refine QRun_b [.bool x1] 5 _ (by kernel_rfl) (fun w => by kernel_rfl) ?_
    exact QRun_done [4] (by kernel_rfl) (by kernel_rfl)
  have hF := M.ret_some hF
  subst hF
  have H2 : Hold h h1 [] := H1.pick [] (by kernel_rfl)
  exact Run_ret1 rfl (ResV_tmp (v := .bool x1) (by kernel_rfl)) ⟨rfl, H2⟩

set_option maxRecDepth 100000 in
set_option maxHeartbeats 4000000 in
theorem w_impl_isPlace (h : Heap) (g : TGraph) (agPlaces : Option Addr) (cgPlaces : Nat) (rgPlaces : Rd cd50 h (Lt h) agPlaces cgPlaces g.Places) (p : TPlace) (n : Nat) (r : Bool) (hF : impl_isPlace g p n = some r) :
    Fn Try.prog 39 #[.agg #[.int .i64 g.Events, .slice agPlaces g.Places.length cgPlaces], .agg #[.int .i64 p.From, .int .i64 p.To, .int .i64 p.Delay, .int .i64 p.Tokens]] h fun v h' => v = .bool r ∧ Hold h h' [] := by
  unfold impl_isPlace at hF
  refine Fn_enter (args := [.agg #[.int .i64 g.Events, .slice agPlaces g.Places.length cgPlaces], .agg #[.int .i64 p.From, .int .i64 p.To, .int .i64 p.Delay, .int .i64 p.Tokens]]) Try.func39 rfl (by kernel_rfl) (by kernel_rfl) (fun w0 _ => ?_)
  have H0 := Hold.init h
  refine Run_seq ?_
  refine Run_ops ?_
  refine Run_E (by kernel_rfl) ?_
  refine E_box (ty := 30) (cs := [.int .i64 g.Events, .slice agPlaces g.Places.length cgPlaces]) H0 (fun w => by kernel_rfl) (fun b1 h1 H1 => ?_)
  refine Run_E (by kernel_rfl) ?_
  refine E_box (ty := 50) (cs := [.int .i64 p.From, .int .i64 p.To, .int .i64 p.Delay, .int .i64 p.Tokens]) H1 (fun w => by kernel_rfl) (fun b2 h2 H2 => ?_)
  refine Run_b [.bool false] 2 _ (by kernel_rfl) (fun w => by kernel_rfl) ?_
  refine Run_nil (by kernel_rfl) ?_
  refine Run_keep [2, 3] (L' := [(2, .pointer (some ⟨b1, 0, none⟩)), (3, .pointer (some ⟨b2, 0, none⟩))]) (by kernel_rfl) ?_
  refine Run_seq ?_
  obtain ⟨x1, hx1, hF⟩ := M.bind_some hF
  obtain ⟨x2, gx2, hF⟩ := M.bind_some hF
  obtain ⟨x4, gx4, hF⟩ := M.bind_some hF
  obtain ⟨x6, gx6, hF⟩ := M.bind_some hF
  refine Run_regC (j := 21) (C := fun x => Hold h x [box b2 50 [.int .i64 p.From, .int .i64 p.To, .int .i64 p.Delay, .int .i64 p.Tokens], box b1 30 [.int .i64 g.Events, .slice agPlaces g.Places.length cgPlaces]]) (by kernel_rfl) H2 (L' := [(4, .bool x6)]) ?_ (fun h3 H3 => ?_)
  · refine QRun_y (.agg #[.int .i64 g.Events, .slice agPlaces g.Places.length cgPlaces]) (by kernel_rfl) (Y_cls fun hx Hx => (Y_loadA (t := 30) (n := 2) (p := ⟨b1, 0, none⟩) (cs := [.int .i64 g.Events, .slice agPlaces g.Places.length cgPlaces]) (by kernel_rfl) (fun w => by kernel_rfl) (by kernel_rfl) rfl (Hx.cells (n := 2) (off := 0) 1 rfl rfl))) ?_
    refine QRun_b [.pointer (some ⟨b2, 0, none⟩)] 1 _ (by kernel_rfl) (fun w => by kernel_rfl) ?_
    refine QRun_y (.int .i64 p.From) (by kernel_rfl) (Y_cls fun hx Hx => (Y_load1 (t := 2) (p := ⟨b2, 0, none⟩) (v := .int .i64 p.From) (by kernel_rfl) (fun w => by kernel_rfl) (Hx.cell 0 rfl rfl))) ?_
    refine QRun_y (.bool x1) (by kernel_rfl) (Y_call (f := 53) (args := #[.agg #[.int .i64 g.Events, .slice agPlaces g.Places.length cgPlaces], .int .i64 p.From]) (v := .bool x1) (by kernel_rfl) fun hx Hx => (w_impl_isEvent hx g agPlaces cgPlaces (rgPlaces.at Hx.ext) p.From _ _ hx1).mono fun _ _ ⟨e, H'⟩ => ⟨e, Hx.call H' rfl⟩) ?_
    refine QRun_seq 10 [(3, .pointer (some ⟨b2, 0, none⟩)), (14, .bool x2)] ?_ ?_
    · rcases Bool.eq_false_or_eq_true x1 with hb1 | hb1
      · refine QRun_bool x1 true (by kernel_rfl) (fun w => by kernel_rfl) hb1 ?_
        have gx2 := (M.ite_some gx2).1 hb1
        obtain ⟨x3, hx2, gx2⟩ := M.bind_some gx2
        have gx2 := M.ret_some gx2
        refine QRun_y (.agg #[.int .i64 g.Events, .slice agPlaces g.Places.length cgPlaces]) (by kernel_rfl) (Y_cls fun hx Hx => (Y_loadA (t := 30) (n := 2) (p := ⟨b1, 0, none⟩) (cs := [.int .i64 g.Events, .slice agPlaces g.Places.length cgPlaces]) (by kernel_rfl) (fun w => by kernel_rfl) (by kernel_rfl) rfl (Hx.cells (n := 2) (off := 0) 1 rfl rfl))) ?_
        refine QRun_b [.pointer (some ⟨b2, 1, none⟩)] 6 _ (by kernel_rfl) (fun w => by kernel_rfl) ?_
        refine QRun_y (.int .i64 p.To) (by kernel_rfl) (Y_cls fun hx Hx => (Y_load1 (t := 2) (p := ⟨b2, 1, none⟩) (v := .int .i64 p.To) (by kernel_rfl) (fun w => by kernel_rfl) (Hx.cell 0 rfl rfl))) ?_
        refine QRun_y (.bool x3) (by kernel_rfl) (Y_call (f := 53) (args := #[.agg #[.int .i64 g.Events, .slice agPlaces g.Places.length cgPlaces], .int .i64 p.To]) (v := .bool x3) (by kernel_rfl) fun hx Hx => (w_impl_isEvent hx g agPlaces cgPlaces (rgPlaces.at Hx.ext) p.To _ _ hx2).mono fun _ _ ⟨e, H'⟩ => ⟨e, Hx.call H' rfl⟩) ?_
        refine QRun_bool x3 x2 (by kernel_rfl) (fun w => by kernel_rfl) gx2 ?_
        exact QRun_done [3, 14] (by kernel_rfl) (by kernel_rfl)
      · refine QRun_bool x1 false (by kernel_rfl) (fun w => by kernel_rfl) hb1 ?_
        have gx2 := M.ret_some ((M.ite_some gx2).2 hb1)
        refine QRun_n (by kernel_rfl) ?_
        refine QRun_n (by kernel_rfl) ?_
        refine QRun_n (by kernel_rfl) ?_
        refine QRun_n (by kernel_rfl) ?_
        refine QRun_bool false x2 (by kernel_rfl) (fun w => by kernel_rfl) gx2 ?_
        exact QRun_done [3, 14] (by kernel_rfl) (by kernel_rfl)
    refine QRun_seq 15 [(3, .pointer (some ⟨b2, 0, none⟩)), (19, .bool x4)] ?_ ?_
    · rcases Bool.eq_false_or_eq_true x2 with hb2 | hb2
      · refine QRun_bool x2 true (by kernel_rfl) (fun w => by kernel_rfl) hb2 ?_
        have gx4 := (M.ite_some gx4).1 hb2
        obtain ⟨x5, hx3, gx4⟩ := M.bind_some gx4
        have gx4 := M.ret_some gx4
        refine QRun_b [.pointer (some ⟨b2, 2, none⟩)] 11 _ (by kernel_rfl) (fun w => by kernel_rfl) ?_
        refine QRun_y (.int .i64 p.Delay) (by kernel_rfl) (Y_cls fun hx Hx => (Y_load1 (t := 2) (p := ⟨b2, 2, none⟩) (v := .int .i64 p.Delay) (by kernel_rfl) (fun w => by kernel_rfl) (Hx.cell 0 rfl rfl))) ?_
        refine QRun_y (.bool x5) (by kernel_rfl) (Y_cls fun hx Hx => (Y_callq (f := 25) (args := #[.int .i64 p.Delay, .int .i64 0, .int .i64 1000]) (v := .bool x5) (by kernel_rfl) (w_impl_within hx p.Delay 0 1000 _ _ hx3))) ?_
        refine QRun_bool x5 x4 (by kernel_rfl) (fun w => by kernel_rfl) gx4 ?_
        exact QRun_done [3, 19] (by kernel_rfl) (by kernel_rfl)
      · refine QRun_bool x2 false (by kernel_rfl) (fun w => by kernel_rfl) hb2 ?_
        have gx4 := M.ret_some ((M.ite_some gx4).2 hb2)
        refine QRun_n (by kernel_rfl) ?_
        refine QRun_n (by kernel_rfl) ?_
        refine QRun_n (by kernel_rfl) ?_
        refine QRun_bool false x4 (by kernel_rfl) (fun w => by kernel_rfl) gx4 ?_
        exact QRun_done [3, 19] (by kernel_rfl) (by kernel_rfl)
    refine QRun_seq 20 [(24, .bool x6)] ?_ ?_
    · rcases Bool.eq_false_or_eq_true x4 with hb3 | hb3
      · refine QRun_bool x4 true (by kernel_rfl) (fun w => by kernel_rfl) hb3 ?_
        have gx6 := (M.ite_some gx6).1 hb3
        obtain ⟨x7, hx4, gx6⟩ := M.bind_some gx6
        have gx6 := M.ret_some gx6
        refine QRun_b [.pointer (some ⟨b2, 3, none⟩)] 16 _ (by kernel_rfl) (fun w => by kernel_rfl) ?_
        refine QRun_y (.int .i64 p.Tokens) (by kernel_rfl) (Y_cls fun hx Hx => (Y_load1 (t := 2) (p := ⟨b2, 3, none⟩) (v := .int .i64 p.Tokens) (by kernel_rfl) (fun w => by kernel_rfl) (Hx.cell 0 rfl rfl))) ?_
        refine QRun_y (.bool x7) (by kernel_rfl) (Y_cls fun hx Hx => (Y_callq (f := 25) (args := #[.int .i64 p.Tokens, .int .i64 0, .int .i64 5]) (v := .bool x7) (by kernel_rfl) (w_impl_within hx p.Tokens 0 5 _ _ hx4))) ?_
        refine QRun_bool x7 x6 (by kernel_rfl) (fun w => by kernel_rfl) gx6 ?_
        exact QRun_done [24] (by kernel_rfl) (by kernel_rfl)
      · refine QRun_bool x4 false (by kernel_rfl) (fun w => by kernel_rfl) hb3 ?_
        have gx6 := M.ret_some ((M.ite_some gx6).2 hb3)
        refine QRun_n (by kernel_rfl) ?_
        refine QRun_n (by kernel_rfl) ?_
        refine QRun_n (by kernel_rfl) ?_
        refine QRun_bool false x6 (by kernel_rfl) (fun w => by kernel_rfl) gx6 ?_
        exact QRun_done [24] (by kernel_rfl) (by kernel_rfl)
    refine QRun_b [.bool x6] 20 _ (by kernel_rfl) (fun w => by kernel_rfl) ?_
    exact QRun_done [4] (by kernel_rfl) (by kernel_rfl)
  have H4 : Hold h h3 [box b2 50 [.int .i64 p.From, .int .i64 p.To, .int .i64 p.Delay, .int .i64 p.Tokens], box b1 30 [.int .i64 g.Events, .slice agPlaces g.Places.length cgPlaces]] := H3
  have hF := M.ret_some hF
  subst hF
  have H5 : Hold h h3 [] := H4.pick [] (by kernel_rfl)
  exact Run_ret1 rfl (ResV_tmp (v := .bool x6) (by kernel_rfl)) ⟨rfl, H5⟩

set_option maxRecDepth 100000 in
set_option maxHeartbeats 4000000 in
theorem w_impl_IsEventGraph_1 (h : Heap) (p : TPlace) (z0 : TGraph) (az0Places : Option Addr) (cz0Places : Nat) (rz0Places : Rd cd50 h (Lt h) az0Places cz0Places z0.Places) (bz0 : Nat) (vz0 : VarAt h bz0 30 [.int .i64 z0.Events, .slice az0Places z0.Places.length cz0Places]) (n : Nat) (r : Bool) (hF : impl_IsEventGraph_1 p z0 n = some r) :
    Fn Try.prog 38 #[.agg #[.int .i64 p.From, .int .i64 p.To, .int .i64 p.Delay, .int .i64 p.Tokens], .pointer (some ⟨bz0, 0, none⟩)] h fun v h' => v = .bool r ∧ Hold h h' [] := by
  unfold impl_IsEventGraph_1 at hF
  refine Fn_enter (args := [.agg #[.int .i64 p.From, .int .i64 p.To, .int .i64 p.Delay, .int .i64 p.Tokens], .pointer (some ⟨bz0, 0, none⟩)]) Try.func38 rfl (by kernel_rfl) (by kernel_rfl) (fun w0 _ => ?_)
  have H0 := Hold.init h
  refine Run_seq ?_
  refine Run_ops ?_
  refine Run_E (by kernel_rfl) ?_
  refine E_box (ty := 50) (cs := [.int .i64 p.From, .int .i64 p.To, .int .i64 p.Delay, .int .i64 p.Tokens]) H0 (fun w => by kernel_rfl) (fun b1 h1 H1 => ?_)
  refine Run_b [.bool false] 1 _ (by kernel_rfl) (fun w => by kernel_rfl) ?_
  refine Run_nil (by kernel_rfl) ?_
  refine Run_keep [1, 2] (L' := [(1, .pointer (some ⟨bz0, 0, none⟩)), (2, .pointer (some ⟨b1, 0, none⟩))]) (by kernel_rfl) ?_
  refine Run_seq ?_
  obtain ⟨x1, hx1, hF⟩ := M.bind_some hF
  refine Run_regC (j := 5) (C := fun x => Hold h x [box b1 50 [.int .i64 p.From, .int .i64 p.To, .int .i64 p.Delay, .int .i64 p.Tokens]]) (by kernel_rfl) H1 (L' := [(3, .bool (!x1))]) ?_ (fun h2 H2 => ?_)
  · refine QRun_y (.agg #[.int .i64 z0.Events, .slice az0Places z0.Places.length cz0Places]) (by kernel_rfl) (Y_cls fun hx Hx => (Y_loadA (t := 30) (n := 2) (p := ⟨bz0, 0, none⟩) (cs := [.int .i64 z0.Events, .slice az0Places z0.Places.length cz0Places]) (by kernel_rfl) (fun w => by kernel_rfl) (by kernel_rfl) rfl (VarAt.cells (n := 2) (off := 0) (vz0.at Hx.ext) rfl))) ?_
    refine QRun_y (.agg #[.int .i64 p.From, .int .i64 p.To, .int .i64 p.Delay, .int .i64 p.Tokens]) (by kernel_rfl) (Y_cls fun hx Hx => (Y_loadA (t := 50) (n := 4) (p := ⟨b1, 0, none⟩) (cs := [.int .i64 p.From, .int .i64 p.To, .int .i64 p.Delay, .int .i64 p.Tokens]) (by kernel_rfl) (fun w => by kernel_rfl) (by kernel_rfl) rfl (Hx.cells (n := 4) (off := 0) 0 rfl rfl))) ?_
    refine QRun_y (.bool x1) (by kernel_rfl) (Y_call (f := 39) (args := #[.agg #[.int .i64 z0.Events, .slice az0Places z0.Places.length cz0Places], .agg #[.int .i64 p.From, .int .i64 p.To, .int .i64 p.Delay, .int .i64 p.Tokens]]) (v := .bool x1) (by kernel_rfl) fun hx Hx => (w_impl_isPlace hx z0 az0Places cz0Places (rz0Places.at Hx.ext) p _ _ hx1).mono fun _ _ ⟨e, H'⟩ => ⟨e, Hx.call H' rfl⟩) ?_
    refine QRun_b [.bool (!x1), .bool (!x1)] 3 _ (by kernel_rfl) (fun w => by kernel_rfl) ?_
    exact QRun_done [3] (by kernel_rfl) (by kernel_rfl)
  have H3 : Hold h h2 [box b1 50 [.int .i64 p.From, .int .i64 p.To, .int .i64 p.Delay, .int .i64 p.Tokens]] := H2
  have hF := M.ret_some hF
  subst hF
  have H4 : Hold h h2 [] := H3.pick [] (by kernel_rfl)
  exact Run_ret1 rfl (ResV_tmp (v := .bool (!x1)) (by kernel_rfl)) ⟨rfl, H4⟩

set_option maxRecDepth 100000 in
set_option maxHeartbeats 4000000 in
theorem w_slices_IndexFunc_Place_F_impl_IsEventGraph_1 (h : Heap) (s_ : List TPlace) (as_ : Option Addr) (cs_ : Nat) (rs_ : Rd cd50 h (Lt h) as_ cs_ s_) (f0 : TGraph) (af0Places : Option Addr) (cf0Places : Nat) (rf0Places : Rd cd50 h (Lt h) af0Places cf0Places f0.Places) (bf0 : Nat) (vf0 : VarAt h bf0 30 [.int .i64 f0.Events, .slice af0Places f0.Places.length cf0Places]) (n : Nat) (r : Int) (hF : slices_IndexFunc_Place_F_impl_IsEventGraph_1 s_ f0 n = some r) :
    Fn Try.prog 52 #[.slice as_ s_.length cs_, .func (.func 38) #[] #[.pointer (some ⟨bf0, 0, none⟩)]] h fun v h' => v = .int .i64 r ∧ Hold h h' [] := by
  unfold slices_IndexFunc_Place_F_impl_IsEventGraph_1 at hF
  refine Fn_enter (args := [.slice as_ s_.length cs_, .func (.func 38) #[] #[.pointer (some ⟨bf0, 0, none⟩)]]) Try.func52 rfl (by kernel_rfl) (by kernel_rfl) (fun w0 _ => ?_)
  have H0 := Hold.init h
  refine Run_seq ?_
  refine Run_reg 1 (by kernel_rfl) (L' := [(0, .slice as_ s_.length cs_), (1, .func (.func 38) #[] #[.pointer (some ⟨bf0, 0, none⟩)])]) ?_ ?_
  · refine QRun_b [.int .i64 0] 0 _ (by kernel_rfl) (fun w => by kernel_rfl) ?_
    exact QRun_done [0, 1] (by kernel_rfl) (by kernel_rfl)
  refine Run_seq ?_
  refine Run_seq ?_
  refine Run_reg 3 (by kernel_rfl) (L' := [(0, .slice as_ s_.length cs_), (1, .func (.func 38) #[] #[.pointer (some ⟨bf0, 0, none⟩)]), (7, .int .i64 (s_.length : Int)), (8, .int .i64 0)]) ?_ ?_
  · refine QRun_b [.slice as_ s_.length cs_, .int .i64 (s_.length : Int), .int .i64 0] 0 _ (by kernel_rfl) (fun w => by kernel_rfl) ?_
    exact QRun_done [0, 1, 7, 8] (by kernel_rfl) (by kernel_rfl)
  obtain ⟨x1, gx1, hF⟩ := M.bind_some hF
  obtain ⟨hloy1, hhiy1, gx1⟩ := M.for_start gx1
  refine Run_join (fun L' h' => ∃ (s2 : Unit), x1 = .inl s2 ∧ L' = [] ∧ Hold h h' []) ?_ ?_
  · rintro _ h2 ⟨s2, es2, rfl, H2⟩
    have hF := M.cont_inl' hF es2
    refine Run_seq ?_
    refine Run_reg 1 (by kernel_rfl) (L' := [(4, .int .i64 (-1))]) ?_ ?_
    · refine QRun_b [.int .i64 (-1)] 0 _ (by kernel_rfl) (fun w => by kernel_rfl) ?_
      exact QRun_done [4] (by kernel_rfl) (by kernel_rfl)
    have hF := M.ret_some hF
    subst hF
    exact Run_ret1 rfl (ResV_tmp (v := .int .i64 (-1)) (by kernel_rfl)) ⟨rfl, H2⟩
  · refine Run_block ?_
    refine Run_keep [0, 1, 7, 8] (L' := [(0, .slice as_ s_.length cs_), (1, .func (.func 38) #[] #[.pointer (some ⟨bf0, 0, none⟩)]), (7, .int .i64 (s_.length : Int)), (8, .int .i64 0)]) (by kernel_rfl) ?_
    refine Run_loop (fun m L' h' => ∃ (i1 : Int) (s1 : Unit), 0 ≤ i1 ∧ M.forN (s_.length : Int) _ _ n m i1 s1 = some x1 ∧ L' = [(0, .slice as_ s_.length cs_), (1, .func (.func 38) #[] #[.pointer (some ⟨bf0, 0, none⟩)]), (7, .int .i64 (s_.length : Int)), (8, .int .i64 i1)] ∧ Hold h h' []) ((s_.length : Int) - 0 : Int).toNat ⟨0, (), Int.le_refl _, gx1, rfl, H0⟩ ?_
    rintro my1 _ h1 ⟨i1, s1, hloy1', gx1, rfl, H1⟩
    refine Run_seq ?_
    refine Run_reg 1 (by kernel_rfl) (L' := [(0, .slice as_ s_.length cs_), (1, .func (.func 38) #[] #[.pointer (some ⟨bf0, 0, none⟩)]), (7, .int .i64 (s_.length : Int)), (8, .int .i64 i1), (9, .bool (decide (i1 < (s_.length : Int))))]) ?_ ?_
    · refine QRun_b [.bool (decide (i1 < (s_.length : Int)))] 0 _ (by kernel_rfl) (fun w => by kernel_rfl) ?_
      exact QRun_done [0, 1, 7, 8, 9] (by kernel_rfl) (by kernel_rfl)
    refine Run_seq ?_
    refine Run_cond (b := decide (i1 < (s_.length : Int))) (by kernel_rfl) (fun hb1 => ?_) (fun hb1 => ?_)
    · obtain ⟨my1, y1, rfl, hB1, hgoy1, houty1⟩ := M.for_go gx1 hb1
      have hlty1 := of_decide_eq_true hb1
      refine Run_skip ?_
      refine Run_seq ?_
      refine Run_block ?_
      refine Run_seq ?_
      refine Run_reg 2 (by kernel_rfl) (L' := [(0, .slice as_ s_.length cs_), (1, .func (.func 38) #[] #[.pointer (some ⟨bf0, 0, none⟩)]), (5, .int .i64 i1), (7, .int .i64 (s_.length : Int)), (8, .int .i64 i1)]) ?_ ?_
      · refine QRun_b [.int .i64 i1, .int .i64 i1] 0 _ (by kernel_rfl) (fun w => by kernel_rfl) ?_
        exact QRun_done [0, 1, 5, 7, 8] (by kernel_rfl) (by kernel_rfl)
      refine Run_seq ?_
      obtain ⟨x2, hx1, hB1⟩ := M.bind_some hB1
      obtain ⟨hx1l, hx1u, hx1⟩ := M.idx_some hx1
      obtain ⟨x3, hx2, hB1⟩ := M.bind_some hB1
      refine Run_regC (j := 6) (C := fun x => Hold h x []) (by kernel_rfl) H1 (L' := [(0, .slice as_ s_.length cs_), (1, .func (.func 38) #[] #[.pointer (some ⟨bf0, 0, none⟩)]), (5, .int .i64 i1), (7, .int .i64 (s_.length : Int)), (8, .int .i64 i1), (16, .bool x3)]) ?_ (fun h3 H3 => ?_)
      · refine QRun_b [.func (.func 38) #[] #[.pointer (some ⟨bf0, 0, none⟩)], .slice as_ s_.length cs_, .int .i64 i1] 0 _ (by kernel_rfl) (fun w => by kernel_rfl) ?_
        refine QRun_y (.pointer (some (adr as_ (i1.toNat * 4)))) (by kernel_rfl) (Y_cls fun hx Hx => (Y_idx (t := 28) (e := 50) (sz := 4) (a := as_) (n := s_.length) (cap := cs_) (kk := .i64) (i := i1) (by kernel_rfl) Try.underlying28 (by kernel_rfl) ((rs_.at H1.ext).cell hx1).1 hx1l hx1u)) ?_
        refine QRun_y (.agg #[.int .i64 x2.From, .int .i64 x2.To, .int .i64 x2.Delay, .int .i64 x2.Tokens]) (by kernel_rfl) (Y_cls fun hx Hx => (Y_loadA (t := 50) (n := 4) (p := adr as_ (i1.toNat * 4)) (cs := [.int .i64 x2.From, .int .i64 x2.To, .int .i64 x2.Delay, .int .i64 x2.Tokens]) (by kernel_rfl) (fun w => by kernel_rfl) (by kernel_rfl) rfl (cd50_elem (rs_.at Hx.ext) hx1))) ?_
        refine QRun_y (.bool x3) (by kernel_rfl) (Y_call (f := 38) (args := #[.agg #[.int .i64 x2.From, .int .i64 x2.To, .int .i64 x2.Delay, .int .i64 x2.Tokens], .pointer (some ⟨bf0, 0, none⟩)]) (v := .bool x3) (by kernel_rfl) fun hx Hx => (w_impl_IsEventGraph_1 hx x2 f0 af0Places cf0Places (rf0Places.at Hx.ext) bf0 (vf0.at Hx.ext) _ _ hx2).mono fun _ _ ⟨e, H'⟩ => ⟨e, Hx.call H' rfl⟩) ?_
        exact QRun_done [0, 1, 5, 7, 8, 16] (by kernel_rfl) (by kernel_rfl)
      have H4 : Hold h h3 [] := H3
      refine Run_cond (b := x3) (by kernel_rfl) (fun hb2 => ?_) (fun hb2 => ?_)
      · have hB1 := (M.ite_some hB1).1 hb2
        refine Run_seq ?_
        refine Run_reg 2 (by kernel_rfl) (L' := [(4, .int .i64 i1)]) ?_ ?_
        · refine QRun_b [.int .i64 i1, .int .i64 i1] 0 _ (by kernel_rfl) (fun w => by kernel_rfl) ?_
          exact QRun_done [4] (by kernel_rfl) (by kernel_rfl)
        have hB1 := M.ret_some hB1
        have gx1 := houty1 _ hB1.symm
        have hF := M.cont_inr' hF gx1
        have hF := M.ret_some hF
        subst hF
        exact Run_ret1 rfl (ResV_tmp (v := .int .i64 i1) (by kernel_rfl)) ⟨rfl, H4⟩
      · have hB1 := (M.ite_some hB1).2 hb2
        refine Run_skip ?_
        refine Run_blk ?_
        refine Run_reg 2 (by kernel_rfl) (L' := [(0, .slice as_ s_.length cs_), (1, .func (.func 38) #[] #[.pointer (some ⟨bf0, 0, none⟩)]), (7, .int .i64 (s_.length : Int)), (8, .int .i64 (i1 + 1))]) ?_ ?_
        · refine QRun_y (.int .i64 (i1 + 1)) (by kernel_rfl) (Y_eq (v := .int .i64 (w64 (i1 + 1))) (Y_pure (fun w => by kernel_rfl)) (by rw [w64_eq _ (by omega)])) ?_
          refine QRun_b [.int .i64 (i1 + 1)] 1 _ (by kernel_rfl) (fun w => by kernel_rfl) ?_
          exact QRun_done [0, 1, 7, 8] (by kernel_rfl) (by kernel_rfl)
        have hB1 := M.ret_some hB1
        have gx1 := hgoy1 _ hB1.symm
        exact Run_again [0, 1, 7, 8] (by kernel_rfl) my1 (Nat.lt_succ_self _) ⟨i1 + 1, (), by omega, gx1, rfl, H4⟩
    · have gx1 := M.for_end gx1 hb1
      subst gx1
      refine Run_exit (k' := _) rfl ?_
      exact Run_fall [] (by kernel_rfl) ⟨(), rfl, rfl, H1⟩

set_option maxRecDepth 100000 in
set_option maxHeartbeats 4000000 in
theorem w_slices_ContainsFunc_Place_F_impl_IsEventGraph_1 (h : Heap) (s_ : List TPlace) (as_ : Option Addr) (cs_ : Nat) (rs_ : Rd cd50 h (Lt h) as_ cs_ s_) (f0 : TGraph) (af0Places : Option Addr) (cf0Places : Nat) (rf0Places : Rd cd50 h (Lt h) af0Places cf0Places f0.Places) (bf0 : Nat) (vf0 : VarAt h bf0 30 [.int .i64 f0.Events, .slice af0Places f0.Places.length cf0Places]) (n : Nat) (r : Bool) (hF : slices_ContainsFunc_Place_F_impl_IsEventGraph_1 s_ f0 n = some r) :
    Fn Try.prog 37 #[.slice as_ s_.length cs_, .func (.func 38) #[] #[.pointer (some ⟨bf0, 0, none⟩)]] h fun v h' => v = .bool r ∧ Hold h h' [] := by
  unfold slices_ContainsFunc_Place_F_impl_IsEventGraph_1 at hF
  refine Fn_enter (args := [.slice as_ s_.length cs_, .func (.func 38) #[] #[.pointer (some ⟨bf0, 0, none⟩)]]) Try.func37 rfl (by kernel_rfl) (by kernel_rfl) (fun w0 _ => ?_)
  have H0 := Hold.init h
  refine Run_seq ?_
  refine Run_reg 1 (by kernel_rfl) (L' := [(0, .slice as_ s_.length cs_), (1, .func (.func 38) #[] #[.pointer (some ⟨bf0, 0, none⟩)])]) ?_ ?_
  · refine QRun_b [.bool false] 0 _ (by kernel_rfl) (fun w => by kernel_rfl) ?_
    exact QRun_done [0, 1] (by kernel_rfl) (by kernel_rfl)
  refine Run_seq ?_
  obtain ⟨x1, hx1, hF⟩ := M.bind_some hF
  refine Run_regC (j := 5) (C := fun x => Hold h x []) (by kernel_rfl) H0 (L' := [(4, .bool (decide (0 ≤ x1)))]) ?_ (fun h1 H1 => ?_)
  · refine QRun_b [.slice as_ s_.length cs_, .func (.func 38) #[] #[.pointer (some ⟨bf0, 0, none⟩)]] 0 _ (by kernel_rfl) (fun w => by kernel_rfl) ?_
    refine QRun_y (.int .i64 x1) (by kernel_rfl) (Y_call (f := 52) (args := #[.slice as_ s_.length cs_, .func (.func 38) #[] #[.pointer (some ⟨bf0, 0, none⟩)]]) (v := .int .i64 x1) (by kernel_rfl) fun hx Hx => (w_slices_IndexFunc_Place_F_impl_IsEventGraph_1 hx s_ as_ cs_ (rs_.at Hx.ext) f0 af0Places cf0Places (rf0Places.at Hx.ext) bf0 (vf0.at Hx.ext) _ _ hx1).mono fun _ _ ⟨e, H'⟩ => ⟨e, Hx.call H' rfl⟩) ?_
    refine QRun_b [.bool (decide (0 ≤ x1)), .bool (decide (0 ≤ x1))] 3 _ (by kernel_rfl) (fun w => by kernel_rfl) ?_
    exact QRun_done [4] (by kernel_rfl) (by kernel_rfl)
  have H2 : Hold h h1 [] := H1
  have hF := M.ret_some hF
  subst hF
  exact Run_ret1 rfl (ResV_tmp (v := .bool (decide (0 ≤ x1))) (by kernel_rfl)) ⟨rfl, H2⟩

set_option maxRecDepth 100000 in
set_option maxHeartbeats 4000000 in
theorem w_impl_IsEventGraph (h : Heap) (g : TGraph) (agPlaces : Option Addr) (cgPlaces : Nat) (rgPlaces : Rd cd50 h (Lt h) agPlaces cgPlaces g.Places) (n : Nat) (r : Bool) (hF : impl_IsEventGraph g n = some r) :
    Fn Try.prog 21 #[.agg #[.int .i64 g.Events, .slice agPlaces g.Places.length cgPlaces]] h fun v h' => v = .bool r ∧ Hold h h' [] := by
  unfold impl_IsEventGraph at hF
  refine Fn_enter (args := [.agg #[.int .i64 g.Events, .slice agPlaces g.Places.length cgPlaces]]) Try.func21 rfl (by kernel_rfl) (by kernel_rfl) (fun w0 _ => ?_)
  have H0 := Hold.init h
  refine Run_seq ?_
  refine Run_ops ?_
  refine Run_E (by kernel_rfl) ?_
  refine E_box (ty := 30) (cs := [.int .i64 g.Events, .slice agPlaces g.Places.length cgPlaces]) H0 (fun w => by kernel_rfl) (fun b1 h1 H1 => ?_)
  refine Run_b [.bool false] 1 _ (by kernel_rfl) (fun w => by kernel_rfl) ?_
  refine Run_nil (by kernel_rfl) ?_
  refine Run_keep [1] (L' := [(1, .pointer (some ⟨b1, 0, none⟩))]) (by kernel_rfl) ?_
  refine Run_seq ?_
  obtain ⟨x1, hx1, hF⟩ := M.bind_some hF
  obtain ⟨x3, gx3, hF⟩ := M.bind_some hF
  refine Run_regC (j := 17) (C := fun x => Hold h x [box b1 30 [.int .i64 g.Events, .slice agPlaces g.Places.length cgPlaces]]) (by kernel_rfl) H1 (L' := [(2, .bool x3)]) ?_ (fun h2 H2 => ?_)
  · refine QRun_b [.pointer (some ⟨b1, 0, none⟩)] 0 _ (by kernel_rfl) (fun w => by kernel_rfl) ?_
    refine QRun_y (.int .i64 g.Events) (by kernel_rfl) (Y_cls fun hx Hx => (Y_load1 (t := 2) (p := ⟨b1, 0, none⟩) (v := .int .i64 g.Events) (by kernel_rfl) (fun w => by kernel_rfl) (Hx.cell 0 rfl rfl))) ?_
    refine QRun_y (.bool x1) (by kernel_rfl) (Y_cls fun hx Hx => (Y_callq (f := 25) (args := #[.int .i64 g.Events, .int .i64 1, .int .i64 10]) (v := .bool x1) (by kernel_rfl) (w_impl_within hx g.Events 1 10 _ _ hx1))) ?_
    refine QRun_seq 9 [(1, .pointer (some ⟨b1, 0, none⟩)), (11, .bool (x1 && (decide ((g.Places.length : Int) ≤ 30))))] ?_ ?_
    · rcases Bool.eq_false_or_eq_true x1 with hb1 | hb1
      · refine QRun_bool x1 true (by kernel_rfl) (fun w => by kernel_rfl) hb1 ?_
        refine QRun_b [.pointer (some ⟨b1, 1, none⟩)] 4 _ (by kernel_rfl) (fun w => by kernel_rfl) ?_
        refine QRun_y (.slice agPlaces g.Places.length cgPlaces) (by kernel_rfl) (Y_cls fun hx Hx => (Y_load1 (t := 28) (p := ⟨b1, 1, none⟩) (v := .slice agPlaces g.Places.length cgPlaces) (by kernel_rfl) (fun w => by kernel_rfl) (Hx.cell 0 rfl rfl))) ?_
        refine QRun_b [.int .i64 (g.Places.length : Int), .bool (decide ((g.Places.length : Int) ≤ 30))] 6 _ (by kernel_rfl) (fun w => by kernel_rfl) ?_
        refine QRun_bool (decide ((g.Places.length : Int) ≤ 30)) (x1 && (decide ((g.Places.length : Int) ≤ 30))) (by kernel_rfl) (fun w => by kernel_rfl) (by rw [hb1]; rfl) ?_
        exact QRun_done [1, 11] (by kernel_rfl) (by kernel_rfl)
      · refine QRun_bool x1 false (by kernel_rfl) (fun w => by kernel_rfl) hb1 ?_
        refine QRun_n (by kernel_rfl) ?_
        refine QRun_n (by kernel_rfl) ?_
        refine QRun_n (by kernel_rfl) ?_
        refine QRun_n (by kernel_rfl) ?_
        refine QRun_bool false (x1 && (decide ((g.Places.length : Int) ≤ 30))) (by kernel_rfl) (fun w => by kernel_rfl) (by rw [hb1]; rfl) ?_
        exact QRun_done [1, 11] (by kernel_rfl) (by kernel_rfl)
    refine QRun_seq 16 [(18, .bool x3)] ?_ ?_
    · rcases Bool.eq_false_or_eq_true (x1 && (decide ((g.Places.length : Int) ≤ 30))) with hb2 | hb2
      · refine QRun_bool (x1 && (decide ((g.Places.length : Int) ≤ 30))) true (by kernel_rfl) (fun w => by kernel_rfl) hb2 ?_
        have gx3 := (M.ite_some gx3).1 hb2
        obtain ⟨x4, hx2, gx3⟩ := M.bind_some gx3
        have gx3 := M.ret_some gx3
        refine QRun_b [.pointer (some ⟨b1, 1, none⟩)] 10 _ (by kernel_rfl) (fun w => by kernel_rfl) ?_
        refine QRun_y (.slice agPlaces g.Places.length cgPlaces) (by kernel_rfl) (Y_cls fun hx Hx => (Y_load1 (t := 28) (p := ⟨b1, 1, none⟩) (v := .slice agPlaces g.Places.length cgPlaces) (by kernel_rfl) (fun w => by kernel_rfl) (Hx.cell 0 rfl rfl))) ?_
        refine QRun_b [.func (.func 38) #[] #[.pointer (some ⟨b1, 0, none⟩)]] 12 _ (by kernel_rfl) (fun w => by kernel_rfl) ?_
        refine QRun_y (.bool x4) (by kernel_rfl) (Y_call (f := 37) (args := #[.slice agPlaces g.Places.length cgPlaces, .func (.func 38) #[] #[.pointer (some ⟨b1, 0, none⟩)]]) (v := .bool x4) (by kernel_rfl) fun hx Hx => (w_slices_ContainsFunc_Place_F_impl_IsEventGraph_1 hx g.Places agPlaces cgPlaces (rgPlaces.at Hx.ext) g agPlaces cgPlaces (rgPlaces.at Hx.ext) b1 (Hx.var 0 rfl) _ _ hx2).mono fun _ _ ⟨e, H'⟩ => ⟨e, Hx.call H' rfl⟩) ?_
        refine QRun_b [.bool (!x4)] 14 _ (by kernel_rfl) (fun w => by kernel_rfl) ?_
        refine QRun_bool (!x4) x3 (by kernel_rfl) (fun w => by kernel_rfl) gx3 ?_
        exact QRun_done [18] (by kernel_rfl) (by kernel_rfl)
      · refine QRun_bool (x1 && (decide ((g.Places.length : Int) ≤ 30))) false (by kernel_rfl) (fun w => by kernel_rfl) hb2 ?_
        have gx3 := M.ret_some ((M.ite_some gx3).2 hb2)
        refine QRun_n (by kernel_rfl) ?_
        refine QRun_n (by kernel_rfl) ?_
        refine QRun_n (by kernel_rfl) ?_
        refine QRun_n (by kernel_rfl) ?_
        refine QRun_n (by kernel_rfl) ?_
        refine QRun_bool false x3 (by kernel_rfl) (fun w => by kernel_rfl) gx3 ?_
        exact QRun_done [18] (by kernel_rfl) (by kernel_rfl)
    refine QRun_b [.bool x3] 16 _ (by kernel_rfl) (fun w => by kernel_rfl) ?_
    exact QRun_done [2] (by kernel_rfl) (by kernel_rfl)
  have H3 : Hold h h2 [box b1 30 [.int .i64 g.Events, .slice agPlaces g.Places.length cgPlaces]] := H2
  have hF := M.ret_some hF
  subst hF
  have H4 : Hold h h2 [] := H3.pick [] (by kernel_rfl)
  exact Run_ret1 rfl (ResV_tmp (v := .bool x3) (by kernel_rfl)) ⟨rfl, H4⟩

set_option maxRecDepth 100000 in
set_option maxHeartbeats 4000000 in
theorem w_slices_Index_int (h : Heap) (s_ : List Int) {Ss_ : Bs} (as_ : Option Addr) (cs_ : Nat) (rs_ : Rd cd2 h Ss_ as_ cs_ s_) (v_ : Int) (n : Nat) (r : Int) (hF : slices_Index_int s_ v_ n = some r) :
    Fn Try.prog 61 #[.slice as_ s_.length cs_, .int .i64 v_] h fun v h' => v = .int .i64 r ∧ h' = h := by
  unfold slices_Index_int at hF
  refine Fn_enter (args := [.slice as_ s_.length cs_, .int .i64 v_]) Try.func61 rfl (by kernel_rfl) (by kernel_rfl) (fun w0 _ => ?_)
  refine Run_seq ?_
  refine Run_reg 1 (by kernel_rfl) (L' := [(0, .slice as_ s_.length cs_), (1, .int .i64 v_)]) ?_ ?_
  · refine QRun_b [.int .i64 0] 0 _ (by kernel_rfl) (fun w => by kernel_rfl) ?_
    exact QRun_done [0, 1] (by kernel_rfl) (by kernel_rfl)
  refine Run_seq ?_
  refine Run_seq ?_
  refine Run_reg 3 (by kernel_rfl) (L' := [(0, .slice as_ s_.length cs_), (1, .int .i64 v_), (7, .int .i64 (s_.length : Int)), (8, .int .i64 0)]) ?_ ?_
  · refine QRun_b [.slice as_ s_.length cs_, .int .i64 (s_.length : Int), .int .i64 0] 0 _ (by kernel_rfl) (fun w => by kernel_rfl) ?_
    exact QRun_done [0, 1, 7, 8] (by kernel_rfl) (by kernel_rfl)
  obtain ⟨x1, gx1, hF⟩ := M.bind_some hF
  obtain ⟨hloy1, hhiy1, gx1⟩ := M.for_start gx1
  refine Run_join (fun L' h' => ∃ (s2 : Unit), x1 = .inl s2 ∧ L' = [] ∧ h = h') ?_ ?_
  · rintro _ _ ⟨s2, es2, rfl, rfl⟩
    have hF := M.cont_inl' hF es2
    refine Run_seq ?_
    refine Run_reg 1 (by kernel_rfl) (L' := [(4, .int .i64 (-1))]) ?_ ?_
    · refine QRun_b [.int .i64 (-1)] 0 _ (by kernel_rfl) (fun w => by kernel_rfl) ?_
      exact QRun_done [4] (by kernel_rfl) (by kernel_rfl)
    have hF := M.ret_some hF
    subst hF
    exact Run_ret1 rfl (ResV_tmp (v := .int .i64 (-1)) (by kernel_rfl)) ⟨rfl, rfl⟩
  · refine Run_block ?_
    refine Run_keep [0, 1, 7, 8] (L' := [(0, .slice as_ s_.length cs_), (1, .int .i64 v_), (7, .int .i64 (s_.length : Int)), (8, .int .i64 0)]) (by kernel_rfl) ?_
    refine Run_loop (fun m L' h' => ∃ (i1 : Int) (s1 : Unit), 0 ≤ i1 ∧ M.forN (s_.length : Int) _ _ n m i1 s1 = some x1 ∧ L' = [(0, .slice as_ s_.length cs_), (1, .int .i64 v_), (7, .int .i64 (s_.length : Int)), (8, .int .i64 i1)] ∧ h = h') ((s_.length : Int) - 0 : Int).toNat ⟨0, (), Int.le_refl _, gx1, rfl, rfl⟩ ?_
    rintro my1 _ _ ⟨i1, s1, hloy1', gx1, rfl, rfl⟩
    refine Run_seq ?_
    refine Run_reg 1 (by kernel_rfl) (L' := [(0, .slice as_ s_.length cs_), (1, .int .i64 v_), (7, .int .i64 (s_.length : Int)), (8, .int .i64 i1), (9, .bool (decide (i1 < (s_.length : Int))))]) ?_ ?_
    · refine QRun_b [.bool (decide (i1 < (s_.length : Int)))] 0 _ (by kernel_rfl) (fun w => by kernel_rfl) ?_
      exact QRun_done [0, 1, 7, 8, 9] (by kernel_rfl) (by kernel_rfl)
    refine Run_seq ?_
    refine Run_cond (b := decide (i1 < (s_.length : Int))) (by kernel_rfl) (fun hb1 => ?_) (fun hb1 => ?_)
    · obtain ⟨my1, y1, rfl, hB1, hgoy1, houty1⟩ := M.for_go gx1 hb1
      have hlty1 := of_decide_eq_true hb1
      refine Run_skip ?_
      refine Run_seq ?_
      refine Run_block ?_
      refine Run_seq ?_
      refine Run_reg 2 (by kernel_rfl) (L' := [(0, .slice as_ s_.length cs_), (1, .int .i64 v_), (5, .int .i64 i1), (7, .int .i64 (s_.length : Int)), (8, .int .i64 i1)]) ?_ ?_
      · refine QRun_b [.int .i64 i1, .int .i64 i1] 0 _ (by kernel_rfl) (fun w => by kernel_rfl) ?_
        exact QRun_done [0, 1, 5, 7, 8] (by kernel_rfl) (by kernel_rfl)
      refine Run_seq ?_
      obtain ⟨x2, hx1, hB1⟩ := M.bind_some hB1
      obtain ⟨hx1l, hx1u, hx1⟩ := M.idx_some hx1
      refine Run_reg 6 (by kernel_rfl) (L' := [(0, .slice as_ s_.length cs_), (1, .int .i64 v_), (5, .int .i64 i1), (7, .int .i64 (s_.length : Int)), (8, .int .i64 i1), (16, .bool (v_ == x2))]) ?_ ?_
      · refine QRun_b [.int .i64 v_, .slice as_ s_.length cs_, .int .i64 i1] 0 _ (by kernel_rfl) (fun w => by kernel_rfl) ?_
        refine QRun_y (.pointer (some (adr as_ (i1.toNat * 1)))) (by kernel_rfl) (Y_idx (t := 41) (e := 2) (sz := 1) (a := as_) (n := s_.length) (cap := cs_) (kk := .i64) (i := i1) (by kernel_rfl) Try.underlying41 (by kernel_rfl) (rs_.cell hx1).1 hx1l hx1u) ?_
        refine QRun_y (.int .i64 x2) (by kernel_rfl) (Y_load1 (t := 2) (p := adr as_ (i1.toNat * 1)) (v := .int .i64 x2) (by kernel_rfl) (fun w => by kernel_rfl) (cd2_cell rs_ hx1)) ?_
        refine QRun_b [.bool (v_ == x2)] 5 _ (by kernel_rfl) (fun w => by kernel_rfl) ?_
        exact QRun_done [0, 1, 5, 7, 8, 16] (by kernel_rfl) (by kernel_rfl)
      refine Run_cond (b := v_ == x2) (by kernel_rfl) (fun hb2 => ?_) (fun hb2 => ?_)
      · have hB1 := (M.ite_some hB1).1 hb2
        refine Run_seq ?_
        refine Run_reg 2 (by kernel_rfl) (L' := [(4, .int .i64 i1)]) ?_ ?_
        · refine QRun_b [.int .i64 i1, .int .i64 i1] 0 _ (by kernel_rfl) (fun w => by kernel_rfl) ?_
          exact QRun_done [4] (by kernel_rfl) (by kernel_rfl)
        have hB1 := M.ret_some hB1
        have gx1 := houty1 _ hB1.symm
        have hF := M.cont_inr' hF gx1
        have hF := M.ret_some hF
        subst hF
        exact Run_ret1 rfl (ResV_tmp (v := .int .i64 i1) (by kernel_rfl)) ⟨rfl, rfl⟩
      · have hB1 := (M.ite_some hB1).2 hb2
        refine Run_skip ?_
        refine Run_blk ?_
        refine Run_reg 2 (by kernel_rfl) (L' := [(0, .slice as_ s_.length cs_), (1, .int .i64 v_), (7, .int .i64 (s_.length : Int)), (8, .int .i64 (i1 + 1))]) ?_ ?_
        · refine QRun_y (.int .i64 (i1 + 1)) (by kernel_rfl) (Y_eq (v := .int .i64 (w64 (i1 + 1))) (Y_pure (fun w => by kernel_rfl)) (by rw [w64_eq _ (by omega)])) ?_
          refine QRun_b [.int .i64 (i1 + 1)] 1 _ (by kernel_rfl) (fun w => by kernel_rfl) ?_
          exact QRun_done [0, 1, 7, 8] (by kernel_rfl) (by kernel_rfl)
        have hB1 := M.ret_some hB1
        have gx1 := hgoy1 _ hB1.symm
        exact Run_again [0, 1, 7, 8] (by kernel_rfl) my1 (Nat.lt_succ_self _) ⟨i1 + 1, (), by omega, gx1, rfl, rfl⟩
    · have gx1 := M.for_end gx1 hb1
      subst gx1
      refine Run_exit (k' := _) rfl ?_
      exact Run_fall [] (by kernel_rfl) ⟨(), rfl, rfl, rfl⟩

set_option maxRecDepth 100000 in
set_option maxHeartbeats 4000000 in
theorem w_slices_Contains_int (h : Heap) (s_ : List Int) {Ss_ : Bs} (as_ : Option Addr) (cs_ : Nat) (rs_ : Rd cd2 h Ss_ as_ cs_ s_) (v_ : Int) (n : Nat) (r : Bool) (hF : slices_Contains_int s_ v_ n = some r) :
    Fn Try.prog 54 #[.slice as_ s_.length cs_, .int .i64 v_] h fun v h' => v = .bool r ∧ h' = h := by
  unfold slices_Contains_int at hF
  refine Fn_enter (args := [.slice as_ s_.length cs_, .int .i64 v_]) Try.func54 rfl (by kernel_rfl) (by kernel_rfl) (fun w0 _ => ?_)
  refine Run_seq ?_
  refine Run_reg 1 (by kernel_rfl) (L' := [(0, .slice as_ s_.length cs_), (1, .int .i64 v_)]) ?_ ?_
  · refine QRun_b [.bool false] 0 _ (by kernel_rfl) (fun w => by kernel_rfl) ?_
    exact QRun_done [0, 1] (by kernel_rfl) (by kernel_rfl)
  refine Run_seq ?_
  obtain ⟨x1, hx1, hF⟩ := M.bind_some hF
  refine Run_reg 5 (by kernel_rfl) (L' := [(4, .bool (decide (0 ≤ x1)))]) ?_ ?_
  · refine QRun_b [.slice as_ s_.length cs_, .int .i64 v_] 0 _ (by kernel_rfl) (fun w => by kernel_rfl) ?_
    refine QRun_y (.int .i64 x1) (by kernel_rfl) (Y_callq (f := 61) (args := #[.slice as_ s_.length cs_, .int .i64 v_]) (v := .int .i64 x1) (by kernel_rfl) (w_slices_Index_int h s_ as_ cs_ rs_ v_ _ _ hx1)) ?_
    refine QRun_b [.bool (decide (0 ≤ x1)), .bool (decide (0 ≤ x1))] 3 _ (by kernel_rfl) (fun w => by kernel_rfl) ?_
    exact QRun_done [4] (by kernel_rfl) (by kernel_rfl)
  have hF := M.ret_some hF
  subst hF
  exact Run_ret1 rfl (ResV_tmp (v := .bool (decide (0 ≤ x1))) (by kernel_rfl)) ⟨rfl, rfl⟩

set_option maxRecDepth 100000 in
set_option maxHeartbeats 4000000 in
theorem w_impl_firingOrder_1 (h : Heap) (p : TPlace) (z0 : Int) (bz0 : Nat) (vz0 : VarAt h bz0 2 [.int .i64 z0]) (z1 : List Int) (az1 : Option Addr) (cz1 : Nat) (rz1 : Rd cd2 h (Lt h) az1 cz1 z1) (bz1 : Nat) (vz1 : VarAt h bz1 41 [.slice az1 z1.length cz1]) (n : Nat) (r : Bool) (hF : impl_firingOrder_1 p z0 z1 n = some r) :
    Fn Try.prog 55 #[.agg #[.int .i64 p.From, .int .i64 p.To, .int .i64 p.Delay, .int .i64 p.Tokens], .pointer (some ⟨bz0, 0, none⟩), .pointer (some ⟨bz1, 0, none⟩)] h fun v h' => v = .bool r ∧ Hold h h' [] := by
  unfold impl_firingOrder_1 at hF
  refine Fn_enter (args := [.agg #[.int .i64 p.From, .int .i64 p.To, .int .i64 p.Delay, .int .i64 p.Tokens], .pointer (some ⟨bz0, 0, none⟩), .pointer (some ⟨bz1, 0, none⟩)]) Try.func55 rfl (by kernel_rfl) (by kernel_rfl) (fun w0 _ => ?_)
  have H0 := Hold.init h
  refine Run_seq ?_
  refine Run_ops ?_
  refine Run_E (by kernel_rfl) ?_
  refine E_box (ty := 50) (cs := [.int .i64 p.From, .int .i64 p.To, .int .i64 p.Delay, .int .i64 p.Tokens]) H0 (fun w => by kernel_rfl) (fun b1 h1 H1 => ?_)
  refine Run_b [.bool false] 1 _ (by kernel_rfl) (fun w => by kernel_rfl) ?_
  refine Run_nil (by kernel_rfl) ?_
  refine Run_keep [1, 2, 3] (L' := [(1, .pointer (some ⟨bz0, 0, none⟩)), (2, .pointer (some ⟨bz1, 0, none⟩)), (3, .pointer (some ⟨b1, 0, none⟩))]) (by kernel_rfl) ?_
  refine Run_seq ?_
  obtain ⟨x2, gx2, hF⟩ := M.bind_some hF
  refine Run_reg 17 (by kernel_rfl) (L' := [(4, .bool x2)]) ?_ ?_
  · refine QRun_b [.pointer (some ⟨b1, 1, none⟩)] 0 _ (by kernel_rfl) (fun w => by kernel_rfl) ?_
    refine QRun_y (.int .i64 p.To) (by kernel_rfl) (Y_load1 (t := 2) (p := ⟨b1, 1, none⟩) (v := .int .i64 p.To) (by kernel_rfl) (fun w => by kernel_rfl) (H1.cell 0 rfl rfl)) ?_
    refine QRun_y (.int .i64 z0) (by kernel_rfl) (Y_load1 (t := 2) (p := ⟨bz0, 0, none⟩) (v := .int .i64 z0) (by kernel_rfl) (fun w => by kernel_rfl) (VarAt.cell (vz0.at H1.ext) rfl)) ?_
    refine QRun_b [.bool (p.To == z0)] 3 _ (by kernel_rfl) (fun w => by kernel_rfl) ?_
    refine QRun_seq 9 [(2, .pointer (some ⟨bz1, 0, none⟩)), (3, .pointer (some ⟨b1, 0, none⟩)), (13, .bool ((p.To == z0) && (p.Tokens == 0)))] ?_ ?_
    · rcases Bool.eq_false_or_eq_true (p.To == z0) with hb1 | hb1
      · refine QRun_bool (p.To == z0) true (by kernel_rfl) (fun w => by kernel_rfl) hb1 ?_
        refine QRun_b [.pointer (some ⟨b1, 3, none⟩)] 5 _ (by kernel_rfl) (fun w => by kernel_rfl) ?_
        refine QRun_y (.int .i64 p.Tokens) (by kernel_rfl) (Y_load1 (t := 2) (p := ⟨b1, 3, none⟩) (v := .int .i64 p.Tokens) (by kernel_rfl) (fun w => by kernel_rfl) (H1.cell 0 rfl rfl)) ?_
        refine QRun_b [.bool (p.Tokens == 0)] 7 _ (by kernel_rfl) (fun w => by kernel_rfl) ?_
        refine QRun_bool (p.Tokens == 0) ((p.To == z0) && (p.Tokens == 0)) (by kernel_rfl) (fun w => by kernel_rfl) (by rw [hb1]; rfl) ?_
        exact QRun_done [2, 3, 13] (by kernel_rfl) (by kernel_rfl)
      · refine QRun_bool (p.To == z0) false (by kernel_rfl) (fun w => by kernel_rfl) hb1 ?_
        refine QRun_n (by kernel_rfl) ?_
        refine QRun_n (by kernel_rfl) ?_
        refine QRun_n (by kernel_rfl) ?_
        refine QRun_bool false ((p.To == z0) && (p.Tokens == 0)) (by kernel_rfl) (fun w => by kernel_rfl) (by rw [hb1]; rfl) ?_
        exact QRun_done [2, 3, 13] (by kernel_rfl) (by kernel_rfl)
    refine QRun_seq 16 [(20, .bool x2)] ?_ ?_
    · rcases Bool.eq_false_or_eq_true ((p.To == z0) && (p.Tokens == 0)) with hb2 | hb2
      · refine QRun_bool ((p.To == z0) && (p.Tokens == 0)) true (by kernel_rfl) (fun w => by kernel_rfl) hb2 ?_
        have gx2 := (M.ite_some gx2).1 hb2
        obtain ⟨x3, hx1, gx2⟩ := M.bind_some gx2
        have gx2 := M.ret_some gx2
        refine QRun_y (.slice az1 z1.length cz1) (by kernel_rfl) (Y_load1 (t := 41) (p := ⟨bz1, 0, none⟩) (v := .slice az1 z1.length cz1) (by kernel_rfl) (fun w => by kernel_rfl) (VarAt.cell (vz1.at H1.ext) rfl)) ?_
        refine QRun_b [.pointer (some ⟨b1, 0, none⟩)] 11 _ (by kernel_rfl) (fun w => by kernel_rfl) ?_
        refine QRun_y (.int .i64 p.From) (by kernel_rfl) (Y_load1 (t := 2) (p := ⟨b1, 0, none⟩) (v := .int .i64 p.From) (by kernel_rfl) (fun w => by kernel_rfl) (H1.cell 0 rfl rfl)) ?_
        refine QRun_y (.bool x3) (by kernel_rfl) (Y_callq (f := 54) (args := #[.slice az1 z1.length cz1, .int .i64 p.From]) (v := .bool x3) (by kernel_rfl) (w_slices_Contains_int h1 z1 az1 cz1 (rz1.at H1.ext) p.From _ _ hx1)) ?_
        refine QRun_b [.bool (!x3)] 14 _ (by kernel_rfl) (fun w => by kernel_rfl) ?_
        refine QRun_bool (!x3) x2 (by kernel_rfl) (fun w => by kernel_rfl) gx2 ?_
        exact QRun_done [20] (by kernel_rfl) (by kernel_rfl)
      · refine QRun_bool ((p.To == z0) && (p.Tokens == 0)) false (by kernel_rfl) (fun w => by kernel_rfl) hb2 ?_
        have gx2 := M.ret_some ((M.ite_some gx2).2 hb2)
        refine QRun_n (by kernel_rfl) ?_
        refine QRun_n (by kernel_rfl) ?_
        refine QRun_n (by kernel_rfl) ?_
        refine QRun_n (by kernel_rfl) ?_
        refine QRun_n (by kernel_rfl) ?_
        refine QRun_bool false x2 (by kernel_rfl) (fun w => by kernel_rfl) gx2 ?_
        exact QRun_done [20] (by kernel_rfl) (by kernel_rfl)
    refine QRun_b [.bool x2] 16 _ (by kernel_rfl) (fun w => by kernel_rfl) ?_
    exact QRun_done [4] (by kernel_rfl) (by kernel_rfl)
  have hF := M.ret_some hF
  subst hF
  have H2 : Hold h h1 [] := H1.pick [] (by kernel_rfl)
  exact Run_ret1 rfl (ResV_tmp (v := .bool x2) (by kernel_rfl)) ⟨rfl, H2⟩

set_option maxRecDepth 100000 in
set_option maxHeartbeats 4000000 in
theorem w_slices_IndexFunc_Place_F_impl_firingOrder_1 (h : Heap) (s_ : List TPlace) (as_ : Option Addr) (cs_ : Nat) (rs_ : Rd cd50 h (Lt h) as_ cs_ s_) (f0 : Int) (bf0 : Nat) (vf0 : VarAt h bf0 2 [.int .i64 f0]) (f1 : List Int) (af1 : Option Addr) (cf1 : Nat) (rf1 : Rd cd2 h (Lt h) af1 cf1 f1) (bf1 : Nat) (vf1 : VarAt h bf1 41 [.slice af1 f1.length cf1]) (n : Nat) (r : Int) (hF : slices_IndexFunc_Place_F_impl_firingOrder_1 s_ f0 f1 n = some r) :
    Fn Try.prog 52 #[.slice as_ s_.length cs_, .func (.func 55) #[] #[.pointer (some ⟨bf0, 0, none⟩), .pointer (some ⟨bf1, 0, none⟩)]] h fun v h' => v = .int .i64 r ∧ Hold h h' [] := by
  unfold slices_IndexFunc_Place_F_impl_firingOrder_1 at hF
  refine Fn_enter (args := [.slice as_ s_.length cs_, .func (.func 55) #[] #[.pointer (some ⟨bf0, 0, none⟩), .pointer (some ⟨bf1, 0, none⟩)]]) Try.func52 rfl (by kernel_rfl) (by kernel_rfl) (fun w0 _ => ?_)
  have H0 := Hold.init h
  refine Run_seq ?_
  refine Run_reg 1 (by kernel_rfl) (L' := [(0, .slice as_ s_.length cs_), (1, .func (.func 55) #[] #[.pointer (some ⟨bf0, 0, none⟩), .pointer (some ⟨bf1, 0, none⟩)])]) ?_ ?_
  · refine QRun_b [.int .i64 0] 0 _ (by kernel_rfl) (fun w => by kernel_rfl) ?_
    exact QRun_done [0, 1] (by kernel_rfl) (by kernel_rfl)
  refine Run_seq ?_
  refine Run_seq ?_
  refine Run_reg 3 (by kernel_rfl) (L' := [(0, .slice as_ s_.length cs_), (1, .func (.func 55) #[] #[.pointer (some ⟨bf0, 0, none⟩), .pointer (some ⟨bf1, 0, none⟩)]), (7, .int .i64 (s_.length : Int)), (8, .int .i64 0)]) ?_ ?_
  · refine QRun_b [.slice as_ s_.length cs_, .int .i64 (s_.length : Int), .int .i64 0] 0 _ (by kernel_rfl) (fun w => by kernel_rfl) ?_
    exact QRun_done [0, 1, 7, 8] (by kernel_rfl) (by kernel_rfl)
  obtain ⟨x1, gx1, hF⟩ := M.bind_some hF
  obtain ⟨hloy1, hhiy1, gx1⟩ := M.for_start gx1
  refine Run_join (fun L' h' => ∃ (s2 : Unit), x1 = .inl s2 ∧ L' = [] ∧ Hold h h' []) ?_ ?_
  · rintro _ h2 ⟨s2, es2, rfl, H2⟩
    have hF := M.cont_inl' hF es2
    refine Run_seq ?_
    refine Run_reg 1 (by kernel_rfl) (L' := [(4, .int .i64 (-1))]) ?_ ?_
    · refine QRun_b [.int .i64 (-1)] 0 _ (by kernel_rfl) (fun w => by kernel_rfl) ?_
      exact QRun_done [4] (by kernel_rfl) (by kernel_rfl)
    have hF := M.ret_some hF
    subst hF
    exact Run_ret1 rfl (ResV_tmp (v := .int .i64 (-1)) (by kernel_rfl)) ⟨rfl, H2⟩
  · refine Run_block ?_
    refine Run_keep [0, 1, 7, 8] (L' := [(0, .slice as_ s_.length cs_), (1, .func (.func 55) #[] #[.pointer (some ⟨bf0, 0, none⟩), .pointer (some ⟨bf1, 0, none⟩)]), (7, .int .i64 (s_.length : Int)), (8, .int .i64 0)]) (by kernel_rfl) ?_
    refine Run_loop (fun m L' h' => ∃ (i1 : Int) (s1 : Unit), 0 ≤ i1 ∧ M.forN (s_.length : Int) _ _ n m i1 s1 = some x1 ∧ L' = [(0, .slice as_ s_.length cs_), (1, .func (.func 55) #[] #[.pointer (some ⟨bf0, 0, none⟩), .pointer (some ⟨bf1, 0, none⟩)]), (7, .int .i64 (s_.length : Int)), (8, .int .i64 i1)] ∧ Hold h h' []) ((s_.length : Int) - 0 : Int).toNat ⟨0, (), Int.le_refl _, gx1, rfl, H0⟩ ?_
    rintro my1 _ h1 ⟨i1, s1, hloy1', gx1, rfl, H1⟩
    refine Run_seq ?_
    refine Run_reg 1 (by kernel_rfl) (L' := [(0, .slice as_ s_.length cs_), (1, .func (.func 55) #[] #[.pointer (some ⟨bf0, 0, none⟩), .pointer (some ⟨bf1, 0, none⟩)]), (7, .int .i64 (s_.length : Int)), (8, .int .i64 i1), (9, .bool (decide (i1 < (s_.length : Int))))]) ?_ ?_
    · refine QRun_b [.bool (decide (i1 < (s_.length : Int)))] 0 _ (by kernel_rfl) (fun w => by kernel_rfl) ?_
      exact QRun_done [0, 1, 7, 8, 9] (by kernel_rfl) (by kernel_rfl)
    refine Run_seq ?_
    refine Run_cond (b := decide (i1 < (s_.length : Int))) (by kernel_rfl) (fun hb1 => ?_) (fun hb1 => ?_)
    · obtain ⟨my1, y1, rfl, hB1, hgoy1, houty1⟩ := M.for_go gx1 hb1
      have hlty1 := of_decide_eq_true hb1
      refine Run_skip ?_
      refine Run_seq ?_
      refine Run_block ?_
      refine Run_seq ?_
      refine Run_reg 2 (by kernel_rfl) (L' := [(0, .slice as_ s_.length cs_), (1, .func (.func 55) #[] #[.pointer (some ⟨bf0, 0, none⟩), .pointer (some ⟨bf1, 0, none⟩)]), (5, .int .i64 i1), (7, .int .i64 (s_.length : Int)), (8, .int .i64 i1)]) ?_ ?_
      · refine QRun_b [.int .i64 i1, .int .i64 i1] 0 _ (by kernel_rfl) (fun w => by kernel_rfl) ?_
        exact QRun_done [0, 1, 5, 7, 8] (by kernel_rfl) (by kernel_rfl)
      refine Run_seq ?_
      obtain ⟨x2, hx1, hB1⟩ := M.bind_some hB1
      obtain ⟨hx1l, hx1u, hx1⟩ := M.idx_some hx1
      obtain ⟨x3, hx2, hB1⟩ := M.bind_some hB1
      refine Run_regC (j := 6) (C := fun x => Hold h x []) (by kernel_rfl) H1 (L' := [(0, .slice as_ s_.length cs_), (1, .func (.func 55) #[] #[.pointer (some ⟨bf0, 0, none⟩), .pointer (some ⟨bf1, 0, none⟩)]), (5, .int .i64 i1), (7, .int .i64 (s_.length : Int)), (8, .int .i64 i1), (16, .bool x3)]) ?_ (fun h3 H3 => ?_)
      · refine QRun_b [.func (.func 55) #[] #[.pointer (some ⟨bf0, 0, none⟩), .pointer (some ⟨bf1, 0, none⟩)], .slice as_ s_.length cs_, .int .i64 i1] 0 _ (by kernel_rfl) (fun w => by kernel_rfl) ?_
        refine QRun_y (.pointer (some (adr as_ (i1.toNat * 4)))) (by kernel_rfl) (Y_cls fun hx Hx => (Y_idx (t := 28) (e := 50) (sz := 4) (a := as_) (n := s_.length) (cap := cs_) (kk := .i64) (i := i1) (by kernel_rfl) Try.underlying28 (by kernel_rfl) ((rs_.at H1.ext).cell hx1).1 hx1l hx1u)) ?_
        refine QRun_y (.agg #[.int .i64 x2.From, .int .i64 x2.To, .int .i64 x2.Delay, .int .i64 x2.Tokens]) (by kernel_rfl) (Y_cls fun hx Hx => (Y_loadA (t := 50) (n := 4) (p := adr as_ (i1.toNat * 4)) (cs := [.int .i64 x2.From, .int .i64 x2.To, .int .i64 x2.Delay, .int .i64 x2.Tokens]) (by kernel_rfl) (fun w => by kernel_rfl) (by kernel_rfl) rfl (cd50_elem (rs_.at Hx.ext) hx1))) ?_
        refine QRun_y (.bool x3) (by kernel_rfl) (Y_call (f := 55) (args := #[.agg #[.int .i64 x2.From, .int .i64 x2.To, .int .i64 x2.Delay, .int .i64 x2.Tokens], .pointer (some ⟨bf0, 0, none⟩), .pointer (some ⟨bf1, 0, none⟩)]) (v := .bool x3) (by kernel_rfl) fun hx Hx => (w_impl_firingOrder_1 hx x2 f0 bf0 (vf0.at Hx.ext) f1 af1 cf1 (rf1.at Hx.ext) bf1 (vf1.at Hx.ext) _ _ hx2).mono fun _ _ ⟨e, H'⟩ => ⟨e, Hx.call H' rfl⟩) ?_
        exact QRun_done [0, 1, 5, 7, 8, 16] (by kernel_rfl) (by kernel_rfl)
      have H4 : Hold h h3 [] := H3
      refine Run_cond (b := x3) (by kernel_rfl) (fun hb2 => ?_) (fun hb2 => ?_)
      · have hB1 := (M.ite_some hB1).1 hb2
        refine Run_seq ?_
        refine Run_reg 2 (by kernel_rfl) (L' := [(4, .int .i64 i1)]) ?_ ?_
        · refine QRun_b [.int .i64 i1, .int .i64 i1] 0 _ (by kernel_rfl) (fun w => by kernel_rfl) ?_
          exact QRun_done [4] (by kernel_rfl) (by kernel_rfl)
        have hB1 := M.ret_some hB1
        have gx1 := houty1 _ hB1.symm
        have hF := M.cont_inr' hF gx1
        have hF := M.ret_some hF
        subst hF
        exact Run_ret1 rfl (ResV_tmp (v := .int .i64 i1) (by kernel_rfl)) ⟨rfl, H4⟩
      · have hB1 := (M.ite_some hB1).2 hb2
        refine Run_skip ?_
        refine Run_blk ?_
        refine Run_reg 2 (by kernel_rfl) (L' := [(0, .slice as_ s_.length cs_), (1, .func (.func 55) #[] #[.pointer (some ⟨bf0, 0, none⟩), .pointer (some ⟨bf1, 0, none⟩)]), (7, .int .i64 (s_.length : Int)), (8, .int .i64 (i1 + 1))]) ?_ ?_
        · refine QRun_y (.int .i64 (i1 + 1)) (by kernel_rfl) (Y_eq (v := .int .i64 (w64 (i1 + 1))) (Y_pure (fun w => by kernel_rfl)) (by rw [w64_eq _ (by omega)])) ?_
          refine QRun_b [.int .i64 (i1 + 1)] 1 _ (by kernel_rfl) (fun w => by kernel_rfl) ?_
          exact QRun_done [0, 1, 7, 8] (by kernel_rfl) (by kernel_rfl)
        have hB1 := M.ret_some hB1
        have gx1 := hgoy1 _ hB1.symm
        exact Run_again [0, 1, 7, 8] (by kernel_rfl) my1 (Nat.lt_succ_self _) ⟨i1 + 1, (), by omega, gx1, rfl, H4⟩
    · have gx1 := M.for_end gx1 hb1
      subst gx1
      refine Run_exit (k' := _) rfl ?_
      exact Run_fall [] (by kernel_rfl) ⟨(), rfl, rfl, H1⟩

set_option maxRecDepth 100000 in
set_option maxHeartbeats 4000000 in
theorem w_slices_ContainsFunc_Place_F_impl_firingOrder_1 (h : Heap) (s_ : List TPlace) (as_ : Option Addr) (cs_ : Nat) (rs_ : Rd cd50 h (Lt h) as_ cs_ s_) (f0 : Int) (bf0 : Nat) (vf0 : VarAt h bf0 2 [.int .i64 f0]) (f1 : List Int) (af1 : Option Addr) (cf1 : Nat) (rf1 : Rd cd2 h (Lt h) af1 cf1 f1) (bf1 : Nat) (vf1 : VarAt h bf1 41 [.slice af1 f1.length cf1]) (n : Nat) (r : Bool) (hF : slices_ContainsFunc_Place_F_impl_firingOrder_1 s_ f0 f1 n = some r) :
    Fn Try.prog 37 #[.slice as_ s_.length cs_, .func (.func 55) #[] #[.pointer (some ⟨bf0, 0, none⟩), .pointer (some ⟨bf1, 0, none⟩)]] h fun v h' => v = .bool r ∧ Hold h h' [] := by
  unfold slices_ContainsFunc_Place_F_impl_firingOrder_1 at hF
  refine Fn_enter (args := [.slice as_ s_.length cs_, .func (.func 55) #[] #[.pointer (some ⟨bf0, 0, none⟩), .pointer (some ⟨bf1, 0, none⟩)]]) Try.func37 rfl (by kernel_rfl) (by kernel_rfl) (fun w0 _ => ?_)
  have H0 := Hold.init h
  refine Run_seq ?_
  refine Run_reg 1 (by kernel_rfl) (L' := [(0, .slice as_ s_.length cs_), (1, .func (.func 55) #[] #[.pointer (some ⟨bf0, 0, none⟩), .pointer (some ⟨bf1, 0, none⟩)])]) ?_ ?_
  · refine QRun_b [.bool false] 0 _ (by kernel_rfl) (fun w => by kernel_rfl) ?_
    exact QRun_done [0, 1] (by kernel_rfl) (by kernel_rfl)
  refine Run_seq ?_
  obtain ⟨x1, hx1, hF⟩ := M.bind_some hF
  refine Run_regC (j := 5) (C := fun x => Hold h x []) (by kernel_rfl) H0 (L' := [(4, .bool (decide (0 ≤ x1)))]) ?_ (fun h1 H1 => ?_)
  · refine QRun_b [.slice as_ s_.length cs_, .func (.func 55) #[] #[.pointer (some ⟨bf0, 0, none⟩), .pointer (some ⟨bf1, 0, none⟩)]] 0 _ (by kernel_rfl) (fun w => by kernel_rfl) ?_
    refine QRun_y (.int .i64 x1) (by kernel_rfl) (Y_call (f := 52) (args := #[.slice as_ s_.length cs_, .func (.func 55) #[] #[.pointer (some ⟨bf0, 0, none⟩), .pointer (some ⟨bf1, 0, none⟩)]]) (v := .int .i64 x1) (by kernel_rfl) fun hx Hx => (w_slices_IndexFunc_Place_F_impl_firingOrder_1 hx s_ as_ cs_ (rs_.at Hx.ext) f0 bf0 (vf0.at Hx.ext) f1 af1 cf1 (rf1.at Hx.ext) bf1 (vf1.at Hx.ext) _ _ hx1).mono fun _ _ ⟨e, H'⟩ => ⟨e, Hx.call H' rfl⟩) ?_
    refine QRun_b [.bool (decide (0 ≤ x1)), .bool (decide (0 ≤ x1))] 3 _ (by kernel_rfl) (fun w => by kernel_rfl) ?_
    exact QRun_done [4] (by kernel_rfl) (by kernel_rfl)
  have H2 : Hold h h1 [] := H1
  have hF := M.ret_some hF
  subst hF
  exact Run_ret1 rfl (ResV_tmp (v := .bool (decide (0 ≤ x1))) (by kernel_rfl)) ⟨rfl, H2⟩

set_option maxRecDepth 100000 in
set_option maxHeartbeats 4000000 in
theorem w_impl_firingOrder (h : Heap) (g : TGraph) (agPlaces : Option Addr) (cgPlaces : Nat) (rgPlaces : Rd cd50 h (Lt h) agPlaces cgPlaces g.Places) (n : Nat) (r : (List Int) × Bool) (hF : impl_firingOrder g n = some r) :
    Fn Try.prog 40 #[.agg #[.int .i64 g.Events, .slice agPlaces g.Places.length cgPlaces]] h fun v h' => ∃ (a0 : Option Addr) (c0 : Nat), v = .tuple #[.slice a0 r.1.length c0, .bool r.2] ∧ Hold h h' [own cd2 a0 r.1.length c0 r.1] := by
  unfold impl_firingOrder at hF
  refine Fn_enter (args := [.agg #[.int .i64 g.Events, .slice agPlaces g.Places.length cgPlaces]]) Try.func40 rfl (by kernel_rfl) (by kernel_rfl) (fun w0 _ => ?_)
  have H0 := Hold.init h
  refine Run_seq ?_
  refine Run_ops ?_
  refine Run_E (by kernel_rfl) ?_
  refine E_box (ty := 30) (cs := [.int .i64 g.Events, .slice agPlaces g.Places.length cgPlaces]) H0 (fun w => by kernel_rfl) (fun b1 h1 H1 => ?_)
  refine Run_b [.slice none 0 0, .bool false] 1 _ (by kernel_rfl) (fun w => by kernel_rfl) ?_
  refine Run_nil (by kernel_rfl) ?_
  refine Run_keep [1] (L' := [(1, .pointer (some ⟨b1, 0, none⟩))]) (by kernel_rfl) ?_
  refine Run_seq ?_
  refine Run_ops ?_
  refine Run_E (by kernel_rfl) ?_
  refine E_box (ty := 41) (cs := [.slice none 0 0]) H1 (fun w => by kernel_rfl) (fun b2 h2 H2 => ?_)
  refine Run_nil (by kernel_rfl) ?_
  refine Run_keep [1, 4] (L' := [(1, .pointer (some ⟨b1, 0, none⟩)), (4, .pointer (some ⟨b2, 0, none⟩))]) (by kernel_rfl) ?_
  refine Run_seq ?_
  obtain ⟨x1, gx1, hF⟩ := M.bind_some hF
  refine Run_join (fun L' h' => ∃ (s2 : (List Int)) (a2 : Option Addr) (c2 : Nat), x1 = .inl s2 ∧ L' = [(4, .pointer (some ⟨b2, 0, none⟩))] ∧ Hold h h' [box b2 41 [.slice a2 s2.length c2], own cd2 a2 s2.length c2 s2]) ?_ ?_
  · rintro _ h4 ⟨s2, a2, c2, es2, rfl, H4⟩
    have hF := M.cont_inl' hF es2
    refine Run_seq ?_
    refine Run_reg 3 (by kernel_rfl) (L' := [(2, .slice a2 s2.length c2), (3, .bool true)]) ?_ ?_
    · refine QRun_y (.slice a2 s2.length c2) (by kernel_rfl) (Y_load1 (t := 41) (p := ⟨b2, 0, none⟩) (v := .slice a2 s2.length c2) (by kernel_rfl) (fun w => by kernel_rfl) (H4.cell 0 rfl rfl)) ?_
      refine QRun_b [.slice a2 s2.length c2, .bool true] 1 _ (by kernel_rfl) (fun w => by kernel_rfl) ?_
      exact QRun_done [2, 3] (by kernel_rfl) (by kernel_rfl)
    have hF := M.ret_some hF
    subst hF
    have H31 : Hold h h4 [own cd2 a2 s2.length c2 s2, box b2 41 [.slice a2 s2.length c2]] := H4.pick [1, 0] (by kernel_rfl)
    have H32 : Hold h h4 [own cd2 a2 s2.length c2 s2] := H31.pick [0] (by kernel_rfl)
    exact Run_ret2 rfl (ResV_tmp (v := .slice a2 s2.length c2) (by kernel_rfl)) (ResV_tmp (v := .bool true) (by kernel_rfl)) ⟨a2, c2, rfl, H32⟩
  · refine Run_block ?_
    have H33 := H2.empty cd2
    have H34 : Hold h h2 [box b1 30 [.int .i64 g.Events, .slice agPlaces g.Places.length cgPlaces], box b2 41 [.slice none 0 0], own cd2 none 0 0 []] := H33.pick [2, 1, 0] (by kernel_rfl)
    refine Run_keep [1, 4] (L' := [(1, .pointer (some ⟨b1, 0, none⟩)), (4, .pointer (some ⟨b2, 0, none⟩))]) (by kernel_rfl) ?_
    refine Run_loop (fun m L' h' => ∃ (s1 : (List Int)) (a1 : Option Addr) (c1 : Nat), M.loopN _ n m s1 = some x1 ∧ L' = [(1, .pointer (some ⟨b1, 0, none⟩)), (4, .pointer (some ⟨b2, 0, none⟩))] ∧ Hold h h' [box b1 30 [.int .i64 g.Events, .slice agPlaces g.Places.length cgPlaces], box b2 41 [.slice a1 s1.length c1], own cd2 a1 s1.length c1 s1]) n ⟨[], none, 0, gx1, rfl, H34⟩ ?_
    rintro my1 _ h3 ⟨s1, a1, c1, gx1, rfl, H3⟩
    obtain ⟨my1, y1, rfl, hB1, hgoy1, houty1⟩ := M.loop_some gx1
    refine Run_seq ?_
    refine Run_seq ?_
    refine Run_reg 5 (by kernel_rfl) (L' := [(1, .pointer (some ⟨b1, 0, none⟩)), (4, .pointer (some ⟨b2, 0, none⟩)), (12, .bool (decide ((s1.length : Int) < g.Events)))]) ?_ ?_
    · refine QRun_y (.slice a1 s1.length c1) (by kernel_rfl) (Y_load1 (t := 41) (p := ⟨b2, 0, none⟩) (v := .slice a1 s1.length c1) (by kernel_rfl) (fun w => by kernel_rfl) (H3.cell 1 rfl rfl)) ?_
      refine QRun_b [.int .i64 (s1.length : Int), .pointer (some ⟨b1, 0, none⟩)] 1 _ (by kernel_rfl) (fun w => by kernel_rfl) ?_
      refine QRun_y (.int .i64 g.Events) (by kernel_rfl) (Y_load1 (t := 2) (p := ⟨b1, 0, none⟩) (v := .int .i64 g.Events) (by kernel_rfl) (fun w => by kernel_rfl) (H3.cell 0 rfl rfl)) ?_
      refine QRun_b [.bool (decide ((s1.length : Int) < g.Events))] 4 _ (by kernel_rfl) (fun w => by kernel_rfl) ?_
      exact QRun_done [1, 4, 12] (by kernel_rfl) (by kernel_rfl)
    refine Run_cond (b := decide ((s1.length : Int) < g.Events)) (by kernel_rfl) (fun hb1 => ?_) (fun hb1 => ?_)
    · have hB1 := (M.ite_some hB1).1 hb1
      refine Run_skip ?_
      refine Run_block ?_
      refine Run_seq ?_
      refine Run_reg 1 (by kernel_rfl) (L' := [(1, .pointer (some ⟨b1, 0, none⟩)), (4, .pointer (some ⟨b2, 0, none⟩)), (5, .int .i64 (-1))]) ?_ ?_
      · refine QRun_b [.int .i64 (-1)] 0 _ (by kernel_rfl) (fun w => by kernel_rfl) ?_
        exact QRun_done [1, 4, 5] (by kernel_rfl) (by kernel_rfl)
      refine Run_seq ?_
      refine Run_seq ?_
      refine Run_ops ?_
      refine Run_E (by kernel_rfl) ?_
      refine E_box (ty := 2) (cs := [.int .i64 0]) H3 (fun w => by kernel_rfl) (fun b3 h5 H5 => ?_)
      refine Run_E (by kernel_rfl) ?_
      refine E_bput (t := 2) (off := 0) (us := [.int .i64 0]) (v := .int .i64 0) H5 (by kernel_rfl) (by kernel_rfl) rfl (by kernel_rfl) rfl (fun h6 H6 => ?_)
      refine Run_nil (by kernel_rfl) ?_
      refine Run_keep [1, 4, 5, 6] (L' := [(1, .pointer (some ⟨b1, 0, none⟩)), (4, .pointer (some ⟨b2, 0, none⟩)), (5, .int .i64 (-1)), (6, .pointer (some ⟨b3, 0, none⟩))]) (by kernel_rfl) ?_
      obtain ⟨x2, gx2, hB1⟩ := M.bind_some hB1
      refine Run_join (fun L' h' => L' = [(1, .pointer (some ⟨b1, 0, none⟩)), (4, .pointer (some ⟨b2, 0, none⟩)), (5, .int .i64 x2.1)] ∧ Hold h h' [box b1 30 [.int .i64 g.Events, .slice agPlaces g.Places.length cgPlaces], box b2 41 [.slice a1 s1.length c1], own cd2 a1 s1.length c1 s1]) ?_ ?_
      · rintro _ h8 ⟨rfl, H8⟩
        refine Run_seq ?_
        refine Run_seq ?_
        refine Run_reg 2 (by kernel_rfl) (L' := [(1, .pointer (some ⟨b1, 0, none⟩)), (4, .pointer (some ⟨b2, 0, none⟩)), (5, .int .i64 x2.1), (35, .bool (decide (x2.1 < 0)))]) ?_ ?_
        · refine QRun_b [.int .i64 x2.1, .bool (decide (x2.1 < 0))] 0 _ (by kernel_rfl) (fun w => by kernel_rfl) ?_
          exact QRun_done [1, 4, 5, 35] (by kernel_rfl) (by kernel_rfl)
        refine Run_cond (b := decide (x2.1 < 0)) (by kernel_rfl) (fun hb6 => ?_) (fun hb6 => ?_)
        · have hB1 := (M.ite_some hB1).1 hb6
          refine Run_seq ?_
          refine Run_reg 2 (by kernel_rfl) (L' := [(2, .slice none 0 0), (3, .bool false)]) ?_ ?_
          · refine QRun_b [.slice none 0 0, .bool false] 0 _ (by kernel_rfl) (fun w => by kernel_rfl) ?_
            exact QRun_done [2, 3] (by kernel_rfl) (by kernel_rfl)
          have hB1 := M.ret_some hB1
          have gx1 := houty1 _ hB1.symm
          have hF := M.cont_inr' hF gx1
          have hF := M.ret_some hF
          subst hF
          have H17 := H8.empty cd2
          have H18 : Hold h h8 [own cd2 none 0 0 []] := H17.pick [0] (by kernel_rfl)
          exact Run_ret2 rfl (ResV_tmp (v := .slice none 0 0) (by kernel_rfl)) (ResV_tmp (v := .bool false) (by kernel_rfl)) ⟨none, 0, rfl, H18⟩
        · have hB1 := (M.ite_some hB1).2 hb6
          refine Run_skip ?_
          refine Run_ops ?_
          refine Run_y (.slice a1 s1.length c1) (by kernel_rfl) (Y_load1 (t := 41) (p := ⟨b2, 0, none⟩) (v := .slice a1 s1.length c1) (by kernel_rfl) (fun w => by kernel_rfl) (H8.cell 1 rfl rfl)) ?_
          refine Run_b [.int .i64 x2.1] 1 _ (by kernel_rfl) (fun w => by kernel_rfl) ?_
          refine Run_E (by kernel_rfl) ?_
          refine E_lit (C := cd2) (n := 1) (l := ([x2.1] : List Int)) (cs := [.int .i64 x2.1]) H8 (fun w => by kernel_rfl) (Enc.consE (cd2_own x2.1 _) (Enc.nil _ _) rfl) rfl (by decide) (fun a3 h14 H19 => ?_)
          obtain ⟨l1, hl1, hB1⟩ := M.bind_some hB1
          have hl1 := M.app_some hl1
          have H20 : Hold h h14 [own cd2 a1 s1.length c1 s1, own cd2 a3 1 1 ([x2.1] : List Int), box b1 30 [.int .i64 g.Events, .slice agPlaces g.Places.length cgPlaces], box b2 41 [.slice a1 s1.length c1]] := H19.pick [3, 0, 1, 2] (by kernel_rfl)
          have H21 : Hold h h14 [own cd2 a3 1 1 ([x2.1] : List Int), own cd2 a1 s1.length c1 s1, box b1 30 [.int .i64 g.Events, .slice agPlaces g.Places.length cgPlaces], box b2 41 [.slice a1 s1.length c1]] := H20.pick [1, 0, 2, 3] (by kernel_rfl)
          have H22 : Hold h h14 [own cd2 a1 s1.length c1 s1, own cd2 a3 1 1 ([x2.1] : List Int), box b1 30 [.int .i64 g.Events, .slice agPlaces g.Places.length cgPlaces], box b2 41 [.slice a1 s1.length c1]] := H21.pick [1, 0, 2, 3] (by kernel_rfl)
          refine Run_E (by kernel_rfl) ?_
          refine E_app (C := cd2) (t := 41) (ty := 41) (n := s1.length) (m := 1) H22 cd2_ti rfl Try.underlying41 (by decide) (by kernel_rfl) hl1 (fun a4 c3 h15 H23 => ?_)
          have H25 : Hold h h15 [box b2 41 [.slice a1 s1.length c1], own cd2 a4 l1.length c3 l1, box b1 30 [.int .i64 g.Events, .slice agPlaces g.Places.length cgPlaces]] := H23.pick [2, 0, 1] (by kernel_rfl)
          refine Run_E (by kernel_rfl) ?_
          refine E_bput (t := 41) (off := 0) (us := [.slice a4 l1.length c3]) (v := .slice a4 l1.length c3) H25 (by kernel_rfl) (by kernel_rfl) rfl (by kernel_rfl) rfl (fun h16 H24 => ?_)
          refine Run_nil (by kernel_rfl) ?_
          refine Run_keep [1, 4] (L' := [(1, .pointer (some ⟨b1, 0, none⟩)), (4, .pointer (some ⟨b2, 0, none⟩))]) (by kernel_rfl) ?_
          refine Run_blk ?_
          have H26 : Hold h h16 [own cd2 a4 l1.length c3 l1, box b2 41 [.slice a4 l1.length c3], box b1 30 [.int .i64 g.Events, .slice agPlaces g.Places.length cgPlaces]] := H24.pick [1, 0, 2] (by kernel_rfl)
          have H27 : Hold h h16 [box b1 30 [.int .i64 g.Events, .slice agPlaces g.Places.length cgPlaces], box b2 41 [.slice a4 l1.length c3], own cd2 a4 l1.length c3 l1] := H26.pick [2, 1, 0] (by kernel_rfl)
          have hB1 := M.ret_some hB1
          have gx1 := hgoy1 _ hB1.symm
          exact Run_again [1, 4] (by kernel_rfl) my1 (Nat.lt_succ_self _) ⟨l1, a4, c3, gx1, rfl, H27⟩
      · refine Run_block ?_
        have H28 : Hold h h6 [box b1 30 [.int .i64 g.Events, .slice agPlaces g.Places.length cgPlaces], box b2 41 [.slice a1 s1.length c1], own cd2 a1 s1.length c1 s1, box b3 2 [.int .i64 0]] := H6.pick [1, 2, 3, 0] (by kernel_rfl)
        refine Run_keep [1, 4, 5, 6] (L' := [(1, .pointer (some ⟨b1, 0, none⟩)), (4, .pointer (some ⟨b2, 0, none⟩)), (5, .int .i64 (-1)), (6, .pointer (some ⟨b3, 0, none⟩))]) (by kernel_rfl) ?_
        refine Run_loop (fun m L' h' => ∃ (s3 : Int × Int) (b4 : Nat), M.loopN _ n m s3 = some x2 ∧ L' = [(1, .pointer (some ⟨b1, 0, none⟩)), (4, .pointer (some ⟨b2, 0, none⟩)), (5, .int .i64 s3.1), (6, .pointer (some ⟨b4, 0, none⟩))] ∧ Hold h h' [box b1 30 [.int .i64 g.Events, .slice agPlaces g.Places.length cgPlaces], box b2 41 [.slice a1 s1.length c1], own cd2 a1 s1.length c1 s1, box b4 2 [.int .i64 s3.2]]) n ⟨((-1), 0), b3, gx2, rfl, H28⟩ ?_
        rintro my2 _ h7 ⟨s3, b4, gx2, rfl, H7⟩
        obtain ⟨my2, y2, rfl, hB2, hgoy2, houty2⟩ := M.loop_some gx2
        refine Run_seq ?_
        refine Run_seq ?_
        refine Run_reg 8 (by kernel_rfl) (L' := [(1, .pointer (some ⟨b1, 0, none⟩)), (4, .pointer (some ⟨b2, 0, none⟩)), (5, .int .i64 s3.1), (6, .pointer (some ⟨b4, 0, none⟩)), (20, .bool ((decide (s3.2 < g.Events)) && (decide (s3.1 < 0))))]) ?_ ?_
        · refine QRun_y (.int .i64 s3.2) (by kernel_rfl) (Y_load1 (t := 2) (p := ⟨b4, 0, none⟩) (v := .int .i64 s3.2) (by kernel_rfl) (fun w => by kernel_rfl) (H7.cell 3 rfl rfl)) ?_
          refine QRun_b [.pointer (some ⟨b1, 0, none⟩)] 1 _ (by kernel_rfl) (fun w => by kernel_rfl) ?_
          refine QRun_y (.int .i64 g.Events) (by kernel_rfl) (Y_load1 (t := 2) (p := ⟨b1, 0, none⟩) (v := .int .i64 g.Events) (by kernel_rfl) (fun w => by kernel_rfl) (H7.cell 0 rfl rfl)) ?_
          refine QRun_b [.bool (decide (s3.2 < g.Events))] 3 _ (by kernel_rfl) (fun w => by kernel_rfl) ?_
          refine QRun_seq 8 [(1, .pointer (some ⟨b1, 0, none⟩)), (4, .pointer (some ⟨b2, 0, none⟩)), (5, .int .i64 s3.1), (6, .pointer (some ⟨b4, 0, none⟩)), (20, .bool ((decide (s3.2 < g.Events)) && (decide (s3.1 < 0))))] ?_ ?_
          · rcases Bool.eq_false_or_eq_true (decide (s3.2 < g.Events)) with hb2 | hb2
            · refine QRun_bool (decide (s3.2 < g.Events)) true (by kernel_rfl) (fun w => by kernel_rfl) hb2 ?_
              refine QRun_b [.int .i64 s3.1, .bool (decide (s3.1 < 0))] 5 _ (by kernel_rfl) (fun w => by kernel_rfl) ?_
              refine QRun_bool (decide (s3.1 < 0)) ((decide (s3.2 < g.Events)) && (decide (s3.1 < 0))) (by kernel_rfl) (fun w => by kernel_rfl) (by rw [hb2]; rfl) ?_
              exact QRun_done [1, 4, 5, 6, 20] (by kernel_rfl) (by kernel_rfl)
            · refine QRun_bool (decide (s3.2 < g.Events)) false (by kernel_rfl) (fun w => by kernel_rfl) hb2 ?_
              refine QRun_n (by kernel_rfl) ?_
              refine QRun_n (by kernel_rfl) ?_
              refine QRun_bool false ((decide (s3.2 < g.Events)) && (decide (s3.1 < 0))) (by kernel_rfl) (fun w => by kernel_rfl) (by rw [hb2]; rfl) ?_
              exact QRun_done [1, 4, 5, 6, 20] (by kernel_rfl) (by kernel_rfl)
          exact QRun_done [1, 4, 5, 6, 20] (by kernel_rfl) (by kernel_rfl)
        refine Run_cond (b := (decide (s3.2 < g.Events)) && (decide (s3.1 < 0))) (by kernel_rfl) (fun hb3 => ?_) (fun hb3 => ?_)
        · have hB2 := (M.ite_some hB2).1 hb3
          refine Run_skip ?_
          refine Run_seq ?_
          obtain ⟨s4, gs4, hB2⟩ := M.bind_some hB2
          refine Run_join (fun L' h' => L' = [(1, .pointer (some ⟨b1, 0, none⟩)), (4, .pointer (some ⟨b2, 0, none⟩)), (5, .int .i64 s4), (6, .pointer (some ⟨b4, 0, none⟩))] ∧ Hold h h' [box b1 30 [.int .i64 g.Events, .slice agPlaces g.Places.length cgPlaces], box b2 41 [.slice a1 s1.length c1], own cd2 a1 s1.length c1 s1, box b4 2 [.int .i64 s3.2]]) ?_ ?_
          · rintro _ h10 ⟨rfl, H11⟩
            refine Run_seq ?_
            refine Run_seq ?_
            refine Run_reg 1 (by kernel_rfl) (L' := [(1, .pointer (some ⟨b1, 0, none⟩)), (4, .pointer (some ⟨b2, 0, none⟩)), (5, .int .i64 s4), (33, .int .i64 s3.2)]) ?_ ?_
            · refine QRun_y (.int .i64 s3.2) (by kernel_rfl) (Y_load1 (t := 2) (p := ⟨b4, 0, none⟩) (v := .int .i64 s3.2) (by kernel_rfl) (fun w => by kernel_rfl) (H11.cell 3 rfl rfl)) ?_
              exact QRun_done [1, 4, 5, 33] (by kernel_rfl) (by kernel_rfl)
            refine Run_ops ?_
            refine Run_E (by kernel_rfl) ?_
            refine E_box (ty := 2) (cs := [.int .i64 0]) H11 (fun w => by kernel_rfl) (fun b6 h11 H12 => ?_)
            refine Run_E (by kernel_rfl) ?_
            refine E_bput (t := 2) (off := 0) (us := [.int .i64 s3.2]) (v := .int .i64 s3.2) H12 (by kernel_rfl) (by kernel_rfl) rfl (by kernel_rfl) rfl (fun h12 H13 => ?_)
            refine Run_nil (by kernel_rfl) ?_
            refine Run_keep [1, 4, 5, 6] (L' := [(1, .pointer (some ⟨b1, 0, none⟩)), (4, .pointer (some ⟨b2, 0, none⟩)), (5, .int .i64 s4), (6, .pointer (some ⟨b6, 0, none⟩))]) (by kernel_rfl) ?_
            refine Run_ops ?_
            refine Run_y (.int .i64 s3.2) (by kernel_rfl) (Y_load1 (t := 2) (p := ⟨b6, 0, none⟩) (v := .int .i64 s3.2) (by kernel_rfl) (fun w => by kernel_rfl) (H13.cell 0 rfl rfl)) ?_
            refine Run_b [.int .i64 (w64 (s3.2 + 1))] 1 _ (by kernel_rfl) (fun w => by kernel_rfl) ?_
            refine Run_E (by kernel_rfl) ?_
            refine E_bput (t := 2) (off := 0) (us := [.int .i64 (w64 (s3.2 + 1))]) (v := .int .i64 (w64 (s3.2 + 1))) H13 (by kernel_rfl) (by kernel_rfl) rfl (by kernel_rfl) rfl (fun h13 H14 => ?_)
            refine Run_nil (by kernel_rfl) ?_
            refine Run_keep [1, 4, 5, 6] (L' := [(1, .pointer (some ⟨b1, 0, none⟩)), (4, .pointer (some ⟨b2, 0, none⟩)), (5, .int .i64 s4), (6, .pointer (some ⟨b6, 0, none⟩))]) (by kernel_rfl) ?_
            have H15 : Hold h h13 [box b1 30 [.int .i64 g.Events, .slice agPlaces g.Places.length cgPlaces], box b2 41 [.slice a1 s1.length c1], own cd2 a1 s1.length c1 s1, box b6 2 [.int .i64 (w64 (s3.2 + 1))]] := H14.pick [1, 2, 3, 0] (by kernel_rfl)
            have hB2 := M.ret_some hB2
            have gx2 := hgoy2 _ hB2.symm
            exact Run_again [1, 4, 5, 6] (by kernel_rfl) my2 (Nat.lt_succ_self _) ⟨(s4, (w64 (s3.2 + 1))), b6, gx2, rfl, H15⟩
          · refine Run_block ?_
            refine Run_seq ?_
            refine Run_seq ?_
            obtain ⟨x4, hx1, gs4⟩ := M.bind_some gs4
            refine Run_reg 3 (by kernel_rfl) (L' := [(1, .pointer (some ⟨b1, 0, none⟩)), (4, .pointer (some ⟨b2, 0, none⟩)), (5, .int .i64 s3.1), (6, .pointer (some ⟨b4, 0, none⟩)), (25, .bool x4)]) ?_ ?_
            · refine QRun_y (.slice a1 s1.length c1) (by kernel_rfl) (Y_load1 (t := 41) (p := ⟨b2, 0, none⟩) (v := .slice a1 s1.length c1) (by kernel_rfl) (fun w => by kernel_rfl) (H7.cell 1 rfl rfl)) ?_
              refine QRun_y (.int .i64 s3.2) (by kernel_rfl) (Y_load1 (t := 2) (p := ⟨b4, 0, none⟩) (v := .int .i64 s3.2) (by kernel_rfl) (fun w => by kernel_rfl) (H7.cell 3 rfl rfl)) ?_
              refine QRun_y (.bool x4) (by kernel_rfl) (Y_callq (f := 54) (args := #[.slice a1 s1.length c1, .int .i64 s3.2]) (v := .bool x4) (by kernel_rfl) (w_slices_Contains_int h7 s1 a1 c1 (H7.rd 2 rfl) s3.2 _ _ hx1)) ?_
              exact QRun_done [1, 4, 5, 6, 25] (by kernel_rfl) (by kernel_rfl)
            refine Run_cond (b := x4) (by kernel_rfl) (fun hb4 => ?_) (fun hb4 => ?_)
            · have gs4 := (M.ite_some gs4).1 hb4
              refine Run_exit (k' := _) rfl ?_
              have gs4 := M.ret_some gs4
              subst gs4
              exact Run_fall [1, 4, 5, 6] (by kernel_rfl) ⟨rfl, H7⟩
            · have gs4 := (M.ite_some gs4).2 hb4
              refine Run_skip ?_
              refine Run_seq ?_
              obtain ⟨x5, hx2, gs4⟩ := M.bind_some gs4
              refine Run_regC (j := 5) (C := fun x => Hold h x [box b1 30 [.int .i64 g.Events, .slice agPlaces g.Places.length cgPlaces], box b2 41 [.slice a1 s1.length c1], own cd2 a1 s1.length c1 s1, box b4 2 [.int .i64 s3.2]]) (by kernel_rfl) H7 (L' := [(1, .pointer (some ⟨b1, 0, none⟩)), (4, .pointer (some ⟨b2, 0, none⟩)), (5, .int .i64 s3.1), (6, .pointer (some ⟨b4, 0, none⟩)), (7, .bool x5)]) ?_ (fun h9 H9 => ?_)
              · refine QRun_b [.pointer (some ⟨b1, 1, none⟩)] 0 _ (by kernel_rfl) (fun w => by kernel_rfl) ?_
                refine QRun_y (.slice agPlaces g.Places.length cgPlaces) (by kernel_rfl) (Y_cls fun hx Hx => (Y_load1 (t := 28) (p := ⟨b1, 1, none⟩) (v := .slice agPlaces g.Places.length cgPlaces) (by kernel_rfl) (fun w => by kernel_rfl) (Hx.cell 0 rfl rfl))) ?_
                refine QRun_b [.func (.func 55) #[] #[.pointer (some ⟨b4, 0, none⟩), .pointer (some ⟨b2, 0, none⟩)]] 2 _ (by kernel_rfl) (fun w => by kernel_rfl) ?_
                refine QRun_y (.bool x5) (by kernel_rfl) (Y_call (f := 37) (args := #[.slice agPlaces g.Places.length cgPlaces, .func (.func 55) #[] #[.pointer (some ⟨b4, 0, none⟩), .pointer (some ⟨b2, 0, none⟩)]]) (v := .bool x5) (by kernel_rfl) fun hx Hx => (w_slices_ContainsFunc_Place_F_impl_firingOrder_1 hx g.Places agPlaces cgPlaces (rgPlaces.at Hx.ext) s3.2 b4 (Hx.var 3 rfl) s1 a1 c1 (Hx.rd 2 rfl) b2 (Hx.var 1 rfl) _ _ hx2).mono fun _ _ ⟨e, H'⟩ => ⟨e, Hx.call H' rfl⟩) ?_
                refine QRun_b [.bool x5] 4 _ (by kernel_rfl) (fun w => by kernel_rfl) ?_
                exact QRun_done [1, 4, 5, 6, 7] (by kernel_rfl) (by kernel_rfl)
              have H10 : Hold h h9 [box b1 30 [.int .i64 g.Events, .slice agPlaces g.Places.length cgPlaces], box b2 41 [.slice a1 s1.length c1], own cd2 a1 s1.length c1 s1, box b4 2 [.int .i64 s3.2]] := H9
              refine Run_seq ?_
              refine Run_reg 2 (by kernel_rfl) (L' := [(1, .pointer (some ⟨b1, 0, none⟩)), (4, .pointer (some ⟨b2, 0, none⟩)), (5, .int .i64 s3.1), (6, .pointer (some ⟨b4, 0, none⟩)), (31, .bool (!x5))]) ?_ ?_
              · refine QRun_b [.bool x5, .bool (!x5)] 0 _ (by kernel_rfl) (fun w => by kernel_rfl) ?_
                exact QRun_done [1, 4, 5, 6, 31] (by kernel_rfl) (by kernel_rfl)
              refine Run_cond (b := !x5) (by kernel_rfl) (fun hb5 => ?_) (fun hb5 => ?_)
              · have gs4 := (M.ite_some gs4).1 hb5
                refine Run_reg 2 (by kernel_rfl) (L' := [(1, .pointer (some ⟨b1, 0, none⟩)), (4, .pointer (some ⟨b2, 0, none⟩)), (5, .int .i64 s3.2), (6, .pointer (some ⟨b4, 0, none⟩))]) ?_ ?_
                · refine QRun_y (.int .i64 s3.2) (by kernel_rfl) (Y_load1 (t := 2) (p := ⟨b4, 0, none⟩) (v := .int .i64 s3.2) (by kernel_rfl) (fun w => by kernel_rfl) (H10.cell 3 rfl rfl)) ?_
                  refine QRun_b [.int .i64 s3.2] 1 _ (by kernel_rfl) (fun w => by kernel_rfl) ?_
                  exact QRun_done [1, 4, 5, 6] (by kernel_rfl) (by kernel_rfl)
                refine Run_blk ?_
                have gs4 := M.ret_some gs4
                subst gs4
                exact Run_fall [1, 4, 5, 6] (by kernel_rfl) ⟨rfl, H10⟩
              · have gs4 := (M.ite_some gs4).2 hb5
                refine Run_skip ?_
                refine Run_blk ?_
                have gs4 := M.ret_some gs4
                subst gs4
                exact Run_fall [1, 4, 5, 6] (by kernel_rfl) ⟨rfl, H10⟩
        · have hB2 := (M.ite_some hB2).2 hb3
          refine Run_exit (k' := _) rfl ?_
          have H16 : Hold h h7 [box b1 30 [.int .i64 g.Events, .slice agPlaces g.Places.length cgPlaces], box b2 41 [.slice a1 s1.length c1], own cd2 a1 s1.length c1 s1] := H7.pick [0, 1, 2] (by kernel_rfl)
          have hB2 := M.ret_some hB2
          have gx2 := houty2 _ hB2.symm
          subst gx2
          exact Run_fall [1, 4, 5] (by kernel_rfl) ⟨rfl, H16⟩
    · have hB1 := (M.ite_some hB1).2 hb1
      refine Run_exit (k' := _) rfl ?_
      have H29 : Hold h h3 [own cd2 a1 s1.length c1 s1, box b1 30 [.int .i64 g.Events, .slice agPlaces g.Places.length cgPlaces], box b2 41 [.slice a1 s1.length c1]] := H3.pick [2, 0, 1] (by kernel_rfl)
      have H30 : Hold h h3 [box b2 41 [.slice a1 s1.length c1], own cd2 a1 s1.length c1 s1] := H29.pick [2, 0] (by kernel_rfl)
      have hB1 := M.ret_some hB1
      have gx1 := houty1 _ hB1.symm
      subst gx1
      exact Run_fall [4] (by kernel_rfl) ⟨s1, a1, c1, rfl, rfl, H30⟩

set_option maxRecDepth 100000 in
set_option maxHeartbeats 4000000 in
theorem w_impl_isLive (h : Heap) (g : TGraph) (agPlaces : Option Addr) (cgPlaces : Nat) (rgPlaces : Rd cd50 h (Lt h) agPlaces cgPlaces g.Places) (n : Nat) (r : Bool) (hF : impl_isLive g n = some r) :
    Fn Try.prog 22 #[.agg #[.int .i64 g.Events, .slice agPlaces g.Places.length cgPlaces]] h fun v h' => v = .bool r ∧ Hold h h' [] := by
  unfold impl_isLive at hF
  refine Fn_enter (args := [.agg #[.int .i64 g.Events, .slice agPlaces g.Places.length cgPlaces]]) Try.func22 rfl (by kernel_rfl) (by kernel_rfl) (fun w0 _ => ?_)
  have H0 := Hold.init h
  refine Run_seq ?_
  refine Run_ops ?_
  refine Run_E (by kernel_rfl) ?_
  refine E_box (ty := 30) (cs := [.int .i64 g.Events, .slice agPlaces g.Places.length cgPlaces]) H0 (fun w => by kernel_rfl) (fun b1 h1 H1 => ?_)
  refine Run_b [.bool false] 1 _ (by kernel_rfl) (fun w => by kernel_rfl) ?_
  refine Run_nil (by kernel_rfl) ?_
  refine Run_keep [1] (L' := [(1, .pointer (some ⟨b1, 0, none⟩))]) (by kernel_rfl) ?_
  refine Run_seq ?_
  refine Run_ops ?_
  refine Run_y (.agg #[.int .i64 g.Events, .slice agPlaces g.Places.length cgPlaces]) (by kernel_rfl) (Y_loadA (t := 30) (n := 2) (p := ⟨b1, 0, none⟩) (cs := [.int .i64 g.Events, .slice agPlaces g.Places.length cgPlaces]) (by kernel_rfl) (fun w => by kernel_rfl) (by kernel_rfl) rfl (H1.cells (n := 2) (off := 0) 0 rfl rfl)) ?_
  obtain ⟨x1, hx1, hF⟩ := M.bind_some hF
  refine Run_E (by kernel_rfl) ?_
  refine E_call (f := 40) (args := #[.agg #[.int .i64 g.Events, .slice agPlaces g.Places.length cgPlaces]]) (w_impl_firingOrder h1 g agPlaces cgPlaces (rgPlaces.at H1.ext) _ _ hx1) (by kernel_rfl) (fun v1 h2 hp1 => ?_)
  obtain ⟨a1, c1, rfl, H2⟩ := hp1
  have H3 : Hold h h2 [own cd2 a1 x1.1.length c1 x1.1, box b1 30 [.int .i64 g.Events, .slice agPlaces g.Places.length cgPlaces]] := H1.call H2 rfl
  refine Run_b [.tuple #[.slice a1 x1.1.length c1, .bool x1.2], .slice a1 x1.1.length c1, .bool x1.2, .slice a1 x1.1.length c1, .bool x1.2] 2 _ (by kernel_rfl) (fun w => by kernel_rfl) ?_
  refine Run_nil (by kernel_rfl) ?_
  refine Run_keep [4] (L' := [(4, .bool x1.2)]) (by kernel_rfl) ?_
  refine Run_seq ?_
  refine Run_reg 2 (by kernel_rfl) (L' := [(2, .bool x1.2)]) ?_ ?_
  · refine QRun_b [.bool x1.2, .bool x1.2] 0 _ (by kernel_rfl) (fun w => by kernel_rfl) ?_
    exact QRun_done [2] (by kernel_rfl) (by kernel_rfl)
  have hF := M.ret_some hF
  subst hF
  have H4 : Hold h h2 [] := H3.pick [] (by kernel_rfl)
  exact Run_ret1 rfl (ResV_tmp (v := .bool x1.2) (by kernel_rfl)) ⟨rfl, H4⟩

set_option maxRecDepth 100000 in
set_option maxHeartbeats 4000000 in
theorem w_impl_IsLive (h : Heap) (g : TGraph) (agPlaces : Option Addr) (cgPlaces : Nat) (rgPlaces : Rd cd50 h (Lt h) agPlaces cgPlaces g.Places) (n : Nat) (r : Bool × Int) (hF : impl_IsLive g n = some r) :
    Fn Try.prog 9 #[.agg #[.int .i64 g.Events, .slice agPlaces g.Places.length cgPlaces]] h fun v h' => v = .tuple #[.bool r.1, .int .i64 r.2] ∧ Hold h h' [] := by
  unfold impl_IsLive at hF
  refine Fn_enter (args := [.agg #[.int .i64 g.Events, .slice agPlaces g.Places.length cgPlaces]]) Try.func9 rfl (by kernel_rfl) (by kernel_rfl) (fun w0 _ => ?_)
  have H0 := Hold.init h
  refine Run_seq ?_
  refine Run_ops ?_
  refine Run_E (by kernel_rfl) ?_
  refine E_box (ty := 30) (cs := [.int .i64 g.Events, .slice agPlaces g.Places.length cgPlaces]) H0 (fun w => by kernel_rfl) (fun b1 h1 H1 => ?_)
  refine Run_b [.bool false, .int .i64 0] 1 _ (by kernel_rfl) (fun w => by kernel_rfl) ?_
  refine Run_nil (by kernel_rfl) ?_
  refine Run_keep [1] (L' := [(1, .pointer (some ⟨b1, 0, none⟩))]) (by kernel_rfl) ?_
  refine Run_seq ?_
  refine Run_seq ?_
  obtain ⟨x1, hx1, hF⟩ := M.bind_some hF
  refine Run_regC (j := 3) (C := fun x => Hold h x [box b1 30 [.int .i64 g.Events, .slice agPlaces g.Places.length cgPlaces]]) (by kernel_rfl) H1 (L' := [(1, .pointer (some ⟨b1, 0, none⟩)), (6, .bool (!x1))]) ?_ (fun h2 H2 => ?_)
  · refine QRun_y (.agg #[.int .i64 g.Events, .slice agPlaces g.Places.length cgPlaces]) (by kernel_rfl) (Y_cls fun hx Hx => (Y_loadA (t := 30) (n := 2) (p := ⟨b1, 0, none⟩) (cs := [.int .i64 g.Events, .slice agPlaces g.Places.length cgPlaces]) (by kernel_rfl) (fun w => by kernel_rfl) (by kernel_rfl) rfl (Hx.cells (n := 2) (off := 0) 0 rfl rfl))) ?_
    refine QRun_y (.bool x1) (by kernel_rfl) (Y_call (f := 21) (args := #[.agg #[.int .i64 g.Events, .slice agPlaces g.Places.length cgPlaces]]) (v := .bool x1) (by kernel_rfl) fun hx Hx => (w_impl_IsEventGraph hx g agPlaces cgPlaces (rgPlaces.at Hx.ext) _ _ hx1).mono fun _ _ ⟨e, H'⟩ => ⟨e, Hx.call H' rfl⟩) ?_
    refine QRun_b [.bool (!x1)] 2 _ (by kernel_rfl) (fun w => by kernel_rfl) ?_
    exact QRun_done [1, 6] (by kernel_rfl) (by kernel_rfl)
  have H3 : Hold h h2 [box b1 30 [.int .i64 g.Events, .slice agPlaces g.Places.length cgPlaces]] := H2
  refine Run_cond (b := !x1) (by kernel_rfl) (fun hb1 => ?_) (fun hb1 => ?_)
  · have hF := (M.ite_some hF).1 hb1
    refine Run_seq ?_
    refine Run_reg 2 (by kernel_rfl) (L' := [(2, .bool false), (3, .int .i64 1)]) ?_ ?_
    · refine QRun_b [.bool false, .int .i64 1] 0 _ (by kernel_rfl) (fun w => by kernel_rfl) ?_
      exact QRun_done [2, 3] (by kernel_rfl) (by kernel_rfl)
    have hF := M.ret_some hF
    subst hF
    have H4 : Hold h h2 [] := H3.pick [] (by kernel_rfl)
    exact Run_ret2 rfl (ResV_tmp (v := .bool false) (by kernel_rfl)) (ResV_tmp (v := .int .i64 1) (by kernel_rfl)) ⟨rfl, H4⟩
  · have hF := (M.ite_some hF).2 hb1
    refine Run_skip ?_
    refine Run_seq ?_
    obtain ⟨x2, hx2, hF⟩ := M.bind_some hF
    refine Run_regC (j := 4) (C := fun x => Hold h x [box b1 30 [.int .i64 g.Events, .slice agPlaces g.Places.length cgPlaces]]) (by kernel_rfl) H3 (L' := [(2, .bool x2), (3, .int .i64 0)]) ?_ (fun h3 H5 => ?_)
    · refine QRun_y (.agg #[.int .i64 g.Events, .slice agPlaces g.Places.length cgPlaces]) (by kernel_rfl) (Y_cls fun hx Hx => (Y_loadA (t := 30) (n := 2) (p := ⟨b1, 0, none⟩) (cs := [.int .i64 g.Events, .slice agPlaces g.Places.length cgPlaces]) (by kernel_rfl) (fun w => by kernel_rfl) (by kernel_rfl) rfl (Hx.cells (n := 2) (off := 0) 0 rfl rfl))) ?_
      refine QRun_y (.bool x2) (by kernel_rfl) (Y_call (f := 22) (args := #[.agg #[.int .i64 g.Events, .slice agPlaces g.Places.length cgPlaces]]) (v := .bool x2) (by kernel_rfl) fun hx Hx => (w_impl_isLive hx g agPlaces cgPlaces (rgPlaces.at Hx.ext) _ _ hx2).mono fun _ _ ⟨e, H'⟩ => ⟨e, Hx.call H' rfl⟩) ?_
      refine QRun_b [.bool x2, .int .i64 0] 2 _ (by kernel_rfl) (fun w => by kernel_rfl) ?_
      exact QRun_done [2, 3] (by kernel_rfl) (by kernel_rfl)
    have H6 : Hold h h3 [box b1 30 [.int .i64 g.Events, .slice agPlaces g.Places.length cgPlaces]] := H5
    have hF := M.ret_some hF
    subst hF
    have H7 : Hold h h3 [] := H6.pick [] (by kernel_rfl)
    exact Run_ret2 rfl (ResV_tmp (v := .bool x2) (by kernel_rfl)) (ResV_tmp (v := .int .i64 0) (by kernel_rfl)) ⟨rfl, H7⟩

set_option maxRecDepth 100000 in
set_option maxHeartbeats 4000000 in
theorem w_laws_eqPlace (h : Heap) (a_ : TPlace) (b : TPlace) (n : Nat) (r : Bool) (hF : laws_eqPlace a_ b n = some r) :
    Fn Try.prog 41 #[.agg #[.int .i64 a_.From, .int .i64 a_.To, .int .i64 a_.Delay, .int .i64 a_.Tokens], .agg #[.int .i64 b.From, .int .i64 b.To, .int .i64 b.Delay, .int .i64 b.Tokens]] h fun v h' => v = .bool r ∧ Hold h h' [] := by
  unfold laws_eqPlace at hF
  refine Fn_enter (args := [.agg #[.int .i64 a_.From, .int .i64 a_.To, .int .i64 a_.Delay, .int .i64 a_.Tokens], .agg #[.int .i64 b.From, .int .i64 b.To, .int .i64 b.Delay, .int .i64 b.Tokens]]) Try.func41 rfl (by kernel_rfl) (by kernel_rfl) (fun w0 _ => ?_)
  have H0 := Hold.init h
  refine Run_seq ?_
  refine Run_ops ?_
  refine Run_E (by kernel_rfl) ?_
  refine E_box (ty := 50) (cs := [.int .i64 a_.From, .int .i64 a_.To, .int .i64 a_.Delay, .int .i64 a_.Tokens]) H0 (fun w => by kernel_rfl) (fun b1 h1 H1 => ?_)
  refine Run_E (by kernel_rfl) ?_
  refine E_box (ty := 50) (cs := [.int .i64 b.From, .int .i64 b.To, .int .i64 b.Delay, .int .i64 b.Tokens]) H1 (fun w => by kernel_rfl) (fun b2 h2 H2 => ?_)
  refine Run_b [.bool false] 2 _ (by kernel_rfl) (fun w => by kernel_rfl) ?_
  refine Run_nil (by kernel_rfl) ?_
  refine Run_keep [2, 3] (L' := [(2, .pointer (some ⟨b1, 0, none⟩)), (3, .pointer (some ⟨b2, 0, none⟩))]) (by kernel_rfl) ?_
  refine Run_seq ?_
  refine Run_seq ?_
  refine Run_reg 5 (by kernel_rfl) (L' := [(2, .pointer (some ⟨b1, 0, none⟩)), (3, .pointer (some ⟨b2, 0, none⟩)), (9, .bool (a_.From != b.From))]) ?_ ?_
  · refine QRun_b [.pointer (some ⟨b1, 0, none⟩)] 0 _ (by kernel_rfl) (fun w => by kernel_rfl) ?_
    refine QRun_y (.int .i64 a_.From) (by kernel_rfl) (Y_load1 (t := 2) (p := ⟨b1, 0, none⟩) (v := .int .i64 a_.From) (by kernel_rfl) (fun w => by kernel_rfl) (H2.cell 1 rfl rfl)) ?_
    refine QRun_b [.pointer (some ⟨b2, 0, none⟩)] 2 _ (by kernel_rfl) (fun w => by kernel_rfl) ?_
    refine QRun_y (.int .i64 b.From) (by kernel_rfl) (Y_load1 (t := 2) (p := ⟨b2, 0, none⟩) (v := .int .i64 b.From) (by kernel_rfl) (fun w => by kernel_rfl) (H2.cell 0 rfl rfl)) ?_
    refine QRun_b [.bool (a_.From != b.From)] 4 _ (by kernel_rfl) (fun w => by kernel_rfl) ?_
    exact QRun_done [2, 3, 9] (by kernel_rfl) (by kernel_rfl)
  refine Run_cond (b := a_.From != b.From) (by kernel_rfl) (fun hb1 => ?_) (fun hb1 => ?_)
  · have hF := (M.ite_some hF).1 hb1
    refine Run_seq ?_
    refine Run_reg 1 (by kernel_rfl) (L' := [(4, .bool false)]) ?_ ?_
    · refine QRun_b [.bool false] 0 _ (by kernel_rfl) (fun w => by kernel_rfl) ?_
      exact QRun_done [4] (by kernel_rfl) (by kernel_rfl)
    have hF := M.ret_some hF
    subst hF
    have H3 : Hold h h2 [] := H2.pick [] (by kernel_rfl)
    exact Run_ret1 rfl (ResV_tmp (v := .bool false) (by kernel_rfl)) ⟨rfl, H3⟩
  · have hF := (M.ite_some hF).2 hb1
    refine Run_skip ?_
    refine Run_seq ?_
    refine Run_seq ?_
    refine Run_reg 5 (by kernel_rfl) (L' := [(2, .pointer (some ⟨b1, 0, none⟩)), (3, .pointer (some ⟨b2, 0, none⟩)), (14, .bool (a_.To != b.To))]) ?_ ?_
    · refine QRun_b [.pointer (some ⟨b1, 1, none⟩)] 0 _ (by kernel_rfl) (fun w => by kernel_rfl) ?_
      refine QRun_y (.int .i64 a_.To) (by kernel_rfl) (Y_load1 (t := 2) (p := ⟨b1, 1, none⟩) (v := .int .i64 a_.To) (by kernel_rfl) (fun w => by kernel_rfl) (H2.cell 1 rfl rfl)) ?_
      refine QRun_b [.pointer (some ⟨b2, 1, none⟩)] 2 _ (by kernel_rfl) (fun w => by kernel_rfl) ?_
      refine QRun_y (.int .i64 b.To) (by kernel_rfl) (Y_load1 (t := 2) (p := ⟨b2, 1, none⟩) (v := .int .i64 b.To) (by kernel_rfl) (fun w => by kernel_rfl) (H2.cell 0 rfl rfl)) ?_
      refine QRun_b [.bool (a_.To != b.To)] 4 _ (by kernel_rfl) (fun w => by kernel_rfl) ?_
      exact QRun_done [2, 3, 14] (by kernel_rfl) (by kernel_rfl)
    refine Run_cond (b := a_.To != b.To) (by kernel_rfl) (fun hb2 => ?_) (fun hb2 => ?_)
    · have hF := (M.ite_some hF).1 hb2
      refine Run_seq ?_
      refine Run_reg 1 (by kernel_rfl) (L' := [(4, .bool false)]) ?_ ?_
      · refine QRun_b [.bool false] 0 _ (by kernel_rfl) (fun w => by kernel_rfl) ?_
        exact QRun_done [4] (by kernel_rfl) (by kernel_rfl)
      have hF := M.ret_some hF
      subst hF
      have H4 : Hold h h2 [] := H2.pick [] (by kernel_rfl)
      exact Run_ret1 rfl (ResV_tmp (v := .bool false) (by kernel_rfl)) ⟨rfl, H4⟩
    · have hF := (M.ite_some hF).2 hb2
      refine Run_skip ?_
      refine Run_seq ?_
      refine Run_seq ?_
      refine Run_reg 5 (by kernel_rfl) (L' := [(2, .pointer (some ⟨b1, 0, none⟩)), (3, .pointer (some ⟨b2, 0, none⟩)), (19, .bool (a_.Delay != b.Delay))]) ?_ ?_
      · refine QRun_b [.pointer (some ⟨b1, 2, none⟩)] 0 _ (by kernel_rfl) (fun w => by kernel_rfl) ?_
        refine QRun_y (.int .i64 a_.Delay) (by kernel_rfl) (Y_load1 (t := 2) (p := ⟨b1, 2, none⟩) (v := .int .i64 a_.Delay) (by kernel_rfl) (fun w => by kernel_rfl) (H2.cell 1 rfl rfl)) ?_
        refine QRun_b [.pointer (some ⟨b2, 2, none⟩)] 2 _ (by kernel_rfl) (fun w => by kernel_rfl) ?_
        refine QRun_y (.int .i64 b.Delay) (by kernel_rfl) (Y_load1 (t := 2) (p := ⟨b2, 2, none⟩) (v := .int .i64 b.Delay) (by kernel_rfl) (fun w => by kernel_rfl) (H2.cell 0 rfl rfl)) ?_
        refine QRun_b [.bool (a_.Delay != b.Delay)] 4 _ (by kernel_rfl) (fun w => by kernel_rfl) ?_
        exact QRun_done [2, 3, 19] (by kernel_rfl) (by kernel_rfl)
      refine Run_cond (b := a_.Delay != b.Delay) (by kernel_rfl) (fun hb3 => ?_) (fun hb3 => ?_)
      · have hF := (M.ite_some hF).1 hb3
        refine Run_seq ?_
        refine Run_reg 1 (by kernel_rfl) (L' := [(4, .bool false)]) ?_ ?_
        · refine QRun_b [.bool false] 0 _ (by kernel_rfl) (fun w => by kernel_rfl) ?_
          exact QRun_done [4] (by kernel_rfl) (by kernel_rfl)
        have hF := M.ret_some hF
        subst hF
        have H5 : Hold h h2 [] := H2.pick [] (by kernel_rfl)
        exact Run_ret1 rfl (ResV_tmp (v := .bool false) (by kernel_rfl)) ⟨rfl, H5⟩
      · have hF := (M.ite_some hF).2 hb3
        refine Run_skip ?_
        refine Run_seq ?_
        refine Run_seq ?_
        refine Run_reg 5 (by kernel_rfl) (L' := [(24, .bool (a_.Tokens != b.Tokens))]) ?_ ?_
        · refine QRun_b [.pointer (some ⟨b1, 3, none⟩)] 0 _ (by kernel_rfl) (fun w => by kernel_rfl) ?_
          refine QRun_y (.int .i64 a_.Tokens) (by kernel_rfl) (Y_load1 (t := 2) (p := ⟨b1, 3, none⟩) (v := .int .i64 a_.Tokens) (by kernel_rfl) (fun w => by kernel_rfl) (H2.cell 1 rfl rfl)) ?_
          refine QRun_b [.pointer (some ⟨b2, 3, none⟩)] 2 _ (by kernel_rfl) (fun w => by kernel_rfl) ?_
          refine QRun_y (.int .i64 b.Tokens) (by kernel_rfl) (Y_load1 (t := 2) (p := ⟨b2, 3, none⟩) (v := .int .i64 b.Tokens) (by kernel_rfl) (fun w => by kernel_rfl) (H2.cell 0 rfl rfl)) ?_
          refine QRun_b [.bool (a_.Tokens != b.Tokens)] 4 _ (by kernel_rfl) (fun w => by kernel_rfl) ?_
          exact QRun_done [24] (by kernel_rfl) (by kernel_rfl)
        refine Run_cond (b := a_.Tokens != b.Tokens) (by kernel_rfl) (fun hb4 => ?_) (fun hb4 => ?_)
        · have hF := (M.ite_some hF).1 hb4
          refine Run_seq ?_
          refine Run_reg 1 (by kernel_rfl) (L' := [(4, .bool false)]) ?_ ?_
          · refine QRun_b [.bool false] 0 _ (by kernel_rfl) (fun w => by kernel_rfl) ?_
            exact QRun_done [4] (by kernel_rfl) (by kernel_rfl)
          have hF := M.ret_some hF
          subst hF
          have H6 : Hold h h2 [] := H2.pick [] (by kernel_rfl)
          exact Run_ret1 rfl (ResV_tmp (v := .bool false) (by kernel_rfl)) ⟨rfl, H6⟩
        · have hF := (M.ite_some hF).2 hb4
          refine Run_skip ?_
          refine Run_seq ?_
          refine Run_reg 1 (by kernel_rfl) (L' := [(4, .bool true)]) ?_ ?_
          · refine QRun_b [.bool true] 0 _ (by kernel_rfl) (fun w => by kernel_rfl) ?_
            exact QRun_done [4] (by kernel_rfl) (by kernel_rfl)
          have hF := M.ret_some hF
          subst hF
          have H7 : Hold h h2 [] := H2.pick [] (by kernel_rfl)
          exact Run_ret1 rfl (ResV_tmp (v := .bool true) (by kernel_rfl)) ⟨rfl, H7⟩

end Go.Proofs.Ytbemhgddkkggmaa
