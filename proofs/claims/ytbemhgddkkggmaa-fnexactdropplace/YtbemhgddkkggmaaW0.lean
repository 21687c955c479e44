/-
  Walks: each Go function, called with what reads as plain data, returns what its plain program computes.
  Conditions: None beyond the given statement.
-/
import Derived.Test.YtbemhgddkkggmaaRows
import Derived.Test.YtbemhgddkkggmaaP
import Derived.Test.YtbemhgddkkggmaaMut
namespace Go.Proofs.Ytbemhgddkkggmaa
open Go
attribute [local irreducible] setL setB opA fineI idleI fineB evB okB markB markBs readyB readyBs chainB lk rho pickL dropSlot tailOK
theorem mixed : Try.prog.follows .mixedOrders = true := by kernel_rfl
def cd58 : Cd (TPlace) := flatCd 58 4 (by decide) (fun x => [.int .i64 x.From, .int .i64 x.To, .int .i64 x.Delay, .int .i64 x.Tokens]) (fun _ => rfl) (fun _ => rfl)
theorem cd58_own (x : TPlace) : ∀ h, cd58.own h x [.int .i64 x.From, .int .i64 x.To, .int .i64 x.Delay, .int .i64 x.Tokens] [] := fun _ => ⟨rfl, rfl⟩
theorem cd58_flat : Flat cd58 := fun _ _ _ _ o => o.2
theorem cd58_copies : Copies cd58 := fun _ _ _ _ o => ⟨o, rfl⟩
theorem cd58_zero : ∀ h, cd58.own h (⟨0, 0, 0, 0⟩ : TPlace) [.int .i64 0, .int .i64 0, .int .i64 0, .int .i64 0] [] := fun _ => ⟨rfl, rfl⟩
theorem cd58_ti : TI Try.prog 58 (.agg #[.int .i64 0, .int .i64 0, .int .i64 0, .int .i64 0]) 4 32 := by unfold TI; kernel_rfl
theorem cd58_elem {h : Heap} {B : Bs} {a : Option Addr} {c : Nat} {l : List (TPlace)} {j : Nat} {x : TPlace} (r : Rd cd58 h B a c l) (hx : l[j]? = some x) : ∀ i v, ([.int .i64 x.From, .int .i64 x.To, .int .i64 x.Delay, .int .i64 x.Tokens] : List Value)[i]? = some v → cellH h ((adr a (j * 4)).add i) = some v := r.elem hx (fun _ o => o)
theorem cd58_f0 {h : Heap} {B : Bs} {a : Option Addr} {c : Nat} {l : List (TPlace)} {j : Nat} {x : TPlace} (r : Rd cd58 h B a c l) (hx : l[j]? = some x) : cellH h ((adr a (j * 4)).add 0) = some (.int .i64 x.From) := r.field hx (fun vs o => by rw [show vs = _ from o]; rfl)
theorem cd58_f1 {h : Heap} {B : Bs} {a : Option Addr} {c : Nat} {l : List (TPlace)} {j : Nat} {x : TPlace} (r : Rd cd58 h B a c l) (hx : l[j]? = some x) : cellH h ((adr a (j * 4)).add 1) = some (.int .i64 x.To) := r.field hx (fun vs o => by rw [show vs = _ from o]; rfl)
theorem cd58_f2 {h : Heap} {B : Bs} {a : Option Addr} {c : Nat} {l : List (TPlace)} {j : Nat} {x : TPlace} (r : Rd cd58 h B a c l) (hx : l[j]? = some x) : cellH h ((adr a (j * 4)).add 2) = some (.int .i64 x.Delay) := r.field hx (fun vs o => by rw [show vs = _ from o]; rfl)
theorem cd58_f3 {h : Heap} {B : Bs} {a : Option Addr} {c : Nat} {l : List (TPlace)} {j : Nat} {x : TPlace} (r : Rd cd58 h B a c l) (hx : l[j]? = some x) : cellH h ((adr a (j * 4)).add 3) = some (.int .i64 x.Tokens) := r.field hx (fun vs o => by rw [show vs = _ from o]; rfl)
def cd50 : Cd (TPlace) := flatCd 50 4 (by decide) (fun x => [.int .i64 x.From, .int .i64 x.To, .int .i64 x.Delay, .int .i64 x.Tokens]) (fun _ => rfl) (fun _ => rfl)
theorem cd50_own (x : TPlace) : ∀ h, cd50.own h x [.int .i64 x.From, .int .i64 x.To, .int .i64 x.Delay, .int .i64 x.Tokens] [] := fun _ => ⟨rfl, rfl⟩
theorem cd50_flat : Flat cd50 := fun _ _ _ _ o => o.2
theorem cd50_copies : Copies cd50 := fun _ _ _ _ o => ⟨o, rfl⟩
theorem cd50_zero : ∀ h, cd50.own h (⟨0, 0, 0, 0⟩ : TPlace) [.int .i64 0, .int .i64 0, .int .i64 0, .int .i64 0] [] := fun _ => ⟨rfl, rfl⟩
theorem cd50_ti : TI Try.prog 50 (.agg #[.int .i64 0, .int .i64 0, .int .i64 0, .int .i64 0]) 4 32 := by unfold TI; kernel_rfl
theorem cd50_elem {h : Heap} {B : Bs} {a : Option Addr} {c : Nat} {l : List (TPlace)} {j : Nat} {x : TPlace} (r : Rd cd50 h B a c l) (hx : l[j]? = some x) : ∀ i v, ([.int .i64 x.From, .int .i64 x.To, .int .i64 x.Delay, .int .i64 x.Tokens] : List Value)[i]? = some v → cellH h ((adr a (j * 4)).add i) = some v := r.elem hx (fun _ o => o)
theorem cd50_f0 {h : Heap} {B : Bs} {a : Option Addr} {c : Nat} {l : List (TPlace)} {j : Nat} {x : TPlace} (r : Rd cd50 h B a c l) (hx : l[j]? = some x) : cellH h ((adr a (j * 4)).add 0) = some (.int .i64 x.From) := r.field hx (fun vs o => by rw [show vs = _ from o]; rfl)
theorem cd50_f1 {h : Heap} {B : Bs} {a : Option Addr} {c : Nat} {l : List (TPlace)} {j : Nat} {x : TPlace} (r : Rd cd50 h B a c l) (hx : l[j]? = some x) : cellH h ((adr a (j * 4)).add 1) = some (.int .i64 x.To) := r.field hx (fun vs o => by rw [show vs = _ from o]; rfl)
theorem cd50_f2 {h : Heap} {B : Bs} {a : Option Addr} {c : Nat} {l : List (TPlace)} {j : Nat} {x : TPlace} (r : Rd cd50 h B a c l) (hx : l[j]? = some x) : cellH h ((adr a (j * 4)).add 2) = some (.int .i64 x.Delay) := r.field hx (fun vs o => by rw [show vs = _ from o]; rfl)
theorem cd50_f3 {h : Heap} {B : Bs} {a : Option Addr} {c : Nat} {l : List (TPlace)} {j : Nat} {x : TPlace} (r : Rd cd50 h B a c l) (hx : l[j]? = some x) : cellH h ((adr a (j * 4)).add 3) = some (.int .i64 x.Tokens) := r.field hx (fun vs o => by rw [show vs = _ from o]; rfl)
set_option maxRecDepth 100000 in
set_option maxHeartbeats 4000000 in
theorem w_laws_szPlaceS (h : Heap) (a_ : List TPlace) {Sa_ : Bs} (aa_ : Option Addr) (ca_ : Nat) (ra_ : Rd cd58 h Sa_ aa_ ca_ a_) (left : Int) (n : Nat) (r : Int) (hF : laws_szPlaceS a_ left n = some r) :
    Fn Try.prog 17 #[.slice aa_ a_.length ca_, .int .i64 left] h fun v h' => v = .int .i64 r ∧ h' = h := by
  unfold laws_szPlaceS at hF
  refine Fn_enter (args := [.slice aa_ a_.length ca_, .int .i64 left]) Try.func17 rfl (by kernel_rfl) (by kernel_rfl) (fun w0 _ => ?_)
  refine Run_seq ?_
  refine Run_reg 1 (by kernel_rfl) (L' := [(0, .slice aa_ a_.length ca_), (1, .int .i64 left)]) ?_ ?_
  · refine QRun_b [.int .i64 0] 0 _ (by kernel_rfl) (fun w => by kernel_rfl) ?_
    exact QRun_done [0, 1] (by kernel_rfl) (by kernel_rfl)
  refine Run_seq ?_
  refine Run_reg 5 (by kernel_rfl) (L' := [(1, .int .i64 (w64 (left - (a_.length : Int))))]) ?_ ?_
  · refine QRun_b [.int .i64 left, .slice aa_ a_.length ca_, .int .i64 (a_.length : Int), .int .i64 (w64 (left - (a_.length : Int))), .int .i64 (w64 (left - (a_.length : Int)))] 0 _ (by kernel_rfl) (fun w => by kernel_rfl) ?_
    exact QRun_done [1] (by kernel_rfl) (by kernel_rfl)
  refine Run_seq ?_
  refine Run_seq ?_
  refine Run_reg 2 (by kernel_rfl) (L' := [(1, .int .i64 (w64 (left - (a_.length : Int)))), (10, .bool (decide ((w64 (left - (a_.length : Int))) < 0)))]) ?_ ?_
  · refine QRun_b [.int .i64 (w64 (left - (a_.length : Int))), .bool (decide ((w64 (left - (a_.length : Int))) < 0))] 0 _ (by kernel_rfl) (fun w => by kernel_rfl) ?_
    exact QRun_done [1, 10] (by kernel_rfl) (by kernel_rfl)
  refine Run_cond (b := decide ((w64 (left - (a_.length : Int))) < 0)) (by kernel_rfl) (fun hb1 => ?_) (fun hb1 => ?_)
  · have hF := (M.ite_some hF).1 hb1
    refine Run_seq ?_
    refine Run_reg 1 (by kernel_rfl) (L' := [(4, .int .i64 (-1))]) ?_ ?_
    · refine QRun_b [.int .i64 (-1)] 0 _ (by kernel_rfl) (fun w => by kernel_rfl) ?_
      exact QRun_done [4] (by kernel_rfl) (by kernel_rfl)
    have hF := M.ret_some hF
    subst hF
    exact Run_ret1 rfl (ResV_tmp (v := .int .i64 (-1)) (by kernel_rfl)) ⟨rfl, rfl⟩
  · have hF := (M.ite_some hF).2 hb1
    refine Run_skip ?_
    refine Run_seq ?_
    refine Run_reg 2 (by kernel_rfl) (L' := [(4, .int .i64 (w64 (left - (a_.length : Int))))]) ?_ ?_
    · refine QRun_b [.int .i64 (w64 (left - (a_.length : Int))), .int .i64 (w64 (left - (a_.length : Int)))] 0 _ (by kernel_rfl) (fun w => by kernel_rfl) ?_
      exact QRun_done [4] (by kernel_rfl) (by kernel_rfl)
    have hF := M.ret_some hF
    subst hF
    exact Run_ret1 rfl (ResV_tmp (v := .int .i64 (w64 (left - (a_.length : Int)))) (by kernel_rfl)) ⟨rfl, rfl⟩

set_option maxRecDepth 100000 in
set_option maxHeartbeats 4000000 in
theorem w_laws_szEventGraph (h : Heap) (a_ : TGraph) (aa_Places : Option Addr) (ca_Places : Nat) (ra_Places : Rd cd58 h (Lt h) aa_Places ca_Places a_.Places) (left : Int) (n : Nat) (r : Int) (hF : laws_szEventGraph a_ left n = some r) :
    Fn Try.prog 6 #[.agg #[.int .i64 a_.Events, .slice aa_Places a_.Places.length ca_Places], .int .i64 left] h fun v h' => v = .int .i64 r ∧ Hold h h' [] := by
  unfold laws_szEventGraph at hF
  refine Fn_enter (args := [.agg #[.int .i64 a_.Events, .slice aa_Places a_.Places.length ca_Places], .int .i64 left]) Try.func6 rfl (by kernel_rfl) (by kernel_rfl) (fun w0 _ => ?_)
  have H0 := Hold.init h
  refine Run_seq ?_
  refine Run_ops ?_
  refine Run_E (by kernel_rfl) ?_
  refine E_box (ty := 24) (cs := [.int .i64 a_.Events, .slice aa_Places a_.Places.length ca_Places]) H0 (fun w => by kernel_rfl) (fun b1 h1 H1 => ?_)
  refine Run_b [.int .i64 0] 1 _ (by kernel_rfl) (fun w => by kernel_rfl) ?_
  refine Run_nil (by kernel_rfl) ?_
  refine Run_keep [1, 2] (L' := [(1, .int .i64 left), (2, .pointer (some ⟨b1, 0, none⟩))]) (by kernel_rfl) ?_
  refine Run_seq ?_
  obtain ⟨x1, hx1, hF⟩ := M.bind_some hF
  refine Run_reg 5 (by kernel_rfl) (L' := [(1, .int .i64 x1)]) ?_ ?_
  · refine QRun_b [.pointer (some ⟨b1, 1, none⟩)] 0 _ (by kernel_rfl) (fun w => by kernel_rfl) ?_
    refine QRun_y (.slice aa_Places a_.Places.length ca_Places) (by kernel_rfl) (Y_load1 (t := 22) (p := ⟨b1, 1, none⟩) (v := .slice aa_Places a_.Places.length ca_Places) (by kernel_rfl) (fun w => by kernel_rfl) (H1.cell 0 rfl rfl)) ?_
    refine QRun_b [.int .i64 left] 2 _ (by kernel_rfl) (fun w => by kernel_rfl) ?_
    refine QRun_y (.int .i64 x1) (by kernel_rfl) (Y_callq (f := 17) (args := #[.slice aa_Places a_.Places.length ca_Places, .int .i64 left]) (v := .int .i64 x1) (by kernel_rfl) (w_laws_szPlaceS h1 a_.Places aa_Places ca_Places (ra_Places.at H1.ext) left _ _ hx1)) ?_
    refine QRun_b [.int .i64 x1] 4 _ (by kernel_rfl) (fun w => by kernel_rfl) ?_
    exact QRun_done [1] (by kernel_rfl) (by kernel_rfl)
  refine Run_seq ?_
  refine Run_seq ?_
  refine Run_reg 2 (by kernel_rfl) (L' := [(1, .int .i64 x1), (10, .bool (decide (x1 < 0)))]) ?_ ?_
  · refine QRun_b [.int .i64 x1, .bool (decide (x1 < 0))] 0 _ (by kernel_rfl) (fun w => by kernel_rfl) ?_
    exact QRun_done [1, 10] (by kernel_rfl) (by kernel_rfl)
  refine Run_cond (b := decide (x1 < 0)) (by kernel_rfl) (fun hb1 => ?_) (fun hb1 => ?_)
  · have hF := (M.ite_some hF).1 hb1
    refine Run_seq ?_
    refine Run_reg 1 (by kernel_rfl) (L' := [(4, .int .i64 (-1))]) ?_ ?_
    · refine QRun_b [.int .i64 (-1)] 0 _ (by kernel_rfl) (fun w => by kernel_rfl) ?_
      exact QRun_done [4] (by kernel_rfl) (by kernel_rfl)
    have hF := M.ret_some hF
    subst hF
    have H2 : Hold h h1 [] := H1.pick [] (by kernel_rfl)
    exact Run_ret1 rfl (ResV_tmp (v := .int .i64 (-1)) (by kernel_rfl)) ⟨rfl, H2⟩
  · have hF := (M.ite_some hF).2 hb1
    refine Run_skip ?_
    refine Run_seq ?_
    refine Run_reg 2 (by kernel_rfl) (L' := [(4, .int .i64 x1)]) ?_ ?_
    · refine QRun_b [.int .i64 x1, .int .i64 x1] 0 _ (by kernel_rfl) (fun w => by kernel_rfl) ?_
      exact QRun_done [4] (by kernel_rfl) (by kernel_rfl)
    have hF := M.ret_some hF
    subst hF
    have H3 : Hold h h1 [] := H1.pick [] (by kernel_rfl)
    exact Run_ret1 rfl (ResV_tmp (v := .int .i64 x1) (by kernel_rfl)) ⟨rfl, H3⟩

set_option maxRecDepth 100000 in
set_option maxHeartbeats 4000000 in
theorem w_laws_toPlace (h : Heap) (a_ : TPlace) (n : Nat) (r : TPlace) (hF : laws_toPlace a_ n = some r) :
    Fn Try.prog 36 #[.agg #[.int .i64 a_.From, .int .i64 a_.To, .int .i64 a_.Delay, .int .i64 a_.Tokens]] h fun v h' => v = .agg #[.int .i64 r.From, .int .i64 r.To, .int .i64 r.Delay, .int .i64 r.Tokens] ∧ Hold h h' [] := by
  unfold laws_toPlace at hF
  refine Fn_enter (args := [.agg #[.int .i64 a_.From, .int .i64 a_.To, .int .i64 a_.Delay, .int .i64 a_.Tokens]]) Try.func36 rfl (by kernel_rfl) (by kernel_rfl) (fun w0 _ => ?_)
  have H0 := Hold.init h
  refine Run_seq ?_
  refine Run_ops ?_
  refine Run_E (by kernel_rfl) ?_
  refine E_box (ty := 58) (cs := [.int .i64 a_.From, .int .i64 a_.To, .int .i64 a_.Delay, .int .i64 a_.Tokens]) H0 (fun w => by kernel_rfl) (fun b1 h1 H1 => ?_)
  refine Run_E (by kernel_rfl) ?_
  refine E_box (ty := 50) (cs := [.int .i64 0, .int .i64 0, .int .i64 0, .int .i64 0]) H1 (fun w => by kernel_rfl) (fun b2 h2 H2 => ?_)
  refine Run_nil (by kernel_rfl) ?_
  refine Run_keep [1, 2] (L' := [(1, .pointer (some ⟨b1, 0, none⟩)), (2, .pointer (some ⟨b2, 0, none⟩))]) (by kernel_rfl) ?_
  refine Run_seq ?_
  refine Run_ops ?_
  refine Run_E (by kernel_rfl) ?_
  refine E_box (ty := 50) (cs := [.int .i64 0, .int .i64 0, .int .i64 0, .int .i64 0]) H2 (fun w => by kernel_rfl) (fun b3 h3 H3 => ?_)
  refine Run_nil (by kernel_rfl) ?_
  refine Run_keep [1, 2, 3] (L' := [(1, .pointer (some ⟨b1, 0, none⟩)), (2, .pointer (some ⟨b2, 0, none⟩)), (3, .pointer (some ⟨b3, 0, none⟩))]) (by kernel_rfl) ?_
  refine Run_seq ?_
  refine Run_ops ?_
  refine Run_b [.pointer (some ⟨b1, 0, none⟩)] 0 _ (by kernel_rfl) (fun w => by kernel_rfl) ?_
  refine Run_y (.int .i64 a_.From) (by kernel_rfl) (Y_load1 (t := 2) (p := ⟨b1, 0, none⟩) (v := .int .i64 a_.From) (by kernel_rfl) (fun w => by kernel_rfl) (H3.cell 2 rfl rfl)) ?_
  refine Run_b [.pointer (some ⟨b3, 0, none⟩)] 2 _ (by kernel_rfl) (fun w => by kernel_rfl) ?_
  refine Run_E (by kernel_rfl) ?_
  refine E_bput (t := 2) (off := 0) (us := [.int .i64 a_.From, .int .i64 0, .int .i64 0, .int .i64 0]) (v := .int .i64 a_.From) H3 (by kernel_rfl) (by kernel_rfl) rfl (by kernel_rfl) rfl (fun h4 H4 => ?_)
  refine Run_nil (by kernel_rfl) ?_
  refine Run_keep [1, 2, 3] (L' := [(1, .pointer (some ⟨b1, 0, none⟩)), (2, .pointer (some ⟨b2, 0, none⟩)), (3, .pointer (some ⟨b3, 0, none⟩))]) (by kernel_rfl) ?_
  refine Run_seq ?_
  refine Run_ops ?_
  refine Run_b [.pointer (some ⟨b1, 1, none⟩)] 0 _ (by kernel_rfl) (fun w => by kernel_rfl) ?_
  refine Run_y (.int .i64 a_.To) (by kernel_rfl) (Y_load1 (t := 2) (p := ⟨b1, 1, none⟩) (v := .int .i64 a_.To) (by kernel_rfl) (fun w => by kernel_rfl) (H4.cell 2 rfl rfl)) ?_
  refine Run_b [.pointer (some ⟨b3, 1, none⟩)] 2 _ (by kernel_rfl) (fun w => by kernel_rfl) ?_
  refine Run_E (by kernel_rfl) ?_
  refine E_bput (t := 2) (off := 1) (us := [.int .i64 a_.From, .int .i64 a_.To, .int .i64 0, .int .i64 0]) (v := .int .i64 a_.To) H4 (by kernel_rfl) (by kernel_rfl) rfl (by kernel_rfl) rfl (fun h5 H5 => ?_)
  refine Run_nil (by kernel_rfl) ?_
  refine Run_keep [1, 2, 3] (L' := [(1, .pointer (some ⟨b1, 0, none⟩)), (2, .pointer (some ⟨b2, 0, none⟩)), (3, .pointer (some ⟨b3, 0, none⟩))]) (by kernel_rfl) ?_
  refine Run_seq ?_
  refine Run_ops ?_
  refine Run_b [.pointer (some ⟨b1, 2, none⟩)] 0 _ (by kernel_rfl) (fun w => by kernel_rfl) ?_
  refine Run_y (.int .i64 a_.Delay) (by kernel_rfl) (Y_load1 (t := 2) (p := ⟨b1, 2, none⟩) (v := .int .i64 a_.Delay) (by kernel_rfl) (fun w => by kernel_rfl) (H5.cell 2 rfl rfl)) ?_
  refine Run_b [.pointer (some ⟨b3, 2, none⟩)] 2 _ (by kernel_rfl) (fun w => by kernel_rfl) ?_
  refine Run_E (by kernel_rfl) ?_
  refine E_bput (t := 2) (off := 2) (us := [.int .i64 a_.From, .int .i64 a_.To, .int .i64 a_.Delay, .int .i64 0]) (v := .int .i64 a_.Delay) H5 (by kernel_rfl) (by kernel_rfl) rfl (by kernel_rfl) rfl (fun h6 H6 => ?_)
  refine Run_nil (by kernel_rfl) ?_
  refine Run_keep [1, 2, 3] (L' := [(1, .pointer (some ⟨b1, 0, none⟩)), (2, .pointer (some ⟨b2, 0, none⟩)), (3, .pointer (some ⟨b3, 0, none⟩))]) (by kernel_rfl) ?_
  refine Run_seq ?_
  refine Run_ops ?_
  refine Run_b [.pointer (some ⟨b1, 3, none⟩)] 0 _ (by kernel_rfl) (fun w => by kernel_rfl) ?_
  refine Run_y (.int .i64 a_.Tokens) (by kernel_rfl) (Y_load1 (t := 2) (p := ⟨b1, 3, none⟩) (v := .int .i64 a_.Tokens) (by kernel_rfl) (fun w => by kernel_rfl) (H6.cell 2 rfl rfl)) ?_
  refine Run_b [.pointer (some ⟨b3, 3, none⟩)] 2 _ (by kernel_rfl) (fun w => by kernel_rfl) ?_
  refine Run_E (by kernel_rfl) ?_
  refine E_bput (t := 2) (off := 3) (us := [.int .i64 a_.From, .int .i64 a_.To, .int .i64 a_.Delay, .int .i64 a_.Tokens]) (v := .int .i64 a_.Tokens) H6 (by kernel_rfl) (by kernel_rfl) rfl (by kernel_rfl) rfl (fun h7 H7 => ?_)
  refine Run_nil (by kernel_rfl) ?_
  refine Run_keep [2, 3] (L' := [(2, .pointer (some ⟨b2, 0, none⟩)), (3, .pointer (some ⟨b3, 0, none⟩))]) (by kernel_rfl) ?_
  refine Run_seq ?_
  refine Run_ops ?_
  refine Run_y (.agg #[.int .i64 a_.From, .int .i64 a_.To, .int .i64 a_.Delay, .int .i64 a_.Tokens]) (by kernel_rfl) (Y_loadA (t := 50) (n := 4) (p := ⟨b3, 0, none⟩) (cs := [.int .i64 a_.From, .int .i64 a_.To, .int .i64 a_.Delay, .int .i64 a_.Tokens]) (by kernel_rfl) (fun w => by kernel_rfl) (by kernel_rfl) rfl (H7.cells (n := 4) (off := 0) 0 rfl rfl)) ?_
  have H9 : Hold h h7 [box b2 50 [.int .i64 0, .int .i64 0, .int .i64 0, .int .i64 0], box b3 50 [.int .i64 a_.From, .int .i64 a_.To, .int .i64 a_.Delay, .int .i64 a_.Tokens], box b1 58 [.int .i64 a_.From, .int .i64 a_.To, .int .i64 a_.Delay, .int .i64 a_.Tokens]] := H7.pick [1, 0, 2] (by kernel_rfl)
  refine Run_E (by kernel_rfl) ?_
  refine E_bput (t := 50) (off := 0) (us := [.int .i64 a_.From, .int .i64 a_.To, .int .i64 a_.Delay, .int .i64 a_.Tokens]) (v := .agg #[.int .i64 a_.From, .int .i64 a_.To, .int .i64 a_.Delay, .int .i64 a_.Tokens]) H9 (by kernel_rfl) (by kernel_rfl) rfl (by kernel_rfl) rfl (fun h8 H8 => ?_)
  refine Run_nil (by kernel_rfl) ?_
  refine Run_keep [2] (L' := [(2, .pointer (some ⟨b2, 0, none⟩))]) (by kernel_rfl) ?_
  have hF := M.ret_some hF
  subst hF
  have H10 : Hold h h8 [] := H8.pick [] (by kernel_rfl)
  exact Run_ret1 rfl (ResV_cell (n := 4) (cs := [.int .i64 a_.From, .int .i64 a_.To, .int .i64 a_.Delay, .int .i64 a_.Tokens]) (by kernel_rfl) (fun w => by kernel_rfl) (by kernel_rfl) rfl (H8.cells (n := 4) (off := 0) 0 rfl rfl)) ⟨rfl, H10⟩

set_option maxRecDepth 100000 in
set_option maxHeartbeats 4000000 in
theorem w_laws_toPlaceS (h : Heap) (a_ : List TPlace) (aa_ : Option Addr) (ca_ : Nat) (ra_ : Rd cd58 h (Lt h) aa_ ca_ a_) (n : Nat) (r : (List TPlace)) (hF : laws_toPlaceS a_ n = some r) :
    Fn Try.prog 20 #[.slice aa_ a_.length ca_] h fun v h' => ∃ (a0 : Option Addr) (c0 : Nat), v = .slice a0 r.length c0 ∧ Hold h h' [own cd50 a0 r.length c0 r] := by
  unfold laws_toPlaceS at hF
  refine Fn_enter (args := [.slice aa_ a_.length ca_]) Try.func20 rfl (by kernel_rfl) (by kernel_rfl) (fun w0 _ => ?_)
  have H0 := Hold.init h
  refine Run_seq ?_
  refine Run_reg 1 (by kernel_rfl) (L' := [(0, .slice aa_ a_.length ca_)]) ?_ ?_
  · refine QRun_b [.slice none 0 0] 0 _ (by kernel_rfl) (fun w => by kernel_rfl) ?_
    exact QRun_done [0] (by kernel_rfl) (by kernel_rfl)
  refine Run_seq ?_
  refine Run_ops ?_
  refine Run_b [.slice aa_ a_.length ca_, .int .i64 (a_.length : Int)] 0 _ (by kernel_rfl) (fun w => by kernel_rfl) ?_
  obtain ⟨l1, hl1, hF⟩ := M.bind_some hF
  have hl1 := M.make_some hl1
  refine Run_E (by kernel_rfl) ?_
  refine E_make cd50 (⟨0, 0, 0, 0⟩ : TPlace) (kl := .i64) (kc := .i64) H0 cd50_ti Try.underlying28 (by decide) cd50_zero (by kernel_rfl) hl1 (fun a1 h1 H1 => ?_)
  refine Run_b [.slice a1 l1.length l1.length] 3 _ (by kernel_rfl) (fun w => by kernel_rfl) ?_
  refine Run_nil (by kernel_rfl) ?_
  refine Run_keep [0, 3] (L' := [(0, .slice aa_ a_.length ca_), (3, .slice a1 l1.length l1.length)]) (by kernel_rfl) ?_
  refine Run_seq ?_
  refine Run_seq ?_
  refine Run_reg 1 (by kernel_rfl) (L' := [(0, .slice aa_ a_.length ca_), (3, .slice a1 l1.length l1.length), (4, .int .i64 0)]) ?_ ?_
  · refine QRun_b [.int .i64 0] 0 _ (by kernel_rfl) (fun w => by kernel_rfl) ?_
    exact QRun_done [0, 3, 4] (by kernel_rfl) (by kernel_rfl)
  obtain ⟨x1, gx1, hF⟩ := M.bind_some hF
  obtain ⟨hloy1, hhiy1, gx1⟩ := M.for_start gx1
  refine Run_join (fun L' h' => L' = [(3, .slice a1 l1.length l1.length)] ∧ Hold h h' [own cd50 a1 l1.length l1.length x1]) ?_ ?_
  · rintro _ h3 ⟨rfl, H3⟩
    refine Run_seq ?_
    refine Run_reg 2 (by kernel_rfl) (L' := [(2, .slice a1 l1.length l1.length)]) ?_ ?_
    · refine QRun_b [.slice a1 l1.length l1.length, .slice a1 l1.length l1.length] 0 _ (by kernel_rfl) (fun w => by kernel_rfl) ?_
      exact QRun_done [2] (by kernel_rfl) (by kernel_rfl)
    have hF := M.ret_some hF
    subst hF
    have H7 := H3.norm
    exact Run_ret1 rfl (ResV_tmp (v := .slice a1 l1.length l1.length) (by kernel_rfl)) ⟨a1, l1.length, (by simp only [(H3.len 0 rfl)]), H7⟩
  · refine Run_block ?_
    refine Run_keep [0, 3, 4] (L' := [(0, .slice aa_ a_.length ca_), (3, .slice a1 l1.length l1.length), (4, .int .i64 0)]) (by kernel_rfl) ?_
    refine Run_loop (fun m L' h' => ∃ (i1 : Int) (s1 : (List TPlace)), 0 ≤ i1 ∧ M.forN (a_.length : Int) _ _ n m i1 s1 = some x1 ∧ L' = [(0, .slice aa_ a_.length ca_), (3, .slice a1 l1.length l1.length), (4, .int .i64 i1)] ∧ Hold h h' [own cd50 a1 l1.length l1.length s1]) ((a_.length : Int) - 0 : Int).toNat ⟨0, l1, Int.le_refl _, gx1, rfl, H1⟩ ?_
    rintro my1 _ h2 ⟨i1, s1, hloy1', gx1, rfl, H2⟩
    refine Run_seq ?_
    refine Run_seq ?_
    refine Run_reg 4 (by kernel_rfl) (L' := [(0, .slice aa_ a_.length ca_), (3, .slice a1 l1.length l1.length), (4, .int .i64 i1), (11, .bool (decide (i1 < (a_.length : Int))))]) ?_ ?_
    · refine QRun_b [.int .i64 i1, .slice aa_ a_.length ca_, .int .i64 (a_.length : Int), .bool (decide (i1 < (a_.length : Int)))] 0 _ (by kernel_rfl) (fun w => by kernel_rfl) ?_
      exact QRun_done [0, 3, 4, 11] (by kernel_rfl) (by kernel_rfl)
    refine Run_cond (b := decide (i1 < (a_.length : Int))) (by kernel_rfl) (fun hb1 => ?_) (fun hb1 => ?_)
    · obtain ⟨my1, y1, rfl, hB1, hgoy1, houty1⟩ := M.for_go gx1 hb1
      have hlty1 := of_decide_eq_true hb1
      refine Run_skip ?_
      refine Run_seq ?_
      refine Run_block ?_
      refine Run_ops ?_
      obtain ⟨x2, hx1, hB1⟩ := M.bind_some hB1
      obtain ⟨hx1l, hx1u, hx1⟩ := M.idx_some hx1
      refine Run_b [.slice a1 l1.length l1.length, .int .i64 i1, .slice aa_ a_.length ca_, .int .i64 i1] 0 _ (by kernel_rfl) (fun w => by kernel_rfl) ?_
      refine Run_y (.pointer (some (adr aa_ (i1.toNat * 4)))) (by kernel_rfl) (Y_idx (t := 22) (e := 58) (sz := 4) (a := aa_) (n := a_.length) (cap := ca_) (kk := .i64) (i := i1) (by kernel_rfl) Try.underlying22 (by kernel_rfl) ((ra_.at H2.ext).cell hx1).1 hx1l hx1u) ?_
      refine Run_y (.agg #[.int .i64 x2.From, .int .i64 x2.To, .int .i64 x2.Delay, .int .i64 x2.Tokens]) (by kernel_rfl) (Y_loadA (t := 58) (n := 4) (p := adr aa_ (i1.toNat * 4)) (cs := [.int .i64 x2.From, .int .i64 x2.To, .int .i64 x2.Delay, .int .i64 x2.Tokens]) (by kernel_rfl) (fun w => by kernel_rfl) (by kernel_rfl) rfl (cd58_elem (ra_.at H2.ext) hx1)) ?_
      obtain ⟨x3, hx2, hB1⟩ := M.bind_some hB1
      refine Run_E (by kernel_rfl) ?_
      refine E_call (f := 36) (args := #[.agg #[.int .i64 x2.From, .int .i64 x2.To, .int .i64 x2.Delay, .int .i64 x2.Tokens]]) (w_laws_toPlace h2 x2 _ _ hx2) (by kernel_rfl) (fun v1 h4 hp1 => ?_)
      obtain ⟨rfl, H4⟩ := hp1
      have H5 : Hold h h4 [own cd50 a1 l1.length l1.length s1] := H2.call H4 rfl
      obtain ⟨x4, hx3, hB1⟩ := M.bind_some hB1
      obtain ⟨hx3l, hx3u, hx3⟩ := M.idx_some hx3
      refine Run_y (.pointer (some (adr a1 (i1.toNat * 4)))) (by kernel_rfl) (Y_idx (t := 28) (e := 50) (sz := 4) (a := a1) (n := l1.length) (cap := l1.length) (kk := .i64) (i := i1) (by kernel_rfl) Try.underlying28 (by kernel_rfl) ((H5.rd 0 rfl).cell hx3).1 hx3l (by rw [← (H5.len 0 rfl)]; exact hx3u)) ?_
      obtain ⟨l2, hu1, hB1⟩ := M.bind_some hB1
      have hu1 := M.upd_some hu1
      refine Run_E (by kernel_rfl) ?_
      refine E_put (C := cd50) (t := 50) (sz := 4) (j := i1) (x := x3) (v := .agg #[.int .i64 x3.From, .int .i64 x3.To, .int .i64 x3.Delay, .int .i64 x3.Tokens]) H5 cd50_flat (by kernel_rfl) rfl (cd50_own _) (by kernel_rfl) hu1 (fun h5 H6 => ?_)
      refine Run_nil (by kernel_rfl) ?_
      refine Run_keep [0, 3, 4] (L' := [(0, .slice aa_ a_.length ca_), (3, .slice a1 l1.length l1.length), (4, .int .i64 i1)]) (by kernel_rfl) ?_
      refine Run_blk ?_
      refine Run_reg 3 (by kernel_rfl) (L' := [(0, .slice aa_ a_.length ca_), (3, .slice a1 l1.length l1.length), (4, .int .i64 (i1 + 1))]) ?_ ?_
      · refine QRun_b [.int .i64 i1] 0 _ (by kernel_rfl) (fun w => by kernel_rfl) ?_
        refine QRun_y (.int .i64 (i1 + 1)) (by kernel_rfl) (Y_eq (v := .int .i64 (w64 (i1 + 1))) (Y_pure (fun w => by kernel_rfl)) (by rw [w64_eq _ (by omega)])) ?_
        refine QRun_b [.int .i64 (i1 + 1)] 2 _ (by kernel_rfl) (fun w => by kernel_rfl) ?_
        exact QRun_done [0, 3, 4] (by kernel_rfl) (by kernel_rfl)
      have hB1 := M.ret_some hB1
      have gx1 := hgoy1 _ hB1.symm
      exact Run_again [0, 3, 4] (by kernel_rfl) my1 (Nat.lt_succ_self _) ⟨i1 + 1, l2, by omega, gx1, rfl, H6⟩
    · have gx1 := M.for_end gx1 hb1
      subst gx1
      refine Run_exit (k' := _) rfl ?_
      exact Run_fall [3] (by kernel_rfl) ⟨rfl, H2⟩

set_option maxRecDepth 100000 in
set_option maxHeartbeats 4000000 in
theorem w_laws_toEventGraph (h : Heap) (a_ : TGraph) (aa_Places : Option Addr) (ca_Places : Nat) (ra_Places : Rd cd58 h (Lt h) aa_Places ca_Places a_.Places) (n : Nat) (r : TGraph) (hF : laws_toEventGraph a_ n = some r) :
    Fn Try.prog 8 #[.agg #[.int .i64 a_.Events, .slice aa_Places a_.Places.length ca_Places]] h fun v h' => ∃ (a0 : Option Addr) (c0 : Nat), v = .agg #[.int .i64 r.Events, .slice a0 r.Places.length c0] ∧ Hold h h' [own cd50 a0 r.Places.length c0 r.Places] := by
  unfold laws_toEventGraph at hF
  refine Fn_enter (args := [.agg #[.int .i64 a_.Events, .slice aa_Places a_.Places.length ca_Places]]) Try.func8 rfl (by kernel_rfl) (by kernel_rfl) (fun w0 _ => ?_)
  have H0 := Hold.init h
  refine Run_seq ?_
  refine Run_ops ?_
  refine Run_E (by kernel_rfl) ?_
  refine E_box (ty := 24) (cs := [.int .i64 a_.Events, .slice aa_Places a_.Places.length ca_Places]) H0 (fun w => by kernel_rfl) (fun b1 h1 H1 => ?_)
  refine Run_E (by kernel_rfl) ?_
  refine E_box (ty := 30) (cs := [.int .i64 0, .slice none 0 0]) H1 (fun w => by kernel_rfl) (fun b2 h2 H2 => ?_)
  refine Run_nil (by kernel_rfl) ?_
  refine Run_keep [1, 2] (L' := [(1, .pointer (some ⟨b1, 0, none⟩)), (2, .pointer (some ⟨b2, 0, none⟩))]) (by kernel_rfl) ?_
  refine Run_seq ?_
  refine Run_ops ?_
  refine Run_E (by kernel_rfl) ?_
  refine E_box (ty := 30) (cs := [.int .i64 0, .slice none 0 0]) H2 (fun w => by kernel_rfl) (fun b3 h3 H3 => ?_)
  refine Run_nil (by kernel_rfl) ?_
  refine Run_keep [1, 2, 3] (L' := [(1, .pointer (some ⟨b1, 0, none⟩)), (2, .pointer (some ⟨b2, 0, none⟩)), (3, .pointer (some ⟨b3, 0, none⟩))]) (by kernel_rfl) ?_
  refine Run_seq ?_
  refine Run_ops ?_
  refine Run_b [.pointer (some ⟨b1, 0, none⟩)] 0 _ (by kernel_rfl) (fun w => by kernel_rfl) ?_
  refine Run_y (.int .i64 a_.Events) (by kernel_rfl) (Y_load1 (t := 2) (p := ⟨b1, 0, none⟩) (v := .int .i64 a_.Events) (by kernel_rfl) (fun w => by kernel_rfl) (H3.cell 2 rfl rfl)) ?_
  refine Run_b [.pointer (some ⟨b3, 0, none⟩)] 2 _ (by kernel_rfl) (fun w => by kernel_rfl) ?_
  refine Run_E (by kernel_rfl) ?_
  refine E_bput (t := 2) (off := 0) (us := [.int .i64 a_.Events, .slice none 0 0]) (v := .int .i64 a_.Events) H3 (by kernel_rfl) (by kernel_rfl) rfl (by kernel_rfl) rfl (fun h4 H4 => ?_)
  refine Run_nil (by kernel_rfl) ?_
  refine Run_keep [1, 2, 3] (L' := [(1, .pointer (some ⟨b1, 0, none⟩)), (2, .pointer (some ⟨b2, 0, none⟩)), (3, .pointer (some ⟨b3, 0, none⟩))]) (by kernel_rfl) ?_
  refine Run_seq ?_
  refine Run_ops ?_
  refine Run_b [.pointer (some ⟨b1, 1, none⟩)] 0 _ (by kernel_rfl) (fun w => by kernel_rfl) ?_
  refine Run_y (.slice aa_Places a_.Places.length ca_Places) (by kernel_rfl) (Y_load1 (t := 22) (p := ⟨b1, 1, none⟩) (v := .slice aa_Places a_.Places.length ca_Places) (by kernel_rfl) (fun w => by kernel_rfl) (H4.cell 2 rfl rfl)) ?_
  obtain ⟨x1, hx1, hF⟩ := M.bind_some hF
  refine Run_E (by kernel_rfl) ?_
  refine E_call (f := 20) (args := #[.slice aa_Places a_.Places.length ca_Places]) (w_laws_toPlaceS h4 a_.Places aa_Places ca_Places (ra_Places.at H4.ext) _ _ hx1) (by kernel_rfl) (fun v1 h5 hp1 => ?_)
  obtain ⟨a1, c1, rfl, H5⟩ := hp1
  have H6 : Hold h h5 [own cd50 a1 x1.length c1 x1, box b3 30 [.int .i64 a_.Events, .slice none 0 0], box b2 30 [.int .i64 0, .slice none 0 0], box b1 24 [.int .i64 a_.Events, .slice aa_Places a_.Places.length ca_Places]] := H4.call H5 rfl
  refine Run_b [.pointer (some ⟨b3, 1, none⟩)] 3 _ (by kernel_rfl) (fun w => by kernel_rfl) ?_
  have H8 : Hold h h5 [box b3 30 [.int .i64 a_.Events, .slice none 0 0], own cd50 a1 x1.length c1 x1, box b2 30 [.int .i64 0, .slice none 0 0], box b1 24 [.int .i64 a_.Events, .slice aa_Places a_.Places.length ca_Places]] := H6.pick [1, 0, 2, 3] (by kernel_rfl)
  refine Run_E (by kernel_rfl) ?_
  refine E_bput (t := 28) (off := 1) (us := [.int .i64 a_.Events, .slice a1 x1.length c1]) (v := .slice a1 x1.length c1) H8 (by kernel_rfl) (by kernel_rfl) rfl (by kernel_rfl) rfl (fun h6 H7 => ?_)
  refine Run_nil (by kernel_rfl) ?_
  refine Run_keep [2, 3] (L' := [(2, .pointer (some ⟨b2, 0, none⟩)), (3, .pointer (some ⟨b3, 0, none⟩))]) (by kernel_rfl) ?_
  refine Run_seq ?_
  refine Run_ops ?_
  refine Run_y (.agg #[.int .i64 a_.Events, .slice a1 x1.length c1]) (by kernel_rfl) (Y_loadA (t := 30) (n := 2) (p := ⟨b3, 0, none⟩) (cs := [.int .i64 a_.Events, .slice a1 x1.length c1]) (by kernel_rfl) (fun w => by kernel_rfl) (by kernel_rfl) rfl (H7.cells (n := 2) (off := 0) 0 rfl rfl)) ?_
  have H10 : Hold h h6 [box b2 30 [.int .i64 0, .slice none 0 0], box b3 30 [.int .i64 a_.Events, .slice a1 x1.length c1], own cd50 a1 x1.length c1 x1, box b1 24 [.int .i64 a_.Events, .slice aa_Places a_.Places.length ca_Places]] := H7.pick [2, 0, 1, 3] (by kernel_rfl)
  refine Run_E (by kernel_rfl) ?_
  refine E_bput (t := 30) (off := 0) (us := [.int .i64 a_.Events, .slice a1 x1.length c1]) (v := .agg #[.int .i64 a_.Events, .slice a1 x1.length c1]) H10 (by kernel_rfl) (by kernel_rfl) rfl (by kernel_rfl) rfl (fun h7 H9 => ?_)
  refine Run_nil (by kernel_rfl) ?_
  refine Run_keep [2] (L' := [(2, .pointer (some ⟨b2, 0, none⟩))]) (by kernel_rfl) ?_
  have hF := M.ret_some hF
  subst hF
  have H11 : Hold h h7 [own cd50 a1 x1.length c1 x1, box b2 30 [.int .i64 a_.Events, .slice a1 x1.length c1], box b3 30 [.int .i64 a_.Events, .slice a1 x1.length c1], box b1 24 [.int .i64 a_.Events, .slice aa_Places a_.Places.length ca_Places]] := H9.pick [2, 0, 1, 3] (by kernel_rfl)
  have H12 : Hold h h7 [own cd50 a1 x1.length c1 x1] := H11.pick [0] (by kernel_rfl)
  exact Run_ret1 rfl (ResV_cell (n := 2) (cs := [.int .i64 a_.Events, .slice a1 x1.length c1]) (by kernel_rfl) (fun w => by kernel_rfl) (by kernel_rfl) rfl (H9.cells (n := 2) (off := 0) 0 rfl rfl)) ⟨a1, c1, rfl, H12⟩

set_option maxRecDepth 100000 in
set_option maxHeartbeats 4000000 in
theorem w_spec_l01In (h : Heap) (n_ : Int) (low : Int) (high : Int) (n : Nat) (r : Bool) (hF : spec_l01In n_ low high n = some r) :
    Fn Try.prog 33 #[.int .i64 n_, .int .i64 low, .int .i64 high] h fun v h' => v = .bool r ∧ h' = h := by
  unfold spec_l01In at hF
  refine Fn_enter (args := [.int .i64 n_, .int .i64 low, .int .i64 high]) Try.func33 rfl (by kernel_rfl) (by kernel_rfl) (fun w0 _ => ?_)
  refine Run_seq ?_
  refine Run_reg 1 (by kernel_rfl) (L' := [(0, .int .i64 n_), (1, .int .i64 low), (2, .int .i64 high)]) ?_ ?_
  · refine QRun_b [.bool false] 0 _ (by kernel_rfl) (fun w => by kernel_rfl) ?_
    exact QRun_done [0, 1, 2] (by kernel_rfl) (by kernel_rfl)
  refine Run_seq ?_
  refine Run_reg 9 (by kernel_rfl) (L' := [(6, .bool ((decide (low ≤ n_)) && (decide (n_ ≤ high))))]) ?_ ?_
  · refine QRun_b [.int .i64 n_, .int .i64 low, .bool (decide (low ≤ n_))] 0 _ (by kernel_rfl) (fun w => by kernel_rfl) ?_
    refine QRun_seq 8 [(14, .bool ((decide (low ≤ n_)) && (decide (n_ ≤ high))))] ?_ ?_
    · rcases Bool.eq_false_or_eq_true (decide (low ≤ n_)) with hb1 | hb1
      · refine QRun_bool (decide (low ≤ n_)) true (by kernel_rfl) (fun w => by kernel_rfl) hb1 ?_
        refine QRun_b [.int .i64 n_, .int .i64 high, .bool (decide (n_ ≤ high))] 4 _ (by kernel_rfl) (fun w => by kernel_rfl) ?_
        refine QRun_bool (decide (n_ ≤ high)) ((decide (low ≤ n_)) && (decide (n_ ≤ high))) (by kernel_rfl) (fun w => by kernel_rfl) (by rw [hb1]; rfl) ?_
        exact QRun_done [14] (by kernel_rfl) (by kernel_rfl)
      · refine QRun_bool (decide (low ≤ n_)) false (by kernel_rfl) (fun w => by kernel_rfl) hb1 ?_
        refine QRun_n (by kernel_rfl) ?_
        refine QRun_n (by kernel_rfl) ?_
        refine QRun_n (by kernel_rfl) ?_
        refine QRun_bool false ((decide (low ≤ n_)) && (decide (n_ ≤ high))) (by kernel_rfl) (fun w => by kernel_rfl) (by rw [hb1]; rfl) ?_
        exact QRun_done [14] (by kernel_rfl) (by kernel_rfl)
    refine QRun_b [.bool ((decide (low ≤ n_)) && (decide (n_ ≤ high)))] 8 _ (by kernel_rfl) (fun w => by kernel_rfl) ?_
    exact QRun_done [6] (by kernel_rfl) (by kernel_rfl)
  have hF := M.ret_some hF
  subst hF
  exact Run_ret1 rfl (ResV_tmp (v := .bool ((decide (low ≤ n_)) && (decide (n_ ≤ high)))) (by kernel_rfl)) ⟨rfl, rfl⟩

set_option maxRecDepth 100000 in
set_option maxHeartbeats 4000000 in
theorem w_spec_l11Place (h : Heap) (p : TPlace) (events : Int) (n : Nat) (r : Bool) (hF : spec_l11Place p events n = some r) :
    Fn Try.prog 32 #[.agg #[.int .i64 p.From, .int .i64 p.To, .int .i64 p.Delay, .int .i64 p.Tokens], .int .i64 events] h fun v h' => v = .bool r ∧ Hold h h' [] := by
  unfold spec_l11Place at hF
  refine Fn_enter (args := [.agg #[.int .i64 p.From, .int .i64 p.To, .int .i64 p.Delay, .int .i64 p.Tokens], .int .i64 events]) Try.func32 rfl (by kernel_rfl) (by kernel_rfl) (fun w0 _ => ?_)
  have H0 := Hold.init h
  refine Run_seq ?_
  refine Run_ops ?_
  refine Run_E (by kernel_rfl) ?_
  refine E_box (ty := 50) (cs := [.int .i64 p.From, .int .i64 p.To, .int .i64 p.Delay, .int .i64 p.Tokens]) H0 (fun w => by kernel_rfl) (fun b1 h1 H1 => ?_)
  refine Run_b [.bool false] 1 _ (by kernel_rfl) (fun w => by kernel_rfl) ?_
  refine Run_nil (by kernel_rfl) ?_
  refine Run_keep [1, 2] (L' := [(1, .int .i64 events), (2, .pointer (some ⟨b1, 0, none⟩))]) (by kernel_rfl) ?_
  refine Run_seq ?_
  obtain ⟨x1, hx1, hF⟩ := M.bind_some hF
  obtain ⟨x2, gx2, hF⟩ := M.bind_some hF
  obtain ⟨x4, gx4, hF⟩ := M.bind_some hF
  obtain ⟨x6, gx6, hF⟩ := M.bind_some hF
  refine Run_reg 23 (by kernel_rfl) (L' := [(4, .bool x6)]) ?_ ?_
  · refine QRun_b [.pointer (some ⟨b1, 0, none⟩)] 0 _ (by kernel_rfl) (fun w => by kernel_rfl) ?_
    refine QRun_y (.int .i64 p.From) (by kernel_rfl) (Y_load1 (t := 2) (p := ⟨b1, 0, none⟩) (v := .int .i64 p.From) (by kernel_rfl) (fun w => by kernel_rfl) (H1.cell 0 rfl rfl)) ?_
    refine QRun_b [.int .i64 events, .int .i64 (w64 (events - 1))] 2 _ (by kernel_rfl) (fun w => by kernel_rfl) ?_
    refine QRun_y (.bool x1) (by kernel_rfl) (Y_callq (f := 33) (args := #[.int .i64 p.From, .int .i64 0, .int .i64 (w64 (events - 1))]) (v := .bool x1) (by kernel_rfl) (w_spec_l01In h1 p.From 0 (w64 (events - 1)) _ _ hx1)) ?_
    refine QRun_seq 12 [(2, .pointer (some ⟨b1, 0, none⟩)), (16, .bool x2)] ?_ ?_
    · rcases Bool.eq_false_or_eq_true x1 with hb1 | hb1
      · refine QRun_bool x1 true (by kernel_rfl) (fun w => by kernel_rfl) hb1 ?_
        have gx2 := (M.ite_some gx2).1 hb1
        obtain ⟨x3, hx2, gx2⟩ := M.bind_some gx2
        have gx2 := M.ret_some gx2
        refine QRun_b [.pointer (some ⟨b1, 1, none⟩)] 6 _ (by kernel_rfl) (fun w => by kernel_rfl) ?_
        refine QRun_y (.int .i64 p.To) (by kernel_rfl) (Y_load1 (t := 2) (p := ⟨b1, 1, none⟩) (v := .int .i64 p.To) (by kernel_rfl) (fun w => by kernel_rfl) (H1.cell 0 rfl rfl)) ?_
        refine QRun_b [.int .i64 events, .int .i64 (w64 (events - 1))] 8 _ (by kernel_rfl) (fun w => by kernel_rfl) ?_
        refine QRun_y (.bool x3) (by kernel_rfl) (Y_callq (f := 33) (args := #[.int .i64 p.To, .int .i64 0, .int .i64 (w64 (events - 1))]) (v := .bool x3) (by kernel_rfl) (w_spec_l01In h1 p.To 0 (w64 (events - 1)) _ _ hx2)) ?_
        refine QRun_bool x3 x2 (by kernel_rfl) (fun w => by kernel_rfl) gx2 ?_
        exact QRun_done [2, 16] (by kernel_rfl) (by kernel_rfl)
      · refine QRun_bool x1 false (by kernel_rfl) (fun w => by kernel_rfl) hb1 ?_
        have gx2 := M.ret_some ((M.ite_some gx2).2 hb1)
        refine QRun_n (by kernel_rfl) ?_
        refine QRun_n (by kernel_rfl) ?_
        refine QRun_n (by kernel_rfl) ?_
        refine QRun_n (by kernel_rfl) ?_
        refine QRun_n (by kernel_rfl) ?_
        refine QRun_bool false x2 (by kernel_rfl) (fun w => by kernel_rfl) gx2 ?_
        exact QRun_done [2, 16] (by kernel_rfl) (by kernel_rfl)
    refine QRun_seq 17 [(2, .pointer (some ⟨b1, 0, none⟩)), (21, .bool x4)] ?_ ?_
    · rcases Bool.eq_false_or_eq_true x2 with hb2 | hb2
      · refine QRun_bool x2 true (by kernel_rfl) (fun w => by kernel_rfl) hb2 ?_
        have gx4 := (M.ite_some gx4).1 hb2
        obtain ⟨x5, hx3, gx4⟩ := M.bind_some gx4
        have gx4 := M.ret_some gx4
        refine QRun_b [.pointer (some ⟨b1, 2, none⟩)] 13 _ (by kernel_rfl) (fun w => by kernel_rfl) ?_
        refine QRun_y (.int .i64 p.Delay) (by kernel_rfl) (Y_load1 (t := 2) (p := ⟨b1, 2, none⟩) (v := .int .i64 p.Delay) (by kernel_rfl) (fun w => by kernel_rfl) (H1.cell 0 rfl rfl)) ?_
        refine QRun_y (.bool x5) (by kernel_rfl) (Y_callq (f := 33) (args := #[.int .i64 p.Delay, .int .i64 0, .int .i64 1000]) (v := .bool x5) (by kernel_rfl) (w_spec_l01In h1 p.Delay 0 1000 _ _ hx3)) ?_
        refine QRun_bool x5 x4 (by kernel_rfl) (fun w => by kernel_rfl) gx4 ?_
        exact QRun_done [2, 21] (by kernel_rfl) (by kernel_rfl)
      · refine QRun_bool x2 false (by kernel_rfl) (fun w => by kernel_rfl) hb2 ?_
        have gx4 := M.ret_some ((M.ite_some gx4).2 hb2)
        refine QRun_n (by kernel_rfl) ?_
        refine QRun_n (by kernel_rfl) ?_
        refine QRun_n (by kernel_rfl) ?_
        refine QRun_bool false x4 (by kernel_rfl) (fun w => by kernel_rfl) gx4 ?_
        exact QRun_done [2, 21] (by kernel_rfl) (by kernel_rfl)
    refine QRun_seq 22 [(26, .bool x6)] ?_ ?_
    · rcases Bool.eq_false_or_eq_true x4 with hb3 | hb3
      · refine QRun_bool x4 true (by kernel_rfl) (fun w => by kernel_rfl) hb3 ?_
        have gx6 := (M.ite_some gx6).1 hb3
        obtain ⟨x7, hx4, gx6⟩ := M.bind_some gx6
        have gx6 := M.ret_some gx6
        refine QRun_b [.pointer (some ⟨b1, 3, none⟩)] 18 _ (by kernel_rfl) (fun w => by kernel_rfl) ?_
        refine QRun_y (.int .i64 p.Tokens) (by kernel_rfl) (Y_load1 (t := 2) (p := ⟨b1, 3, none⟩) (v := .int .i64 p.Tokens) (by kernel_rfl) (fun w => by kernel_rfl) (H1.cell 0 rfl rfl)) ?_
        refine QRun_y (.bool x7) (by kernel_rfl) (Y_callq (f := 33) (args := #[.int .i64 p.Tokens, .int .i64 0, .int .i64 5]) (v := .bool x7) (by kernel_rfl) (w_spec_l01In h1 p.Tokens 0 5 _ _ hx4)) ?_
        refine QRun_bool x7 x6 (by kernel_rfl) (fun w => by kernel_rfl) gx6 ?_
        exact QRun_done [26] (by kernel_rfl) (by kernel_rfl)
      · refine QRun_bool x4 false (by kernel_rfl) (fun w => by kernel_rfl) hb3 ?_
        have gx6 := M.ret_some ((M.ite_some gx6).2 hb3)
        refine QRun_n (by kernel_rfl) ?_
        refine QRun_n (by kernel_rfl) ?_
        refine QRun_n (by kernel_rfl) ?_
        refine QRun_bool false x6 (by kernel_rfl) (fun w => by kernel_rfl) gx6 ?_
        exact QRun_done [26] (by kernel_rfl) (by kernel_rfl)
    refine QRun_b [.bool x6] 22 _ (by kernel_rfl) (fun w => by kernel_rfl) ?_
    exact QRun_done [4] (by kernel_rfl) (by kernel_rfl)
  have hF := M.ret_some hF
  subst hF
  have H2 : Hold h h1 [] := H1.pick [] (by kernel_rfl)
  exact Run_ret1 rfl (ResV_tmp (v := .bool x6) (by kernel_rfl)) ⟨rfl, H2⟩

set_option maxRecDepth 100000 in
set_option maxHeartbeats 4000000 in
theorem w_spec_IsEventGraph (h : Heap) (g : TGraph) (agPlaces : Option Addr) (cgPlaces : Nat) (rgPlaces : Rd cd50 h (Lt h) agPlaces cgPlaces g.Places) (n : Nat) (r : Bool) (hF : spec_IsEventGraph g n = some r) :
    Fn Try.prog 18 #[.agg #[.int .i64 g.Events, .slice agPlaces g.Places.length cgPlaces]] h fun v h' => v = .bool r ∧ Hold h h' [] := by
  unfold spec_IsEventGraph at hF
  refine Fn_enter (args := [.agg #[.int .i64 g.Events, .slice agPlaces g.Places.length cgPlaces]]) Try.func18 rfl (by kernel_rfl) (by kernel_rfl) (fun w0 _ => ?_)
  have H0 := Hold.init h
  refine Run_seq ?_
  refine Run_ops ?_
  refine Run_E (by kernel_rfl) ?_
  refine E_box (ty := 30) (cs := [.int .i64 g.Events, .slice agPlaces g.Places.length cgPlaces]) H0 (fun w => by kernel_rfl) (fun b1 h1 H1 => ?_)
  refine Run_b [.bool false] 1 _ (by kernel_rfl) (fun w => by kernel_rfl) ?_
  refine Run_nil (by kernel_rfl) ?_
  refine Run_keep [1] (L' := [(1, .pointer (some ⟨b1, 0, none⟩))]) (by kernel_rfl) ?_
  refine Run_seq ?_
  refine Run_seq ?_
  refine Run_reg 1 (by kernel_rfl) (L' := [(1, .pointer (some ⟨b1, 0, none⟩)), (3, .int .i64 0)]) ?_ ?_
  · refine QRun_b [.int .i64 0] 0 _ (by kernel_rfl) (fun w => by kernel_rfl) ?_
    exact QRun_done [1, 3] (by kernel_rfl) (by kernel_rfl)
  obtain ⟨x1, gx1, hF⟩ := M.bind_some hF
  refine Run_join (fun L' h' => ∃ (s2 : Int), x1 = .inl s2 ∧ L' = [(1, .pointer (some ⟨b1, 0, none⟩))] ∧ Hold h h' [box b1 30 [.int .i64 g.Events, .slice agPlaces g.Places.length cgPlaces]]) ?_ ?_
  · rintro _ h3 ⟨s2, es2, rfl, H3⟩
    have hF := M.cont_inl' hF es2
    refine Run_seq ?_
    obtain ⟨x4, hx3, hF⟩ := M.bind_some hF
    refine Run_reg 10 (by kernel_rfl) (L' := [(2, .bool (x4 && (decide ((g.Places.length : Int) ≤ 30))))]) ?_ ?_
    · refine QRun_b [.pointer (some ⟨b1, 0, none⟩)] 0 _ (by kernel_rfl) (fun w => by kernel_rfl) ?_
      refine QRun_y (.int .i64 g.Events) (by kernel_rfl) (Y_load1 (t := 2) (p := ⟨b1, 0, none⟩) (v := .int .i64 g.Events) (by kernel_rfl) (fun w => by kernel_rfl) (H3.cell 0 rfl rfl)) ?_
      refine QRun_y (.bool x4) (by kernel_rfl) (Y_callq (f := 33) (args := #[.int .i64 g.Events, .int .i64 1, .int .i64 10]) (v := .bool x4) (by kernel_rfl) (w_spec_l01In h3 g.Events 1 10 _ _ hx3)) ?_
      refine QRun_seq 9 [(28, .bool (x4 && (decide ((g.Places.length : Int) ≤ 30))))] ?_ ?_
      · rcases Bool.eq_false_or_eq_true x4 with hb3 | hb3
        · refine QRun_bool x4 true (by kernel_rfl) (fun w => by kernel_rfl) hb3 ?_
          refine QRun_b [.pointer (some ⟨b1, 1, none⟩)] 4 _ (by kernel_rfl) (fun w => by kernel_rfl) ?_
          refine QRun_y (.slice agPlaces g.Places.length cgPlaces) (by kernel_rfl) (Y_load1 (t := 28) (p := ⟨b1, 1, none⟩) (v := .slice agPlaces g.Places.length cgPlaces) (by kernel_rfl) (fun w => by kernel_rfl) (H3.cell 0 rfl rfl)) ?_
          refine QRun_b [.int .i64 (g.Places.length : Int), .bool (decide ((g.Places.length : Int) ≤ 30))] 6 _ (by kernel_rfl) (fun w => by kernel_rfl) ?_
          refine QRun_bool (decide ((g.Places.length : Int) ≤ 30)) (x4 && (decide ((g.Places.length : Int) ≤ 30))) (by kernel_rfl) (fun w => by kernel_rfl) (by rw [hb3]; rfl) ?_
          exact QRun_done [28] (by kernel_rfl) (by kernel_rfl)
        · refine QRun_bool x4 false (by kernel_rfl) (fun w => by kernel_rfl) hb3 ?_
          refine QRun_n (by kernel_rfl) ?_
          refine QRun_n (by kernel_rfl) ?_
          refine QRun_n (by kernel_rfl) ?_
          refine QRun_n (by kernel_rfl) ?_
          refine QRun_bool false (x4 && (decide ((g.Places.length : Int) ≤ 30))) (by kernel_rfl) (fun w => by kernel_rfl) (by rw [hb3]; rfl) ?_
          exact QRun_done [28] (by kernel_rfl) (by kernel_rfl)
      refine QRun_b [.bool (x4 && (decide ((g.Places.length : Int) ≤ 30)))] 9 _ (by kernel_rfl) (fun w => by kernel_rfl) ?_
      exact QRun_done [2] (by kernel_rfl) (by kernel_rfl)
    have hF := M.ret_some hF
    subst hF
    have H7 : Hold h h3 [] := H3.pick [] (by kernel_rfl)
    exact Run_ret1 rfl (ResV_tmp (v := .bool (x4 && (decide ((g.Places.length : Int) ≤ 30)))) (by kernel_rfl)) ⟨rfl, H7⟩
  · refine Run_block ?_
    refine Run_keep [1, 3] (L' := [(1, .pointer (some ⟨b1, 0, none⟩)), (3, .int .i64 0)]) (by kernel_rfl) ?_
    refine Run_loop (fun m L' h' => ∃ (s1 : Int), M.loopN _ n m s1 = some x1 ∧ L' = [(1, .pointer (some ⟨b1, 0, none⟩)), (3, .int .i64 s1)] ∧ Hold h h' [box b1 30 [.int .i64 g.Events, .slice agPlaces g.Places.length cgPlaces]]) n ⟨0, gx1, rfl, H1⟩ ?_
    rintro my1 _ h2 ⟨s1, gx1, rfl, H2⟩
    obtain ⟨my1, y1, rfl, hB1, hgoy1, houty1⟩ := M.loop_some gx1
    refine Run_seq ?_
    refine Run_seq ?_
    refine Run_reg 5 (by kernel_rfl) (L' := [(1, .pointer (some ⟨b1, 0, none⟩)), (3, .int .i64 s1), (8, .bool (decide (s1 < (g.Places.length : Int))))]) ?_ ?_
    · refine QRun_b [.int .i64 s1, .pointer (some ⟨b1, 1, none⟩)] 0 _ (by kernel_rfl) (fun w => by kernel_rfl) ?_
      refine QRun_y (.slice agPlaces g.Places.length cgPlaces) (by kernel_rfl) (Y_load1 (t := 28) (p := ⟨b1, 1, none⟩) (v := .slice agPlaces g.Places.length cgPlaces) (by kernel_rfl) (fun w => by kernel_rfl) (H2.cell 0 rfl rfl)) ?_
      refine QRun_b [.int .i64 (g.Places.length : Int), .bool (decide (s1 < (g.Places.length : Int)))] 3 _ (by kernel_rfl) (fun w => by kernel_rfl) ?_
      exact QRun_done [1, 3, 8] (by kernel_rfl) (by kernel_rfl)
    refine Run_cond (b := decide (s1 < (g.Places.length : Int))) (by kernel_rfl) (fun hb1 => ?_) (fun hb1 => ?_)
    · have hB1 := (M.ite_some hB1).1 hb1
      refine Run_skip ?_
      refine Run_seq ?_
      refine Run_block ?_
      refine Run_seq ?_
      obtain ⟨x2, hx1, hB1⟩ := M.bind_some hB1
      obtain ⟨hx1l, hx1u, hx1⟩ := M.idx_some hx1
      obtain ⟨x3, hx2, hB1⟩ := M.bind_some hB1
      refine Run_drawC (j := 9) (C := fun x => Hold h x [box b1 30 [.int .i64 g.Events, .slice agPlaces g.Places.length cgPlaces]]) mixed (by kernel_rfl) (by kernel_rfl) H2 (L' := [(1, .pointer (some ⟨b1, 0, none⟩)), (3, .int .i64 s1), (19, .bool (!x3))]) ?_ (fun h4 H4 => ?_)
      · refine QRun_b [.pointer (some ⟨b1, 1, none⟩)] 0 _ (by kernel_rfl) (fun w => by kernel_rfl) ?_
        refine QRun_y (.slice agPlaces g.Places.length cgPlaces) (by kernel_rfl) (Y_cls fun hx Hx => (Y_load1 (t := 28) (p := ⟨b1, 1, none⟩) (v := .slice agPlaces g.Places.length cgPlaces) (by kernel_rfl) (fun w => by kernel_rfl) (Hx.cell 0 rfl rfl))) ?_
        refine QRun_b [.int .i64 s1] 2 _ (by kernel_rfl) (fun w => by kernel_rfl) ?_
        refine QRun_y (.pointer (some (adr agPlaces (s1.toNat * 4)))) (by kernel_rfl) (Y_cls fun hx Hx => (Y_idx (t := 28) (e := 50) (sz := 4) (a := agPlaces) (n := g.Places.length) (cap := cgPlaces) (kk := .i64) (i := s1) (by kernel_rfl) Try.underlying28 (by kernel_rfl) ((rgPlaces.at H2.ext).cell hx1).1 hx1l hx1u)) ?_
        refine QRun_y (.agg #[.int .i64 x2.From, .int .i64 x2.To, .int .i64 x2.Delay, .int .i64 x2.Tokens]) (by kernel_rfl) (Y_cls fun hx Hx => (Y_loadA (t := 50) (n := 4) (p := adr agPlaces (s1.toNat * 4)) (cs := [.int .i64 x2.From, .int .i64 x2.To, .int .i64 x2.Delay, .int .i64 x2.Tokens]) (by kernel_rfl) (fun w => by kernel_rfl) (by kernel_rfl) rfl (cd50_elem (rgPlaces.at Hx.ext) hx1))) ?_
        refine QRun_b [.pointer (some ⟨b1, 0, none⟩)] 5 _ (by kernel_rfl) (fun w => by kernel_rfl) ?_
        refine QRun_y (.int .i64 g.Events) (by kernel_rfl) (Y_cls fun hx Hx => (Y_load1 (t := 2) (p := ⟨b1, 0, none⟩) (v := .int .i64 g.Events) (by kernel_rfl) (fun w => by kernel_rfl) (Hx.cell 0 rfl rfl))) ?_
        refine QRun_y (.bool x3) (by kernel_rfl) (Y_call (f := 32) (args := #[.agg #[.int .i64 x2.From, .int .i64 x2.To, .int .i64 x2.Delay, .int .i64 x2.Tokens], .int .i64 g.Events]) (v := .bool x3) (by kernel_rfl) fun hx Hx => (w_spec_l11Place hx x2 g.Events _ _ hx2).mono fun _ _ ⟨e, H'⟩ => ⟨e, Hx.call H' rfl⟩) ?_
        refine QRun_b [.bool (!x3)] 8 _ (by kernel_rfl) (fun w => by kernel_rfl) ?_
        exact QRun_done [1, 3, 19] (by kernel_rfl) (by kernel_rfl)
      have H5 : Hold h h4 [box b1 30 [.int .i64 g.Events, .slice agPlaces g.Places.length cgPlaces]] := H4
      refine Run_cond (b := !x3) (by kernel_rfl) (fun hb2 => ?_) (fun hb2 => ?_)
      · have hB1 := (M.ite_some hB1).1 hb2
        refine Run_seq ?_
        refine Run_reg 1 (by kernel_rfl) (L' := [(2, .bool false)]) ?_ ?_
        · refine QRun_b [.bool false] 0 _ (by kernel_rfl) (fun w => by kernel_rfl) ?_
          exact QRun_done [2] (by kernel_rfl) (by kernel_rfl)
        have hB1 := M.ret_some hB1
        have gx1 := houty1 _ hB1.symm
        have hF := M.cont_inr' hF gx1
        have hF := M.ret_some hF
        subst hF
        have H6 : Hold h h4 [] := H5.pick [] (by kernel_rfl)
        exact Run_ret1 rfl (ResV_tmp (v := .bool false) (by kernel_rfl)) ⟨rfl, H6⟩
      · have hB1 := (M.ite_some hB1).2 hb2
        refine Run_skip ?_
        refine Run_blk ?_
        refine Run_reg 3 (by kernel_rfl) (L' := [(1, .pointer (some ⟨b1, 0, none⟩)), (3, .int .i64 (w64 (s1 + 1)))]) ?_ ?_
        · refine QRun_b [.int .i64 s1, .int .i64 (w64 (s1 + 1)), .int .i64 (w64 (s1 + 1))] 0 _ (by kernel_rfl) (fun w => by kernel_rfl) ?_
          exact QRun_done [1, 3] (by kernel_rfl) (by kernel_rfl)
        have hB1 := M.ret_some hB1
        have gx1 := hgoy1 _ hB1.symm
        exact Run_again [1, 3] (by kernel_rfl) my1 (Nat.lt_succ_self _) ⟨(w64 (s1 + 1)), gx1, rfl, H5⟩
    · have hB1 := (M.ite_some hB1).2 hb1
      refine Run_exit (k' := _) rfl ?_
      have hB1 := M.ret_some hB1
      have gx1 := houty1 _ hB1.symm
      subst gx1
      exact Run_fall [1] (by kernel_rfl) ⟨s1, rfl, rfl, H2⟩

set_option maxRecDepth 100000 in
set_option maxHeartbeats 4000000 in
theorem w_spec_l11Index (h : Heap) (g : TGraph) (agPlaces : Option Addr) (cgPlaces : Nat) (rgPlaces : Rd cd50 h (Lt h) agPlaces cgPlaces g.Places) (i : Int) (n : Nat) (r : Int) (hF : spec_l11Index g i n = some r) :
    Fn Try.prog 24 #[.agg #[.int .i64 g.Events, .slice agPlaces g.Places.length cgPlaces], .int .i64 i] h fun v h' => v = .int .i64 r ∧ Hold h h' [] := by
  unfold spec_l11Index at hF
  refine Fn_enter (args := [.agg #[.int .i64 g.Events, .slice agPlaces g.Places.length cgPlaces], .int .i64 i]) Try.func24 rfl (by kernel_rfl) (by kernel_rfl) (fun w0 _ => ?_)
  have H0 := Hold.init h
  refine Run_seq ?_
  refine Run_ops ?_
  refine Run_E (by kernel_rfl) ?_
  refine E_box (ty := 30) (cs := [.int .i64 g.Events, .slice agPlaces g.Places.length cgPlaces]) H0 (fun w => by kernel_rfl) (fun b1 h1 H1 => ?_)
  refine Run_b [.int .i64 0] 1 _ (by kernel_rfl) (fun w => by kernel_rfl) ?_
  refine Run_nil (by kernel_rfl) ?_
  refine Run_keep [1, 2] (L' := [(1, .int .i64 i), (2, .pointer (some ⟨b1, 0, none⟩))]) (by kernel_rfl) ?_
  refine Run_seq ?_
  refine Run_block ?_
  refine Run_seq ?_
  obtain ⟨x1, hx1, hF⟩ := M.bind_some hF
  refine Run_regC (j := 4) (C := fun x => Hold h x [box b1 30 [.int .i64 g.Events, .slice agPlaces g.Places.length cgPlaces]]) (by kernel_rfl) H1 (L' := [(1, .int .i64 i), (2, .pointer (some ⟨b1, 0, none⟩)), (5, .bool (!x1))]) ?_ (fun h2 H2 => ?_)
  · refine QRun_y (.agg #[.int .i64 g.Events, .slice agPlaces g.Places.length cgPlaces]) (by kernel_rfl) (Y_cls fun hx Hx => (Y_loadA (t := 30) (n := 2) (p := ⟨b1, 0, none⟩) (cs := [.int .i64 g.Events, .slice agPlaces g.Places.length cgPlaces]) (by kernel_rfl) (fun w => by kernel_rfl) (by kernel_rfl) rfl (Hx.cells (n := 2) (off := 0) 0 rfl rfl))) ?_
    refine QRun_y (.bool x1) (by kernel_rfl) (Y_call (f := 18) (args := #[.agg #[.int .i64 g.Events, .slice agPlaces g.Places.length cgPlaces]]) (v := .bool x1) (by kernel_rfl) fun hx Hx => (w_spec_IsEventGraph hx g agPlaces cgPlaces (rgPlaces.at Hx.ext) _ _ hx1).mono fun _ _ ⟨e, H'⟩ => ⟨e, Hx.call H' rfl⟩) ?_
    refine QRun_b [.bool (!x1), .bool (!x1)] 2 _ (by kernel_rfl) (fun w => by kernel_rfl) ?_
    exact QRun_done [1, 2, 5] (by kernel_rfl) (by kernel_rfl)
  have H3 : Hold h h2 [box b1 30 [.int .i64 g.Events, .slice agPlaces g.Places.length cgPlaces]] := H2
  refine Run_cond (b := !x1) (by kernel_rfl) (fun hb1 => ?_) (fun hb1 => ?_)
  · have hF := (M.ite_some hF).1 hb1
    refine Run_seq ?_
    refine Run_reg 1 (by kernel_rfl) (L' := [(4, .int .i64 1)]) ?_ ?_
    · refine QRun_b [.int .i64 1] 0 _ (by kernel_rfl) (fun w => by kernel_rfl) ?_
      exact QRun_done [4] (by kernel_rfl) (by kernel_rfl)
    have hF := M.ret_some hF
    subst hF
    have H4 : Hold h h2 [] := H3.pick [] (by kernel_rfl)
    exact Run_ret1 rfl (ResV_tmp (v := .int .i64 1) (by kernel_rfl)) ⟨rfl, H4⟩
  · have hF := (M.ite_some hF).2 hb1
    refine Run_seq ?_
    obtain ⟨x2, hx2, hF⟩ := M.bind_some hF
    refine Run_reg 8 (by kernel_rfl) (L' := [(9, .bool (!x2))]) ?_ ?_
    · refine QRun_b [.int .i64 i, .pointer (some ⟨b1, 1, none⟩)] 0 _ (by kernel_rfl) (fun w => by kernel_rfl) ?_
      refine QRun_y (.slice agPlaces g.Places.length cgPlaces) (by kernel_rfl) (Y_load1 (t := 28) (p := ⟨b1, 1, none⟩) (v := .slice agPlaces g.Places.length cgPlaces) (by kernel_rfl) (fun w => by kernel_rfl) (H3.cell 0 rfl rfl)) ?_
      refine QRun_b [.int .i64 (g.Places.length : Int), .int .i64 (w64 ((g.Places.length : Int) - 1))] 3 _ (by kernel_rfl) (fun w => by kernel_rfl) ?_
      refine QRun_y (.bool x2) (by kernel_rfl) (Y_callq (f := 33) (args := #[.int .i64 i, .int .i64 0, .int .i64 (w64 ((g.Places.length : Int) - 1))]) (v := .bool x2) (by kernel_rfl) (w_spec_l01In h2 i 0 (w64 ((g.Places.length : Int) - 1)) _ _ hx2)) ?_
      refine QRun_b [.bool (!x2), .bool (!x2)] 6 _ (by kernel_rfl) (fun w => by kernel_rfl) ?_
      exact QRun_done [9] (by kernel_rfl) (by kernel_rfl)
    refine Run_cond (b := !x2) (by kernel_rfl) (fun hb2 => ?_) (fun hb2 => ?_)
    · have hF := (M.ite_some hF).1 hb2
      refine Run_seq ?_
      refine Run_reg 1 (by kernel_rfl) (L' := [(4, .int .i64 2)]) ?_ ?_
      · refine QRun_b [.int .i64 2] 0 _ (by kernel_rfl) (fun w => by kernel_rfl) ?_
        exact QRun_done [4] (by kernel_rfl) (by kernel_rfl)
      have hF := M.ret_some hF
      subst hF
      have H5 : Hold h h2 [] := H3.pick [] (by kernel_rfl)
      exact Run_ret1 rfl (ResV_tmp (v := .int .i64 2) (by kernel_rfl)) ⟨rfl, H5⟩
    · have hF := (M.ite_some hF).2 hb2
      refine Run_skip ?_
      refine Run_blk ?_
      refine Run_seq ?_
      refine Run_reg 1 (by kernel_rfl) (L' := [(4, .int .i64 0)]) ?_ ?_
      · refine QRun_b [.int .i64 0] 0 _ (by kernel_rfl) (fun w => by kernel_rfl) ?_
        exact QRun_done [4] (by kernel_rfl) (by kernel_rfl)
      have hF := M.ret_some hF
      subst hF
      have H6 : Hold h h2 [] := H3.pick [] (by kernel_rfl)
      exact Run_ret1 rfl (ResV_tmp (v := .int .i64 0) (by kernel_rfl)) ⟨rfl, H6⟩

set_option maxRecDepth 100000 in
set_option maxHeartbeats 4000000 in
theorem w_spec_DropPlace (h : Heap) (g : TGraph) (agPlaces : Option Addr) (cgPlaces : Nat) (rgPlaces : Rd cd50 h (Lt h) agPlaces cgPlaces g.Places) (i : Int) (n : Nat) (r : TGraph × Int) (hF : spec_DropPlace g i n = some r) :
    Fn Try.prog 11 #[.agg #[.int .i64 g.Events, .slice agPlaces g.Places.length cgPlaces], .int .i64 i] h fun v h' => ∃ (a0 : Option Addr) (c0 : Nat), v = .tuple #[.agg #[.int .i64 r.1.Events, .slice a0 r.1.Places.length c0], .int .i64 r.2] ∧ Hold h h' [own cd50 a0 r.1.Places.length c0 r.1.Places] := by
  unfold spec_DropPlace at hF
  refine Fn_enter (args := [.agg #[.int .i64 g.Events, .slice agPlaces g.Places.length cgPlaces], .int .i64 i]) Try.func11 rfl (by kernel_rfl) (by kernel_rfl) (fun w0 _ => ?_)
  have H0 := Hold.init h
  refine Run_seq ?_
  refine Run_ops ?_
  refine Run_E (by kernel_rfl) ?_
  refine E_box (ty := 30) (cs := [.int .i64 g.Events, .slice agPlaces g.Places.length cgPlaces]) H0 (fun w => by kernel_rfl) (fun b1 h1 H1 => ?_)
  refine Run_E (by kernel_rfl) ?_
  refine E_box (ty := 30) (cs := [.int .i64 0, .slice none 0 0]) H1 (fun w => by kernel_rfl) (fun b2 h2 H2 => ?_)
  refine Run_b [.int .i64 0] 2 _ (by kernel_rfl) (fun w => by kernel_rfl) ?_
  refine Run_nil (by kernel_rfl) ?_
  refine Run_keep [1, 2, 4] (L' := [(1, .int .i64 i), (2, .pointer (some ⟨b1, 0, none⟩)), (4, .pointer (some ⟨b2, 0, none⟩))]) (by kernel_rfl) ?_
  refine Run_seq ?_
  obtain ⟨x1, hx1, hF⟩ := M.bind_some hF
  refine Run_regC (j := 4) (C := fun x => Hold h x [box b2 30 [.int .i64 0, .slice none 0 0], box b1 30 [.int .i64 g.Events, .slice agPlaces g.Places.length cgPlaces]]) (by kernel_rfl) H2 (L' := [(1, .int .i64 i), (2, .pointer (some ⟨b1, 0, none⟩)), (4, .pointer (some ⟨b2, 0, none⟩)), (6, .int .i64 x1)]) ?_ (fun h3 H3 => ?_)
  · refine QRun_y (.agg #[.int .i64 g.Events, .slice agPlaces g.Places.length cgPlaces]) (by kernel_rfl) (Y_cls fun hx Hx => (Y_loadA (t := 30) (n := 2) (p := ⟨b1, 0, none⟩) (cs := [.int .i64 g.Events, .slice agPlaces g.Places.length cgPlaces]) (by kernel_rfl) (fun w => by kernel_rfl) (by kernel_rfl) rfl (Hx.cells (n := 2) (off := 0) 1 rfl rfl))) ?_
    refine QRun_b [.int .i64 i] 1 _ (by kernel_rfl) (fun w => by kernel_rfl) ?_
    refine QRun_y (.int .i64 x1) (by kernel_rfl) (Y_call (f := 24) (args := #[.agg #[.int .i64 g.Events, .slice agPlaces g.Places.length cgPlaces], .int .i64 i]) (v := .int .i64 x1) (by kernel_rfl) fun hx Hx => (w_spec_l11Index hx g agPlaces cgPlaces (rgPlaces.at Hx.ext) i _ _ hx1).mono fun _ _ ⟨e, H'⟩ => ⟨e, Hx.call H' rfl⟩) ?_
    refine QRun_b [.int .i64 x1] 3 _ (by kernel_rfl) (fun w => by kernel_rfl) ?_
    exact QRun_done [1, 2, 4, 6] (by kernel_rfl) (by kernel_rfl)
  have H4 : Hold h h3 [box b2 30 [.int .i64 0, .slice none 0 0], box b1 30 [.int .i64 g.Events, .slice agPlaces g.Places.length cgPlaces]] := H3
  refine Run_seq ?_
  refine Run_seq ?_
  refine Run_reg 2 (by kernel_rfl) (L' := [(1, .int .i64 i), (2, .pointer (some ⟨b1, 0, none⟩)), (4, .pointer (some ⟨b2, 0, none⟩)), (6, .int .i64 x1), (11, .bool (x1 != 0))]) ?_ ?_
  · refine QRun_b [.int .i64 x1, .bool (x1 != 0)] 0 _ (by kernel_rfl) (fun w => by kernel_rfl) ?_
    exact QRun_done [1, 2, 4, 6, 11] (by kernel_rfl) (by kernel_rfl)
  refine Run_cond (b := x1 != 0) (by kernel_rfl) (fun hb1 => ?_) (fun hb1 => ?_)
  · have hF := (M.ite_some hF).1 hb1
    refine Run_seq ?_
    refine Run_ops ?_
    refine Run_b [.agg #[.int .i64 0, .slice none 0 0], .int .i64 x1] 0 _ (by kernel_rfl) (fun w => by kernel_rfl) ?_
    refine Run_E (by kernel_rfl) ?_
    refine E_bput (t := 30) (off := 0) (us := [.int .i64 0, .slice none 0 0]) (v := .agg #[.int .i64 0, .slice none 0 0]) H4 (by kernel_rfl) (by kernel_rfl) rfl (by kernel_rfl) rfl (fun h4 H5 => ?_)
    refine Run_b [.int .i64 x1] 3 _ (by kernel_rfl) (fun w => by kernel_rfl) ?_
    refine Run_nil (by kernel_rfl) ?_
    refine Run_keep [4, 5] (L' := [(4, .pointer (some ⟨b2, 0, none⟩)), (5, .int .i64 x1)]) (by kernel_rfl) ?_
    have hF := M.ret_some hF
    subst hF
    have H6 := H5.empty cd50
    have H7 : Hold h h4 [own cd50 none 0 0 []] := H6.pick [0] (by kernel_rfl)
    exact Run_ret2 rfl (ResV_cell (n := 2) (cs := [.int .i64 0, .slice none 0 0]) (by kernel_rfl) (fun w => by kernel_rfl) (by kernel_rfl) rfl (H5.cells (n := 2) (off := 0) 0 rfl rfl)) (ResV_tmp (v := .int .i64 x1) (by kernel_rfl)) ⟨none, 0, rfl, H7⟩
  · have hF := (M.ite_some hF).2 hb1
    refine Run_skip ?_
    refine Run_seq ?_
    obtain ⟨x2, hx2, hF⟩ := M.bind_some hF
    obtain ⟨hx2a, hx2b, hx2c, hx2d⟩ := M.sub_some hx2
    have hn1 : x2.length = i.toNat - (0 : Int).toNat := by rw [hx2d, List.length_take, List.length_drop]; omega
    obtain ⟨x3, hx3, hF⟩ := M.bind_some hF
    obtain ⟨hx3a, hx3b, hx3c, hx3d⟩ := M.sub_some hx3
    have hn2 : x3.length = (g.Places.length : Int).toNat - (w64 (i + 1) : Int).toNat := by rw [hx3d, List.length_take, List.length_drop]; omega
    refine Run_D (fun x => Hold h x [box b2 30 [.int .i64 0, .slice none 0 0], box b1 30 [.int .i64 g.Events, .slice agPlaces g.Places.length cgPlaces]]) (fun x => Hold h x [box b2 30 [.int .i64 0, .slice none 0 0], box b1 30 [.int .i64 g.Events, .slice agPlaces g.Places.length cgPlaces]]) mixed (by kernel_rfl) H4 Hold.stable (fun x Hy => (show Hold h x [box b2 30 [.int .i64 0, .slice none 0 0], box b1 30 [.int .i64 g.Events, .slice agPlaces g.Places.length cgPlaces]] from Hy).pick [0, 1] (by kernel_rfl)) ?_
    refine DR_b 16 [.pointer (some ⟨b1, 0, none⟩)] 0 (by kernel_rfl) (by kernel_rfl) (by kernel_rfl) (fun w => by kernel_rfl) ?_
    refine DR_y 15 (i := 1) (.int .i64 g.Events) (by kernel_rfl) (by kernel_rfl) (by kernel_rfl) (fun hx Hx => (YE.of (Y_load1 (t := 2) (p := ⟨b1, 0, none⟩) (v := .int .i64 g.Events) (by kernel_rfl) (fun w => by kernel_rfl) (Hx.cell 1 rfl rfl)))) ?_
    refine DR_b 14 [.pointer (some ⟨b1, 1, none⟩)] 3 (by kernel_rfl) (by kernel_rfl) (by kernel_rfl) (fun w => by kernel_rfl) ?_
    refine DR_y 13 (i := 4) (.slice agPlaces g.Places.length cgPlaces) (by kernel_rfl) (by kernel_rfl) (by kernel_rfl) (fun hx Hx => (YE.of (Y_load1 (t := 28) (p := ⟨b1, 1, none⟩) (v := .slice agPlaces g.Places.length cgPlaces) (by kernel_rfl) (fun w => by kernel_rfl) (Hx.cell 1 rfl rfl)))) ?_
    refine DR_b 12 [.int .i64 i] 5 (by kernel_rfl) (by kernel_rfl) (by kernel_rfl) (fun w => by kernel_rfl) ?_
    refine DR_y 11 (i := 6) (.slice (sliceA agPlaces cgPlaces 0 4) (i.toNat - (0 : Int).toNat) (cgPlaces - 0)) (by kernel_rfl) (by kernel_rfl) (by kernel_rfl) (fun hx Hx => (YE.of (Y_slice (t := 28) (e := 50) (sz := 4) (a := agPlaces) (n := g.Places.length) (cap := cgPlaces) (lo := none) (hi := (some (.i64, i))) (x := 0) (y := i) (by kernel_rfl) Try.underlying28 (by kernel_rfl) (rgPlaces.at Hx.ext).fits rfl rfl hx2a hx2b hx2c))) ?_
    refine DR_b 10 [.pointer (some ⟨b1, 1, none⟩)] 8 (by kernel_rfl) (by kernel_rfl) (by kernel_rfl) (fun w => by kernel_rfl) ?_
    refine DR_y 9 (i := 9) (.slice agPlaces g.Places.length cgPlaces) (by kernel_rfl) (by kernel_rfl) (by kernel_rfl) (fun hx Hx => (YE.of (Y_load1 (t := 28) (p := ⟨b1, 1, none⟩) (v := .slice agPlaces g.Places.length cgPlaces) (by kernel_rfl) (fun w => by kernel_rfl) (Hx.cell 1 rfl rfl)))) ?_
    refine DR_b 7 [.int .i64 i, .int .i64 (w64 (i + 1))] 10 (by kernel_rfl) (by kernel_rfl) (by kernel_rfl) (fun w => by kernel_rfl) ?_
    refine DR_y 6 (i := 12) (.slice (sliceA agPlaces cgPlaces (w64 (i + 1)).toNat 4) ((g.Places.length : Int).toNat - (w64 (i + 1) : Int).toNat) (cgPlaces - (w64 (i + 1)).toNat)) (by kernel_rfl) (by kernel_rfl) (by kernel_rfl) (fun hx Hx => (YE.of (Y_slice (t := 28) (e := 50) (sz := 4) (a := agPlaces) (n := g.Places.length) (cap := cgPlaces) (lo := (some (.i64, w64 (i + 1)))) (hi := none) (x := w64 (i + 1)) (y := (g.Places.length : Int)) (by kernel_rfl) Try.underlying28 (by kernel_rfl) (rgPlaces.at Hx.ext).fits rfl rfl hx3a hx3b hx3c))) ?_
    refine DR_e 5 2 (by kernel_rfl) (by kernel_rfl) (by kernel_rfl) (fun h5 H8 => ?_)
    have H9 : Hold h h5 [box b2 30 [.int .i64 0, .slice none 0 0], box b1 30 [.int .i64 g.Events, .slice agPlaces g.Places.length cgPlaces]] := H8
    refine E_lit (C := cd50) (n := 0) (l := ([] : List TPlace)) (cs := []) H9 (fun w => by kernel_rfl) (Enc.nil _ _) rfl (by decide) (fun a1 h6 H10 => ?_)
    refine ⟨fun x => Hold h x [box b2 30 [.int .i64 0, .slice none 0 0], box b1 30 [.int .i64 g.Events, .slice agPlaces g.Places.length cgPlaces]], fun x => Hold h x [own cd50 a1 0 0 ([] : List TPlace), box b2 30 [.int .i64 0, .slice none 0 0], box b1 30 [.int .i64 g.Events, .slice agPlaces g.Places.length cgPlaces]], H10, Hold.stable, fun x Hy => (show Hold h x [own cd50 a1 0 0 ([] : List TPlace), box b2 30 [.int .i64 0, .slice none 0 0], box b1 30 [.int .i64 g.Events, .slice agPlaces g.Places.length cgPlaces]] from Hy).pick [1, 2] (by kernel_rfl), fun x Hy => (show Hold h x [box b2 30 [.int .i64 0, .slice none 0 0], box b1 30 [.int .i64 g.Events, .slice agPlaces g.Places.length cgPlaces]] from Hy).pick [0, 1] (by kernel_rfl), ?_⟩
    refine DR_e 4 7 (by kernel_rfl) (by kernel_rfl) (by kernel_rfl) (fun h7 H11 => ?_)
    have H12 : Hold h h7 [own cd50 a1 0 0 ([] : List TPlace), box b2 30 [.int .i64 0, .slice none 0 0], box b1 30 [.int .i64 g.Events, .slice agPlaces g.Places.length cgPlaces]] := H11
    obtain ⟨l1, hl1, hF⟩ := M.bind_some hF
    have hl1 := M.app_some hl1
    refine E_appR (C := cd50) (t := 28) (ty := 28) (n := 0) (m := i.toNat - (0 : Int).toNat) H12 cd50_copies (show Rd _ _ _ _ _ x2 from hx2d ▸ ((rgPlaces.at H12.ext)).sub (by omega) (by omega)) hn1 cd50_ti rfl Try.underlying28 (by decide) (by kernel_rfl) hl1 (fun a2 c1 h8 H13 => ?_)
    refine ⟨fun x => Hold h x [box b2 30 [.int .i64 0, .slice none 0 0], box b1 30 [.int .i64 g.Events, .slice agPlaces g.Places.length cgPlaces]], fun x => Hold h x [own cd50 a2 l1.length c1 l1, box b2 30 [.int .i64 0, .slice none 0 0], box b1 30 [.int .i64 g.Events, .slice agPlaces g.Places.length cgPlaces]], H13, Hold.stable, fun x Hy => (show Hold h x [own cd50 a2 l1.length c1 l1, box b2 30 [.int .i64 0, .slice none 0 0], box b1 30 [.int .i64 g.Events, .slice agPlaces g.Places.length cgPlaces]] from Hy).pick [1, 2] (by kernel_rfl), fun x Hy => (show Hold h x [box b2 30 [.int .i64 0, .slice none 0 0], box b1 30 [.int .i64 g.Events, .slice agPlaces g.Places.length cgPlaces]] from Hy).pick [0, 1] (by kernel_rfl), ?_⟩
    refine DR_e 3 13 (by kernel_rfl) (by kernel_rfl) (by kernel_rfl) (fun h9 H14 => ?_)
    have H15 : Hold h h9 [own cd50 a2 l1.length c1 l1, box b2 30 [.int .i64 0, .slice none 0 0], box b1 30 [.int .i64 g.Events, .slice agPlaces g.Places.length cgPlaces]] := H14
    obtain ⟨l2, hl2, hF⟩ := M.bind_some hF
    have hl2 := M.app_some hl2
    refine E_appR (C := cd50) (t := 28) (ty := 28) (n := l1.length) (m := (g.Places.length : Int).toNat - (w64 (i + 1) : Int).toNat) H15 cd50_copies (show Rd _ _ _ _ _ x3 from hx3d ▸ ((rgPlaces.at H15.ext)).sub (by omega) (by omega)) hn2 cd50_ti rfl Try.underlying28 (by decide) (by kernel_rfl) hl2 (fun a3 c2 h10 H16 => ?_)
    refine ⟨fun x => Hold h x [box b2 30 [.int .i64 0, .slice none 0 0], box b1 30 [.int .i64 g.Events, .slice agPlaces g.Places.length cgPlaces], own cd50 a3 l2.length c2 l2], fun x => Hold h x [own cd50 a3 l2.length c2 l2, box b2 30 [.int .i64 0, .slice none 0 0], box b1 30 [.int .i64 g.Events, .slice agPlaces g.Places.length cgPlaces]], H16, Hold.stable, fun x Hy => (show Hold h x [own cd50 a3 l2.length c2 l2, box b2 30 [.int .i64 0, .slice none 0 0], box b1 30 [.int .i64 g.Events, .slice agPlaces g.Places.length cgPlaces]] from Hy).pick [1, 2, 0] (by kernel_rfl), fun x Hy => (show Hold h x [box b2 30 [.int .i64 0, .slice none 0 0], box b1 30 [.int .i64 g.Events, .slice agPlaces g.Places.length cgPlaces], own cd50 a3 l2.length c2 l2] from Hy).pick [0, 1] (by kernel_rfl), ?_⟩
    refine DR_b 2 [.agg #[.int .i64 g.Events, .slice a3 l2.length c2]] 14 (by kernel_rfl) (by kernel_rfl) (by kernel_rfl) (fun w => by kernel_rfl) ?_
    refine DR_tail (i := 15) (by kernel_rfl) (by kernel_rfl) (by kernel_rfl) (fun h11 H17 => ?_)
    have H18 : Hold h h11 [own cd50 a3 l2.length c2 l2, box b2 30 [.int .i64 0, .slice none 0 0], box b1 30 [.int .i64 g.Events, .slice agPlaces g.Places.length cgPlaces]] := H17
    have H20 : Hold h h11 [box b2 30 [.int .i64 0, .slice none 0 0], own cd50 a3 l2.length c2 l2, box b1 30 [.int .i64 g.Events, .slice agPlaces g.Places.length cgPlaces]] := H18.pick [1, 0, 2] (by kernel_rfl)
    refine Run_E (by kernel_rfl) ?_
    refine E_bput (t := 30) (off := 0) (us := [.int .i64 g.Events, .slice a3 l2.length c2]) (v := .agg #[.int .i64 g.Events, .slice a3 l2.length c2]) H20 (by kernel_rfl) (by kernel_rfl) rfl (by kernel_rfl) rfl (fun h12 H19 => ?_)
    refine Run_b [.int .i64 0] 16 _ (by kernel_rfl) (fun w => by kernel_rfl) ?_
    refine Run_nil (by kernel_rfl) ?_
    refine Run_keep [4, 5] (L' := [(4, .pointer (some ⟨b2, 0, none⟩)), (5, .int .i64 0)]) (by kernel_rfl) ?_
    have hF := M.ret_some hF
    subst hF
    have H21 : Hold h h12 [own cd50 a3 l2.length c2 l2, box b2 30 [.int .i64 g.Events, .slice a3 l2.length c2], box b1 30 [.int .i64 g.Events, .slice agPlaces g.Places.length cgPlaces]] := H19.pick [1, 0, 2] (by kernel_rfl)
    have H22 : Hold h h12 [own cd50 a3 l2.length c2 l2] := H21.pick [0] (by kernel_rfl)
    exact Run_ret2 rfl (ResV_cell (n := 2) (cs := [.int .i64 g.Events, .slice a3 l2.length c2]) (by kernel_rfl) (fun w => by kernel_rfl) (by kernel_rfl) rfl (H19.cells (n := 2) (off := 0) 0 rfl rfl)) (ResV_tmp (v := .int .i64 0) (by kernel_rfl)) ⟨a3, c2, rfl, H22⟩

set_option maxRecDepth 100000 in
set_option maxHeartbeats 4000000 in
theorem w_impl_within (h : Heap) (n_ : Int) (low : Int) (high : Int) (n : Nat) (r : Bool) (hF : impl_within n_ low high n = some r) :
    Fn Try.prog 25 #[.int .i64 n_, .int .i64 low, .int .i64 high] h fun v h' => v = .bool r ∧ h' = h := by
  unfold impl_within at hF
  refine Fn_enter (args := [.int .i64 n_, .int .i64 low, .int .i64 high]) Try.func25 rfl (by kernel_rfl) (by kernel_rfl) (fun w0 _ => ?_)
  refine Run_seq ?_
  refine Run_reg 1 (by kernel_rfl) (L' := [(0, .int .i64 n_), (1, .int .i64 low), (2, .int .i64 high)]) ?_ ?_
  · refine QRun_b [.bool false] 0 _ (by kernel_rfl) (fun w => by kernel_rfl) ?_
    exact QRun_done [0, 1, 2] (by kernel_rfl) (by kernel_rfl)
  refine Run_seq ?_
  refine Run_reg 9 (by kernel_rfl) (L' := [(6, .bool ((decide (low ≤ n_)) && (decide (n_ ≤ high))))]) ?_ ?_
  · refine QRun_b [.int .i64 n_, .int .i64 low, .bool (decide (low ≤ n_))] 0 _ (by kernel_rfl) (fun w => by kernel_rfl) ?_
    refine QRun_seq 8 [(14, .bool ((decide (low ≤ n_)) && (decide (n_ ≤ high))))] ?_ ?_
    · rcases Bool.eq_false_or_eq_true (decide (low ≤ n_)) with hb1 | hb1
      · refine QRun_bool (decide (low ≤ n_)) true (by kernel_rfl) (fun w => by kernel_rfl) hb1 ?_
        refine QRun_b [.int .i64 n_, .int .i64 high, .bool (decide (n_ ≤ high))] 4 _ (by kernel_rfl) (fun w => by kernel_rfl) ?_
        refine QRun_bool (decide (n_ ≤ high)) ((decide (low ≤ n_)) && (decide (n_ ≤ high))) (by kernel_rfl) (fun w => by kernel_rfl) (by rw [hb1]; rfl) ?_
        exact QRun_done [14] (by kernel_rfl) (by kernel_rfl)
      · refine QRun_bool (decide (low ≤ n_)) false (by kernel_rfl) (fun w => by kernel_rfl) hb1 ?_
        refine QRun_n (by kernel_rfl) ?_
        refine QRun_n (by kernel_rfl) ?_
        refine QRun_n (by kernel_rfl) ?_
        refine QRun_bool false ((decide (low ≤ n_)) && (decide (n_ ≤ high))) (by kernel_rfl) (fun w => by kernel_rfl) (by rw [hb1]; rfl) ?_
        exact QRun_done [14] (by kernel_rfl) (by kernel_rfl)
    refine QRun_b [.bool ((decide (low ≤ n_)) && (decide (n_ ≤ high)))] 8 _ (by kernel_rfl) (fun w => by kernel_rfl) ?_
    exact QRun_done [6] (by kernel_rfl) (by kernel_rfl)
  have hF := M.ret_some hF
  subst hF
  exact Run_ret1 rfl (ResV_tmp (v := .bool ((decide (low ≤ n_)) && (decide (n_ ≤ high)))) (by kernel_rfl)) ⟨rfl, rfl⟩

set_option maxRecDepth 100000 in
set_option maxHeartbeats 4000000 in
theorem w_impl_isEvent (h : Heap) (g : TGraph) (agPlaces : Option Addr) (cgPlaces : Nat) (rgPlaces : Rd cd50 h (Lt h) agPlaces cgPlaces g.Places) (event : Int) (n : Nat) (r : Bool) (hF : impl_isEvent g event n = some r) :
    Fn Try.prog 53 #[.agg #[.int .i64 g.Events, .slice agPlaces g.Places.length cgPlaces], .int .i64 event] h fun v h' => v = .bool r ∧ Hold h h' [] := by
  unfold impl_isEvent at hF
  refine Fn_enter (args := [.agg #[.int .i64 g.Events, .slice agPlaces g.Places.length cgPlaces], .int .i64 event]) Try.func53 rfl (by kernel_rfl) (by kernel_rfl) (fun w0 _ => ?_)
  have H0 := Hold.init h
  refine Run_seq ?_
  refine Run_ops ?_
  refine Run_E (by kernel_rfl) ?_
  refine E_box (ty := 30) (cs := [.int .i64 g.Events, .slice agPlaces g.Places.length cgPlaces]) H0 (fun w => by kernel_rfl) (fun b1 h1 H1 => ?_)
  refine Run_b [.bool false] 1 _ (by kernel_rfl) (fun w => by kernel_rfl) ?_
  refine Run_nil (by kernel_rfl) ?_
  refine Run_keep [1, 2] (L' := [(1, .int .i64 event), (2, .pointer (some ⟨b1, 0, none⟩))]) (by kernel_rfl) ?_
  refine Run_seq ?_
  obtain ⟨x1, hx1, hF⟩ := M.bind_some hF
  refine Run_reg 6 (by kernel_rfl) (L' := [(4, .bool x1)]) ?_ ?_
  · refine QRun_b [.int .i64 event, .pointer (some ⟨b1, 0, none⟩)] 0 _ (by kernel_rfl) (fun w => by kernel_rfl) ?_
    refine QRun_y (.int .i64 g.Events) (by kernel_rfl) (Y_load1 (t := 2) (p := ⟨b1, 0, none⟩) (v := .int .i64 g.Events) (by kernel_rfl) (fun w => by kernel_rfl) (H1.cell 0 rfl rfl)) ?_
    refine QRun_b [.int .i64 (w64 (g.Events - 1))] 3 _ (by kernel_rfl) (fun w => by kernel_rfl) ?_
    refine QRun_y (.bool x1) (by kernel_rfl) (Y_callq (f := 25) (args := #[.int .i64 event, .int .i64 0, .int .i64 (w64 (g.Events - 1))]) (v := .bool x1) (by kernel_rfl) (w_impl_within h1 event 0 (w64 (g.Events - 1)) _ _ hx1)) ?_
    refine QRun_b [.bool x1] 5 _ (by kernel_rfl) (fun w => by kernel_rfl) ?_
    exact QRun_done [4] (by kernel_rfl) (by kernel_rfl)
  have hF := M.ret_some hF
  subst hF
  have H2 : Hold h h1 [] := H1.pick [] (by kernel_rfl)
  exact Run_ret1 rfl (ResV_tmp (v := .bool x1) (by kernel_rfl)) ⟨rfl, H2⟩

set_option maxRecDepth 100000 in
set_option maxHeartbeats 4000000 in
theorem w_impl_isPlace (h : Heap) (g : TGraph) (agPlaces : Option Addr) (cgPlaces : Nat) (rgPlaces : Rd cd50 h (Lt h) agPlaces cgPlaces g.Places) (p : TPlace) (n : Nat) (r : Bool) (hF : impl_isPlace g p n = some r) :
    Fn Try.prog 39 #[.agg #[.int .i64 g.Events, .slice agPlaces g.Places.length cgPlaces], .agg #[.int .i64 p.From, .int .i64 p.To, .int .i64 p.Delay, .int .i64 p.Tokens]] h fun v h' => v = .bool r ∧ Hold h h' [] := by
  unfold impl_isPlace at hF
  refine Fn_enter (args := [.agg #[.int .i64 g.Events, .slice agPlaces g.Places.length cgPlaces], .agg #[.int .i64 p.From, .int .i64 p.To, .int .i64 p.Delay, .int .i64 p.Tokens]]) Try.func39 rfl (by kernel_rfl) (by kernel_rfl) (fun w0 _ => ?_)
  have H0 := Hold.init h
  refine Run_seq ?_
  refine Run_ops ?_
  refine Run_E (by kernel_rfl) ?_
  refine E_box (ty := 30) (cs := [.int .i64 g.Events, .slice agPlaces g.Places.length cgPlaces]) H0 (fun w => by kernel_rfl) (fun b1 h1 H1 => ?_)
  refine Run_E (by kernel_rfl) ?_
  refine E_box (ty := 50) (cs := [.int .i64 p.From, .int .i64 p.To, .int .i64 p.Delay, .int .i64 p.Tokens]) H1 (fun w => by kernel_rfl) (fun b2 h2 H2 => ?_)
  refine Run_b [.bool false] 2 _ (by kernel_rfl) (fun w => by kernel_rfl) ?_
  refine Run_nil (by kernel_rfl) ?_
  refine Run_keep [2, 3] (L' := [(2, .pointer (some ⟨b1, 0, none⟩)), (3, .pointer (some ⟨b2, 0, none⟩))]) (by kernel_rfl) ?_
  refine Run_seq ?_
  obtain ⟨x1, hx1, hF⟩ := M.bind_some hF
  obtain ⟨x2, gx2, hF⟩ := M.bind_some hF
  obtain ⟨x4, gx4, hF⟩ := M.bind_some hF
  obtain ⟨x6, gx6, hF⟩ := M.bind_some hF
  refine Run_regC (j := 21) (C := fun x => Hold h x [box b2 50 [.int .i64 p.From, .int .i64 p.To, .int .i64 p.Delay, .int .i64 p.Tokens], box b1 30 [.int .i64 g.Events, .slice agPlaces g.Places.length cgPlaces]]) (by kernel_rfl) H2 (L' := [(4, .bool x6)]) ?_ (fun h3 H3 => ?_)
  · refine QRun_y (.agg #[.int .i64 g.Events, .slice agPlaces g.Places.length cgPlaces]) (by kernel_rfl) (Y_cls fun hx Hx => (Y_loadA (t := 30) (n := 2) (p := ⟨b1, 0, none⟩) (cs := [.int .i64 g.Events, .slice agPlaces g.Places.length cgPlaces]) (by kernel_rfl) (fun w => by kernel_rfl) (by kernel_rfl) rfl (Hx.cells (n := 2) (off := 0) 1 rfl rfl))) ?_
    refine QRun_b [.pointer (some ⟨b2, 0, none⟩)] 1 _ (by kernel_rfl) (fun w => by kernel_rfl) ?_
    refine QRun_y (.int .i64 p.From) (by kernel_rfl) (Y_cls fun hx Hx => (Y_load1 (t := 2) (p := ⟨b2, 0, none⟩) (v := .int .i64 p.From) (by kernel_rfl) (fun w => by kernel_rfl) (Hx.cell 0 rfl rfl))) ?_
    refine QRun_y (.bool x1) (by kernel_rfl) (Y_call (f := 53) (args := #[.agg #[.int .i64 g.Events, .slice agPlaces g.Places.length cgPlaces], .int .i64 p.From]) (v := .bool x1) (by kernel_rfl) fun hx Hx => (w_impl_isEvent hx g agPlaces cgPlaces (rgPlaces.at Hx.ext) p.From _ _ hx1).mono fun _ _ ⟨e, H'⟩ => ⟨e, Hx.call H' rfl⟩) ?_
    refine QRun_seq 10 [(3, .pointer (some ⟨b2, 0, none⟩)), (14, .bool x2)] ?_ ?_
    · rcases Bool.eq_false_or_eq_true x1 with hb1 | hb1
      · refine QRun_bool x1 true (by kernel_rfl) (fun w => by kernel_rfl) hb1 ?_
        have gx2 := (M.ite_some gx2).1 hb1
        obtain ⟨x3, hx2, gx2⟩ := M.bind_some gx2
        have gx2 := M.ret_some gx2
        refine QRun_y (.agg #[.int .i64 g.Events, .slice agPlaces g.Places.length cgPlaces]) (by kernel_rfl) (Y_cls fun hx Hx => (Y_loadA (t := 30) (n := 2) (p := ⟨b1, 0, none⟩) (cs := [.int .i64 g.Events, .slice agPlaces g.Places.length cgPlaces]) (by kernel_rfl) (fun w => by kernel_rfl) (by kernel_rfl) rfl (Hx.cells (n := 2) (off := 0) 1 rfl rfl))) ?_
        refine QRun_b [.pointer (some ⟨b2, 1, none⟩)] 6 _ (by kernel_rfl) (fun w => by kernel_rfl) ?_
        refine QRun_y (.int .i64 p.To) (by kernel_rfl) (Y_cls fun hx Hx => (Y_load1 (t := 2) (p := ⟨b2, 1, none⟩) (v := .int .i64 p.To) (by kernel_rfl) (fun w => by kernel_rfl) (Hx.cell 0 rfl rfl))) ?_
        refine QRun_y (.bool x3) (by kernel_rfl) (Y_call (f := 53) (args := #[.agg #[.int .i64 g.Events, .slice agPlaces g.Places.length cgPlaces], .int .i64 p.To]) (v := .bool x3) (by kernel_rfl) fun hx Hx => (w_impl_isEvent hx g agPlaces cgPlaces (rgPlaces.at Hx.ext) p.To _ _ hx2).mono fun _ _ ⟨e, H'⟩ => ⟨e, Hx.call H' rfl⟩) ?_
        refine QRun_bool x3 x2 (by kernel_rfl) (fun w => by kernel_rfl) gx2 ?_
        exact QRun_done [3, 14] (by kernel_rfl) (by kernel_rfl)
      · refine QRun_bool x1 false (by kernel_rfl) (fun w => by kernel_rfl) hb1 ?_
        have gx2 := M.ret_some ((M.ite_some gx2).2 hb1)
        refine QRun_n (by kernel_rfl) ?_
        refine QRun_n (by kernel_rfl) ?_
        refine QRun_n (by kernel_rfl) ?_
        refine QRun_n (by kernel_rfl) ?_
        refine QRun_bool false x2 (by kernel_rfl) (fun w => by kernel_rfl) gx2 ?_
        exact QRun_done [3, 14] (by kernel_rfl) (by kernel_rfl)
    refine QRun_seq 15 [(3, .pointer (some ⟨b2, 0, none⟩)), (19, .bool x4)] ?_ ?_
    · rcases Bool.eq_false_or_eq_true x2 with hb2 | hb2
      · refine QRun_bool x2 true (by kernel_rfl) (fun w => by kernel_rfl) hb2 ?_
        have gx4 := (M.ite_some gx4).1 hb2
        obtain ⟨x5, hx3, gx4⟩ := M.bind_some gx4
        have gx4 := M.ret_some gx4
        refine QRun_b [.pointer (some ⟨b2, 2, none⟩)] 11 _ (by kernel_rfl) (fun w => by kernel_rfl) ?_
        refine QRun_y (.int .i64 p.Delay) (by kernel_rfl) (Y_cls fun hx Hx => (Y_load1 (t := 2) (p := ⟨b2, 2, none⟩) (v := .int .i64 p.Delay) (by kernel_rfl) (fun w => by kernel_rfl) (Hx.cell 0 rfl rfl))) ?_
        refine QRun_y (.bool x5) (by kernel_rfl) (Y_cls fun hx Hx => (Y_callq (f := 25) (args := #[.int .i64 p.Delay, .int .i64 0, .int .i64 1000]) (v := .bool x5) (by kernel_rfl) (w_impl_within hx p.Delay 0 1000 _ _ hx3))) ?_
        refine QRun_bool x5 x4 (by kernel_rfl) (fun w => by kernel_rfl) gx4 ?_
        exact QRun_done [3, 19] (by kernel_rfl) (by kernel_rfl)
      · refine QRun_bool x2 false (by kernel_rfl) (fun w => by kernel_rfl) hb2 ?_
        have gx4 := M.ret_some ((M.ite_some gx4).2 hb2)
        refine QRun_n (by kernel_rfl) ?_
        refine QRun_n (by kernel_rfl) ?_
        refine QRun_n (by kernel_rfl) ?_
        refine QRun_bool false x4 (by kernel_rfl) (fun w => by kernel_rfl) gx4 ?_
        exact QRun_done [3, 19] (by kernel_rfl) (by kernel_rfl)
    refine QRun_seq 20 [(24, .bool x6)] ?_ ?_
    · rcases Bool.eq_false_or_eq_true x4 with hb3 | hb3
      · refine QRun_bool x4 true (by kernel_rfl) (fun w => by kernel_rfl) hb3 ?_
        have gx6 := (M.ite_some gx6).1 hb3
        obtain ⟨x7, hx4, gx6⟩ := M.bind_some gx6
        have gx6 := M.ret_some gx6
        refine QRun_b [.pointer (some ⟨b2, 3, none⟩)] 16 _ (by kernel_rfl) (fun w => by kernel_rfl) ?_
        refine QRun_y (.int .i64 p.Tokens) (by kernel_rfl) (Y_cls fun hx Hx => (Y_load1 (t := 2) (p := ⟨b2, 3, none⟩) (v := .int .i64 p.Tokens) (by kernel_rfl) (fun w => by kernel_rfl) (Hx.cell 0 rfl rfl))) ?_
        refine QRun_y (.bool x7) (by kernel_rfl) (Y_cls fun hx Hx => (Y_callq (f := 25) (args := #[.int .i64 p.Tokens, .int .i64 0, .int .i64 5]) (v := .bool x7) (by kernel_rfl) (w_impl_within hx p.Tokens 0 5 _ _ hx4))) ?_
        refine QRun_bool x7 x6 (by kernel_rfl) (fun w => by kernel_rfl) gx6 ?_
        exact QRun_done [24] (by kernel_rfl) (by kernel_rfl)
      · refine QRun_bool x4 false (by kernel_rfl) (fun w => by kernel_rfl) hb3 ?_
        have gx6 := M.ret_some ((M.ite_some gx6).2 hb3)
        refine QRun_n (by kernel_rfl) ?_
        refine QRun_n (by kernel_rfl) ?_
        refine QRun_n (by kernel_rfl) ?_
        refine QRun_bool false x6 (by kernel_rfl) (fun w => by kernel_rfl) gx6 ?_
        exact QRun_done [24] (by kernel_rfl) (by kernel_rfl)
    refine QRun_b [.bool x6] 20 _ (by kernel_rfl) (fun w => by kernel_rfl) ?_
    exact QRun_done [4] (by kernel_rfl) (by kernel_rfl)
  have H4 : Hold h h3 [box b2 50 [.int .i64 p.From, .int .i64 p.To, .int .i64 p.Delay, .int .i64 p.Tokens], box b1 30 [.int .i64 g.Events, .slice agPlaces g.Places.length cgPlaces]] := H3
  have hF := M.ret_some hF
  subst hF
  have H5 : Hold h h3 [] := H4.pick [] (by kernel_rfl)
  exact Run_ret1 rfl (ResV_tmp (v := .bool x6) (by kernel_rfl)) ⟨rfl, H5⟩

set_option maxRecDepth 100000 in
set_option maxHeartbeats 4000000 in
theorem w_impl_IsEventGraph_1 (h : Heap) (p : TPlace) (z0 : TGraph) (az0Places : Option Addr) (cz0Places : Nat) (rz0Places : Rd cd50 h (Lt h) az0Places cz0Places z0.Places) (bz0 : Nat) (vz0 : VarAt h bz0 30 [.int .i64 z0.Events, .slice az0Places z0.Places.length cz0Places]) (n : Nat) (r : Bool) (hF : impl_IsEventGraph_1 p z0 n = some r) :
    Fn Try.prog 38 #[.agg #[.int .i64 p.From, .int .i64 p.To, .int .i64 p.Delay, .int .i64 p.Tokens], .pointer (some ⟨bz0, 0, none⟩)] h fun v h' => v = .bool r ∧ Hold h h' [] := by
  unfold impl_IsEventGraph_1 at hF
  refine Fn_enter (args := [.agg #[.int .i64 p.From, .int .i64 p.To, .int .i64 p.Delay, .int .i64 p.Tokens], .pointer (some ⟨bz0, 0, none⟩)]) Try.func38 rfl (by kernel_rfl) (by kernel_rfl) (fun w0 _ => ?_)
  have H0 := Hold.init h
  refine Run_seq ?_
  refine Run_ops ?_
  refine Run_E (by kernel_rfl) ?_
  refine E_box (ty := 50) (cs := [.int .i64 p.From, .int .i64 p.To, .int .i64 p.Delay, .int .i64 p.Tokens]) H0 (fun w => by kernel_rfl) (fun b1 h1 H1 => ?_)
  refine Run_b [.bool false] 1 _ (by kernel_rfl) (fun w => by kernel_rfl) ?_
  refine Run_nil (by kernel_rfl) ?_
  refine Run_keep [1, 2] (L' := [(1, .pointer (some ⟨bz0, 0, none⟩)), (2, .pointer (some ⟨b1, 0, none⟩))]) (by kernel_rfl) ?_
  refine Run_seq ?_
  obtain ⟨x1, hx1, hF⟩ := M.bind_some hF
  refine Run_regC (j := 5) (C := fun x => Hold h x [box b1 50 [.int .i64 p.From, .int .i64 p.To, .int .i64 p.Delay, .int .i64 p.Tokens]]) (by kernel_rfl) H1 (L' := [(3, .bool (!x1))]) ?_ (fun h2 H2 => ?_)
  · refine QRun_y (.agg #[.int .i64 z0.Events, .slice az0Places z0.Places.length cz0Places]) (by kernel_rfl) (Y_cls fun hx Hx => (Y_loadA (t := 30) (n := 2) (p := ⟨bz0, 0, none⟩) (cs := [.int .i64 z0.Events, .slice az0Places z0.Places.length cz0Places]) (by kernel_rfl) (fun w => by kernel_rfl) (by kernel_rfl) rfl (VarAt.cells (n := 2) (off := 0) (vz0.at Hx.ext) rfl))) ?_
    refine QRun_y (.agg #[.int .i64 p.From, .int .i64 p.To, .int .i64 p.Delay, .int .i64 p.Tokens]) (by kernel_rfl) (Y_cls fun hx Hx => (Y_loadA (t := 50) (n := 4) (p := ⟨b1, 0, none⟩) (cs := [.int .i64 p.From, .int .i64 p.To, .int .i64 p.Delay, .int .i64 p.Tokens]) (by kernel_rfl) (fun w => by kernel_rfl) (by kernel_rfl) rfl (Hx.cells (n := 4) (off := 0) 0 rfl rfl))) ?_
    refine QRun_y (.bool x1) (by kernel_rfl) (Y_call (f := 39) (args := #[.agg #[.int .i64 z0.Events, .slice az0Places z0.Places.length cz0Places], .agg #[.int .i64 p.From, .int .i64 p.To, .int .i64 p.Delay, .int .i64 p.Tokens]]) (v := .bool x1) (by kernel_rfl) fun hx Hx => (w_impl_isPlace hx z0 az0Places cz0Places (rz0Places.at Hx.ext) p _ _ hx1).mono fun _ _ ⟨e, H'⟩ => ⟨e, Hx.call H' rfl⟩) ?_
    refine QRun_b [.bool (!x1), .bool (!x1)] 3 _ (by kernel_rfl) (fun w => by kernel_rfl) ?_
    exact QRun_done [3] (by kernel_rfl) (by kernel_rfl)
  have H3 : Hold h h2 [box b1 50 [.int .i64 p.From, .int .i64 p.To, .int .i64 p.Delay, .int .i64 p.Tokens]] := H2
  have hF := M.ret_some hF
  subst hF
  have H4 : Hold h h2 [] := H3.pick [] (by kernel_rfl)
  exact Run_ret1 rfl (ResV_tmp (v := .bool (!x1)) (by kernel_rfl)) ⟨rfl, H4⟩

set_option maxRecDepth 100000 in
set_option maxHeartbeats 4000000 in
theorem w_slices_IndexFunc_Place_F_impl_IsEventGraph_1 (h : Heap) (s_ : List TPlace) (as_ : Option Addr) (cs_ : Nat) (rs_ : Rd cd50 h (Lt h) as_ cs_ s_) (f0 : TGraph) (af0Places : Option Addr) (cf0Places : Nat) (rf0Places : Rd cd50 h (Lt h) af0Places cf0Places f0.Places) (bf0 : Nat) (vf0 : VarAt h bf0 30 [.int .i64 f0.Events, .slice af0Places f0.Places.length cf0Places]) (n : Nat) (r : Int) (hF : slices_IndexFunc_Place_F_impl_IsEventGraph_1 s_ f0 n = some r) :
    Fn Try.prog 52 #[.slice as_ s_.length cs_, .func (.func 38) #[] #[.pointer (some ⟨bf0, 0, none⟩)]] h fun v h' => v = .int .i64 r ∧ Hold h h' [] := by
  unfold slices_IndexFunc_Place_F_impl_IsEventGraph_1 at hF
  refine Fn_enter (args := [.slice as_ s_.length cs_, .func (.func 38) #[] #[.pointer (some ⟨bf0, 0, none⟩)]]) Try.func52 rfl (by kernel_rfl) (by kernel_rfl) (fun w0 _ => ?_)
  have H0 := Hold.init h
  refine Run_seq ?_
  refine Run_reg 1 (by kernel_rfl) (L' := [(0, .slice as_ s_.length cs_), (1, .func (.func 38) #[] #[.pointer (some ⟨bf0, 0, none⟩)])]) ?_ ?_
  · refine QRun_b [.int .i64 0] 0 _ (by kernel_rfl) (fun w => by kernel_rfl) ?_
    exact QRun_done [0, 1] (by kernel_rfl) (by kernel_rfl)
  refine Run_seq ?_
  refine Run_seq ?_
  refine Run_reg 3 (by kernel_rfl) (L' := [(0, .slice as_ s_.length cs_), (1, .func (.func 38) #[] #[.pointer (some ⟨bf0, 0, none⟩)]), (7, .int .i64 (s_.length : Int)), (8, .int .i64 0)]) ?_ ?_
  · refine QRun_b [.slice as_ s_.length cs_, .int .i64 (s_.length : Int), .int .i64 0] 0 _ (by kernel_rfl) (fun w => by kernel_rfl) ?_
    exact QRun_done [0, 1, 7, 8] (by kernel_rfl) (by kernel_rfl)
  obtain ⟨x1, gx1, hF⟩ := M.bind_some hF
  obtain ⟨hloy1, hhiy1, gx1⟩ := M.for_start gx1
  refine Run_join (fun L' h' => ∃ (s2 : Unit), x1 = .inl s2 ∧ L' = [] ∧ Hold h h' []) ?_ ?_
  · rintro _ h2 ⟨s2, es2, rfl, H2⟩
    have hF := M.cont_inl' hF es2
    refine Run_seq ?_
    refine Run_reg 1 (by kernel_rfl) (L' := [(4, .int .i64 (-1))]) ?_ ?_
    · refine QRun_b [.int .i64 (-1)] 0 _ (by kernel_rfl) (fun w => by kernel_rfl) ?_
      exact QRun_done [4] (by kernel_rfl) (by kernel_rfl)
    have hF := M.ret_some hF
    subst hF
    exact Run_ret1 rfl (ResV_tmp (v := .int .i64 (-1)) (by kernel_rfl)) ⟨rfl, H2⟩
  · refine Run_block ?_
    refine Run_keep [0, 1, 7, 8] (L' := [(0, .slice as_ s_.length cs_), (1, .func (.func 38) #[] #[.pointer (some ⟨bf0, 0, none⟩)]), (7, .int .i64 (s_.length : Int)), (8, .int .i64 0)]) (by kernel_rfl) ?_
    refine Run_loop (fun m L' h' => ∃ (i1 : Int) (s1 : Unit), 0 ≤ i1 ∧ M.forN (s_.length : Int) _ _ n m i1 s1 = some x1 ∧ L' = [(0, .slice as_ s_.length cs_), (1, .func (.func 38) #[] #[.pointer (some ⟨bf0, 0, none⟩)]), (7, .int .i64 (s_.length : Int)), (8, .int .i64 i1)] ∧ Hold h h' []) ((s_.length : Int) - 0 : Int).toNat ⟨0, (), Int.le_refl _, gx1, rfl, H0⟩ ?_
    rintro my1 _ h1 ⟨i1, s1, hloy1', gx1, rfl, H1⟩
    refine Run_seq ?_
    refine Run_reg 1 (by kernel_rfl) (L' := [(0, .slice as_ s_.length cs_), (1, .func (.func 38) #[] #[.pointer (some ⟨bf0, 0, none⟩)]), (7, .int .i64 (s_.length : Int)), (8, .int .i64 i1), (9, .bool (decide (i1 < (s_.length : Int))))]) ?_ ?_
    · refine QRun_b [.bool (decide (i1 < (s_.length : Int)))] 0 _ (by kernel_rfl) (fun w => by kernel_rfl) ?_
      exact QRun_done [0, 1, 7, 8, 9] (by kernel_rfl) (by kernel_rfl)
    refine Run_seq ?_
    refine Run_cond (b := decide (i1 < (s_.length : Int))) (by kernel_rfl) (fun hb1 => ?_) (fun hb1 => ?_)
    · obtain ⟨my1, y1, rfl, hB1, hgoy1, houty1⟩ := M.for_go gx1 hb1
      have hlty1 := of_decide_eq_true hb1
      refine Run_skip ?_
      refine Run_seq ?_
      refine Run_block ?_
      refine Run_seq ?_
      refine Run_reg 2 (by kernel_rfl) (L' := [(0, .slice as_ s_.length cs_), (1, .func (.func 38) #[] #[.pointer (some ⟨bf0, 0, none⟩)]), (5, .int .i64 i1), (7, .int .i64 (s_.length : Int)), (8, .int .i64 i1)]) ?_ ?_
      · refine QRun_b [.int .i64 i1, .int .i64 i1] 0 _ (by kernel_rfl) (fun w => by kernel_rfl) ?_
        exact QRun_done [0, 1, 5, 7, 8] (by kernel_rfl) (by kernel_rfl)
      refine Run_seq ?_
      obtain ⟨x2, hx1, hB1⟩ := M.bind_some hB1
      obtain ⟨hx1l, hx1u, hx1⟩ := M.idx_some hx1
      obtain ⟨x3, hx2, hB1⟩ := M.bind_some hB1
      refine Run_regC (j := 6) (C := fun x => Hold h x []) (by kernel_rfl) H1 (L' := [(0, .slice as_ s_.length cs_), (1, .func (.func 38) #[] #[.pointer (some ⟨bf0, 0, none⟩)]), (5, .int .i64 i1), (7, .int .i64 (s_.length : Int)), (8, .int .i64 i1), (16, .bool x3)]) ?_ (fun h3 H3 => ?_)
      · refine QRun_b [.func (.func 38) #[] #[.pointer (some ⟨bf0, 0, none⟩)], .slice as_ s_.length cs_, .int .i64 i1] 0 _ (by kernel_rfl) (fun w => by kernel_rfl) ?_
        refine QRun_y (.pointer (some (adr as_ (i1.toNat * 4)))) (by kernel_rfl) (Y_cls fun hx Hx => (Y_idx (t := 28) (e := 50) (sz := 4) (a := as_) (n := s_.length) (cap := cs_) (kk := .i64) (i := i1) (by kernel_rfl) Try.underlying28 (by kernel_rfl) ((rs_.at H1.ext).cell hx1).1 hx1l hx1u)) ?_
        refine QRun_y (.agg #[.int .i64 x2.From, .int .i64 x2.To, .int .i64 x2.Delay, .int .i64 x2.Tokens]) (by kernel_rfl) (Y_cls fun hx Hx => (Y_loadA (t := 50) (n := 4) (p := adr as_ (i1.toNat * 4)) (cs := [.int .i64 x2.From, .int .i64 x2.To, .int .i64 x2.Delay, .int .i64 x2.Tokens]) (by kernel_rfl) (fun w => by kernel_rfl) (by kernel_rfl) rfl (cd50_elem (rs_.at Hx.ext) hx1))) ?_
        refine QRun_y (.bool x3) (by kernel_rfl) (Y_call (f := 38) (args := #[.agg #[.int .i64 x2.From, .int .i64 x2.To, .int .i64 x2.Delay, .int .i64 x2.Tokens], .pointer (some ⟨bf0, 0, none⟩)]) (v := .bool x3) (by kernel_rfl) fun hx Hx => (w_impl_IsEventGraph_1 hx x2 f0 af0Places cf0Places (rf0Places.at Hx.ext) bf0 (vf0.at Hx.ext) _ _ hx2).mono fun _ _ ⟨e, H'⟩ => ⟨e, Hx.call H' rfl⟩) ?_
        exact QRun_done [0, 1, 5, 7, 8, 16] (by kernel_rfl) (by kernel_rfl)
      have H4 : Hold h h3 [] := H3
      refine Run_cond (b := x3) (by kernel_rfl) (fun hb2 => ?_) (fun hb2 => ?_)
      · have hB1 := (M.ite_some hB1).1 hb2
        refine Run_seq ?_
        refine Run_reg 2 (by kernel_rfl) (L' := [(4, .int .i64 i1)]) ?_ ?_
        · refine QRun_b [.int .i64 i1, .int .i64 i1] 0 _ (by kernel_rfl) (fun w => by kernel_rfl) ?_
          exact QRun_done [4] (by kernel_rfl) (by kernel_rfl)
        have hB1 := M.ret_some hB1
        have gx1 := houty1 _ hB1.symm
        have hF := M.cont_inr' hF gx1
        have hF := M.ret_some hF
        subst hF
        exact Run_ret1 rfl (ResV_tmp (v := .int .i64 i1) (by kernel_rfl)) ⟨rfl, H4⟩
      · have hB1 := (M.ite_some hB1).2 hb2
        refine Run_skip ?_
        refine Run_blk ?_
        refine Run_reg 2 (by kernel_rfl) (L' := [(0, .slice as_ s_.length cs_), (1, .func (.func 38) #[] #[.pointer (some ⟨bf0, 0, none⟩)]), (7, .int .i64 (s_.length : Int)), (8, .int .i64 (i1 + 1))]) ?_ ?_
        · refine QRun_y (.int .i64 (i1 + 1)) (by kernel_rfl) (Y_eq (v := .int .i64 (w64 (i1 + 1))) (Y_pure (fun w => by kernel_rfl)) (by rw [w64_eq _ (by omega)])) ?_
          refine QRun_b [.int .i64 (i1 + 1)] 1 _ (by kernel_rfl) (fun w => by kernel_rfl) ?_
          exact QRun_done [0, 1, 7, 8] (by kernel_rfl) (by kernel_rfl)
        have hB1 := M.ret_some hB1
        have gx1 := hgoy1 _ hB1.symm
        exact Run_again [0, 1, 7, 8] (by kernel_rfl) my1 (Nat.lt_succ_self _) ⟨i1 + 1, (), by omega, gx1, rfl, H4⟩
    · have gx1 := M.for_end gx1 hb1
      subst gx1
      refine Run_exit (k' := _) rfl ?_
      exact Run_fall [] (by kernel_rfl) ⟨(), rfl, rfl, H1⟩

set_option maxRecDepth 100000 in
set_option maxHeartbeats 4000000 in
theorem w_slices_ContainsFunc_Place_F_impl_IsEventGraph_1 (h : Heap) (s_ : List TPlace) (as_ : Option Addr) (cs_ : Nat) (rs_ : Rd cd50 h (Lt h) as_ cs_ s_) (f0 : TGraph) (af0Places : Option Addr) (cf0Places : Nat) (rf0Places : Rd cd50 h (Lt h) af0Places cf0Places f0.Places) (bf0 : Nat) (vf0 : VarAt h bf0 30 [.int .i64 f0.Events, .slice af0Places f0.Places.length cf0Places]) (n : Nat) (r : Bool) (hF : slices_ContainsFunc_Place_F_impl_IsEventGraph_1 s_ f0 n = some r) :
    Fn Try.prog 37 #[.slice as_ s_.length cs_, .func (.func 38) #[] #[.pointer (some ⟨bf0, 0, none⟩)]] h fun v h' => v = .bool r ∧ Hold h h' [] := by
  unfold slices_ContainsFunc_Place_F_impl_IsEventGraph_1 at hF
  refine Fn_enter (args := [.slice as_ s_.length cs_, .func (.func 38) #[] #[.pointer (some ⟨bf0, 0, none⟩)]]) Try.func37 rfl (by kernel_rfl) (by kernel_rfl) (fun w0 _ => ?_)
  have H0 := Hold.init h
  refine Run_seq ?_
  refine Run_reg 1 (by kernel_rfl) (L' := [(0, .slice as_ s_.length cs_), (1, .func (.func 38) #[] #[.pointer (some ⟨bf0, 0, none⟩)])]) ?_ ?_
  · refine QRun_b [.bool false] 0 _ (by kernel_rfl) (fun w => by kernel_rfl) ?_
    exact QRun_done [0, 1] (by kernel_rfl) (by kernel_rfl)
  refine Run_seq ?_
  obtain ⟨x1, hx1, hF⟩ := M.bind_some hF
  refine Run_regC (j := 5) (C := fun x => Hold h x []) (by kernel_rfl) H0 (L' := [(4, .bool (decide (0 ≤ x1)))]) ?_ (fun h1 H1 => ?_)
  · refine QRun_b [.slice as_ s_.length cs_, .func (.func 38) #[] #[.pointer (some ⟨bf0, 0, none⟩)]] 0 _ (by kernel_rfl) (fun w => by kernel_rfl) ?_
    refine QRun_y (.int .i64 x1) (by kernel_rfl) (Y_call (f := 52) (args := #[.slice as_ s_.length cs_, .func (.func 38) #[] #[.pointer (some ⟨bf0, 0, none⟩)]]) (v := .int .i64 x1) (by kernel_rfl) fun hx Hx => (w_slices_IndexFunc_Place_F_impl_IsEventGraph_1 hx s_ as_ cs_ (rs_.at Hx.ext) f0 af0Places cf0Places (rf0Places.at Hx.ext) bf0 (vf0.at Hx.ext) _ _ hx1).mono fun _ _ ⟨e, H'⟩ => ⟨e, Hx.call H' rfl⟩) ?_
    refine QRun_b [.bool (decide (0 ≤ x1)), .bool (decide (0 ≤ x1))] 3 _ (by kernel_rfl) (fun w => by kernel_rfl) ?_
    exact QRun_done [4] (by kernel_rfl) (by kernel_rfl)
  have H2 : Hold h h1 [] := H1
  have hF := M.ret_some hF
  subst hF
  exact Run_ret1 rfl (ResV_tmp (v := .bool (decide (0 ≤ x1))) (by kernel_rfl)) ⟨rfl, H2⟩

set_option maxRecDepth 100000 in
set_option maxHeartbeats 4000000 in
theorem w_impl_IsEventGraph (h : Heap) (g : TGraph) (agPlaces : Option Addr) (cgPlaces : Nat) (rgPlaces : Rd cd50 h (Lt h) agPlaces cgPlaces g.Places) (n : Nat) (r : Bool) (hF : impl_IsEventGraph g n = some r) :
    Fn Try.prog 21 #[.agg #[.int .i64 g.Events, .slice agPlaces g.Places.length cgPlaces]] h fun v h' => v = .bool r ∧ Hold h h' [] := by
  unfold impl_IsEventGraph at hF
  refine Fn_enter (args := [.agg #[.int .i64 g.Events, .slice agPlaces g.Places.length cgPlaces]]) Try.func21 rfl (by kernel_rfl) (by kernel_rfl) (fun w0 _ => ?_)
  have H0 := Hold.init h
  refine Run_seq ?_
  refine Run_ops ?_
  refine Run_E (by kernel_rfl) ?_
  refine E_box (ty := 30) (cs := [.int .i64 g.Events, .slice agPlaces g.Places.length cgPlaces]) H0 (fun w => by kernel_rfl) (fun b1 h1 H1 => ?_)
  refine Run_b [.bool false] 1 _ (by kernel_rfl) (fun w => by kernel_rfl) ?_
  refine Run_nil (by kernel_rfl) ?_
  refine Run_keep [1] (L' := [(1, .pointer (some ⟨b1, 0, none⟩))]) (by kernel_rfl) ?_
  refine Run_seq ?_
  obtain ⟨x1, hx1, hF⟩ := M.bind_some hF
  obtain ⟨x3, gx3, hF⟩ := M.bind_some hF
  refine Run_regC (j := 17) (C := fun x => Hold h x [box b1 30 [.int .i64 g.Events, .slice agPlaces g.Places.length cgPlaces]]) (by kernel_rfl) H1 (L' := [(2, .bool x3)]) ?_ (fun h2 H2 => ?_)
  · refine QRun_b [.pointer (some ⟨b1, 0, none⟩)] 0 _ (by kernel_rfl) (fun w => by kernel_rfl) ?_
    refine QRun_y (.int .i64 g.Events) (by kernel_rfl) (Y_cls fun hx Hx => (Y_load1 (t := 2) (p := ⟨b1, 0, none⟩) (v := .int .i64 g.Events) (by kernel_rfl) (fun w => by kernel_rfl) (Hx.cell 0 rfl rfl))) ?_
    refine QRun_y (.bool x1) (by kernel_rfl) (Y_cls fun hx Hx => (Y_callq (f := 25) (args := #[.int .i64 g.Events, .int .i64 1, .int .i64 10]) (v := .bool x1) (by kernel_rfl) (w_impl_within hx g.Events 1 10 _ _ hx1))) ?_
    refine QRun_seq 9 [(1, .pointer (some ⟨b1, 0, none⟩)), (11, .bool (x1 && (decide ((g.Places.length : Int) ≤ 30))))] ?_ ?_
    · rcases Bool.eq_false_or_eq_true x1 with hb1 | hb1
      · refine QRun_bool x1 true (by kernel_rfl) (fun w => by kernel_rfl) hb1 ?_
        refine QRun_b [.pointer (some ⟨b1, 1, none⟩)] 4 _ (by kernel_rfl) (fun w => by kernel_rfl) ?_
        refine QRun_y (.slice agPlaces g.Places.length cgPlaces) (by kernel_rfl) (Y_cls fun hx Hx => (Y_load1 (t := 28) (p := ⟨b1, 1, none⟩) (v := .slice agPlaces g.Places.length cgPlaces) (by kernel_rfl) (fun w => by kernel_rfl) (Hx.cell 0 rfl rfl))) ?_
        refine QRun_b [.int .i64 (g.Places.length : Int), .bool (decide ((g.Places.length : Int) ≤ 30))] 6 _ (by kernel_rfl) (fun w => by kernel_rfl) ?_
        refine QRun_bool (decide ((g.Places.length : Int) ≤ 30)) (x1 && (decide ((g.Places.length : Int) ≤ 30))) (by kernel_rfl) (fun w => by kernel_rfl) (by rw [hb1]; rfl) ?_
        exact QRun_done [1, 11] (by kernel_rfl) (by kernel_rfl)
      · refine QRun_bool x1 false (by kernel_rfl) (fun w => by kernel_rfl) hb1 ?_
        refine QRun_n (by kernel_rfl) ?_
        refine QRun_n (by kernel_rfl) ?_
        refine QRun_n (by kernel_rfl) ?_
        refine QRun_n (by kernel_rfl) ?_
        refine QRun_bool false (x1 && (decide ((g.Places.length : Int) ≤ 30))) (by kernel_rfl) (fun w => by kernel_rfl) (by rw [hb1]; rfl) ?_
        exact QRun_done [1, 11] (by kernel_rfl) (by kernel_rfl)
    refine QRun_seq 16 [(18, .bool x3)] ?_ ?_
    · rcases Bool.eq_false_or_eq_true (x1 && (decide ((g.Places.length : Int) ≤ 30))) with hb2 | hb2
      · refine QRun_bool (x1 && (decide ((g.Places.length : Int) ≤ 30))) true (by kernel_rfl) (fun w => by kernel_rfl) hb2 ?_
        have gx3 := (M.ite_some gx3).1 hb2
        obtain ⟨x4, hx2, gx3⟩ := M.bind_some gx3
        have gx3 := M.ret_some gx3
        refine QRun_b [.pointer (some ⟨b1, 1, none⟩)] 10 _ (by kernel_rfl) (fun w => by kernel_rfl) ?_
        refine QRun_y (.slice agPlaces g.Places.length cgPlaces) (by kernel_rfl) (Y_cls fun hx Hx => (Y_load1 (t := 28) (p := ⟨b1, 1, none⟩) (v := .slice agPlaces g.Places.length cgPlaces) (by kernel_rfl) (fun w => by kernel_rfl) (Hx.cell 0 rfl rfl))) ?_
        refine QRun_b [.func (.func 38) #[] #[.pointer (some ⟨b1, 0, none⟩)]] 12 _ (by kernel_rfl) (fun w => by kernel_rfl) ?_
        refine QRun_y (.bool x4) (by kernel_rfl) (Y_call (f := 37) (args := #[.slice agPlaces g.Places.length cgPlaces, .func (.func 38) #[] #[.pointer (some ⟨b1, 0, none⟩)]]) (v := .bool x4) (by kernel_rfl) fun hx Hx => (w_slices_ContainsFunc_Place_F_impl_IsEventGraph_1 hx g.Places agPlaces cgPlaces (rgPlaces.at Hx.ext) g agPlaces cgPlaces (rgPlaces.at Hx.ext) b1 (Hx.var 0 rfl) _ _ hx2).mono fun _ _ ⟨e, H'⟩ => ⟨e, Hx.call H' rfl⟩) ?_
        refine QRun_b [.bool (!x4)] 14 _ (by kernel_rfl) (fun w => by kernel_rfl) ?_
        refine QRun_bool (!x4) x3 (by kernel_rfl) (fun w => by kernel_rfl) gx3 ?_
        exact QRun_done [18] (by kernel_rfl) (by kernel_rfl)
      · refine QRun_bool (x1 && (decide ((g.Places.length : Int) ≤ 30))) false (by kernel_rfl) (fun w => by kernel_rfl) hb2 ?_
        have gx3 := M.ret_some ((M.ite_some gx3).2 hb2)
        refine QRun_n (by kernel_rfl) ?_
        refine QRun_n (by kernel_rfl) ?_
        refine QRun_n (by kernel_rfl) ?_
        refine QRun_n (by kernel_rfl) ?_
        refine QRun_n (by kernel_rfl) ?_
        refine QRun_bool false x3 (by kernel_rfl) (fun w => by kernel_rfl) gx3 ?_
        exact QRun_done [18] (by kernel_rfl) (by kernel_rfl)
    refine QRun_b [.bool x3] 16 _ (by kernel_rfl) (fun w => by kernel_rfl) ?_
    exact QRun_done [2] (by kernel_rfl) (by kernel_rfl)
  have H3 : Hold h h2 [box b1 30 [.int .i64 g.Events, .slice agPlaces g.Places.length cgPlaces]] := H2
  have hF := M.ret_some hF
  subst hF
  have H4 : Hold h h2 [] := H3.pick [] (by kernel_rfl)
  exact Run_ret1 rfl (ResV_tmp (v := .bool x3) (by kernel_rfl)) ⟨rfl, H4⟩

set_option maxRecDepth 100000 in
set_option maxHeartbeats 4000000 in
theorem w_slices_Clone_Place (h : Heap) (s_ : List TPlace) (as_ : Option Addr) (cs_ : Nat) (rs_ : Rd cd50 h (Lt h) as_ cs_ s_) (n : Nat) (r : (List TPlace)) (hF : slices_Clone_Place s_ n = some r) :
    Fn Try.prog 42 #[.slice as_ s_.length cs_] h fun v h' => ∃ (a0 : Option Addr) (c0 : Nat), v = .slice a0 r.length c0 ∧ Hold h h' [own cd50 a0 r.length c0 r] := by
  unfold slices_Clone_Place at hF
  refine Fn_enter (args := [.slice as_ s_.length cs_]) Try.func42 rfl (by kernel_rfl) (by kernel_rfl) (fun w0 _ => ?_)
  have H0 := Hold.init h
  refine Run_seq ?_
  refine Run_reg 1 (by kernel_rfl) (L' := [(0, .slice as_ s_.length cs_)]) ?_ ?_
  · refine QRun_b [.slice none 0 0] 0 _ (by kernel_rfl) (fun w => by kernel_rfl) ?_
    exact QRun_done [0] (by kernel_rfl) (by kernel_rfl)
  refine Run_seq ?_
  refine Run_seq ?_
  refine Run_reg 2 (by kernel_rfl) (L' := [(0, .slice as_ s_.length cs_), (4, .bool as_.isNone)]) ?_ ?_
  · refine QRun_b [.slice as_ s_.length cs_] 0 _ (by kernel_rfl) (fun w => by kernel_rfl) ?_
    refine QRun_y (.bool as_.isNone) (by kernel_rfl) (Y_isnil (t := 28) (e := 50) (n := s_.length) (c := cs_) (a := as_) (by kernel_rfl) Try.underlying28) ?_
    exact QRun_done [0, 4] (by kernel_rfl) (by kernel_rfl)
  refine Run_cond (b := as_.isNone) (by kernel_rfl) (fun hb1 => ?_) (fun hb1 => ?_)
  · obtain rfl : s_ = [] := rs_.isNone hb1
    have hF : (M.ret ([] : List TPlace)) n = some r := by simpa [M.bind, M.app, M.ret] using hF
    refine Run_seq ?_
    refine Run_reg 1 (by kernel_rfl) (L' := [(2, .slice none 0 0)]) ?_ ?_
    · refine QRun_b [.slice none 0 0] 0 _ (by kernel_rfl) (fun w => by kernel_rfl) ?_
      exact QRun_done [2] (by kernel_rfl) (by kernel_rfl)
    have hF := M.ret_some hF
    subst hF
    have H1 := H0.empty cd50
    exact Run_ret1 rfl (ResV_tmp (v := .slice none 0 0) (by kernel_rfl)) ⟨none, 0, rfl, H1⟩
  · refine Run_skip ?_
    refine Run_seq ?_
    refine Run_ops ?_
    refine Run_E (by kernel_rfl) ?_
    refine E_lit (C := cd50) (n := 0) (l := ([] : List TPlace)) (cs := []) H0 (fun w => by kernel_rfl) (Enc.nil _ _) rfl (by decide) (fun a1 h1 H2 => ?_)
    refine Run_b [.slice as_ s_.length cs_] 1 _ (by kernel_rfl) (fun w => by kernel_rfl) ?_
    obtain ⟨l1, hl1, hF⟩ := M.bind_some hF
    have hl1 := M.app_some hl1
    refine Run_E (by kernel_rfl) ?_
    refine E_appR (C := cd50) (t := 28) (ty := 28) (n := 0) (m := s_.length) H2 cd50_copies (rs_.at H2.ext) rfl cd50_ti rfl Try.underlying28 (by decide) (by kernel_rfl) hl1 (fun a2 c1 h2 H3 => ?_)
    refine Run_b [.slice a2 l1.length c1] 3 _ (by kernel_rfl) (fun w => by kernel_rfl) ?_
    refine Run_nil (by kernel_rfl) ?_
    refine Run_keep [2] (L' := [(2, .slice a2 l1.length c1)]) (by kernel_rfl) ?_
    have hF := M.ret_some hF
    subst hF
    exact Run_ret1 rfl (ResV_tmp (v := .slice a2 l1.length c1) (by kernel_rfl)) ⟨a2, c1, rfl, H3⟩

set_option maxRecDepth 100000 in
set_option maxHeartbeats 4000000 in
theorem w_impl_cloneGraph (h : Heap) (g : TGraph) (agPlaces : Option Addr) (cgPlaces : Nat) (rgPlaces : Rd cd50 h (Lt h) agPlaces cgPlaces g.Places) (n : Nat) (r : TGraph) (hF : impl_cloneGraph g n = some r) :
    Fn Try.prog 26 #[.agg #[.int .i64 g.Events, .slice agPlaces g.Places.length cgPlaces]] h fun v h' => ∃ (a0 : Option Addr) (c0 : Nat), v = .agg #[.int .i64 r.Events, .slice a0 r.Places.length c0] ∧ Hold h h' [own cd50 a0 r.Places.length c0 r.Places] := by
  unfold impl_cloneGraph at hF
  refine Fn_enter (args := [.agg #[.int .i64 g.Events, .slice agPlaces g.Places.length cgPlaces]]) Try.func26 rfl (by kernel_rfl) (by kernel_rfl) (fun w0 _ => ?_)
  have H0 := Hold.init h
  refine Run_seq ?_
  refine Run_ops ?_
  refine Run_E (by kernel_rfl) ?_
  refine E_box (ty := 30) (cs := [.int .i64 g.Events, .slice agPlaces g.Places.length cgPlaces]) H0 (fun w => by kernel_rfl) (fun b1 h1 H1 => ?_)
  refine Run_E (by kernel_rfl) ?_
  refine E_box (ty := 30) (cs := [.int .i64 0, .slice none 0 0]) H1 (fun w => by kernel_rfl) (fun b2 h2 H2 => ?_)
  refine Run_nil (by kernel_rfl) ?_
  refine Run_keep [1, 2] (L' := [(1, .pointer (some ⟨b1, 0, none⟩)), (2, .pointer (some ⟨b2, 0, none⟩))]) (by kernel_rfl) ?_
  refine Run_seq ?_
  refine Run_D (fun x => Hold h x [box b2 30 [.int .i64 0, .slice none 0 0], box b1 30 [.int .i64 g.Events, .slice agPlaces g.Places.length cgPlaces]]) (fun x => Hold h x [box b2 30 [.int .i64 0, .slice none 0 0], box b1 30 [.int .i64 g.Events, .slice agPlaces g.Places.length cgPlaces]]) mixed (by kernel_rfl) H2 Hold.stable (fun x Hy => (show Hold h x [box b2 30 [.int .i64 0, .slice none 0 0], box b1 30 [.int .i64 g.Events, .slice agPlaces g.Places.length cgPlaces]] from Hy).pick [0, 1] (by kernel_rfl)) ?_
  refine DR_b 6 [.pointer (some ⟨b1, 0, none⟩)] 0 (by kernel_rfl) (by kernel_rfl) (by kernel_rfl) (fun w => by kernel_rfl) ?_
  refine DR_y 5 (i := 1) (.int .i64 g.Events) (by kernel_rfl) (by kernel_rfl) (by kernel_rfl) (fun hx Hx => (YE.of (Y_load1 (t := 2) (p := ⟨b1, 0, none⟩) (v := .int .i64 g.Events) (by kernel_rfl) (fun w => by kernel_rfl) (Hx.cell 1 rfl rfl)))) ?_
  refine DR_b 4 [.pointer (some ⟨b1, 1, none⟩)] 2 (by kernel_rfl) (by kernel_rfl) (by kernel_rfl) (fun w => by kernel_rfl) ?_
  refine DR_y 3 (i := 3) (.slice agPlaces g.Places.length cgPlaces) (by kernel_rfl) (by kernel_rfl) (by kernel_rfl) (fun hx Hx => (YE.of (Y_load1 (t := 28) (p := ⟨b1, 1, none⟩) (v := .slice agPlaces g.Places.length cgPlaces) (by kernel_rfl) (fun w => by kernel_rfl) (Hx.cell 1 rfl rfl)))) ?_
  refine DR_e 2 4 (by kernel_rfl) (by kernel_rfl) (by kernel_rfl) (fun h3 H3 => ?_)
  have H4 : Hold h h3 [box b2 30 [.int .i64 0, .slice none 0 0], box b1 30 [.int .i64 g.Events, .slice agPlaces g.Places.length cgPlaces]] := H3
  obtain ⟨x1, hx1, hF⟩ := M.bind_some hF
  refine E_call (f := 42) (args := #[.slice agPlaces g.Places.length cgPlaces]) (w_slices_Clone_Place h3 g.Places agPlaces cgPlaces (rgPlaces.at H4.ext) _ _ hx1) (by kernel_rfl) (fun v1 h4 hp1 => ?_)
  obtain ⟨a1, c1, rfl, H5⟩ := hp1
  have H6 : Hold h h4 [own cd50 a1 x1.length c1 x1, box b2 30 [.int .i64 0, .slice none 0 0], box b1 30 [.int .i64 g.Events, .slice agPlaces g.Places.length cgPlaces]] := H4.call H5 rfl
  refine ⟨fun x => Hold h x [box b2 30 [.int .i64 0, .slice none 0 0], box b1 30 [.int .i64 g.Events, .slice agPlaces g.Places.length cgPlaces], own cd50 a1 x1.length c1 x1], fun x => Hold h x [own cd50 a1 x1.length c1 x1, box b2 30 [.int .i64 0, .slice none 0 0], box b1 30 [.int .i64 g.Events, .slice agPlaces g.Places.length cgPlaces]], H6, Hold.stable, fun x Hy => (show Hold h x [own cd50 a1 x1.length c1 x1, box b2 30 [.int .i64 0, .slice none 0 0], box b1 30 [.int .i64 g.Events, .slice agPlaces g.Places.length cgPlaces]] from Hy).pick [1, 2, 0] (by kernel_rfl), fun x Hy => (show Hold h x [box b2 30 [.int .i64 0, .slice none 0 0], box b1 30 [.int .i64 g.Events, .slice agPlaces g.Places.length cgPlaces], own cd50 a1 x1.length c1 x1] from Hy).pick [0, 1] (by kernel_rfl), ?_⟩
  refine DR_b 1 [.agg #[.int .i64 g.Events, .slice a1 x1.length c1]] 5 (by kernel_rfl) (by kernel_rfl) (by kernel_rfl) (fun w => by kernel_rfl) ?_
  refine DR_tail (i := 6) (by kernel_rfl) (by kernel_rfl) (by kernel_rfl) (fun h5 H7 => ?_)
  have H8 : Hold h h5 [own cd50 a1 x1.length c1 x1, box b2 30 [.int .i64 0, .slice none 0 0], box b1 30 [.int .i64 g.Events, .slice agPlaces g.Places.length cgPlaces]] := H7
  have H10 : Hold h h5 [box b2 30 [.int .i64 0, .slice none 0 0], own cd50 a1 x1.length c1 x1, box b1 30 [.int .i64 g.Events, .slice agPlaces g.Places.length cgPlaces]] := H8.pick [1, 0, 2] (by kernel_rfl)
  refine Run_E (by kernel_rfl) ?_
  refine E_bput (t := 30) (off := 0) (us := [.int .i64 g.Events, .slice a1 x1.length c1]) (v := .agg #[.int .i64 g.Events, .slice a1 x1.length c1]) H10 (by kernel_rfl) (by kernel_rfl) rfl (by kernel_rfl) rfl (fun h6 H9 => ?_)
  refine Run_nil (by kernel_rfl) ?_
  refine Run_keep [2] (L' := [(2, .pointer (some ⟨b2, 0, none⟩))]) (by kernel_rfl) ?_
  have hF := M.ret_some hF
  subst hF
  have H11 : Hold h h6 [own cd50 a1 x1.length c1 x1, box b2 30 [.int .i64 g.Events, .slice a1 x1.length c1], box b1 30 [.int .i64 g.Events, .slice agPlaces g.Places.length cgPlaces]] := H9.pick [1, 0, 2] (by kernel_rfl)
  have H12 : Hold h h6 [own cd50 a1 x1.length c1 x1] := H11.pick [0] (by kernel_rfl)
  exact Run_ret1 rfl (ResV_cell (n := 2) (cs := [.int .i64 g.Events, .slice a1 x1.length c1]) (by kernel_rfl) (fun w => by kernel_rfl) (by kernel_rfl) rfl (H9.cells (n := 2) (off := 0) 0 rfl rfl)) ⟨a1, c1, rfl, H12⟩

set_option maxRecDepth 100000 in
set_option maxHeartbeats 4000000 in
theorem w_slices_Delete_Place (h hE : Heap) (it : Item) (s_ : List TPlace) (as_ : Option Addr) (cs_ : Nat) (i : Int) (j : Int) (HM : Hold h hE [own cd50 as_ s_.length cs_ s_, it]) (n : Nat) (r : (List TPlace)) (hF : slices_Delete_Place s_ i j n = some r) :
    Fn Try.prog 27 #[.slice as_ s_.length cs_, .int .i64 i, .int .i64 j] hE fun v h' => ∃ (a0 : Option Addr) (c0 : Nat), v = .slice a0 r.length c0 ∧ Hold h h' [own cd50 a0 r.length c0 r, it] := by
  unfold slices_Delete_Place at hF
  refine Fn_enter (args := [.slice as_ s_.length cs_, .int .i64 i, .int .i64 j]) Try.func27 rfl (by kernel_rfl) (by kernel_rfl) (fun w0 _ => ?_)
  refine Run_seq ?_
  refine Run_reg 1 (by kernel_rfl) (L' := [(0, .slice as_ s_.length cs_), (1, .int .i64 i), (2, .int .i64 j)]) ?_ ?_
  · refine QRun_b [.slice none 0 0] 0 _ (by kernel_rfl) (fun w => by kernel_rfl) ?_
    exact QRun_done [0, 1, 2] (by kernel_rfl) (by kernel_rfl)
  refine Run_seq ?_
  obtain ⟨x1, hx1, hF⟩ := M.bind_some hF
  obtain ⟨hx1a, hx1b, hx1c, hx1d⟩ := M.sub_some hx1
  refine Run_reg 6 (by kernel_rfl) (L' := [(0, .slice as_ s_.length cs_), (1, .int .i64 i), (2, .int .i64 j)]) ?_ ?_
  · refine QRun_b [.slice as_ s_.length cs_, .int .i64 i, .int .i64 j, .slice as_ s_.length cs_, .int .i64 (s_.length : Int)] 0 _ (by kernel_rfl) (fun w => by kernel_rfl) ?_
    refine QRun_y (.slice (sliceA as_ (s_.length : Int).toNat i.toNat 4) (j.toNat - (i : Int).toNat) ((s_.length : Int).toNat - i.toNat)) (by kernel_rfl) (Y_slice3 (t := 28) (e := 50) (sz := 4) (a := as_) (n := s_.length) (cap := cs_) (kx := .i64) (ky := .i64) (kz := .i64) (x := i) (y := j) (z := (s_.length : Int)) (by kernel_rfl) Try.underlying28 (by kernel_rfl) hx1a hx1b hx1c (by have := (HM.rd 0 rfl).fits; omega)) ?_
    exact QRun_done [0, 1, 2] (by kernel_rfl) (by kernel_rfl)
  refine Run_seq ?_
  refine Run_seq ?_
  refine Run_reg 3 (by kernel_rfl) (L' := [(0, .slice as_ s_.length cs_), (1, .int .i64 i), (2, .int .i64 j), (16, .bool (i == j))]) ?_ ?_
  · refine QRun_b [.int .i64 i, .int .i64 j, .bool (i == j)] 0 _ (by kernel_rfl) (fun w => by kernel_rfl) ?_
    exact QRun_done [0, 1, 2, 16] (by kernel_rfl) (by kernel_rfl)
  refine Run_cond (b := i == j) (by kernel_rfl) (fun hb1 => ?_) (fun hb1 => ?_)
  · have hF := (M.ite_some hF).1 hb1
    refine Run_seq ?_
    refine Run_reg 2 (by kernel_rfl) (L' := [(6, .slice as_ s_.length cs_)]) ?_ ?_
    · refine QRun_b [.slice as_ s_.length cs_, .slice as_ s_.length cs_] 0 _ (by kernel_rfl) (fun w => by kernel_rfl) ?_
      exact QRun_done [6] (by kernel_rfl) (by kernel_rfl)
    have hF := M.ret_some hF
    subst hF
    exact Run_ret1 rfl (ResV_tmp (v := .slice as_ s_.length cs_) (by kernel_rfl)) ⟨as_, cs_, rfl, HM⟩
  · have hF := (M.ite_some hF).2 hb1
    refine Run_skip ?_
    refine Run_seq ?_
    refine Run_reg 3 (by kernel_rfl) (L' := [(0, .slice as_ s_.length cs_), (1, .int .i64 i), (2, .int .i64 j), (7, .int .i64 (s_.length : Int))]) ?_ ?_
    · refine QRun_b [.slice as_ s_.length cs_, .int .i64 (s_.length : Int), .int .i64 (s_.length : Int)] 0 _ (by kernel_rfl) (fun w => by kernel_rfl) ?_
      exact QRun_done [0, 1, 2, 7] (by kernel_rfl) (by kernel_rfl)
    refine Run_seq ?_
    obtain ⟨x2, hx2, hF⟩ := M.bind_some hF
    obtain ⟨hx2a, hx2b, hx2c, hx2d⟩ := M.sub_some hx2
    have hn1 : x2.length = i.toNat - (0 : Int).toNat := by rw [hx2d, List.length_take, List.length_drop]; omega
    obtain ⟨x3, hx3, hF⟩ := M.bind_some hF
    obtain ⟨hx3a, hx3b, hx3c, hx3d⟩ := M.sub_some hx3
    have hn2 : x3.length = (s_.length : Int).toNat - (j : Int).toNat := by rw [hx3d, List.length_take, List.length_drop]; omega
    refine Run_D (fun x => Hold h x [own cd50 as_ s_.length cs_ s_, it]) (fun x => Hold h x [own cd50 as_ s_.length cs_ s_, it]) mixed (by kernel_rfl) HM Hold.stable (fun x Hy => (show Hold h x [own cd50 as_ s_.length cs_ s_, it] from Hy).pick [0, 1] (by kernel_rfl)) ?_
    refine DR_b 6 [.slice as_ s_.length cs_, .int .i64 i] 0 (by kernel_rfl) (by kernel_rfl) (by kernel_rfl) (fun w => by kernel_rfl) ?_
    refine DR_y 5 (i := 2) (.slice (sliceA as_ cs_ 0 4) (i.toNat - (0 : Int).toNat) (cs_ - 0)) (by kernel_rfl) (by kernel_rfl) (by kernel_rfl) (fun hx Hx => (YE.of (Y_slice (t := 28) (e := 50) (sz := 4) (a := as_) (n := s_.length) (cap := cs_) (lo := none) (hi := (some (.i64, i))) (x := 0) (y := i) (by kernel_rfl) Try.underlying28 (by kernel_rfl) (Hx.rd 0 rfl).fits rfl rfl hx2a hx2b hx2c))) ?_
    refine DR_b 3 [.slice as_ s_.length cs_, .int .i64 j] 3 (by kernel_rfl) (by kernel_rfl) (by kernel_rfl) (fun w => by kernel_rfl) ?_
    refine DR_y 2 (i := 5) (.slice (sliceA as_ cs_ j.toNat 4) ((s_.length : Int).toNat - (j : Int).toNat) (cs_ - j.toNat)) (by kernel_rfl) (by kernel_rfl) (by kernel_rfl) (fun hx Hx => (YE.of (Y_slice (t := 28) (e := 50) (sz := 4) (a := as_) (n := s_.length) (cap := cs_) (lo := (some (.i64, j))) (hi := none) (x := j) (y := (s_.length : Int)) (by kernel_rfl) Try.underlying28 (by kernel_rfl) (Hx.rd 0 rfl).fits rfl rfl hx3a hx3b hx3c))) ?_
    refine DR_tail (i := 6) (by kernel_rfl) (by kernel_rfl) (by kernel_rfl) (fun h1 H1 => ?_)
    have H2 : Hold h h1 [own cd50 as_ s_.length cs_ s_, it] := H1
    obtain ⟨l1, hl1, hF⟩ := M.bind_some hF
    have hl1 := M.app_some hl1
    refine Run_E (by kernel_rfl) ?_
    refine E_del2 (C := cd50) (t := 28) (ty := 28) (n := s_.length) (m := (s_.length : Int).toNat - (j : Int).toNat) (c2 := cs_ - j.toNat) (i0 := i.toNat - (0 : Int).toNat) (i := i.toNat) (j := j.toNat) (sz := 4) H2 cd50_flat cd50_ti Try.underlying28 rfl (by kernel_rfl) (by simp) (by omega) (by omega) (by omega) (by rw [hx2d]; simp) (by rw [hx3d]; exact List.take_of_length_le (by rw [List.length_drop]; omega)) ⟨Nat.le_refl _, hl1.2⟩ (fun h2 H3 => ?_)
    refine Run_b [.slice as_ l1.length cs_] 7 _ (by kernel_rfl) (fun w => by kernel_rfl) ?_
    refine Run_nil (by kernel_rfl) ?_
    refine Run_keep [0, 7] (L' := [(0, .slice as_ l1.length cs_), (7, .int .i64 (s_.length : Int))]) (by kernel_rfl) ?_
    refine Run_seq ?_
    refine Run_ops ?_
    refine Run_b [.slice as_ l1.length cs_, .slice as_ l1.length cs_, .int .i64 (l1.length : Int), .int .i64 (s_.length : Int)] 0 _ (by kernel_rfl) (fun w => by kernel_rfl) ?_
    refine Run_y (.slice (sliceA as_ cs_ (l1.length : Int).toNat 4) ((s_.length : Int).toNat - ((l1.length : Int) : Int).toNat) (cs_ - (l1.length : Int).toNat)) (by kernel_rfl) (Y_sliceC (t := 28) (e := 50) (sz := 4) (a := as_) (n := l1.length) (cap := cs_) (kx := .i64) (ky := .i64) (x := (l1.length : Int)) (y := (s_.length : Int)) (by kernel_rfl) Try.underlying28 (by kernel_rfl) (by omega) (by have := H3.len 0 rfl; have := (H3.rd 0 rfl).fits; simp only [List.length_append, List.length_drop] at *; omega) (by have := H3.len 0 rfl; have := (H3.rd 0 rfl).fits; simp only [List.length_append, List.length_drop] at *; omega)) ?_
    have hl2 := H3.len 0 rfl
    refine Run_E (by kernel_rfl) ?_
    refine E_clear (C := cd50) (t := 28) (ty := 0) (n := s_.length) (m := (s_.length : Int).toNat - ((l1.length : Int) : Int).toNat) (c2 := cs_ - (l1.length : Int).toNat) (k := (l1.length : Int).toNat) (sz := 4) (⟨0, 0, 0, 0⟩ : TPlace) H3 cd50_flat cd50_ti (by kernel_rfl) Try.underlying28 rfl cd50_zero (by kernel_rfl) (by simp only [List.length_append, List.length_drop] at *; omega) (by simp only [List.length_append, List.length_drop] at *; omega) (fun h3 H4 => ?_)
    obtain ⟨H5, _⟩ := H4.cut l1.length
    have H6 : Hold h h3 [own cd50 as_ l1.length cs_ l1, it] := by rw [List.take_append_of_le_length (by simp), List.take_take, List.take_append_of_le_length (by simp), List.take_of_length_le (by simp)] at H5; exact H5
    refine Run_nil (by kernel_rfl) ?_
    refine Run_keep [0] (L' := [(0, .slice as_ l1.length cs_)]) (by kernel_rfl) ?_
    refine Run_seq ?_
    refine Run_reg 2 (by kernel_rfl) (L' := [(6, .slice as_ l1.length cs_)]) ?_ ?_
    · refine QRun_b [.slice as_ l1.length cs_, .slice as_ l1.length cs_] 0 _ (by kernel_rfl) (fun w => by kernel_rfl) ?_
      exact QRun_done [6] (by kernel_rfl) (by kernel_rfl)
    have hF := M.ret_some hF
    subst hF
    exact Run_ret1 rfl (ResV_tmp (v := .slice as_ l1.length cs_) (by kernel_rfl)) ⟨as_, cs_, rfl, H6⟩

set_option maxRecDepth 100000 in
set_option maxHeartbeats 4000000 in
theorem w_impl_DropPlace (h : Heap) (g : TGraph) (agPlaces : Option Addr) (cgPlaces : Nat) (rgPlaces : Rd cd50 h (Lt h) agPlaces cgPlaces g.Places) (i : Int) (n : Nat) (r : TGraph × Int) (hF : impl_DropPlace g i n = some r) :
    Fn Try.prog 12 #[.agg #[.int .i64 g.Events, .slice agPlaces g.Places.length cgPlaces], .int .i64 i] h fun v h' => ∃ (a0 : Option Addr) (c0 : Nat), v = .tuple #[.agg #[.int .i64 r.1.Events, .slice a0 r.1.Places.length c0], .int .i64 r.2] ∧ Hold h h' [own cd50 a0 r.1.Places.length c0 r.1.Places] := by
  unfold impl_DropPlace at hF
  refine Fn_enter (args := [.agg #[.int .i64 g.Events, .slice agPlaces g.Places.length cgPlaces], .int .i64 i]) Try.func12 rfl (by kernel_rfl) (by kernel_rfl) (fun w0 _ => ?_)
  have H0 := Hold.init h
  refine Run_seq ?_
  refine Run_ops ?_
  refine Run_E (by kernel_rfl) ?_
  refine E_box (ty := 30) (cs := [.int .i64 g.Events, .slice agPlaces g.Places.length cgPlaces]) H0 (fun w => by kernel_rfl) (fun b1 h1 H1 => ?_)
  refine Run_E (by kernel_rfl) ?_
  refine E_box (ty := 30) (cs := [.int .i64 0, .slice none 0 0]) H1 (fun w => by kernel_rfl) (fun b2 h2 H2 => ?_)
  refine Run_b [.int .i64 0] 2 _ (by kernel_rfl) (fun w => by kernel_rfl) ?_
  refine Run_nil (by kernel_rfl) ?_
  refine Run_keep [1, 2, 4] (L' := [(1, .int .i64 i), (2, .pointer (some ⟨b1, 0, none⟩)), (4, .pointer (some ⟨b2, 0, none⟩))]) (by kernel_rfl) ?_
  refine Run_seq ?_
  refine Run_seq ?_
  obtain ⟨x1, hx1, hF⟩ := M.bind_some hF
  refine Run_regC (j := 3) (C := fun x => Hold h x [box b2 30 [.int .i64 0, .slice none 0 0], box b1 30 [.int .i64 g.Events, .slice agPlaces g.Places.length cgPlaces]]) (by kernel_rfl) H2 (L' := [(1, .int .i64 i), (2, .pointer (some ⟨b1, 0, none⟩)), (4, .pointer (some ⟨b2, 0, none⟩)), (9, .bool (!x1))]) ?_ (fun h3 H3 => ?_)
  · refine QRun_y (.agg #[.int .i64 g.Events, .slice agPlaces g.Places.length cgPlaces]) (by kernel_rfl) (Y_cls fun hx Hx => (Y_loadA (t := 30) (n := 2) (p := ⟨b1, 0, none⟩) (cs := [.int .i64 g.Events, .slice agPlaces g.Places.length cgPlaces]) (by kernel_rfl) (fun w => by kernel_rfl) (by kernel_rfl) rfl (Hx.cells (n := 2) (off := 0) 1 rfl rfl))) ?_
    refine QRun_y (.bool x1) (by kernel_rfl) (Y_call (f := 21) (args := #[.agg #[.int .i64 g.Events, .slice agPlaces g.Places.length cgPlaces]]) (v := .bool x1) (by kernel_rfl) fun hx Hx => (w_impl_IsEventGraph hx g agPlaces cgPlaces (rgPlaces.at Hx.ext) _ _ hx1).mono fun _ _ ⟨e, H'⟩ => ⟨e, Hx.call H' rfl⟩) ?_
    refine QRun_b [.bool (!x1)] 2 _ (by kernel_rfl) (fun w => by kernel_rfl) ?_
    exact QRun_done [1, 2, 4, 9] (by kernel_rfl) (by kernel_rfl)
  have H4 : Hold h h3 [box b2 30 [.int .i64 0, .slice none 0 0], box b1 30 [.int .i64 g.Events, .slice agPlaces g.Places.length cgPlaces]] := H3
  refine Run_cond (b := !x1) (by kernel_rfl) (fun hb1 => ?_) (fun hb1 => ?_)
  · have hF := (M.ite_some hF).1 hb1
    refine Run_seq ?_
    refine Run_ops ?_
    refine Run_b [.agg #[.int .i64 0, .slice none 0 0]] 0 _ (by kernel_rfl) (fun w => by kernel_rfl) ?_
    refine Run_E (by kernel_rfl) ?_
    refine E_bput (t := 30) (off := 0) (us := [.int .i64 0, .slice none 0 0]) (v := .agg #[.int .i64 0, .slice none 0 0]) H4 (by kernel_rfl) (by kernel_rfl) rfl (by kernel_rfl) rfl (fun h4 H5 => ?_)
    refine Run_b [.int .i64 1] 2 _ (by kernel_rfl) (fun w => by kernel_rfl) ?_
    refine Run_nil (by kernel_rfl) ?_
    refine Run_keep [4, 5] (L' := [(4, .pointer (some ⟨b2, 0, none⟩)), (5, .int .i64 1)]) (by kernel_rfl) ?_
    have hF := M.ret_some hF
    subst hF
    have H6 := H5.empty cd50
    have H7 : Hold h h4 [own cd50 none 0 0 []] := H6.pick [0] (by kernel_rfl)
    exact Run_ret2 rfl (ResV_cell (n := 2) (cs := [.int .i64 0, .slice none 0 0]) (by kernel_rfl) (fun w => by kernel_rfl) (by kernel_rfl) rfl (H5.cells (n := 2) (off := 0) 0 rfl rfl)) (ResV_tmp (v := .int .i64 1) (by kernel_rfl)) ⟨none, 0, rfl, H7⟩
  · have hF := (M.ite_some hF).2 hb1
    refine Run_skip ?_
    refine Run_seq ?_
    refine Run_seq ?_
    obtain ⟨x2, hx2, hF⟩ := M.bind_some hF
    refine Run_reg 7 (by kernel_rfl) (L' := [(1, .int .i64 i), (2, .pointer (some ⟨b1, 0, none⟩)), (4, .pointer (some ⟨b2, 0, none⟩)), (17, .bool (!x2))]) ?_ ?_
    · refine QRun_b [.int .i64 i, .pointer (some ⟨b1, 1, none⟩)] 0 _ (by kernel_rfl) (fun w => by kernel_rfl) ?_
      refine QRun_y (.slice agPlaces g.Places.length cgPlaces) (by kernel_rfl) (Y_load1 (t := 28) (p := ⟨b1, 1, none⟩) (v := .slice agPlaces g.Places.length cgPlaces) (by kernel_rfl) (fun w => by kernel_rfl) (H4.cell 1 rfl rfl)) ?_
      refine QRun_b [.int .i64 (g.Places.length : Int), .int .i64 (w64 ((g.Places.length : Int) - 1))] 3 _ (by kernel_rfl) (fun w => by kernel_rfl) ?_
      refine QRun_y (.bool x2) (by kernel_rfl) (Y_callq (f := 25) (args := #[.int .i64 i, .int .i64 0, .int .i64 (w64 ((g.Places.length : Int) - 1))]) (v := .bool x2) (by kernel_rfl) (w_impl_within h3 i 0 (w64 ((g.Places.length : Int) - 1)) _ _ hx2)) ?_
      refine QRun_b [.bool (!x2)] 6 _ (by kernel_rfl) (fun w => by kernel_rfl) ?_
      exact QRun_done [1, 2, 4, 17] (by kernel_rfl) (by kernel_rfl)
    refine Run_cond (b := !x2) (by kernel_rfl) (fun hb2 => ?_) (fun hb2 => ?_)
    · have hF := (M.ite_some hF).1 hb2
      refine Run_seq ?_
      refine Run_ops ?_
      refine Run_b [.agg #[.int .i64 0, .slice none 0 0]] 0 _ (by kernel_rfl) (fun w => by kernel_rfl) ?_
      refine Run_E (by kernel_rfl) ?_
      refine E_bput (t := 30) (off := 0) (us := [.int .i64 0, .slice none 0 0]) (v := .agg #[.int .i64 0, .slice none 0 0]) H4 (by kernel_rfl) (by kernel_rfl) rfl (by kernel_rfl) rfl (fun h5 H8 => ?_)
      refine Run_b [.int .i64 2] 2 _ (by kernel_rfl) (fun w => by kernel_rfl) ?_
      refine Run_nil (by kernel_rfl) ?_
      refine Run_keep [4, 5] (L' := [(4, .pointer (some ⟨b2, 0, none⟩)), (5, .int .i64 2)]) (by kernel_rfl) ?_
      have hF := M.ret_some hF
      subst hF
      have H9 := H8.empty cd50
      have H10 : Hold h h5 [own cd50 none 0 0 []] := H9.pick [0] (by kernel_rfl)
      exact Run_ret2 rfl (ResV_cell (n := 2) (cs := [.int .i64 0, .slice none 0 0]) (by kernel_rfl) (fun w => by kernel_rfl) (by kernel_rfl) rfl (H8.cells (n := 2) (off := 0) 0 rfl rfl)) (ResV_tmp (v := .int .i64 2) (by kernel_rfl)) ⟨none, 0, rfl, H10⟩
    · have hF := (M.ite_some hF).2 hb2
      refine Run_skip ?_
      refine Run_seq ?_
      refine Run_ops ?_
      refine Run_y (.agg #[.int .i64 g.Events, .slice agPlaces g.Places.length cgPlaces]) (by kernel_rfl) (Y_loadA (t := 30) (n := 2) (p := ⟨b1, 0, none⟩) (cs := [.int .i64 g.Events, .slice agPlaces g.Places.length cgPlaces]) (by kernel_rfl) (fun w => by kernel_rfl) (by kernel_rfl) rfl (H4.cells (n := 2) (off := 0) 1 rfl rfl)) ?_
      obtain ⟨x3, hx3, hF⟩ := M.bind_some hF
      refine Run_E (by kernel_rfl) ?_
      refine E_call (f := 26) (args := #[.agg #[.int .i64 g.Events, .slice agPlaces g.Places.length cgPlaces]]) (w_impl_cloneGraph h3 g agPlaces cgPlaces (rgPlaces.at H4.ext) _ _ hx3) (by kernel_rfl) (fun v1 h6 hp1 => ?_)
      obtain ⟨a1, c1, rfl, H11⟩ := hp1
      have H12 : Hold h h6 [own cd50 a1 x3.Places.length c1 x3.Places, box b2 30 [.int .i64 0, .slice none 0 0], box b1 30 [.int .i64 g.Events, .slice agPlaces g.Places.length cgPlaces]] := H4.call H11 rfl
      refine Run_E (by kernel_rfl) ?_
      refine E_box (ty := 30) (cs := [.int .i64 0, .slice none 0 0]) H12 (fun w => by kernel_rfl) (fun b3 h7 H13 => ?_)
      refine Run_E (by kernel_rfl) ?_
      refine E_bput (t := 30) (off := 0) (us := [.int .i64 x3.Events, .slice a1 x3.Places.length c1]) (v := .agg #[.int .i64 x3.Events, .slice a1 x3.Places.length c1]) H13 (by kernel_rfl) (by kernel_rfl) rfl (by kernel_rfl) rfl (fun h8 H14 => ?_)
      refine Run_nil (by kernel_rfl) ?_
      refine Run_keep [1, 4, 6] (L' := [(1, .int .i64 i), (4, .pointer (some ⟨b2, 0, none⟩)), (6, .pointer (some ⟨b3, 0, none⟩))]) (by kernel_rfl) ?_
      refine Run_seq ?_
      refine Run_ops ?_
      refine Run_b [.pointer (some ⟨b3, 1, none⟩)] 0 _ (by kernel_rfl) (fun w => by kernel_rfl) ?_
      refine Run_y (.slice a1 x3.Places.length c1) (by kernel_rfl) (Y_load1 (t := 28) (p := ⟨b3, 1, none⟩) (v := .slice a1 x3.Places.length c1) (by kernel_rfl) (fun w => by kernel_rfl) (H14.cell 0 rfl rfl)) ?_
      refine Run_b [.int .i64 i, .int .i64 i, .int .i64 (w64 (i + 1))] 2 _ (by kernel_rfl) (fun w => by kernel_rfl) ?_
      obtain ⟨x4, hx4, hF⟩ := M.bind_some hF
      have H15 : Hold h h8 [own cd50 a1 x3.Places.length c1 x3.Places, box b3 30 [.int .i64 x3.Events, .slice a1 x3.Places.length c1], box b2 30 [.int .i64 0, .slice none 0 0], box b1 30 [.int .i64 g.Events, .slice agPlaces g.Places.length cgPlaces]] := H14.pick [1, 0, 2, 3] (by kernel_rfl)
      have H16 : Hold h h8 [own cd50 a1 x3.Places.length c1 x3.Places, bun [box b3 30 [.int .i64 x3.Events, .slice a1 x3.Places.length c1], box b2 30 [.int .i64 0, .slice none 0 0], box b1 30 [.int .i64 g.Events, .slice agPlaces g.Places.length cgPlaces]]] := Hold.bundle (S := [own cd50 a1 x3.Places.length c1 x3.Places]) (R := [box b3 30 [.int .i64 x3.Events, .slice a1 x3.Places.length c1], box b2 30 [.int .i64 0, .slice none 0 0], box b1 30 [.int .i64 g.Events, .slice agPlaces g.Places.length cgPlaces]]) H15
      refine Run_E (by kernel_rfl) ?_
      refine E_call (f := 27) (args := #[.slice a1 x3.Places.length c1, .int .i64 i, .int .i64 (w64 (i + 1))]) (w_slices_Delete_Place h h8 _ x3.Places a1 c1 i (w64 (i + 1)) H16 _ _ hx4) (by kernel_rfl) (fun v2 h9 hp2 => ?_)
      obtain ⟨a2, c2, rfl, H17⟩ := hp2
      have H18 : Hold h h9 [own cd50 a2 x4.length c2 x4, box b3 30 [.int .i64 x3.Events, .slice a1 x3.Places.length c1], box b2 30 [.int .i64 0, .slice none 0 0], box b1 30 [.int .i64 g.Events, .slice agPlaces g.Places.length cgPlaces]] := Hold.unbundle (S := [own cd50 a2 x4.length c2 x4]) (R := [box b3 30 [.int .i64 x3.Events, .slice a1 x3.Places.length c1], box b2 30 [.int .i64 0, .slice none 0 0], box b1 30 [.int .i64 g.Events, .slice agPlaces g.Places.length cgPlaces]]) H17 (Hold.tailBase (S := [own cd50 a1 x3.Places.length c1 x3.Places]) (R := [box b3 30 [.int .i64 x3.Events, .slice a1 x3.Places.length c1], box b2 30 [.int .i64 0, .slice none 0 0], box b1 30 [.int .i64 g.Events, .slice agPlaces g.Places.length cgPlaces]]) H15)
      refine Run_b [.pointer (some ⟨b3, 1, none⟩)] 6 _ (by kernel_rfl) (fun w => by kernel_rfl) ?_
      have H20 : Hold h h9 [box b3 30 [.int .i64 x3.Events, .slice a1 x3.Places.length c1], own cd50 a2 x4.length c2 x4, box b2 30 [.int .i64 0, .slice none 0 0], box b1 30 [.int .i64 g.Events, .slice agPlaces g.Places.length cgPlaces]] := H18.pick [1, 0, 2, 3] (by kernel_rfl)
      refine Run_E (by kernel_rfl) ?_
      refine E_bput (t := 28) (off := 1) (us := [.int .i64 x3.Events, .slice a2 x4.length c2]) (v := .slice a2 x4.length c2) H20 (by kernel_rfl) (by kernel_rfl) rfl (by kernel_rfl) rfl (fun h10 H19 => ?_)
      refine Run_nil (by kernel_rfl) ?_
      refine Run_keep [4, 6] (L' := [(4, .pointer (some ⟨b2, 0, none⟩)), (6, .pointer (some ⟨b3, 0, none⟩))]) (by kernel_rfl) ?_
      refine Run_seq ?_
      refine Run_ops ?_
      refine Run_y (.agg #[.int .i64 x3.Events, .slice a2 x4.length c2]) (by kernel_rfl) (Y_loadA (t := 30) (n := 2) (p := ⟨b3, 0, none⟩) (cs := [.int .i64 x3.Events, .slice a2 x4.length c2]) (by kernel_rfl) (fun w => by kernel_rfl) (by kernel_rfl) rfl (H19.cells (n := 2) (off := 0) 0 rfl rfl)) ?_
      have H22 : Hold h h10 [box b2 30 [.int .i64 0, .slice none 0 0], box b3 30 [.int .i64 x3.Events, .slice a2 x4.length c2], own cd50 a2 x4.length c2 x4, box b1 30 [.int .i64 g.Events, .slice agPlaces g.Places.length cgPlaces]] := H19.pick [2, 0, 1, 3] (by kernel_rfl)
      refine Run_E (by kernel_rfl) ?_
      refine E_bput (t := 30) (off := 0) (us := [.int .i64 x3.Events, .slice a2 x4.length c2]) (v := .agg #[.int .i64 x3.Events, .slice a2 x4.length c2]) H22 (by kernel_rfl) (by kernel_rfl) rfl (by kernel_rfl) rfl (fun h11 H21 => ?_)
      refine Run_b [.int .i64 0] 2 _ (by kernel_rfl) (fun w => by kernel_rfl) ?_
      refine Run_nil (by kernel_rfl) ?_
      refine Run_keep [4, 5] (L' := [(4, .pointer (some ⟨b2, 0, none⟩)), (5, .int .i64 0)]) (by kernel_rfl) ?_
      have hF := M.ret_some hF
      subst hF
      have H23 : Hold h h11 [own cd50 a2 x4.length c2 x4, box b2 30 [.int .i64 x3.Events, .slice a2 x4.length c2], box b3 30 [.int .i64 x3.Events, .slice a2 x4.length c2], box b1 30 [.int .i64 g.Events, .slice agPlaces g.Places.length cgPlaces]] := H21.pick [2, 0, 1, 3] (by kernel_rfl)
      have H24 : Hold h h11 [own cd50 a2 x4.length c2 x4] := H23.pick [0] (by kernel_rfl)
      exact Run_ret2 rfl (ResV_cell (n := 2) (cs := [.int .i64 x3.Events, .slice a2 x4.length c2]) (by kernel_rfl) (fun w => by kernel_rfl) (by kernel_rfl) rfl (H21.cells (n := 2) (off := 0) 0 rfl rfl)) (ResV_tmp (v := .int .i64 0) (by kernel_rfl)) ⟨a2, c2, rfl, H24⟩

set_option maxRecDepth 100000 in
set_option maxHeartbeats 4000000 in
theorem w_laws_eqPlace (h : Heap) (a_ : TPlace) (b : TPlace) (n : Nat) (r : Bool) (hF : laws_eqPlace a_ b n = some r) :
    Fn Try.prog 41 #[.agg #[.int .i64 a_.From, .int .i64 a_.To, .int .i64 a_.Delay, .int .i64 a_.Tokens], .agg #[.int .i64 b.From, .int .i64 b.To, .int .i64 b.Delay, .int .i64 b.Tokens]] h fun v h' => v = .bool r ∧ Hold h h' [] := by
  unfold laws_eqPlace at hF
  refine Fn_enter (args := [.agg #[.int .i64 a_.From, .int .i64 a_.To, .int .i64 a_.Delay, .int .i64 a_.Tokens], .agg #[.int .i64 b.From, .int .i64 b.To, .int .i64 b.Delay, .int .i64 b.Tokens]]) Try.func41 rfl (by kernel_rfl) (by kernel_rfl) (fun w0 _ => ?_)
  have H0 := Hold.init h
  refine Run_seq ?_
  refine Run_ops ?_
  refine Run_E (by kernel_rfl) ?_
  refine E_box (ty := 50) (cs := [.int .i64 a_.From, .int .i64 a_.To, .int .i64 a_.Delay, .int .i64 a_.Tokens]) H0 (fun w => by kernel_rfl) (fun b1 h1 H1 => ?_)
  refine Run_E (by kernel_rfl) ?_
  refine E_box (ty := 50) (cs := [.int .i64 b.From, .int .i64 b.To, .int .i64 b.Delay, .int .i64 b.Tokens]) H1 (fun w => by kernel_rfl) (fun b2 h2 H2 => ?_)
  refine Run_b [.bool false] 2 _ (by kernel_rfl) (fun w => by kernel_rfl) ?_
  refine Run_nil (by kernel_rfl) ?_
  refine Run_keep [2, 3] (L' := [(2, .pointer (some ⟨b1, 0, none⟩)), (3, .pointer (some ⟨b2, 0, none⟩))]) (by kernel_rfl) ?_
  refine Run_seq ?_
  refine Run_seq ?_
  refine Run_reg 5 (by kernel_rfl) (L' := [(2, .pointer (some ⟨b1, 0, none⟩)), (3, .pointer (some ⟨b2, 0, none⟩)), (9, .bool (a_.From != b.From))]) ?_ ?_
  · refine QRun_b [.pointer (some ⟨b1, 0, none⟩)] 0 _ (by kernel_rfl) (fun w => by kernel_rfl) ?_
    refine QRun_y (.int .i64 a_.From) (by kernel_rfl) (Y_load1 (t := 2) (p := ⟨b1, 0, none⟩) (v := .int .i64 a_.From) (by kernel_rfl) (fun w => by kernel_rfl) (H2.cell 1 rfl rfl)) ?_
    refine QRun_b [.pointer (some ⟨b2, 0, none⟩)] 2 _ (by kernel_rfl) (fun w => by kernel_rfl) ?_
    refine QRun_y (.int .i64 b.From) (by kernel_rfl) (Y_load1 (t := 2) (p := ⟨b2, 0, none⟩) (v := .int .i64 b.From) (by kernel_rfl) (fun w => by kernel_rfl) (H2.cell 0 rfl rfl)) ?_
    refine QRun_b [.bool (a_.From != b.From)] 4 _ (by kernel_rfl) (fun w => by kernel_rfl) ?_
    exact QRun_done [2, 3, 9] (by kernel_rfl) (by kernel_rfl)
  refine Run_cond (b := a_.From != b.From) (by kernel_rfl) (fun hb1 => ?_) (fun hb1 => ?_)
  · have hF := (M.ite_some hF).1 hb1
    refine Run_seq ?_
    refine Run_reg 1 (by kernel_rfl) (L' := [(4, .bool false)]) ?_ ?_
    · refine QRun_b [.bool false] 0 _ (by kernel_rfl) (fun w => by kernel_rfl) ?_
      exact QRun_done [4] (by kernel_rfl) (by kernel_rfl)
    have hF := M.ret_some hF
    subst hF
    have H3 : Hold h h2 [] := H2.pick [] (by kernel_rfl)
    exact Run_ret1 rfl (ResV_tmp (v := .bool false) (by kernel_rfl)) ⟨rfl, H3⟩
  · have hF := (M.ite_some hF).2 hb1
    refine Run_skip ?_
    refine Run_seq ?_
    refine Run_seq ?_
    refine Run_reg 5 (by kernel_rfl) (L' := [(2, .pointer (some ⟨b1, 0, none⟩)), (3, .pointer (some ⟨b2, 0, none⟩)), (14, .bool (a_.To != b.To))]) ?_ ?_
    · refine QRun_b [.pointer (some ⟨b1, 1, none⟩)] 0 _ (by kernel_rfl) (fun w => by kernel_rfl) ?_
      refine QRun_y (.int .i64 a_.To) (by kernel_rfl) (Y_load1 (t := 2) (p := ⟨b1, 1, none⟩) (v := .int .i64 a_.To) (by kernel_rfl) (fun w => by kernel_rfl) (H2.cell 1 rfl rfl)) ?_
      refine QRun_b [.pointer (some ⟨b2, 1, none⟩)] 2 _ (by kernel_rfl) (fun w => by kernel_rfl) ?_
      refine QRun_y (.int .i64 b.To) (by kernel_rfl) (Y_load1 (t := 2) (p := ⟨b2, 1, none⟩) (v := .int .i64 b.To) (by kernel_rfl) (fun w => by kernel_rfl) (H2.cell 0 rfl rfl)) ?_
      refine QRun_b [.bool (a_.To != b.To)] 4 _ (by kernel_rfl) (fun w => by kernel_rfl) ?_
      exact QRun_done [2, 3, 14] (by kernel_rfl) (by kernel_rfl)
    refine Run_cond (b := a_.To != b.To) (by kernel_rfl) (fun hb2 => ?_) (fun hb2 => ?_)
    · have hF := (M.ite_some hF).1 hb2
      refine Run_seq ?_
      refine Run_reg 1 (by kernel_rfl) (L' := [(4, .bool false)]) ?_ ?_
      · refine QRun_b [.bool false] 0 _ (by kernel_rfl) (fun w => by kernel_rfl) ?_
        exact QRun_done [4] (by kernel_rfl) (by kernel_rfl)
      have hF := M.ret_some hF
      subst hF
      have H4 : Hold h h2 [] := H2.pick [] (by kernel_rfl)
      exact Run_ret1 rfl (ResV_tmp (v := .bool false) (by kernel_rfl)) ⟨rfl, H4⟩
    · have hF := (M.ite_some hF).2 hb2
      refine Run_skip ?_
      refine Run_seq ?_
      refine Run_seq ?_
      refine Run_reg 5 (by kernel_rfl) (L' := [(2, .pointer (some ⟨b1, 0, none⟩)), (3, .pointer (some ⟨b2, 0, none⟩)), (19, .bool (a_.Delay != b.Delay))]) ?_ ?_
      · refine QRun_b [.pointer (some ⟨b1, 2, none⟩)] 0 _ (by kernel_rfl) (fun w => by kernel_rfl) ?_
        refine QRun_y (.int .i64 a_.Delay) (by kernel_rfl) (Y_load1 (t := 2) (p := ⟨b1, 2, none⟩) (v := .int .i64 a_.Delay) (by kernel_rfl) (fun w => by kernel_rfl) (H2.cell 1 rfl rfl)) ?_
        refine QRun_b [.pointer (some ⟨b2, 2, none⟩)] 2 _ (by kernel_rfl) (fun w => by kernel_rfl) ?_
        refine QRun_y (.int .i64 b.Delay) (by kernel_rfl) (Y_load1 (t := 2) (p := ⟨b2, 2, none⟩) (v := .int .i64 b.Delay) (by kernel_rfl) (fun w => by kernel_rfl) (H2.cell 0 rfl rfl)) ?_
        refine QRun_b [.bool (a_.Delay != b.Delay)] 4 _ (by kernel_rfl) (fun w => by kernel_rfl) ?_
        exact QRun_done [2, 3, 19] (by kernel_rfl) (by kernel_rfl)
      refine Run_cond (b := a_.Delay != b.Delay) (by kernel_rfl) (fun hb3 => ?_) (fun hb3 => ?_)
      · have hF := (M.ite_some hF).1 hb3
        refine Run_seq ?_
        refine Run_reg 1 (by kernel_rfl) (L' := [(4, .bool false)]) ?_ ?_
        · refine QRun_b [.bool false] 0 _ (by kernel_rfl) (fun w => by kernel_rfl) ?_
          exact QRun_done [4] (by kernel_rfl) (by kernel_rfl)
        have hF := M.ret_some hF
        subst hF
        have H5 : Hold h h2 [] := H2.pick [] (by kernel_rfl)
        exact Run_ret1 rfl (ResV_tmp (v := .bool false) (by kernel_rfl)) ⟨rfl, H5⟩
      · have hF := (M.ite_some hF).2 hb3
        refine Run_skip ?_
        refine Run_seq ?_
        refine Run_seq ?_
        refine Run_reg 5 (by kernel_rfl) (L' := [(24, .bool (a_.Tokens != b.Tokens))]) ?_ ?_
        · refine QRun_b [.pointer (some ⟨b1, 3, none⟩)] 0 _ (by kernel_rfl) (fun w => by kernel_rfl) ?_
          refine QRun_y (.int .i64 a_.Tokens) (by kernel_rfl) (Y_load1 (t := 2) (p := ⟨b1, 3, none⟩) (v := .int .i64 a_.Tokens) (by kernel_rfl) (fun w => by kernel_rfl) (H2.cell 1 rfl rfl)) ?_
          refine QRun_b [.pointer (some ⟨b2, 3, none⟩)] 2 _ (by kernel_rfl) (fun w => by kernel_rfl) ?_
          refine QRun_y (.int .i64 b.Tokens) (by kernel_rfl) (Y_load1 (t := 2) (p := ⟨b2, 3, none⟩) (v := .int .i64 b.Tokens) (by kernel_rfl) (fun w => by kernel_rfl) (H2.cell 0 rfl rfl)) ?_
          refine QRun_b [.bool (a_.Tokens != b.Tokens)] 4 _ (by kernel_rfl) (fun w => by kernel_rfl) ?_
          exact QRun_done [24] (by kernel_rfl) (by kernel_rfl)
        refine Run_cond (b := a_.Tokens != b.Tokens) (by kernel_rfl) (fun hb4 => ?_) (fun hb4 => ?_)
        · have hF := (M.ite_some hF).1 hb4
          refine Run_seq ?_
          refine Run_reg 1 (by kernel_rfl) (L' := [(4, .bool false)]) ?_ ?_
          · refine QRun_b [.bool false] 0 _ (by kernel_rfl) (fun w => by kernel_rfl) ?_
            exact QRun_done [4] (by kernel_rfl) (by kernel_rfl)
          have hF := M.ret_some hF
          subst hF
          have H6 : Hold h h2 [] := H2.pick [] (by kernel_rfl)
          exact Run_ret1 rfl (ResV_tmp (v := .bool false) (by kernel_rfl)) ⟨rfl, H6⟩
        · have hF := (M.ite_some hF).2 hb4
          refine Run_skip ?_
          refine Run_seq ?_
          refine Run_reg 1 (by kernel_rfl) (L' := [(4, .bool true)]) ?_ ?_
          · refine QRun_b [.bool true] 0 _ (by kernel_rfl) (fun w => by kernel_rfl) ?_
            exact QRun_done [4] (by kernel_rfl) (by kernel_rfl)
          have hF := M.ret_some hF
          subst hF
          have H7 : Hold h h2 [] := H2.pick [] (by kernel_rfl)
          exact Run_ret1 rfl (ResV_tmp (v := .bool true) (by kernel_rfl)) ⟨rfl, H7⟩

set_option maxRecDepth 100000 in
set_option maxHeartbeats 4000000 in
theorem w_laws_eqPlaceS (h : Heap) (a_ : List TPlace) (aa_ : Option Addr) (ca_ : Nat) (ra_ : Rd cd50 h (Lt h) aa_ ca_ a_) (b : List TPlace) (ab : Option Addr) (cb : Nat) (rb : Rd cd50 h (Lt h) ab cb b) (n : Nat) (r : Bool) (hF : laws_eqPlaceS a_ b n = some r) :
    Fn Try.prog 23 #[.slice aa_ a_.length ca_, .slice ab b.length cb] h fun v h' => v = .bool r ∧ Hold h h' [] := by
  unfold laws_eqPlaceS at hF
  refine Fn_enter (args := [.slice aa_ a_.length ca_, .slice ab b.length cb]) Try.func23 rfl (by kernel_rfl) (by kernel_rfl) (fun w0 _ => ?_)
  have H0 := Hold.init h
  refine Run_seq ?_
  refine Run_reg 1 (by kernel_rfl) (L' := [(0, .slice aa_ a_.length ca_), (1, .slice ab b.length cb)]) ?_ ?_
  · refine QRun_b [.bool false] 0 _ (by kernel_rfl) (fun w => by kernel_rfl) ?_
    exact QRun_done [0, 1] (by kernel_rfl) (by kernel_rfl)
  refine Run_seq ?_
  refine Run_seq ?_
  refine Run_reg 5 (by kernel_rfl) (L' := [(0, .slice aa_ a_.length ca_), (1, .slice ab b.length cb), (10, .bool ((a_.length : Int) != (b.length : Int)))]) ?_ ?_
  · refine QRun_b [.slice aa_ a_.length ca_, .int .i64 (a_.length : Int), .slice ab b.length cb, .int .i64 (b.length : Int), .bool ((a_.length : Int) != (b.length : Int))] 0 _ (by kernel_rfl) (fun w => by kernel_rfl) ?_
    exact QRun_done [0, 1, 10] (by kernel_rfl) (by kernel_rfl)
  refine Run_cond (b := (a_.length : Int) != (b.length : Int)) (by kernel_rfl) (fun hb1 => ?_) (fun hb1 => ?_)
  · have hF := (M.ite_some hF).1 hb1
    refine Run_seq ?_
    refine Run_reg 1 (by kernel_rfl) (L' := [(4, .bool false)]) ?_ ?_
    · refine QRun_b [.bool false] 0 _ (by kernel_rfl) (fun w => by kernel_rfl) ?_
      exact QRun_done [4] (by kernel_rfl) (by kernel_rfl)
    have hF := M.ret_some hF
    subst hF
    exact Run_ret1 rfl (ResV_tmp (v := .bool false) (by kernel_rfl)) ⟨rfl, H0⟩
  · have hF := (M.ite_some hF).2 hb1
    refine Run_skip ?_
    refine Run_seq ?_
    refine Run_seq ?_
    refine Run_reg 1 (by kernel_rfl) (L' := [(0, .slice aa_ a_.length ca_), (1, .slice ab b.length cb), (5, .int .i64 0)]) ?_ ?_
    · refine QRun_b [.int .i64 0] 0 _ (by kernel_rfl) (fun w => by kernel_rfl) ?_
      exact QRun_done [0, 1, 5] (by kernel_rfl) (by kernel_rfl)
    obtain ⟨x1, gx1, hF⟩ := M.bind_some hF
    obtain ⟨hloy1, hhiy1, gx1⟩ := M.for_start gx1
    refine Run_join (fun L' h' => ∃ (s2 : Unit), x1 = .inl s2 ∧ L' = [] ∧ Hold h h' []) ?_ ?_
    · rintro _ h2 ⟨s2, es2, rfl, H2⟩
      have hF := M.cont_inl' hF es2
      refine Run_seq ?_
      refine Run_reg 1 (by kernel_rfl) (L' := [(4, .bool true)]) ?_ ?_
      · refine QRun_b [.bool true] 0 _ (by kernel_rfl) (fun w => by kernel_rfl) ?_
        exact QRun_done [4] (by kernel_rfl) (by kernel_rfl)
      have hF := M.ret_some hF
      subst hF
      exact Run_ret1 rfl (ResV_tmp (v := .bool true) (by kernel_rfl)) ⟨rfl, H2⟩
    · refine Run_block ?_
      refine Run_keep [0, 1, 5] (L' := [(0, .slice aa_ a_.length ca_), (1, .slice ab b.length cb), (5, .int .i64 0)]) (by kernel_rfl) ?_
      refine Run_loop (fun m L' h' => ∃ (i1 : Int) (s1 : Unit), 0 ≤ i1 ∧ M.forN (a_.length : Int) _ _ n m i1 s1 = some x1 ∧ L' = [(0, .slice aa_ a_.length ca_), (1, .slice ab b.length cb), (5, .int .i64 i1)] ∧ Hold h h' []) ((a_.length : Int) - 0 : Int).toNat ⟨0, (), Int.le_refl _, gx1, rfl, H0⟩ ?_
      rintro my1 _ h1 ⟨i1, s1, hloy1', gx1, rfl, H1⟩
      refine Run_seq ?_
      refine Run_seq ?_
      refine Run_reg 4 (by kernel_rfl) (L' := [(0, .slice aa_ a_.length ca_), (1, .slice ab b.length cb), (5, .int .i64 i1), (14, .bool (decide (i1 < (a_.length : Int))))]) ?_ ?_
      · refine QRun_b [.int .i64 i1, .slice aa_ a_.length ca_, .int .i64 (a_.length : Int), .bool (decide (i1 < (a_.length : Int)))] 0 _ (by kernel_rfl) (fun w => by kernel_rfl) ?_
        exact QRun_done [0, 1, 5, 14] (by kernel_rfl) (by kernel_rfl)
      refine Run_cond (b := decide (i1 < (a_.length : Int))) (by kernel_rfl) (fun hb2 => ?_) (fun hb2 => ?_)
      · obtain ⟨my1, y1, rfl, hB1, hgoy1, houty1⟩ := M.for_go gx1 hb2
        have hlty1 := of_decide_eq_true hb2
        refine Run_skip ?_
        refine Run_seq ?_
        refine Run_block ?_
        refine Run_seq ?_
        obtain ⟨x2, hx1, hB1⟩ := M.bind_some hB1
        obtain ⟨hx1l, hx1u, hx1⟩ := M.idx_some hx1
        obtain ⟨x3, hx2, hB1⟩ := M.bind_some hB1
        obtain ⟨hx2l, hx2u, hx2⟩ := M.idx_some hx2
        obtain ⟨x4, hx3, hB1⟩ := M.bind_some hB1
        refine Run_drawC (j := 10) (C := fun x => Hold h x []) mixed (by kernel_rfl) (by kernel_rfl) H1 (L' := [(0, .slice aa_ a_.length ca_), (1, .slice ab b.length cb), (5, .int .i64 i1), (26, .bool (!x4))]) ?_ (fun h3 H3 => ?_)
        · refine QRun_b [.slice aa_ a_.length ca_, .int .i64 i1] 0 _ (by kernel_rfl) (fun w => by kernel_rfl) ?_
          refine QRun_y (.pointer (some (adr aa_ (i1.toNat * 4)))) (by kernel_rfl) (Y_cls fun hx Hx => (Y_idx (t := 28) (e := 50) (sz := 4) (a := aa_) (n := a_.length) (cap := ca_) (kk := .i64) (i := i1) (by kernel_rfl) Try.underlying28 (by kernel_rfl) ((ra_.at H1.ext).cell hx1).1 hx1l hx1u)) ?_
          refine QRun_y (.agg #[.int .i64 x2.From, .int .i64 x2.To, .int .i64 x2.Delay, .int .i64 x2.Tokens]) (by kernel_rfl) (Y_cls fun hx Hx => (Y_loadA (t := 50) (n := 4) (p := adr aa_ (i1.toNat * 4)) (cs := [.int .i64 x2.From, .int .i64 x2.To, .int .i64 x2.Delay, .int .i64 x2.Tokens]) (by kernel_rfl) (fun w => by kernel_rfl) (by kernel_rfl) rfl (cd50_elem (ra_.at Hx.ext) hx1))) ?_
          refine QRun_b [.slice ab b.length cb, .int .i64 i1] 4 _ (by kernel_rfl) (fun w => by kernel_rfl) ?_
          refine QRun_y (.pointer (some (adr ab (i1.toNat * 4)))) (by kernel_rfl) (Y_cls fun hx Hx => (Y_idx (t := 28) (e := 50) (sz := 4) (a := ab) (n := b.length) (cap := cb) (kk := .i64) (i := i1) (by kernel_rfl) Try.underlying28 (by kernel_rfl) ((rb.at H1.ext).cell hx2).1 hx2l hx2u)) ?_
          refine QRun_y (.agg #[.int .i64 x3.From, .int .i64 x3.To, .int .i64 x3.Delay, .int .i64 x3.Tokens]) (by kernel_rfl) (Y_cls fun hx Hx => (Y_loadA (t := 50) (n := 4) (p := adr ab (i1.toNat * 4)) (cs := [.int .i64 x3.From, .int .i64 x3.To, .int .i64 x3.Delay, .int .i64 x3.Tokens]) (by kernel_rfl) (fun w => by kernel_rfl) (by kernel_rfl) rfl (cd50_elem (rb.at Hx.ext) hx2))) ?_
          refine QRun_y (.bool x4) (by kernel_rfl) (Y_call (f := 41) (args := #[.agg #[.int .i64 x2.From, .int .i64 x2.To, .int .i64 x2.Delay, .int .i64 x2.Tokens], .agg #[.int .i64 x3.From, .int .i64 x3.To, .int .i64 x3.Delay, .int .i64 x3.Tokens]]) (v := .bool x4) (by kernel_rfl) fun hx Hx => (w_laws_eqPlace hx x2 x3 _ _ hx3).mono fun _ _ ⟨e, H'⟩ => ⟨e, Hx.call H' rfl⟩) ?_
          refine QRun_b [.bool (!x4)] 9 _ (by kernel_rfl) (fun w => by kernel_rfl) ?_
          exact QRun_done [0, 1, 5, 26] (by kernel_rfl) (by kernel_rfl)
        have H4 : Hold h h3 [] := H3
        refine Run_cond (b := !x4) (by kernel_rfl) (fun hb3 => ?_) (fun hb3 => ?_)
        · have hB1 := (M.ite_some hB1).1 hb3
          refine Run_seq ?_
          refine Run_reg 1 (by kernel_rfl) (L' := [(4, .bool false)]) ?_ ?_
          · refine QRun_b [.bool false] 0 _ (by kernel_rfl) (fun w => by kernel_rfl) ?_
            exact QRun_done [4] (by kernel_rfl) (by kernel_rfl)
          have hB1 := M.ret_some hB1
          have gx1 := houty1 _ hB1.symm
          have hF := M.cont_inr' hF gx1
          have hF := M.ret_some hF
          subst hF
          exact Run_ret1 rfl (ResV_tmp (v := .bool false) (by kernel_rfl)) ⟨rfl, H4⟩
        · have hB1 := (M.ite_some hB1).2 hb3
          refine Run_skip ?_
          refine Run_blk ?_
          refine Run_reg 3 (by kernel_rfl) (L' := [(0, .slice aa_ a_.length ca_), (1, .slice ab b.length cb), (5, .int .i64 (i1 + 1))]) ?_ ?_
          · refine QRun_b [.int .i64 i1] 0 _ (by kernel_rfl) (fun w => by kernel_rfl) ?_
            refine QRun_y (.int .i64 (i1 + 1)) (by kernel_rfl) (Y_eq (v := .int .i64 (w64 (i1 + 1))) (Y_pure (fun w => by kernel_rfl)) (by rw [w64_eq _ (by omega)])) ?_
            refine QRun_b [.int .i64 (i1 + 1)] 2 _ (by kernel_rfl) (fun w => by kernel_rfl) ?_
            exact QRun_done [0, 1, 5] (by kernel_rfl) (by kernel_rfl)
          have hB1 := M.ret_some hB1
          have gx1 := hgoy1 _ hB1.symm
          exact Run_again [0, 1, 5] (by kernel_rfl) my1 (Nat.lt_succ_self _) ⟨i1 + 1, (), by omega, gx1, rfl, H4⟩
      · have gx1 := M.for_end gx1 hb2
        subst gx1
        refine Run_exit (k' := _) rfl ?_
        exact Run_fall [] (by kernel_rfl) ⟨(), rfl, rfl, H1⟩

set_option maxRecDepth 100000 in
set_option maxHeartbeats 4000000 in
theorem w_laws_eqEventGraph (h : Heap) (a_ : TGraph) (aa_Places : Option Addr) (ca_Places : Nat) (ra_Places : Rd cd50 h (Lt h) aa_Places ca_Places a_.Places) (b : TGraph) (abPlaces : Option Addr) (cbPlaces : Nat) (rbPlaces : Rd cd50 h (Lt h) abPlaces cbPlaces b.Places) (n : Nat) (r : Bool) (hF : laws_eqEventGraph a_ b n = some r) :
    Fn Try.prog 10 #[.agg #[.int .i64 a_.Events, .slice aa_Places a_.Places.length ca_Places], .agg #[.int .i64 b.Events, .slice abPlaces b.Places.length cbPlaces]] h fun v h' => v = .bool r ∧ Hold h h' [] := by
  unfold laws_eqEventGraph at hF
  refine Fn_enter (args := [.agg #[.int .i64 a_.Events, .slice aa_Places a_.Places.length ca_Places], .agg #[.int .i64 b.Events, .slice abPlaces b.Places.length cbPlaces]]) Try.func10 rfl (by kernel_rfl) (by kernel_rfl) (fun w0 _ => ?_)
  have H0 := Hold.init h
  refine Run_seq ?_
  refine Run_ops ?_
  refine Run_E (by kernel_rfl) ?_
  refine E_box (ty := 30) (cs := [.int .i64 a_.Events, .slice aa_Places a_.Places.length ca_Places]) H0 (fun w => by kernel_rfl) (fun b1 h1 H1 => ?_)
  refine Run_E (by kernel_rfl) ?_
  refine E_box (ty := 30) (cs := [.int .i64 b.Events, .slice abPlaces b.Places.length cbPlaces]) H1 (fun w => by kernel_rfl) (fun b2 h2 H2 => ?_)
  refine Run_b [.bool false] 2 _ (by kernel_rfl) (fun w => by kernel_rfl) ?_
  refine Run_nil (by kernel_rfl) ?_
  refine Run_keep [2, 3] (L' := [(2, .pointer (some ⟨b1, 0, none⟩)), (3, .pointer (some ⟨b2, 0, none⟩))]) (by kernel_rfl) ?_
  refine Run_seq ?_
  refine Run_seq ?_
  refine Run_reg 5 (by kernel_rfl) (L' := [(2, .pointer (some ⟨b1, 0, none⟩)), (3, .pointer (some ⟨b2, 0, none⟩)), (9, .bool (a_.Events != b.Events))]) ?_ ?_
  · refine QRun_b [.pointer (some ⟨b1, 0, none⟩)] 0 _ (by kernel_rfl) (fun w => by kernel_rfl) ?_
    refine QRun_y (.int .i64 a_.Events) (by kernel_rfl) (Y_load1 (t := 2) (p := ⟨b1, 0, none⟩) (v := .int .i64 a_.Events) (by kernel_rfl) (fun w => by kernel_rfl) (H2.cell 1 rfl rfl)) ?_
    refine QRun_b [.pointer (some ⟨b2, 0, none⟩)] 2 _ (by kernel_rfl) (fun w => by kernel_rfl) ?_
    refine QRun_y (.int .i64 b.Events) (by kernel_rfl) (Y_load1 (t := 2) (p := ⟨b2, 0, none⟩) (v := .int .i64 b.Events) (by kernel_rfl) (fun w => by kernel_rfl) (H2.cell 0 rfl rfl)) ?_
    refine QRun_b [.bool (a_.Events != b.Events)] 4 _ (by kernel_rfl) (fun w => by kernel_rfl) ?_
    exact QRun_done [2, 3, 9] (by kernel_rfl) (by kernel_rfl)
  refine Run_cond (b := a_.Events != b.Events) (by kernel_rfl) (fun hb1 => ?_) (fun hb1 => ?_)
  · have hF := (M.ite_some hF).1 hb1
    refine Run_seq ?_
    refine Run_reg 1 (by kernel_rfl) (L' := [(4, .bool false)]) ?_ ?_
    · refine QRun_b [.bool false] 0 _ (by kernel_rfl) (fun w => by kernel_rfl) ?_
      exact QRun_done [4] (by kernel_rfl) (by kernel_rfl)
    have hF := M.ret_some hF
    subst hF
    have H3 : Hold h h2 [] := H2.pick [] (by kernel_rfl)
    exact Run_ret1 rfl (ResV_tmp (v := .bool false) (by kernel_rfl)) ⟨rfl, H3⟩
  · have hF := (M.ite_some hF).2 hb1
    refine Run_skip ?_
    refine Run_seq ?_
    refine Run_seq ?_
    obtain ⟨x1, hx1, hF⟩ := M.bind_some hF
    refine Run_regC (j := 6) (C := fun x => Hold h x [box b2 30 [.int .i64 b.Events, .slice abPlaces b.Places.length cbPlaces], box b1 30 [.int .i64 a_.Events, .slice aa_Places a_.Places.length ca_Places]]) (by kernel_rfl) H2 (L' := [(15, .bool (!x1))]) ?_ (fun h3 H4 => ?_)
    · refine QRun_b [.pointer (some ⟨b1, 1, none⟩)] 0 _ (by kernel_rfl) (fun w => by kernel_rfl) ?_
      refine QRun_y (.slice aa_Places a_.Places.length ca_Places) (by kernel_rfl) (Y_cls fun hx Hx => (Y_load1 (t := 28) (p := ⟨b1, 1, none⟩) (v := .slice aa_Places a_.Places.length ca_Places) (by kernel_rfl) (fun w => by kernel_rfl) (Hx.cell 1 rfl rfl))) ?_
      refine QRun_b [.pointer (some ⟨b2, 1, none⟩)] 2 _ (by kernel_rfl) (fun w => by kernel_rfl) ?_
      refine QRun_y (.slice abPlaces b.Places.length cbPlaces) (by kernel_rfl) (Y_cls fun hx Hx => (Y_load1 (t := 28) (p := ⟨b2, 1, none⟩) (v := .slice abPlaces b.Places.length cbPlaces) (by kernel_rfl) (fun w => by kernel_rfl) (Hx.cell 0 rfl rfl))) ?_
      refine QRun_y (.bool x1) (by kernel_rfl) (Y_call (f := 23) (args := #[.slice aa_Places a_.Places.length ca_Places, .slice abPlaces b.Places.length cbPlaces]) (v := .bool x1) (by kernel_rfl) fun hx Hx => (w_laws_eqPlaceS hx a_.Places aa_Places ca_Places (ra_Places.at Hx.ext) b.Places abPlaces cbPlaces (rbPlaces.at Hx.ext) _ _ hx1).mono fun _ _ ⟨e, H'⟩ => ⟨e, Hx.call H' rfl⟩) ?_
      refine QRun_b [.bool (!x1)] 5 _ (by kernel_rfl) (fun w => by kernel_rfl) ?_
      exact QRun_done [15] (by kernel_rfl) (by kernel_rfl)
    have H5 : Hold h h3 [box b2 30 [.int .i64 b.Events, .slice abPlaces b.Places.length cbPlaces], box b1 30 [.int .i64 a_.Events, .slice aa_Places a_.Places.length ca_Places]] := H4
    refine Run_cond (b := !x1) (by kernel_rfl) (fun hb2 => ?_) (fun hb2 => ?_)
    · have hF := (M.ite_some hF).1 hb2
      refine Run_seq ?_
      refine Run_reg 1 (by kernel_rfl) (L' := [(4, .bool false)]) ?_ ?_
      · refine QRun_b [.bool false] 0 _ (by kernel_rfl) (fun w => by kernel_rfl) ?_
        exact QRun_done [4] (by kernel_rfl) (by kernel_rfl)
      have hF := M.ret_some hF
      subst hF
      have H6 : Hold h h3 [] := H5.pick [] (by kernel_rfl)
      exact Run_ret1 rfl (ResV_tmp (v := .bool false) (by kernel_rfl)) ⟨rfl, H6⟩
    · have hF := (M.ite_some hF).2 hb2
      refine Run_skip ?_
      refine Run_seq ?_
      refine Run_reg 1 (by kernel_rfl) (L' := [(4, .bool true)]) ?_ ?_
      · refine QRun_b [.bool true] 0 _ (by kernel_rfl) (fun w => by kernel_rfl) ?_
        exact QRun_done [4] (by kernel_rfl) (by kernel_rfl)
      have hF := M.ret_some hF
      subst hF
      have H7 : Hold h h3 [] := H5.pick [] (by kernel_rfl)
      exact Run_ret1 rfl (ResV_tmp (v := .bool true) (by kernel_rfl)) ⟨rfl, H7⟩

set_option maxRecDepth 100000 in
set_option maxHeartbeats 4000000 in
theorem w_laws_heldPlaceS (h : Heap) (a_ : List TPlace) {Sa_ : Bs} (aa_ : Option Addr) (ca_ : Nat) (ra_ : Rd cd50 h Sa_ aa_ ca_ a_) (k_ : Int) (n : Nat) (r : Int) (hF : laws_heldPlaceS a_ k_ n = some r) :
    Fn Try.prog 29 #[.slice aa_ a_.length ca_, .int .i64 k_] h fun v h' => v = .int .i64 r ∧ h' = h := by
  unfold laws_heldPlaceS at hF
  refine Fn_enter (args := [.slice aa_ a_.length ca_, .int .i64 k_]) Try.func29 rfl (by kernel_rfl) (by kernel_rfl) (fun w0 _ => ?_)
  refine Run_seq ?_
  refine Run_reg 1 (by kernel_rfl) (L' := [(0, .slice aa_ a_.length ca_), (1, .int .i64 k_)]) ?_ ?_
  · refine QRun_b [.int .i64 0] 0 _ (by kernel_rfl) (fun w => by kernel_rfl) ?_
    exact QRun_done [0, 1] (by kernel_rfl) (by kernel_rfl)
  refine Run_seq ?_
  refine Run_seq ?_
  refine Run_reg 1 (by kernel_rfl) (L' := [(0, .slice aa_ a_.length ca_), (1, .int .i64 k_), (5, .int .i64 0)]) ?_ ?_
  · refine QRun_b [.int .i64 0] 0 _ (by kernel_rfl) (fun w => by kernel_rfl) ?_
    exact QRun_done [0, 1, 5] (by kernel_rfl) (by kernel_rfl)
  obtain ⟨x1, gx1, hF⟩ := M.bind_some hF
  obtain ⟨hloy1, hhiy1, gx1⟩ := M.for_start gx1
  refine Run_join (fun L' h' => ∃ (s2 : Int), x1 = .inl s2 ∧ L' = [(1, .int .i64 s2)] ∧ h = h') ?_ ?_
  · rintro _ _ ⟨s2, es2, rfl, rfl⟩
    have hF := M.cont_inl' hF es2
    refine Run_seq ?_
    refine Run_reg 2 (by kernel_rfl) (L' := [(4, .int .i64 s2)]) ?_ ?_
    · refine QRun_b [.int .i64 s2, .int .i64 s2] 0 _ (by kernel_rfl) (fun w => by kernel_rfl) ?_
      exact QRun_done [4] (by kernel_rfl) (by kernel_rfl)
    have hF := M.ret_some hF
    subst hF
    exact Run_ret1 rfl (ResV_tmp (v := .int .i64 s2) (by kernel_rfl)) ⟨rfl, rfl⟩
  · refine Run_block ?_
    refine Run_keep [0, 1, 5] (L' := [(0, .slice aa_ a_.length ca_), (1, .int .i64 k_), (5, .int .i64 0)]) (by kernel_rfl) ?_
    refine Run_loop (fun m L' h' => ∃ (i1 : Int) (s1 : Int), 0 ≤ i1 ∧ M.forN (a_.length : Int) _ _ n m i1 s1 = some x1 ∧ L' = [(0, .slice aa_ a_.length ca_), (1, .int .i64 s1), (5, .int .i64 i1)] ∧ h = h') ((a_.length : Int) - 0 : Int).toNat ⟨0, k_, Int.le_refl _, gx1, rfl, rfl⟩ ?_
    rintro my1 _ _ ⟨i1, s1, hloy1', gx1, rfl, rfl⟩
    refine Run_seq ?_
    refine Run_seq ?_
    refine Run_reg 4 (by kernel_rfl) (L' := [(0, .slice aa_ a_.length ca_), (1, .int .i64 s1), (5, .int .i64 i1), (9, .bool (decide (i1 < (a_.length : Int))))]) ?_ ?_
    · refine QRun_b [.int .i64 i1, .slice aa_ a_.length ca_, .int .i64 (a_.length : Int), .bool (decide (i1 < (a_.length : Int)))] 0 _ (by kernel_rfl) (fun w => by kernel_rfl) ?_
      exact QRun_done [0, 1, 5, 9] (by kernel_rfl) (by kernel_rfl)
    refine Run_cond (b := decide (i1 < (a_.length : Int))) (by kernel_rfl) (fun hb1 => ?_) (fun hb1 => ?_)
    · obtain ⟨my1, y1, rfl, hB1, hgoy1, houty1⟩ := M.for_go gx1 hb1
      have hlty1 := of_decide_eq_true hb1
      refine Run_skip ?_
      refine Run_seq ?_
      refine Run_block ?_
      refine Run_seq ?_
      refine Run_seq ?_
      obtain ⟨x2, hx1, hB1⟩ := M.bind_some hB1
      obtain ⟨hx1l, hx1u, hx1⟩ := M.idx_some hx1
      refine Run_reg 7 (by kernel_rfl) (L' := [(0, .slice aa_ a_.length ca_), (1, .int .i64 s1), (5, .int .i64 i1), (18, .bool (x2.From != s1))]) ?_ ?_
      · refine QRun_b [.slice aa_ a_.length ca_, .int .i64 i1] 0 _ (by kernel_rfl) (fun w => by kernel_rfl) ?_
        refine QRun_y (.pointer (some (adr aa_ (i1.toNat * 4)))) (by kernel_rfl) (Y_idx (t := 28) (e := 50) (sz := 4) (a := aa_) (n := a_.length) (cap := ca_) (kk := .i64) (i := i1) (by kernel_rfl) Try.underlying28 (by kernel_rfl) (ra_.cell hx1).1 hx1l hx1u) ?_
        refine QRun_b [.pointer (some ((adr aa_ (i1.toNat * 4)).add 0))] 3 _ (by kernel_rfl) (fun w => by kernel_rfl) ?_
        refine QRun_y (.int .i64 x2.From) (by kernel_rfl) (Y_load1 (t := 2) (p := (adr aa_ (i1.toNat * 4)).add 0) (v := .int .i64 x2.From) (by kernel_rfl) (fun w => by kernel_rfl) (cd50_f0 ra_ hx1)) ?_
        refine QRun_b [.int .i64 s1, .bool (x2.From != s1)] 5 _ (by kernel_rfl) (fun w => by kernel_rfl) ?_
        exact QRun_done [0, 1, 5, 18] (by kernel_rfl) (by kernel_rfl)
      refine Run_cond (b := x2.From != s1) (by kernel_rfl) (fun hb2 => ?_) (fun hb2 => ?_)
      · have hB1 := (M.ite_some hB1).1 hb2
        refine Run_seq ?_
        refine Run_reg 1 (by kernel_rfl) (L' := [(4, .int .i64 (-1))]) ?_ ?_
        · refine QRun_b [.int .i64 (-1)] 0 _ (by kernel_rfl) (fun w => by kernel_rfl) ?_
          exact QRun_done [4] (by kernel_rfl) (by kernel_rfl)
        have hB1 := M.ret_some hB1
        have gx1 := houty1 _ hB1.symm
        have hF := M.cont_inr' hF gx1
        have hF := M.ret_some hF
        subst hF
        exact Run_ret1 rfl (ResV_tmp (v := .int .i64 (-1)) (by kernel_rfl)) ⟨rfl, rfl⟩
      · have hB1 := (M.ite_some hB1).2 hb2
        refine Run_skip ?_
        refine Run_seq ?_
        refine Run_reg 3 (by kernel_rfl) (L' := [(0, .slice aa_ a_.length ca_), (1, .int .i64 (w64 (s1 + 1))), (5, .int .i64 i1)]) ?_ ?_
        · refine QRun_b [.int .i64 s1, .int .i64 (w64 (s1 + 1)), .int .i64 (w64 (s1 + 1))] 0 _ (by kernel_rfl) (fun w => by kernel_rfl) ?_
          exact QRun_done [0, 1, 5] (by kernel_rfl) (by kernel_rfl)
        refine Run_seq ?_
        refine Run_seq ?_
        obtain ⟨x3, hx2, hB1⟩ := M.bind_some hB1
        obtain ⟨hx2l, hx2u, hx2⟩ := M.idx_some hx2
        refine Run_reg 7 (by kernel_rfl) (L' := [(0, .slice aa_ a_.length ca_), (1, .int .i64 (w64 (s1 + 1))), (5, .int .i64 i1), (27, .bool (x3.To != (w64 (s1 + 1))))]) ?_ ?_
        · refine QRun_b [.slice aa_ a_.length ca_, .int .i64 i1] 0 _ (by kernel_rfl) (fun w => by kernel_rfl) ?_
          refine QRun_y (.pointer (some (adr aa_ (i1.toNat * 4)))) (by kernel_rfl) (Y_idx (t := 28) (e := 50) (sz := 4) (a := aa_) (n := a_.length) (cap := ca_) (kk := .i64) (i := i1) (by kernel_rfl) Try.underlying28 (by kernel_rfl) (ra_.cell hx2).1 hx2l hx2u) ?_
          refine QRun_b [.pointer (some ((adr aa_ (i1.toNat * 4)).add 1))] 3 _ (by kernel_rfl) (fun w => by kernel_rfl) ?_
          refine QRun_y (.int .i64 x3.To) (by kernel_rfl) (Y_load1 (t := 2) (p := (adr aa_ (i1.toNat * 4)).add 1) (v := .int .i64 x3.To) (by kernel_rfl) (fun w => by kernel_rfl) (cd50_f1 ra_ hx2)) ?_
          refine QRun_b [.int .i64 (w64 (s1 + 1)), .bool (x3.To != (w64 (s1 + 1)))] 5 _ (by kernel_rfl) (fun w => by kernel_rfl) ?_
          exact QRun_done [0, 1, 5, 27] (by kernel_rfl) (by kernel_rfl)
        refine Run_cond (b := x3.To != (w64 (s1 + 1))) (by kernel_rfl) (fun hb3 => ?_) (fun hb3 => ?_)
        · have hB1 := (M.ite_some hB1).1 hb3
          refine Run_seq ?_
          refine Run_reg 1 (by kernel_rfl) (L' := [(4, .int .i64 (-1))]) ?_ ?_
          · refine QRun_b [.int .i64 (-1)] 0 _ (by kernel_rfl) (fun w => by kernel_rfl) ?_
            exact QRun_done [4] (by kernel_rfl) (by kernel_rfl)
          have hB1 := M.ret_some hB1
          have gx1 := houty1 _ hB1.symm
          have hF := M.cont_inr' hF gx1
          have hF := M.ret_some hF
          subst hF
          exact Run_ret1 rfl (ResV_tmp (v := .int .i64 (-1)) (by kernel_rfl)) ⟨rfl, rfl⟩
        · have hB1 := (M.ite_some hB1).2 hb3
          refine Run_skip ?_
          refine Run_seq ?_
          refine Run_reg 3 (by kernel_rfl) (L' := [(0, .slice aa_ a_.length ca_), (1, .int .i64 (w64 ((w64 (s1 + 1)) + 1))), (5, .int .i64 i1)]) ?_ ?_
          · refine QRun_b [.int .i64 (w64 (s1 + 1)), .int .i64 (w64 ((w64 (s1 + 1)) + 1)), .int .i64 (w64 ((w64 (s1 + 1)) + 1))] 0 _ (by kernel_rfl) (fun w => by kernel_rfl) ?_
            exact QRun_done [0, 1, 5] (by kernel_rfl) (by kernel_rfl)
          refine Run_seq ?_
          refine Run_seq ?_
          obtain ⟨x4, hx3, hB1⟩ := M.bind_some hB1
          obtain ⟨hx3l, hx3u, hx3⟩ := M.idx_some hx3
          refine Run_reg 7 (by kernel_rfl) (L' := [(0, .slice aa_ a_.length ca_), (1, .int .i64 (w64 ((w64 (s1 + 1)) + 1))), (5, .int .i64 i1), (36, .bool (x4.Delay != (w64 ((w64 (s1 + 1)) + 1))))]) ?_ ?_
          · refine QRun_b [.slice aa_ a_.length ca_, .int .i64 i1] 0 _ (by kernel_rfl) (fun w => by kernel_rfl) ?_
            refine QRun_y (.pointer (some (adr aa_ (i1.toNat * 4)))) (by kernel_rfl) (Y_idx (t := 28) (e := 50) (sz := 4) (a := aa_) (n := a_.length) (cap := ca_) (kk := .i64) (i := i1) (by kernel_rfl) Try.underlying28 (by kernel_rfl) (ra_.cell hx3).1 hx3l hx3u) ?_
            refine QRun_b [.pointer (some ((adr aa_ (i1.toNat * 4)).add 2))] 3 _ (by kernel_rfl) (fun w => by kernel_rfl) ?_
            refine QRun_y (.int .i64 x4.Delay) (by kernel_rfl) (Y_load1 (t := 2) (p := (adr aa_ (i1.toNat * 4)).add 2) (v := .int .i64 x4.Delay) (by kernel_rfl) (fun w => by kernel_rfl) (cd50_f2 ra_ hx3)) ?_
            refine QRun_b [.int .i64 (w64 ((w64 (s1 + 1)) + 1)), .bool (x4.Delay != (w64 ((w64 (s1 + 1)) + 1)))] 5 _ (by kernel_rfl) (fun w => by kernel_rfl) ?_
            exact QRun_done [0, 1, 5, 36] (by kernel_rfl) (by kernel_rfl)
          refine Run_cond (b := x4.Delay != (w64 ((w64 (s1 + 1)) + 1))) (by kernel_rfl) (fun hb4 => ?_) (fun hb4 => ?_)
          · have hB1 := (M.ite_some hB1).1 hb4
            refine Run_seq ?_
            refine Run_reg 1 (by kernel_rfl) (L' := [(4, .int .i64 (-1))]) ?_ ?_
            · refine QRun_b [.int .i64 (-1)] 0 _ (by kernel_rfl) (fun w => by kernel_rfl) ?_
              exact QRun_done [4] (by kernel_rfl) (by kernel_rfl)
            have hB1 := M.ret_some hB1
            have gx1 := houty1 _ hB1.symm
            have hF := M.cont_inr' hF gx1
            have hF := M.ret_some hF
            subst hF
            exact Run_ret1 rfl (ResV_tmp (v := .int .i64 (-1)) (by kernel_rfl)) ⟨rfl, rfl⟩
          · have hB1 := (M.ite_some hB1).2 hb4
            refine Run_skip ?_
            refine Run_seq ?_
            refine Run_reg 3 (by kernel_rfl) (L' := [(0, .slice aa_ a_.length ca_), (1, .int .i64 (w64 ((w64 ((w64 (s1 + 1)) + 1)) + 1))), (5, .int .i64 i1)]) ?_ ?_
            · refine QRun_b [.int .i64 (w64 ((w64 (s1 + 1)) + 1)), .int .i64 (w64 ((w64 ((w64 (s1 + 1)) + 1)) + 1)), .int .i64 (w64 ((w64 ((w64 (s1 + 1)) + 1)) + 1))] 0 _ (by kernel_rfl) (fun w => by kernel_rfl) ?_
              exact QRun_done [0, 1, 5] (by kernel_rfl) (by kernel_rfl)
            refine Run_seq ?_
            refine Run_seq ?_
            obtain ⟨x5, hx4, hB1⟩ := M.bind_some hB1
            obtain ⟨hx4l, hx4u, hx4⟩ := M.idx_some hx4
            refine Run_reg 7 (by kernel_rfl) (L' := [(0, .slice aa_ a_.length ca_), (1, .int .i64 (w64 ((w64 ((w64 (s1 + 1)) + 1)) + 1))), (5, .int .i64 i1), (45, .bool (x5.Tokens != (w64 ((w64 ((w64 (s1 + 1)) + 1)) + 1))))]) ?_ ?_
            · refine QRun_b [.slice aa_ a_.length ca_, .int .i64 i1] 0 _ (by kernel_rfl) (fun w => by kernel_rfl) ?_
              refine QRun_y (.pointer (some (adr aa_ (i1.toNat * 4)))) (by kernel_rfl) (Y_idx (t := 28) (e := 50) (sz := 4) (a := aa_) (n := a_.length) (cap := ca_) (kk := .i64) (i := i1) (by kernel_rfl) Try.underlying28 (by kernel_rfl) (ra_.cell hx4).1 hx4l hx4u) ?_
              refine QRun_b [.pointer (some ((adr aa_ (i1.toNat * 4)).add 3))] 3 _ (by kernel_rfl) (fun w => by kernel_rfl) ?_
              refine QRun_y (.int .i64 x5.Tokens) (by kernel_rfl) (Y_load1 (t := 2) (p := (adr aa_ (i1.toNat * 4)).add 3) (v := .int .i64 x5.Tokens) (by kernel_rfl) (fun w => by kernel_rfl) (cd50_f3 ra_ hx4)) ?_
              refine QRun_b [.int .i64 (w64 ((w64 ((w64 (s1 + 1)) + 1)) + 1)), .bool (x5.Tokens != (w64 ((w64 ((w64 (s1 + 1)) + 1)) + 1)))] 5 _ (by kernel_rfl) (fun w => by kernel_rfl) ?_
              exact QRun_done [0, 1, 5, 45] (by kernel_rfl) (by kernel_rfl)
            refine Run_cond (b := x5.Tokens != (w64 ((w64 ((w64 (s1 + 1)) + 1)) + 1))) (by kernel_rfl) (fun hb5 => ?_) (fun hb5 => ?_)
            · have hB1 := (M.ite_some hB1).1 hb5
              refine Run_seq ?_
              refine Run_reg 1 (by kernel_rfl) (L' := [(4, .int .i64 (-1))]) ?_ ?_
              · refine QRun_b [.int .i64 (-1)] 0 _ (by kernel_rfl) (fun w => by kernel_rfl) ?_
                exact QRun_done [4] (by kernel_rfl) (by kernel_rfl)
              have hB1 := M.ret_some hB1
              have gx1 := houty1 _ hB1.symm
              have hF := M.cont_inr' hF gx1
              have hF := M.ret_some hF
              subst hF
              exact Run_ret1 rfl (ResV_tmp (v := .int .i64 (-1)) (by kernel_rfl)) ⟨rfl, rfl⟩
            · have hB1 := (M.ite_some hB1).2 hb5
              refine Run_skip ?_
              refine Run_reg 3 (by kernel_rfl) (L' := [(0, .slice aa_ a_.length ca_), (1, .int .i64 (w64 ((w64 ((w64 ((w64 (s1 + 1)) + 1)) + 1)) + 1))), (5, .int .i64 i1)]) ?_ ?_
              · refine QRun_b [.int .i64 (w64 ((w64 ((w64 (s1 + 1)) + 1)) + 1)), .int .i64 (w64 ((w64 ((w64 ((w64 (s1 + 1)) + 1)) + 1)) + 1)), .int .i64 (w64 ((w64 ((w64 ((w64 (s1 + 1)) + 1)) + 1)) + 1))] 0 _ (by kernel_rfl) (fun w => by kernel_rfl) ?_
                exact QRun_done [0, 1, 5] (by kernel_rfl) (by kernel_rfl)
              refine Run_blk ?_
              refine Run_reg 3 (by kernel_rfl) (L' := [(0, .slice aa_ a_.length ca_), (1, .int .i64 (w64 ((w64 ((w64 ((w64 (s1 + 1)) + 1)) + 1)) + 1))), (5, .int .i64 (i1 + 1))]) ?_ ?_
              · refine QRun_b [.int .i64 i1] 0 _ (by kernel_rfl) (fun w => by kernel_rfl) ?_
                refine QRun_y (.int .i64 (i1 + 1)) (by kernel_rfl) (Y_eq (v := .int .i64 (w64 (i1 + 1))) (Y_pure (fun w => by kernel_rfl)) (by rw [w64_eq _ (by omega)])) ?_
                refine QRun_b [.int .i64 (i1 + 1)] 2 _ (by kernel_rfl) (fun w => by kernel_rfl) ?_
                exact QRun_done [0, 1, 5] (by kernel_rfl) (by kernel_rfl)
              have hB1 := M.ret_some hB1
              have gx1 := hgoy1 _ hB1.symm
              exact Run_again [0, 1, 5] (by kernel_rfl) my1 (Nat.lt_succ_self _) ⟨i1 + 1, (w64 ((w64 ((w64 ((w64 (s1 + 1)) + 1)) + 1)) + 1)), by omega, gx1, rfl, rfl⟩
    · have gx1 := M.for_end gx1 hb1
      subst gx1
      refine Run_exit (k' := _) rfl ?_
      exact Run_fall [1] (by kernel_rfl) ⟨s1, rfl, rfl, rfl⟩

set_option maxRecDepth 100000 in
set_option maxHeartbeats 4000000 in
theorem w_laws_heldEventGraph (h : Heap) (a_ : TGraph) (aa_Places : Option Addr) (ca_Places : Nat) (ra_Places : Rd cd50 h (Lt h) aa_Places ca_Places a_.Places) (k_ : Int) (n : Nat) (r : Int) (hF : laws_heldEventGraph a_ k_ n = some r) :
    Fn Try.prog 14 #[.agg #[.int .i64 a_.Events, .slice aa_Places a_.Places.length ca_Places], .int .i64 k_] h fun v h' => v = .int .i64 r ∧ Hold h h' [] := by
  unfold laws_heldEventGraph at hF
  refine Fn_enter (args := [.agg #[.int .i64 a_.Events, .slice aa_Places a_.Places.length ca_Places], .int .i64 k_]) Try.func14 rfl (by kernel_rfl) (by kernel_rfl) (fun w0 _ => ?_)
  have H0 := Hold.init h
  refine Run_seq ?_
  refine Run_ops ?_
  refine Run_E (by kernel_rfl) ?_
  refine E_box (ty := 30) (cs := [.int .i64 a_.Events, .slice aa_Places a_.Places.length ca_Places]) H0 (fun w => by kernel_rfl) (fun b1 h1 H1 => ?_)
  refine Run_b [.int .i64 0] 1 _ (by kernel_rfl) (fun w => by kernel_rfl) ?_
  refine Run_nil (by kernel_rfl) ?_
  refine Run_keep [1, 2] (L' := [(1, .int .i64 k_), (2, .pointer (some ⟨b1, 0, none⟩))]) (by kernel_rfl) ?_
  refine Run_seq ?_
  obtain ⟨x1, hx1, hF⟩ := M.bind_some hF
  refine Run_reg 5 (by kernel_rfl) (L' := [(1, .int .i64 x1)]) ?_ ?_
  · refine QRun_b [.pointer (some ⟨b1, 1, none⟩)] 0 _ (by kernel_rfl) (fun w => by kernel_rfl) ?_
    refine QRun_y (.slice aa_Places a_.Places.length ca_Places) (by kernel_rfl) (Y_load1 (t := 28) (p := ⟨b1, 1, none⟩) (v := .slice aa_Places a_.Places.length ca_Places) (by kernel_rfl) (fun w => by kernel_rfl) (H1.cell 0 rfl rfl)) ?_
    refine QRun_b [.int .i64 k_] 2 _ (by kernel_rfl) (fun w => by kernel_rfl) ?_
    refine QRun_y (.int .i64 x1) (by kernel_rfl) (Y_callq (f := 29) (args := #[.slice aa_Places a_.Places.length ca_Places, .int .i64 k_]) (v := .int .i64 x1) (by kernel_rfl) (w_laws_heldPlaceS h1 a_.Places aa_Places ca_Places (ra_Places.at H1.ext) k_ _ _ hx1)) ?_
    refine QRun_b [.int .i64 x1] 4 _ (by kernel_rfl) (fun w => by kernel_rfl) ?_
    exact QRun_done [1] (by kernel_rfl) (by kernel_rfl)
  refine Run_seq ?_
  refine Run_seq ?_
  refine Run_reg 2 (by kernel_rfl) (L' := [(1, .int .i64 x1), (10, .bool (decide (x1 < 0)))]) ?_ ?_
  · refine QRun_b [.int .i64 x1, .bool (decide (x1 < 0))] 0 _ (by kernel_rfl) (fun w => by kernel_rfl) ?_
    exact QRun_done [1, 10] (by kernel_rfl) (by kernel_rfl)
  refine Run_cond (b := decide (x1 < 0)) (by kernel_rfl) (fun hb1 => ?_) (fun hb1 => ?_)
  · have hF := (M.ite_some hF).1 hb1
    refine Run_seq ?_
    refine Run_reg 1 (by kernel_rfl) (L' := [(4, .int .i64 (-1))]) ?_ ?_
    · refine QRun_b [.int .i64 (-1)] 0 _ (by kernel_rfl) (fun w => by kernel_rfl) ?_
      exact QRun_done [4] (by kernel_rfl) (by kernel_rfl)
    have hF := M.ret_some hF
    subst hF
    have H2 : Hold h h1 [] := H1.pick [] (by kernel_rfl)
    exact Run_ret1 rfl (ResV_tmp (v := .int .i64 (-1)) (by kernel_rfl)) ⟨rfl, H2⟩
  · have hF := (M.ite_some hF).2 hb1
    refine Run_skip ?_
    refine Run_seq ?_
    refine Run_reg 2 (by kernel_rfl) (L' := [(4, .int .i64 x1)]) ?_ ?_
    · refine QRun_b [.int .i64 x1, .int .i64 x1] 0 _ (by kernel_rfl) (fun w => by kernel_rfl) ?_
      exact QRun_done [4] (by kernel_rfl) (by kernel_rfl)
    have hF := M.ret_some hF
    subst hF
    have H3 : Hold h h1 [] := H1.pick [] (by kernel_rfl)
    exact Run_ret1 rfl (ResV_tmp (v := .int .i64 x1) (by kernel_rfl)) ⟨rfl, H3⟩

set_option maxRecDepth 100000 in
set_option maxHeartbeats 4000000 in
theorem w_laws_markPlaceS (h hE : Heap) (it : Item) (a_ : List TPlace) (aa_ : Option Addr) (ca_ : Nat) (k_ : Int) (HM : Hold h hE [own cd50 aa_ a_.length ca_ a_, it]) (n : Nat) (r : Int × (List TPlace)) (hF : laws_markPlaceS a_ k_ n = some r) :
    Fn Try.prog 28 #[.slice aa_ a_.length ca_, .int .i64 k_] hE fun v h' => v = .int .i64 r.1 ∧ Hold h h' [own cd50 aa_ a_.length ca_ r.2, it] := by
  unfold laws_markPlaceS at hF
  refine Fn_enter (args := [.slice aa_ a_.length ca_, .int .i64 k_]) Try.func28 rfl (by kernel_rfl) (by kernel_rfl) (fun w0 _ => ?_)
  refine Run_seq ?_
  refine Run_reg 1 (by kernel_rfl) (L' := [(0, .slice aa_ a_.length ca_), (1, .int .i64 k_)]) ?_ ?_
  · refine QRun_b [.int .i64 0] 0 _ (by kernel_rfl) (fun w => by kernel_rfl) ?_
    exact QRun_done [0, 1] (by kernel_rfl) (by kernel_rfl)
  refine Run_seq ?_
  refine Run_seq ?_
  refine Run_reg 1 (by kernel_rfl) (L' := [(0, .slice aa_ a_.length ca_), (1, .int .i64 k_), (5, .int .i64 0)]) ?_ ?_
  · refine QRun_b [.int .i64 0] 0 _ (by kernel_rfl) (fun w => by kernel_rfl) ?_
    exact QRun_done [0, 1, 5] (by kernel_rfl) (by kernel_rfl)
  obtain ⟨x1, gx1, hF⟩ := M.bind_some hF
  obtain ⟨hloy1, hhiy1, gx1⟩ := M.for_start gx1
  refine Run_join (fun L' h' => L' = [(1, .int .i64 x1.2)] ∧ Hold h h' [own cd50 aa_ a_.length ca_ x1.1, it]) ?_ ?_
  · rintro _ h2 ⟨rfl, H2⟩
    refine Run_seq ?_
    refine Run_reg 2 (by kernel_rfl) (L' := [(4, .int .i64 x1.2)]) ?_ ?_
    · refine QRun_b [.int .i64 x1.2, .int .i64 x1.2] 0 _ (by kernel_rfl) (fun w => by kernel_rfl) ?_
      exact QRun_done [4] (by kernel_rfl) (by kernel_rfl)
    have hF := M.ret_some hF
    subst hF
    exact Run_ret1 rfl (ResV_tmp (v := .int .i64 x1.2) (by kernel_rfl)) ⟨rfl, H2⟩
  · refine Run_block ?_
    refine Run_keep [0, 1, 5] (L' := [(0, .slice aa_ a_.length ca_), (1, .int .i64 k_), (5, .int .i64 0)]) (by kernel_rfl) ?_
    refine Run_loop (fun m L' h' => ∃ (i1 : Int) (s1 : (List TPlace) × Int), 0 ≤ i1 ∧ M.forN (a_.length : Int) _ _ n m i1 s1 = some x1 ∧ L' = [(0, .slice aa_ a_.length ca_), (1, .int .i64 s1.2), (5, .int .i64 i1)] ∧ Hold h h' [own cd50 aa_ a_.length ca_ s1.1, it]) ((a_.length : Int) - 0 : Int).toNat ⟨0, (a_, k_), Int.le_refl _, gx1, rfl, HM⟩ ?_
    rintro my1 _ h1 ⟨i1, s1, hloy1', gx1, rfl, H1⟩
    refine Run_seq ?_
    refine Run_seq ?_
    refine Run_reg 4 (by kernel_rfl) (L' := [(0, .slice aa_ a_.length ca_), (1, .int .i64 s1.2), (5, .int .i64 i1), (9, .bool (decide (i1 < (a_.length : Int))))]) ?_ ?_
    · refine QRun_b [.int .i64 i1, .slice aa_ a_.length ca_, .int .i64 (a_.length : Int), .bool (decide (i1 < (a_.length : Int)))] 0 _ (by kernel_rfl) (fun w => by kernel_rfl) ?_
      exact QRun_done [0, 1, 5, 9] (by kernel_rfl) (by kernel_rfl)
    refine Run_cond (b := decide (i1 < (a_.length : Int))) (by kernel_rfl) (fun hb1 => ?_) (fun hb1 => ?_)
    · obtain ⟨my1, y1, rfl, hB1, hgoy1, houty1⟩ := M.for_go gx1 hb1
      have hlty1 := of_decide_eq_true hb1
      refine Run_skip ?_
      refine Run_seq ?_
      refine Run_block ?_
      refine Run_seq ?_
      refine Run_ops ?_
      obtain ⟨x2, hx1, hB1⟩ := M.bind_some hB1
      obtain ⟨hx1l, hx1u, hx1⟩ := M.idx_some hx1
      refine Run_b [.slice aa_ a_.length ca_, .int .i64 i1, .int .i64 s1.2] 0 _ (by kernel_rfl) (fun w => by kernel_rfl) ?_
      refine Run_y (.pointer (some (adr aa_ (i1.toNat * 4)))) (by kernel_rfl) (Y_idx (t := 28) (e := 50) (sz := 4) (a := aa_) (n := a_.length) (cap := ca_) (kk := .i64) (i := i1) (by kernel_rfl) Try.underlying28 (by kernel_rfl) ((H1.rd 0 rfl).cell hx1).1 hx1l (by rw [← (H1.len 0 rfl)]; exact hx1u)) ?_
      refine Run_b [.pointer (some ((adr aa_ (i1.toNat * 4)).add 0))] 4 _ (by kernel_rfl) (fun w => by kernel_rfl) ?_
      obtain ⟨l1, hu1, hB1⟩ := M.bind_some hB1
      have hu1 := M.upd_some hu1
      refine Run_E (by kernel_rfl) ?_
      refine E_putF (C := cd50) (t := 2) (sz := 4) (f := 0) (j := i1) (y := x2) (y' := (⟨s1.2, x2.To, x2.Delay, x2.Tokens⟩ : TPlace)) (v := .int .i64 s1.2) H1 (by kernel_rfl) rfl (by kernel_rfl) rfl rfl (fun _ vs G o => by obtain ⟨rfl, rfl⟩ := o; exact ⟨rfl, rfl⟩) (by kernel_rfl) hx1 hu1 (fun h3 H3 => ?_)
      refine Run_nil (by kernel_rfl) ?_
      refine Run_keep [0, 1, 5] (L' := [(0, .slice aa_ a_.length ca_), (1, .int .i64 s1.2), (5, .int .i64 i1)]) (by kernel_rfl) ?_
      refine Run_seq ?_
      refine Run_reg 3 (by kernel_rfl) (L' := [(0, .slice aa_ a_.length ca_), (1, .int .i64 (w64 (s1.2 + 1))), (5, .int .i64 i1)]) ?_ ?_
      · refine QRun_b [.int .i64 s1.2, .int .i64 (w64 (s1.2 + 1)), .int .i64 (w64 (s1.2 + 1))] 0 _ (by kernel_rfl) (fun w => by kernel_rfl) ?_
        exact QRun_done [0, 1, 5] (by kernel_rfl) (by kernel_rfl)
      refine Run_seq ?_
      refine Run_ops ?_
      obtain ⟨x3, hx2, hB1⟩ := M.bind_some hB1
      obtain ⟨hx2l, hx2u, hx2⟩ := M.idx_some hx2
      refine Run_b [.slice aa_ a_.length ca_, .int .i64 i1, .int .i64 (w64 (s1.2 + 1))] 0 _ (by kernel_rfl) (fun w => by kernel_rfl) ?_
      refine Run_y (.pointer (some (adr aa_ (i1.toNat * 4)))) (by kernel_rfl) (Y_idx (t := 28) (e := 50) (sz := 4) (a := aa_) (n := a_.length) (cap := ca_) (kk := .i64) (i := i1) (by kernel_rfl) Try.underlying28 (by kernel_rfl) ((H3.rd 0 rfl).cell hx2).1 hx2l (by rw [← (H3.len 0 rfl)]; exact hx2u)) ?_
      refine Run_b [.pointer (some ((adr aa_ (i1.toNat * 4)).add 1))] 4 _ (by kernel_rfl) (fun w => by kernel_rfl) ?_
      obtain ⟨l2, hu2, hB1⟩ := M.bind_some hB1
      have hu2 := M.upd_some hu2
      refine Run_E (by kernel_rfl) ?_
      refine E_putF (C := cd50) (t := 2) (sz := 4) (f := 1) (j := i1) (y := x3) (y' := (⟨x3.From, (w64 (s1.2 + 1)), x3.Delay, x3.Tokens⟩ : TPlace)) (v := .int .i64 (w64 (s1.2 + 1))) H3 (by kernel_rfl) rfl (by kernel_rfl) rfl rfl (fun _ vs G o => by obtain ⟨rfl, rfl⟩ := o; exact ⟨rfl, rfl⟩) (by kernel_rfl) hx2 hu2 (fun h4 H4 => ?_)
      refine Run_nil (by kernel_rfl) ?_
      refine Run_keep [0, 1, 5] (L' := [(0, .slice aa_ a_.length ca_), (1, .int .i64 (w64 (s1.2 + 1))), (5, .int .i64 i1)]) (by kernel_rfl) ?_
      refine Run_seq ?_
      refine Run_reg 3 (by kernel_rfl) (L' := [(0, .slice aa_ a_.length ca_), (1, .int .i64 (w64 ((w64 (s1.2 + 1)) + 1))), (5, .int .i64 i1)]) ?_ ?_
      · refine QRun_b [.int .i64 (w64 (s1.2 + 1)), .int .i64 (w64 ((w64 (s1.2 + 1)) + 1)), .int .i64 (w64 ((w64 (s1.2 + 1)) + 1))] 0 _ (by kernel_rfl) (fun w => by kernel_rfl) ?_
        exact QRun_done [0, 1, 5] (by kernel_rfl) (by kernel_rfl)
      refine Run_seq ?_
      refine Run_ops ?_
      obtain ⟨x4, hx3, hB1⟩ := M.bind_some hB1
      obtain ⟨hx3l, hx3u, hx3⟩ := M.idx_some hx3
      refine Run_b [.slice aa_ a_.length ca_, .int .i64 i1, .int .i64 (w64 ((w64 (s1.2 + 1)) + 1))] 0 _ (by kernel_rfl) (fun w => by kernel_rfl) ?_
      refine Run_y (.pointer (some (adr aa_ (i1.toNat * 4)))) (by kernel_rfl) (Y_idx (t := 28) (e := 50) (sz := 4) (a := aa_) (n := a_.length) (cap := ca_) (kk := .i64) (i := i1) (by kernel_rfl) Try.underlying28 (by kernel_rfl) ((H4.rd 0 rfl).cell hx3).1 hx3l (by rw [← (H4.len 0 rfl)]; exact hx3u)) ?_
      refine Run_b [.pointer (some ((adr aa_ (i1.toNat * 4)).add 2))] 4 _ (by kernel_rfl) (fun w => by kernel_rfl) ?_
      obtain ⟨l3, hu3, hB1⟩ := M.bind_some hB1
      have hu3 := M.upd_some hu3
      refine Run_E (by kernel_rfl) ?_
      refine E_putF (C := cd50) (t := 2) (sz := 4) (f := 2) (j := i1) (y := x4) (y' := (⟨x4.From, x4.To, (w64 ((w64 (s1.2 + 1)) + 1)), x4.Tokens⟩ : TPlace)) (v := .int .i64 (w64 ((w64 (s1.2 + 1)) + 1))) H4 (by kernel_rfl) rfl (by kernel_rfl) rfl rfl (fun _ vs G o => by obtain ⟨rfl, rfl⟩ := o; exact ⟨rfl, rfl⟩) (by kernel_rfl) hx3 hu3 (fun h5 H5 => ?_)
      refine Run_nil (by kernel_rfl) ?_
      refine Run_keep [0, 1, 5] (L' := [(0, .slice aa_ a_.length ca_), (1, .int .i64 (w64 ((w64 (s1.2 + 1)) + 1))), (5, .int .i64 i1)]) (by kernel_rfl) ?_
      refine Run_seq ?_
      refine Run_reg 3 (by kernel_rfl) (L' := [(0, .slice aa_ a_.length ca_), (1, .int .i64 (w64 ((w64 ((w64 (s1.2 + 1)) + 1)) + 1))), (5, .int .i64 i1)]) ?_ ?_
      · refine QRun_b [.int .i64 (w64 ((w64 (s1.2 + 1)) + 1)), .int .i64 (w64 ((w64 ((w64 (s1.2 + 1)) + 1)) + 1)), .int .i64 (w64 ((w64 ((w64 (s1.2 + 1)) + 1)) + 1))] 0 _ (by kernel_rfl) (fun w => by kernel_rfl) ?_
        exact QRun_done [0, 1, 5] (by kernel_rfl) (by kernel_rfl)
      refine Run_seq ?_
      refine Run_ops ?_
      obtain ⟨x5, hx4, hB1⟩ := M.bind_some hB1
      obtain ⟨hx4l, hx4u, hx4⟩ := M.idx_some hx4
      refine Run_b [.slice aa_ a_.length ca_, .int .i64 i1, .int .i64 (w64 ((w64 ((w64 (s1.2 + 1)) + 1)) + 1))] 0 _ (by kernel_rfl) (fun w => by kernel_rfl) ?_
      refine Run_y (.pointer (some (adr aa_ (i1.toNat * 4)))) (by kernel_rfl) (Y_idx (t := 28) (e := 50) (sz := 4) (a := aa_) (n := a_.length) (cap := ca_) (kk := .i64) (i := i1) (by kernel_rfl) Try.underlying28 (by kernel_rfl) ((H5.rd 0 rfl).cell hx4).1 hx4l (by rw [← (H5.len 0 rfl)]; exact hx4u)) ?_
      refine Run_b [.pointer (some ((adr aa_ (i1.toNat * 4)).add 3))] 4 _ (by kernel_rfl) (fun w => by kernel_rfl) ?_
      obtain ⟨l4, hu4, hB1⟩ := M.bind_some hB1
      have hu4 := M.upd_some hu4
      refine Run_E (by kernel_rfl) ?_
      refine E_putF (C := cd50) (t := 2) (sz := 4) (f := 3) (j := i1) (y := x5) (y' := (⟨x5.From, x5.To, x5.Delay, (w64 ((w64 ((w64 (s1.2 + 1)) + 1)) + 1))⟩ : TPlace)) (v := .int .i64 (w64 ((w64 ((w64 (s1.2 + 1)) + 1)) + 1))) H5 (by kernel_rfl) rfl (by kernel_rfl) rfl rfl (fun _ vs G o => by obtain ⟨rfl, rfl⟩ := o; exact ⟨rfl, rfl⟩) (by kernel_rfl) hx4 hu4 (fun h6 H6 => ?_)
      refine Run_nil (by kernel_rfl) ?_
      refine Run_keep [0, 1, 5] (L' := [(0, .slice aa_ a_.length ca_), (1, .int .i64 (w64 ((w64 ((w64 (s1.2 + 1)) + 1)) + 1))), (5, .int .i64 i1)]) (by kernel_rfl) ?_
      refine Run_reg 3 (by kernel_rfl) (L' := [(0, .slice aa_ a_.length ca_), (1, .int .i64 (w64 ((w64 ((w64 ((w64 (s1.2 + 1)) + 1)) + 1)) + 1))), (5, .int .i64 i1)]) ?_ ?_
      · refine QRun_b [.int .i64 (w64 ((w64 ((w64 (s1.2 + 1)) + 1)) + 1)), .int .i64 (w64 ((w64 ((w64 ((w64 (s1.2 + 1)) + 1)) + 1)) + 1)), .int .i64 (w64 ((w64 ((w64 ((w64 (s1.2 + 1)) + 1)) + 1)) + 1))] 0 _ (by kernel_rfl) (fun w => by kernel_rfl) ?_
        exact QRun_done [0, 1, 5] (by kernel_rfl) (by kernel_rfl)
      refine Run_blk ?_
      refine Run_reg 3 (by kernel_rfl) (L' := [(0, .slice aa_ a_.length ca_), (1, .int .i64 (w64 ((w64 ((w64 ((w64 (s1.2 + 1)) + 1)) + 1)) + 1))), (5, .int .i64 (i1 + 1))]) ?_ ?_
      · refine QRun_b [.int .i64 i1] 0 _ (by kernel_rfl) (fun w => by kernel_rfl) ?_
        refine QRun_y (.int .i64 (i1 + 1)) (by kernel_rfl) (Y_eq (v := .int .i64 (w64 (i1 + 1))) (Y_pure (fun w => by kernel_rfl)) (by rw [w64_eq _ (by omega)])) ?_
        refine QRun_b [.int .i64 (i1 + 1)] 2 _ (by kernel_rfl) (fun w => by kernel_rfl) ?_
        exact QRun_done [0, 1, 5] (by kernel_rfl) (by kernel_rfl)
      have hB1 := M.ret_some hB1
      have gx1 := hgoy1 _ hB1.symm
      exact Run_again [0, 1, 5] (by kernel_rfl) my1 (Nat.lt_succ_self _) ⟨i1 + 1, (l4, (w64 ((w64 ((w64 ((w64 (s1.2 + 1)) + 1)) + 1)) + 1))), by omega, gx1, rfl, H6⟩
    · have gx1 := M.for_end gx1 hb1
      subst gx1
      refine Run_exit (k' := _) rfl ?_
      exact Run_fall [1] (by kernel_rfl) ⟨rfl, H1⟩

set_option maxRecDepth 100000 in
set_option maxHeartbeats 4000000 in
theorem w_laws_markEventGraph (h hE : Heap) (it : Item) (a_ : TGraph) (aa_Places : Option Addr) (ca_Places : Nat) (k_ : Int) (HM : Hold h hE [own cd50 aa_Places a_.Places.length ca_Places a_.Places, it]) (n : Nat) (r : Int × (List TPlace)) (hF : laws_markEventGraph a_ k_ n = some r) :
    Fn Try.prog 13 #[.agg #[.int .i64 a_.Events, .slice aa_Places a_.Places.length ca_Places], .int .i64 k_] hE fun v h' => v = .int .i64 r.1 ∧ Hold h h' [own cd50 aa_Places a_.Places.length ca_Places r.2, it] := by
  unfold laws_markEventGraph at hF
  refine Fn_enter (args := [.agg #[.int .i64 a_.Events, .slice aa_Places a_.Places.length ca_Places], .int .i64 k_]) Try.func13 rfl (by kernel_rfl) (by kernel_rfl) (fun w0 _ => ?_)
  refine Run_seq ?_
  refine Run_ops ?_
  refine Run_E (by kernel_rfl) ?_
  refine E_box (ty := 30) (cs := [.int .i64 a_.Events, .slice aa_Places a_.Places.length ca_Places]) HM (fun w => by kernel_rfl) (fun b1 h1 H1 => ?_)
  refine Run_b [.int .i64 0] 1 _ (by kernel_rfl) (fun w => by kernel_rfl) ?_
  refine Run_nil (by kernel_rfl) ?_
  refine Run_keep [1, 2] (L' := [(1, .int .i64 k_), (2, .pointer (some ⟨b1, 0, none⟩))]) (by kernel_rfl) ?_
  refine Run_seq ?_
  refine Run_ops ?_
  refine Run_b [.pointer (some ⟨b1, 1, none⟩)] 0 _ (by kernel_rfl) (fun w => by kernel_rfl) ?_
  refine Run_y (.slice aa_Places a_.Places.length ca_Places) (by kernel_rfl) (Y_load1 (t := 28) (p := ⟨b1, 1, none⟩) (v := .slice aa_Places a_.Places.length ca_Places) (by kernel_rfl) (fun w => by kernel_rfl) (H1.cell 0 rfl rfl)) ?_
  refine Run_b [.int .i64 k_] 2 _ (by kernel_rfl) (fun w => by kernel_rfl) ?_
  obtain ⟨x1, hx1, hF⟩ := M.bind_some hF
  have H2 : Hold h h1 [own cd50 aa_Places a_.Places.length ca_Places a_.Places, box b1 30 [.int .i64 a_.Events, .slice aa_Places a_.Places.length ca_Places], it] := H1.pick [1, 0, 2] (by kernel_rfl)
  have H3 : Hold h h1 [own cd50 aa_Places a_.Places.length ca_Places a_.Places, bun [box b1 30 [.int .i64 a_.Events, .slice aa_Places a_.Places.length ca_Places], it]] := Hold.bundle (S := [own cd50 aa_Places a_.Places.length ca_Places a_.Places]) (R := [box b1 30 [.int .i64 a_.Events, .slice aa_Places a_.Places.length ca_Places], it]) H2
  refine Run_E (by kernel_rfl) ?_
  refine E_call (f := 28) (args := #[.slice aa_Places a_.Places.length ca_Places, .int .i64 k_]) (w_laws_markPlaceS h h1 _ a_.Places aa_Places ca_Places k_ H3 _ _ hx1) (by kernel_rfl) (fun v1 h2 hp1 => ?_)
  obtain ⟨rfl, H4⟩ := hp1
  have H5 : Hold h h2 [own cd50 aa_Places a_.Places.length ca_Places x1.2, box b1 30 [.int .i64 a_.Events, .slice aa_Places a_.Places.length ca_Places], it] := Hold.unbundle (S := [own cd50 aa_Places a_.Places.length ca_Places x1.2]) (R := [box b1 30 [.int .i64 a_.Events, .slice aa_Places a_.Places.length ca_Places], it]) H4 (Hold.tailBase (S := [own cd50 aa_Places a_.Places.length ca_Places a_.Places]) (R := [box b1 30 [.int .i64 a_.Events, .slice aa_Places a_.Places.length ca_Places], it]) H2)
  refine Run_b [.int .i64 x1.1] 4 _ (by kernel_rfl) (fun w => by kernel_rfl) ?_
  refine Run_nil (by kernel_rfl) ?_
  refine Run_keep [1] (L' := [(1, .int .i64 x1.1)]) (by kernel_rfl) ?_
  refine Run_seq ?_
  refine Run_reg 2 (by kernel_rfl) (L' := [(4, .int .i64 x1.1)]) ?_ ?_
  · refine QRun_b [.int .i64 x1.1, .int .i64 x1.1] 0 _ (by kernel_rfl) (fun w => by kernel_rfl) ?_
    exact QRun_done [4] (by kernel_rfl) (by kernel_rfl)
  have hF := M.ret_some hF
  subst hF
  have H6 : Hold h h2 [own cd50 aa_Places a_.Places.length ca_Places x1.2, it] := H5.pick [0, 2] (by kernel_rfl)
  exact Run_ret1 rfl (ResV_tmp (v := .int .i64 x1.1) (by kernel_rfl)) ⟨rfl, H6⟩

end Go.Proofs.Ytbemhgddkkggmaa
