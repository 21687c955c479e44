/-
  Walks: each Go function, called with what reads as plain data, returns what its plain program computes.
  Conditions: None beyond the given statement.
-/
import Derived.Test.YtipdgiljgbjjkaaRows
import Derived.Test.YtipdgiljgbjjkaaP
import Derived.Test.YtipdgiljgbjjkaaMut
namespace Go.Proofs.Ytipdgiljgbjjkaa
open Go
attribute [local irreducible] setL setB opA fineI idleI fineB evB okB markB markBs readyB readyBs chainB lk rho pickL dropSlot tailOK
theorem mixed : Try.prog.follows .mixedOrders = true := by kernel_rfl
def cd143 : Cd (TPlace) := flatCd 143 4 (by decide) (fun x => [.int .i64 x.From, .int .i64 x.To, .int .i64 x.Delay, .int .i64 x.Tokens]) (fun _ => rfl) (fun _ => rfl)
theorem cd143_own (x : TPlace) : ∀ h, cd143.own h x [.int .i64 x.From, .int .i64 x.To, .int .i64 x.Delay, .int .i64 x.Tokens] [] := fun _ => ⟨rfl, rfl⟩
theorem cd143_flat : Flat cd143 := fun _ _ _ _ o => o.2
theorem cd143_copies : Copies cd143 := fun _ _ _ _ o => ⟨o, rfl⟩
theorem cd143_zero : ∀ h, cd143.own h (⟨0, 0, 0, 0⟩ : TPlace) [.int .i64 0, .int .i64 0, .int .i64 0, .int .i64 0] [] := fun _ => ⟨rfl, rfl⟩
theorem cd143_ti : TI Try.prog 143 (.agg #[.int .i64 0, .int .i64 0, .int .i64 0, .int .i64 0]) 4 32 := by unfold TI; kernel_rfl
theorem cd143_elem {h : Heap} {B : Bs} {a : Option Addr} {c : Nat} {l : List (TPlace)} {j : Nat} {x : TPlace} (r : Rd cd143 h B a c l) (hx : l[j]? = some x) : ∀ i v, ([.int .i64 x.From, .int .i64 x.To, .int .i64 x.Delay, .int .i64 x.Tokens] : List Value)[i]? = some v → cellH h ((adr a (j * 4)).add i) = some v := r.elem hx (fun _ o => o)
theorem cd143_f0 {h : Heap} {B : Bs} {a : Option Addr} {c : Nat} {l : List (TPlace)} {j : Nat} {x : TPlace} (r : Rd cd143 h B a c l) (hx : l[j]? = some x) : cellH h ((adr a (j * 4)).add 0) = some (.int .i64 x.From) := r.field hx (fun vs o => by rw [show vs = _ from o]; rfl)
theorem cd143_f1 {h : Heap} {B : Bs} {a : Option Addr} {c : Nat} {l : List (TPlace)} {j : Nat} {x : TPlace} (r : Rd cd143 h B a c l) (hx : l[j]? = some x) : cellH h ((adr a (j * 4)).add 1) = some (.int .i64 x.To) := r.field hx (fun vs o => by rw [show vs = _ from o]; rfl)
theorem cd143_f2 {h : Heap} {B : Bs} {a : Option Addr} {c : Nat} {l : List (TPlace)} {j : Nat} {x : TPlace} (r : Rd cd143 h B a c l) (hx : l[j]? = some x) : cellH h ((adr a (j * 4)).add 2) = some (.int .i64 x.Delay) := r.field hx (fun vs o => by rw [show vs = _ from o]; rfl)
theorem cd143_f3 {h : Heap} {B : Bs} {a : Option Addr} {c : Nat} {l : List (TPlace)} {j : Nat} {x : TPlace} (r : Rd cd143 h B a c l) (hx : l[j]? = some x) : cellH h ((adr a (j * 4)).add 3) = some (.int .i64 x.Tokens) := r.field hx (fun vs o => by rw [show vs = _ from o]; rfl)
def cd58 : Cd (TPlace) := flatCd 58 4 (by decide) (fun x => [.int .i64 x.From, .int .i64 x.To, .int .i64 x.Delay, .int .i64 x.Tokens]) (fun _ => rfl) (fun _ => rfl)
theorem cd58_own (x : TPlace) : ∀ h, cd58.own h x [.int .i64 x.From, .int .i64 x.To, .int .i64 x.Delay, .int .i64 x.Tokens] [] := fun _ => ⟨rfl, rfl⟩
theorem cd58_flat : Flat cd58 := fun _ _ _ _ o => o.2
theorem cd58_copies : Copies cd58 := fun _ _ _ _ o => ⟨o, rfl⟩
theorem cd58_zero : ∀ h, cd58.own h (⟨0, 0, 0, 0⟩ : TPlace) [.int .i64 0, .int .i64 0, .int .i64 0, .int .i64 0] [] := fun _ => ⟨rfl, rfl⟩
theorem cd58_ti : TI Try.prog 58 (.agg #[.int .i64 0, .int .i64 0, .int .i64 0, .int .i64 0]) 4 32 := by unfold TI; kernel_rfl
theorem cd58_elem {h : Heap} {B : Bs} {a : Option Addr} {c : Nat} {l : List (TPlace)} {j : Nat} {x : TPlace} (r : Rd cd58 h B a c l) (hx : l[j]? = some x) : ∀ i v, ([.int .i64 x.From, .int .i64 x.To, .int .i64 x.Delay, .int .i64 x.Tokens] : List Value)[i]? = some v → cellH h ((adr a (j * 4)).add i) = some v := r.elem hx (fun _ o => o)
theorem cd58_f0 {h : Heap} {B : Bs} {a : Option Addr} {c : Nat} {l : List (TPlace)} {j : Nat} {x : TPlace} (r : Rd cd58 h B a c l) (hx : l[j]? = some x) : cellH h ((adr a (j * 4)).add 0) = some (.int .i64 x.From) := r.field hx (fun vs o => by rw [show vs = _ from o]; rfl)
theorem cd58_f1 {h : Heap} {B : Bs} {a : Option Addr} {c : Nat} {l : List (TPlace)} {j : Nat} {x : TPlace} (r : Rd cd58 h B a c l) (hx : l[j]? = some x) : cellH h ((adr a (j * 4)).add 1) = some (.int .i64 x.To) := r.field hx (fun vs o => by rw [show vs = _ from o]; rfl)
theorem cd58_f2 {h : Heap} {B : Bs} {a : Option Addr} {c : Nat} {l : List (TPlace)} {j : Nat} {x : TPlace} (r : Rd cd58 h B a c l) (hx : l[j]? = some x) : cellH h ((adr a (j * 4)).add 2) = some (.int .i64 x.Delay) := r.field hx (fun vs o => by rw [show vs = _ from o]; rfl)
theorem cd58_f3 {h : Heap} {B : Bs} {a : Option Addr} {c : Nat} {l : List (TPlace)} {j : Nat} {x : TPlace} (r : Rd cd58 h B a c l) (hx : l[j]? = some x) : cellH h ((adr a (j * 4)).add 3) = some (.int .i64 x.Tokens) := r.field hx (fun vs o => by rw [show vs = _ from o]; rfl)
def cd2 : Cd (Int) := flatCd 2 1 (by decide) (fun x => [.int .i64 x]) (fun _ => rfl) (fun _ => rfl)
theorem cd2_own (x : Int) : ∀ h, cd2.own h x [.int .i64 x] [] := fun _ => ⟨rfl, rfl⟩
theorem cd2_flat : Flat cd2 := fun _ _ _ _ o => o.2
theorem cd2_copies : Copies cd2 := fun _ _ _ _ o => ⟨o, rfl⟩
theorem cd2_zero : ∀ h, cd2.own h 0 [.int .i64 0] [] := fun _ => ⟨rfl, rfl⟩
theorem cd2_ti : TI Try.prog 2 (.int .i64 0) 1 8 := by unfold TI; kernel_rfl
theorem cd2_cell {h : Heap} {B : Bs} {a : Option Addr} {c : Nat} {l : List (Int)} {j : Nat} {x : Int} (r : Rd cd2 h B a c l) (hx : l[j]? = some x) : cellH h (adr a (j * 1)) = some (.int .i64 x) := r.cell1 hx (fun vs o => by rw [show vs = _ from o]; rfl)
abbrev cd39 : Cd (List Int) := rowCd cd2 39
theorem cd39_zero : ∀ h, cd39.own h [] [.slice none 0 0] [] := fun h => ⟨none, 0, rfl, Own.nil _ h⟩
theorem cd39_ti : TI Try.prog 39 (.slice none 0 0) 1 24 := by unfold TI; kernel_rfl
def cd4 : Cd (Bool) := flatCd 4 1 (by decide) (fun x => [.bool x]) (fun _ => rfl) (fun _ => rfl)
theorem cd4_own (x : Bool) : ∀ h, cd4.own h x [.bool x] [] := fun _ => ⟨rfl, rfl⟩
theorem cd4_flat : Flat cd4 := fun _ _ _ _ o => o.2
theorem cd4_copies : Copies cd4 := fun _ _ _ _ o => ⟨o, rfl⟩
theorem cd4_zero : ∀ h, cd4.own h false [.bool false] [] := fun _ => ⟨rfl, rfl⟩
theorem cd4_ti : TI Try.prog 4 (.bool false) 1 1 := by unfold TI; kernel_rfl
theorem cd4_cell {h : Heap} {B : Bs} {a : Option Addr} {c : Nat} {l : List (Bool)} {j : Nat} {x : Bool} (r : Rd cd4 h B a c l) (hx : l[j]? = some x) : cellH h (adr a (j * 1)) = some (.bool x) := r.cell1 hx (fun vs o => by rw [show vs = _ from o]; rfl)
abbrev cd141 : Cd (List Bool) := rowCd cd4 141
theorem cd141_zero : ∀ h, cd141.own h [] [.slice none 0 0] [] := fun h => ⟨none, 0, rfl, Own.nil _ h⟩
theorem cd141_ti : TI Try.prog 141 (.slice none 0 0) 1 24 := by unfold TI; kernel_rfl
set_option maxRecDepth 100000 in
set_option maxHeartbeats 4000000 in
theorem w_laws_szPlaceS (h : Heap) (a_ : List TPlace) {Sa_ : Bs} (aa_ : Option Addr) (ca_ : Nat) (ra_ : Rd cd143 h Sa_ aa_ ca_ a_) (left : Int) (n : Nat) (r : Int) (hF : laws_szPlaceS a_ left n = some r) :
    Fn Try.prog 69 #[.slice aa_ a_.length ca_, .int .i64 left] h fun v h' => v = .int .i64 r ∧ h' = h := by
  unfold laws_szPlaceS at hF
  refine Fn_enter (args := [.slice aa_ a_.length ca_, .int .i64 left]) Try.func69 rfl (by kernel_rfl) (by kernel_rfl) (fun w0 _ => ?_)
  refine Run_seq ?_
  refine Run_reg 1 (by kernel_rfl) (L' := [(0, .slice aa_ a_.length ca_), (1, .int .i64 left)]) ?_ ?_
  · refine QRun_b [.int .i64 0] 0 _ (by kernel_rfl) (fun w => by kernel_rfl) ?_
    exact QRun_done [0, 1] (by kernel_rfl) (by kernel_rfl)
  refine Run_seq ?_
  refine Run_reg 5 (by kernel_rfl) (L' := [(1, .int .i64 (w64 (left - (a_.length : Int))))]) ?_ ?_
  · refine QRun_b [.int .i64 left, .slice aa_ a_.length ca_, .int .i64 (a_.length : Int), .int .i64 (w64 (left - (a_.length : Int))), .int .i64 (w64 (left - (a_.length : Int)))] 0 _ (by kernel_rfl) (fun w => by kernel_rfl) ?_
    exact QRun_done [1] (by kernel_rfl) (by kernel_rfl)
  refine Run_seq ?_
  refine Run_seq ?_
  refine Run_reg 2 (by kernel_rfl) (L' := [(1, .int .i64 (w64 (left - (a_.length : Int)))), (10, .bool (decide ((w64 (left - (a_.length : Int))) < 0)))]) ?_ ?_
  · refine QRun_b [.int .i64 (w64 (left - (a_.length : Int))), .bool (decide ((w64 (left - (a_.length : Int))) < 0))] 0 _ (by kernel_rfl) (fun w => by kernel_rfl) ?_
    exact QRun_done [1, 10] (by kernel_rfl) (by kernel_rfl)
  refine Run_cond (b := decide ((w64 (left - (a_.length : Int))) < 0)) (by kernel_rfl) (fun hb1 => ?_) (fun hb1 => ?_)
  · have hF := (M.ite_some hF).1 hb1
    refine Run_seq ?_
    refine Run_reg 1 (by kernel_rfl) (L' := [(4, .int .i64 (-1))]) ?_ ?_
    · refine QRun_b [.int .i64 (-1)] 0 _ (by kernel_rfl) (fun w => by kernel_rfl) ?_
      exact QRun_done [4] (by kernel_rfl) (by kernel_rfl)
    have hF := M.ret_some hF
    subst hF
    exact Run_ret1 rfl (ResV_tmp (v := .int .i64 (-1)) (by kernel_rfl)) ⟨rfl, rfl⟩
  · have hF := (M.ite_some hF).2 hb1
    refine Run_skip ?_
    refine Run_seq ?_
    refine Run_reg 2 (by kernel_rfl) (L' := [(4, .int .i64 (w64 (left - (a_.length : Int))))]) ?_ ?_
    · refine QRun_b [.int .i64 (w64 (left - (a_.length : Int))), .int .i64 (w64 (left - (a_.length : Int)))] 0 _ (by kernel_rfl) (fun w => by kernel_rfl) ?_
      exact QRun_done [4] (by kernel_rfl) (by kernel_rfl)
    have hF := M.ret_some hF
    subst hF
    exact Run_ret1 rfl (ResV_tmp (v := .int .i64 (w64 (left - (a_.length : Int)))) (by kernel_rfl)) ⟨rfl, rfl⟩

set_option maxRecDepth 100000 in
set_option maxHeartbeats 4000000 in
theorem w_laws_szEventGraph (h : Heap) (a_ : TGraph) (aa_Places : Option Addr) (ca_Places : Nat) (ra_Places : Rd cd143 h (Lt h) aa_Places ca_Places a_.Places) (left : Int) (n : Nat) (r : Int) (hF : laws_szEventGraph a_ left n = some r) :
    Fn Try.prog 11 #[.agg #[.int .i64 a_.Events, .slice aa_Places a_.Places.length ca_Places], .int .i64 left] h fun v h' => v = .int .i64 r ∧ Hold h h' [] := by
  unfold laws_szEventGraph at hF
  refine Fn_enter (args := [.agg #[.int .i64 a_.Events, .slice aa_Places a_.Places.length ca_Places], .int .i64 left]) Try.func11 rfl (by kernel_rfl) (by kernel_rfl) (fun w0 _ => ?_)
  have H0 := Hold.init h
  refine Run_seq ?_
  refine Run_ops ?_
  refine Run_E (by kernel_rfl) ?_
  refine E_box (ty := 24) (cs := [.int .i64 a_.Events, .slice aa_Places a_.Places.length ca_Places]) H0 (fun w => by kernel_rfl) (fun b1 h1 H1 => ?_)
  refine Run_b [.int .i64 0] 1 _ (by kernel_rfl) (fun w => by kernel_rfl) ?_
  refine Run_nil (by kernel_rfl) ?_
  refine Run_keep [1, 2] (L' := [(1, .int .i64 left), (2, .pointer (some ⟨b1, 0, none⟩))]) (by kernel_rfl) ?_
  refine Run_seq ?_
  obtain ⟨x1, hx1, hF⟩ := M.bind_some hF
  refine Run_reg 5 (by kernel_rfl) (L' := [(1, .int .i64 x1)]) ?_ ?_
  · refine QRun_b [.pointer (some ⟨b1, 1, none⟩)] 0 _ (by kernel_rfl) (fun w => by kernel_rfl) ?_
    refine QRun_y (.slice aa_Places a_.Places.length ca_Places) (by kernel_rfl) (Y_load1 (t := 22) (p := ⟨b1, 1, none⟩) (v := .slice aa_Places a_.Places.length ca_Places) (by kernel_rfl) (fun w => by kernel_rfl) (H1.cell 0 rfl rfl)) ?_
    refine QRun_b [.int .i64 left] 2 _ (by kernel_rfl) (fun w => by kernel_rfl) ?_
    refine QRun_y (.int .i64 x1) (by kernel_rfl) (Y_callq (f := 69) (args := #[.slice aa_Places a_.Places.length ca_Places, .int .i64 left]) (v := .int .i64 x1) (by kernel_rfl) (w_laws_szPlaceS h1 a_.Places aa_Places ca_Places (ra_Places.at H1.ext) left _ _ hx1)) ?_
    refine QRun_b [.int .i64 x1] 4 _ (by kernel_rfl) (fun w => by kernel_rfl) ?_
    exact QRun_done [1] (by kernel_rfl) (by kernel_rfl)
  refine Run_seq ?_
  refine Run_seq ?_
  refine Run_reg 2 (by kernel_rfl) (L' := [(1, .int .i64 x1), (10, .bool (decide (x1 < 0)))]) ?_ ?_
  · refine QRun_b [.int .i64 x1, .bool (decide (x1 < 0))] 0 _ (by kernel_rfl) (fun w => by kernel_rfl) ?_
    exact QRun_done [1, 10] (by kernel_rfl) (by kernel_rfl)
  refine Run_cond (b := decide (x1 < 0)) (by kernel_rfl) (fun hb1 => ?_) (fun hb1 => ?_)
  · have hF := (M.ite_some hF).1 hb1
    refine Run_seq ?_
    refine Run_reg 1 (by kernel_rfl) (L' := [(4, .int .i64 (-1))]) ?_ ?_
    · refine QRun_b [.int .i64 (-1)] 0 _ (by kernel_rfl) (fun w => by kernel_rfl) ?_
      exact QRun_done [4] (by kernel_rfl) (by kernel_rfl)
    have hF := M.ret_some hF
    subst hF
    have H2 : Hold h h1 [] := H1.pick [] (by kernel_rfl)
    exact Run_ret1 rfl (ResV_tmp (v := .int .i64 (-1)) (by kernel_rfl)) ⟨rfl, H2⟩
  · have hF := (M.ite_some hF).2 hb1
    refine Run_skip ?_
    refine Run_seq ?_
    refine Run_reg 2 (by kernel_rfl) (L' := [(4, .int .i64 x1)]) ?_ ?_
    · refine QRun_b [.int .i64 x1, .int .i64 x1] 0 _ (by kernel_rfl) (fun w => by kernel_rfl) ?_
      exact QRun_done [4] (by kernel_rfl) (by kernel_rfl)
    have hF := M.ret_some hF
    subst hF
    have H3 : Hold h h1 [] := H1.pick [] (by kernel_rfl)
    exact Run_ret1 rfl (ResV_tmp (v := .int .i64 x1) (by kernel_rfl)) ⟨rfl, H3⟩

set_option maxRecDepth 100000 in
set_option maxHeartbeats 4000000 in
theorem w_laws_toPlace (h : Heap) (a_ : TPlace) (n : Nat) (r : TPlace) (hF : laws_toPlace a_ n = some r) :
    Fn Try.prog 142 #[.agg #[.int .i64 a_.From, .int .i64 a_.To, .int .i64 a_.Delay, .int .i64 a_.Tokens]] h fun v h' => v = .agg #[.int .i64 r.From, .int .i64 r.To, .int .i64 r.Delay, .int .i64 r.Tokens] ∧ Hold h h' [] := by
  unfold laws_toPlace at hF
  refine Fn_enter (args := [.agg #[.int .i64 a_.From, .int .i64 a_.To, .int .i64 a_.Delay, .int .i64 a_.Tokens]]) Try.func142 rfl (by kernel_rfl) (by kernel_rfl) (fun w0 _ => ?_)
  have H0 := Hold.init h
  refine Run_seq ?_
  refine Run_ops ?_
  refine Run_E (by kernel_rfl) ?_
  refine E_box (ty := 143) (cs := [.int .i64 a_.From, .int .i64 a_.To, .int .i64 a_.Delay, .int .i64 a_.Tokens]) H0 (fun w => by kernel_rfl) (fun b1 h1 H1 => ?_)
  refine Run_E (by kernel_rfl) ?_
  refine E_box (ty := 58) (cs := [.int .i64 0, .int .i64 0, .int .i64 0, .int .i64 0]) H1 (fun w => by kernel_rfl) (fun b2 h2 H2 => ?_)
  refine Run_nil (by kernel_rfl) ?_
  refine Run_keep [1, 2] (L' := [(1, .pointer (some ⟨b1, 0, none⟩)), (2, .pointer (some ⟨b2, 0, none⟩))]) (by kernel_rfl) ?_
  refine Run_seq ?_
  refine Run_ops ?_
  refine Run_E (by kernel_rfl) ?_
  refine E_box (ty := 58) (cs := [.int .i64 0, .int .i64 0, .int .i64 0, .int .i64 0]) H2 (fun w => by kernel_rfl) (fun b3 h3 H3 => ?_)
  refine Run_nil (by kernel_rfl) ?_
  refine Run_keep [1, 2, 3] (L' := [(1, .pointer (some ⟨b1, 0, none⟩)), (2, .pointer (some ⟨b2, 0, none⟩)), (3, .pointer (some ⟨b3, 0, none⟩))]) (by kernel_rfl) ?_
  refine Run_seq ?_
  refine Run_ops ?_
  refine Run_b [.pointer (some ⟨b1, 0, none⟩)] 0 _ (by kernel_rfl) (fun w => by kernel_rfl) ?_
  refine Run_y (.int .i64 a_.From) (by kernel_rfl) (Y_load1 (t := 2) (p := ⟨b1, 0, none⟩) (v := .int .i64 a_.From) (by kernel_rfl) (fun w => by kernel_rfl) (H3.cell 2 rfl rfl)) ?_
  refine Run_b [.pointer (some ⟨b3, 0, none⟩)] 2 _ (by kernel_rfl) (fun w => by kernel_rfl) ?_
  refine Run_E (by kernel_rfl) ?_
  refine E_bput (t := 2) (off := 0) (us := [.int .i64 a_.From, .int .i64 0, .int .i64 0, .int .i64 0]) (v := .int .i64 a_.From) H3 (by kernel_rfl) (by kernel_rfl) rfl (by kernel_rfl) rfl (fun h4 H4 => ?_)
  refine Run_nil (by kernel_rfl) ?_
  refine Run_keep [1, 2, 3] (L' := [(1, .pointer (some ⟨b1, 0, none⟩)), (2, .pointer (some ⟨b2, 0, none⟩)), (3, .pointer (some ⟨b3, 0, none⟩))]) (by kernel_rfl) ?_
  refine Run_seq ?_
  refine Run_ops ?_
  refine Run_b [.pointer (some ⟨b1, 1, none⟩)] 0 _ (by kernel_rfl) (fun w => by kernel_rfl) ?_
  refine Run_y (.int .i64 a_.To) (by kernel_rfl) (Y_load1 (t := 2) (p := ⟨b1, 1, none⟩) (v := .int .i64 a_.To) (by kernel_rfl) (fun w => by kernel_rfl) (H4.cell 2 rfl rfl)) ?_
  refine Run_b [.pointer (some ⟨b3, 1, none⟩)] 2 _ (by kernel_rfl) (fun w => by kernel_rfl) ?_
  refine Run_E (by kernel_rfl) ?_
  refine E_bput (t := 2) (off := 1) (us := [.int .i64 a_.From, .int .i64 a_.To, .int .i64 0, .int .i64 0]) (v := .int .i64 a_.To) H4 (by kernel_rfl) (by kernel_rfl) rfl (by kernel_rfl) rfl (fun h5 H5 => ?_)
  refine Run_nil (by kernel_rfl) ?_
  refine Run_keep [1, 2, 3] (L' := [(1, .pointer (some ⟨b1, 0, none⟩)), (2, .pointer (some ⟨b2, 0, none⟩)), (3, .pointer (some ⟨b3, 0, none⟩))]) (by kernel_rfl) ?_
  refine Run_seq ?_
  refine Run_ops ?_
  refine Run_b [.pointer (some ⟨b1, 2, none⟩)] 0 _ (by kernel_rfl) (fun w => by kernel_rfl) ?_
  refine Run_y (.int .i64 a_.Delay) (by kernel_rfl) (Y_load1 (t := 2) (p := ⟨b1, 2, none⟩) (v := .int .i64 a_.Delay) (by kernel_rfl) (fun w => by kernel_rfl) (H5.cell 2 rfl rfl)) ?_
  refine Run_b [.pointer (some ⟨b3, 2, none⟩)] 2 _ (by kernel_rfl) (fun w => by kernel_rfl) ?_
  refine Run_E (by kernel_rfl) ?_
  refine E_bput (t := 2) (off := 2) (us := [.int .i64 a_.From, .int .i64 a_.To, .int .i64 a_.Delay, .int .i64 0]) (v := .int .i64 a_.Delay) H5 (by kernel_rfl) (by kernel_rfl) rfl (by kernel_rfl) rfl (fun h6 H6 => ?_)
  refine Run_nil (by kernel_rfl) ?_
  refine Run_keep [1, 2, 3] (L' := [(1, .pointer (some ⟨b1, 0, none⟩)), (2, .pointer (some ⟨b2, 0, none⟩)), (3, .pointer (some ⟨b3, 0, none⟩))]) (by kernel_rfl) ?_
  refine Run_seq ?_
  refine Run_ops ?_
  refine Run_b [.pointer (some ⟨b1, 3, none⟩)] 0 _ (by kernel_rfl) (fun w => by kernel_rfl) ?_
  refine Run_y (.int .i64 a_.Tokens) (by kernel_rfl) (Y_load1 (t := 2) (p := ⟨b1, 3, none⟩) (v := .int .i64 a_.Tokens) (by kernel_rfl) (fun w => by kernel_rfl) (H6.cell 2 rfl rfl)) ?_
  refine Run_b [.pointer (some ⟨b3, 3, none⟩)] 2 _ (by kernel_rfl) (fun w => by kernel_rfl) ?_
  refine Run_E (by kernel_rfl) ?_
  refine E_bput (t := 2) (off := 3) (us := [.int .i64 a_.From, .int .i64 a_.To, .int .i64 a_.Delay, .int .i64 a_.Tokens]) (v := .int .i64 a_.Tokens) H6 (by kernel_rfl) (by kernel_rfl) rfl (by kernel_rfl) rfl (fun h7 H7 => ?_)
  refine Run_nil (by kernel_rfl) ?_
  refine Run_keep [2, 3] (L' := [(2, .pointer (some ⟨b2, 0, none⟩)), (3, .pointer (some ⟨b3, 0, none⟩))]) (by kernel_rfl) ?_
  refine Run_seq ?_
  refine Run_ops ?_
  refine Run_y (.agg #[.int .i64 a_.From, .int .i64 a_.To, .int .i64 a_.Delay, .int .i64 a_.Tokens]) (by kernel_rfl) (Y_loadA (t := 58) (n := 4) (p := ⟨b3, 0, none⟩) (cs := [.int .i64 a_.From, .int .i64 a_.To, .int .i64 a_.Delay, .int .i64 a_.Tokens]) (by kernel_rfl) (fun w => by kernel_rfl) (by kernel_rfl) rfl (H7.cells (n := 4) (off := 0) 0 rfl rfl)) ?_
  have H9 : Hold h h7 [box b2 58 [.int .i64 0, .int .i64 0, .int .i64 0, .int .i64 0], box b3 58 [.int .i64 a_.From, .int .i64 a_.To, .int .i64 a_.Delay, .int .i64 a_.Tokens], box b1 143 [.int .i64 a_.From, .int .i64 a_.To, .int .i64 a_.Delay, .int .i64 a_.Tokens]] := H7.pick [1, 0, 2] (by kernel_rfl)
  refine Run_E (by kernel_rfl) ?_
  refine E_bput (t := 58) (off := 0) (us := [.int .i64 a_.From, .int .i64 a_.To, .int .i64 a_.Delay, .int .i64 a_.Tokens]) (v := .agg #[.int .i64 a_.From, .int .i64 a_.To, .int .i64 a_.Delay, .int .i64 a_.Tokens]) H9 (by kernel_rfl) (by kernel_rfl) rfl (by kernel_rfl) rfl (fun h8 H8 => ?_)
  refine Run_nil (by kernel_rfl) ?_
  refine Run_keep [2] (L' := [(2, .pointer (some ⟨b2, 0, none⟩))]) (by kernel_rfl) ?_
  have hF := M.ret_some hF
  subst hF
  have H10 : Hold h h8 [] := H8.pick [] (by kernel_rfl)
  exact Run_ret1 rfl (ResV_cell (n := 4) (cs := [.int .i64 a_.From, .int .i64 a_.To, .int .i64 a_.Delay, .int .i64 a_.Tokens]) (by kernel_rfl) (fun w => by kernel_rfl) (by kernel_rfl) rfl (H8.cells (n := 4) (off := 0) 0 rfl rfl)) ⟨rfl, H10⟩

set_option maxRecDepth 100000 in
set_option maxHeartbeats 4000000 in
theorem w_laws_toPlaceS (h : Heap) (a_ : List TPlace) (aa_ : Option Addr) (ca_ : Nat) (ra_ : Rd cd143 h (Lt h) aa_ ca_ a_) (n : Nat) (r : (List TPlace)) (hF : laws_toPlaceS a_ n = some r) :
    Fn Try.prog 73 #[.slice aa_ a_.length ca_] h fun v h' => ∃ (a0 : Option Addr) (c0 : Nat), v = .slice a0 r.length c0 ∧ Hold h h' [own cd58 a0 r.length c0 r] := by
  unfold laws_toPlaceS at hF
  refine Fn_enter (args := [.slice aa_ a_.length ca_]) Try.func73 rfl (by kernel_rfl) (by kernel_rfl) (fun w0 _ => ?_)
  have H0 := Hold.init h
  refine Run_seq ?_
  refine Run_reg 1 (by kernel_rfl) (L' := [(0, .slice aa_ a_.length ca_)]) ?_ ?_
  · refine QRun_b [.slice none 0 0] 0 _ (by kernel_rfl) (fun w => by kernel_rfl) ?_
    exact QRun_done [0] (by kernel_rfl) (by kernel_rfl)
  refine Run_seq ?_
  refine Run_ops ?_
  refine Run_b [.slice aa_ a_.length ca_, .int .i64 (a_.length : Int)] 0 _ (by kernel_rfl) (fun w => by kernel_rfl) ?_
  obtain ⟨l1, hl1, hF⟩ := M.bind_some hF
  have hl1 := M.make_some hl1
  refine Run_E (by kernel_rfl) ?_
  refine E_make cd58 (⟨0, 0, 0, 0⟩ : TPlace) (kl := .i64) (kc := .i64) H0 cd58_ti Try.underlying28 (by decide) cd58_zero (by kernel_rfl) hl1 (fun a1 h1 H1 => ?_)
  refine Run_b [.slice a1 l1.length l1.length] 3 _ (by kernel_rfl) (fun w => by kernel_rfl) ?_
  refine Run_nil (by kernel_rfl) ?_
  refine Run_keep [0, 3] (L' := [(0, .slice aa_ a_.length ca_), (3, .slice a1 l1.length l1.length)]) (by kernel_rfl) ?_
  refine Run_seq ?_
  refine Run_seq ?_
  refine Run_reg 1 (by kernel_rfl) (L' := [(0, .slice aa_ a_.length ca_), (3, .slice a1 l1.length l1.length), (4, .int .i64 0)]) ?_ ?_
  · refine QRun_b [.int .i64 0] 0 _ (by kernel_rfl) (fun w => by kernel_rfl) ?_
    exact QRun_done [0, 3, 4] (by kernel_rfl) (by kernel_rfl)
  obtain ⟨x1, gx1, hF⟩ := M.bind_some hF
  obtain ⟨hloy1, hhiy1, gx1⟩ := M.for_start gx1
  refine Run_join (fun L' h' => L' = [(3, .slice a1 l1.length l1.length)] ∧ Hold h h' [own cd58 a1 l1.length l1.length x1]) ?_ ?_
  · rintro _ h3 ⟨rfl, H3⟩
    refine Run_seq ?_
    refine Run_reg 2 (by kernel_rfl) (L' := [(2, .slice a1 l1.length l1.length)]) ?_ ?_
    · refine QRun_b [.slice a1 l1.length l1.length, .slice a1 l1.length l1.length] 0 _ (by kernel_rfl) (fun w => by kernel_rfl) ?_
      exact QRun_done [2] (by kernel_rfl) (by kernel_rfl)
    have hF := M.ret_some hF
    subst hF
    have H7 := H3.norm
    exact Run_ret1 rfl (ResV_tmp (v := .slice a1 l1.length l1.length) (by kernel_rfl)) ⟨a1, l1.length, (by simp only [(H3.len 0 rfl)]), H7⟩
  · refine Run_block ?_
    refine Run_keep [0, 3, 4] (L' := [(0, .slice aa_ a_.length ca_), (3, .slice a1 l1.length l1.length), (4, .int .i64 0)]) (by kernel_rfl) ?_
    refine Run_loop (fun m L' h' => ∃ (i1 : Int) (s1 : (List TPlace)), 0 ≤ i1 ∧ M.forN (a_.length : Int) _ _ n m i1 s1 = some x1 ∧ L' = [(0, .slice aa_ a_.length ca_), (3, .slice a1 l1.length l1.length), (4, .int .i64 i1)] ∧ Hold h h' [own cd58 a1 l1.length l1.length s1]) ((a_.length : Int) - 0 : Int).toNat ⟨0, l1, Int.le_refl _, gx1, rfl, H1⟩ ?_
    rintro my1 _ h2 ⟨i1, s1, hloy1', gx1, rfl, H2⟩
    refine Run_seq ?_
    refine Run_seq ?_
    refine Run_reg 4 (by kernel_rfl) (L' := [(0, .slice aa_ a_.length ca_), (3, .slice a1 l1.length l1.length), (4, .int .i64 i1), (11, .bool (decide (i1 < (a_.length : Int))))]) ?_ ?_
    · refine QRun_b [.int .i64 i1, .slice aa_ a_.length ca_, .int .i64 (a_.length : Int), .bool (decide (i1 < (a_.length : Int)))] 0 _ (by kernel_rfl) (fun w => by kernel_rfl) ?_
      exact QRun_done [0, 3, 4, 11] (by kernel_rfl) (by kernel_rfl)
    refine Run_cond (b := decide (i1 < (a_.length : Int))) (by kernel_rfl) (fun hb1 => ?_) (fun hb1 => ?_)
    · obtain ⟨my1, y1, rfl, hB1, hgoy1, houty1⟩ := M.for_go gx1 hb1
      have hlty1 := of_decide_eq_true hb1
      refine Run_skip ?_
      refine Run_seq ?_
      refine Run_block ?_
      refine Run_ops ?_
      obtain ⟨x2, hx1, hB1⟩ := M.bind_some hB1
      obtain ⟨hx1l, hx1u, hx1⟩ := M.idx_some hx1
      refine Run_b [.slice a1 l1.length l1.length, .int .i64 i1, .slice aa_ a_.length ca_, .int .i64 i1] 0 _ (by kernel_rfl) (fun w => by kernel_rfl) ?_
      refine Run_y (.pointer (some (adr aa_ (i1.toNat * 4)))) (by kernel_rfl) (Y_idx (t := 22) (e := 143) (sz := 4) (a := aa_) (n := a_.length) (cap := ca_) (kk := .i64) (i := i1) (by kernel_rfl) Try.underlying22 (by kernel_rfl) ((ra_.at H2.ext).cell hx1).1 hx1l hx1u) ?_
      refine Run_y (.agg #[.int .i64 x2.From, .int .i64 x2.To, .int .i64 x2.Delay, .int .i64 x2.Tokens]) (by kernel_rfl) (Y_loadA (t := 143) (n := 4) (p := adr aa_ (i1.toNat * 4)) (cs := [.int .i64 x2.From, .int .i64 x2.To, .int .i64 x2.Delay, .int .i64 x2.Tokens]) (by kernel_rfl) (fun w => by kernel_rfl) (by kernel_rfl) rfl (cd143_elem (ra_.at H2.ext) hx1)) ?_
      obtain ⟨x3, hx2, hB1⟩ := M.bind_some hB1
      refine Run_E (by kernel_rfl) ?_
      refine E_call (f := 142) (args := #[.agg #[.int .i64 x2.From, .int .i64 x2.To, .int .i64 x2.Delay, .int .i64 x2.Tokens]]) (w_laws_toPlace h2 x2 _ _ hx2) (by kernel_rfl) (fun v1 h4 hp1 => ?_)
      obtain ⟨rfl, H4⟩ := hp1
      have H5 : Hold h h4 [own cd58 a1 l1.length l1.length s1] := H2.call H4 rfl
      obtain ⟨x4, hx3, hB1⟩ := M.bind_some hB1
      obtain ⟨hx3l, hx3u, hx3⟩ := M.idx_some hx3
      refine Run_y (.pointer (some (adr a1 (i1.toNat * 4)))) (by kernel_rfl) (Y_idx (t := 28) (e := 58) (sz := 4) (a := a1) (n := l1.length) (cap := l1.length) (kk := .i64) (i := i1) (by kernel_rfl) Try.underlying28 (by kernel_rfl) ((H5.rd 0 rfl).cell hx3).1 hx3l (by rw [← (H5.len 0 rfl)]; exact hx3u)) ?_
      obtain ⟨l2, hu1, hB1⟩ := M.bind_some hB1
      have hu1 := M.upd_some hu1
      refine Run_E (by kernel_rfl) ?_
      refine E_put (C := cd58) (t := 58) (sz := 4) (j := i1) (x := x3) (v := .agg #[.int .i64 x3.From, .int .i64 x3.To, .int .i64 x3.Delay, .int .i64 x3.Tokens]) H5 cd58_flat (by kernel_rfl) rfl (cd58_own _) (by kernel_rfl) hu1 (fun h5 H6 => ?_)
      refine Run_nil (by kernel_rfl) ?_
      refine Run_keep [0, 3, 4] (L' := [(0, .slice aa_ a_.length ca_), (3, .slice a1 l1.length l1.length), (4, .int .i64 i1)]) (by kernel_rfl) ?_
      refine Run_blk ?_
      refine Run_reg 3 (by kernel_rfl) (L' := [(0, .slice aa_ a_.length ca_), (3, .slice a1 l1.length l1.length), (4, .int .i64 (i1 + 1))]) ?_ ?_
      · refine QRun_b [.int .i64 i1] 0 _ (by kernel_rfl) (fun w => by kernel_rfl) ?_
        refine QRun_y (.int .i64 (i1 + 1)) (by kernel_rfl) (Y_eq (v := .int .i64 (w64 (i1 + 1))) (Y_pure (fun w => by kernel_rfl)) (by rw [w64_eq _ (by omega)])) ?_
        refine QRun_b [.int .i64 (i1 + 1)] 2 _ (by kernel_rfl) (fun w => by kernel_rfl) ?_
        exact QRun_done [0, 3, 4] (by kernel_rfl) (by kernel_rfl)
      have hB1 := M.ret_some hB1
      have gx1 := hgoy1 _ hB1.symm
      exact Run_again [0, 3, 4] (by kernel_rfl) my1 (Nat.lt_succ_self _) ⟨i1 + 1, l2, by omega, gx1, rfl, H6⟩
    · have gx1 := M.for_end gx1 hb1
      subst gx1
      refine Run_exit (k' := _) rfl ?_
      exact Run_fall [3] (by kernel_rfl) ⟨rfl, H2⟩

set_option maxRecDepth 100000 in
set_option maxHeartbeats 4000000 in
theorem w_laws_toEventGraph (h : Heap) (a_ : TGraph) (aa_Places : Option Addr) (ca_Places : Nat) (ra_Places : Rd cd143 h (Lt h) aa_Places ca_Places a_.Places) (n : Nat) (r : TGraph) (hF : laws_toEventGraph a_ n = some r) :
    Fn Try.prog 13 #[.agg #[.int .i64 a_.Events, .slice aa_Places a_.Places.length ca_Places]] h fun v h' => ∃ (a0 : Option Addr) (c0 : Nat), v = .agg #[.int .i64 r.Events, .slice a0 r.Places.length c0] ∧ Hold h h' [own cd58 a0 r.Places.length c0 r.Places] := by
  unfold laws_toEventGraph at hF
  refine Fn_enter (args := [.agg #[.int .i64 a_.Events, .slice aa_Places a_.Places.length ca_Places]]) Try.func13 rfl (by kernel_rfl) (by kernel_rfl) (fun w0 _ => ?_)
  have H0 := Hold.init h
  refine Run_seq ?_
  refine Run_ops ?_
  refine Run_E (by kernel_rfl) ?_
  refine E_box (ty := 24) (cs := [.int .i64 a_.Events, .slice aa_Places a_.Places.length ca_Places]) H0 (fun w => by kernel_rfl) (fun b1 h1 H1 => ?_)
  refine Run_E (by kernel_rfl) ?_
  refine E_box (ty := 30) (cs := [.int .i64 0, .slice none 0 0]) H1 (fun w => by kernel_rfl) (fun b2 h2 H2 => ?_)
  refine Run_nil (by kernel_rfl) ?_
  refine Run_keep [1, 2] (L' := [(1, .pointer (some ⟨b1, 0, none⟩)), (2, .pointer (some ⟨b2, 0, none⟩))]) (by kernel_rfl) ?_
  refine Run_seq ?_
  refine Run_ops ?_
  refine Run_E (by kernel_rfl) ?_
  refine E_box (ty := 30) (cs := [.int .i64 0, .slice none 0 0]) H2 (fun w => by kernel_rfl) (fun b3 h3 H3 => ?_)
  refine Run_nil (by kernel_rfl) ?_
  refine Run_keep [1, 2, 3] (L' := [(1, .pointer (some ⟨b1, 0, none⟩)), (2, .pointer (some ⟨b2, 0, none⟩)), (3, .pointer (some ⟨b3, 0, none⟩))]) (by kernel_rfl) ?_
  refine Run_seq ?_
  refine Run_ops ?_
  refine Run_b [.pointer (some ⟨b1, 0, none⟩)] 0 _ (by kernel_rfl) (fun w => by kernel_rfl) ?_
  refine Run_y (.int .i64 a_.Events) (by kernel_rfl) (Y_load1 (t := 2) (p := ⟨b1, 0, none⟩) (v := .int .i64 a_.Events) (by kernel_rfl) (fun w => by kernel_rfl) (H3.cell 2 rfl rfl)) ?_
  refine Run_b [.pointer (some ⟨b3, 0, none⟩)] 2 _ (by kernel_rfl) (fun w => by kernel_rfl) ?_
  refine Run_E (by kernel_rfl) ?_
  refine E_bput (t := 2) (off := 0) (us := [.int .i64 a_.Events, .slice none 0 0]) (v := .int .i64 a_.Events) H3 (by kernel_rfl) (by kernel_rfl) rfl (by kernel_rfl) rfl (fun h4 H4 => ?_)
  refine Run_nil (by kernel_rfl) ?_
  refine Run_keep [1, 2, 3] (L' := [(1, .pointer (some ⟨b1, 0, none⟩)), (2, .pointer (some ⟨b2, 0, none⟩)), (3, .pointer (some ⟨b3, 0, none⟩))]) (by kernel_rfl) ?_
  refine Run_seq ?_
  refine Run_ops ?_
  refine Run_b [.pointer (some ⟨b1, 1, none⟩)] 0 _ (by kernel_rfl) (fun w => by kernel_rfl) ?_
  refine Run_y (.slice aa_Places a_.Places.length ca_Places) (by kernel_rfl) (Y_load1 (t := 22) (p := ⟨b1, 1, none⟩) (v := .slice aa_Places a_.Places.length ca_Places) (by kernel_rfl) (fun w => by kernel_rfl) (H4.cell 2 rfl rfl)) ?_
  obtain ⟨x1, hx1, hF⟩ := M.bind_some hF
  refine Run_E (by kernel_rfl) ?_
  refine E_call (f := 73) (args := #[.slice aa_Places a_.Places.length ca_Places]) (w_laws_toPlaceS h4 a_.Places aa_Places ca_Places (ra_Places.at H4.ext) _ _ hx1) (by kernel_rfl) (fun v1 h5 hp1 => ?_)
  obtain ⟨a1, c1, rfl, H5⟩ := hp1
  have H6 : Hold h h5 [own cd58 a1 x1.length c1 x1, box b3 30 [.int .i64 a_.Events, .slice none 0 0], box b2 30 [.int .i64 0, .slice none 0 0], box b1 24 [.int .i64 a_.Events, .slice aa_Places a_.Places.length ca_Places]] := H4.call H5 rfl
  refine Run_b [.pointer (some ⟨b3, 1, none⟩)] 3 _ (by kernel_rfl) (fun w => by kernel_rfl) ?_
  have H8 : Hold h h5 [box b3 30 [.int .i64 a_.Events, .slice none 0 0], own cd58 a1 x1.length c1 x1, box b2 30 [.int .i64 0, .slice none 0 0], box b1 24 [.int .i64 a_.Events, .slice aa_Places a_.Places.length ca_Places]] := H6.pick [1, 0, 2, 3] (by kernel_rfl)
  refine Run_E (by kernel_rfl) ?_
  refine E_bput (t := 28) (off := 1) (us := [.int .i64 a_.Events, .slice a1 x1.length c1]) (v := .slice a1 x1.length c1) H8 (by kernel_rfl) (by kernel_rfl) rfl (by kernel_rfl) rfl (fun h6 H7 => ?_)
  refine Run_nil (by kernel_rfl) ?_
  refine Run_keep [2, 3] (L' := [(2, .pointer (some ⟨b2, 0, none⟩)), (3, .pointer (some ⟨b3, 0, none⟩))]) (by kernel_rfl) ?_
  refine Run_seq ?_
  refine Run_ops ?_
  refine Run_y (.agg #[.int .i64 a_.Events, .slice a1 x1.length c1]) (by kernel_rfl) (Y_loadA (t := 30) (n := 2) (p := ⟨b3, 0, none⟩) (cs := [.int .i64 a_.Events, .slice a1 x1.length c1]) (by kernel_rfl) (fun w => by kernel_rfl) (by kernel_rfl) rfl (H7.cells (n := 2) (off := 0) 0 rfl rfl)) ?_
  have H10 : Hold h h6 [box b2 30 [.int .i64 0, .slice none 0 0], box b3 30 [.int .i64 a_.Events, .slice a1 x1.length c1], own cd58 a1 x1.length c1 x1, box b1 24 [.int .i64 a_.Events, .slice aa_Places a_.Places.length ca_Places]] := H7.pick [2, 0, 1, 3] (by kernel_rfl)
  refine Run_E (by kernel_rfl) ?_
  refine E_bput (t := 30) (off := 0) (us := [.int .i64 a_.Events, .slice a1 x1.length c1]) (v := .agg #[.int .i64 a_.Events, .slice a1 x1.length c1]) H10 (by kernel_rfl) (by kernel_rfl) rfl (by kernel_rfl) rfl (fun h7 H9 => ?_)
  refine Run_nil (by kernel_rfl) ?_
  refine Run_keep [2] (L' := [(2, .pointer (some ⟨b2, 0, none⟩))]) (by kernel_rfl) ?_
  have hF := M.ret_some hF
  subst hF
  have H11 : Hold h h7 [own cd58 a1 x1.length c1 x1, box b2 30 [.int .i64 a_.Events, .slice a1 x1.length c1], box b3 30 [.int .i64 a_.Events, .slice a1 x1.length c1], box b1 24 [.int .i64 a_.Events, .slice aa_Places a_.Places.length ca_Places]] := H9.pick [2, 0, 1, 3] (by kernel_rfl)
  have H12 : Hold h h7 [own cd58 a1 x1.length c1 x1] := H11.pick [0] (by kernel_rfl)
  exact Run_ret1 rfl (ResV_cell (n := 2) (cs := [.int .i64 a_.Events, .slice a1 x1.length c1]) (by kernel_rfl) (fun w => by kernel_rfl) (by kernel_rfl) rfl (H9.cells (n := 2) (off := 0) 0 rfl rfl)) ⟨a1, c1, rfl, H12⟩

set_option maxRecDepth 100000 in
set_option maxHeartbeats 4000000 in
theorem w_spec_l01In (h : Heap) (n_ : Int) (low : Int) (high : Int) (n : Nat) (r : Bool) (hF : spec_l01In n_ low high n = some r) :
    Fn Try.prog 78 #[.int .i64 n_, .int .i64 low, .int .i64 high] h fun v h' => v = .bool r ∧ h' = h := by
  unfold spec_l01In at hF
  refine Fn_enter (args := [.int .i64 n_, .int .i64 low, .int .i64 high]) Try.func78 rfl (by kernel_rfl) (by kernel_rfl) (fun w0 _ => ?_)
  refine Run_seq ?_
  refine Run_reg 1 (by kernel_rfl) (L' := [(0, .int .i64 n_), (1, .int .i64 low), (2, .int .i64 high)]) ?_ ?_
  · refine QRun_b [.bool false] 0 _ (by kernel_rfl) (fun w => by kernel_rfl) ?_
    exact QRun_done [0, 1, 2] (by kernel_rfl) (by kernel_rfl)
  refine Run_seq ?_
  refine Run_reg 9 (by kernel_rfl) (L' := [(6, .bool ((decide (low ≤ n_)) && (decide (n_ ≤ high))))]) ?_ ?_
  · refine QRun_b [.int .i64 n_, .int .i64 low, .bool (decide (low ≤ n_))] 0 _ (by kernel_rfl) (fun w => by kernel_rfl) ?_
    refine QRun_seq 8 [(14, .bool ((decide (low ≤ n_)) && (decide (n_ ≤ high))))] ?_ ?_
    · rcases Bool.eq_false_or_eq_true (decide (low ≤ n_)) with hb1 | hb1
      · refine QRun_bool (decide (low ≤ n_)) true (by kernel_rfl) (fun w => by kernel_rfl) hb1 ?_
        refine QRun_b [.int .i64 n_, .int .i64 high, .bool (decide (n_ ≤ high))] 4 _ (by kernel_rfl) (fun w => by kernel_rfl) ?_
        refine QRun_bool (decide (n_ ≤ high)) ((decide (low ≤ n_)) && (decide (n_ ≤ high))) (by kernel_rfl) (fun w => by kernel_rfl) (by rw [hb1]; rfl) ?_
        exact QRun_done [14] (by kernel_rfl) (by kernel_rfl)
      · refine QRun_bool (decide (low ≤ n_)) false (by kernel_rfl) (fun w => by kernel_rfl) hb1 ?_
        refine QRun_n (by kernel_rfl) ?_
        refine QRun_n (by kernel_rfl) ?_
        refine QRun_n (by kernel_rfl) ?_
        refine QRun_bool false ((decide (low ≤ n_)) && (decide (n_ ≤ high))) (by kernel_rfl) (fun w => by kernel_rfl) (by rw [hb1]; rfl) ?_
        exact QRun_done [14] (by kernel_rfl) (by kernel_rfl)
    refine QRun_b [.bool ((decide (low ≤ n_)) && (decide (n_ ≤ high)))] 8 _ (by kernel_rfl) (fun w => by kernel_rfl) ?_
    exact QRun_done [6] (by kernel_rfl) (by kernel_rfl)
  have hF := M.ret_some hF
  subst hF
  exact Run_ret1 rfl (ResV_tmp (v := .bool ((decide (low ≤ n_)) && (decide (n_ ≤ high)))) (by kernel_rfl)) ⟨rfl, rfl⟩

set_option maxRecDepth 100000 in
set_option maxHeartbeats 4000000 in
theorem w_spec_l11Place (h : Heap) (p : TPlace) (events : Int) (n : Nat) (r : Bool) (hF : spec_l11Place p events n = some r) :
    Fn Try.prog 140 #[.agg #[.int .i64 p.From, .int .i64 p.To, .int .i64 p.Delay, .int .i64 p.Tokens], .int .i64 events] h fun v h' => v = .bool r ∧ Hold h h' [] := by
  unfold spec_l11Place at hF
  refine Fn_enter (args := [.agg #[.int .i64 p.From, .int .i64 p.To, .int .i64 p.Delay, .int .i64 p.Tokens], .int .i64 events]) Try.func140 rfl (by kernel_rfl) (by kernel_rfl) (fun w0 _ => ?_)
  have H0 := Hold.init h
  refine Run_seq ?_
  refine Run_ops ?_
  refine Run_E (by kernel_rfl) ?_
  refine E_box (ty := 58) (cs := [.int .i64 p.From, .int .i64 p.To, .int .i64 p.Delay, .int .i64 p.Tokens]) H0 (fun w => by kernel_rfl) (fun b1 h1 H1 => ?_)
  refine Run_b [.bool false] 1 _ (by kernel_rfl) (fun w => by kernel_rfl) ?_
  refine Run_nil (by kernel_rfl) ?_
  refine Run_keep [1, 2] (L' := [(1, .int .i64 events), (2, .pointer (some ⟨b1, 0, none⟩))]) (by kernel_rfl) ?_
  refine Run_seq ?_
  obtain ⟨x1, hx1, hF⟩ := M.bind_some hF
  obtain ⟨x2, gx2, hF⟩ := M.bind_some hF
  obtain ⟨x4, gx4, hF⟩ := M.bind_some hF
  obtain ⟨x6, gx6, hF⟩ := M.bind_some hF
  refine Run_reg 23 (by kernel_rfl) (L' := [(4, .bool x6)]) ?_ ?_
  · refine QRun_b [.pointer (some ⟨b1, 0, none⟩)] 0 _ (by kernel_rfl) (fun w => by kernel_rfl) ?_
    refine QRun_y (.int .i64 p.From) (by kernel_rfl) (Y_load1 (t := 2) (p := ⟨b1, 0, none⟩) (v := .int .i64 p.From) (by kernel_rfl) (fun w => by kernel_rfl) (H1.cell 0 rfl rfl)) ?_
    refine QRun_b [.int .i64 events, .int .i64 (w64 (events - 1))] 2 _ (by kernel_rfl) (fun w => by kernel_rfl) ?_
    refine QRun_y (.bool x1) (by kernel_rfl) (Y_callq (f := 78) (args := #[.int .i64 p.From, .int .i64 0, .int .i64 (w64 (events - 1))]) (v := .bool x1) (by kernel_rfl) (w_spec_l01In h1 p.From 0 (w64 (events - 1)) _ _ hx1)) ?_
    refine QRun_seq 12 [(2, .pointer (some ⟨b1, 0, none⟩)), (16, .bool x2)] ?_ ?_
    · rcases Bool.eq_false_or_eq_true x1 with hb1 | hb1
      · refine QRun_bool x1 true (by kernel_rfl) (fun w => by kernel_rfl) hb1 ?_
        have gx2 := (M.ite_some gx2).1 hb1
        obtain ⟨x3, hx2, gx2⟩ := M.bind_some gx2
        have gx2 := M.ret_some gx2
        refine QRun_b [.pointer (some ⟨b1, 1, none⟩)] 6 _ (by kernel_rfl) (fun w => by kernel_rfl) ?_
        refine QRun_y (.int .i64 p.To) (by kernel_rfl) (Y_load1 (t := 2) (p := ⟨b1, 1, none⟩) (v := .int .i64 p.To) (by kernel_rfl) (fun w => by kernel_rfl) (H1.cell 0 rfl rfl)) ?_
        refine QRun_b [.int .i64 events, .int .i64 (w64 (events - 1))] 8 _ (by kernel_rfl) (fun w => by kernel_rfl) ?_
        refine QRun_y (.bool x3) (by kernel_rfl) (Y_callq (f := 78) (args := #[.int .i64 p.To, .int .i64 0, .int .i64 (w64 (events - 1))]) (v := .bool x3) (by kernel_rfl) (w_spec_l01In h1 p.To 0 (w64 (events - 1)) _ _ hx2)) ?_
        refine QRun_bool x3 x2 (by kernel_rfl) (fun w => by kernel_rfl) gx2 ?_
        exact QRun_done [2, 16] (by kernel_rfl) (by kernel_rfl)
      · refine QRun_bool x1 false (by kernel_rfl) (fun w => by kernel_rfl) hb1 ?_
        have gx2 := M.ret_some ((M.ite_some gx2).2 hb1)
        refine QRun_n (by kernel_rfl) ?_
        refine QRun_n (by kernel_rfl) ?_
        refine QRun_n (by kernel_rfl) ?_
        refine QRun_n (by kernel_rfl) ?_
        refine QRun_n (by kernel_rfl) ?_
        refine QRun_bool false x2 (by kernel_rfl) (fun w => by kernel_rfl) gx2 ?_
        exact QRun_done [2, 16] (by kernel_rfl) (by kernel_rfl)
    refine QRun_seq 17 [(2, .pointer (some ⟨b1, 0, none⟩)), (21, .bool x4)] ?_ ?_
    · rcases Bool.eq_false_or_eq_true x2 with hb2 | hb2
      · refine QRun_bool x2 true (by kernel_rfl) (fun w => by kernel_rfl) hb2 ?_
        have gx4 := (M.ite_some gx4).1 hb2
        obtain ⟨x5, hx3, gx4⟩ := M.bind_some gx4
        have gx4 := M.ret_some gx4
        refine QRun_b [.pointer (some ⟨b1, 2, none⟩)] 13 _ (by kernel_rfl) (fun w => by kernel_rfl) ?_
        refine QRun_y (.int .i64 p.Delay) (by kernel_rfl) (Y_load1 (t := 2) (p := ⟨b1, 2, none⟩) (v := .int .i64 p.Delay) (by kernel_rfl) (fun w => by kernel_rfl) (H1.cell 0 rfl rfl)) ?_
        refine QRun_y (.bool x5) (by kernel_rfl) (Y_callq (f := 78) (args := #[.int .i64 p.Delay, .int .i64 0, .int .i64 1000]) (v := .bool x5) (by kernel_rfl) (w_spec_l01In h1 p.Delay 0 1000 _ _ hx3)) ?_
        refine QRun_bool x5 x4 (by kernel_rfl) (fun w => by kernel_rfl) gx4 ?_
        exact QRun_done [2, 21] (by kernel_rfl) (by kernel_rfl)
      · refine QRun_bool x2 false (by kernel_rfl) (fun w => by kernel_rfl) hb2 ?_
        have gx4 := M.ret_some ((M.ite_some gx4).2 hb2)
        refine QRun_n (by kernel_rfl) ?_
        refine QRun_n (by kernel_rfl) ?_
        refine QRun_n (by kernel_rfl) ?_
        refine QRun_bool false x4 (by kernel_rfl) (fun w => by kernel_rfl) gx4 ?_
        exact QRun_done [2, 21] (by kernel_rfl) (by kernel_rfl)
    refine QRun_seq 22 [(26, .bool x6)] ?_ ?_
    · rcases Bool.eq_false_or_eq_true x4 with hb3 | hb3
      · refine QRun_bool x4 true (by kernel_rfl) (fun w => by kernel_rfl) hb3 ?_
        have gx6 := (M.ite_some gx6).1 hb3
        obtain ⟨x7, hx4, gx6⟩ := M.bind_some gx6
        have gx6 := M.ret_some gx6
        refine QRun_b [.pointer (some ⟨b1, 3, none⟩)] 18 _ (by kernel_rfl) (fun w => by kernel_rfl) ?_
        refine QRun_y (.int .i64 p.Tokens) (by kernel_rfl) (Y_load1 (t := 2) (p := ⟨b1, 3, none⟩) (v := .int .i64 p.Tokens) (by kernel_rfl) (fun w => by kernel_rfl) (H1.cell 0 rfl rfl)) ?_
        refine QRun_y (.bool x7) (by kernel_rfl) (Y_callq (f := 78) (args := #[.int .i64 p.Tokens, .int .i64 0, .int .i64 5]) (v := .bool x7) (by kernel_rfl) (w_spec_l01In h1 p.Tokens 0 5 _ _ hx4)) ?_
        refine QRun_bool x7 x6 (by kernel_rfl) (fun w => by kernel_rfl) gx6 ?_
        exact QRun_done [26] (by kernel_rfl) (by kernel_rfl)
      · refine QRun_bool x4 false (by kernel_rfl) (fun w => by kernel_rfl) hb3 ?_
        have gx6 := M.ret_some ((M.ite_some gx6).2 hb3)
        refine QRun_n (by kernel_rfl) ?_
        refine QRun_n (by kernel_rfl) ?_
        refine QRun_n (by kernel_rfl) ?_
        refine QRun_bool false x6 (by kernel_rfl) (fun w => by kernel_rfl) gx6 ?_
        exact QRun_done [26] (by kernel_rfl) (by kernel_rfl)
    refine QRun_b [.bool x6] 22 _ (by kernel_rfl) (fun w => by kernel_rfl) ?_
    exact QRun_done [4] (by kernel_rfl) (by kernel_rfl)
  have hF := M.ret_some hF
  subst hF
  have H2 : Hold h h1 [] := H1.pick [] (by kernel_rfl)
  exact Run_ret1 rfl (ResV_tmp (v := .bool x6) (by kernel_rfl)) ⟨rfl, H2⟩

set_option maxRecDepth 100000 in
set_option maxHeartbeats 4000000 in
theorem w_spec_IsEventGraph (h : Heap) (g : TGraph) (agPlaces : Option Addr) (cgPlaces : Nat) (rgPlaces : Rd cd58 h (Lt h) agPlaces cgPlaces g.Places) (n : Nat) (r : Bool) (hF : spec_IsEventGraph g n = some r) :
    Fn Try.prog 70 #[.agg #[.int .i64 g.Events, .slice agPlaces g.Places.length cgPlaces]] h fun v h' => v = .bool r ∧ Hold h h' [] := by
  unfold spec_IsEventGraph at hF
  refine Fn_enter (args := [.agg #[.int .i64 g.Events, .slice agPlaces g.Places.length cgPlaces]]) Try.func70 rfl (by kernel_rfl) (by kernel_rfl) (fun w0 _ => ?_)
  have H0 := Hold.init h
  refine Run_seq ?_
  refine Run_ops ?_
  refine Run_E (by kernel_rfl) ?_
  refine E_box (ty := 30) (cs := [.int .i64 g.Events, .slice agPlaces g.Places.length cgPlaces]) H0 (fun w => by kernel_rfl) (fun b1 h1 H1 => ?_)
  refine Run_b [.bool false] 1 _ (by kernel_rfl) (fun w => by kernel_rfl) ?_
  refine Run_nil (by kernel_rfl) ?_
  refine Run_keep [1] (L' := [(1, .pointer (some ⟨b1, 0, none⟩))]) (by kernel_rfl) ?_
  refine Run_seq ?_
  refine Run_seq ?_
  refine Run_reg 1 (by kernel_rfl) (L' := [(1, .pointer (some ⟨b1, 0, none⟩)), (3, .int .i64 0)]) ?_ ?_
  · refine QRun_b [.int .i64 0] 0 _ (by kernel_rfl) (fun w => by kernel_rfl) ?_
    exact QRun_done [1, 3] (by kernel_rfl) (by kernel_rfl)
  obtain ⟨x1, gx1, hF⟩ := M.bind_some hF
  refine Run_join (fun L' h' => ∃ (s2 : Int), x1 = .inl s2 ∧ L' = [(1, .pointer (some ⟨b1, 0, none⟩))] ∧ Hold h h' [box b1 30 [.int .i64 g.Events, .slice agPlaces g.Places.length cgPlaces]]) ?_ ?_
  · rintro _ h3 ⟨s2, es2, rfl, H3⟩
    have hF := M.cont_inl' hF es2
    refine Run_seq ?_
    obtain ⟨x4, hx3, hF⟩ := M.bind_some hF
    refine Run_reg 10 (by kernel_rfl) (L' := [(2, .bool (x4 && (decide ((g.Places.length : Int) ≤ 30))))]) ?_ ?_
    · refine QRun_b [.pointer (some ⟨b1, 0, none⟩)] 0 _ (by kernel_rfl) (fun w => by kernel_rfl) ?_
      refine QRun_y (.int .i64 g.Events) (by kernel_rfl) (Y_load1 (t := 2) (p := ⟨b1, 0, none⟩) (v := .int .i64 g.Events) (by kernel_rfl) (fun w => by kernel_rfl) (H3.cell 0 rfl rfl)) ?_
      refine QRun_y (.bool x4) (by kernel_rfl) (Y_callq (f := 78) (args := #[.int .i64 g.Events, .int .i64 1, .int .i64 10]) (v := .bool x4) (by kernel_rfl) (w_spec_l01In h3 g.Events 1 10 _ _ hx3)) ?_
      refine QRun_seq 9 [(28, .bool (x4 && (decide ((g.Places.length : Int) ≤ 30))))] ?_ ?_
      · rcases Bool.eq_false_or_eq_true x4 with hb3 | hb3
        · refine QRun_bool x4 true (by kernel_rfl) (fun w => by kernel_rfl) hb3 ?_
          refine QRun_b [.pointer (some ⟨b1, 1, none⟩)] 4 _ (by kernel_rfl) (fun w => by kernel_rfl) ?_
          refine QRun_y (.slice agPlaces g.Places.length cgPlaces) (by kernel_rfl) (Y_load1 (t := 28) (p := ⟨b1, 1, none⟩) (v := .slice agPlaces g.Places.length cgPlaces) (by kernel_rfl) (fun w => by kernel_rfl) (H3.cell 0 rfl rfl)) ?_
          refine QRun_b [.int .i64 (g.Places.length : Int), .bool (decide ((g.Places.length : Int) ≤ 30))] 6 _ (by kernel_rfl) (fun w => by kernel_rfl) ?_
          refine QRun_bool (decide ((g.Places.length : Int) ≤ 30)) (x4 && (decide ((g.Places.length : Int) ≤ 30))) (by kernel_rfl) (fun w => by kernel_rfl) (by rw [hb3]; rfl) ?_
          exact QRun_done [28] (by kernel_rfl) (by kernel_rfl)
        · refine QRun_bool x4 false (by kernel_rfl) (fun w => by kernel_rfl) hb3 ?_
          refine QRun_n (by kernel_rfl) ?_
          refine QRun_n (by kernel_rfl) ?_
          refine QRun_n (by kernel_rfl) ?_
          refine QRun_n (by kernel_rfl) ?_
          refine QRun_bool false (x4 && (decide ((g.Places.length : Int) ≤ 30))) (by kernel_rfl) (fun w => by kernel_rfl) (by rw [hb3]; rfl) ?_
          exact QRun_done [28] (by kernel_rfl) (by kernel_rfl)
      refine QRun_b [.bool (x4 && (decide ((g.Places.length : Int) ≤ 30)))] 9 _ (by kernel_rfl) (fun w => by kernel_rfl) ?_
      exact QRun_done [2] (by kernel_rfl) (by kernel_rfl)
    have hF := M.ret_some hF
    subst hF
    have H7 : Hold h h3 [] := H3.pick [] (by kernel_rfl)
    exact Run_ret1 rfl (ResV_tmp (v := .bool (x4 && (decide ((g.Places.length : Int) ≤ 30)))) (by kernel_rfl)) ⟨rfl, H7⟩
  · refine Run_block ?_
    refine Run_keep [1, 3] (L' := [(1, .pointer (some ⟨b1, 0, none⟩)), (3, .int .i64 0)]) (by kernel_rfl) ?_
    refine Run_loop (fun m L' h' => ∃ (s1 : Int), M.loopN _ n m s1 = some x1 ∧ L' = [(1, .pointer (some ⟨b1, 0, none⟩)), (3, .int .i64 s1)] ∧ Hold h h' [box b1 30 [.int .i64 g.Events, .slice agPlaces g.Places.length cgPlaces]]) n ⟨0, gx1, rfl, H1⟩ ?_
    rintro my1 _ h2 ⟨s1, gx1, rfl, H2⟩
    obtain ⟨my1, y1, rfl, hB1, hgoy1, houty1⟩ := M.loop_some gx1
    refine Run_seq ?_
    refine Run_seq ?_
    refine Run_reg 5 (by kernel_rfl) (L' := [(1, .pointer (some ⟨b1, 0, none⟩)), (3, .int .i64 s1), (8, .bool (decide (s1 < (g.Places.length : Int))))]) ?_ ?_
    · refine QRun_b [.int .i64 s1, .pointer (some ⟨b1, 1, none⟩)] 0 _ (by kernel_rfl) (fun w => by kernel_rfl) ?_
      refine QRun_y (.slice agPlaces g.Places.length cgPlaces) (by kernel_rfl) (Y_load1 (t := 28) (p := ⟨b1, 1, none⟩) (v := .slice agPlaces g.Places.length cgPlaces) (by kernel_rfl) (fun w => by kernel_rfl) (H2.cell 0 rfl rfl)) ?_
      refine QRun_b [.int .i64 (g.Places.length : Int), .bool (decide (s1 < (g.Places.length : Int)))] 3 _ (by kernel_rfl) (fun w => by kernel_rfl) ?_
      exact QRun_done [1, 3, 8] (by kernel_rfl) (by kernel_rfl)
    refine Run_cond (b := decide (s1 < (g.Places.length : Int))) (by kernel_rfl) (fun hb1 => ?_) (fun hb1 => ?_)
    · have hB1 := (M.ite_some hB1).1 hb1
      refine Run_skip ?_
      refine Run_seq ?_
      refine Run_block ?_
      refine Run_seq ?_
      obtain ⟨x2, hx1, hB1⟩ := M.bind_some hB1
      obtain ⟨hx1l, hx1u, hx1⟩ := M.idx_some hx1
      obtain ⟨x3, hx2, hB1⟩ := M.bind_some hB1
      refine Run_drawC (j := 9) (C := fun x => Hold h x [box b1 30 [.int .i64 g.Events, .slice agPlaces g.Places.length cgPlaces]]) mixed (by kernel_rfl) (by kernel_rfl) H2 (L' := [(1, .pointer (some ⟨b1, 0, none⟩)), (3, .int .i64 s1), (19, .bool (!x3))]) ?_ (fun h4 H4 => ?_)
      · refine QRun_b [.pointer (some ⟨b1, 1, none⟩)] 0 _ (by kernel_rfl) (fun w => by kernel_rfl) ?_
        refine QRun_y (.slice agPlaces g.Places.length cgPlaces) (by kernel_rfl) (Y_cls fun hx Hx => (Y_load1 (t := 28) (p := ⟨b1, 1, none⟩) (v := .slice agPlaces g.Places.length cgPlaces) (by kernel_rfl) (fun w => by kernel_rfl) (Hx.cell 0 rfl rfl))) ?_
        refine QRun_b [.int .i64 s1] 2 _ (by kernel_rfl) (fun w => by kernel_rfl) ?_
        refine QRun_y (.pointer (some (adr agPlaces (s1.toNat * 4)))) (by kernel_rfl) (Y_cls fun hx Hx => (Y_idx (t := 28) (e := 58) (sz := 4) (a := agPlaces) (n := g.Places.length) (cap := cgPlaces) (kk := .i64) (i := s1) (by kernel_rfl) Try.underlying28 (by kernel_rfl) ((rgPlaces.at H2.ext).cell hx1).1 hx1l hx1u)) ?_
        refine QRun_y (.agg #[.int .i64 x2.From, .int .i64 x2.To, .int .i64 x2.Delay, .int .i64 x2.Tokens]) (by kernel_rfl) (Y_cls fun hx Hx => (Y_loadA (t := 58) (n := 4) (p := adr agPlaces (s1.toNat * 4)) (cs := [.int .i64 x2.From, .int .i64 x2.To, .int .i64 x2.Delay, .int .i64 x2.Tokens]) (by kernel_rfl) (fun w => by kernel_rfl) (by kernel_rfl) rfl (cd58_elem (rgPlaces.at Hx.ext) hx1))) ?_
        refine QRun_b [.pointer (some ⟨b1, 0, none⟩)] 5 _ (by kernel_rfl) (fun w => by kernel_rfl) ?_
        refine QRun_y (.int .i64 g.Events) (by kernel_rfl) (Y_cls fun hx Hx => (Y_load1 (t := 2) (p := ⟨b1, 0, none⟩) (v := .int .i64 g.Events) (by kernel_rfl) (fun w => by kernel_rfl) (Hx.cell 0 rfl rfl))) ?_
        refine QRun_y (.bool x3) (by kernel_rfl) (Y_call (f := 140) (args := #[.agg #[.int .i64 x2.From, .int .i64 x2.To, .int .i64 x2.Delay, .int .i64 x2.Tokens], .int .i64 g.Events]) (v := .bool x3) (by kernel_rfl) fun hx Hx => (w_spec_l11Place hx x2 g.Events _ _ hx2).mono fun _ _ ⟨e, H'⟩ => ⟨e, Hx.call H' rfl⟩) ?_
        refine QRun_b [.bool (!x3)] 8 _ (by kernel_rfl) (fun w => by kernel_rfl) ?_
        exact QRun_done [1, 3, 19] (by kernel_rfl) (by kernel_rfl)
      have H5 : Hold h h4 [box b1 30 [.int .i64 g.Events, .slice agPlaces g.Places.length cgPlaces]] := H4
      refine Run_cond (b := !x3) (by kernel_rfl) (fun hb2 => ?_) (fun hb2 => ?_)
      · have hB1 := (M.ite_some hB1).1 hb2
        refine Run_seq ?_
        refine Run_reg 1 (by kernel_rfl) (L' := [(2, .bool false)]) ?_ ?_
        · refine QRun_b [.bool false] 0 _ (by kernel_rfl) (fun w => by kernel_rfl) ?_
          exact QRun_done [2] (by kernel_rfl) (by kernel_rfl)
        have hB1 := M.ret_some hB1
        have gx1 := houty1 _ hB1.symm
        have hF := M.cont_inr' hF gx1
        have hF := M.ret_some hF
        subst hF
        have H6 : Hold h h4 [] := H5.pick [] (by kernel_rfl)
        exact Run_ret1 rfl (ResV_tmp (v := .bool false) (by kernel_rfl)) ⟨rfl, H6⟩
      · have hB1 := (M.ite_some hB1).2 hb2
        refine Run_skip ?_
        refine Run_blk ?_
        refine Run_reg 3 (by kernel_rfl) (L' := [(1, .pointer (some ⟨b1, 0, none⟩)), (3, .int .i64 (w64 (s1 + 1)))]) ?_ ?_
        · refine QRun_b [.int .i64 s1, .int .i64 (w64 (s1 + 1)), .int .i64 (w64 (s1 + 1))] 0 _ (by kernel_rfl) (fun w => by kernel_rfl) ?_
          exact QRun_done [1, 3] (by kernel_rfl) (by kernel_rfl)
        have hB1 := M.ret_some hB1
        have gx1 := hgoy1 _ hB1.symm
        exact Run_again [1, 3] (by kernel_rfl) my1 (Nat.lt_succ_self _) ⟨(w64 (s1 + 1)), gx1, rfl, H5⟩
    · have hB1 := (M.ite_some hB1).2 hb1
      refine Run_exit (k' := _) rfl ?_
      have hB1 := M.ret_some hB1
      have gx1 := houty1 _ hB1.symm
      subst gx1
      exact Run_fall [1] (by kernel_rfl) ⟨s1, rfl, rfl, H2⟩

set_option maxRecDepth 100000 in
set_option maxHeartbeats 4000000 in
theorem w_spec_l02Bottom (h : Heap) (m_ : Int) (n_ : Int) (n : Nat) (r : (List (List Int))) (hF : spec_l02Bottom m_ n_ n = some r) :
    Fn Try.prog 84 #[.int .i64 m_, .int .i64 n_] h fun v h' => ∃ (a0 : Option Addr) (c0 : Nat), v = .slice a0 r.length c0 ∧ Hold h h' [own cd39 a0 r.length c0 r] := by
  unfold spec_l02Bottom at hF
  refine Fn_enter (args := [.int .i64 m_, .int .i64 n_]) Try.func84 rfl (by kernel_rfl) (by kernel_rfl) (fun w0 _ => ?_)
  have H0 := Hold.init h
  refine Run_seq ?_
  refine Run_reg 1 (by kernel_rfl) (L' := [(0, .int .i64 m_), (1, .int .i64 n_)]) ?_ ?_
  · refine QRun_b [.slice none 0 0] 0 _ (by kernel_rfl) (fun w => by kernel_rfl) ?_
    exact QRun_done [0, 1] (by kernel_rfl) (by kernel_rfl)
  refine Run_seq ?_
  refine Run_ops ?_
  refine Run_E (by kernel_rfl) ?_
  refine E_lit (C := cd39) (n := 0) (l := []) (cs := []) H0 (fun w => by kernel_rfl) (Enc.nil _ _) rfl (by decide) (fun a1 h1 H1 => ?_)
  refine Run_b [.slice a1 0 0] 1 _ (by kernel_rfl) (fun w => by kernel_rfl) ?_
  refine Run_nil (by kernel_rfl) ?_
  refine Run_keep [0, 1, 5] (L' := [(0, .int .i64 m_), (1, .int .i64 n_), (5, .slice a1 0 0)]) (by kernel_rfl) ?_
  refine Run_seq ?_
  refine Run_seq ?_
  refine Run_reg 1 (by kernel_rfl) (L' := [(0, .int .i64 m_), (1, .int .i64 n_), (5, .slice a1 0 0), (6, .int .i64 0)]) ?_ ?_
  · refine QRun_b [.int .i64 0] 0 _ (by kernel_rfl) (fun w => by kernel_rfl) ?_
    exact QRun_done [0, 1, 5, 6] (by kernel_rfl) (by kernel_rfl)
  obtain ⟨x1, gx1, hF⟩ := M.bind_some hF
  obtain ⟨hloy1, hhiy1, gx1⟩ := M.for_start gx1
  refine Run_join (fun L' h' => ∃ (a3 : Option Addr) (c2 : Nat), L' = [(5, .slice a3 x1.length c2)] ∧ Hold h h' [own cd39 a3 x1.length c2 x1]) ?_ ?_
  · rintro _ h3 ⟨a3, c2, rfl, H3⟩
    refine Run_seq ?_
    refine Run_reg 2 (by kernel_rfl) (L' := [(4, .slice a3 x1.length c2)]) ?_ ?_
    · refine QRun_b [.slice a3 x1.length c2, .slice a3 x1.length c2] 0 _ (by kernel_rfl) (fun w => by kernel_rfl) ?_
      exact QRun_done [4] (by kernel_rfl) (by kernel_rfl)
    have hF := M.ret_some hF
    subst hF
    exact Run_ret1 rfl (ResV_tmp (v := .slice a3 x1.length c2) (by kernel_rfl)) ⟨a3, c2, rfl, H3⟩
  · refine Run_block ?_
    have hn2 := (H1.len 0 rfl)
    have H23 : Hold h h1 [own cd39 a1 (([] : List (List Int)).length) 0 ([] : List (List Int))] := by rw [hn2]; exact H1
    refine Run_keep [0, 1, 5, 6] (L' := [(0, .int .i64 m_), (1, .int .i64 n_), (5, .slice a1 (([] : List (List Int)).length) 0), (6, .int .i64 0)]) (by rw [hn2]; kernel_rfl) ?_
    refine Run_loop (fun m L' h' => ∃ (i1 : Int) (s1 : (List (List Int))) (a2 : Option Addr) (c1 : Nat), 0 ≤ i1 ∧ M.forN m_ _ _ n m i1 s1 = some x1 ∧ L' = [(0, .int .i64 m_), (1, .int .i64 n_), (5, .slice a2 s1.length c1), (6, .int .i64 i1)] ∧ Hold h h' [own cd39 a2 s1.length c1 s1]) (m_ - 0 : Int).toNat ⟨0, ([] : List (List Int)), a1, 0, Int.le_refl _, gx1, rfl, H23⟩ ?_
    rintro my1 _ h2 ⟨i1, s1, a2, c1, hloy1', gx1, rfl, H2⟩
    refine Run_seq ?_
    refine Run_seq ?_
    refine Run_reg 3 (by kernel_rfl) (L' := [(0, .int .i64 m_), (1, .int .i64 n_), (5, .slice a2 s1.length c1), (6, .int .i64 i1), (12, .bool (decide (i1 < m_)))]) ?_ ?_
    · refine QRun_b [.int .i64 i1, .int .i64 m_, .bool (decide (i1 < m_))] 0 _ (by kernel_rfl) (fun w => by kernel_rfl) ?_
      exact QRun_done [0, 1, 5, 6, 12] (by kernel_rfl) (by kernel_rfl)
    refine Run_cond (b := decide (i1 < m_)) (by kernel_rfl) (fun hb1 => ?_) (fun hb1 => ?_)
    · obtain ⟨my1, y1, rfl, hB1, hgoy1, houty1⟩ := M.for_go gx1 hb1
      have hlty1 := of_decide_eq_true hb1
      refine Run_skip ?_
      refine Run_seq ?_
      refine Run_block ?_
      refine Run_seq ?_
      refine Run_ops ?_
      refine Run_E (by kernel_rfl) ?_
      refine E_lit (C := cd2) (n := 0) (l := ([] : List Int)) (cs := []) H2 (fun w => by kernel_rfl) (Enc.nil _ _) rfl (by decide) (fun a4 h4 H4 => ?_)
      refine Run_b [.slice a4 0 0] 1 _ (by kernel_rfl) (fun w => by kernel_rfl) ?_
      refine Run_nil (by kernel_rfl) ?_
      refine Run_keep [0, 1, 5, 6, 7] (L' := [(0, .int .i64 m_), (1, .int .i64 n_), (5, .slice a2 s1.length c1), (6, .int .i64 i1), (7, .slice a4 0 0)]) (by kernel_rfl) ?_
      refine Run_seq ?_
      refine Run_seq ?_
      refine Run_reg 1 (by kernel_rfl) (L' := [(0, .int .i64 m_), (1, .int .i64 n_), (5, .slice a2 s1.length c1), (6, .int .i64 i1), (7, .slice a4 0 0), (8, .int .i64 0)]) ?_ ?_
      · refine QRun_b [.int .i64 0] 0 _ (by kernel_rfl) (fun w => by kernel_rfl) ?_
        exact QRun_done [0, 1, 5, 6, 7, 8] (by kernel_rfl) (by kernel_rfl)
      obtain ⟨x2, gx2, hB1⟩ := M.bind_some hB1
      obtain ⟨hloy2, hhiy2, gx2⟩ := M.for_start gx2
      refine Run_join (fun L' h' => ∃ (a6 : Option Addr) (c4 : Nat), L' = [(0, .int .i64 m_), (1, .int .i64 n_), (5, .slice a2 s1.length c1), (6, .int .i64 i1), (7, .slice a6 x2.length c4)] ∧ Hold h h' [own cd39 a2 s1.length c1 s1, own cd2 a6 x2.length c4 x2]) ?_ ?_
      · rintro _ h6 ⟨a6, c4, rfl, H6⟩
        refine Run_ops ?_
        refine Run_b [.slice a2 s1.length c1, .slice a6 x2.length c4] 0 _ (by kernel_rfl) (fun w => by kernel_rfl) ?_
        have H16 : Hold h h6 [own cd2 a6 x2.length c4 x2, own cd39 a2 s1.length c1 s1] := H6.pick [1, 0] (by kernel_rfl)
        refine Run_E (by kernel_rfl) ?_
        refine E_lit1 (ey := 39) (n := x2.length) H16 (fun w => by kernel_rfl) rfl (fun a9 h9 H15 => ?_)
        obtain ⟨l2, hl2, hB1⟩ := M.bind_some hB1
        have hl2 := M.app_some hl2
        have H17 : Hold h h9 [own cd39 a2 s1.length c1 s1, own cd39 a9 1 1 [x2]] := H15.pick [1, 0] (by kernel_rfl)
        have H18 : Hold h h9 [own cd39 a9 1 1 [x2], own cd39 a2 s1.length c1 s1] := H17.pick [1, 0] (by kernel_rfl)
        have H19 : Hold h h9 [own cd39 a2 s1.length c1 s1, own cd39 a9 1 1 [x2]] := H18.pick [1, 0] (by kernel_rfl)
        refine Run_E (by kernel_rfl) ?_
        refine E_app (C := cd39) (t := 37) (ty := 37) (n := s1.length) (m := 1) H19 cd39_ti rfl Try.underlying37 (by decide) (by kernel_rfl) hl2 (fun a10 c6 h10 H20 => ?_)
        refine Run_b [.slice a10 l2.length c6] 4 _ (by kernel_rfl) (fun w => by kernel_rfl) ?_
        refine Run_nil (by kernel_rfl) ?_
        refine Run_keep [0, 1, 5, 6] (L' := [(0, .int .i64 m_), (1, .int .i64 n_), (5, .slice a10 l2.length c6), (6, .int .i64 i1)]) (by kernel_rfl) ?_
        refine Run_blk ?_
        refine Run_reg 3 (by kernel_rfl) (L' := [(0, .int .i64 m_), (1, .int .i64 n_), (5, .slice a10 l2.length c6), (6, .int .i64 (i1 + 1))]) ?_ ?_
        · refine QRun_b [.int .i64 i1] 0 _ (by kernel_rfl) (fun w => by kernel_rfl) ?_
          refine QRun_y (.int .i64 (i1 + 1)) (by kernel_rfl) (Y_eq (v := .int .i64 (w64 (i1 + 1))) (Y_pure (fun w => by kernel_rfl)) (by rw [w64_eq _ (by omega)])) ?_
          refine QRun_b [.int .i64 (i1 + 1)] 2 _ (by kernel_rfl) (fun w => by kernel_rfl) ?_
          exact QRun_done [0, 1, 5, 6] (by kernel_rfl) (by kernel_rfl)
        have hB1 := M.ret_some hB1
        have gx1 := hgoy1 _ hB1.symm
        exact Run_again [0, 1, 5, 6] (by kernel_rfl) my1 (Nat.lt_succ_self _) ⟨i1 + 1, l2, a10, c6, by omega, gx1, rfl, H20⟩
      · refine Run_block ?_
        have hn1 := (H4.len 0 rfl)
        have H21 : Hold h h4 [own cd2 a4 (([] : List Int).length) 0 ([] : List Int), own cd39 a2 s1.length c1 s1] := by rw [hn1]; exact H4
        have H22 : Hold h h4 [own cd39 a2 s1.length c1 s1, own cd2 a4 (([] : List Int).length) 0 ([] : List Int)] := H21.pick [1, 0] (by kernel_rfl)
        refine Run_keep [0, 1, 5, 6, 7, 8] (L' := [(0, .int .i64 m_), (1, .int .i64 n_), (5, .slice a2 s1.length c1), (6, .int .i64 i1), (7, .slice a4 (([] : List Int).length) 0), (8, .int .i64 0)]) (by rw [hn1]; kernel_rfl) ?_
        refine Run_loop (fun m L' h' => ∃ (i2 : Int) (s2 : (List Int)) (a5 : Option Addr) (c3 : Nat), 0 ≤ i2 ∧ M.forN n_ _ _ n m i2 s2 = some x2 ∧ L' = [(0, .int .i64 m_), (1, .int .i64 n_), (5, .slice a2 s1.length c1), (6, .int .i64 i1), (7, .slice a5 s2.length c3), (8, .int .i64 i2)] ∧ Hold h h' [own cd39 a2 s1.length c1 s1, own cd2 a5 s2.length c3 s2]) (n_ - 0 : Int).toNat ⟨0, ([] : List Int), a4, 0, Int.le_refl _, gx2, rfl, H22⟩ ?_
        rintro my2 _ h5 ⟨i2, s2, a5, c3, hloy2', gx2, rfl, H5⟩
        refine Run_seq ?_
        refine Run_seq ?_
        refine Run_reg 3 (by kernel_rfl) (L' := [(0, .int .i64 m_), (1, .int .i64 n_), (5, .slice a2 s1.length c1), (6, .int .i64 i1), (7, .slice a5 s2.length c3), (8, .int .i64 i2), (18, .bool (decide (i2 < n_)))]) ?_ ?_
        · refine QRun_b [.int .i64 i2, .int .i64 n_, .bool (decide (i2 < n_))] 0 _ (by kernel_rfl) (fun w => by kernel_rfl) ?_
          exact QRun_done [0, 1, 5, 6, 7, 8, 18] (by kernel_rfl) (by kernel_rfl)
        refine Run_cond (b := decide (i2 < n_)) (by kernel_rfl) (fun hb2 => ?_) (fun hb2 => ?_)
        · obtain ⟨my2, y2, rfl, hB2, hgoy2, houty2⟩ := M.for_go gx2 hb2
          have hlty2 := of_decide_eq_true hb2
          refine Run_skip ?_
          refine Run_seq ?_
          refine Run_block ?_
          refine Run_ops ?_
          refine Run_b [.slice a5 s2.length c3] 0 _ (by kernel_rfl) (fun w => by kernel_rfl) ?_
          refine Run_E (by kernel_rfl) ?_
          refine E_lit (C := cd2) (n := 1) (l := ([(-1000000000000000)] : List Int)) (cs := [.int .i64 (-1000000000000000)]) H5 (fun w => by kernel_rfl) (Enc.consE (cd2_own (-1000000000000000) _) (Enc.nil _ _) rfl) rfl (by decide) (fun a7 h7 H7 => ?_)
          obtain ⟨l1, hl1, hB2⟩ := M.bind_some hB2
          have hl1 := M.app_some hl1
          have H8 : Hold h h7 [own cd2 a5 s2.length c3 s2, own cd2 a7 1 1 ([(-1000000000000000)] : List Int), own cd39 a2 s1.length c1 s1] := H7.pick [2, 0, 1] (by kernel_rfl)
          have H9 : Hold h h7 [own cd2 a7 1 1 ([(-1000000000000000)] : List Int), own cd2 a5 s2.length c3 s2, own cd39 a2 s1.length c1 s1] := H8.pick [1, 0, 2] (by kernel_rfl)
          have H10 : Hold h h7 [own cd2 a5 s2.length c3 s2, own cd2 a7 1 1 ([(-1000000000000000)] : List Int), own cd39 a2 s1.length c1 s1] := H9.pick [1, 0, 2] (by kernel_rfl)
          refine Run_E (by kernel_rfl) ?_
          refine E_app (C := cd2) (t := 39) (ty := 39) (n := s2.length) (m := 1) H10 cd2_ti rfl Try.underlying39 (by decide) (by kernel_rfl) hl1 (fun a8 c5 h8 H11 => ?_)
          refine Run_b [.slice a8 l1.length c5] 3 _ (by kernel_rfl) (fun w => by kernel_rfl) ?_
          refine Run_nil (by kernel_rfl) ?_
          refine Run_keep [0, 1, 5, 6, 7, 8] (L' := [(0, .int .i64 m_), (1, .int .i64 n_), (5, .slice a2 s1.length c1), (6, .int .i64 i1), (7, .slice a8 l1.length c5), (8, .int .i64 i2)]) (by kernel_rfl) ?_
          refine Run_blk ?_
          refine Run_reg 3 (by kernel_rfl) (L' := [(0, .int .i64 m_), (1, .int .i64 n_), (5, .slice a2 s1.length c1), (6, .int .i64 i1), (7, .slice a8 l1.length c5), (8, .int .i64 (i2 + 1))]) ?_ ?_
          · refine QRun_b [.int .i64 i2] 0 _ (by kernel_rfl) (fun w => by kernel_rfl) ?_
            refine QRun_y (.int .i64 (i2 + 1)) (by kernel_rfl) (Y_eq (v := .int .i64 (w64 (i2 + 1))) (Y_pure (fun w => by kernel_rfl)) (by rw [w64_eq _ (by omega)])) ?_
            refine QRun_b [.int .i64 (i2 + 1)] 2 _ (by kernel_rfl) (fun w => by kernel_rfl) ?_
            exact QRun_done [0, 1, 5, 6, 7, 8] (by kernel_rfl) (by kernel_rfl)
          have H12 : Hold h h8 [own cd39 a2 s1.length c1 s1, own cd2 a8 l1.length c5 l1] := H11.pick [1, 0] (by kernel_rfl)
          have hB2 := M.ret_some hB2
          have gx2 := hgoy2 _ hB2.symm
          exact Run_again [0, 1, 5, 6, 7, 8] (by kernel_rfl) my2 (Nat.lt_succ_self _) ⟨i2 + 1, l1, a8, c5, by omega, gx2, rfl, H12⟩
        · have gx2 := M.for_end gx2 hb2
          subst gx2
          refine Run_exit (k' := _) rfl ?_
          have H13 : Hold h h5 [own cd2 a5 s2.length c3 s2, own cd39 a2 s1.length c1 s1] := H5.pick [1, 0] (by kernel_rfl)
          have H14 : Hold h h5 [own cd39 a2 s1.length c1 s1, own cd2 a5 s2.length c3 s2] := H13.pick [1, 0] (by kernel_rfl)
          exact Run_fall [0, 1, 5, 6, 7] (by kernel_rfl) ⟨a5, c3, rfl, H14⟩
    · have gx1 := M.for_end gx1 hb1
      subst gx1
      refine Run_exit (k' := _) rfl ?_
      exact Run_fall [5] (by kernel_rfl) ⟨a2, c1, rfl, H2⟩

set_option maxRecDepth 100000 in
set_option maxHeartbeats 4000000 in
theorem w_spec_l12Tokens (h : Heap) (g : TGraph) (agPlaces : Option Addr) (cgPlaces : Nat) (rgPlaces : Rd cd58 h (Lt h) agPlaces cgPlaces g.Places) (n : Nat) (r : (List (List Int))) (hF : spec_l12Tokens g n = some r) :
    Fn Try.prog 72 #[.agg #[.int .i64 g.Events, .slice agPlaces g.Places.length cgPlaces]] h fun v h' => ∃ (a0 : Option Addr) (c0 : Nat), v = .slice a0 r.length c0 ∧ Hold h h' [own cd39 a0 r.length c0 r] := by
  unfold spec_l12Tokens at hF
  refine Fn_enter (args := [.agg #[.int .i64 g.Events, .slice agPlaces g.Places.length cgPlaces]]) Try.func72 rfl (by kernel_rfl) (by kernel_rfl) (fun w0 _ => ?_)
  have H0 := Hold.init h
  refine Run_seq ?_
  refine Run_ops ?_
  refine Run_E (by kernel_rfl) ?_
  refine E_box (ty := 30) (cs := [.int .i64 g.Events, .slice agPlaces g.Places.length cgPlaces]) H0 (fun w => by kernel_rfl) (fun b1 h1 H1 => ?_)
  refine Run_b [.slice none 0 0] 1 _ (by kernel_rfl) (fun w => by kernel_rfl) ?_
  refine Run_nil (by kernel_rfl) ?_
  refine Run_keep [1] (L' := [(1, .pointer (some ⟨b1, 0, none⟩))]) (by kernel_rfl) ?_
  refine Run_seq ?_
  refine Run_ops ?_
  refine Run_b [.pointer (some ⟨b1, 0, none⟩)] 0 _ (by kernel_rfl) (fun w => by kernel_rfl) ?_
  refine Run_y (.int .i64 g.Events) (by kernel_rfl) (Y_load1 (t := 2) (p := ⟨b1, 0, none⟩) (v := .int .i64 g.Events) (by kernel_rfl) (fun w => by kernel_rfl) (H1.cell 0 rfl rfl)) ?_
  refine Run_b [.pointer (some ⟨b1, 0, none⟩)] 2 _ (by kernel_rfl) (fun w => by kernel_rfl) ?_
  refine Run_y (.int .i64 g.Events) (by kernel_rfl) (Y_load1 (t := 2) (p := ⟨b1, 0, none⟩) (v := .int .i64 g.Events) (by kernel_rfl) (fun w => by kernel_rfl) (H1.cell 0 rfl rfl)) ?_
  obtain ⟨x1, hx1, hF⟩ := M.bind_some hF
  refine Run_E (by kernel_rfl) ?_
  refine E_call (f := 84) (args := #[.int .i64 g.Events, .int .i64 g.Events]) (w_spec_l02Bottom h1 g.Events g.Events _ _ hx1) (by kernel_rfl) (fun v1 h2 hp1 => ?_)
  obtain ⟨a1, c1, rfl, H2⟩ := hp1
  have H3 : Hold h h2 [own cd39 a1 x1.length c1 x1, box b1 30 [.int .i64 g.Events, .slice agPlaces g.Places.length cgPlaces]] := H1.call H2 rfl
  refine Run_b [.slice a1 x1.length c1] 5 _ (by kernel_rfl) (fun w => by kernel_rfl) ?_
  refine Run_nil (by kernel_rfl) ?_
  refine Run_keep [1, 3] (L' := [(1, .pointer (some ⟨b1, 0, none⟩)), (3, .slice a1 x1.length c1)]) (by kernel_rfl) ?_
  refine Run_seq ?_
  refine Run_seq ?_
  refine Run_reg 1 (by kernel_rfl) (L' := [(1, .pointer (some ⟨b1, 0, none⟩)), (3, .slice a1 x1.length c1), (4, .int .i64 0)]) ?_ ?_
  · refine QRun_b [.int .i64 0] 0 _ (by kernel_rfl) (fun w => by kernel_rfl) ?_
    exact QRun_done [1, 3, 4] (by kernel_rfl) (by kernel_rfl)
  obtain ⟨x2, gx2, hF⟩ := M.bind_some hF
  refine Run_join (fun L' h' => L' = [(3, .slice a1 x1.length c1)] ∧ Hold h h' [own cd39 a1 x1.length c1 x2.1]) ?_ ?_
  · rintro _ h4 ⟨rfl, H5⟩
    refine Run_seq ?_
    refine Run_reg 2 (by kernel_rfl) (L' := [(2, .slice a1 x1.length c1)]) ?_ ?_
    · refine QRun_b [.slice a1 x1.length c1, .slice a1 x1.length c1] 0 _ (by kernel_rfl) (fun w => by kernel_rfl) ?_
      exact QRun_done [2] (by kernel_rfl) (by kernel_rfl)
    have hF := M.ret_some hF
    subst hF
    have H22 := H5.norm
    exact Run_ret1 rfl (ResV_tmp (v := .slice a1 x1.length c1) (by kernel_rfl)) ⟨a1, c1, (by simp only [(H5.len 0 rfl)]), H22⟩
  · refine Run_block ?_
    have H23 : Hold h h2 [box b1 30 [.int .i64 g.Events, .slice agPlaces g.Places.length cgPlaces], own cd39 a1 x1.length c1 x1] := H3.pick [1, 0] (by kernel_rfl)
    refine Run_keep [1, 3, 4] (L' := [(1, .pointer (some ⟨b1, 0, none⟩)), (3, .slice a1 x1.length c1), (4, .int .i64 0)]) (by kernel_rfl) ?_
    refine Run_loop (fun m L' h' => ∃ (s1 : (List (List Int)) × Int), M.loopN _ n m s1 = some x2 ∧ L' = [(1, .pointer (some ⟨b1, 0, none⟩)), (3, .slice a1 x1.length c1), (4, .int .i64 s1.2)] ∧ Hold h h' [box b1 30 [.int .i64 g.Events, .slice agPlaces g.Places.length cgPlaces], own cd39 a1 x1.length c1 s1.1]) n ⟨(x1, 0), gx2, rfl, H23⟩ ?_
    rintro my1 _ h3 ⟨s1, gx2, rfl, H4⟩
    obtain ⟨my1, y1, rfl, hB1, hgoy1, houty1⟩ := M.loop_some gx2
    refine Run_seq ?_
    refine Run_seq ?_
    refine Run_reg 5 (by kernel_rfl) (L' := [(1, .pointer (some ⟨b1, 0, none⟩)), (3, .slice a1 x1.length c1), (4, .int .i64 s1.2), (15, .bool (decide (s1.2 < (g.Places.length : Int))))]) ?_ ?_
    · refine QRun_b [.int .i64 s1.2, .pointer (some ⟨b1, 1, none⟩)] 0 _ (by kernel_rfl) (fun w => by kernel_rfl) ?_
      refine QRun_y (.slice agPlaces g.Places.length cgPlaces) (by kernel_rfl) (Y_load1 (t := 28) (p := ⟨b1, 1, none⟩) (v := .slice agPlaces g.Places.length cgPlaces) (by kernel_rfl) (fun w => by kernel_rfl) (H4.cell 0 rfl rfl)) ?_
      refine QRun_b [.int .i64 (g.Places.length : Int), .bool (decide (s1.2 < (g.Places.length : Int)))] 3 _ (by kernel_rfl) (fun w => by kernel_rfl) ?_
      exact QRun_done [1, 3, 4, 15] (by kernel_rfl) (by kernel_rfl)
    refine Run_cond (b := decide (s1.2 < (g.Places.length : Int))) (by kernel_rfl) (fun hb1 => ?_) (fun hb1 => ?_)
    · have hB1 := (M.ite_some hB1).1 hb1
      refine Run_skip ?_
      refine Run_seq ?_
      refine Run_block ?_
      refine Run_seq ?_
      refine Run_ops ?_
      obtain ⟨x3, hx2, hB1⟩ := M.bind_some hB1
      obtain ⟨hx2l, hx2u, hx2⟩ := M.idx_some hx2
      refine Run_b [.pointer (some ⟨b1, 1, none⟩)] 0 _ (by kernel_rfl) (fun w => by kernel_rfl) ?_
      refine Run_y (.slice agPlaces g.Places.length cgPlaces) (by kernel_rfl) (Y_load1 (t := 28) (p := ⟨b1, 1, none⟩) (v := .slice agPlaces g.Places.length cgPlaces) (by kernel_rfl) (fun w => by kernel_rfl) (H4.cell 0 rfl rfl)) ?_
      refine Run_b [.int .i64 s1.2] 2 _ (by kernel_rfl) (fun w => by kernel_rfl) ?_
      refine Run_y (.pointer (some (adr agPlaces (s1.2.toNat * 4)))) (by kernel_rfl) (Y_idx (t := 28) (e := 58) (sz := 4) (a := agPlaces) (n := g.Places.length) (cap := cgPlaces) (kk := .i64) (i := s1.2) (by kernel_rfl) Try.underlying28 (by kernel_rfl) ((rgPlaces.at H4.ext).cell hx2).1 hx2l hx2u) ?_
      refine Run_y (.agg #[.int .i64 x3.From, .int .i64 x3.To, .int .i64 x3.Delay, .int .i64 x3.Tokens]) (by kernel_rfl) (Y_loadA (t := 58) (n := 4) (p := adr agPlaces (s1.2.toNat * 4)) (cs := [.int .i64 x3.From, .int .i64 x3.To, .int .i64 x3.Delay, .int .i64 x3.Tokens]) (by kernel_rfl) (fun w => by kernel_rfl) (by kernel_rfl) rfl (cd58_elem (rgPlaces.at H4.ext) hx2)) ?_
      refine Run_E (by kernel_rfl) ?_
      refine E_box (ty := 58) (cs := [.int .i64 0, .int .i64 0, .int .i64 0, .int .i64 0]) H4 (fun w => by kernel_rfl) (fun b2 h5 H6 => ?_)
      refine Run_E (by kernel_rfl) ?_
      refine E_bput (t := 58) (off := 0) (us := [.int .i64 x3.From, .int .i64 x3.To, .int .i64 x3.Delay, .int .i64 x3.Tokens]) (v := .agg #[.int .i64 x3.From, .int .i64 x3.To, .int .i64 x3.Delay, .int .i64 x3.Tokens]) H6 (by kernel_rfl) (by kernel_rfl) rfl (by kernel_rfl) rfl (fun h6 H7 => ?_)
      refine Run_nil (by kernel_rfl) ?_
      refine Run_keep [1, 3, 4, 5] (L' := [(1, .pointer (some ⟨b1, 0, none⟩)), (3, .slice a1 x1.length c1), (4, .int .i64 s1.2), (5, .pointer (some ⟨b2, 0, none⟩))]) (by kernel_rfl) ?_
      obtain ⟨x4, hx3, hB1⟩ := M.bind_some hB1
      obtain ⟨hx3l, hx3u, hx3⟩ := M.idx_some hx3
      have H8 : Hold h h6 [own cd39 a1 x1.length c1 s1.1, box b2 58 [.int .i64 x3.From, .int .i64 x3.To, .int .i64 x3.Delay, .int .i64 x3.Tokens], box b1 30 [.int .i64 g.Events, .slice agPlaces g.Places.length cgPlaces]] := H7.pick [2, 0, 1] (by kernel_rfl)
      have H9 := H8.toRows
      obtain ⟨a2, c2, H10⟩ := H9.pinRow hx3
      have H11 : Hold h h6 [box b2 58 [.int .i64 x3.From, .int .i64 x3.To, .int .i64 x3.Delay, .int .i64 x3.Tokens], box b1 30 [.int .i64 g.Events, .slice agPlaces g.Places.length cgPlaces], rowsP cd2 39 a1 x1.length c1 s1.1 [(x3.To.toNat, a2, x4.length, c2, x4)]] := H10.pick [1, 2, 0] (by kernel_rfl)
      obtain ⟨x5, hx4, hB1⟩ := M.bind_some hB1
      obtain ⟨hx4l, hx4u, hx4⟩ := M.idx_some hx4
      have H12 : Hold h h6 [rowsP cd2 39 a1 x1.length c1 s1.1 [(x3.To.toNat, a2, x4.length, c2, x4)], box b2 58 [.int .i64 x3.From, .int .i64 x3.To, .int .i64 x3.Delay, .int .i64 x3.Tokens], box b1 30 [.int .i64 g.Events, .slice agPlaces g.Places.length cgPlaces]] := H11.pick [2, 0, 1] (by kernel_rfl)
      obtain ⟨a3, c3, H13⟩ := H12.pinRow hx4
      have H14 : Hold h h6 [box b2 58 [.int .i64 x3.From, .int .i64 x3.To, .int .i64 x3.Delay, .int .i64 x3.Tokens], box b1 30 [.int .i64 g.Events, .slice agPlaces g.Places.length cgPlaces], rowsP cd2 39 a1 x1.length c1 s1.1 [(x3.To.toNat, a3, x5.length, c3, x5), (x3.To.toNat, a2, x4.length, c2, x4)]] := H13.pick [1, 2, 0] (by kernel_rfl)
      obtain ⟨x6, hx5, hB1⟩ := M.bind_some hB1
      obtain ⟨hx5l, hx5u, hx5⟩ := M.idx_some hx5
      obtain ⟨x7, hx6, hB1⟩ := M.bind_some hB1
      obtain ⟨hx6l, hx6u, hx6⟩ := M.idx_some hx6
      refine Run_D (fun x => Hold h x [box b2 58 [.int .i64 x3.From, .int .i64 x3.To, .int .i64 x3.Delay, .int .i64 x3.Tokens], box b1 30 [.int .i64 g.Events, .slice agPlaces g.Places.length cgPlaces], rowsP cd2 39 a1 x1.length c1 s1.1 [(x3.To.toNat, a3, x5.length, c3, x5), (x3.To.toNat, a2, x4.length, c2, x4)]]) (fun x => Hold h x [box b2 58 [.int .i64 x3.From, .int .i64 x3.To, .int .i64 x3.Delay, .int .i64 x3.Tokens], box b1 30 [.int .i64 g.Events, .slice agPlaces g.Places.length cgPlaces], rowsP cd2 39 a1 x1.length c1 s1.1 [(x3.To.toNat, a3, x5.length, c3, x5), (x3.To.toNat, a2, x4.length, c2, x4)]]) mixed (by kernel_rfl) H14 Hold.stable (fun x Hy => (show Hold h x [box b2 58 [.int .i64 x3.From, .int .i64 x3.To, .int .i64 x3.Delay, .int .i64 x3.Tokens], box b1 30 [.int .i64 g.Events, .slice agPlaces g.Places.length cgPlaces], rowsP cd2 39 a1 x1.length c1 s1.1 [(x3.To.toNat, a3, x5.length, c3, x5), (x3.To.toNat, a2, x4.length, c2, x4)]] from Hy).pick [0, 1, 2] (by kernel_rfl)) ?_
      refine DR_b 20 [.slice a1 x1.length c1, .pointer (some ⟨b2, 1, none⟩)] 0 (by kernel_rfl) (by kernel_rfl) (by kernel_rfl) (fun w => by kernel_rfl) ?_
      refine DR_y 19 (i := 2) (.int .i64 x3.To) (by kernel_rfl) (by kernel_rfl) (by kernel_rfl) (fun hx Hx => (YE.of (Y_load1 (t := 2) (p := ⟨b2, 1, none⟩) (v := .int .i64 x3.To) (by kernel_rfl) (fun w => by kernel_rfl) (Hx.cell 0 rfl rfl)))) ?_
      refine DR_y 18 (i := 3) (.pointer (some (adr a1 (x3.To.toNat * 1)))) (by kernel_rfl) (by kernel_rfl) (by kernel_rfl) (fun hx Hx => (YE.of (Y_idx (t := 37) (e := 39) (sz := 1) (a := a1) (n := x1.length) (cap := c1) (kk := .i64) (i := x3.To) (by kernel_rfl) Try.underlying37 (by kernel_rfl) ((H7.rd 2 rfl).cell hx3).1 hx3l (by rw [← (H7.len 2 rfl)]; exact hx3u)))) ?_
      refine DR_y 17 (i := 4) (.slice a2 x4.length c2) (by kernel_rfl) (by kernel_rfl) (by kernel_rfl) (fun hx Hx => (YE.of (Y_load1 (t := 39) (p := adr a1 (x3.To.toNat * 1)) (v := .slice a2 x4.length c2) (by kernel_rfl) (fun w => by kernel_rfl) (Hx.cellPin 2 rfl 1 rfl)))) ?_
      refine DR_b 16 [.pointer (some ⟨b2, 0, none⟩)] 5 (by kernel_rfl) (by kernel_rfl) (by kernel_rfl) (fun w => by kernel_rfl) ?_
      refine DR_y 15 (i := 6) (.int .i64 x3.From) (by kernel_rfl) (by kernel_rfl) (by kernel_rfl) (fun hx Hx => (YE.of (Y_load1 (t := 2) (p := ⟨b2, 0, none⟩) (v := .int .i64 x3.From) (by kernel_rfl) (fun w => by kernel_rfl) (Hx.cell 0 rfl rfl)))) ?_
      refine DR_b 13 [.slice a1 x1.length c1, .pointer (some ⟨b2, 1, none⟩)] 7 (by kernel_rfl) (by kernel_rfl) (by kernel_rfl) (fun w => by kernel_rfl) ?_
      refine DR_y 12 (i := 9) (.int .i64 x3.To) (by kernel_rfl) (by kernel_rfl) (by kernel_rfl) (fun hx Hx => (YE.of (Y_load1 (t := 2) (p := ⟨b2, 1, none⟩) (v := .int .i64 x3.To) (by kernel_rfl) (fun w => by kernel_rfl) (Hx.cell 0 rfl rfl)))) ?_
      refine DR_y 11 (i := 10) (.pointer (some (adr a1 (x3.To.toNat * 1)))) (by kernel_rfl) (by kernel_rfl) (by kernel_rfl) (fun hx Hx => (YE.of (Y_idx (t := 37) (e := 39) (sz := 1) (a := a1) (n := x1.length) (cap := c1) (kk := .i64) (i := x3.To) (by kernel_rfl) Try.underlying37 (by kernel_rfl) ((H11.rdRows 2 rfl).cell hx4).1 hx4l (by rw [← (H11.lenRows 2 rfl)]; exact hx4u)))) ?_
      refine DR_y 10 (i := 11) (.slice a3 x5.length c3) (by kernel_rfl) (by kernel_rfl) (by kernel_rfl) (fun hx Hx => (YE.of (Y_load1 (t := 39) (p := adr a1 (x3.To.toNat * 1)) (v := .slice a3 x5.length c3) (by kernel_rfl) (fun w => by kernel_rfl) (Hx.cellPin 2 rfl 0 rfl)))) ?_
      refine DR_b 9 [.pointer (some ⟨b2, 0, none⟩)] 12 (by kernel_rfl) (by kernel_rfl) (by kernel_rfl) (fun w => by kernel_rfl) ?_
      refine DR_y 8 (i := 13) (.int .i64 x3.From) (by kernel_rfl) (by kernel_rfl) (by kernel_rfl) (fun hx Hx => (YE.of (Y_load1 (t := 2) (p := ⟨b2, 0, none⟩) (v := .int .i64 x3.From) (by kernel_rfl) (fun w => by kernel_rfl) (Hx.cell 0 rfl rfl)))) ?_
      refine DR_y 7 (i := 14) (.pointer (some (adr a3 (x3.From.toNat * 1)))) (by kernel_rfl) (by kernel_rfl) (by kernel_rfl) (fun hx Hx => (YE.of (Y_idx (t := 39) (e := 2) (sz := 1) (a := a3) (n := x5.length) (cap := c3) (kk := .i64) (i := x3.From) (by kernel_rfl) Try.underlying39 (by kernel_rfl) ((H14.rdPin 2 rfl 0 rfl).cell hx5).1 hx5l hx5u))) ?_
      refine DR_y 6 (i := 15) (.int .i64 x6) (by kernel_rfl) (by kernel_rfl) (by kernel_rfl) (fun hx Hx => (YE.of (Y_load1 (t := 2) (p := adr a3 (x3.From.toNat * 1)) (v := .int .i64 x6) (by kernel_rfl) (fun w => by kernel_rfl) (cd2_cell (Hx.rdPin 2 rfl 0 rfl) hx5)))) ?_
      refine DR_b 5 [.pointer (some ⟨b2, 3, none⟩)] 16 (by kernel_rfl) (by kernel_rfl) (by kernel_rfl) (fun w => by kernel_rfl) ?_
      refine DR_y 4 (i := 17) (.int .i64 x3.Tokens) (by kernel_rfl) (by kernel_rfl) (by kernel_rfl) (fun hx Hx => (YE.of (Y_load1 (t := 2) (p := ⟨b2, 3, none⟩) (v := .int .i64 x3.Tokens) (by kernel_rfl) (fun w => by kernel_rfl) (Hx.cell 0 rfl rfl)))) ?_
      refine DR_b 2 [.int .i64 (w64 (0 - x3.Tokens)), .int .i64 (mx x6 (w64 (0 - x3.Tokens)))] 18 (by kernel_rfl) (by kernel_rfl) (by kernel_rfl) (fun w => by kernel_rfl) ?_
      refine DR_y 1 (i := 20) (.pointer (some (adr a2 (x3.From.toNat * 1)))) (by kernel_rfl) (by kernel_rfl) (by kernel_rfl) (fun hx Hx => (YE.of (Y_idx (t := 39) (e := 2) (sz := 1) (a := a2) (n := x4.length) (cap := c2) (kk := .i64) (i := x3.From) (by kernel_rfl) Try.underlying39 (by kernel_rfl) ((H14.rdPin 2 rfl 1 rfl).cell hx6).1 hx6l hx6u))) ?_
      refine DR_tail (i := 21) (by kernel_rfl) (by kernel_rfl) (by kernel_rfl) (fun h7 H15 => ?_)
      have H16 : Hold h h7 [box b2 58 [.int .i64 x3.From, .int .i64 x3.To, .int .i64 x3.Delay, .int .i64 x3.Tokens], box b1 30 [.int .i64 g.Events, .slice agPlaces g.Places.length cgPlaces], rowsP cd2 39 a1 x1.length c1 s1.1 [(x3.To.toNat, a3, x5.length, c3, x5), (x3.To.toNat, a2, x4.length, c2, x4)]] := H15
      obtain ⟨l1, hu1, hB1⟩ := M.bind_some hB1
      have hu1 := M.upd_some hu1
      have H18 : Hold h h7 [rowsP cd2 39 a1 x1.length c1 s1.1 [(x3.To.toNat, a3, x5.length, c3, x5), (x3.To.toNat, a2, x4.length, c2, x4)], box b2 58 [.int .i64 x3.From, .int .i64 x3.To, .int .i64 x3.Delay, .int .i64 x3.Tokens], box b1 30 [.int .i64 g.Events, .slice agPlaces g.Places.length cgPlaces]] := H16.pick [2, 0, 1] (by kernel_rfl)
      refine Run_E (by kernel_rfl) ?_
      refine E_put2 (C := cd2) (t := 2) (sz := 1) (j := x3.From) (x := (mx x6 (w64 (0 - x3.Tokens)))) (v := .int .i64 (mx x6 (w64 (0 - x3.Tokens)))) (m2 := s1.1.set x3.To.toNat l1) H18 cd2_flat 1 rfl (by kernel_rfl) rfl (cd2_own _) (by kernel_rfl) hu1 rfl (fun h8 H17 => ?_)
      refine Run_nil (by kernel_rfl) ?_
      refine Run_keep [1, 3, 4] (L' := [(1, .pointer (some ⟨b1, 0, none⟩)), (3, .slice a1 x1.length c1), (4, .int .i64 s1.2)]) (by kernel_rfl) ?_
      refine Run_blk ?_
      refine Run_reg 3 (by kernel_rfl) (L' := [(1, .pointer (some ⟨b1, 0, none⟩)), (3, .slice a1 x1.length c1), (4, .int .i64 (w64 (s1.2 + 1)))]) ?_ ?_
      · refine QRun_b [.int .i64 s1.2, .int .i64 (w64 (s1.2 + 1)), .int .i64 (w64 (s1.2 + 1))] 0 _ (by kernel_rfl) (fun w => by kernel_rfl) ?_
        exact QRun_done [1, 3, 4] (by kernel_rfl) (by kernel_rfl)
      have H19 := H17.ofRows
      have H20 : Hold h h8 [box b1 30 [.int .i64 g.Events, .slice agPlaces g.Places.length cgPlaces], own cd39 a1 x1.length c1 (s1.1.set x3.To.toNat l1)] := H19.pick [2, 0] (by kernel_rfl)
      have hB1 := M.ret_some hB1
      have gx2 := hgoy1 _ hB1.symm
      exact Run_again [1, 3, 4] (by kernel_rfl) my1 (Nat.lt_succ_self _) ⟨((s1.1.set x3.To.toNat l1), (w64 (s1.2 + 1))), gx2, rfl, H20⟩
    · have hB1 := (M.ite_some hB1).2 hb1
      refine Run_exit (k' := _) rfl ?_
      have H21 : Hold h h3 [own cd39 a1 x1.length c1 s1.1] := H4.pick [1] (by kernel_rfl)
      have hB1 := M.ret_some hB1
      have gx2 := houty1 _ hB1.symm
      subst gx2
      exact Run_fall [3] (by kernel_rfl) ⟨rfl, H21⟩

set_option maxRecDepth 100000 in
set_option maxHeartbeats 4000000 in
theorem w_spec_l05Reach (h : Heap) (a_ : List (List Int)) (aa_ : Option Addr) (ca_ : Nat) (ra_ : Rd cd39 h (Lt h) aa_ ca_ a_) (n : Nat) (r : (List (List Bool))) (hF : spec_l05Reach a_ n = some r) :
    Fn Try.prog 141 #[.slice aa_ a_.length ca_] h fun v h' => ∃ (a0 : Option Addr) (c0 : Nat), v = .slice a0 r.length c0 ∧ Hold h h' [own cd141 a0 r.length c0 r] := by
  unfold spec_l05Reach at hF
  refine Fn_enter (args := [.slice aa_ a_.length ca_]) Try.func141 rfl (by kernel_rfl) (by kernel_rfl) (fun w0 _ => ?_)
  have H0 := Hold.init h
  refine Run_seq ?_
  refine Run_reg 1 (by kernel_rfl) (L' := [(0, .slice aa_ a_.length ca_)]) ?_ ?_
  · refine QRun_b [.slice none 0 0] 0 _ (by kernel_rfl) (fun w => by kernel_rfl) ?_
    exact QRun_done [0] (by kernel_rfl) (by kernel_rfl)
  refine Run_seq ?_
  refine Run_reg 3 (by kernel_rfl) (L' := [(0, .slice aa_ a_.length ca_), (3, .int .i64 (a_.length : Int))]) ?_ ?_
  · refine QRun_b [.slice aa_ a_.length ca_, .int .i64 (a_.length : Int), .int .i64 (a_.length : Int)] 0 _ (by kernel_rfl) (fun w => by kernel_rfl) ?_
    exact QRun_done [0, 3] (by kernel_rfl) (by kernel_rfl)
  refine Run_seq ?_
  refine Run_ops ?_
  refine Run_E (by kernel_rfl) ?_
  refine E_lit (C := cd141) (n := 0) (l := []) (cs := []) H0 (fun w => by kernel_rfl) (Enc.nil _ _) rfl (by decide) (fun a1 h1 H1 => ?_)
  refine Run_b [.slice a1 0 0] 1 _ (by kernel_rfl) (fun w => by kernel_rfl) ?_
  refine Run_nil (by kernel_rfl) ?_
  refine Run_keep [0, 3, 4] (L' := [(0, .slice aa_ a_.length ca_), (3, .int .i64 (a_.length : Int)), (4, .slice a1 0 0)]) (by kernel_rfl) ?_
  refine Run_seq ?_
  refine Run_seq ?_
  refine Run_reg 1 (by kernel_rfl) (L' := [(0, .slice aa_ a_.length ca_), (3, .int .i64 (a_.length : Int)), (4, .slice a1 0 0), (5, .int .i64 0)]) ?_ ?_
  · refine QRun_b [.int .i64 0] 0 _ (by kernel_rfl) (fun w => by kernel_rfl) ?_
    exact QRun_done [0, 3, 4, 5] (by kernel_rfl) (by kernel_rfl)
  obtain ⟨x1, gx1, hF⟩ := M.bind_some hF
  obtain ⟨hloy1, hhiy1, gx1⟩ := M.for_start gx1
  refine Run_join (fun L' h' => ∃ (a3 : Option Addr) (c2 : Nat), L' = [(4, .slice a3 x1.length c2)] ∧ Hold h h' [own cd141 a3 x1.length c2 x1]) ?_ ?_
  · rintro _ h3 ⟨a3, c2, rfl, H3⟩
    refine Run_seq ?_
    refine Run_reg 2 (by kernel_rfl) (L' := [(2, .slice a3 x1.length c2)]) ?_ ?_
    · refine QRun_b [.slice a3 x1.length c2, .slice a3 x1.length c2] 0 _ (by kernel_rfl) (fun w => by kernel_rfl) ?_
      exact QRun_done [2] (by kernel_rfl) (by kernel_rfl)
    have hF := M.ret_some hF
    subst hF
    exact Run_ret1 rfl (ResV_tmp (v := .slice a3 x1.length c2) (by kernel_rfl)) ⟨a3, c2, rfl, H3⟩
  · refine Run_block ?_
    have hn1 := (H1.len 0 rfl)
    have H23 : Hold h h1 [own cd141 a1 (([] : List (List Bool)).length) 0 ([] : List (List Bool))] := by rw [hn1]; exact H1
    refine Run_keep [0, 3, 4, 5] (L' := [(0, .slice aa_ a_.length ca_), (3, .int .i64 (a_.length : Int)), (4, .slice a1 (([] : List (List Bool)).length) 0), (5, .int .i64 0)]) (by rw [hn1]; kernel_rfl) ?_
    refine Run_loop (fun m L' h' => ∃ (i1 : Int) (s1 : (List (List Bool))) (a2 : Option Addr) (c1 : Nat), 0 ≤ i1 ∧ M.forN (a_.length : Int) _ _ n m i1 s1 = some x1 ∧ L' = [(0, .slice aa_ a_.length ca_), (3, .int .i64 (a_.length : Int)), (4, .slice a2 s1.length c1), (5, .int .i64 i1)] ∧ Hold h h' [own cd141 a2 s1.length c1 s1]) ((a_.length : Int) - 0 : Int).toNat ⟨0, ([] : List (List Bool)), a1, 0, Int.le_refl _, gx1, rfl, H23⟩ ?_
    rintro my1 _ h2 ⟨i1, s1, a2, c1, hloy1', gx1, rfl, H2⟩
    refine Run_seq ?_
    refine Run_seq ?_
    refine Run_reg 3 (by kernel_rfl) (L' := [(0, .slice aa_ a_.length ca_), (3, .int .i64 (a_.length : Int)), (4, .slice a2 s1.length c1), (5, .int .i64 i1), (15, .bool (decide (i1 < (a_.length : Int))))]) ?_ ?_
    · refine QRun_b [.int .i64 i1, .int .i64 (a_.length : Int), .bool (decide (i1 < (a_.length : Int)))] 0 _ (by kernel_rfl) (fun w => by kernel_rfl) ?_
      exact QRun_done [0, 3, 4, 5, 15] (by kernel_rfl) (by kernel_rfl)
    refine Run_cond (b := decide (i1 < (a_.length : Int))) (by kernel_rfl) (fun hb1 => ?_) (fun hb1 => ?_)
    · obtain ⟨my1, y1, rfl, hB1, hgoy1, houty1⟩ := M.for_go gx1 hb1
      have hlty1 := of_decide_eq_true hb1
      refine Run_skip ?_
      refine Run_seq ?_
      refine Run_block ?_
      refine Run_seq ?_
      refine Run_ops ?_
      refine Run_b [.int .i64 (a_.length : Int)] 0 _ (by kernel_rfl) (fun w => by kernel_rfl) ?_
      obtain ⟨l1, hl1, hB1⟩ := M.bind_some hB1
      have hl1 := M.make_some hl1
      refine Run_E (by kernel_rfl) ?_
      refine E_make cd4 false (kl := .i64) (kc := .i64) H2 cd4_ti Try.underlying141 (by decide) cd4_zero (by kernel_rfl) hl1 (fun a4 h4 H4 => ?_)
      refine Run_b [.slice a4 l1.length l1.length] 2 _ (by kernel_rfl) (fun w => by kernel_rfl) ?_
      refine Run_nil (by kernel_rfl) ?_
      refine Run_keep [0, 3, 4, 5, 6] (L' := [(0, .slice aa_ a_.length ca_), (3, .int .i64 (a_.length : Int)), (4, .slice a2 s1.length c1), (5, .int .i64 i1), (6, .slice a4 l1.length l1.length)]) (by kernel_rfl) ?_
      refine Run_seq ?_
      refine Run_ops ?_
      obtain ⟨x2, hx1, hB1⟩ := M.bind_some hB1
      obtain ⟨hx1l, hx1u, hx1⟩ := M.idx_some hx1
      refine Run_b [.slice a4 l1.length l1.length, .int .i64 i1] 0 _ (by kernel_rfl) (fun w => by kernel_rfl) ?_
      refine Run_y (.pointer (some (adr a4 (i1.toNat * 1)))) (by kernel_rfl) (Y_idx (t := 141) (e := 4) (sz := 1) (a := a4) (n := l1.length) (cap := l1.length) (kk := .i64) (i := i1) (by kernel_rfl) Try.underlying141 (by kernel_rfl) ((H4.rd 0 rfl).cell hx1).1 hx1l hx1u) ?_
      obtain ⟨l2, hu1, hB1⟩ := M.bind_some hB1
      have hu1 := M.upd_some hu1
      refine Run_E (by kernel_rfl) ?_
      refine E_put (C := cd4) (t := 4) (sz := 1) (j := i1) (x := true) (v := .bool true) H4 cd4_flat (by kernel_rfl) rfl (cd4_own _) (by kernel_rfl) hu1 (fun h5 H5 => ?_)
      refine Run_nil (by kernel_rfl) ?_
      refine Run_keep [0, 3, 4, 5, 6] (L' := [(0, .slice aa_ a_.length ca_), (3, .int .i64 (a_.length : Int)), (4, .slice a2 s1.length c1), (5, .int .i64 i1), (6, .slice a4 l1.length l1.length)]) (by kernel_rfl) ?_
      refine Run_seq ?_
      refine Run_seq ?_
      refine Run_reg 1 (by kernel_rfl) (L' := [(0, .slice aa_ a_.length ca_), (3, .int .i64 (a_.length : Int)), (4, .slice a2 s1.length c1), (5, .int .i64 i1), (6, .slice a4 l1.length l1.length), (7, .int .i64 0)]) ?_ ?_
      · refine QRun_b [.int .i64 0] 0 _ (by kernel_rfl) (fun w => by kernel_rfl) ?_
        exact QRun_done [0, 3, 4, 5, 6, 7] (by kernel_rfl) (by kernel_rfl)
      obtain ⟨x3, gx3, hB1⟩ := M.bind_some hB1
      obtain ⟨hloy2, hhiy2, gx3⟩ := M.for_start gx3
      refine Run_join (fun L' h' => L' = [(0, .slice aa_ a_.length ca_), (3, .int .i64 (a_.length : Int)), (4, .slice a2 s1.length c1), (5, .int .i64 i1), (6, .slice a4 l1.length l1.length)] ∧ Hold h h' [own cd141 a2 s1.length c1 s1, own cd4 a4 l1.length l1.length x3]) ?_ ?_
      · rintro _ h7 ⟨rfl, H7⟩
        refine Run_ops ?_
        refine Run_b [.slice a2 s1.length c1, .slice a4 l1.length l1.length] 0 _ (by kernel_rfl) (fun w => by kernel_rfl) ?_
        have H17 : Hold h h7 [own cd4 a4 l1.length l1.length x3, own cd141 a2 s1.length c1 s1] := H7.pick [1, 0] (by kernel_rfl)
        refine Run_E (by kernel_rfl) ?_
        refine E_lit1 (ey := 141) (n := l1.length) H17 (fun w => by kernel_rfl) rfl (fun a6 h14 H16 => ?_)
        obtain ⟨l4, hl2, hB1⟩ := M.bind_some hB1
        have hl2 := M.app_some hl2
        have H18 : Hold h h14 [own cd141 a2 s1.length c1 s1, own cd141 a6 1 1 [x3]] := H16.pick [1, 0] (by kernel_rfl)
        have H19 : Hold h h14 [own cd141 a6 1 1 [x3], own cd141 a2 s1.length c1 s1] := H18.pick [1, 0] (by kernel_rfl)
        have H20 : Hold h h14 [own cd141 a2 s1.length c1 s1, own cd141 a6 1 1 [x3]] := H19.pick [1, 0] (by kernel_rfl)
        refine Run_E (by kernel_rfl) ?_
        refine E_app (C := cd141) (t := 139) (ty := 139) (n := s1.length) (m := 1) H20 cd141_ti rfl Try.underlying139 (by decide) (by kernel_rfl) hl2 (fun a7 c4 h15 H21 => ?_)
        refine Run_b [.slice a7 l4.length c4] 4 _ (by kernel_rfl) (fun w => by kernel_rfl) ?_
        refine Run_nil (by kernel_rfl) ?_
        refine Run_keep [0, 3, 4, 5] (L' := [(0, .slice aa_ a_.length ca_), (3, .int .i64 (a_.length : Int)), (4, .slice a7 l4.length c4), (5, .int .i64 i1)]) (by kernel_rfl) ?_
        refine Run_blk ?_
        refine Run_reg 3 (by kernel_rfl) (L' := [(0, .slice aa_ a_.length ca_), (3, .int .i64 (a_.length : Int)), (4, .slice a7 l4.length c4), (5, .int .i64 (i1 + 1))]) ?_ ?_
        · refine QRun_b [.int .i64 i1] 0 _ (by kernel_rfl) (fun w => by kernel_rfl) ?_
          refine QRun_y (.int .i64 (i1 + 1)) (by kernel_rfl) (Y_eq (v := .int .i64 (w64 (i1 + 1))) (Y_pure (fun w => by kernel_rfl)) (by rw [w64_eq _ (by omega)])) ?_
          refine QRun_b [.int .i64 (i1 + 1)] 2 _ (by kernel_rfl) (fun w => by kernel_rfl) ?_
          exact QRun_done [0, 3, 4, 5] (by kernel_rfl) (by kernel_rfl)
        have hB1 := M.ret_some hB1
        have gx1 := hgoy1 _ hB1.symm
        exact Run_again [0, 3, 4, 5] (by kernel_rfl) my1 (Nat.lt_succ_self _) ⟨i1 + 1, l4, a7, c4, by omega, gx1, rfl, H21⟩
      · refine Run_block ?_
        have H22 : Hold h h5 [own cd141 a2 s1.length c1 s1, own cd4 a4 l1.length l1.length l2] := H5.pick [1, 0] (by kernel_rfl)
        refine Run_keep [0, 3, 4, 5, 6, 7] (L' := [(0, .slice aa_ a_.length ca_), (3, .int .i64 (a_.length : Int)), (4, .slice a2 s1.length c1), (5, .int .i64 i1), (6, .slice a4 l1.length l1.length), (7, .int .i64 0)]) (by kernel_rfl) ?_
        refine Run_loop (fun m L' h' => ∃ (i2 : Int) (s2 : (List Bool)), 0 ≤ i2 ∧ M.forN (a_.length : Int) _ _ n m i2 s2 = some x3 ∧ L' = [(0, .slice aa_ a_.length ca_), (3, .int .i64 (a_.length : Int)), (4, .slice a2 s1.length c1), (5, .int .i64 i1), (6, .slice a4 l1.length l1.length), (7, .int .i64 i2)] ∧ Hold h h' [own cd141 a2 s1.length c1 s1, own cd4 a4 l1.length l1.length s2]) ((a_.length : Int) - 0 : Int).toNat ⟨0, l2, Int.le_refl _, gx3, rfl, H22⟩ ?_
        rintro my2 _ h6 ⟨i2, s2, hloy2', gx3, rfl, H6⟩
        refine Run_seq ?_
        refine Run_seq ?_
        refine Run_reg 3 (by kernel_rfl) (L' := [(0, .slice aa_ a_.length ca_), (3, .int .i64 (a_.length : Int)), (4, .slice a2 s1.length c1), (5, .int .i64 i1), (6, .slice a4 l1.length l1.length), (7, .int .i64 i2), (25, .bool (decide (i2 < (a_.length : Int))))]) ?_ ?_
        · refine QRun_b [.int .i64 i2, .int .i64 (a_.length : Int), .bool (decide (i2 < (a_.length : Int)))] 0 _ (by kernel_rfl) (fun w => by kernel_rfl) ?_
          exact QRun_done [0, 3, 4, 5, 6, 7, 25] (by kernel_rfl) (by kernel_rfl)
        refine Run_cond (b := decide (i2 < (a_.length : Int))) (by kernel_rfl) (fun hb2 => ?_) (fun hb2 => ?_)
        · obtain ⟨my2, y2, rfl, hB2, hgoy2, houty2⟩ := M.for_go gx3 hb2
          have hlty2 := of_decide_eq_true hb2
          refine Run_skip ?_
          refine Run_seq ?_
          refine Run_block ?_
          refine Run_seq ?_
          refine Run_reg 1 (by kernel_rfl) (L' := [(0, .slice aa_ a_.length ca_), (3, .int .i64 (a_.length : Int)), (4, .slice a2 s1.length c1), (5, .int .i64 i1), (6, .slice a4 l1.length l1.length), (7, .int .i64 i2), (8, .int .i64 0)]) ?_ ?_
          · refine QRun_b [.int .i64 0] 0 _ (by kernel_rfl) (fun w => by kernel_rfl) ?_
            exact QRun_done [0, 3, 4, 5, 6, 7, 8] (by kernel_rfl) (by kernel_rfl)
          obtain ⟨x4, gx4, hB2⟩ := M.bind_some hB2
          obtain ⟨hloy3, hhiy3, gx4⟩ := M.for_start gx4
          refine Run_join (fun L' h' => L' = [(0, .slice aa_ a_.length ca_), (3, .int .i64 (a_.length : Int)), (4, .slice a2 s1.length c1), (5, .int .i64 i1), (6, .slice a4 l1.length l1.length), (7, .int .i64 i2)] ∧ Hold h h' [own cd141 a2 s1.length c1 s1, own cd4 a4 l1.length l1.length x4]) ?_ ?_
          · rintro _ h9 ⟨rfl, H9⟩
            refine Run_blk ?_
            refine Run_reg 3 (by kernel_rfl) (L' := [(0, .slice aa_ a_.length ca_), (3, .int .i64 (a_.length : Int)), (4, .slice a2 s1.length c1), (5, .int .i64 i1), (6, .slice a4 l1.length l1.length), (7, .int .i64 (i2 + 1))]) ?_ ?_
            · refine QRun_b [.int .i64 i2] 0 _ (by kernel_rfl) (fun w => by kernel_rfl) ?_
              refine QRun_y (.int .i64 (i2 + 1)) (by kernel_rfl) (Y_eq (v := .int .i64 (w64 (i2 + 1))) (Y_pure (fun w => by kernel_rfl)) (by rw [w64_eq _ (by omega)])) ?_
              refine QRun_b [.int .i64 (i2 + 1)] 2 _ (by kernel_rfl) (fun w => by kernel_rfl) ?_
              exact QRun_done [0, 3, 4, 5, 6, 7] (by kernel_rfl) (by kernel_rfl)
            have hB2 := M.ret_some hB2
            have gx3 := hgoy2 _ hB2.symm
            exact Run_again [0, 3, 4, 5, 6, 7] (by kernel_rfl) my2 (Nat.lt_succ_self _) ⟨i2 + 1, x4, by omega, gx3, rfl, H9⟩
          · refine Run_block ?_
            refine Run_keep [0, 3, 4, 5, 6, 7, 8] (L' := [(0, .slice aa_ a_.length ca_), (3, .int .i64 (a_.length : Int)), (4, .slice a2 s1.length c1), (5, .int .i64 i1), (6, .slice a4 l1.length l1.length), (7, .int .i64 i2), (8, .int .i64 0)]) (by kernel_rfl) ?_
            refine Run_loop (fun m L' h' => ∃ (i3 : Int) (s3 : (List Bool)), 0 ≤ i3 ∧ M.forN (a_.length : Int) _ _ n m i3 s3 = some x4 ∧ L' = [(0, .slice aa_ a_.length ca_), (3, .int .i64 (a_.length : Int)), (4, .slice a2 s1.length c1), (5, .int .i64 i1), (6, .slice a4 l1.length l1.length), (7, .int .i64 i2), (8, .int .i64 i3)] ∧ Hold h h' [own cd141 a2 s1.length c1 s1, own cd4 a4 l1.length l1.length s3]) ((a_.length : Int) - 0 : Int).toNat ⟨0, s2, Int.le_refl _, gx4, rfl, H6⟩ ?_
            rintro my3 _ h8 ⟨i3, s3, hloy3', gx4, rfl, H8⟩
            refine Run_seq ?_
            refine Run_seq ?_
            refine Run_reg 3 (by kernel_rfl) (L' := [(0, .slice aa_ a_.length ca_), (3, .int .i64 (a_.length : Int)), (4, .slice a2 s1.length c1), (5, .int .i64 i1), (6, .slice a4 l1.length l1.length), (7, .int .i64 i2), (8, .int .i64 i3), (30, .bool (decide (i3 < (a_.length : Int))))]) ?_ ?_
            · refine QRun_b [.int .i64 i3, .int .i64 (a_.length : Int), .bool (decide (i3 < (a_.length : Int)))] 0 _ (by kernel_rfl) (fun w => by kernel_rfl) ?_
              exact QRun_done [0, 3, 4, 5, 6, 7, 8, 30] (by kernel_rfl) (by kernel_rfl)
            refine Run_cond (b := decide (i3 < (a_.length : Int))) (by kernel_rfl) (fun hb3 => ?_) (fun hb3 => ?_)
            · obtain ⟨my3, y3, rfl, hB3, hgoy3, houty3⟩ := M.for_go gx4 hb3
              have hlty3 := of_decide_eq_true hb3
              refine Run_skip ?_
              refine Run_seq ?_
              refine Run_block ?_
              refine Run_seq ?_
              refine Run_reg 1 (by kernel_rfl) (L' := [(0, .slice aa_ a_.length ca_), (3, .int .i64 (a_.length : Int)), (4, .slice a2 s1.length c1), (5, .int .i64 i1), (6, .slice a4 l1.length l1.length), (7, .int .i64 i2), (8, .int .i64 i3), (9, .int .i64 0)]) ?_ ?_
              · refine QRun_b [.int .i64 0] 0 _ (by kernel_rfl) (fun w => by kernel_rfl) ?_
                exact QRun_done [0, 3, 4, 5, 6, 7, 8, 9] (by kernel_rfl) (by kernel_rfl)
              obtain ⟨x5, gx5, hB3⟩ := M.bind_some hB3
              obtain ⟨hloy4, hhiy4, gx5⟩ := M.for_start gx5
              refine Run_join (fun L' h' => L' = [(0, .slice aa_ a_.length ca_), (3, .int .i64 (a_.length : Int)), (4, .slice a2 s1.length c1), (5, .int .i64 i1), (6, .slice a4 l1.length l1.length), (7, .int .i64 i2), (8, .int .i64 i3)] ∧ Hold h h' [own cd141 a2 s1.length c1 s1, own cd4 a4 l1.length l1.length x5]) ?_ ?_
              · rintro _ h11 ⟨rfl, H11⟩
                refine Run_blk ?_
                refine Run_reg 3 (by kernel_rfl) (L' := [(0, .slice aa_ a_.length ca_), (3, .int .i64 (a_.length : Int)), (4, .slice a2 s1.length c1), (5, .int .i64 i1), (6, .slice a4 l1.length l1.length), (7, .int .i64 i2), (8, .int .i64 (i3 + 1))]) ?_ ?_
                · refine QRun_b [.int .i64 i3] 0 _ (by kernel_rfl) (fun w => by kernel_rfl) ?_
                  refine QRun_y (.int .i64 (i3 + 1)) (by kernel_rfl) (Y_eq (v := .int .i64 (w64 (i3 + 1))) (Y_pure (fun w => by kernel_rfl)) (by rw [w64_eq _ (by omega)])) ?_
                  refine QRun_b [.int .i64 (i3 + 1)] 2 _ (by kernel_rfl) (fun w => by kernel_rfl) ?_
                  exact QRun_done [0, 3, 4, 5, 6, 7, 8] (by kernel_rfl) (by kernel_rfl)
                have hB3 := M.ret_some hB3
                have gx4 := hgoy3 _ hB3.symm
                exact Run_again [0, 3, 4, 5, 6, 7, 8] (by kernel_rfl) my3 (Nat.lt_succ_self _) ⟨i3 + 1, x5, by omega, gx4, rfl, H11⟩
              · refine Run_block ?_
                refine Run_keep [0, 3, 4, 5, 6, 7, 8, 9] (L' := [(0, .slice aa_ a_.length ca_), (3, .int .i64 (a_.length : Int)), (4, .slice a2 s1.length c1), (5, .int .i64 i1), (6, .slice a4 l1.length l1.length), (7, .int .i64 i2), (8, .int .i64 i3), (9, .int .i64 0)]) (by kernel_rfl) ?_
                refine Run_loop (fun m L' h' => ∃ (i4 : Int) (s4 : (List Bool)), 0 ≤ i4 ∧ M.forN (a_.length : Int) _ _ n m i4 s4 = some x5 ∧ L' = [(0, .slice aa_ a_.length ca_), (3, .int .i64 (a_.length : Int)), (4, .slice a2 s1.length c1), (5, .int .i64 i1), (6, .slice a4 l1.length l1.length), (7, .int .i64 i2), (8, .int .i64 i3), (9, .int .i64 i4)] ∧ Hold h h' [own cd141 a2 s1.length c1 s1, own cd4 a4 l1.length l1.length s4]) ((a_.length : Int) - 0 : Int).toNat ⟨0, s3, Int.le_refl _, gx5, rfl, H8⟩ ?_
                rintro my4 _ h10 ⟨i4, s4, hloy4', gx5, rfl, H10⟩
                refine Run_seq ?_
                refine Run_seq ?_
                refine Run_reg 3 (by kernel_rfl) (L' := [(0, .slice aa_ a_.length ca_), (3, .int .i64 (a_.length : Int)), (4, .slice a2 s1.length c1), (5, .int .i64 i1), (6, .slice a4 l1.length l1.length), (7, .int .i64 i2), (8, .int .i64 i3), (9, .int .i64 i4), (35, .bool (decide (i4 < (a_.length : Int))))]) ?_ ?_
                · refine QRun_b [.int .i64 i4, .int .i64 (a_.length : Int), .bool (decide (i4 < (a_.length : Int)))] 0 _ (by kernel_rfl) (fun w => by kernel_rfl) ?_
                  exact QRun_done [0, 3, 4, 5, 6, 7, 8, 9, 35] (by kernel_rfl) (by kernel_rfl)
                refine Run_cond (b := decide (i4 < (a_.length : Int))) (by kernel_rfl) (fun hb4 => ?_) (fun hb4 => ?_)
                · obtain ⟨my4, y4, rfl, hB4, hgoy4, houty4⟩ := M.for_go gx5 hb4
                  have hlty4 := of_decide_eq_true hb4
                  refine Run_skip ?_
                  refine Run_seq ?_
                  refine Run_block ?_
                  refine Run_seq ?_
                  obtain ⟨x6, hx2, hB4⟩ := M.bind_some hB4
                  obtain ⟨hx2l, hx2u, hx2⟩ := M.idx_some hx2
                  obtain ⟨x7, gx7, hB4⟩ := M.bind_some hB4
                  refine Run_reg 14 (by kernel_rfl) (L' := [(0, .slice aa_ a_.length ca_), (3, .int .i64 (a_.length : Int)), (4, .slice a2 s1.length c1), (5, .int .i64 i1), (6, .slice a4 l1.length l1.length), (7, .int .i64 i2), (8, .int .i64 i3), (9, .int .i64 i4), (51, .bool x7)]) ?_ ?_
                  · refine QRun_b [.slice a4 l1.length l1.length, .int .i64 i4] 0 _ (by kernel_rfl) (fun w => by kernel_rfl) ?_
                    refine QRun_y (.pointer (some (adr a4 (i4.toNat * 1)))) (by kernel_rfl) (Y_idx (t := 141) (e := 4) (sz := 1) (a := a4) (n := l1.length) (cap := l1.length) (kk := .i64) (i := i4) (by kernel_rfl) Try.underlying141 (by kernel_rfl) ((H10.rd 1 rfl).cell hx2).1 hx2l (by rw [← (H10.len 1 rfl)]; exact hx2u)) ?_
                    refine QRun_y (.bool x6) (by kernel_rfl) (Y_load1 (t := 4) (p := adr a4 (i4.toNat * 1)) (v := .bool x6) (by kernel_rfl) (fun w => by kernel_rfl) (cd4_cell (H10.rd 1 rfl) hx2)) ?_
                    refine QRun_seq 14 [(0, .slice aa_ a_.length ca_), (3, .int .i64 (a_.length : Int)), (4, .slice a2 s1.length c1), (5, .int .i64 i1), (6, .slice a4 l1.length l1.length), (7, .int .i64 i2), (8, .int .i64 i3), (9, .int .i64 i4), (51, .bool x7)] ?_ ?_
                    · rcases Bool.eq_false_or_eq_true x6 with hb5 | hb5
                      · refine QRun_bool x6 true (by kernel_rfl) (fun w => by kernel_rfl) hb5 ?_
                        have gx7 := (M.ite_some gx7).1 hb5
                        obtain ⟨x8, hx3, gx7⟩ := M.bind_some gx7
                        obtain ⟨hx3l, hx3u, hx3⟩ := M.idx_some hx3
                        obtain ⟨a5, c3, hc1, r1⟩ := ra_.row hx3
                        obtain ⟨x9, hx4, gx7⟩ := M.bind_some gx7
                        obtain ⟨hx4l, hx4u, hx4⟩ := M.idx_some hx4
                        have gx7 := M.ret_some gx7
                        refine QRun_b [.slice aa_ a_.length ca_, .int .i64 i3] 5 _ (by kernel_rfl) (fun w => by kernel_rfl) ?_
                        refine QRun_y (.pointer (some (adr aa_ (i3.toNat * 1)))) (by kernel_rfl) (Y_idx (t := 37) (e := 39) (sz := 1) (a := aa_) (n := a_.length) (cap := ca_) (kk := .i64) (i := i3) (by kernel_rfl) Try.underlying37 (by kernel_rfl) ((ra_.at H10.ext).cell hx3).1 hx3l hx3u) ?_
                        refine QRun_y (.slice a5 x8.length c3) (by kernel_rfl) (Y_load1 (t := 39) (p := adr aa_ (i3.toNat * 1)) (v := .slice a5 x8.length c3) (by kernel_rfl) (fun w => by kernel_rfl) (cell_at H10.ext hc1)) ?_
                        refine QRun_b [.int .i64 i4] 9 _ (by kernel_rfl) (fun w => by kernel_rfl) ?_
                        refine QRun_y (.pointer (some (adr a5 (i4.toNat * 1)))) (by kernel_rfl) (Y_idx (t := 39) (e := 2) (sz := 1) (a := a5) (n := x8.length) (cap := c3) (kk := .i64) (i := i4) (by kernel_rfl) Try.underlying39 (by kernel_rfl) ((r1.at H10.ext).cell hx4).1 hx4l hx4u) ?_
                        refine QRun_y (.int .i64 x9) (by kernel_rfl) (Y_load1 (t := 2) (p := adr a5 (i4.toNat * 1)) (v := .int .i64 x9) (by kernel_rfl) (fun w => by kernel_rfl) (cd2_cell (r1.at H10.ext) hx4)) ?_
                        refine QRun_b [.bool (x9 != (-1000000000000000))] 12 _ (by kernel_rfl) (fun w => by kernel_rfl) ?_
                        refine QRun_bool (x9 != (-1000000000000000)) x7 (by kernel_rfl) (fun w => by kernel_rfl) gx7 ?_
                        exact QRun_done [0, 3, 4, 5, 6, 7, 8, 9, 51] (by kernel_rfl) (by kernel_rfl)
                      · refine QRun_bool x6 false (by kernel_rfl) (fun w => by kernel_rfl) hb5 ?_
                        have gx7 := M.ret_some ((M.ite_some gx7).2 hb5)
                        refine QRun_n (by kernel_rfl) ?_
                        refine QRun_n (by kernel_rfl) ?_
                        refine QRun_n (by kernel_rfl) ?_
                        refine QRun_n (by kernel_rfl) ?_
                        refine QRun_n (by kernel_rfl) ?_
                        refine QRun_n (by kernel_rfl) ?_
                        refine QRun_n (by kernel_rfl) ?_
                        refine QRun_n (by kernel_rfl) ?_
                        refine QRun_bool false x7 (by kernel_rfl) (fun w => by kernel_rfl) gx7 ?_
                        exact QRun_done [0, 3, 4, 5, 6, 7, 8, 9, 51] (by kernel_rfl) (by kernel_rfl)
                    exact QRun_done [0, 3, 4, 5, 6, 7, 8, 9, 51] (by kernel_rfl) (by kernel_rfl)
                  obtain ⟨s5, gs5, hB4⟩ := M.bind_some hB4
                  refine Run_join (fun L' h' => L' = [(0, .slice aa_ a_.length ca_), (3, .int .i64 (a_.length : Int)), (4, .slice a2 s1.length c1), (5, .int .i64 i1), (6, .slice a4 l1.length l1.length), (7, .int .i64 i2), (8, .int .i64 i3), (9, .int .i64 i4)] ∧ Hold h h' [own cd141 a2 s1.length c1 s1, own cd4 a4 l1.length l1.length s5]) ?_ ?_
                  · rintro _ h13 ⟨rfl, H14⟩
                    refine Run_blk ?_
                    refine Run_reg 3 (by kernel_rfl) (L' := [(0, .slice aa_ a_.length ca_), (3, .int .i64 (a_.length : Int)), (4, .slice a2 s1.length c1), (5, .int .i64 i1), (6, .slice a4 l1.length l1.length), (7, .int .i64 i2), (8, .int .i64 i3), (9, .int .i64 (i4 + 1))]) ?_ ?_
                    · refine QRun_b [.int .i64 i4] 0 _ (by kernel_rfl) (fun w => by kernel_rfl) ?_
                      refine QRun_y (.int .i64 (i4 + 1)) (by kernel_rfl) (Y_eq (v := .int .i64 (w64 (i4 + 1))) (Y_pure (fun w => by kernel_rfl)) (by rw [w64_eq _ (by omega)])) ?_
                      refine QRun_b [.int .i64 (i4 + 1)] 2 _ (by kernel_rfl) (fun w => by kernel_rfl) ?_
                      exact QRun_done [0, 3, 4, 5, 6, 7, 8, 9] (by kernel_rfl) (by kernel_rfl)
                    have hB4 := M.ret_some hB4
                    have gx5 := hgoy4 _ hB4.symm
                    exact Run_again [0, 3, 4, 5, 6, 7, 8, 9] (by kernel_rfl) my4 (Nat.lt_succ_self _) ⟨i4 + 1, s5, by omega, gx5, rfl, H14⟩
                  · refine Run_cond (b := x7) (by kernel_rfl) (fun hb6 => ?_) (fun hb6 => ?_)
                    · have gs5 := (M.ite_some gs5).1 hb6
                      refine Run_ops ?_
                      obtain ⟨x10, hx5, gs5⟩ := M.bind_some gs5
                      obtain ⟨hx5l, hx5u, hx5⟩ := M.idx_some hx5
                      refine Run_b [.slice a4 l1.length l1.length, .int .i64 i3] 0 _ (by kernel_rfl) (fun w => by kernel_rfl) ?_
                      refine Run_y (.pointer (some (adr a4 (i3.toNat * 1)))) (by kernel_rfl) (Y_idx (t := 141) (e := 4) (sz := 1) (a := a4) (n := l1.length) (cap := l1.length) (kk := .i64) (i := i3) (by kernel_rfl) Try.underlying141 (by kernel_rfl) ((H10.rd 1 rfl).cell hx5).1 hx5l (by rw [← (H10.len 1 rfl)]; exact hx5u)) ?_
                      obtain ⟨l3, hu2, gs5⟩ := M.bind_some gs5
                      have hu2 := M.upd_some hu2
                      have H13 : Hold h h10 [own cd4 a4 l1.length l1.length s4, own cd141 a2 s1.length c1 s1] := H10.pick [1, 0] (by kernel_rfl)
                      refine Run_E (by kernel_rfl) ?_
                      refine E_put (C := cd4) (t := 4) (sz := 1) (j := i3) (x := true) (v := .bool true) H13 cd4_flat (by kernel_rfl) rfl (cd4_own _) (by kernel_rfl) hu2 (fun h12 H12 => ?_)
                      refine Run_nil (by kernel_rfl) ?_
                      refine Run_keep [0, 3, 4, 5, 6, 7, 8, 9] (L' := [(0, .slice aa_ a_.length ca_), (3, .int .i64 (a_.length : Int)), (4, .slice a2 s1.length c1), (5, .int .i64 i1), (6, .slice a4 l1.length l1.length), (7, .int .i64 i2), (8, .int .i64 i3), (9, .int .i64 i4)]) (by kernel_rfl) ?_
                      have H15 : Hold h h12 [own cd141 a2 s1.length c1 s1, own cd4 a4 l1.length l1.length l3] := H12.pick [1, 0] (by kernel_rfl)
                      have gs5 := M.ret_some gs5
                      subst gs5
                      exact Run_fall [0, 3, 4, 5, 6, 7, 8, 9] (by kernel_rfl) ⟨rfl, H15⟩
                    · have gs5 := (M.ite_some gs5).2 hb6
                      refine Run_skip ?_
                      have gs5 := M.ret_some gs5
                      subst gs5
                      exact Run_fall [0, 3, 4, 5, 6, 7, 8, 9] (by kernel_rfl) ⟨rfl, H10⟩
                · have gx5 := M.for_end gx5 hb4
                  subst gx5
                  refine Run_exit (k' := _) rfl ?_
                  exact Run_fall [0, 3, 4, 5, 6, 7, 8] (by kernel_rfl) ⟨rfl, H10⟩
            · have gx4 := M.for_end gx4 hb3
              subst gx4
              refine Run_exit (k' := _) rfl ?_
              exact Run_fall [0, 3, 4, 5, 6, 7] (by kernel_rfl) ⟨rfl, H8⟩
        · have gx3 := M.for_end gx3 hb2
          subst gx3
          refine Run_exit (k' := _) rfl ?_
          exact Run_fall [0, 3, 4, 5, 6] (by kernel_rfl) ⟨rfl, H6⟩
    · have gx1 := M.for_end gx1 hb1
      subst gx1
      refine Run_exit (k' := _) rfl ?_
      exact Run_fall [4] (by kernel_rfl) ⟨a2, c1, rfl, H2⟩

set_option maxRecDepth 100000 in
set_option maxHeartbeats 4000000 in
theorem w_spec_l05Components (h : Heap) (a_ : List (List Int)) (aa_ : Option Addr) (ca_ : Nat) (ra_ : Rd cd39 h (Lt h) aa_ ca_ a_) (n : Nat) (r : (List (List Int))) (hF : spec_l05Components a_ n = some r) :
    Fn Try.prog 71 #[.slice aa_ a_.length ca_] h fun v h' => ∃ (a0 : Option Addr) (c0 : Nat), v = .slice a0 r.length c0 ∧ Hold h h' [own cd39 a0 r.length c0 r] := by
  unfold spec_l05Components at hF
  refine Fn_enter (args := [.slice aa_ a_.length ca_]) Try.func71 rfl (by kernel_rfl) (by kernel_rfl) (fun w0 _ => ?_)
  have H0 := Hold.init h
  refine Run_seq ?_
  refine Run_reg 1 (by kernel_rfl) (L' := [(0, .slice aa_ a_.length ca_)]) ?_ ?_
  · refine QRun_b [.slice none 0 0] 0 _ (by kernel_rfl) (fun w => by kernel_rfl) ?_
    exact QRun_done [0] (by kernel_rfl) (by kernel_rfl)
  refine Run_seq ?_
  refine Run_ops ?_
  refine Run_b [.slice aa_ a_.length ca_] 0 _ (by kernel_rfl) (fun w => by kernel_rfl) ?_
  obtain ⟨x1, hx1, hF⟩ := M.bind_some hF
  refine Run_E (by kernel_rfl) ?_
  refine E_call (f := 141) (args := #[.slice aa_ a_.length ca_]) (w_spec_l05Reach h a_ aa_ ca_ ra_ _ _ hx1) (by kernel_rfl) (fun v1 h1 hp1 => ?_)
  obtain ⟨a1, c1, rfl, H1⟩ := hp1
  have H2 : Hold h h1 [own cd141 a1 x1.length c1 x1] := H0.call H1 rfl
  refine Run_b [.slice a1 x1.length c1] 2 _ (by kernel_rfl) (fun w => by kernel_rfl) ?_
  refine Run_nil (by kernel_rfl) ?_
  refine Run_keep [0, 3] (L' := [(0, .slice aa_ a_.length ca_), (3, .slice a1 x1.length c1)]) (by kernel_rfl) ?_
  refine Run_seq ?_
  refine Run_ops ?_
  refine Run_E (by kernel_rfl) ?_
  refine E_lit (C := cd39) (n := 0) (l := []) (cs := []) H2 (fun w => by kernel_rfl) (Enc.nil _ _) rfl (by decide) (fun a2 h2 H3 => ?_)
  refine Run_b [.slice a2 0 0] 1 _ (by kernel_rfl) (fun w => by kernel_rfl) ?_
  refine Run_nil (by kernel_rfl) ?_
  refine Run_keep [0, 3, 4] (L' := [(0, .slice aa_ a_.length ca_), (3, .slice a1 x1.length c1), (4, .slice a2 0 0)]) (by kernel_rfl) ?_
  refine Run_seq ?_
  refine Run_seq ?_
  refine Run_reg 1 (by kernel_rfl) (L' := [(0, .slice aa_ a_.length ca_), (3, .slice a1 x1.length c1), (4, .slice a2 0 0), (5, .int .i64 0)]) ?_ ?_
  · refine QRun_b [.int .i64 0] 0 _ (by kernel_rfl) (fun w => by kernel_rfl) ?_
    exact QRun_done [0, 3, 4, 5] (by kernel_rfl) (by kernel_rfl)
  obtain ⟨x2, gx2, hF⟩ := M.bind_some hF
  obtain ⟨hloy1, hhiy1, gx2⟩ := M.for_start gx2
  refine Run_join (fun L' h' => ∃ (a4 : Option Addr) (c3 : Nat), L' = [(4, .slice a4 x2.length c3)] ∧ Hold h h' [own cd39 a4 x2.length c3 x2]) ?_ ?_
  · rintro _ h4 ⟨a4, c3, rfl, H5⟩
    refine Run_seq ?_
    refine Run_reg 2 (by kernel_rfl) (L' := [(2, .slice a4 x2.length c3)]) ?_ ?_
    · refine QRun_b [.slice a4 x2.length c3, .slice a4 x2.length c3] 0 _ (by kernel_rfl) (fun w => by kernel_rfl) ?_
      exact QRun_done [2] (by kernel_rfl) (by kernel_rfl)
    have hF := M.ret_some hF
    subst hF
    exact Run_ret1 rfl (ResV_tmp (v := .slice a4 x2.length c3) (by kernel_rfl)) ⟨a4, c3, rfl, H5⟩
  · refine Run_block ?_
    have hn2 := (H3.len 0 rfl)
    have H45 : Hold h h2 [own cd39 a2 (([] : List (List Int)).length) 0 ([] : List (List Int)), own cd141 a1 x1.length c1 x1] := by rw [hn2]; exact H3
    have H46 : Hold h h2 [own cd141 a1 x1.length c1 x1, own cd39 a2 (([] : List (List Int)).length) 0 ([] : List (List Int))] := H45.pick [1, 0] (by kernel_rfl)
    refine Run_keep [0, 3, 4, 5] (L' := [(0, .slice aa_ a_.length ca_), (3, .slice a1 x1.length c1), (4, .slice a2 (([] : List (List Int)).length) 0), (5, .int .i64 0)]) (by rw [hn2]; kernel_rfl) ?_
    refine Run_loop (fun m L' h' => ∃ (i1 : Int) (s1 : (List (List Int))) (a3 : Option Addr) (c2 : Nat), 0 ≤ i1 ∧ M.forN (a_.length : Int) _ _ n m i1 s1 = some x2 ∧ L' = [(0, .slice aa_ a_.length ca_), (3, .slice a1 x1.length c1), (4, .slice a3 s1.length c2), (5, .int .i64 i1)] ∧ Hold h h' [own cd141 a1 x1.length c1 x1, own cd39 a3 s1.length c2 s1]) ((a_.length : Int) - 0 : Int).toNat ⟨0, ([] : List (List Int)), a2, 0, Int.le_refl _, gx2, rfl, H46⟩ ?_
    rintro my1 _ h3 ⟨i1, s1, a3, c2, hloy1', gx2, rfl, H4⟩
    refine Run_seq ?_
    refine Run_seq ?_
    refine Run_reg 4 (by kernel_rfl) (L' := [(0, .slice aa_ a_.length ca_), (3, .slice a1 x1.length c1), (4, .slice a3 s1.length c2), (5, .int .i64 i1), (14, .bool (decide (i1 < (a_.length : Int))))]) ?_ ?_
    · refine QRun_b [.int .i64 i1, .slice aa_ a_.length ca_, .int .i64 (a_.length : Int), .bool (decide (i1 < (a_.length : Int)))] 0 _ (by kernel_rfl) (fun w => by kernel_rfl) ?_
      exact QRun_done [0, 3, 4, 5, 14] (by kernel_rfl) (by kernel_rfl)
    refine Run_cond (b := decide (i1 < (a_.length : Int))) (by kernel_rfl) (fun hb1 => ?_) (fun hb1 => ?_)
    · obtain ⟨my1, y1, rfl, hB1, hgoy1, houty1⟩ := M.for_go gx2 hb1
      have hlty1 := of_decide_eq_true hb1
      refine Run_skip ?_
      refine Run_seq ?_
      refine Run_block ?_
      refine Run_seq ?_
      refine Run_ops ?_
      refine Run_E (by kernel_rfl) ?_
      refine E_lit (C := cd2) (n := 0) (l := ([] : List Int)) (cs := []) H4 (fun w => by kernel_rfl) (Enc.nil _ _) rfl (by decide) (fun a5 h5 H6 => ?_)
      refine Run_b [.slice a5 0 0] 1 _ (by kernel_rfl) (fun w => by kernel_rfl) ?_
      refine Run_nil (by kernel_rfl) ?_
      refine Run_keep [0, 3, 4, 5, 6] (L' := [(0, .slice aa_ a_.length ca_), (3, .slice a1 x1.length c1), (4, .slice a3 s1.length c2), (5, .int .i64 i1), (6, .slice a5 0 0)]) (by kernel_rfl) ?_
      refine Run_seq ?_
      refine Run_seq ?_
      refine Run_reg 1 (by kernel_rfl) (L' := [(0, .slice aa_ a_.length ca_), (3, .slice a1 x1.length c1), (4, .slice a3 s1.length c2), (5, .int .i64 i1), (6, .slice a5 0 0), (7, .int .i64 0)]) ?_ ?_
      · refine QRun_b [.int .i64 0] 0 _ (by kernel_rfl) (fun w => by kernel_rfl) ?_
        exact QRun_done [0, 3, 4, 5, 6, 7] (by kernel_rfl) (by kernel_rfl)
      obtain ⟨x3, gx3, hB1⟩ := M.bind_some hB1
      obtain ⟨hloy2, hhiy2, gx3⟩ := M.for_start gx3
      refine Run_join (fun L' h' => ∃ (a7 : Option Addr) (c5 : Nat), L' = [(0, .slice aa_ a_.length ca_), (3, .slice a1 x1.length c1), (4, .slice a3 s1.length c2), (5, .int .i64 i1), (6, .slice a7 x3.length c5)] ∧ Hold h h' [own cd141 a1 x1.length c1 x1, own cd39 a3 s1.length c2 s1, own cd2 a7 x3.length c5 x3]) ?_ ?_
      · rintro _ h7 ⟨a7, c5, rfl, H8⟩
        refine Run_seq ?_
        obtain ⟨x9, hx6, hB1⟩ := M.bind_some hB1
        obtain ⟨hx6l, hx6u, hx6⟩ := M.idx_some hx6
        refine Run_reg 5 (by kernel_rfl) (L' := [(0, .slice aa_ a_.length ca_), (3, .slice a1 x1.length c1), (4, .slice a3 s1.length c2), (5, .int .i64 i1), (6, .slice a7 x3.length c5), (48, .bool (x9 == i1))]) ?_ ?_
        · refine QRun_b [.slice a7 x3.length c5] 0 _ (by kernel_rfl) (fun w => by kernel_rfl) ?_
          refine QRun_y (.pointer (some (adr a7 (0 * 1)))) (by kernel_rfl) (Y_idx (t := 39) (e := 2) (sz := 1) (a := a7) (n := x3.length) (cap := c5) (kk := .i64) (i := 0) (by kernel_rfl) Try.underlying39 (by kernel_rfl) ((H8.rd 2 rfl).cell hx6).1 hx6l hx6u) ?_
          refine QRun_y (.int .i64 x9) (by kernel_rfl) (Y_load1 (t := 2) (p := adr a7 (0 * 1)) (v := .int .i64 x9) (by kernel_rfl) (fun w => by kernel_rfl) (cd2_cell (H8.rd 2 rfl) hx6)) ?_
          refine QRun_b [.int .i64 i1, .bool (x9 == i1)] 3 _ (by kernel_rfl) (fun w => by kernel_rfl) ?_
          exact QRun_done [0, 3, 4, 5, 6, 48] (by kernel_rfl) (by kernel_rfl)
        obtain ⟨s4, gs4, hB1⟩ := M.bind_some hB1
        refine Run_join (fun L' h' => ∃ (a15 : Option Addr), ∃ (c11 : Nat), L' = [(0, .slice aa_ a_.length ca_), (3, .slice a1 x1.length c1), (4, .slice a15 s4.length c11), (5, .int .i64 i1)] ∧ Hold h h' [own cd141 a1 x1.length c1 x1, own cd39 a15 s4.length c11 s4]) ?_ ?_
        · rintro _ h13 ⟨a15, c11, rfl, H35⟩
          refine Run_blk ?_
          refine Run_reg 3 (by kernel_rfl) (L' := [(0, .slice aa_ a_.length ca_), (3, .slice a1 x1.length c1), (4, .slice a15 s4.length c11), (5, .int .i64 (i1 + 1))]) ?_ ?_
          · refine QRun_b [.int .i64 i1] 0 _ (by kernel_rfl) (fun w => by kernel_rfl) ?_
            refine QRun_y (.int .i64 (i1 + 1)) (by kernel_rfl) (Y_eq (v := .int .i64 (w64 (i1 + 1))) (Y_pure (fun w => by kernel_rfl)) (by rw [w64_eq _ (by omega)])) ?_
            refine QRun_b [.int .i64 (i1 + 1)] 2 _ (by kernel_rfl) (fun w => by kernel_rfl) ?_
            exact QRun_done [0, 3, 4, 5] (by kernel_rfl) (by kernel_rfl)
          have H39 : Hold h h13 [own cd39 a15 s4.length c11 s4, own cd141 a1 x1.length c1 x1] := H35.pick [1, 0] (by kernel_rfl)
          have H40 : Hold h h13 [own cd141 a1 x1.length c1 x1, own cd39 a15 s4.length c11 s4] := H39.pick [1, 0] (by kernel_rfl)
          have hB1 := M.ret_some hB1
          have gx2 := hgoy1 _ hB1.symm
          exact Run_again [0, 3, 4, 5] (by kernel_rfl) my1 (Nat.lt_succ_self _) ⟨i1 + 1, s4, a15, c11, by omega, gx2, rfl, H40⟩
        · refine Run_cond (b := x9 == i1) (by kernel_rfl) (fun hb5 => ?_) (fun hb5 => ?_)
          · have gs4 := (M.ite_some gs4).1 hb5
            refine Run_ops ?_
            refine Run_b [.slice a3 s1.length c2, .slice a7 x3.length c5] 0 _ (by kernel_rfl) (fun w => by kernel_rfl) ?_
            have H30 : Hold h h7 [own cd2 a7 x3.length c5 x3, own cd141 a1 x1.length c1 x1, own cd39 a3 s1.length c2 s1] := H8.pick [2, 0, 1] (by kernel_rfl)
            refine Run_E (by kernel_rfl) ?_
            refine E_lit1 (ey := 39) (n := x3.length) H30 (fun w => by kernel_rfl) rfl (fun a13 h11 H29 => ?_)
            obtain ⟨l2, hl2, gs4⟩ := M.bind_some gs4
            have hl2 := M.app_some hl2
            have H31 : Hold h h11 [own cd39 a3 s1.length c2 s1, own cd39 a13 1 1 [x3], own cd141 a1 x1.length c1 x1] := H29.pick [2, 0, 1] (by kernel_rfl)
            have H32 : Hold h h11 [own cd39 a13 1 1 [x3], own cd39 a3 s1.length c2 s1, own cd141 a1 x1.length c1 x1] := H31.pick [1, 0, 2] (by kernel_rfl)
            have H33 : Hold h h11 [own cd39 a3 s1.length c2 s1, own cd39 a13 1 1 [x3], own cd141 a1 x1.length c1 x1] := H32.pick [1, 0, 2] (by kernel_rfl)
            refine Run_E (by kernel_rfl) ?_
            refine E_app (C := cd39) (t := 37) (ty := 37) (n := s1.length) (m := 1) H33 cd39_ti rfl Try.underlying37 (by decide) (by kernel_rfl) hl2 (fun a14 c10 h12 H34 => ?_)
            refine Run_b [.slice a14 l2.length c10] 4 _ (by kernel_rfl) (fun w => by kernel_rfl) ?_
            refine Run_nil (by kernel_rfl) ?_
            refine Run_keep [0, 3, 4, 5] (L' := [(0, .slice aa_ a_.length ca_), (3, .slice a1 x1.length c1), (4, .slice a14 l2.length c10), (5, .int .i64 i1)]) (by kernel_rfl) ?_
            have H36 : Hold h h12 [own cd141 a1 x1.length c1 x1, own cd39 a14 l2.length c10 l2] := H34.pick [1, 0] (by kernel_rfl)
            have gs4 := M.ret_some gs4
            subst gs4
            exact Run_fall [0, 3, 4, 5] (by kernel_rfl) ⟨a14, c10, rfl, H36⟩
          · have gs4 := (M.ite_some gs4).2 hb5
            refine Run_skip ?_
            have H37 : Hold h h7 [own cd39 a3 s1.length c2 s1, own cd141 a1 x1.length c1 x1, own cd2 a7 x3.length c5 x3] := H8.pick [1, 0, 2] (by kernel_rfl)
            have H38 : Hold h h7 [own cd141 a1 x1.length c1 x1, own cd39 a3 s1.length c2 s1] := H37.pick [1, 0] (by kernel_rfl)
            have gs4 := M.ret_some gs4
            subst gs4
            exact Run_fall [0, 3, 4, 5] (by kernel_rfl) ⟨a3, c2, rfl, H38⟩
      · refine Run_block ?_
        have hn1 := (H6.len 0 rfl)
        have H41 : Hold h h5 [own cd2 a5 (([] : List Int).length) 0 ([] : List Int), own cd141 a1 x1.length c1 x1, own cd39 a3 s1.length c2 s1] := by rw [hn1]; exact H6
        have H42 : Hold h h5 [own cd141 a1 x1.length c1 x1, own cd39 a3 s1.length c2 s1, own cd2 a5 (([] : List Int).length) 0 ([] : List Int)] := H41.pick [1, 2, 0] (by kernel_rfl)
        refine Run_keep [0, 3, 4, 5, 6, 7] (L' := [(0, .slice aa_ a_.length ca_), (3, .slice a1 x1.length c1), (4, .slice a3 s1.length c2), (5, .int .i64 i1), (6, .slice a5 (([] : List Int).length) 0), (7, .int .i64 0)]) (by rw [hn1]; kernel_rfl) ?_
        refine Run_loop (fun m L' h' => ∃ (i2 : Int) (s2 : (List Int)) (a6 : Option Addr) (c4 : Nat), 0 ≤ i2 ∧ M.forN (a_.length : Int) _ _ n m i2 s2 = some x3 ∧ L' = [(0, .slice aa_ a_.length ca_), (3, .slice a1 x1.length c1), (4, .slice a3 s1.length c2), (5, .int .i64 i1), (6, .slice a6 s2.length c4), (7, .int .i64 i2)] ∧ Hold h h' [own cd141 a1 x1.length c1 x1, own cd39 a3 s1.length c2 s1, own cd2 a6 s2.length c4 s2]) ((a_.length : Int) - 0 : Int).toNat ⟨0, ([] : List Int), a5, 0, Int.le_refl _, gx3, rfl, H42⟩ ?_
        rintro my2 _ h6 ⟨i2, s2, a6, c4, hloy2', gx3, rfl, H7⟩
        refine Run_seq ?_
        refine Run_seq ?_
        refine Run_reg 4 (by kernel_rfl) (L' := [(0, .slice aa_ a_.length ca_), (3, .slice a1 x1.length c1), (4, .slice a3 s1.length c2), (5, .int .i64 i1), (6, .slice a6 s2.length c4), (7, .int .i64 i2), (21, .bool (decide (i2 < (a_.length : Int))))]) ?_ ?_
        · refine QRun_b [.int .i64 i2, .slice aa_ a_.length ca_, .int .i64 (a_.length : Int), .bool (decide (i2 < (a_.length : Int)))] 0 _ (by kernel_rfl) (fun w => by kernel_rfl) ?_
          exact QRun_done [0, 3, 4, 5, 6, 7, 21] (by kernel_rfl) (by kernel_rfl)
        refine Run_cond (b := decide (i2 < (a_.length : Int))) (by kernel_rfl) (fun hb2 => ?_) (fun hb2 => ?_)
        · obtain ⟨my2, y2, rfl, hB2, hgoy2, houty2⟩ := M.for_go gx3 hb2
          have hlty2 := of_decide_eq_true hb2
          refine Run_skip ?_
          refine Run_seq ?_
          refine Run_block ?_
          refine Run_seq ?_
          obtain ⟨x4, hx2, hB2⟩ := M.bind_some hB2
          obtain ⟨hx2l, hx2u, hx2⟩ := M.idx_some hx2
          have H9 := H7.toRows
          obtain ⟨a8, c6, H10⟩ := H9.pinRow hx2
          obtain ⟨x5, hx3, hB2⟩ := M.bind_some hB2
          obtain ⟨hx3l, hx3u, hx3⟩ := M.idx_some hx3
          obtain ⟨x6, gx6, hB2⟩ := M.bind_some hB2
          refine Run_reg 16 (by kernel_rfl) (L' := [(0, .slice aa_ a_.length ca_), (3, .slice a1 x1.length c1), (4, .slice a3 s1.length c2), (5, .int .i64 i1), (6, .slice a6 s2.length c4), (7, .int .i64 i2), (39, .bool x6)]) ?_ ?_
          · refine QRun_b [.slice a1 x1.length c1, .int .i64 i1] 0 _ (by kernel_rfl) (fun w => by kernel_rfl) ?_
            refine QRun_y (.pointer (some (adr a1 (i1.toNat * 1)))) (by kernel_rfl) (Y_idx (t := 139) (e := 141) (sz := 1) (a := a1) (n := x1.length) (cap := c1) (kk := .i64) (i := i1) (by kernel_rfl) Try.underlying139 (by kernel_rfl) ((H7.rd 0 rfl).cell hx2).1 hx2l hx2u) ?_
            refine QRun_y (.slice a8 x4.length c6) (by kernel_rfl) (Y_load1 (t := 141) (p := adr a1 (i1.toNat * 1)) (v := .slice a8 x4.length c6) (by kernel_rfl) (fun w => by kernel_rfl) (H10.cellPin 0 rfl 0 rfl)) ?_
            refine QRun_b [.int .i64 i2] 4 _ (by kernel_rfl) (fun w => by kernel_rfl) ?_
            refine QRun_y (.pointer (some (adr a8 (i2.toNat * 1)))) (by kernel_rfl) (Y_idx (t := 141) (e := 4) (sz := 1) (a := a8) (n := x4.length) (cap := c6) (kk := .i64) (i := i2) (by kernel_rfl) Try.underlying141 (by kernel_rfl) ((H10.rdPin 0 rfl 0 rfl).cell hx3).1 hx3l hx3u) ?_
            refine QRun_y (.bool x5) (by kernel_rfl) (Y_load1 (t := 4) (p := adr a8 (i2.toNat * 1)) (v := .bool x5) (by kernel_rfl) (fun w => by kernel_rfl) (cd4_cell (H10.rdPin 0 rfl 0 rfl) hx3)) ?_
            refine QRun_seq 16 [(0, .slice aa_ a_.length ca_), (3, .slice a1 x1.length c1), (4, .slice a3 s1.length c2), (5, .int .i64 i1), (6, .slice a6 s2.length c4), (7, .int .i64 i2), (39, .bool x6)] ?_ ?_
            · rcases Bool.eq_false_or_eq_true x5 with hb3 | hb3
              · refine QRun_bool x5 true (by kernel_rfl) (fun w => by kernel_rfl) hb3 ?_
                have gx6 := (M.ite_some gx6).1 hb3
                obtain ⟨x7, hx4, gx6⟩ := M.bind_some gx6
                obtain ⟨hx4l, hx4u, hx4⟩ := M.idx_some hx4
                obtain ⟨a9, c7, H11⟩ := H10.pinRow hx4
                obtain ⟨x8, hx5, gx6⟩ := M.bind_some gx6
                obtain ⟨hx5l, hx5u, hx5⟩ := M.idx_some hx5
                have gx6 := M.ret_some gx6
                refine QRun_b [.slice a1 x1.length c1, .int .i64 i2] 8 _ (by kernel_rfl) (fun w => by kernel_rfl) ?_
                refine QRun_y (.pointer (some (adr a1 (i2.toNat * 1)))) (by kernel_rfl) (Y_idx (t := 139) (e := 141) (sz := 1) (a := a1) (n := x1.length) (cap := c1) (kk := .i64) (i := i2) (by kernel_rfl) Try.underlying139 (by kernel_rfl) ((H10.rdRows 0 rfl).cell hx4).1 hx4l hx4u) ?_
                refine QRun_y (.slice a9 x7.length c7) (by kernel_rfl) (Y_load1 (t := 141) (p := adr a1 (i2.toNat * 1)) (v := .slice a9 x7.length c7) (by kernel_rfl) (fun w => by kernel_rfl) (H11.cellPin 0 rfl 0 rfl)) ?_
                refine QRun_b [.int .i64 i1] 12 _ (by kernel_rfl) (fun w => by kernel_rfl) ?_
                refine QRun_y (.pointer (some (adr a9 (i1.toNat * 1)))) (by kernel_rfl) (Y_idx (t := 141) (e := 4) (sz := 1) (a := a9) (n := x7.length) (cap := c7) (kk := .i64) (i := i1) (by kernel_rfl) Try.underlying141 (by kernel_rfl) ((H11.rdPin 0 rfl 0 rfl).cell hx5).1 hx5l hx5u) ?_
                refine QRun_y (.bool x8) (by kernel_rfl) (Y_load1 (t := 4) (p := adr a9 (i1.toNat * 1)) (v := .bool x8) (by kernel_rfl) (fun w => by kernel_rfl) (cd4_cell (H11.rdPin 0 rfl 0 rfl) hx5)) ?_
                refine QRun_bool x8 x6 (by kernel_rfl) (fun w => by kernel_rfl) gx6 ?_
                exact QRun_done [0, 3, 4, 5, 6, 7, 39] (by kernel_rfl) (by kernel_rfl)
              · refine QRun_bool x5 false (by kernel_rfl) (fun w => by kernel_rfl) hb3 ?_
                have gx6 := M.ret_some ((M.ite_some gx6).2 hb3)
                refine QRun_n (by kernel_rfl) ?_
                refine QRun_n (by kernel_rfl) ?_
                refine QRun_n (by kernel_rfl) ?_
                refine QRun_n (by kernel_rfl) ?_
                refine QRun_n (by kernel_rfl) ?_
                refine QRun_n (by kernel_rfl) ?_
                refine QRun_n (by kernel_rfl) ?_
                refine QRun_bool false x6 (by kernel_rfl) (fun w => by kernel_rfl) gx6 ?_
                exact QRun_done [0, 3, 4, 5, 6, 7, 39] (by kernel_rfl) (by kernel_rfl)
            exact QRun_done [0, 3, 4, 5, 6, 7, 39] (by kernel_rfl) (by kernel_rfl)
          obtain ⟨s3, gs3, hB2⟩ := M.bind_some hB2
          refine Run_join (fun L' h' => ∃ (a12 : Option Addr), ∃ (c9 : Nat), L' = [(0, .slice aa_ a_.length ca_), (3, .slice a1 x1.length c1), (4, .slice a3 s1.length c2), (5, .int .i64 i1), (6, .slice a12 s3.length c9), (7, .int .i64 i2)] ∧ Hold h h' [own cd141 a1 x1.length c1 x1, own cd39 a3 s1.length c2 s1, own cd2 a12 s3.length c9 s3]) ?_ ?_
          · rintro _ h10 ⟨a12, c9, rfl, H17⟩
            refine Run_blk ?_
            refine Run_reg 3 (by kernel_rfl) (L' := [(0, .slice aa_ a_.length ca_), (3, .slice a1 x1.length c1), (4, .slice a3 s1.length c2), (5, .int .i64 i1), (6, .slice a12 s3.length c9), (7, .int .i64 (i2 + 1))]) ?_ ?_
            · refine QRun_b [.int .i64 i2] 0 _ (by kernel_rfl) (fun w => by kernel_rfl) ?_
              refine QRun_y (.int .i64 (i2 + 1)) (by kernel_rfl) (Y_eq (v := .int .i64 (w64 (i2 + 1))) (Y_pure (fun w => by kernel_rfl)) (by rw [w64_eq _ (by omega)])) ?_
              refine QRun_b [.int .i64 (i2 + 1)] 2 _ (by kernel_rfl) (fun w => by kernel_rfl) ?_
              exact QRun_done [0, 3, 4, 5, 6, 7] (by kernel_rfl) (by kernel_rfl)
            have H25 : Hold h h10 [own cd2 a12 s3.length c9 s3, own cd141 a1 x1.length c1 x1, own cd39 a3 s1.length c2 s1] := H17.pick [2, 0, 1] (by kernel_rfl)
            have H26 : Hold h h10 [own cd141 a1 x1.length c1 x1, own cd39 a3 s1.length c2 s1, own cd2 a12 s3.length c9 s3] := H25.pick [1, 2, 0] (by kernel_rfl)
            have hB2 := M.ret_some hB2
            have gx3 := hgoy2 _ hB2.symm
            exact Run_again [0, 3, 4, 5, 6, 7] (by kernel_rfl) my2 (Nat.lt_succ_self _) ⟨i2 + 1, s3, a12, c9, by omega, gx3, rfl, H26⟩
          · refine Run_cond (b := x6) (by kernel_rfl) (fun hb4 => ?_) (fun hb4 => ?_)
            · have gs3 := (M.ite_some gs3).1 hb4
              refine Run_ops ?_
              refine Run_b [.slice a6 s2.length c4, .int .i64 i2] 0 _ (by kernel_rfl) (fun w => by kernel_rfl) ?_
              refine Run_E (by kernel_rfl) ?_
              refine E_lit (C := cd2) (n := 1) (l := ([i2] : List Int)) (cs := [.int .i64 i2]) H10 (fun w => by kernel_rfl) (Enc.consE (cd2_own i2 _) (Enc.nil _ _) rfl) rfl (by decide) (fun a10 h8 H12 => ?_)
              obtain ⟨l1, hl1, gs3⟩ := M.bind_some gs3
              have hl1 := M.app_some hl1
              have H13 : Hold h h8 [own cd2 a6 s2.length c4 s2, own cd2 a10 1 1 ([i2] : List Int), rowsP cd4 141 a1 x1.length c1 x1 [(i1.toNat, a8, x4.length, c6, x4)], own cd39 a3 s1.length c2 s1] := H12.pick [3, 0, 1, 2] (by kernel_rfl)
              have H14 : Hold h h8 [own cd2 a10 1 1 ([i2] : List Int), own cd2 a6 s2.length c4 s2, rowsP cd4 141 a1 x1.length c1 x1 [(i1.toNat, a8, x4.length, c6, x4)], own cd39 a3 s1.length c2 s1] := H13.pick [1, 0, 2, 3] (by kernel_rfl)
              have H15 : Hold h h8 [own cd2 a6 s2.length c4 s2, own cd2 a10 1 1 ([i2] : List Int), rowsP cd4 141 a1 x1.length c1 x1 [(i1.toNat, a8, x4.length, c6, x4)], own cd39 a3 s1.length c2 s1] := H14.pick [1, 0, 2, 3] (by kernel_rfl)
              refine Run_E (by kernel_rfl) ?_
              refine E_app (C := cd2) (t := 39) (ty := 39) (n := s2.length) (m := 1) H15 cd2_ti rfl Try.underlying39 (by decide) (by kernel_rfl) hl1 (fun a11 c8 h9 H16 => ?_)
              refine Run_b [.slice a11 l1.length c8] 4 _ (by kernel_rfl) (fun w => by kernel_rfl) ?_
              refine Run_nil (by kernel_rfl) ?_
              refine Run_keep [0, 3, 4, 5, 6, 7] (L' := [(0, .slice aa_ a_.length ca_), (3, .slice a1 x1.length c1), (4, .slice a3 s1.length c2), (5, .int .i64 i1), (6, .slice a11 l1.length c8), (7, .int .i64 i2)]) (by kernel_rfl) ?_
              have H18 : Hold h h9 [rowsP cd4 141 a1 x1.length c1 x1 [(i1.toNat, a8, x4.length, c6, x4)], own cd2 a11 l1.length c8 l1, own cd39 a3 s1.length c2 s1] := H16.pick [1, 0, 2] (by kernel_rfl)
              have H19 := H18.ofRows
              have H20 : Hold h h9 [own cd2 a11 l1.length c8 l1, own cd141 a1 x1.length c1 x1, own cd39 a3 s1.length c2 s1] := H19.pick [1, 0, 2] (by kernel_rfl)
              have H21 : Hold h h9 [own cd141 a1 x1.length c1 x1, own cd39 a3 s1.length c2 s1, own cd2 a11 l1.length c8 l1] := H20.pick [1, 2, 0] (by kernel_rfl)
              have gs3 := M.ret_some gs3
              subst gs3
              exact Run_fall [0, 3, 4, 5, 6, 7] (by kernel_rfl) ⟨a11, c8, rfl, H21⟩
            · have gs3 := (M.ite_some gs3).2 hb4
              refine Run_skip ?_
              have H22 := H10.ofRows
              have H23 : Hold h h6 [own cd2 a6 s2.length c4 s2, own cd141 a1 x1.length c1 x1, own cd39 a3 s1.length c2 s1] := H22.pick [2, 0, 1] (by kernel_rfl)
              have H24 : Hold h h6 [own cd141 a1 x1.length c1 x1, own cd39 a3 s1.length c2 s1, own cd2 a6 s2.length c4 s2] := H23.pick [1, 2, 0] (by kernel_rfl)
              have gs3 := M.ret_some gs3
              subst gs3
              exact Run_fall [0, 3, 4, 5, 6, 7] (by kernel_rfl) ⟨a6, c4, rfl, H24⟩
        · have gx3 := M.for_end gx3 hb2
          subst gx3
          refine Run_exit (k' := _) rfl ?_
          have H27 : Hold h h6 [own cd2 a6 s2.length c4 s2, own cd141 a1 x1.length c1 x1, own cd39 a3 s1.length c2 s1] := H7.pick [2, 0, 1] (by kernel_rfl)
          have H28 : Hold h h6 [own cd141 a1 x1.length c1 x1, own cd39 a3 s1.length c2 s1, own cd2 a6 s2.length c4 s2] := H27.pick [1, 2, 0] (by kernel_rfl)
          exact Run_fall [0, 3, 4, 5, 6] (by kernel_rfl) ⟨a6, c4, rfl, H28⟩
    · have gx2 := M.for_end gx2 hb1
      subst gx2
      refine Run_exit (k' := _) rfl ?_
      have H43 : Hold h h3 [own cd39 a3 s1.length c2 s1, own cd141 a1 x1.length c1 x1] := H4.pick [1, 0] (by kernel_rfl)
      have H44 : Hold h h3 [own cd39 a3 s1.length c2 s1] := H43.pick [0] (by kernel_rfl)
      exact Run_fall [4] (by kernel_rfl) ⟨a3, c2, rfl, H44⟩

set_option maxRecDepth 100000 in
set_option maxHeartbeats 4000000 in
theorem w_spec_IsStrong (h : Heap) (g : TGraph) (agPlaces : Option Addr) (cgPlaces : Nat) (rgPlaces : Rd cd58 h (Lt h) agPlaces cgPlaces g.Places) (n : Nat) (r : Bool × Int) (hF : spec_IsStrong g n = some r) :
    Fn Try.prog 12 #[.agg #[.int .i64 g.Events, .slice agPlaces g.Places.length cgPlaces]] h fun v h' => v = .tuple #[.bool r.1, .int .i64 r.2] ∧ Hold h h' [] := by
  unfold spec_IsStrong at hF
  refine Fn_enter (args := [.agg #[.int .i64 g.Events, .slice agPlaces g.Places.length cgPlaces]]) Try.func12 rfl (by kernel_rfl) (by kernel_rfl) (fun w0 _ => ?_)
  have H0 := Hold.init h
  refine Run_seq ?_
  refine Run_ops ?_
  refine Run_E (by kernel_rfl) ?_
  refine E_box (ty := 30) (cs := [.int .i64 g.Events, .slice agPlaces g.Places.length cgPlaces]) H0 (fun w => by kernel_rfl) (fun b1 h1 H1 => ?_)
  refine Run_b [.bool false, .int .i64 0] 1 _ (by kernel_rfl) (fun w => by kernel_rfl) ?_
  refine Run_nil (by kernel_rfl) ?_
  refine Run_keep [1] (L' := [(1, .pointer (some ⟨b1, 0, none⟩))]) (by kernel_rfl) ?_
  refine Run_seq ?_
  refine Run_seq ?_
  obtain ⟨x1, hx1, hF⟩ := M.bind_some hF
  refine Run_regC (j := 3) (C := fun x => Hold h x [box b1 30 [.int .i64 g.Events, .slice agPlaces g.Places.length cgPlaces]]) (by kernel_rfl) H1 (L' := [(1, .pointer (some ⟨b1, 0, none⟩)), (6, .bool (!x1))]) ?_ (fun h2 H2 => ?_)
  · refine QRun_y (.agg #[.int .i64 g.Events, .slice agPlaces g.Places.length cgPlaces]) (by kernel_rfl) (Y_cls fun hx Hx => (Y_loadA (t := 30) (n := 2) (p := ⟨b1, 0, none⟩) (cs := [.int .i64 g.Events, .slice agPlaces g.Places.length cgPlaces]) (by kernel_rfl) (fun w => by kernel_rfl) (by kernel_rfl) rfl (Hx.cells (n := 2) (off := 0) 0 rfl rfl))) ?_
    refine QRun_y (.bool x1) (by kernel_rfl) (Y_call (f := 70) (args := #[.agg #[.int .i64 g.Events, .slice agPlaces g.Places.length cgPlaces]]) (v := .bool x1) (by kernel_rfl) fun hx Hx => (w_spec_IsEventGraph hx g agPlaces cgPlaces (rgPlaces.at Hx.ext) _ _ hx1).mono fun _ _ ⟨e, H'⟩ => ⟨e, Hx.call H' rfl⟩) ?_
    refine QRun_b [.bool (!x1)] 2 _ (by kernel_rfl) (fun w => by kernel_rfl) ?_
    exact QRun_done [1, 6] (by kernel_rfl) (by kernel_rfl)
  have H3 : Hold h h2 [box b1 30 [.int .i64 g.Events, .slice agPlaces g.Places.length cgPlaces]] := H2
  refine Run_cond (b := !x1) (by kernel_rfl) (fun hb1 => ?_) (fun hb1 => ?_)
  · have hF := (M.ite_some hF).1 hb1
    refine Run_seq ?_
    refine Run_reg 2 (by kernel_rfl) (L' := [(2, .bool false), (3, .int .i64 1)]) ?_ ?_
    · refine QRun_b [.bool false, .int .i64 1] 0 _ (by kernel_rfl) (fun w => by kernel_rfl) ?_
      exact QRun_done [2, 3] (by kernel_rfl) (by kernel_rfl)
    have hF := M.ret_some hF
    subst hF
    have H4 : Hold h h2 [] := H3.pick [] (by kernel_rfl)
    exact Run_ret2 rfl (ResV_tmp (v := .bool false) (by kernel_rfl)) (ResV_tmp (v := .int .i64 1) (by kernel_rfl)) ⟨rfl, H4⟩
  · have hF := (M.ite_some hF).2 hb1
    refine Run_skip ?_
    refine Run_seq ?_
    refine Run_ops ?_
    refine Run_y (.agg #[.int .i64 g.Events, .slice agPlaces g.Places.length cgPlaces]) (by kernel_rfl) (Y_loadA (t := 30) (n := 2) (p := ⟨b1, 0, none⟩) (cs := [.int .i64 g.Events, .slice agPlaces g.Places.length cgPlaces]) (by kernel_rfl) (fun w => by kernel_rfl) (by kernel_rfl) rfl (H3.cells (n := 2) (off := 0) 0 rfl rfl)) ?_
    obtain ⟨x2, hx2, hF⟩ := M.bind_some hF
    refine Run_E (by kernel_rfl) ?_
    refine E_call (f := 72) (args := #[.agg #[.int .i64 g.Events, .slice agPlaces g.Places.length cgPlaces]]) (w_spec_l12Tokens h2 g agPlaces cgPlaces (rgPlaces.at H3.ext) _ _ hx2) (by kernel_rfl) (fun v1 h3 hp1 => ?_)
    obtain ⟨a1, c1, rfl, H5⟩ := hp1
    have H6 : Hold h h3 [own cd39 a1 x2.length c1 x2, box b1 30 [.int .i64 g.Events, .slice agPlaces g.Places.length cgPlaces]] := H3.call H5 rfl
    obtain ⟨x3, hx3, hF⟩ := M.bind_some hF
    refine Run_E (by kernel_rfl) ?_
    refine E_call (f := 71) (args := #[.slice a1 x2.length c1]) (w_spec_l05Components h3 x2 a1 c1 (H6.rd 0 rfl) _ _ hx3) (by kernel_rfl) (fun v2 h4 hp2 => ?_)
    obtain ⟨a2, c2, rfl, H7⟩ := hp2
    have H8 : Hold h h4 [own cd39 a2 x3.length c2 x3, own cd39 a1 x2.length c1 x2, box b1 30 [.int .i64 g.Events, .slice agPlaces g.Places.length cgPlaces]] := H6.call H7 rfl
    refine Run_b [.int .i64 (x3.length : Int), .bool ((x3.length : Int) == 1), .bool ((x3.length : Int) == 1), .int .i64 0] 3 _ (by kernel_rfl) (fun w => by kernel_rfl) ?_
    refine Run_nil (by kernel_rfl) ?_
    refine Run_keep [2, 3] (L' := [(2, .bool ((x3.length : Int) == 1)), (3, .int .i64 0)]) (by kernel_rfl) ?_
    have hF := M.ret_some hF
    subst hF
    have H9 : Hold h h4 [] := H8.pick [] (by kernel_rfl)
    exact Run_ret2 rfl (ResV_tmp (v := .bool ((x3.length : Int) == 1)) (by kernel_rfl)) (ResV_tmp (v := .int .i64 0) (by kernel_rfl)) ⟨rfl, H9⟩

set_option maxRecDepth 100000 in
set_option maxHeartbeats 4000000 in
theorem w_impl_within (h : Heap) (n_ : Int) (low : Int) (high : Int) (n : Nat) (r : Bool) (hF : impl_within n_ low high n = some r) :
    Fn Try.prog 108 #[.int .i64 n_, .int .i64 low, .int .i64 high] h fun v h' => v = .bool r ∧ h' = h := by
  unfold impl_within at hF
  refine Fn_enter (args := [.int .i64 n_, .int .i64 low, .int .i64 high]) Try.func108 rfl (by kernel_rfl) (by kernel_rfl) (fun w0 _ => ?_)
  refine Run_seq ?_
  refine Run_reg 1 (by kernel_rfl) (L' := [(0, .int .i64 n_), (1, .int .i64 low), (2, .int .i64 high)]) ?_ ?_
  · refine QRun_b [.bool false] 0 _ (by kernel_rfl) (fun w => by kernel_rfl) ?_
    exact QRun_done [0, 1, 2] (by kernel_rfl) (by kernel_rfl)
  refine Run_seq ?_
  refine Run_reg 9 (by kernel_rfl) (L' := [(6, .bool ((decide (low ≤ n_)) && (decide (n_ ≤ high))))]) ?_ ?_
  · refine QRun_b [.int .i64 n_, .int .i64 low, .bool (decide (low ≤ n_))] 0 _ (by kernel_rfl) (fun w => by kernel_rfl) ?_
    refine QRun_seq 8 [(14, .bool ((decide (low ≤ n_)) && (decide (n_ ≤ high))))] ?_ ?_
    · rcases Bool.eq_false_or_eq_true (decide (low ≤ n_)) with hb1 | hb1
      · refine QRun_bool (decide (low ≤ n_)) true (by kernel_rfl) (fun w => by kernel_rfl) hb1 ?_
        refine QRun_b [.int .i64 n_, .int .i64 high, .bool (decide (n_ ≤ high))] 4 _ (by kernel_rfl) (fun w => by kernel_rfl) ?_
        refine QRun_bool (decide (n_ ≤ high)) ((decide (low ≤ n_)) && (decide (n_ ≤ high))) (by kernel_rfl) (fun w => by kernel_rfl) (by rw [hb1]; rfl) ?_
        exact QRun_done [14] (by kernel_rfl) (by kernel_rfl)
      · refine QRun_bool (decide (low ≤ n_)) false (by kernel_rfl) (fun w => by kernel_rfl) hb1 ?_
        refine QRun_n (by kernel_rfl) ?_
        refine QRun_n (by kernel_rfl) ?_
        refine QRun_n (by kernel_rfl) ?_
        refine QRun_bool false ((decide (low ≤ n_)) && (decide (n_ ≤ high))) (by kernel_rfl) (fun w => by kernel_rfl) (by rw [hb1]; rfl) ?_
        exact QRun_done [14] (by kernel_rfl) (by kernel_rfl)
    refine QRun_b [.bool ((decide (low ≤ n_)) && (decide (n_ ≤ high)))] 8 _ (by kernel_rfl) (fun w => by kernel_rfl) ?_
    exact QRun_done [6] (by kernel_rfl) (by kernel_rfl)
  have hF := M.ret_some hF
  subst hF
  exact Run_ret1 rfl (ResV_tmp (v := .bool ((decide (low ≤ n_)) && (decide (n_ ≤ high)))) (by kernel_rfl)) ⟨rfl, rfl⟩

set_option maxRecDepth 100000 in
set_option maxHeartbeats 4000000 in
theorem w_impl_isEvent (h : Heap) (g : TGraph) (agPlaces : Option Addr) (cgPlaces : Nat) (rgPlaces : Rd cd58 h (Lt h) agPlaces cgPlaces g.Places) (event : Int) (n : Nat) (r : Bool) (hF : impl_isEvent g event n = some r) :
    Fn Try.prog 80 #[.agg #[.int .i64 g.Events, .slice agPlaces g.Places.length cgPlaces], .int .i64 event] h fun v h' => v = .bool r ∧ Hold h h' [] := by
  unfold impl_isEvent at hF
  refine Fn_enter (args := [.agg #[.int .i64 g.Events, .slice agPlaces g.Places.length cgPlaces], .int .i64 event]) Try.func80 rfl (by kernel_rfl) (by kernel_rfl) (fun w0 _ => ?_)
  have H0 := Hold.init h
  refine Run_seq ?_
  refine Run_ops ?_
  refine Run_E (by kernel_rfl) ?_
  refine E_box (ty := 30) (cs := [.int .i64 g.Events, .slice agPlaces g.Places.length cgPlaces]) H0 (fun w => by kernel_rfl) (fun b1 h1 H1 => ?_)
  refine Run_b [.bool false] 1 _ (by kernel_rfl) (fun w => by kernel_rfl) ?_
  refine Run_nil (by kernel_rfl) ?_
  refine Run_keep [1, 2] (L' := [(1, .int .i64 event), (2, .pointer (some ⟨b1, 0, none⟩))]) (by kernel_rfl) ?_
  refine Run_seq ?_
  obtain ⟨x1, hx1, hF⟩ := M.bind_some hF
  refine Run_reg 6 (by kernel_rfl) (L' := [(4, .bool x1)]) ?_ ?_
  · refine QRun_b [.int .i64 event, .pointer (some ⟨b1, 0, none⟩)] 0 _ (by kernel_rfl) (fun w => by kernel_rfl) ?_
    refine QRun_y (.int .i64 g.Events) (by kernel_rfl) (Y_load1 (t := 2) (p := ⟨b1, 0, none⟩) (v := .int .i64 g.Events) (by kernel_rfl) (fun w => by kernel_rfl) (H1.cell 0 rfl rfl)) ?_
    refine QRun_b [.int .i64 (w64 (g.Events - 1))] 3 _ (by kernel_rfl) (fun w => by kernel_rfl) ?_
    refine QRun_y (.bool x1) (by kernel_rfl) (Y_callq (f := 108) (args := #[.int .i64 event, .int .i64 0, .int .i64 (w64 (g.Events - 1))]) (v := .bool x1) (by kernel_rfl) (w_impl_within h1 event 0 (w64 (g.Events - 1)) _ _ hx1)) ?_
    refine QRun_b [.bool x1] 5 _ (by kernel_rfl) (fun w => by kernel_rfl) ?_
    exact QRun_done [4] (by kernel_rfl) (by kernel_rfl)
  have hF := M.ret_some hF
  subst hF
  have H2 : Hold h h1 [] := H1.pick [] (by kernel_rfl)
  exact Run_ret1 rfl (ResV_tmp (v := .bool x1) (by kernel_rfl)) ⟨rfl, H2⟩

set_option maxRecDepth 100000 in
set_option maxHeartbeats 4000000 in
theorem w_impl_isPlace (h : Heap) (g : TGraph) (agPlaces : Option Addr) (cgPlaces : Nat) (rgPlaces : Rd cd58 h (Lt h) agPlaces cgPlaces g.Places) (p : TPlace) (n : Nat) (r : Bool) (hF : impl_isPlace g p n = some r) :
    Fn Try.prog 145 #[.agg #[.int .i64 g.Events, .slice agPlaces g.Places.length cgPlaces], .agg #[.int .i64 p.From, .int .i64 p.To, .int .i64 p.Delay, .int .i64 p.Tokens]] h fun v h' => v = .bool r ∧ Hold h h' [] := by
  unfold impl_isPlace at hF
  refine Fn_enter (args := [.agg #[.int .i64 g.Events, .slice agPlaces g.Places.length cgPlaces], .agg #[.int .i64 p.From, .int .i64 p.To, .int .i64 p.Delay, .int .i64 p.Tokens]]) Try.func145 rfl (by kernel_rfl) (by kernel_rfl) (fun w0 _ => ?_)
  have H0 := Hold.init h
  refine Run_seq ?_
  refine Run_ops ?_
  refine Run_E (by kernel_rfl) ?_
  refine E_box (ty := 30) (cs := [.int .i64 g.Events, .slice agPlaces g.Places.length cgPlaces]) H0 (fun w => by kernel_rfl) (fun b1 h1 H1 => ?_)
  refine Run_E (by kernel_rfl) ?_
  refine E_box (ty := 58) (cs := [.int .i64 p.From, .int .i64 p.To, .int .i64 p.Delay, .int .i64 p.Tokens]) H1 (fun w => by kernel_rfl) (fun b2 h2 H2 => ?_)
  refine Run_b [.bool false] 2 _ (by kernel_rfl) (fun w => by kernel_rfl) ?_
  refine Run_nil (by kernel_rfl) ?_
  refine Run_keep [2, 3] (L' := [(2, .pointer (some ⟨b1, 0, none⟩)), (3, .pointer (some ⟨b2, 0, none⟩))]) (by kernel_rfl) ?_
  refine Run_seq ?_
  obtain ⟨x1, hx1, hF⟩ := M.bind_some hF
  obtain ⟨x2, gx2, hF⟩ := M.bind_some hF
  obtain ⟨x4, gx4, hF⟩ := M.bind_some hF
  obtain ⟨x6, gx6, hF⟩ := M.bind_some hF
  refine Run_regC (j := 21) (C := fun x => Hold h x [box b2 58 [.int .i64 p.From, .int .i64 p.To, .int .i64 p.Delay, .int .i64 p.Tokens], box b1 30 [.int .i64 g.Events, .slice agPlaces g.Places.length cgPlaces]]) (by kernel_rfl) H2 (L' := [(4, .bool x6)]) ?_ (fun h3 H3 => ?_)
  · refine QRun_y (.agg #[.int .i64 g.Events, .slice agPlaces g.Places.length cgPlaces]) (by kernel_rfl) (Y_cls fun hx Hx => (Y_loadA (t := 30) (n := 2) (p := ⟨b1, 0, none⟩) (cs := [.int .i64 g.Events, .slice agPlaces g.Places.length cgPlaces]) (by kernel_rfl) (fun w => by kernel_rfl) (by kernel_rfl) rfl (Hx.cells (n := 2) (off := 0) 1 rfl rfl))) ?_
    refine QRun_b [.pointer (some ⟨b2, 0, none⟩)] 1 _ (by kernel_rfl) (fun w => by kernel_rfl) ?_
    refine QRun_y (.int .i64 p.From) (by kernel_rfl) (Y_cls fun hx Hx => (Y_load1 (t := 2) (p := ⟨b2, 0, none⟩) (v := .int .i64 p.From) (by kernel_rfl) (fun w => by kernel_rfl) (Hx.cell 0 rfl rfl))) ?_
    refine QRun_y (.bool x1) (by kernel_rfl) (Y_call (f := 80) (args := #[.agg #[.int .i64 g.Events, .slice agPlaces g.Places.length cgPlaces], .int .i64 p.From]) (v := .bool x1) (by kernel_rfl) fun hx Hx => (w_impl_isEvent hx g agPlaces cgPlaces (rgPlaces.at Hx.ext) p.From _ _ hx1).mono fun _ _ ⟨e, H'⟩ => ⟨e, Hx.call H' rfl⟩) ?_
    refine QRun_seq 10 [(3, .pointer (some ⟨b2, 0, none⟩)), (14, .bool x2)] ?_ ?_
    · rcases Bool.eq_false_or_eq_true x1 with hb1 | hb1
      · refine QRun_bool x1 true (by kernel_rfl) (fun w => by kernel_rfl) hb1 ?_
        have gx2 := (M.ite_some gx2).1 hb1
        obtain ⟨x3, hx2, gx2⟩ := M.bind_some gx2
        have gx2 := M.ret_some gx2
        refine QRun_y (.agg #[.int .i64 g.Events, .slice agPlaces g.Places.length cgPlaces]) (by kernel_rfl) (Y_cls fun hx Hx => (Y_loadA (t := 30) (n := 2) (p := ⟨b1, 0, none⟩) (cs := [.int .i64 g.Events, .slice agPlaces g.Places.length cgPlaces]) (by kernel_rfl) (fun w => by kernel_rfl) (by kernel_rfl) rfl (Hx.cells (n := 2) (off := 0) 1 rfl rfl))) ?_
        refine QRun_b [.pointer (some ⟨b2, 1, none⟩)] 6 _ (by kernel_rfl) (fun w => by kernel_rfl) ?_
        refine QRun_y (.int .i64 p.To) (by kernel_rfl) (Y_cls fun hx Hx => (Y_load1 (t := 2) (p := ⟨b2, 1, none⟩) (v := .int .i64 p.To) (by kernel_rfl) (fun w => by kernel_rfl) (Hx.cell 0 rfl rfl))) ?_
        refine QRun_y (.bool x3) (by kernel_rfl) (Y_call (f := 80) (args := #[.agg #[.int .i64 g.Events, .slice agPlaces g.Places.length cgPlaces], .int .i64 p.To]) (v := .bool x3) (by kernel_rfl) fun hx Hx => (w_impl_isEvent hx g agPlaces cgPlaces (rgPlaces.at Hx.ext) p.To _ _ hx2).mono fun _ _ ⟨e, H'⟩ => ⟨e, Hx.call H' rfl⟩) ?_
        refine QRun_bool x3 x2 (by kernel_rfl) (fun w => by kernel_rfl) gx2 ?_
        exact QRun_done [3, 14] (by kernel_rfl) (by kernel_rfl)
      · refine QRun_bool x1 false (by kernel_rfl) (fun w => by kernel_rfl) hb1 ?_
        have gx2 := M.ret_some ((M.ite_some gx2).2 hb1)
        refine QRun_n (by kernel_rfl) ?_
        refine QRun_n (by kernel_rfl) ?_
        refine QRun_n (by kernel_rfl) ?_
        refine QRun_n (by kernel_rfl) ?_
        refine QRun_bool false x2 (by kernel_rfl) (fun w => by kernel_rfl) gx2 ?_
        exact QRun_done [3, 14] (by kernel_rfl) (by kernel_rfl)
    refine QRun_seq 15 [(3, .pointer (some ⟨b2, 0, none⟩)), (19, .bool x4)] ?_ ?_
    · rcases Bool.eq_false_or_eq_true x2 with hb2 | hb2
      · refine QRun_bool x2 true (by kernel_rfl) (fun w => by kernel_rfl) hb2 ?_
        have gx4 := (M.ite_some gx4).1 hb2
        obtain ⟨x5, hx3, gx4⟩ := M.bind_some gx4
        have gx4 := M.ret_some gx4
        refine QRun_b [.pointer (some ⟨b2, 2, none⟩)] 11 _ (by kernel_rfl) (fun w => by kernel_rfl) ?_
        refine QRun_y (.int .i64 p.Delay) (by kernel_rfl) (Y_cls fun hx Hx => (Y_load1 (t := 2) (p := ⟨b2, 2, none⟩) (v := .int .i64 p.Delay) (by kernel_rfl) (fun w => by kernel_rfl) (Hx.cell 0 rfl rfl))) ?_
        refine QRun_y (.bool x5) (by kernel_rfl) (Y_cls fun hx Hx => (Y_callq (f := 108) (args := #[.int .i64 p.Delay, .int .i64 0, .int .i64 1000]) (v := .bool x5) (by kernel_rfl) (w_impl_within hx p.Delay 0 1000 _ _ hx3))) ?_
        refine QRun_bool x5 x4 (by kernel_rfl) (fun w => by kernel_rfl) gx4 ?_
        exact QRun_done [3, 19] (by kernel_rfl) (by kernel_rfl)
      · refine QRun_bool x2 false (by kernel_rfl) (fun w => by kernel_rfl) hb2 ?_
        have gx4 := M.ret_some ((M.ite_some gx4).2 hb2)
        refine QRun_n (by kernel_rfl) ?_
        refine QRun_n (by kernel_rfl) ?_
        refine QRun_n (by kernel_rfl) ?_
        refine QRun_bool false x4 (by kernel_rfl) (fun w => by kernel_rfl) gx4 ?_
        exact QRun_done [3, 19] (by kernel_rfl) (by kernel_rfl)
    refine QRun_seq 20 [(24, .bool x6)] ?_ ?_
    · rcases Bool.eq_false_or_eq_true x4 with hb3 | hb3
      · refine QRun_bool x4 true (by kernel_rfl) (fun w => by kernel_rfl) hb3 ?_
        have gx6 := (M.ite_some gx6).1 hb3
        obtain ⟨x7, hx4, gx6⟩ := M.bind_some gx6
        have gx6 := M.ret_some gx6
        refine QRun_b [.pointer (some ⟨b2, 3, none⟩)] 16 _ (by kernel_rfl) (fun w => by kernel_rfl) ?_
        refine QRun_y (.int .i64 p.Tokens) (by kernel_rfl) (Y_cls fun hx Hx => (Y_load1 (t := 2) (p := ⟨b2, 3, none⟩) (v := .int .i64 p.Tokens) (by kernel_rfl) (fun w => by kernel_rfl) (Hx.cell 0 rfl rfl))) ?_
        refine QRun_y (.bool x7) (by kernel_rfl) (Y_cls fun hx Hx => (Y_callq (f := 108) (args := #[.int .i64 p.Tokens, .int .i64 0, .int .i64 5]) (v := .bool x7) (by kernel_rfl) (w_impl_within hx p.Tokens 0 5 _ _ hx4))) ?_
        refine QRun_bool x7 x6 (by kernel_rfl) (fun w => by kernel_rfl) gx6 ?_
        exact QRun_done [24] (by kernel_rfl) (by kernel_rfl)
      · refine QRun_bool x4 false (by kernel_rfl) (fun w => by kernel_rfl) hb3 ?_
        have gx6 := M.ret_some ((M.ite_some gx6).2 hb3)
        refine QRun_n (by kernel_rfl) ?_
        refine QRun_n (by kernel_rfl) ?_
        refine QRun_n (by kernel_rfl) ?_
        refine QRun_bool false x6 (by kernel_rfl) (fun w => by kernel_rfl) gx6 ?_
        exact QRun_done [24] (by kernel_rfl) (by kernel_rfl)
    refine QRun_b [.bool x6] 20 _ (by kernel_rfl) (fun w => by kernel_rfl) ?_
    exact QRun_done [4] (by kernel_rfl) (by kernel_rfl)
  have H4 : Hold h h3 [box b2 58 [.int .i64 p.From, .int .i64 p.To, .int .i64 p.Delay, .int .i64 p.Tokens], box b1 30 [.int .i64 g.Events, .slice agPlaces g.Places.length cgPlaces]] := H3
  have hF := M.ret_some hF
  subst hF
  have H5 : Hold h h3 [] := H4.pick [] (by kernel_rfl)
  exact Run_ret1 rfl (ResV_tmp (v := .bool x6) (by kernel_rfl)) ⟨rfl, H5⟩

set_option maxRecDepth 100000 in
set_option maxHeartbeats 4000000 in
theorem w_impl_IsEventGraph_1 (h : Heap) (p : TPlace) (z0 : TGraph) (az0Places : Option Addr) (cz0Places : Nat) (rz0Places : Rd cd58 h (Lt h) az0Places cz0Places z0.Places) (bz0 : Nat) (vz0 : VarAt h bz0 30 [.int .i64 z0.Events, .slice az0Places z0.Places.length cz0Places]) (n : Nat) (r : Bool) (hF : impl_IsEventGraph_1 p z0 n = some r) :
    Fn Try.prog 144 #[.agg #[.int .i64 p.From, .int .i64 p.To, .int .i64 p.Delay, .int .i64 p.Tokens], .pointer (some ⟨bz0, 0, none⟩)] h fun v h' => v = .bool r ∧ Hold h h' [] := by
  unfold impl_IsEventGraph_1 at hF
  refine Fn_enter (args := [.agg #[.int .i64 p.From, .int .i64 p.To, .int .i64 p.Delay, .int .i64 p.Tokens], .pointer (some ⟨bz0, 0, none⟩)]) Try.func144 rfl (by kernel_rfl) (by kernel_rfl) (fun w0 _ => ?_)
  have H0 := Hold.init h
  refine Run_seq ?_
  refine Run_ops ?_
  refine Run_E (by kernel_rfl) ?_
  refine E_box (ty := 58) (cs := [.int .i64 p.From, .int .i64 p.To, .int .i64 p.Delay, .int .i64 p.Tokens]) H0 (fun w => by kernel_rfl) (fun b1 h1 H1 => ?_)
  refine Run_b [.bool false] 1 _ (by kernel_rfl) (fun w => by kernel_rfl) ?_
  refine Run_nil (by kernel_rfl) ?_
  refine Run_keep [1, 2] (L' := [(1, .pointer (some ⟨bz0, 0, none⟩)), (2, .pointer (some ⟨b1, 0, none⟩))]) (by kernel_rfl) ?_
  refine Run_seq ?_
  obtain ⟨x1, hx1, hF⟩ := M.bind_some hF
  refine Run_regC (j := 5) (C := fun x => Hold h x [box b1 58 [.int .i64 p.From, .int .i64 p.To, .int .i64 p.Delay, .int .i64 p.Tokens]]) (by kernel_rfl) H1 (L' := [(3, .bool (!x1))]) ?_ (fun h2 H2 => ?_)
  · refine QRun_y (.agg #[.int .i64 z0.Events, .slice az0Places z0.Places.length cz0Places]) (by kernel_rfl) (Y_cls fun hx Hx => (Y_loadA (t := 30) (n := 2) (p := ⟨bz0, 0, none⟩) (cs := [.int .i64 z0.Events, .slice az0Places z0.Places.length cz0Places]) (by kernel_rfl) (fun w => by kernel_rfl) (by kernel_rfl) rfl (VarAt.cells (n := 2) (off := 0) (vz0.at Hx.ext) rfl))) ?_
    refine QRun_y (.agg #[.int .i64 p.From, .int .i64 p.To, .int .i64 p.Delay, .int .i64 p.Tokens]) (by kernel_rfl) (Y_cls fun hx Hx => (Y_loadA (t := 58) (n := 4) (p := ⟨b1, 0, none⟩) (cs := [.int .i64 p.From, .int .i64 p.To, .int .i64 p.Delay, .int .i64 p.Tokens]) (by kernel_rfl) (fun w => by kernel_rfl) (by kernel_rfl) rfl (Hx.cells (n := 4) (off := 0) 0 rfl rfl))) ?_
    refine QRun_y (.bool x1) (by kernel_rfl) (Y_call (f := 145) (args := #[.agg #[.int .i64 z0.Events, .slice az0Places z0.Places.length cz0Places], .agg #[.int .i64 p.From, .int .i64 p.To, .int .i64 p.Delay, .int .i64 p.Tokens]]) (v := .bool x1) (by kernel_rfl) fun hx Hx => (w_impl_isPlace hx z0 az0Places cz0Places (rz0Places.at Hx.ext) p _ _ hx1).mono fun _ _ ⟨e, H'⟩ => ⟨e, Hx.call H' rfl⟩) ?_
    refine QRun_b [.bool (!x1), .bool (!x1)] 3 _ (by kernel_rfl) (fun w => by kernel_rfl) ?_
    exact QRun_done [3] (by kernel_rfl) (by kernel_rfl)
  have H3 : Hold h h2 [box b1 58 [.int .i64 p.From, .int .i64 p.To, .int .i64 p.Delay, .int .i64 p.Tokens]] := H2
  have hF := M.ret_some hF
  subst hF
  have H4 : Hold h h2 [] := H3.pick [] (by kernel_rfl)
  exact Run_ret1 rfl (ResV_tmp (v := .bool (!x1)) (by kernel_rfl)) ⟨rfl, H4⟩

set_option maxRecDepth 100000 in
set_option maxHeartbeats 4000000 in
theorem w_slices_IndexFunc_Place_F_impl_IsEventGraph_1 (h : Heap) (s_ : List TPlace) (as_ : Option Addr) (cs_ : Nat) (rs_ : Rd cd58 h (Lt h) as_ cs_ s_) (f0 : TGraph) (af0Places : Option Addr) (cf0Places : Nat) (rf0Places : Rd cd58 h (Lt h) af0Places cf0Places f0.Places) (bf0 : Nat) (vf0 : VarAt h bf0 30 [.int .i64 f0.Events, .slice af0Places f0.Places.length cf0Places]) (n : Nat) (r : Int) (hF : slices_IndexFunc_Place_F_impl_IsEventGraph_1 s_ f0 n = some r) :
    Fn Try.prog 174 #[.slice as_ s_.length cs_, .func (.func 144) #[] #[.pointer (some ⟨bf0, 0, none⟩)]] h fun v h' => v = .int .i64 r ∧ Hold h h' [] := by
  unfold slices_IndexFunc_Place_F_impl_IsEventGraph_1 at hF
  refine Fn_enter (args := [.slice as_ s_.length cs_, .func (.func 144) #[] #[.pointer (some ⟨bf0, 0, none⟩)]]) Try.func174 rfl (by kernel_rfl) (by kernel_rfl) (fun w0 _ => ?_)
  have H0 := Hold.init h
  refine Run_seq ?_
  refine Run_reg 1 (by kernel_rfl) (L' := [(0, .slice as_ s_.length cs_), (1, .func (.func 144) #[] #[.pointer (some ⟨bf0, 0, none⟩)])]) ?_ ?_
  · refine QRun_b [.int .i64 0] 0 _ (by kernel_rfl) (fun w => by kernel_rfl) ?_
    exact QRun_done [0, 1] (by kernel_rfl) (by kernel_rfl)
  refine Run_seq ?_
  refine Run_seq ?_
  refine Run_reg 3 (by kernel_rfl) (L' := [(0, .slice as_ s_.length cs_), (1, .func (.func 144) #[] #[.pointer (some ⟨bf0, 0, none⟩)]), (7, .int .i64 (s_.length : Int)), (8, .int .i64 0)]) ?_ ?_
  · refine QRun_b [.slice as_ s_.length cs_, .int .i64 (s_.length : Int), .int .i64 0] 0 _ (by kernel_rfl) (fun w => by kernel_rfl) ?_
    exact QRun_done [0, 1, 7, 8] (by kernel_rfl) (by kernel_rfl)
  obtain ⟨x1, gx1, hF⟩ := M.bind_some hF
  obtain ⟨hloy1, hhiy1, gx1⟩ := M.for_start gx1
  refine Run_join (fun L' h' => ∃ (s2 : Unit), x1 = .inl s2 ∧ L' = [] ∧ Hold h h' []) ?_ ?_
  · rintro _ h2 ⟨s2, es2, rfl, H2⟩
    have hF := M.cont_inl' hF es2
    refine Run_seq ?_
    refine Run_reg 1 (by kernel_rfl) (L' := [(4, .int .i64 (-1))]) ?_ ?_
    · refine QRun_b [.int .i64 (-1)] 0 _ (by kernel_rfl) (fun w => by kernel_rfl) ?_
      exact QRun_done [4] (by kernel_rfl) (by kernel_rfl)
    have hF := M.ret_some hF
    subst hF
    exact Run_ret1 rfl (ResV_tmp (v := .int .i64 (-1)) (by kernel_rfl)) ⟨rfl, H2⟩
  · refine Run_block ?_
    refine Run_keep [0, 1, 7, 8] (L' := [(0, .slice as_ s_.length cs_), (1, .func (.func 144) #[] #[.pointer (some ⟨bf0, 0, none⟩)]), (7, .int .i64 (s_.length : Int)), (8, .int .i64 0)]) (by kernel_rfl) ?_
    refine Run_loop (fun m L' h' => ∃ (i1 : Int) (s1 : Unit), 0 ≤ i1 ∧ M.forN (s_.length : Int) _ _ n m i1 s1 = some x1 ∧ L' = [(0, .slice as_ s_.length cs_), (1, .func (.func 144) #[] #[.pointer (some ⟨bf0, 0, none⟩)]), (7, .int .i64 (s_.length : Int)), (8, .int .i64 i1)] ∧ Hold h h' []) ((s_.length : Int) - 0 : Int).toNat ⟨0, (), Int.le_refl _, gx1, rfl, H0⟩ ?_
    rintro my1 _ h1 ⟨i1, s1, hloy1', gx1, rfl, H1⟩
    refine Run_seq ?_
    refine Run_reg 1 (by kernel_rfl) (L' := [(0, .slice as_ s_.length cs_), (1, .func (.func 144) #[] #[.pointer (some ⟨bf0, 0, none⟩)]), (7, .int .i64 (s_.length : Int)), (8, .int .i64 i1), (9, .bool (decide (i1 < (s_.length : Int))))]) ?_ ?_
    · refine QRun_b [.bool (decide (i1 < (s_.length : Int)))] 0 _ (by kernel_rfl) (fun w => by kernel_rfl) ?_
      exact QRun_done [0, 1, 7, 8, 9] (by kernel_rfl) (by kernel_rfl)
    refine Run_seq ?_
    refine Run_cond (b := decide (i1 < (s_.length : Int))) (by kernel_rfl) (fun hb1 => ?_) (fun hb1 => ?_)
    · obtain ⟨my1, y1, rfl, hB1, hgoy1, houty1⟩ := M.for_go gx1 hb1
      have hlty1 := of_decide_eq_true hb1
      refine Run_skip ?_
      refine Run_seq ?_
      refine Run_block ?_
      refine Run_seq ?_
      refine Run_reg 2 (by kernel_rfl) (L' := [(0, .slice as_ s_.length cs_), (1, .func (.func 144) #[] #[.pointer (some ⟨bf0, 0, none⟩)]), (5, .int .i64 i1), (7, .int .i64 (s_.length : Int)), (8, .int .i64 i1)]) ?_ ?_
      · refine QRun_b [.int .i64 i1, .int .i64 i1] 0 _ (by kernel_rfl) (fun w => by kernel_rfl) ?_
        exact QRun_done [0, 1, 5, 7, 8] (by kernel_rfl) (by kernel_rfl)
      refine Run_seq ?_
      obtain ⟨x2, hx1, hB1⟩ := M.bind_some hB1
      obtain ⟨hx1l, hx1u, hx1⟩ := M.idx_some hx1
      obtain ⟨x3, hx2, hB1⟩ := M.bind_some hB1
      refine Run_regC (j := 6) (C := fun x => Hold h x []) (by kernel_rfl) H1 (L' := [(0, .slice as_ s_.length cs_), (1, .func (.func 144) #[] #[.pointer (some ⟨bf0, 0, none⟩)]), (5, .int .i64 i1), (7, .int .i64 (s_.length : Int)), (8, .int .i64 i1), (16, .bool x3)]) ?_ (fun h3 H3 => ?_)
      · refine QRun_b [.func (.func 144) #[] #[.pointer (some ⟨bf0, 0, none⟩)], .slice as_ s_.length cs_, .int .i64 i1] 0 _ (by kernel_rfl) (fun w => by kernel_rfl) ?_
        refine QRun_y (.pointer (some (adr as_ (i1.toNat * 4)))) (by kernel_rfl) (Y_cls fun hx Hx => (Y_idx (t := 28) (e := 58) (sz := 4) (a := as_) (n := s_.length) (cap := cs_) (kk := .i64) (i := i1) (by kernel_rfl) Try.underlying28 (by kernel_rfl) ((rs_.at H1.ext).cell hx1).1 hx1l hx1u)) ?_
        refine QRun_y (.agg #[.int .i64 x2.From, .int .i64 x2.To, .int .i64 x2.Delay, .int .i64 x2.Tokens]) (by kernel_rfl) (Y_cls fun hx Hx => (Y_loadA (t := 58) (n := 4) (p := adr as_ (i1.toNat * 4)) (cs := [.int .i64 x2.From, .int .i64 x2.To, .int .i64 x2.Delay, .int .i64 x2.Tokens]) (by kernel_rfl) (fun w => by kernel_rfl) (by kernel_rfl) rfl (cd58_elem (rs_.at Hx.ext) hx1))) ?_
        refine QRun_y (.bool x3) (by kernel_rfl) (Y_call (f := 144) (args := #[.agg #[.int .i64 x2.From, .int .i64 x2.To, .int .i64 x2.Delay, .int .i64 x2.Tokens], .pointer (some ⟨bf0, 0, none⟩)]) (v := .bool x3) (by kernel_rfl) fun hx Hx => (w_impl_IsEventGraph_1 hx x2 f0 af0Places cf0Places (rf0Places.at Hx.ext) bf0 (vf0.at Hx.ext) _ _ hx2).mono fun _ _ ⟨e, H'⟩ => ⟨e, Hx.call H' rfl⟩) ?_
        exact QRun_done [0, 1, 5, 7, 8, 16] (by kernel_rfl) (by kernel_rfl)
      have H4 : Hold h h3 [] := H3
      refine Run_cond (b := x3) (by kernel_rfl) (fun hb2 => ?_) (fun hb2 => ?_)
      · have hB1 := (M.ite_some hB1).1 hb2
        refine Run_seq ?_
        refine Run_reg 2 (by kernel_rfl) (L' := [(4, .int .i64 i1)]) ?_ ?_
        · refine QRun_b [.int .i64 i1, .int .i64 i1] 0 _ (by kernel_rfl) (fun w => by kernel_rfl) ?_
          exact QRun_done [4] (by kernel_rfl) (by kernel_rfl)
        have hB1 := M.ret_some hB1
        have gx1 := houty1 _ hB1.symm
        have hF := M.cont_inr' hF gx1
        have hF := M.ret_some hF
        subst hF
        exact Run_ret1 rfl (ResV_tmp (v := .int .i64 i1) (by kernel_rfl)) ⟨rfl, H4⟩
      · have hB1 := (M.ite_some hB1).2 hb2
        refine Run_skip ?_
        refine Run_blk ?_
        refine Run_reg 2 (by kernel_rfl) (L' := [(0, .slice as_ s_.length cs_), (1, .func (.func 144) #[] #[.pointer (some ⟨bf0, 0, none⟩)]), (7, .int .i64 (s_.length : Int)), (8, .int .i64 (i1 + 1))]) ?_ ?_
        · refine QRun_y (.int .i64 (i1 + 1)) (by kernel_rfl) (Y_eq (v := .int .i64 (w64 (i1 + 1))) (Y_pure (fun w => by kernel_rfl)) (by rw [w64_eq _ (by omega)])) ?_
          refine QRun_b [.int .i64 (i1 + 1)] 1 _ (by kernel_rfl) (fun w => by kernel_rfl) ?_
          exact QRun_done [0, 1, 7, 8] (by kernel_rfl) (by kernel_rfl)
        have hB1 := M.ret_some hB1
        have gx1 := hgoy1 _ hB1.symm
        exact Run_again [0, 1, 7, 8] (by kernel_rfl) my1 (Nat.lt_succ_self _) ⟨i1 + 1, (), by omega, gx1, rfl, H4⟩
    · have gx1 := M.for_end gx1 hb1
      subst gx1
      refine Run_exit (k' := _) rfl ?_
      exact Run_fall [] (by kernel_rfl) ⟨(), rfl, rfl, H1⟩

set_option maxRecDepth 100000 in
set_option maxHeartbeats 4000000 in
theorem w_slices_ContainsFunc_Place_F_impl_IsEventGraph_1 (h : Heap) (s_ : List TPlace) (as_ : Option Addr) (cs_ : Nat) (rs_ : Rd cd58 h (Lt h) as_ cs_ s_) (f0 : TGraph) (af0Places : Option Addr) (cf0Places : Nat) (rf0Places : Rd cd58 h (Lt h) af0Places cf0Places f0.Places) (bf0 : Nat) (vf0 : VarAt h bf0 30 [.int .i64 f0.Events, .slice af0Places f0.Places.length cf0Places]) (n : Nat) (r : Bool) (hF : slices_ContainsFunc_Place_F_impl_IsEventGraph_1 s_ f0 n = some r) :
    Fn Try.prog 143 #[.slice as_ s_.length cs_, .func (.func 144) #[] #[.pointer (some ⟨bf0, 0, none⟩)]] h fun v h' => v = .bool r ∧ Hold h h' [] := by
  unfold slices_ContainsFunc_Place_F_impl_IsEventGraph_1 at hF
  refine Fn_enter (args := [.slice as_ s_.length cs_, .func (.func 144) #[] #[.pointer (some ⟨bf0, 0, none⟩)]]) Try.func143 rfl (by kernel_rfl) (by kernel_rfl) (fun w0 _ => ?_)
  have H0 := Hold.init h
  refine Run_seq ?_
  refine Run_reg 1 (by kernel_rfl) (L' := [(0, .slice as_ s_.length cs_), (1, .func (.func 144) #[] #[.pointer (some ⟨bf0, 0, none⟩)])]) ?_ ?_
  · refine QRun_b [.bool false] 0 _ (by kernel_rfl) (fun w => by kernel_rfl) ?_
    exact QRun_done [0, 1] (by kernel_rfl) (by kernel_rfl)
  refine Run_seq ?_
  obtain ⟨x1, hx1, hF⟩ := M.bind_some hF
  refine Run_regC (j := 5) (C := fun x => Hold h x []) (by kernel_rfl) H0 (L' := [(4, .bool (decide (0 ≤ x1)))]) ?_ (fun h1 H1 => ?_)
  · refine QRun_b [.slice as_ s_.length cs_, .func (.func 144) #[] #[.pointer (some ⟨bf0, 0, none⟩)]] 0 _ (by kernel_rfl) (fun w => by kernel_rfl) ?_
    refine QRun_y (.int .i64 x1) (by kernel_rfl) (Y_call (f := 174) (args := #[.slice as_ s_.length cs_, .func (.func 144) #[] #[.pointer (some ⟨bf0, 0, none⟩)]]) (v := .int .i64 x1) (by kernel_rfl) fun hx Hx => (w_slices_IndexFunc_Place_F_impl_IsEventGraph_1 hx s_ as_ cs_ (rs_.at Hx.ext) f0 af0Places cf0Places (rf0Places.at Hx.ext) bf0 (vf0.at Hx.ext) _ _ hx1).mono fun _ _ ⟨e, H'⟩ => ⟨e, Hx.call H' rfl⟩) ?_
    refine QRun_b [.bool (decide (0 ≤ x1)), .bool (decide (0 ≤ x1))] 3 _ (by kernel_rfl) (fun w => by kernel_rfl) ?_
    exact QRun_done [4] (by kernel_rfl) (by kernel_rfl)
  have H2 : Hold h h1 [] := H1
  have hF := M.ret_some hF
  subst hF
  exact Run_ret1 rfl (ResV_tmp (v := .bool (decide (0 ≤ x1))) (by kernel_rfl)) ⟨rfl, H2⟩

set_option maxRecDepth 100000 in
set_option maxHeartbeats 4000000 in
theorem w_impl_IsEventGraph (h : Heap) (g : TGraph) (agPlaces : Option Addr) (cgPlaces : Nat) (rgPlaces : Rd cd58 h (Lt h) agPlaces cgPlaces g.Places) (n : Nat) (r : Bool) (hF : impl_IsEventGraph g n = some r) :
    Fn Try.prog 74 #[.agg #[.int .i64 g.Events, .slice agPlaces g.Places.length cgPlaces]] h fun v h' => v = .bool r ∧ Hold h h' [] := by
  unfold impl_IsEventGraph at hF
  refine Fn_enter (args := [.agg #[.int .i64 g.Events, .slice agPlaces g.Places.length cgPlaces]]) Try.func74 rfl (by kernel_rfl) (by kernel_rfl) (fun w0 _ => ?_)
  have H0 := Hold.init h
  refine Run_seq ?_
  refine Run_ops ?_
  refine Run_E (by kernel_rfl) ?_
  refine E_box (ty := 30) (cs := [.int .i64 g.Events, .slice agPlaces g.Places.length cgPlaces]) H0 (fun w => by kernel_rfl) (fun b1 h1 H1 => ?_)
  refine Run_b [.bool false] 1 _ (by kernel_rfl) (fun w => by kernel_rfl) ?_
  refine Run_nil (by kernel_rfl) ?_
  refine Run_keep [1] (L' := [(1, .pointer (some ⟨b1, 0, none⟩))]) (by kernel_rfl) ?_
  refine Run_seq ?_
  obtain ⟨x1, hx1, hF⟩ := M.bind_some hF
  obtain ⟨x3, gx3, hF⟩ := M.bind_some hF
  refine Run_regC (j := 17) (C := fun x => Hold h x [box b1 30 [.int .i64 g.Events, .slice agPlaces g.Places.length cgPlaces]]) (by kernel_rfl) H1 (L' := [(2, .bool x3)]) ?_ (fun h2 H2 => ?_)
  · refine QRun_b [.pointer (some ⟨b1, 0, none⟩)] 0 _ (by kernel_rfl) (fun w => by kernel_rfl) ?_
    refine QRun_y (.int .i64 g.Events) (by kernel_rfl) (Y_cls fun hx Hx => (Y_load1 (t := 2) (p := ⟨b1, 0, none⟩) (v := .int .i64 g.Events) (by kernel_rfl) (fun w => by kernel_rfl) (Hx.cell 0 rfl rfl))) ?_
    refine QRun_y (.bool x1) (by kernel_rfl) (Y_cls fun hx Hx => (Y_callq (f := 108) (args := #[.int .i64 g.Events, .int .i64 1, .int .i64 10]) (v := .bool x1) (by kernel_rfl) (w_impl_within hx g.Events 1 10 _ _ hx1))) ?_
    refine QRun_seq 9 [(1, .pointer (some ⟨b1, 0, none⟩)), (11, .bool (x1 && (decide ((g.Places.length : Int) ≤ 30))))] ?_ ?_
    · rcases Bool.eq_false_or_eq_true x1 with hb1 | hb1
      · refine QRun_bool x1 true (by kernel_rfl) (fun w => by kernel_rfl) hb1 ?_
        refine QRun_b [.pointer (some ⟨b1, 1, none⟩)] 4 _ (by kernel_rfl) (fun w => by kernel_rfl) ?_
        refine QRun_y (.slice agPlaces g.Places.length cgPlaces) (by kernel_rfl) (Y_cls fun hx Hx => (Y_load1 (t := 28) (p := ⟨b1, 1, none⟩) (v := .slice agPlaces g.Places.length cgPlaces) (by kernel_rfl) (fun w => by kernel_rfl) (Hx.cell 0 rfl rfl))) ?_
        refine QRun_b [.int .i64 (g.Places.length : Int), .bool (decide ((g.Places.length : Int) ≤ 30))] 6 _ (by kernel_rfl) (fun w => by kernel_rfl) ?_
        refine QRun_bool (decide ((g.Places.length : Int) ≤ 30)) (x1 && (decide ((g.Places.length : Int) ≤ 30))) (by kernel_rfl) (fun w => by kernel_rfl) (by rw [hb1]; rfl) ?_
        exact QRun_done [1, 11] (by kernel_rfl) (by kernel_rfl)
      · refine QRun_bool x1 false (by kernel_rfl) (fun w => by kernel_rfl) hb1 ?_
        refine QRun_n (by kernel_rfl) ?_
        refine QRun_n (by kernel_rfl) ?_
        refine QRun_n (by kernel_rfl) ?_
        refine QRun_n (by kernel_rfl) ?_
        refine QRun_bool false (x1 && (decide ((g.Places.length : Int) ≤ 30))) (by kernel_rfl) (fun w => by kernel_rfl) (by rw [hb1]; rfl) ?_
        exact QRun_done [1, 11] (by kernel_rfl) (by kernel_rfl)
    refine QRun_seq 16 [(18, .bool x3)] ?_ ?_
    · rcases Bool.eq_false_or_eq_true (x1 && (decide ((g.Places.length : Int) ≤ 30))) with hb2 | hb2
      · refine QRun_bool (x1 && (decide ((g.Places.length : Int) ≤ 30))) true (by kernel_rfl) (fun w => by kernel_rfl) hb2 ?_
        have gx3 := (M.ite_some gx3).1 hb2
        obtain ⟨x4, hx2, gx3⟩ := M.bind_some gx3
        have gx3 := M.ret_some gx3
        refine QRun_b [.pointer (some ⟨b1, 1, none⟩)] 10 _ (by kernel_rfl) (fun w => by kernel_rfl) ?_
        refine QRun_y (.slice agPlaces g.Places.length cgPlaces) (by kernel_rfl) (Y_cls fun hx Hx => (Y_load1 (t := 28) (p := ⟨b1, 1, none⟩) (v := .slice agPlaces g.Places.length cgPlaces) (by kernel_rfl) (fun w => by kernel_rfl) (Hx.cell 0 rfl rfl))) ?_
        refine QRun_b [.func (.func 144) #[] #[.pointer (some ⟨b1, 0, none⟩)]] 12 _ (by kernel_rfl) (fun w => by kernel_rfl) ?_
        refine QRun_y (.bool x4) (by kernel_rfl) (Y_call (f := 143) (args := #[.slice agPlaces g.Places.length cgPlaces, .func (.func 144) #[] #[.pointer (some ⟨b1, 0, none⟩)]]) (v := .bool x4) (by kernel_rfl) fun hx Hx => (w_slices_ContainsFunc_Place_F_impl_IsEventGraph_1 hx g.Places agPlaces cgPlaces (rgPlaces.at Hx.ext) g agPlaces cgPlaces (rgPlaces.at Hx.ext) b1 (Hx.var 0 rfl) _ _ hx2).mono fun _ _ ⟨e, H'⟩ => ⟨e, Hx.call H' rfl⟩) ?_
        refine QRun_b [.bool (!x4)] 14 _ (by kernel_rfl) (fun w => by kernel_rfl) ?_
        refine QRun_bool (!x4) x3 (by kernel_rfl) (fun w => by kernel_rfl) gx3 ?_
        exact QRun_done [18] (by kernel_rfl) (by kernel_rfl)
      · refine QRun_bool (x1 && (decide ((g.Places.length : Int) ≤ 30))) false (by kernel_rfl) (fun w => by kernel_rfl) hb2 ?_
        have gx3 := M.ret_some ((M.ite_some gx3).2 hb2)
        refine QRun_n (by kernel_rfl) ?_
        refine QRun_n (by kernel_rfl) ?_
        refine QRun_n (by kernel_rfl) ?_
        refine QRun_n (by kernel_rfl) ?_
        refine QRun_n (by kernel_rfl) ?_
        refine QRun_bool false x3 (by kernel_rfl) (fun w => by kernel_rfl) gx3 ?_
        exact QRun_done [18] (by kernel_rfl) (by kernel_rfl)
    refine QRun_b [.bool x3] 16 _ (by kernel_rfl) (fun w => by kernel_rfl) ?_
    exact QRun_done [2] (by kernel_rfl) (by kernel_rfl)
  have H3 : Hold h h2 [box b1 30 [.int .i64 g.Events, .slice agPlaces g.Places.length cgPlaces]] := H2
  have hF := M.ret_some hF
  subst hF
  have H4 : Hold h h2 [] := H3.pick [] (by kernel_rfl)
  exact Run_ret1 rfl (ResV_tmp (v := .bool x3) (by kernel_rfl)) ⟨rfl, H4⟩

set_option maxRecDepth 100000 in
set_option maxHeartbeats 4000000 in
theorem w_impl_tokenDistances (h : Heap) (g : TGraph) (agPlaces : Option Addr) (cgPlaces : Nat) (rgPlaces : Rd cd58 h (Lt h) agPlaces cgPlaces g.Places) (from_ : Int) (n : Nat) (r : (List Int)) (hF : impl_tokenDistances g from_ n = some r) :
    Fn Try.prog 76 #[.agg #[.int .i64 g.Events, .slice agPlaces g.Places.length cgPlaces], .int .i64 from_] h fun v h' => ∃ (a0 : Option Addr) (c0 : Nat), v = .slice a0 r.length c0 ∧ Hold h h' [own cd2 a0 r.length c0 r] := by
  unfold impl_tokenDistances at hF
  refine Fn_enter (args := [.agg #[.int .i64 g.Events, .slice agPlaces g.Places.length cgPlaces], .int .i64 from_]) Try.func76 rfl (by kernel_rfl) (by kernel_rfl) (fun w0 _ => ?_)
  have H0 := Hold.init h
  refine Run_seq ?_
  refine Run_ops ?_
  refine Run_E (by kernel_rfl) ?_
  refine E_box (ty := 30) (cs := [.int .i64 g.Events, .slice agPlaces g.Places.length cgPlaces]) H0 (fun w => by kernel_rfl) (fun b1 h1 H1 => ?_)
  refine Run_b [.slice none 0 0] 1 _ (by kernel_rfl) (fun w => by kernel_rfl) ?_
  refine Run_nil (by kernel_rfl) ?_
  refine Run_keep [1, 2] (L' := [(1, .int .i64 from_), (2, .pointer (some ⟨b1, 0, none⟩))]) (by kernel_rfl) ?_
  refine Run_seq ?_
  refine Run_ops ?_
  refine Run_b [.pointer (some ⟨b1, 0, none⟩)] 0 _ (by kernel_rfl) (fun w => by kernel_rfl) ?_
  refine Run_y (.int .i64 g.Events) (by kernel_rfl) (Y_load1 (t := 2) (p := ⟨b1, 0, none⟩) (v := .int .i64 g.Events) (by kernel_rfl) (fun w => by kernel_rfl) (H1.cell 0 rfl rfl)) ?_
  obtain ⟨l1, hl1, hF⟩ := M.bind_some hF
  have hl1 := M.make_some hl1
  refine Run_E (by kernel_rfl) ?_
  refine E_make cd2 0 (kl := .i64) (kc := .i64) H1 cd2_ti Try.underlying39 (by decide) cd2_zero (by kernel_rfl) hl1 (fun a1 h2 H2 => ?_)
  refine Run_b [.slice a1 l1.length l1.length] 3 _ (by kernel_rfl) (fun w => by kernel_rfl) ?_
  refine Run_nil (by kernel_rfl) ?_
  refine Run_keep [1, 2, 5] (L' := [(1, .int .i64 from_), (2, .pointer (some ⟨b1, 0, none⟩)), (5, .slice a1 l1.length l1.length)]) (by kernel_rfl) ?_
  refine Run_seq ?_
  refine Run_seq ?_
  refine Run_reg 3 (by kernel_rfl) (L' := [(1, .int .i64 from_), (2, .pointer (some ⟨b1, 0, none⟩)), (5, .slice a1 l1.length l1.length), (15, .int .i64 (l1.length : Int)), (16, .int .i64 0)]) ?_ ?_
  · refine QRun_b [.slice a1 l1.length l1.length, .int .i64 (l1.length : Int), .int .i64 0] 0 _ (by kernel_rfl) (fun w => by kernel_rfl) ?_
    exact QRun_done [1, 2, 5, 15, 16] (by kernel_rfl) (by kernel_rfl)
  obtain ⟨x1, gx1, hF⟩ := M.bind_some hF
  obtain ⟨hloy1, hhiy1, gx1⟩ := M.for_start gx1
  refine Run_join (fun L' h' => L' = [(1, .int .i64 from_), (2, .pointer (some ⟨b1, 0, none⟩)), (5, .slice a1 l1.length l1.length)] ∧ Hold h h' [box b1 30 [.int .i64 g.Events, .slice agPlaces g.Places.length cgPlaces], own cd2 a1 l1.length l1.length x1]) ?_ ?_
  · rintro _ h4 ⟨rfl, H4⟩
    refine Run_seq ?_
    refine Run_ops ?_
    obtain ⟨x3, hx2, hF⟩ := M.bind_some hF
    obtain ⟨hx2l, hx2u, hx2⟩ := M.idx_some hx2
    refine Run_b [.slice a1 l1.length l1.length, .int .i64 from_] 0 _ (by kernel_rfl) (fun w => by kernel_rfl) ?_
    refine Run_y (.pointer (some (adr a1 (from_.toNat * 1)))) (by kernel_rfl) (Y_idx (t := 39) (e := 2) (sz := 1) (a := a1) (n := l1.length) (cap := l1.length) (kk := .i64) (i := from_) (by kernel_rfl) Try.underlying39 (by kernel_rfl) ((H4.rd 1 rfl).cell hx2).1 hx2l (by rw [← (H4.len 1 rfl)]; exact hx2u)) ?_
    obtain ⟨l3, hu2, hF⟩ := M.bind_some hF
    have hu2 := M.upd_some hu2
    have H9 : Hold h h4 [own cd2 a1 l1.length l1.length x1, box b1 30 [.int .i64 g.Events, .slice agPlaces g.Places.length cgPlaces]] := H4.pick [1, 0] (by kernel_rfl)
    refine Run_E (by kernel_rfl) ?_
    refine E_put (C := cd2) (t := 2) (sz := 1) (j := from_) (x := 0) (v := .int .i64 0) H9 cd2_flat (by kernel_rfl) rfl (cd2_own _) (by kernel_rfl) hu2 (fun h6 H8 => ?_)
    refine Run_nil (by kernel_rfl) ?_
    refine Run_keep [2, 5] (L' := [(2, .pointer (some ⟨b1, 0, none⟩)), (5, .slice a1 l1.length l1.length)]) (by kernel_rfl) ?_
    refine Run_seq ?_
    refine Run_seq ?_
    refine Run_reg 1 (by kernel_rfl) (L' := [(2, .pointer (some ⟨b1, 0, none⟩)), (5, .slice a1 l1.length l1.length), (7, .bool true)]) ?_ ?_
    · refine QRun_b [.bool true] 0 _ (by kernel_rfl) (fun w => by kernel_rfl) ?_
      exact QRun_done [2, 5, 7] (by kernel_rfl) (by kernel_rfl)
    obtain ⟨x4, gx4, hF⟩ := M.bind_some hF
    refine Run_join (fun L' h' => L' = [(5, .slice a1 l1.length l1.length)] ∧ Hold h h' [own cd2 a1 l1.length l1.length x4.1]) ?_ ?_
    · rintro _ h8 ⟨rfl, H11⟩
      refine Run_seq ?_
      refine Run_reg 2 (by kernel_rfl) (L' := [(4, .slice a1 l1.length l1.length)]) ?_ ?_
      · refine QRun_b [.slice a1 l1.length l1.length, .slice a1 l1.length l1.length] 0 _ (by kernel_rfl) (fun w => by kernel_rfl) ?_
        exact QRun_done [4] (by kernel_rfl) (by kernel_rfl)
      have hF := M.ret_some hF
      subst hF
      have H23 := H11.norm
      exact Run_ret1 rfl (ResV_tmp (v := .slice a1 l1.length l1.length) (by kernel_rfl)) ⟨a1, l1.length, (by simp only [(H11.len 0 rfl)]), H23⟩
    · refine Run_block ?_
      have H24 : Hold h h6 [box b1 30 [.int .i64 g.Events, .slice agPlaces g.Places.length cgPlaces], own cd2 a1 l1.length l1.length l3] := H8.pick [1, 0] (by kernel_rfl)
      refine Run_keep [2, 5, 7] (L' := [(2, .pointer (some ⟨b1, 0, none⟩)), (5, .slice a1 l1.length l1.length), (7, .bool true)]) (by kernel_rfl) ?_
      refine Run_loop (fun m L' h' => ∃ (s2 : (List Int) × Bool), M.loopN _ n m s2 = some x4 ∧ L' = [(2, .pointer (some ⟨b1, 0, none⟩)), (5, .slice a1 l1.length l1.length), (7, .bool s2.2)] ∧ Hold h h' [box b1 30 [.int .i64 g.Events, .slice agPlaces g.Places.length cgPlaces], own cd2 a1 l1.length l1.length s2.1]) n ⟨(l3, true), gx4, rfl, H24⟩ ?_
      rintro my2 _ h7 ⟨s2, gx4, rfl, H10⟩
      obtain ⟨my2, y2, rfl, hB2, hgoy2, houty2⟩ := M.loop_some gx4
      refine Run_seq ?_
      refine Run_seq ?_
      refine Run_reg 1 (by kernel_rfl) (L' := [(2, .pointer (some ⟨b1, 0, none⟩)), (5, .slice a1 l1.length l1.length), (26, .bool s2.2)]) ?_ ?_
      · refine QRun_b [.bool s2.2] 0 _ (by kernel_rfl) (fun w => by kernel_rfl) ?_
        exact QRun_done [2, 5, 26] (by kernel_rfl) (by kernel_rfl)
      refine Run_cond (b := s2.2) (by kernel_rfl) (fun hb2 => ?_) (fun hb2 => ?_)
      · have hB2 := (M.ite_some hB2).1 hb2
        refine Run_skip ?_
        refine Run_block ?_
        refine Run_seq ?_
        refine Run_reg 1 (by kernel_rfl) (L' := [(2, .pointer (some ⟨b1, 0, none⟩)), (5, .slice a1 l1.length l1.length), (7, .bool false)]) ?_ ?_
        · refine QRun_b [.bool false] 0 _ (by kernel_rfl) (fun w => by kernel_rfl) ?_
          exact QRun_done [2, 5, 7] (by kernel_rfl) (by kernel_rfl)
        refine Run_seq ?_
        refine Run_reg 4 (by kernel_rfl) (L' := [(2, .pointer (some ⟨b1, 0, none⟩)), (5, .slice a1 l1.length l1.length), (7, .bool false), (28, .slice agPlaces g.Places.length cgPlaces), (29, .int .i64 (g.Places.length : Int)), (30, .int .i64 0)]) ?_ ?_
        · refine QRun_b [.pointer (some ⟨b1, 1, none⟩)] 0 _ (by kernel_rfl) (fun w => by kernel_rfl) ?_
          refine QRun_y (.slice agPlaces g.Places.length cgPlaces) (by kernel_rfl) (Y_load1 (t := 28) (p := ⟨b1, 1, none⟩) (v := .slice agPlaces g.Places.length cgPlaces) (by kernel_rfl) (fun w => by kernel_rfl) (H10.cell 0 rfl rfl)) ?_
          refine QRun_b [.int .i64 (g.Places.length : Int), .int .i64 0] 2 _ (by kernel_rfl) (fun w => by kernel_rfl) ?_
          exact QRun_done [2, 5, 7, 28, 29, 30] (by kernel_rfl) (by kernel_rfl)
        obtain ⟨x5, gx5, hB2⟩ := M.bind_some hB2
        obtain ⟨hloy3, hhiy3, gx5⟩ := M.for_start gx5
        refine Run_join (fun L' h' => L' = [(2, .pointer (some ⟨b1, 0, none⟩)), (5, .slice a1 l1.length l1.length), (7, .bool x5.2)] ∧ Hold h h' [box b1 30 [.int .i64 g.Events, .slice agPlaces g.Places.length cgPlaces], own cd2 a1 l1.length l1.length x5.1]) ?_ ?_
        · rintro _ h10 ⟨rfl, H13⟩
          refine Run_blk ?_
          have hB2 := M.ret_some hB2
          have gx4 := hgoy2 _ hB2.symm
          exact Run_again [2, 5, 7] (by kernel_rfl) my2 (Nat.lt_succ_self _) ⟨(x5.1, x5.2), gx4, rfl, H13⟩
        · refine Run_block ?_
          refine Run_keep [2, 5, 7, 28, 29, 30] (L' := [(2, .pointer (some ⟨b1, 0, none⟩)), (5, .slice a1 l1.length l1.length), (7, .bool false), (28, .slice agPlaces g.Places.length cgPlaces), (29, .int .i64 (g.Places.length : Int)), (30, .int .i64 0)]) (by kernel_rfl) ?_
          refine Run_loop (fun m L' h' => ∃ (i2 : Int) (s3 : (List Int) × Bool), 0 ≤ i2 ∧ M.forN (g.Places.length : Int) _ _ n m i2 s3 = some x5 ∧ L' = [(2, .pointer (some ⟨b1, 0, none⟩)), (5, .slice a1 l1.length l1.length), (7, .bool s3.2), (28, .slice agPlaces g.Places.length cgPlaces), (29, .int .i64 (g.Places.length : Int)), (30, .int .i64 i2)] ∧ Hold h h' [box b1 30 [.int .i64 g.Events, .slice agPlaces g.Places.length cgPlaces], own cd2 a1 l1.length l1.length s3.1]) ((g.Places.length : Int) - 0 : Int).toNat ⟨0, (s2.1, false), Int.le_refl _, gx5, rfl, H10⟩ ?_
          rintro my3 _ h9 ⟨i2, s3, hloy3', gx5, rfl, H12⟩
          refine Run_seq ?_
          refine Run_reg 1 (by kernel_rfl) (L' := [(2, .pointer (some ⟨b1, 0, none⟩)), (5, .slice a1 l1.length l1.length), (7, .bool s3.2), (28, .slice agPlaces g.Places.length cgPlaces), (29, .int .i64 (g.Places.length : Int)), (30, .int .i64 i2), (31, .bool (decide (i2 < (g.Places.length : Int))))]) ?_ ?_
          · refine QRun_b [.bool (decide (i2 < (g.Places.length : Int)))] 0 _ (by kernel_rfl) (fun w => by kernel_rfl) ?_
            exact QRun_done [2, 5, 7, 28, 29, 30, 31] (by kernel_rfl) (by kernel_rfl)
          refine Run_seq ?_
          refine Run_cond (b := decide (i2 < (g.Places.length : Int))) (by kernel_rfl) (fun hb3 => ?_) (fun hb3 => ?_)
          · obtain ⟨my3, y3, rfl, hB3, hgoy3, houty3⟩ := M.for_go gx5 hb3
            have hlty3 := of_decide_eq_true hb3
            refine Run_skip ?_
            refine Run_seq ?_
            obtain ⟨s4, gs4, hB3⟩ := M.bind_some hB3
            refine Run_join (fun L' h' => L' = [(2, .pointer (some ⟨b1, 0, none⟩)), (5, .slice a1 l1.length l1.length), (7, .bool s4.2), (28, .slice agPlaces g.Places.length cgPlaces), (29, .int .i64 (g.Places.length : Int)), (30, .int .i64 i2)] ∧ Hold h h' [box b1 30 [.int .i64 g.Events, .slice agPlaces g.Places.length cgPlaces], own cd2 a1 l1.length l1.length s4.1]) ?_ ?_
            · rintro _ h14 ⟨rfl, H18⟩
              refine Run_reg 2 (by kernel_rfl) (L' := [(2, .pointer (some ⟨b1, 0, none⟩)), (5, .slice a1 l1.length l1.length), (7, .bool s4.2), (28, .slice agPlaces g.Places.length cgPlaces), (29, .int .i64 (g.Places.length : Int)), (30, .int .i64 (i2 + 1))]) ?_ ?_
              · refine QRun_y (.int .i64 (i2 + 1)) (by kernel_rfl) (Y_eq (v := .int .i64 (w64 (i2 + 1))) (Y_pure (fun w => by kernel_rfl)) (by rw [w64_eq _ (by omega)])) ?_
                refine QRun_b [.int .i64 (i2 + 1)] 1 _ (by kernel_rfl) (fun w => by kernel_rfl) ?_
                exact QRun_done [2, 5, 7, 28, 29, 30] (by kernel_rfl) (by kernel_rfl)
              have hB3 := M.ret_some hB3
              have gx5 := hgoy3 _ hB3.symm
              exact Run_again [2, 5, 7, 28, 29, 30] (by kernel_rfl) my3 (Nat.lt_succ_self _) ⟨i2 + 1, (s4.1, s4.2), by omega, gx5, rfl, H18⟩
            · refine Run_block ?_
              refine Run_seq ?_
              refine Run_ops ?_
              obtain ⟨x6, hx3, gs4⟩ := M.bind_some gs4
              obtain ⟨hx3l, hx3u, hx3⟩ := M.idx_some hx3
              refine Run_y (.pointer (some (adr agPlaces (i2.toNat * 4)))) (by kernel_rfl) (Y_idx (t := 28) (e := 58) (sz := 4) (a := agPlaces) (n := g.Places.length) (cap := cgPlaces) (kk := .i64) (i := i2) (by kernel_rfl) Try.underlying28 (by kernel_rfl) ((rgPlaces.at H12.ext).cell hx3).1 hx3l hx3u) ?_
              refine Run_y (.agg #[.int .i64 x6.From, .int .i64 x6.To, .int .i64 x6.Delay, .int .i64 x6.Tokens]) (by kernel_rfl) (Y_loadA (t := 58) (n := 4) (p := adr agPlaces (i2.toNat * 4)) (cs := [.int .i64 x6.From, .int .i64 x6.To, .int .i64 x6.Delay, .int .i64 x6.Tokens]) (by kernel_rfl) (fun w => by kernel_rfl) (by kernel_rfl) rfl (cd58_elem (rgPlaces.at H12.ext) hx3)) ?_
              refine Run_E (by kernel_rfl) ?_
              refine E_box (ty := 58) (cs := [.int .i64 0, .int .i64 0, .int .i64 0, .int .i64 0]) H12 (fun w => by kernel_rfl) (fun b2 h11 H14 => ?_)
              refine Run_E (by kernel_rfl) ?_
              refine E_bput (t := 58) (off := 0) (us := [.int .i64 x6.From, .int .i64 x6.To, .int .i64 x6.Delay, .int .i64 x6.Tokens]) (v := .agg #[.int .i64 x6.From, .int .i64 x6.To, .int .i64 x6.Delay, .int .i64 x6.Tokens]) H14 (by kernel_rfl) (by kernel_rfl) rfl (by kernel_rfl) rfl (fun h12 H15 => ?_)
              refine Run_nil (by kernel_rfl) ?_
              refine Run_keep [2, 5, 7, 9, 28, 29, 30] (L' := [(2, .pointer (some ⟨b1, 0, none⟩)), (5, .slice a1 l1.length l1.length), (7, .bool s3.2), (9, .pointer (some ⟨b2, 0, none⟩)), (28, .slice agPlaces g.Places.length cgPlaces), (29, .int .i64 (g.Places.length : Int)), (30, .int .i64 i2)]) (by kernel_rfl) ?_
              refine Run_seq ?_
              refine Run_seq ?_
              obtain ⟨x7, hx4, gs4⟩ := M.bind_some gs4
              obtain ⟨hx4l, hx4u, hx4⟩ := M.idx_some hx4
              refine Run_reg 6 (by kernel_rfl) (L' := [(2, .pointer (some ⟨b1, 0, none⟩)), (5, .slice a1 l1.length l1.length), (7, .bool s3.2), (9, .pointer (some ⟨b2, 0, none⟩)), (28, .slice agPlaces g.Places.length cgPlaces), (29, .int .i64 (g.Places.length : Int)), (30, .int .i64 i2), (39, .bool (decide (x7 < 0)))]) ?_ ?_
              · refine QRun_b [.slice a1 l1.length l1.length, .pointer (some ⟨b2, 0, none⟩)] 0 _ (by kernel_rfl) (fun w => by kernel_rfl) ?_
                refine QRun_y (.int .i64 x6.From) (by kernel_rfl) (Y_load1 (t := 2) (p := ⟨b2, 0, none⟩) (v := .int .i64 x6.From) (by kernel_rfl) (fun w => by kernel_rfl) (H15.cell 0 rfl rfl)) ?_
                refine QRun_y (.pointer (some (adr a1 (x6.From.toNat * 1)))) (by kernel_rfl) (Y_idx (t := 39) (e := 2) (sz := 1) (a := a1) (n := l1.length) (cap := l1.length) (kk := .i64) (i := x6.From) (by kernel_rfl) Try.underlying39 (by kernel_rfl) ((H15.rd 2 rfl).cell hx4).1 hx4l (by rw [← (H15.len 2 rfl)]; exact hx4u)) ?_
                refine QRun_y (.int .i64 x7) (by kernel_rfl) (Y_load1 (t := 2) (p := adr a1 (x6.From.toNat * 1)) (v := .int .i64 x7) (by kernel_rfl) (fun w => by kernel_rfl) (cd2_cell (H15.rd 2 rfl) hx4)) ?_
                refine QRun_b [.bool (decide (x7 < 0))] 5 _ (by kernel_rfl) (fun w => by kernel_rfl) ?_
                exact QRun_done [2, 5, 7, 9, 28, 29, 30, 39] (by kernel_rfl) (by kernel_rfl)
              refine Run_cond (b := decide (x7 < 0)) (by kernel_rfl) (fun hb4 => ?_) (fun hb4 => ?_)
              · have gs4 := (M.ite_some gs4).1 hb4
                refine Run_exit (k' := _) rfl ?_
                have H19 : Hold h h12 [box b1 30 [.int .i64 g.Events, .slice agPlaces g.Places.length cgPlaces], own cd2 a1 l1.length l1.length s3.1] := H15.pick [1, 2] (by kernel_rfl)
                have gs4 := M.ret_some gs4
                subst gs4
                exact Run_fall [2, 5, 7, 28, 29, 30] (by kernel_rfl) ⟨rfl, H19⟩
              · have gs4 := (M.ite_some gs4).2 hb4
                refine Run_skip ?_
                refine Run_seq ?_
                obtain ⟨x8, hx5, gs4⟩ := M.bind_some gs4
                obtain ⟨hx5l, hx5u, hx5⟩ := M.idx_some hx5
                refine Run_draw 9 mixed (by kernel_rfl) (by kernel_rfl) (L' := [(2, .pointer (some ⟨b1, 0, none⟩)), (5, .slice a1 l1.length l1.length), (7, .bool s3.2), (9, .pointer (some ⟨b2, 0, none⟩)), (10, .int .i64 (w64 (x8 + x6.Tokens))), (28, .slice agPlaces g.Places.length cgPlaces), (29, .int .i64 (g.Places.length : Int)), (30, .int .i64 i2)]) ?_ ?_
                · refine QRun_b [.slice a1 l1.length l1.length, .pointer (some ⟨b2, 0, none⟩)] 0 _ (by kernel_rfl) (fun w => by kernel_rfl) ?_
                  refine QRun_y (.int .i64 x6.From) (by kernel_rfl) (Y_load1 (t := 2) (p := ⟨b2, 0, none⟩) (v := .int .i64 x6.From) (by kernel_rfl) (fun w => by kernel_rfl) (H15.cell 0 rfl rfl)) ?_
                  refine QRun_y (.pointer (some (adr a1 (x6.From.toNat * 1)))) (by kernel_rfl) (Y_idx (t := 39) (e := 2) (sz := 1) (a := a1) (n := l1.length) (cap := l1.length) (kk := .i64) (i := x6.From) (by kernel_rfl) Try.underlying39 (by kernel_rfl) ((H15.rd 2 rfl).cell hx5).1 hx5l (by rw [← (H15.len 2 rfl)]; exact hx5u)) ?_
                  refine QRun_y (.int .i64 x8) (by kernel_rfl) (Y_load1 (t := 2) (p := adr a1 (x6.From.toNat * 1)) (v := .int .i64 x8) (by kernel_rfl) (fun w => by kernel_rfl) (cd2_cell (H15.rd 2 rfl) hx5)) ?_
                  refine QRun_b [.pointer (some ⟨b2, 3, none⟩)] 5 _ (by kernel_rfl) (fun w => by kernel_rfl) ?_
                  refine QRun_y (.int .i64 x6.Tokens) (by kernel_rfl) (Y_load1 (t := 2) (p := ⟨b2, 3, none⟩) (v := .int .i64 x6.Tokens) (by kernel_rfl) (fun w => by kernel_rfl) (H15.cell 0 rfl rfl)) ?_
                  refine QRun_b [.int .i64 (w64 (x8 + x6.Tokens)), .int .i64 (w64 (x8 + x6.Tokens))] 7 _ (by kernel_rfl) (fun w => by kernel_rfl) ?_
                  exact QRun_done [2, 5, 7, 9, 10, 28, 29, 30] (by kernel_rfl) (by kernel_rfl)
                refine Run_seq ?_
                obtain ⟨x9, hx6, gs4⟩ := M.bind_some gs4
                obtain ⟨hx6l, hx6u, hx6⟩ := M.idx_some hx6
                obtain ⟨x10, gx10, gs4⟩ := M.bind_some gs4
                refine Run_reg 15 (by kernel_rfl) (L' := [(2, .pointer (some ⟨b1, 0, none⟩)), (5, .slice a1 l1.length l1.length), (7, .bool s3.2), (9, .pointer (some ⟨b2, 0, none⟩)), (10, .int .i64 (w64 (x8 + x6.Tokens))), (28, .slice agPlaces g.Places.length cgPlaces), (29, .int .i64 (g.Places.length : Int)), (30, .int .i64 i2), (62, .bool x10)]) ?_ ?_
                · refine QRun_b [.slice a1 l1.length l1.length, .pointer (some ⟨b2, 1, none⟩)] 0 _ (by kernel_rfl) (fun w => by kernel_rfl) ?_
                  refine QRun_y (.int .i64 x6.To) (by kernel_rfl) (Y_load1 (t := 2) (p := ⟨b2, 1, none⟩) (v := .int .i64 x6.To) (by kernel_rfl) (fun w => by kernel_rfl) (H15.cell 0 rfl rfl)) ?_
                  refine QRun_y (.pointer (some (adr a1 (x6.To.toNat * 1)))) (by kernel_rfl) (Y_idx (t := 39) (e := 2) (sz := 1) (a := a1) (n := l1.length) (cap := l1.length) (kk := .i64) (i := x6.To) (by kernel_rfl) Try.underlying39 (by kernel_rfl) ((H15.rd 2 rfl).cell hx6).1 hx6l (by rw [← (H15.len 2 rfl)]; exact hx6u)) ?_
                  refine QRun_y (.int .i64 x9) (by kernel_rfl) (Y_load1 (t := 2) (p := adr a1 (x6.To.toNat * 1)) (v := .int .i64 x9) (by kernel_rfl) (fun w => by kernel_rfl) (cd2_cell (H15.rd 2 rfl) hx6)) ?_
                  refine QRun_b [.bool (decide (x9 < 0))] 5 _ (by kernel_rfl) (fun w => by kernel_rfl) ?_
                  refine QRun_seq 15 [(2, .pointer (some ⟨b1, 0, none⟩)), (5, .slice a1 l1.length l1.length), (7, .bool s3.2), (9, .pointer (some ⟨b2, 0, none⟩)), (10, .int .i64 (w64 (x8 + x6.Tokens))), (28, .slice agPlaces g.Places.length cgPlaces), (29, .int .i64 (g.Places.length : Int)), (30, .int .i64 i2), (62, .bool x10)] ?_ ?_
                  · rcases Bool.eq_false_or_eq_true (decide (x9 < 0)) with hb5 | hb5
                    · refine QRun_bool (decide (x9 < 0)) true (by kernel_rfl) (fun w => by kernel_rfl) hb5 ?_
                      have gx10 := M.ret_some ((M.ite_some gx10).1 hb5)
                      refine QRun_n (by kernel_rfl) ?_
                      refine QRun_n (by kernel_rfl) ?_
                      refine QRun_n (by kernel_rfl) ?_
                      refine QRun_n (by kernel_rfl) ?_
                      refine QRun_n (by kernel_rfl) ?_
                      refine QRun_n (by kernel_rfl) ?_
                      refine QRun_n (by kernel_rfl) ?_
                      refine QRun_bool true x10 (by kernel_rfl) (fun w => by kernel_rfl) gx10 ?_
                      exact QRun_done [2, 5, 7, 9, 10, 28, 29, 30, 62] (by kernel_rfl) (by kernel_rfl)
                    · refine QRun_bool (decide (x9 < 0)) false (by kernel_rfl) (fun w => by kernel_rfl) hb5 ?_
                      have gx10 := (M.ite_some gx10).2 hb5
                      obtain ⟨x11, hx7, gx10⟩ := M.bind_some gx10
                      obtain ⟨hx7l, hx7u, hx7⟩ := M.idx_some hx7
                      have gx10 := M.ret_some gx10
                      refine QRun_b [.int .i64 (w64 (x8 + x6.Tokens)), .slice a1 l1.length l1.length, .pointer (some ⟨b2, 1, none⟩)] 7 _ (by kernel_rfl) (fun w => by kernel_rfl) ?_
                      refine QRun_y (.int .i64 x6.To) (by kernel_rfl) (Y_load1 (t := 2) (p := ⟨b2, 1, none⟩) (v := .int .i64 x6.To) (by kernel_rfl) (fun w => by kernel_rfl) (H15.cell 0 rfl rfl)) ?_
                      refine QRun_y (.pointer (some (adr a1 (x6.To.toNat * 1)))) (by kernel_rfl) (Y_idx (t := 39) (e := 2) (sz := 1) (a := a1) (n := l1.length) (cap := l1.length) (kk := .i64) (i := x6.To) (by kernel_rfl) Try.underlying39 (by kernel_rfl) ((H15.rd 2 rfl).cell hx7).1 hx7l (by rw [← (H15.len 2 rfl)]; exact hx7u)) ?_
                      refine QRun_y (.int .i64 x11) (by kernel_rfl) (Y_load1 (t := 2) (p := adr a1 (x6.To.toNat * 1)) (v := .int .i64 x11) (by kernel_rfl) (fun w => by kernel_rfl) (cd2_cell (H15.rd 2 rfl) hx7)) ?_
                      refine QRun_b [.bool (decide ((w64 (x8 + x6.Tokens)) < x11))] 13 _ (by kernel_rfl) (fun w => by kernel_rfl) ?_
                      refine QRun_bool (decide ((w64 (x8 + x6.Tokens)) < x11)) x10 (by kernel_rfl) (fun w => by kernel_rfl) gx10 ?_
                      exact QRun_done [2, 5, 7, 9, 10, 28, 29, 30, 62] (by kernel_rfl) (by kernel_rfl)
                  exact QRun_done [2, 5, 7, 9, 10, 28, 29, 30, 62] (by kernel_rfl) (by kernel_rfl)
                refine Run_cond (b := x10) (by kernel_rfl) (fun hb6 => ?_) (fun hb6 => ?_)
                · have gs4 := (M.ite_some gs4).1 hb6
                  refine Run_ops ?_
                  obtain ⟨x12, hx8, gs4⟩ := M.bind_some gs4
                  obtain ⟨hx8l, hx8u, hx8⟩ := M.idx_some hx8
                  refine Run_b [.slice a1 l1.length l1.length, .pointer (some ⟨b2, 1, none⟩)] 0 _ (by kernel_rfl) (fun w => by kernel_rfl) ?_
                  refine Run_y (.int .i64 x6.To) (by kernel_rfl) (Y_load1 (t := 2) (p := ⟨b2, 1, none⟩) (v := .int .i64 x6.To) (by kernel_rfl) (fun w => by kernel_rfl) (H15.cell 0 rfl rfl)) ?_
                  refine Run_b [.int .i64 (w64 (x8 + x6.Tokens))] 3 _ (by kernel_rfl) (fun w => by kernel_rfl) ?_
                  refine Run_y (.pointer (some (adr a1 (x6.To.toNat * 1)))) (by kernel_rfl) (Y_idx (t := 39) (e := 2) (sz := 1) (a := a1) (n := l1.length) (cap := l1.length) (kk := .i64) (i := x6.To) (by kernel_rfl) Try.underlying39 (by kernel_rfl) ((H15.rd 2 rfl).cell hx8).1 hx8l (by rw [← (H15.len 2 rfl)]; exact hx8u)) ?_
                  obtain ⟨l4, hu3, gs4⟩ := M.bind_some gs4
                  have hu3 := M.upd_some hu3
                  have H17 : Hold h h12 [own cd2 a1 l1.length l1.length s3.1, box b2 58 [.int .i64 x6.From, .int .i64 x6.To, .int .i64 x6.Delay, .int .i64 x6.Tokens], box b1 30 [.int .i64 g.Events, .slice agPlaces g.Places.length cgPlaces]] := H15.pick [2, 0, 1] (by kernel_rfl)
                  refine Run_E (by kernel_rfl) ?_
                  refine E_put (C := cd2) (t := 2) (sz := 1) (j := x6.To) (x := (w64 (x8 + x6.Tokens))) (v := .int .i64 (w64 (x8 + x6.Tokens))) H17 cd2_flat (by kernel_rfl) rfl (cd2_own _) (by kernel_rfl) hu3 (fun h13 H16 => ?_)
                  refine Run_b [.bool true] 6 _ (by kernel_rfl) (fun w => by kernel_rfl) ?_
                  refine Run_nil (by kernel_rfl) ?_
                  refine Run_keep [2, 5, 7, 28, 29, 30] (L' := [(2, .pointer (some ⟨b1, 0, none⟩)), (5, .slice a1 l1.length l1.length), (7, .bool true), (28, .slice agPlaces g.Places.length cgPlaces), (29, .int .i64 (g.Places.length : Int)), (30, .int .i64 i2)]) (by kernel_rfl) ?_
                  refine Run_blk ?_
                  have H20 : Hold h h13 [box b1 30 [.int .i64 g.Events, .slice agPlaces g.Places.length cgPlaces], own cd2 a1 l1.length l1.length l4] := H16.pick [2, 0] (by kernel_rfl)
                  have gs4 := M.ret_some gs4
                  subst gs4
                  exact Run_fall [2, 5, 7, 28, 29, 30] (by kernel_rfl) ⟨rfl, H20⟩
                · have gs4 := (M.ite_some gs4).2 hb6
                  refine Run_skip ?_
                  refine Run_blk ?_
                  have H21 : Hold h h12 [box b1 30 [.int .i64 g.Events, .slice agPlaces g.Places.length cgPlaces], own cd2 a1 l1.length l1.length s3.1] := H15.pick [1, 2] (by kernel_rfl)
                  have gs4 := M.ret_some gs4
                  subst gs4
                  exact Run_fall [2, 5, 7, 28, 29, 30] (by kernel_rfl) ⟨rfl, H21⟩
          · have gx5 := M.for_end gx5 hb3
            subst gx5
            refine Run_exit (k' := _) rfl ?_
            exact Run_fall [2, 5, 7] (by kernel_rfl) ⟨rfl, H12⟩
      · have hB2 := (M.ite_some hB2).2 hb2
        refine Run_exit (k' := _) rfl ?_
        have H22 : Hold h h7 [own cd2 a1 l1.length l1.length s2.1] := H10.pick [1] (by kernel_rfl)
        have hB2 := M.ret_some hB2
        have gx4 := houty2 _ hB2.symm
        subst gx4
        exact Run_fall [5] (by kernel_rfl) ⟨rfl, H22⟩
  · refine Run_block ?_
    have H25 : Hold h h2 [box b1 30 [.int .i64 g.Events, .slice agPlaces g.Places.length cgPlaces], own cd2 a1 l1.length l1.length l1] := H2.pick [1, 0] (by kernel_rfl)
    refine Run_keep [1, 2, 5, 15, 16] (L' := [(1, .int .i64 from_), (2, .pointer (some ⟨b1, 0, none⟩)), (5, .slice a1 l1.length l1.length), (15, .int .i64 (l1.length : Int)), (16, .int .i64 0)]) (by kernel_rfl) ?_
    refine Run_loop (fun m L' h' => ∃ (i1 : Int) (s1 : (List Int)), 0 ≤ i1 ∧ M.forN (l1.length : Int) _ _ n m i1 s1 = some x1 ∧ L' = [(1, .int .i64 from_), (2, .pointer (some ⟨b1, 0, none⟩)), (5, .slice a1 l1.length l1.length), (15, .int .i64 (l1.length : Int)), (16, .int .i64 i1)] ∧ Hold h h' [box b1 30 [.int .i64 g.Events, .slice agPlaces g.Places.length cgPlaces], own cd2 a1 l1.length l1.length s1]) ((l1.length : Int) - 0 : Int).toNat ⟨0, l1, Int.le_refl _, gx1, rfl, H25⟩ ?_
    rintro my1 _ h3 ⟨i1, s1, hloy1', gx1, rfl, H3⟩
    refine Run_seq ?_
    refine Run_reg 1 (by kernel_rfl) (L' := [(1, .int .i64 from_), (2, .pointer (some ⟨b1, 0, none⟩)), (5, .slice a1 l1.length l1.length), (15, .int .i64 (l1.length : Int)), (16, .int .i64 i1), (17, .bool (decide (i1 < (l1.length : Int))))]) ?_ ?_
    · refine QRun_b [.bool (decide (i1 < (l1.length : Int)))] 0 _ (by kernel_rfl) (fun w => by kernel_rfl) ?_
      exact QRun_done [1, 2, 5, 15, 16, 17] (by kernel_rfl) (by kernel_rfl)
    refine Run_seq ?_
    refine Run_cond (b := decide (i1 < (l1.length : Int))) (by kernel_rfl) (fun hb1 => ?_) (fun hb1 => ?_)
    · obtain ⟨my1, y1, rfl, hB1, hgoy1, houty1⟩ := M.for_go gx1 hb1
      have hlty1 := of_decide_eq_true hb1
      refine Run_skip ?_
      refine Run_seq ?_
      refine Run_block ?_
      refine Run_seq ?_
      refine Run_reg 2 (by kernel_rfl) (L' := [(1, .int .i64 from_), (2, .pointer (some ⟨b1, 0, none⟩)), (5, .slice a1 l1.length l1.length), (6, .int .i64 i1), (15, .int .i64 (l1.length : Int)), (16, .int .i64 i1)]) ?_ ?_
      · refine QRun_b [.int .i64 i1, .int .i64 i1] 0 _ (by kernel_rfl) (fun w => by kernel_rfl) ?_
        exact QRun_done [1, 2, 5, 6, 15, 16] (by kernel_rfl) (by kernel_rfl)
      refine Run_ops ?_
      obtain ⟨x2, hx1, hB1⟩ := M.bind_some hB1
      obtain ⟨hx1l, hx1u, hx1⟩ := M.idx_some hx1
      refine Run_b [.slice a1 l1.length l1.length, .int .i64 i1] 0 _ (by kernel_rfl) (fun w => by kernel_rfl) ?_
      refine Run_y (.pointer (some (adr a1 (i1.toNat * 1)))) (by kernel_rfl) (Y_idx (t := 39) (e := 2) (sz := 1) (a := a1) (n := l1.length) (cap := l1.length) (kk := .i64) (i := i1) (by kernel_rfl) Try.underlying39 (by kernel_rfl) ((H3.rd 1 rfl).cell hx1).1 hx1l (by rw [← (H3.len 1 rfl)]; exact hx1u)) ?_
      obtain ⟨l2, hu1, hB1⟩ := M.bind_some hB1
      have hu1 := M.upd_some hu1
      have H6 : Hold h h3 [own cd2 a1 l1.length l1.length s1, box b1 30 [.int .i64 g.Events, .slice agPlaces g.Places.length cgPlaces]] := H3.pick [1, 0] (by kernel_rfl)
      refine Run_E (by kernel_rfl) ?_
      refine E_put (C := cd2) (t := 2) (sz := 1) (j := i1) (x := (-1)) (v := .int .i64 (-1)) H6 cd2_flat (by kernel_rfl) rfl (cd2_own _) (by kernel_rfl) hu1 (fun h5 H5 => ?_)
      refine Run_nil (by kernel_rfl) ?_
      refine Run_keep [1, 2, 5, 15, 16] (L' := [(1, .int .i64 from_), (2, .pointer (some ⟨b1, 0, none⟩)), (5, .slice a1 l1.length l1.length), (15, .int .i64 (l1.length : Int)), (16, .int .i64 i1)]) (by kernel_rfl) ?_
      refine Run_blk ?_
      refine Run_reg 2 (by kernel_rfl) (L' := [(1, .int .i64 from_), (2, .pointer (some ⟨b1, 0, none⟩)), (5, .slice a1 l1.length l1.length), (15, .int .i64 (l1.length : Int)), (16, .int .i64 (i1 + 1))]) ?_ ?_
      · refine QRun_y (.int .i64 (i1 + 1)) (by kernel_rfl) (Y_eq (v := .int .i64 (w64 (i1 + 1))) (Y_pure (fun w => by kernel_rfl)) (by rw [w64_eq _ (by omega)])) ?_
        refine QRun_b [.int .i64 (i1 + 1)] 1 _ (by kernel_rfl) (fun w => by kernel_rfl) ?_
        exact QRun_done [1, 2, 5, 15, 16] (by kernel_rfl) (by kernel_rfl)
      have H7 : Hold h h5 [box b1 30 [.int .i64 g.Events, .slice agPlaces g.Places.length cgPlaces], own cd2 a1 l1.length l1.length l2] := H5.pick [1, 0] (by kernel_rfl)
      have hB1 := M.ret_some hB1
      have gx1 := hgoy1 _ hB1.symm
      exact Run_again [1, 2, 5, 15, 16] (by kernel_rfl) my1 (Nat.lt_succ_self _) ⟨i1 + 1, l2, by omega, gx1, rfl, H7⟩
    · have gx1 := M.for_end gx1 hb1
      subst gx1
      refine Run_exit (k' := _) rfl ?_
      exact Run_fall [1, 2, 5] (by kernel_rfl) ⟨rfl, H3⟩

set_option maxRecDepth 100000 in
set_option maxHeartbeats 4000000 in
theorem w_slices_Index_int (h : Heap) (s_ : List Int) {Ss_ : Bs} (as_ : Option Addr) (cs_ : Nat) (rs_ : Rd cd2 h Ss_ as_ cs_ s_) (v_ : Int) (n : Nat) (r : Int) (hF : slices_Index_int s_ v_ n = some r) :
    Fn Try.prog 146 #[.slice as_ s_.length cs_, .int .i64 v_] h fun v h' => v = .int .i64 r ∧ h' = h := by
  unfold slices_Index_int at hF
  refine Fn_enter (args := [.slice as_ s_.length cs_, .int .i64 v_]) Try.func146 rfl (by kernel_rfl) (by kernel_rfl) (fun w0 _ => ?_)
  refine Run_seq ?_
  refine Run_reg 1 (by kernel_rfl) (L' := [(0, .slice as_ s_.length cs_), (1, .int .i64 v_)]) ?_ ?_
  · refine QRun_b [.int .i64 0] 0 _ (by kernel_rfl) (fun w => by kernel_rfl) ?_
    exact QRun_done [0, 1] (by kernel_rfl) (by kernel_rfl)
  refine Run_seq ?_
  refine Run_seq ?_
  refine Run_reg 3 (by kernel_rfl) (L' := [(0, .slice as_ s_.length cs_), (1, .int .i64 v_), (7, .int .i64 (s_.length : Int)), (8, .int .i64 0)]) ?_ ?_
  · refine QRun_b [.slice as_ s_.length cs_, .int .i64 (s_.length : Int), .int .i64 0] 0 _ (by kernel_rfl) (fun w => by kernel_rfl) ?_
    exact QRun_done [0, 1, 7, 8] (by kernel_rfl) (by kernel_rfl)
  obtain ⟨x1, gx1, hF⟩ := M.bind_some hF
  obtain ⟨hloy1, hhiy1, gx1⟩ := M.for_start gx1
  refine Run_join (fun L' h' => ∃ (s2 : Unit), x1 = .inl s2 ∧ L' = [] ∧ h = h') ?_ ?_
  · rintro _ _ ⟨s2, es2, rfl, rfl⟩
    have hF := M.cont_inl' hF es2
    refine Run_seq ?_
    refine Run_reg 1 (by kernel_rfl) (L' := [(4, .int .i64 (-1))]) ?_ ?_
    · refine QRun_b [.int .i64 (-1)] 0 _ (by kernel_rfl) (fun w => by kernel_rfl) ?_
      exact QRun_done [4] (by kernel_rfl) (by kernel_rfl)
    have hF := M.ret_some hF
    subst hF
    exact Run_ret1 rfl (ResV_tmp (v := .int .i64 (-1)) (by kernel_rfl)) ⟨rfl, rfl⟩
  · refine Run_block ?_
    refine Run_keep [0, 1, 7, 8] (L' := [(0, .slice as_ s_.length cs_), (1, .int .i64 v_), (7, .int .i64 (s_.length : Int)), (8, .int .i64 0)]) (by kernel_rfl) ?_
    refine Run_loop (fun m L' h' => ∃ (i1 : Int) (s1 : Unit), 0 ≤ i1 ∧ M.forN (s_.length : Int) _ _ n m i1 s1 = some x1 ∧ L' = [(0, .slice as_ s_.length cs_), (1, .int .i64 v_), (7, .int .i64 (s_.length : Int)), (8, .int .i64 i1)] ∧ h = h') ((s_.length : Int) - 0 : Int).toNat ⟨0, (), Int.le_refl _, gx1, rfl, rfl⟩ ?_
    rintro my1 _ _ ⟨i1, s1, hloy1', gx1, rfl, rfl⟩
    refine Run_seq ?_
    refine Run_reg 1 (by kernel_rfl) (L' := [(0, .slice as_ s_.length cs_), (1, .int .i64 v_), (7, .int .i64 (s_.length : Int)), (8, .int .i64 i1), (9, .bool (decide (i1 < (s_.length : Int))))]) ?_ ?_
    · refine QRun_b [.bool (decide (i1 < (s_.length : Int)))] 0 _ (by kernel_rfl) (fun w => by kernel_rfl) ?_
      exact QRun_done [0, 1, 7, 8, 9] (by kernel_rfl) (by kernel_rfl)
    refine Run_seq ?_
    refine Run_cond (b := decide (i1 < (s_.length : Int))) (by kernel_rfl) (fun hb1 => ?_) (fun hb1 => ?_)
    · obtain ⟨my1, y1, rfl, hB1, hgoy1, houty1⟩ := M.for_go gx1 hb1
      have hlty1 := of_decide_eq_true hb1
      refine Run_skip ?_
      refine Run_seq ?_
      refine Run_block ?_
      refine Run_seq ?_
      refine Run_reg 2 (by kernel_rfl) (L' := [(0, .slice as_ s_.length cs_), (1, .int .i64 v_), (5, .int .i64 i1), (7, .int .i64 (s_.length : Int)), (8, .int .i64 i1)]) ?_ ?_
      · refine QRun_b [.int .i64 i1, .int .i64 i1] 0 _ (by kernel_rfl) (fun w => by kernel_rfl) ?_
        exact QRun_done [0, 1, 5, 7, 8] (by kernel_rfl) (by kernel_rfl)
      refine Run_seq ?_
      obtain ⟨x2, hx1, hB1⟩ := M.bind_some hB1
      obtain ⟨hx1l, hx1u, hx1⟩ := M.idx_some hx1
      refine Run_reg 6 (by kernel_rfl) (L' := [(0, .slice as_ s_.length cs_), (1, .int .i64 v_), (5, .int .i64 i1), (7, .int .i64 (s_.length : Int)), (8, .int .i64 i1), (16, .bool (v_ == x2))]) ?_ ?_
      · refine QRun_b [.int .i64 v_, .slice as_ s_.length cs_, .int .i64 i1] 0 _ (by kernel_rfl) (fun w => by kernel_rfl) ?_
        refine QRun_y (.pointer (some (adr as_ (i1.toNat * 1)))) (by kernel_rfl) (Y_idx (t := 39) (e := 2) (sz := 1) (a := as_) (n := s_.length) (cap := cs_) (kk := .i64) (i := i1) (by kernel_rfl) Try.underlying39 (by kernel_rfl) (rs_.cell hx1).1 hx1l hx1u) ?_
        refine QRun_y (.int .i64 x2) (by kernel_rfl) (Y_load1 (t := 2) (p := adr as_ (i1.toNat * 1)) (v := .int .i64 x2) (by kernel_rfl) (fun w => by kernel_rfl) (cd2_cell rs_ hx1)) ?_
        refine QRun_b [.bool (v_ == x2)] 5 _ (by kernel_rfl) (fun w => by kernel_rfl) ?_
        exact QRun_done [0, 1, 5, 7, 8, 16] (by kernel_rfl) (by kernel_rfl)
      refine Run_cond (b := v_ == x2) (by kernel_rfl) (fun hb2 => ?_) (fun hb2 => ?_)
      · have hB1 := (M.ite_some hB1).1 hb2
        refine Run_seq ?_
        refine Run_reg 2 (by kernel_rfl) (L' := [(4, .int .i64 i1)]) ?_ ?_
        · refine QRun_b [.int .i64 i1, .int .i64 i1] 0 _ (by kernel_rfl) (fun w => by kernel_rfl) ?_
          exact QRun_done [4] (by kernel_rfl) (by kernel_rfl)
        have hB1 := M.ret_some hB1
        have gx1 := houty1 _ hB1.symm
        have hF := M.cont_inr' hF gx1
        have hF := M.ret_some hF
        subst hF
        exact Run_ret1 rfl (ResV_tmp (v := .int .i64 i1) (by kernel_rfl)) ⟨rfl, rfl⟩
      · have hB1 := (M.ite_some hB1).2 hb2
        refine Run_skip ?_
        refine Run_blk ?_
        refine Run_reg 2 (by kernel_rfl) (L' := [(0, .slice as_ s_.length cs_), (1, .int .i64 v_), (7, .int .i64 (s_.length : Int)), (8, .int .i64 (i1 + 1))]) ?_ ?_
        · refine QRun_y (.int .i64 (i1 + 1)) (by kernel_rfl) (Y_eq (v := .int .i64 (w64 (i1 + 1))) (Y_pure (fun w => by kernel_rfl)) (by rw [w64_eq _ (by omega)])) ?_
          refine QRun_b [.int .i64 (i1 + 1)] 1 _ (by kernel_rfl) (fun w => by kernel_rfl) ?_
          exact QRun_done [0, 1, 7, 8] (by kernel_rfl) (by kernel_rfl)
        have hB1 := M.ret_some hB1
        have gx1 := hgoy1 _ hB1.symm
        exact Run_again [0, 1, 7, 8] (by kernel_rfl) my1 (Nat.lt_succ_self _) ⟨i1 + 1, (), by omega, gx1, rfl, rfl⟩
    · have gx1 := M.for_end gx1 hb1
      subst gx1
      refine Run_exit (k' := _) rfl ?_
      exact Run_fall [] (by kernel_rfl) ⟨(), rfl, rfl, rfl⟩

set_option maxRecDepth 100000 in
set_option maxHeartbeats 4000000 in
theorem w_slices_Contains_int (h : Heap) (s_ : List Int) {Ss_ : Bs} (as_ : Option Addr) (cs_ : Nat) (rs_ : Rd cd2 h Ss_ as_ cs_ s_) (v_ : Int) (n : Nat) (r : Bool) (hF : slices_Contains_int s_ v_ n = some r) :
    Fn Try.prog 75 #[.slice as_ s_.length cs_, .int .i64 v_] h fun v h' => v = .bool r ∧ h' = h := by
  unfold slices_Contains_int at hF
  refine Fn_enter (args := [.slice as_ s_.length cs_, .int .i64 v_]) Try.func75 rfl (by kernel_rfl) (by kernel_rfl) (fun w0 _ => ?_)
  refine Run_seq ?_
  refine Run_reg 1 (by kernel_rfl) (L' := [(0, .slice as_ s_.length cs_), (1, .int .i64 v_)]) ?_ ?_
  · refine QRun_b [.bool false] 0 _ (by kernel_rfl) (fun w => by kernel_rfl) ?_
    exact QRun_done [0, 1] (by kernel_rfl) (by kernel_rfl)
  refine Run_seq ?_
  obtain ⟨x1, hx1, hF⟩ := M.bind_some hF
  refine Run_reg 5 (by kernel_rfl) (L' := [(4, .bool (decide (0 ≤ x1)))]) ?_ ?_
  · refine QRun_b [.slice as_ s_.length cs_, .int .i64 v_] 0 _ (by kernel_rfl) (fun w => by kernel_rfl) ?_
    refine QRun_y (.int .i64 x1) (by kernel_rfl) (Y_callq (f := 146) (args := #[.slice as_ s_.length cs_, .int .i64 v_]) (v := .int .i64 x1) (by kernel_rfl) (w_slices_Index_int h s_ as_ cs_ rs_ v_ _ _ hx1)) ?_
    refine QRun_b [.bool (decide (0 ≤ x1)), .bool (decide (0 ≤ x1))] 3 _ (by kernel_rfl) (fun w => by kernel_rfl) ?_
    exact QRun_done [4] (by kernel_rfl) (by kernel_rfl)
  have hF := M.ret_some hF
  subst hF
  exact Run_ret1 rfl (ResV_tmp (v := .bool (decide (0 ≤ x1))) (by kernel_rfl)) ⟨rfl, rfl⟩

set_option maxRecDepth 100000 in
set_option maxHeartbeats 4000000 in
theorem w_impl_IsStrong (h : Heap) (g : TGraph) (agPlaces : Option Addr) (cgPlaces : Nat) (rgPlaces : Rd cd58 h (Lt h) agPlaces cgPlaces g.Places) (n : Nat) (r : Bool × Int) (hF : impl_IsStrong g n = some r) :
    Fn Try.prog 14 #[.agg #[.int .i64 g.Events, .slice agPlaces g.Places.length cgPlaces]] h fun v h' => v = .tuple #[.bool r.1, .int .i64 r.2] ∧ Hold h h' [] := by
  unfold impl_IsStrong at hF
  refine Fn_enter (args := [.agg #[.int .i64 g.Events, .slice agPlaces g.Places.length cgPlaces]]) Try.func14 rfl (by kernel_rfl) (by kernel_rfl) (fun w0 _ => ?_)
  have H0 := Hold.init h
  refine Run_seq ?_
  refine Run_ops ?_
  refine Run_E (by kernel_rfl) ?_
  refine E_box (ty := 30) (cs := [.int .i64 g.Events, .slice agPlaces g.Places.length cgPlaces]) H0 (fun w => by kernel_rfl) (fun b1 h1 H1 => ?_)
  refine Run_b [.bool false, .int .i64 0] 1 _ (by kernel_rfl) (fun w => by kernel_rfl) ?_
  refine Run_nil (by kernel_rfl) ?_
  refine Run_keep [1] (L' := [(1, .pointer (some ⟨b1, 0, none⟩))]) (by kernel_rfl) ?_
  refine Run_seq ?_
  refine Run_seq ?_
  obtain ⟨x1, hx1, hF⟩ := M.bind_some hF
  refine Run_regC (j := 3) (C := fun x => Hold h x [box b1 30 [.int .i64 g.Events, .slice agPlaces g.Places.length cgPlaces]]) (by kernel_rfl) H1 (L' := [(1, .pointer (some ⟨b1, 0, none⟩)), (7, .bool (!x1))]) ?_ (fun h2 H2 => ?_)
  · refine QRun_y (.agg #[.int .i64 g.Events, .slice agPlaces g.Places.length cgPlaces]) (by kernel_rfl) (Y_cls fun hx Hx => (Y_loadA (t := 30) (n := 2) (p := ⟨b1, 0, none⟩) (cs := [.int .i64 g.Events, .slice agPlaces g.Places.length cgPlaces]) (by kernel_rfl) (fun w => by kernel_rfl) (by kernel_rfl) rfl (Hx.cells (n := 2) (off := 0) 0 rfl rfl))) ?_
    refine QRun_y (.bool x1) (by kernel_rfl) (Y_call (f := 74) (args := #[.agg #[.int .i64 g.Events, .slice agPlaces g.Places.length cgPlaces]]) (v := .bool x1) (by kernel_rfl) fun hx Hx => (w_impl_IsEventGraph hx g agPlaces cgPlaces (rgPlaces.at Hx.ext) _ _ hx1).mono fun _ _ ⟨e, H'⟩ => ⟨e, Hx.call H' rfl⟩) ?_
    refine QRun_b [.bool (!x1)] 2 _ (by kernel_rfl) (fun w => by kernel_rfl) ?_
    exact QRun_done [1, 7] (by kernel_rfl) (by kernel_rfl)
  have H3 : Hold h h2 [box b1 30 [.int .i64 g.Events, .slice agPlaces g.Places.length cgPlaces]] := H2
  refine Run_cond (b := !x1) (by kernel_rfl) (fun hb1 => ?_) (fun hb1 => ?_)
  · have hF := (M.ite_some hF).1 hb1
    refine Run_seq ?_
    refine Run_reg 2 (by kernel_rfl) (L' := [(2, .bool false), (3, .int .i64 1)]) ?_ ?_
    · refine QRun_b [.bool false, .int .i64 1] 0 _ (by kernel_rfl) (fun w => by kernel_rfl) ?_
      exact QRun_done [2, 3] (by kernel_rfl) (by kernel_rfl)
    have hF := M.ret_some hF
    subst hF
    have H4 : Hold h h2 [] := H3.pick [] (by kernel_rfl)
    exact Run_ret2 rfl (ResV_tmp (v := .bool false) (by kernel_rfl)) (ResV_tmp (v := .int .i64 1) (by kernel_rfl)) ⟨rfl, H4⟩
  · have hF := (M.ite_some hF).2 hb1
    refine Run_skip ?_
    refine Run_seq ?_
    refine Run_seq ?_
    refine Run_reg 3 (by kernel_rfl) (L' := [(1, .pointer (some ⟨b1, 0, none⟩)), (9, .int .i64 g.Events), (10, .int .i64 0)]) ?_ ?_
    · refine QRun_b [.pointer (some ⟨b1, 0, none⟩)] 0 _ (by kernel_rfl) (fun w => by kernel_rfl) ?_
      refine QRun_y (.int .i64 g.Events) (by kernel_rfl) (Y_load1 (t := 2) (p := ⟨b1, 0, none⟩) (v := .int .i64 g.Events) (by kernel_rfl) (fun w => by kernel_rfl) (H3.cell 0 rfl rfl)) ?_
      refine QRun_b [.int .i64 0] 2 _ (by kernel_rfl) (fun w => by kernel_rfl) ?_
      exact QRun_done [1, 9, 10] (by kernel_rfl) (by kernel_rfl)
    obtain ⟨x2, gx2, hF⟩ := M.bind_some hF
    obtain ⟨hloy1, hhiy1, gx2⟩ := M.for_start gx2
    refine Run_join (fun L' h' => ∃ (s2 : Unit), x2 = .inl s2 ∧ L' = [] ∧ Hold h h' []) ?_ ?_
    · rintro _ h4 ⟨s2, es2, rfl, H6⟩
      have hF := M.cont_inl' hF es2
      refine Run_seq ?_
      refine Run_reg 2 (by kernel_rfl) (L' := [(2, .bool true), (3, .int .i64 0)]) ?_ ?_
      · refine QRun_b [.bool true, .int .i64 0] 0 _ (by kernel_rfl) (fun w => by kernel_rfl) ?_
        exact QRun_done [2, 3] (by kernel_rfl) (by kernel_rfl)
      have hF := M.ret_some hF
      subst hF
      exact Run_ret2 rfl (ResV_tmp (v := .bool true) (by kernel_rfl)) (ResV_tmp (v := .int .i64 0) (by kernel_rfl)) ⟨rfl, H6⟩
    · refine Run_block ?_
      refine Run_keep [1, 9, 10] (L' := [(1, .pointer (some ⟨b1, 0, none⟩)), (9, .int .i64 g.Events), (10, .int .i64 0)]) (by kernel_rfl) ?_
      refine Run_loop (fun m L' h' => ∃ (i1 : Int) (s1 : Unit), 0 ≤ i1 ∧ M.forN g.Events _ _ n m i1 s1 = some x2 ∧ L' = [(1, .pointer (some ⟨b1, 0, none⟩)), (9, .int .i64 g.Events), (10, .int .i64 i1)] ∧ Hold h h' [box b1 30 [.int .i64 g.Events, .slice agPlaces g.Places.length cgPlaces]]) (g.Events - 0 : Int).toNat ⟨0, (), Int.le_refl _, gx2, rfl, H3⟩ ?_
      rintro my1 _ h3 ⟨i1, s1, hloy1', gx2, rfl, H5⟩
      refine Run_seq ?_
      refine Run_reg 1 (by kernel_rfl) (L' := [(1, .pointer (some ⟨b1, 0, none⟩)), (9, .int .i64 g.Events), (10, .int .i64 i1), (11, .bool (decide (i1 < g.Events)))]) ?_ ?_
      · refine QRun_b [.bool (decide (i1 < g.Events))] 0 _ (by kernel_rfl) (fun w => by kernel_rfl) ?_
        exact QRun_done [1, 9, 10, 11] (by kernel_rfl) (by kernel_rfl)
      refine Run_seq ?_
      refine Run_cond (b := decide (i1 < g.Events)) (by kernel_rfl) (fun hb2 => ?_) (fun hb2 => ?_)
      · obtain ⟨my1, y1, rfl, hB1, hgoy1, houty1⟩ := M.for_go gx2 hb2
        have hlty1 := of_decide_eq_true hb2
        refine Run_skip ?_
        refine Run_seq ?_
        refine Run_block ?_
        refine Run_seq ?_
        refine Run_reg 2 (by kernel_rfl) (L' := [(1, .pointer (some ⟨b1, 0, none⟩)), (4, .int .i64 i1), (9, .int .i64 g.Events), (10, .int .i64 i1)]) ?_ ?_
        · refine QRun_b [.int .i64 i1, .int .i64 i1] 0 _ (by kernel_rfl) (fun w => by kernel_rfl) ?_
          exact QRun_done [1, 4, 9, 10] (by kernel_rfl) (by kernel_rfl)
        refine Run_seq ?_
        refine Run_ops ?_
        refine Run_y (.agg #[.int .i64 g.Events, .slice agPlaces g.Places.length cgPlaces]) (by kernel_rfl) (Y_loadA (t := 30) (n := 2) (p := ⟨b1, 0, none⟩) (cs := [.int .i64 g.Events, .slice agPlaces g.Places.length cgPlaces]) (by kernel_rfl) (fun w => by kernel_rfl) (by kernel_rfl) rfl (H5.cells (n := 2) (off := 0) 0 rfl rfl)) ?_
        refine Run_b [.int .i64 i1] 1 _ (by kernel_rfl) (fun w => by kernel_rfl) ?_
        obtain ⟨x3, hx2, hB1⟩ := M.bind_some hB1
        refine Run_E (by kernel_rfl) ?_
        refine E_call (f := 76) (args := #[.agg #[.int .i64 g.Events, .slice agPlaces g.Places.length cgPlaces], .int .i64 i1]) (w_impl_tokenDistances h3 g agPlaces cgPlaces (rgPlaces.at H5.ext) i1 _ _ hx2) (by kernel_rfl) (fun v1 h5 hp1 => ?_)
        obtain ⟨a1, c1, rfl, H7⟩ := hp1
        have H8 : Hold h h5 [own cd2 a1 x3.length c1 x3, box b1 30 [.int .i64 g.Events, .slice agPlaces g.Places.length cgPlaces]] := H5.call H7 rfl
        obtain ⟨x4, hx3, hB1⟩ := M.bind_some hB1
        refine Run_y (.bool x4) (by kernel_rfl) (Y_callq (f := 75) (args := #[.slice a1 x3.length c1, .int .i64 (-1)]) (v := .bool x4) (by kernel_rfl) (w_slices_Contains_int h5 x3 a1 c1 (H8.rd 0 rfl) (-1) _ _ hx3)) ?_
        refine Run_nil (by kernel_rfl) ?_
        refine Run_keep [1, 9, 10, 16] (L' := [(1, .pointer (some ⟨b1, 0, none⟩)), (9, .int .i64 g.Events), (10, .int .i64 i1), (16, .bool x4)]) (by kernel_rfl) ?_
        refine Run_cond (b := x4) (by kernel_rfl) (fun hb3 => ?_) (fun hb3 => ?_)
        · have hB1 := (M.ite_some hB1).1 hb3
          refine Run_seq ?_
          refine Run_reg 2 (by kernel_rfl) (L' := [(2, .bool false), (3, .int .i64 0)]) ?_ ?_
          · refine QRun_b [.bool false, .int .i64 0] 0 _ (by kernel_rfl) (fun w => by kernel_rfl) ?_
            exact QRun_done [2, 3] (by kernel_rfl) (by kernel_rfl)
          have hB1 := M.ret_some hB1
          have gx2 := houty1 _ hB1.symm
          have hF := M.cont_inr' hF gx2
          have hF := M.ret_some hF
          subst hF
          have H9 : Hold h h5 [] := H8.pick [] (by kernel_rfl)
          exact Run_ret2 rfl (ResV_tmp (v := .bool false) (by kernel_rfl)) (ResV_tmp (v := .int .i64 0) (by kernel_rfl)) ⟨rfl, H9⟩
        · have hB1 := (M.ite_some hB1).2 hb3
          refine Run_skip ?_
          refine Run_blk ?_
          refine Run_reg 2 (by kernel_rfl) (L' := [(1, .pointer (some ⟨b1, 0, none⟩)), (9, .int .i64 g.Events), (10, .int .i64 (i1 + 1))]) ?_ ?_
          · refine QRun_y (.int .i64 (i1 + 1)) (by kernel_rfl) (Y_eq (v := .int .i64 (w64 (i1 + 1))) (Y_pure (fun w => by kernel_rfl)) (by rw [w64_eq _ (by omega)])) ?_
            refine QRun_b [.int .i64 (i1 + 1)] 1 _ (by kernel_rfl) (fun w => by kernel_rfl) ?_
            exact QRun_done [1, 9, 10] (by kernel_rfl) (by kernel_rfl)
          have H10 : Hold h h5 [box b1 30 [.int .i64 g.Events, .slice agPlaces g.Places.length cgPlaces]] := H8.pick [1] (by kernel_rfl)
          have hB1 := M.ret_some hB1
          have gx2 := hgoy1 _ hB1.symm
          exact Run_again [1, 9, 10] (by kernel_rfl) my1 (Nat.lt_succ_self _) ⟨i1 + 1, (), by omega, gx2, rfl, H10⟩
      · have gx2 := M.for_end gx2 hb2
        subst gx2
        refine Run_exit (k' := _) rfl ?_
        have H11 : Hold h h3 [] := H5.pick [] (by kernel_rfl)
        exact Run_fall [] (by kernel_rfl) ⟨(), rfl, rfl, H11⟩

set_option maxRecDepth 100000 in
set_option maxHeartbeats 4000000 in
theorem w_laws_eqPlace (h : Heap) (a_ : TPlace) (b : TPlace) (n : Nat) (r : Bool) (hF : laws_eqPlace a_ b n = some r) :
    Fn Try.prog 147 #[.agg #[.int .i64 a_.From, .int .i64 a_.To, .int .i64 a_.Delay, .int .i64 a_.Tokens], .agg #[.int .i64 b.From, .int .i64 b.To, .int .i64 b.Delay, .int .i64 b.Tokens]] h fun v h' => v = .bool r ∧ Hold h h' [] := by
  unfold laws_eqPlace at hF
  refine Fn_enter (args := [.agg #[.int .i64 a_.From, .int .i64 a_.To, .int .i64 a_.Delay, .int .i64 a_.Tokens], .agg #[.int .i64 b.From, .int .i64 b.To, .int .i64 b.Delay, .int .i64 b.Tokens]]) Try.func147 rfl (by kernel_rfl) (by kernel_rfl) (fun w0 _ => ?_)
  have H0 := Hold.init h
  refine Run_seq ?_
  refine Run_ops ?_
  refine Run_E (by kernel_rfl) ?_
  refine E_box (ty := 58) (cs := [.int .i64 a_.From, .int .i64 a_.To, .int .i64 a_.Delay, .int .i64 a_.Tokens]) H0 (fun w => by kernel_rfl) (fun b1 h1 H1 => ?_)
  refine Run_E (by kernel_rfl) ?_
  refine E_box (ty := 58) (cs := [.int .i64 b.From, .int .i64 b.To, .int .i64 b.Delay, .int .i64 b.Tokens]) H1 (fun w => by kernel_rfl) (fun b2 h2 H2 => ?_)
  refine Run_b [.bool false] 2 _ (by kernel_rfl) (fun w => by kernel_rfl) ?_
  refine Run_nil (by kernel_rfl) ?_
  refine Run_keep [2, 3] (L' := [(2, .pointer (some ⟨b1, 0, none⟩)), (3, .pointer (some ⟨b2, 0, none⟩))]) (by kernel_rfl) ?_
  refine Run_seq ?_
  refine Run_seq ?_
  refine Run_reg 5 (by kernel_rfl) (L' := [(2, .pointer (some ⟨b1, 0, none⟩)), (3, .pointer (some ⟨b2, 0, none⟩)), (9, .bool (a_.From != b.From))]) ?_ ?_
  · refine QRun_b [.pointer (some ⟨b1, 0, none⟩)] 0 _ (by kernel_rfl) (fun w => by kernel_rfl) ?_
    refine QRun_y (.int .i64 a_.From) (by kernel_rfl) (Y_load1 (t := 2) (p := ⟨b1, 0, none⟩) (v := .int .i64 a_.From) (by kernel_rfl) (fun w => by kernel_rfl) (H2.cell 1 rfl rfl)) ?_
    refine QRun_b [.pointer (some ⟨b2, 0, none⟩)] 2 _ (by kernel_rfl) (fun w => by kernel_rfl) ?_
    refine QRun_y (.int .i64 b.From) (by kernel_rfl) (Y_load1 (t := 2) (p := ⟨b2, 0, none⟩) (v := .int .i64 b.From) (by kernel_rfl) (fun w => by kernel_rfl) (H2.cell 0 rfl rfl)) ?_
    refine QRun_b [.bool (a_.From != b.From)] 4 _ (by kernel_rfl) (fun w => by kernel_rfl) ?_
    exact QRun_done [2, 3, 9] (by kernel_rfl) (by kernel_rfl)
  refine Run_cond (b := a_.From != b.From) (by kernel_rfl) (fun hb1 => ?_) (fun hb1 => ?_)
  · have hF := (M.ite_some hF).1 hb1
    refine Run_seq ?_
    refine Run_reg 1 (by kernel_rfl) (L' := [(4, .bool false)]) ?_ ?_
    · refine QRun_b [.bool false] 0 _ (by kernel_rfl) (fun w => by kernel_rfl) ?_
      exact QRun_done [4] (by kernel_rfl) (by kernel_rfl)
    have hF := M.ret_some hF
    subst hF
    have H3 : Hold h h2 [] := H2.pick [] (by kernel_rfl)
    exact Run_ret1 rfl (ResV_tmp (v := .bool false) (by kernel_rfl)) ⟨rfl, H3⟩
  · have hF := (M.ite_some hF).2 hb1
    refine Run_skip ?_
    refine Run_seq ?_
    refine Run_seq ?_
    refine Run_reg 5 (by kernel_rfl) (L' := [(2, .pointer (some ⟨b1, 0, none⟩)), (3, .pointer (some ⟨b2, 0, none⟩)), (14, .bool (a_.To != b.To))]) ?_ ?_
    · refine QRun_b [.pointer (some ⟨b1, 1, none⟩)] 0 _ (by kernel_rfl) (fun w => by kernel_rfl) ?_
      refine QRun_y (.int .i64 a_.To) (by kernel_rfl) (Y_load1 (t := 2) (p := ⟨b1, 1, none⟩) (v := .int .i64 a_.To) (by kernel_rfl) (fun w => by kernel_rfl) (H2.cell 1 rfl rfl)) ?_
      refine QRun_b [.pointer (some ⟨b2, 1, none⟩)] 2 _ (by kernel_rfl) (fun w => by kernel_rfl) ?_
      refine QRun_y (.int .i64 b.To) (by kernel_rfl) (Y_load1 (t := 2) (p := ⟨b2, 1, none⟩) (v := .int .i64 b.To) (by kernel_rfl) (fun w => by kernel_rfl) (H2.cell 0 rfl rfl)) ?_
      refine QRun_b [.bool (a_.To != b.To)] 4 _ (by kernel_rfl) (fun w => by kernel_rfl) ?_
      exact QRun_done [2, 3, 14] (by kernel_rfl) (by kernel_rfl)
    refine Run_cond (b := a_.To != b.To) (by kernel_rfl) (fun hb2 => ?_) (fun hb2 => ?_)
    · have hF := (M.ite_some hF).1 hb2
      refine Run_seq ?_
      refine Run_reg 1 (by kernel_rfl) (L' := [(4, .bool false)]) ?_ ?_
      · refine QRun_b [.bool false] 0 _ (by kernel_rfl) (fun w => by kernel_rfl) ?_
        exact QRun_done [4] (by kernel_rfl) (by kernel_rfl)
      have hF := M.ret_some hF
      subst hF
      have H4 : Hold h h2 [] := H2.pick [] (by kernel_rfl)
      exact Run_ret1 rfl (ResV_tmp (v := .bool false) (by kernel_rfl)) ⟨rfl, H4⟩
    · have hF := (M.ite_some hF).2 hb2
      refine Run_skip ?_
      refine Run_seq ?_
      refine Run_seq ?_
      refine Run_reg 5 (by kernel_rfl) (L' := [(2, .pointer (some ⟨b1, 0, none⟩)), (3, .pointer (some ⟨b2, 0, none⟩)), (19, .bool (a_.Delay != b.Delay))]) ?_ ?_
      · refine QRun_b [.pointer (some ⟨b1, 2, none⟩)] 0 _ (by kernel_rfl) (fun w => by kernel_rfl) ?_
        refine QRun_y (.int .i64 a_.Delay) (by kernel_rfl) (Y_load1 (t := 2) (p := ⟨b1, 2, none⟩) (v := .int .i64 a_.Delay) (by kernel_rfl) (fun w => by kernel_rfl) (H2.cell 1 rfl rfl)) ?_
        refine QRun_b [.pointer (some ⟨b2, 2, none⟩)] 2 _ (by kernel_rfl) (fun w => by kernel_rfl) ?_
        refine QRun_y (.int .i64 b.Delay) (by kernel_rfl) (Y_load1 (t := 2) (p := ⟨b2, 2, none⟩) (v := .int .i64 b.Delay) (by kernel_rfl) (fun w => by kernel_rfl) (H2.cell 0 rfl rfl)) ?_
        refine QRun_b [.bool (a_.Delay != b.Delay)] 4 _ (by kernel_rfl) (fun w => by kernel_rfl) ?_
        exact QRun_done [2, 3, 19] (by kernel_rfl) (by kernel_rfl)
      refine Run_cond (b := a_.Delay != b.Delay) (by kernel_rfl) (fun hb3 => ?_) (fun hb3 => ?_)
      · have hF := (M.ite_some hF).1 hb3
        refine Run_seq ?_
        refine Run_reg 1 (by kernel_rfl) (L' := [(4, .bool false)]) ?_ ?_
        · refine QRun_b [.bool false] 0 _ (by kernel_rfl) (fun w => by kernel_rfl) ?_
          exact QRun_done [4] (by kernel_rfl) (by kernel_rfl)
        have hF := M.ret_some hF
        subst hF
        have H5 : Hold h h2 [] := H2.pick [] (by kernel_rfl)
        exact Run_ret1 rfl (ResV_tmp (v := .bool false) (by kernel_rfl)) ⟨rfl, H5⟩
      · have hF := (M.ite_some hF).2 hb3
        refine Run_skip ?_
        refine Run_seq ?_
        refine Run_seq ?_
        refine Run_reg 5 (by kernel_rfl) (L' := [(24, .bool (a_.Tokens != b.Tokens))]) ?_ ?_
        · refine QRun_b [.pointer (some ⟨b1, 3, none⟩)] 0 _ (by kernel_rfl) (fun w => by kernel_rfl) ?_
          refine QRun_y (.int .i64 a_.Tokens) (by kernel_rfl) (Y_load1 (t := 2) (p := ⟨b1, 3, none⟩) (v := .int .i64 a_.Tokens) (by kernel_rfl) (fun w => by kernel_rfl) (H2.cell 1 rfl rfl)) ?_
          refine QRun_b [.pointer (some ⟨b2, 3, none⟩)] 2 _ (by kernel_rfl) (fun w => by kernel_rfl) ?_
          refine QRun_y (.int .i64 b.Tokens) (by kernel_rfl) (Y_load1 (t := 2) (p := ⟨b2, 3, none⟩) (v := .int .i64 b.Tokens) (by kernel_rfl) (fun w => by kernel_rfl) (H2.cell 0 rfl rfl)) ?_
          refine QRun_b [.bool (a_.Tokens != b.Tokens)] 4 _ (by kernel_rfl) (fun w => by kernel_rfl) ?_
          exact QRun_done [24] (by kernel_rfl) (by kernel_rfl)
        refine Run_cond (b := a_.Tokens != b.Tokens) (by kernel_rfl) (fun hb4 => ?_) (fun hb4 => ?_)
        · have hF := (M.ite_some hF).1 hb4
          refine Run_seq ?_
          refine Run_reg 1 (by kernel_rfl) (L' := [(4, .bool false)]) ?_ ?_
          · refine QRun_b [.bool false] 0 _ (by kernel_rfl) (fun w => by kernel_rfl) ?_
            exact QRun_done [4] (by kernel_rfl) (by kernel_rfl)
          have hF := M.ret_some hF
          subst hF
          have H6 : Hold h h2 [] := H2.pick [] (by kernel_rfl)
          exact Run_ret1 rfl (ResV_tmp (v := .bool false) (by kernel_rfl)) ⟨rfl, H6⟩
        · have hF := (M.ite_some hF).2 hb4
          refine Run_skip ?_
          refine Run_seq ?_
          refine Run_reg 1 (by kernel_rfl) (L' := [(4, .bool true)]) ?_ ?_
          · refine QRun_b [.bool true] 0 _ (by kernel_rfl) (fun w => by kernel_rfl) ?_
            exact QRun_done [4] (by kernel_rfl) (by kernel_rfl)
          have hF := M.ret_some hF
          subst hF
          have H7 : Hold h h2 [] := H2.pick [] (by kernel_rfl)
          exact Run_ret1 rfl (ResV_tmp (v := .bool true) (by kernel_rfl)) ⟨rfl, H7⟩

set_option maxRecDepth 100000 in
set_option maxHeartbeats 4000000 in
theorem w_laws_eqPlaceS (h : Heap) (a_ : List TPlace) (aa_ : Option Addr) (ca_ : Nat) (ra_ : Rd cd58 h (Lt h) aa_ ca_ a_) (b : List TPlace) (ab : Option Addr) (cb : Nat) (rb : Rd cd58 h (Lt h) ab cb b) (n : Nat) (r : Bool) (hF : laws_eqPlaceS a_ b n = some r) :
    Fn Try.prog 77 #[.slice aa_ a_.length ca_, .slice ab b.length cb] h fun v h' => v = .bool r ∧ Hold h h' [] := by
  unfold laws_eqPlaceS at hF
  refine Fn_enter (args := [.slice aa_ a_.length ca_, .slice ab b.length cb]) Try.func77 rfl (by kernel_rfl) (by kernel_rfl) (fun w0 _ => ?_)
  have H0 := Hold.init h
  refine Run_seq ?_
  refine Run_reg 1 (by kernel_rfl) (L' := [(0, .slice aa_ a_.length ca_), (1, .slice ab b.length cb)]) ?_ ?_
  · refine QRun_b [.bool false] 0 _ (by kernel_rfl) (fun w => by kernel_rfl) ?_
    exact QRun_done [0, 1] (by kernel_rfl) (by kernel_rfl)
  refine Run_seq ?_
  refine Run_seq ?_
  refine Run_reg 5 (by kernel_rfl) (L' := [(0, .slice aa_ a_.length ca_), (1, .slice ab b.length cb), (10, .bool ((a_.length : Int) != (b.length : Int)))]) ?_ ?_
  · refine QRun_b [.slice aa_ a_.length ca_, .int .i64 (a_.length : Int), .slice ab b.length cb, .int .i64 (b.length : Int), .bool ((a_.length : Int) != (b.length : Int))] 0 _ (by kernel_rfl) (fun w => by kernel_rfl) ?_
    exact QRun_done [0, 1, 10] (by kernel_rfl) (by kernel_rfl)
  refine Run_cond (b := (a_.length : Int) != (b.length : Int)) (by kernel_rfl) (fun hb1 => ?_) (fun hb1 => ?_)
  · have hF := (M.ite_some hF).1 hb1
    refine Run_seq ?_
    refine Run_reg 1 (by kernel_rfl) (L' := [(4, .bool false)]) ?_ ?_
    · refine QRun_b [.bool false] 0 _ (by kernel_rfl) (fun w => by kernel_rfl) ?_
      exact QRun_done [4] (by kernel_rfl) (by kernel_rfl)
    have hF := M.ret_some hF
    subst hF
    exact Run_ret1 rfl (ResV_tmp (v := .bool false) (by kernel_rfl)) ⟨rfl, H0⟩
  · have hF := (M.ite_some hF).2 hb1
    refine Run_skip ?_
    refine Run_seq ?_
    refine Run_seq ?_
    refine Run_reg 1 (by kernel_rfl) (L' := [(0, .slice aa_ a_.length ca_), (1, .slice ab b.length cb), (5, .int .i64 0)]) ?_ ?_
    · refine QRun_b [.int .i64 0] 0 _ (by kernel_rfl) (fun w => by kernel_rfl) ?_
      exact QRun_done [0, 1, 5] (by kernel_rfl) (by kernel_rfl)
    obtain ⟨x1, gx1, hF⟩ := M.bind_some hF
    obtain ⟨hloy1, hhiy1, gx1⟩ := M.for_start gx1
    refine Run_join (fun L' h' => ∃ (s2 : Unit), x1 = .inl s2 ∧ L' = [] ∧ Hold h h' []) ?_ ?_
    · rintro _ h2 ⟨s2, es2, rfl, H2⟩
      have hF := M.cont_inl' hF es2
      refine Run_seq ?_
      refine Run_reg 1 (by kernel_rfl) (L' := [(4, .bool true)]) ?_ ?_
      · refine QRun_b [.bool true] 0 _ (by kernel_rfl) (fun w => by kernel_rfl) ?_
        exact QRun_done [4] (by kernel_rfl) (by kernel_rfl)
      have hF := M.ret_some hF
      subst hF
      exact Run_ret1 rfl (ResV_tmp (v := .bool true) (by kernel_rfl)) ⟨rfl, H2⟩
    · refine Run_block ?_
      refine Run_keep [0, 1, 5] (L' := [(0, .slice aa_ a_.length ca_), (1, .slice ab b.length cb), (5, .int .i64 0)]) (by kernel_rfl) ?_
      refine Run_loop (fun m L' h' => ∃ (i1 : Int) (s1 : Unit), 0 ≤ i1 ∧ M.forN (a_.length : Int) _ _ n m i1 s1 = some x1 ∧ L' = [(0, .slice aa_ a_.length ca_), (1, .slice ab b.length cb), (5, .int .i64 i1)] ∧ Hold h h' []) ((a_.length : Int) - 0 : Int).toNat ⟨0, (), Int.le_refl _, gx1, rfl, H0⟩ ?_
      rintro my1 _ h1 ⟨i1, s1, hloy1', gx1, rfl, H1⟩
      refine Run_seq ?_
      refine Run_seq ?_
      refine Run_reg 4 (by kernel_rfl) (L' := [(0, .slice aa_ a_.length ca_), (1, .slice ab b.length cb), (5, .int .i64 i1), (14, .bool (decide (i1 < (a_.length : Int))))]) ?_ ?_
      · refine QRun_b [.int .i64 i1, .slice aa_ a_.length ca_, .int .i64 (a_.length : Int), .bool (decide (i1 < (a_.length : Int)))] 0 _ (by kernel_rfl) (fun w => by kernel_rfl) ?_
        exact QRun_done [0, 1, 5, 14] (by kernel_rfl) (by kernel_rfl)
      refine Run_cond (b := decide (i1 < (a_.length : Int))) (by kernel_rfl) (fun hb2 => ?_) (fun hb2 => ?_)
      · obtain ⟨my1, y1, rfl, hB1, hgoy1, houty1⟩ := M.for_go gx1 hb2
        have hlty1 := of_decide_eq_true hb2
        refine Run_skip ?_
        refine Run_seq ?_
        refine Run_block ?_
        refine Run_seq ?_
        obtain ⟨x2, hx1, hB1⟩ := M.bind_some hB1
        obtain ⟨hx1l, hx1u, hx1⟩ := M.idx_some hx1
        obtain ⟨x3, hx2, hB1⟩ := M.bind_some hB1
        obtain ⟨hx2l, hx2u, hx2⟩ := M.idx_some hx2
        obtain ⟨x4, hx3, hB1⟩ := M.bind_some hB1
        refine Run_drawC (j := 10) (C := fun x => Hold h x []) mixed (by kernel_rfl) (by kernel_rfl) H1 (L' := [(0, .slice aa_ a_.length ca_), (1, .slice ab b.length cb), (5, .int .i64 i1), (26, .bool (!x4))]) ?_ (fun h3 H3 => ?_)
        · refine QRun_b [.slice aa_ a_.length ca_, .int .i64 i1] 0 _ (by kernel_rfl) (fun w => by kernel_rfl) ?_
          refine QRun_y (.pointer (some (adr aa_ (i1.toNat * 4)))) (by kernel_rfl) (Y_cls fun hx Hx => (Y_idx (t := 28) (e := 58) (sz := 4) (a := aa_) (n := a_.length) (cap := ca_) (kk := .i64) (i := i1) (by kernel_rfl) Try.underlying28 (by kernel_rfl) ((ra_.at H1.ext).cell hx1).1 hx1l hx1u)) ?_
          refine QRun_y (.agg #[.int .i64 x2.From, .int .i64 x2.To, .int .i64 x2.Delay, .int .i64 x2.Tokens]) (by kernel_rfl) (Y_cls fun hx Hx => (Y_loadA (t := 58) (n := 4) (p := adr aa_ (i1.toNat * 4)) (cs := [.int .i64 x2.From, .int .i64 x2.To, .int .i64 x2.Delay, .int .i64 x2.Tokens]) (by kernel_rfl) (fun w => by kernel_rfl) (by kernel_rfl) rfl (cd58_elem (ra_.at Hx.ext) hx1))) ?_
          refine QRun_b [.slice ab b.length cb, .int .i64 i1] 4 _ (by kernel_rfl) (fun w => by kernel_rfl) ?_
          refine QRun_y (.pointer (some (adr ab (i1.toNat * 4)))) (by kernel_rfl) (Y_cls fun hx Hx => (Y_idx (t := 28) (e := 58) (sz := 4) (a := ab) (n := b.length) (cap := cb) (kk := .i64) (i := i1) (by kernel_rfl) Try.underlying28 (by kernel_rfl) ((rb.at H1.ext).cell hx2).1 hx2l hx2u)) ?_
          refine QRun_y (.agg #[.int .i64 x3.From, .int .i64 x3.To, .int .i64 x3.Delay, .int .i64 x3.Tokens]) (by kernel_rfl) (Y_cls fun hx Hx => (Y_loadA (t := 58) (n := 4) (p := adr ab (i1.toNat * 4)) (cs := [.int .i64 x3.From, .int .i64 x3.To, .int .i64 x3.Delay, .int .i64 x3.Tokens]) (by kernel_rfl) (fun w => by kernel_rfl) (by kernel_rfl) rfl (cd58_elem (rb.at Hx.ext) hx2))) ?_
          refine QRun_y (.bool x4) (by kernel_rfl) (Y_call (f := 147) (args := #[.agg #[.int .i64 x2.From, .int .i64 x2.To, .int .i64 x2.Delay, .int .i64 x2.Tokens], .agg #[.int .i64 x3.From, .int .i64 x3.To, .int .i64 x3.Delay, .int .i64 x3.Tokens]]) (v := .bool x4) (by kernel_rfl) fun hx Hx => (w_laws_eqPlace hx x2 x3 _ _ hx3).mono fun _ _ ⟨e, H'⟩ => ⟨e, Hx.call H' rfl⟩) ?_
          refine QRun_b [.bool (!x4)] 9 _ (by kernel_rfl) (fun w => by kernel_rfl) ?_
          exact QRun_done [0, 1, 5, 26] (by kernel_rfl) (by kernel_rfl)
        have H4 : Hold h h3 [] := H3
        refine Run_cond (b := !x4) (by kernel_rfl) (fun hb3 => ?_) (fun hb3 => ?_)
        · have hB1 := (M.ite_some hB1).1 hb3
          refine Run_seq ?_
          refine Run_reg 1 (by kernel_rfl) (L' := [(4, .bool false)]) ?_ ?_
          · refine QRun_b [.bool false] 0 _ (by kernel_rfl) (fun w => by kernel_rfl) ?_
            exact QRun_done [4] (by kernel_rfl) (by kernel_rfl)
          have hB1 := M.ret_some hB1
          have gx1 := houty1 _ hB1.symm
          have hF := M.cont_inr' hF gx1
          have hF := M.ret_some hF
          subst hF
          exact Run_ret1 rfl (ResV_tmp (v := .bool false) (by kernel_rfl)) ⟨rfl, H4⟩
        · have hB1 := (M.ite_some hB1).2 hb3
          refine Run_skip ?_
          refine Run_blk ?_
          refine Run_reg 3 (by kernel_rfl) (L' := [(0, .slice aa_ a_.length ca_), (1, .slice ab b.length cb), (5, .int .i64 (i1 + 1))]) ?_ ?_
          · refine QRun_b [.int .i64 i1] 0 _ (by kernel_rfl) (fun w => by kernel_rfl) ?_
            refine QRun_y (.int .i64 (i1 + 1)) (by kernel_rfl) (Y_eq (v := .int .i64 (w64 (i1 + 1))) (Y_pure (fun w => by kernel_rfl)) (by rw [w64_eq _ (by omega)])) ?_
            refine QRun_b [.int .i64 (i1 + 1)] 2 _ (by kernel_rfl) (fun w => by kernel_rfl) ?_
            exact QRun_done [0, 1, 5] (by kernel_rfl) (by kernel_rfl)
          have hB1 := M.ret_some hB1
          have gx1 := hgoy1 _ hB1.symm
          exact Run_again [0, 1, 5] (by kernel_rfl) my1 (Nat.lt_succ_self _) ⟨i1 + 1, (), by omega, gx1, rfl, H4⟩
      · have gx1 := M.for_end gx1 hb2
        subst gx1
        refine Run_exit (k' := _) rfl ?_
        exact Run_fall [] (by kernel_rfl) ⟨(), rfl, rfl, H1⟩

end Go.Proofs.Ytipdgiljgbjjkaa
