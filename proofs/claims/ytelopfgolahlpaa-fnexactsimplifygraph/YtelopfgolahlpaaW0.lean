/-
  Walks: each Go function, called with what reads as plain data, returns what its plain program computes.
  Conditions: None beyond the given statement.
-/
import Derived.Test.YtelopfgolahlpaaRows
import Derived.Test.YtelopfgolahlpaaP
import Derived.Test.YtelopfgolahlpaaShort
import Derived.Test.YtelopfgolahlpaaSortF
import Derived.Test.YtelopfgolahlpaaLay
namespace Go.Proofs.Ytelopfgolahlpaa
open Go
attribute [local irreducible] setL setB opA fineI idleI fineB evB okB markB markBs readyB readyBs chainB lk rho pickL dropSlot tailOK
theorem mixed : Try.prog.follows .mixedOrders = true := by kernel_rfl
def cd110 : Cd (TPlace) := flatCd 110 4 (by decide) (fun x => [.int .i64 x.From, .int .i64 x.To, .int .i64 x.Delay, .int .i64 x.Tokens]) (fun _ => rfl) (fun _ => rfl)
theorem cd110_own (x : TPlace) : ∀ h, cd110.own h x [.int .i64 x.From, .int .i64 x.To, .int .i64 x.Delay, .int .i64 x.Tokens] [] := fun _ => ⟨rfl, rfl⟩
theorem cd110_flat : Flat cd110 := fun _ _ _ _ o => o.2
theorem cd110_copies : Copies cd110 := fun _ _ _ _ o => ⟨o, rfl⟩
theorem cd110_zero : ∀ h, cd110.own h (⟨0, 0, 0, 0⟩ : TPlace) [.int .i64 0, .int .i64 0, .int .i64 0, .int .i64 0] [] := fun _ => ⟨rfl, rfl⟩
theorem cd110_ti : TI Try.prog 110 (.agg #[.int .i64 0, .int .i64 0, .int .i64 0, .int .i64 0]) 4 32 := by unfold TI; kernel_rfl
theorem cd110_elem {h : Heap} {B : Bs} {a : Option Addr} {c : Nat} {l : List (TPlace)} {j : Nat} {x : TPlace} (r : Rd cd110 h B a c l) (hx : l[j]? = some x) : ∀ i v, ([.int .i64 x.From, .int .i64 x.To, .int .i64 x.Delay, .int .i64 x.Tokens] : List Value)[i]? = some v → cellH h ((adr a (j * 4)).add i) = some v := r.elem hx (fun _ o => o)
theorem cd110_f0 {h : Heap} {B : Bs} {a : Option Addr} {c : Nat} {l : List (TPlace)} {j : Nat} {x : TPlace} (r : Rd cd110 h B a c l) (hx : l[j]? = some x) : cellH h ((adr a (j * 4)).add 0) = some (.int .i64 x.From) := r.field hx (fun vs o => by rw [show vs = _ from o]; rfl)
theorem cd110_f1 {h : Heap} {B : Bs} {a : Option Addr} {c : Nat} {l : List (TPlace)} {j : Nat} {x : TPlace} (r : Rd cd110 h B a c l) (hx : l[j]? = some x) : cellH h ((adr a (j * 4)).add 1) = some (.int .i64 x.To) := r.field hx (fun vs o => by rw [show vs = _ from o]; rfl)
theorem cd110_f2 {h : Heap} {B : Bs} {a : Option Addr} {c : Nat} {l : List (TPlace)} {j : Nat} {x : TPlace} (r : Rd cd110 h B a c l) (hx : l[j]? = some x) : cellH h ((adr a (j * 4)).add 2) = some (.int .i64 x.Delay) := r.field hx (fun vs o => by rw [show vs = _ from o]; rfl)
theorem cd110_f3 {h : Heap} {B : Bs} {a : Option Addr} {c : Nat} {l : List (TPlace)} {j : Nat} {x : TPlace} (r : Rd cd110 h B a c l) (hx : l[j]? = some x) : cellH h ((adr a (j * 4)).add 3) = some (.int .i64 x.Tokens) := r.field hx (fun vs o => by rw [show vs = _ from o]; rfl)
def cd60 : Cd (TPlace) := flatCd 60 4 (by decide) (fun x => [.int .i64 x.From, .int .i64 x.To, .int .i64 x.Delay, .int .i64 x.Tokens]) (fun _ => rfl) (fun _ => rfl)
theorem cd60_own (x : TPlace) : ∀ h, cd60.own h x [.int .i64 x.From, .int .i64 x.To, .int .i64 x.Delay, .int .i64 x.Tokens] [] := fun _ => ⟨rfl, rfl⟩
theorem cd60_flat : Flat cd60 := fun _ _ _ _ o => o.2
theorem cd60_copies : Copies cd60 := fun _ _ _ _ o => ⟨o, rfl⟩
theorem cd60_zero : ∀ h, cd60.own h (⟨0, 0, 0, 0⟩ : TPlace) [.int .i64 0, .int .i64 0, .int .i64 0, .int .i64 0] [] := fun _ => ⟨rfl, rfl⟩
theorem cd60_ti : TI Try.prog 60 (.agg #[.int .i64 0, .int .i64 0, .int .i64 0, .int .i64 0]) 4 32 := by unfold TI; kernel_rfl
theorem cd60_elem {h : Heap} {B : Bs} {a : Option Addr} {c : Nat} {l : List (TPlace)} {j : Nat} {x : TPlace} (r : Rd cd60 h B a c l) (hx : l[j]? = some x) : ∀ i v, ([.int .i64 x.From, .int .i64 x.To, .int .i64 x.Delay, .int .i64 x.Tokens] : List Value)[i]? = some v → cellH h ((adr a (j * 4)).add i) = some v := r.elem hx (fun _ o => o)
theorem cd60_f0 {h : Heap} {B : Bs} {a : Option Addr} {c : Nat} {l : List (TPlace)} {j : Nat} {x : TPlace} (r : Rd cd60 h B a c l) (hx : l[j]? = some x) : cellH h ((adr a (j * 4)).add 0) = some (.int .i64 x.From) := r.field hx (fun vs o => by rw [show vs = _ from o]; rfl)
theorem cd60_f1 {h : Heap} {B : Bs} {a : Option Addr} {c : Nat} {l : List (TPlace)} {j : Nat} {x : TPlace} (r : Rd cd60 h B a c l) (hx : l[j]? = some x) : cellH h ((adr a (j * 4)).add 1) = some (.int .i64 x.To) := r.field hx (fun vs o => by rw [show vs = _ from o]; rfl)
theorem cd60_f2 {h : Heap} {B : Bs} {a : Option Addr} {c : Nat} {l : List (TPlace)} {j : Nat} {x : TPlace} (r : Rd cd60 h B a c l) (hx : l[j]? = some x) : cellH h ((adr a (j * 4)).add 2) = some (.int .i64 x.Delay) := r.field hx (fun vs o => by rw [show vs = _ from o]; rfl)
theorem cd60_f3 {h : Heap} {B : Bs} {a : Option Addr} {c : Nat} {l : List (TPlace)} {j : Nat} {x : TPlace} (r : Rd cd60 h B a c l) (hx : l[j]? = some x) : cellH h ((adr a (j * 4)).add 3) = some (.int .i64 x.Tokens) := r.field hx (fun vs o => by rw [show vs = _ from o]; rfl)
def cd2 : Cd (Int) := flatCd 2 1 (by decide) (fun x => [.int .i64 x]) (fun _ => rfl) (fun _ => rfl)
theorem cd2_own (x : Int) : ∀ h, cd2.own h x [.int .i64 x] [] := fun _ => ⟨rfl, rfl⟩
theorem cd2_flat : Flat cd2 := fun _ _ _ _ o => o.2
theorem cd2_copies : Copies cd2 := fun _ _ _ _ o => ⟨o, rfl⟩
theorem cd2_zero : ∀ h, cd2.own h 0 [.int .i64 0] [] := fun _ => ⟨rfl, rfl⟩
theorem cd2_ti : TI Try.prog 2 (.int .i64 0) 1 8 := by unfold TI; kernel_rfl
theorem cd2_cell {h : Heap} {B : Bs} {a : Option Addr} {c : Nat} {l : List (Int)} {j : Nat} {x : Int} (r : Rd cd2 h B a c l) (hx : l[j]? = some x) : cellH h (adr a (j * 1)) = some (.int .i64 x) := r.cell1 hx (fun vs o => by rw [show vs = _ from o]; rfl)
def cd3 : Cd (Int) := flatCd 3 1 (by decide) (fun x => [.int .i64 x]) (fun _ => rfl) (fun _ => rfl)
theorem cd3_own (x : Int) : ∀ h, cd3.own h x [.int .i64 x] [] := fun _ => ⟨rfl, rfl⟩
theorem cd3_flat : Flat cd3 := fun _ _ _ _ o => o.2
theorem cd3_copies : Copies cd3 := fun _ _ _ _ o => ⟨o, rfl⟩
theorem cd3_zero : ∀ h, cd3.own h 0 [.int .i64 0] [] := fun _ => ⟨rfl, rfl⟩
theorem cd3_ti : TI Try.prog 3 (.int .i64 0) 1 8 := by unfold TI; kernel_rfl
theorem cd3_cell {h : Heap} {B : Bs} {a : Option Addr} {c : Nat} {l : List (Int)} {j : Nat} {x : Int} (r : Rd cd3 h B a c l) (hx : l[j]? = some x) : cellH h (adr a (j * 1)) = some (.int .i64 x) := r.cell1 hx (fun vs o => by rw [show vs = _ from o]; rfl)
set_option maxRecDepth 100000
set_option maxHeartbeats 4000000
theorem w_laws_szPlaceS (h : Heap) (a_ : List TPlace) {Sa_ : Bs} (aa_ : Option Addr) (ca_ : Nat) (ra_ : Rd cd110 h Sa_ aa_ ca_ a_) (left : Int) (n : Nat) (r : Int) (hF : laws_szPlaceS a_ left n = some r) :
  Fn Try.prog 28 #[.slice aa_ a_.length ca_, iV left] h fun v h' => v = iV r ∧ h' = h := by
 unfold laws_szPlaceS at hF
 refine Zo [.slice aa_ a_.length ca_, iV left] Try.func28 rfl (fun w0 _ => ?_)
 refine Zs ?_
 refine Zq [iV 0] [0, 1] [(0, .slice aa_ a_.length ca_), (1, iV left)] ?_
 refine Zs ?_
 refine Zq [iV left, .slice aa_ a_.length ca_, iV (a_.length : Int), iV (w64 (left - (a_.length : Int))), iV (w64 (left - (a_.length : Int)))] [1] [(1, iV (w64 (left - (a_.length : Int))))] ?_
 refine Zs ?_
 refine Zs ?_
 refine Zq [iV (w64 (left - (a_.length : Int))), .bool (decide ((w64 (left - (a_.length : Int))) < 0))] [1, 10] [(1, iV (w64 (left - (a_.length : Int)))), (10, .bool (decide ((w64 (left - (a_.length : Int))) < 0)))] ?_
 refine Zc (decide ((w64 (left - (a_.length : Int))) < 0)) (fun hb1 => ?_) (fun hb1 => ?_)
 ·have hF := (M.ite_some hF).1 hb1
  refine Zs ?_
  refine Zq [iV (-1)] [4] [(4, iV (-1))] ?_
  have hF := M.ret_some hF
  subst hF
  exact Run_ret1 rfl (Zt (iV (-1))) ⟨rfl, rfl⟩
 ·have hF := (M.ite_some hF).2 hb1
  refine Run_skip ?_
  refine Zs ?_
  refine Zq [iV (w64 (left - (a_.length : Int))), iV (w64 (left - (a_.length : Int)))] [4] [(4, iV (w64 (left - (a_.length : Int))))] ?_
  have hF := M.ret_some hF
  subst hF
  exact Run_ret1 rfl (Zt (iV (w64 (left - (a_.length : Int))))) ⟨rfl, rfl⟩

theorem w_laws_szEventGraph (h : Heap) (a_ : TGraph) (aa_Places : Option Addr) (ca_Places : Nat) (ra_Places : Rd cd110 h (Lt h) aa_Places ca_Places a_.Places) (left : Int) (n : Nat) (r : Int) (hF : laws_szEventGraph a_ left n = some r) :
  Fn Try.prog 6 #[.agg #[iV a_.Events, .slice aa_Places a_.Places.length ca_Places], iV left] h fun v h' => v = iV r ∧ Hold h h' [] := by
 unfold laws_szEventGraph at hF
 refine Zo [.agg #[iV a_.Events, .slice aa_Places a_.Places.length ca_Places], iV left] Try.func6 rfl (fun w0 _ => ?_)
 have H0 := Hold.init h
 refine Zs ?_
 refine Run_ops ?_
 refine Ze ?_
 refine E_box (ty := 24) (cs := [iV a_.Events, .slice aa_Places a_.Places.length ca_Places]) H0 (fun w => by kernel_rfl) (fun b1 h1 H1 => ?_)
 refine Zr [iV 0] 1 ?_
 refine Zx ?_
 refine Zk [1, 2] [(1, iV left), (2, pV b1)] ?_
 refine Zs ?_
 obtain ⟨x1, hx1, hF⟩ := M.bind_some hF
 refine Zg 5 [(1, iV x1)] ?_ ?_
 ·refine Zb [.pointer (some ⟨b1, 1, none⟩)] 0 ?_
  refine Zy (.slice aa_Places a_.Places.length ca_Places) (Zl 22 (⟨b1, 1, none⟩) (.slice aa_Places a_.Places.length ca_Places) (H1.cell 0 rfl rfl)) ?_
  refine Zb [iV left] 2 ?_
  refine Zy (iV x1) (ZQ 28 #[.slice aa_Places a_.Places.length ca_Places, iV left] (w_laws_szPlaceS h1 a_.Places aa_Places ca_Places (ra_Places.at H1.ext) left _ _ hx1)) ?_
  refine Zb [iV x1] 4 ?_
  exact Zd [1]
 refine Zs ?_
 refine Zs ?_
 refine Zq [iV x1, .bool (decide (x1 < 0))] [1, 10] [(1, iV x1), (10, .bool (decide (x1 < 0)))] ?_
 refine Zc (decide (x1 < 0)) (fun hb1 => ?_) (fun hb1 => ?_)
 ·have hF := (M.ite_some hF).1 hb1
  refine Zs ?_
  refine Zq [iV (-1)] [4] [(4, iV (-1))] ?_
  have hF := M.ret_some hF
  subst hF
  have H2 : Hold h h1 [] := H1.pk []
  exact Run_ret1 rfl (Zt (iV (-1))) ⟨rfl, H2⟩
 ·have hF := (M.ite_some hF).2 hb1
  refine Run_skip ?_
  refine Zs ?_
  refine Zq [iV x1, iV x1] [4] [(4, iV x1)] ?_
  have hF := M.ret_some hF
  subst hF
  have H3 : Hold h h1 [] := H1.pk []
  exact Run_ret1 rfl (Zt (iV x1)) ⟨rfl, H3⟩

theorem w_laws_toPlace (h : Heap) (a_ : TPlace) (n : Nat) (r : TPlace) (hF : laws_toPlace a_ n = some r) :
  Fn Try.prog 77 #[.agg #[iV a_.From, iV a_.To, iV a_.Delay, iV a_.Tokens]] h fun v h' => v = .agg #[iV r.From, iV r.To, iV r.Delay, iV r.Tokens] ∧ Hold h h' [] := by
 unfold laws_toPlace at hF
 refine Zo [.agg #[iV a_.From, iV a_.To, iV a_.Delay, iV a_.Tokens]] Try.func77 rfl (fun w0 _ => ?_)
 have H0 := Hold.init h
 refine Zs ?_
 refine Run_ops ?_
 refine Ze ?_
 refine E_box (ty := 110) (cs := [iV a_.From, iV a_.To, iV a_.Delay, iV a_.Tokens]) H0 (fun w => by kernel_rfl) (fun b1 h1 H1 => ?_)
 refine Ze ?_
 refine E_box (ty := 60) (cs := [iV 0, iV 0, iV 0, iV 0]) H1 (fun w => by kernel_rfl) (fun b2 h2 H2 => ?_)
 refine Zx ?_
 refine Zk [1, 2] [(1, pV b1), (2, pV b2)] ?_
 refine Zs ?_
 refine Run_ops ?_
 refine Ze ?_
 refine E_box (ty := 60) (cs := [iV 0, iV 0, iV 0, iV 0]) H2 (fun w => by kernel_rfl) (fun b3 h3 H3 => ?_)
 refine Zx ?_
 refine Zk [1, 2, 3] [(1, pV b1), (2, pV b2), (3, pV b3)] ?_
 refine Zs ?_
 refine Run_ops ?_
 refine Zr [pV b1] 0 ?_
 refine Zz (iV a_.From) (Zl 2 (⟨b1, 0, none⟩) (iV a_.From) (H3.cell 2 rfl rfl)) ?_
 refine Zr [pV b3] 2 ?_
 refine Ze ?_
 refine ZP 2 0 [iV a_.From, iV 0, iV 0, iV 0] (iV a_.From) H3 (fun h4 H4 => ?_)
 refine Zx ?_
 refine Zk [1, 2, 3] [(1, pV b1), (2, pV b2), (3, pV b3)] ?_
 refine Zs ?_
 refine Run_ops ?_
 refine Zr [.pointer (some ⟨b1, 1, none⟩)] 0 ?_
 refine Zz (iV a_.To) (Zl 2 (⟨b1, 1, none⟩) (iV a_.To) (H4.cell 2 rfl rfl)) ?_
 refine Zr [.pointer (some ⟨b3, 1, none⟩)] 2 ?_
 refine Ze ?_
 refine ZP 2 1 [iV a_.From, iV a_.To, iV 0, iV 0] (iV a_.To) H4 (fun h5 H5 => ?_)
 refine Zx ?_
 refine Zk [1, 2, 3] [(1, pV b1), (2, pV b2), (3, pV b3)] ?_
 refine Zs ?_
 refine Run_ops ?_
 refine Zr [.pointer (some ⟨b1, 2, none⟩)] 0 ?_
 refine Zz (iV a_.Delay) (Zl 2 (⟨b1, 2, none⟩) (iV a_.Delay) (H5.cell 2 rfl rfl)) ?_
 refine Zr [.pointer (some ⟨b3, 2, none⟩)] 2 ?_
 refine Ze ?_
 refine ZP 2 2 [iV a_.From, iV a_.To, iV a_.Delay, iV 0] (iV a_.Delay) H5 (fun h6 H6 => ?_)
 refine Zx ?_
 refine Zk [1, 2, 3] [(1, pV b1), (2, pV b2), (3, pV b3)] ?_
 refine Zs ?_
 refine Run_ops ?_
 refine Zr [.pointer (some ⟨b1, 3, none⟩)] 0 ?_
 refine Zz (iV a_.Tokens) (Zl 2 (⟨b1, 3, none⟩) (iV a_.Tokens) (H6.cell 2 rfl rfl)) ?_
 refine Zr [.pointer (some ⟨b3, 3, none⟩)] 2 ?_
 refine Ze ?_
 refine ZP 2 3 [iV a_.From, iV a_.To, iV a_.Delay, iV a_.Tokens] (iV a_.Tokens) H6 (fun h7 H7 => ?_)
 refine Zx ?_
 refine Zk [2, 3] [(2, pV b2), (3, pV b3)] ?_
 refine Zs ?_
 refine Run_ops ?_
 refine Zz (.agg #[iV a_.From, iV a_.To, iV a_.Delay, iV a_.Tokens]) (Y_loadA (t := 60) (n := 4) (p := ⟨b3, 0, none⟩) (cs := [iV a_.From, iV a_.To, iV a_.Delay, iV a_.Tokens]) (by kernel_rfl) (fun w => by kernel_rfl) (by kernel_rfl) rfl (H7.cells (n := 4) (off := 0) 0 rfl rfl)) ?_
 have H9 : Hold h h7 [box b2 60 [iV 0, iV 0, iV 0, iV 0], box b3 60 [iV a_.From, iV a_.To, iV a_.Delay, iV a_.Tokens], box b1 110 [iV a_.From, iV a_.To, iV a_.Delay, iV a_.Tokens]] := H7.pk [1, 0, 2]
 refine Ze ?_
 refine ZP 60 0 [iV a_.From, iV a_.To, iV a_.Delay, iV a_.Tokens] (.agg #[iV a_.From, iV a_.To, iV a_.Delay, iV a_.Tokens]) H9 (fun h8 H8 => ?_)
 refine Zx ?_
 refine Zk [2] [(2, pV b2)] ?_
 have hF := M.ret_some hF
 subst hF
 have H10 : Hold h h8 [] := H8.pk []
 exact Run_ret1 rfl (ResV_cell (n := 4) (cs := [iV a_.From, iV a_.To, iV a_.Delay, iV a_.Tokens]) (by kernel_rfl) (fun w => by kernel_rfl) (by kernel_rfl) rfl (H8.cells (n := 4) (off := 0) 0 rfl rfl)) ⟨rfl, H10⟩

theorem w_laws_toPlaceS (h : Heap) (a_ : List TPlace) (aa_ : Option Addr) (ca_ : Nat) (ra_ : Rd cd110 h (Lt h) aa_ ca_ a_) (n : Nat) (r : (List TPlace)) (hF : laws_toPlaceS a_ n = some r) :
  Fn Try.prog 31 #[.slice aa_ a_.length ca_] h fun v h' => ∃ (a0 : Option Addr) (c0 : Nat), v = .slice a0 r.length c0 ∧ Hold h h' [own cd60 a0 r.length c0 r] := by
 unfold laws_toPlaceS at hF
 refine Zo [.slice aa_ a_.length ca_] Try.func31 rfl (fun w0 _ => ?_)
 have H0 := Hold.init h
 refine Zs ?_
 refine Zq [.slice none 0 0] [0] [(0, .slice aa_ a_.length ca_)] ?_
 refine Zs ?_
 refine Run_ops ?_
 refine Zr [.slice aa_ a_.length ca_, iV (a_.length : Int)] 0 ?_
 obtain ⟨l1, hl1, hF⟩ := M.bind_some hF
 have hl1 := M.make_some hl1
 refine Ze ?_
 refine E_make cd60 (⟨0, 0, 0, 0⟩ : TPlace) (kl := .i64) (kc := .i64) H0 cd60_ti Try.underlying26 (by decide) cd60_zero (by kernel_rfl) hl1 (fun a1 h1 H1 => ?_)
 refine Zr [.slice a1 l1.length l1.length] 3 ?_
 refine Zx ?_
 refine Zk [0, 3] [(0, .slice aa_ a_.length ca_), (3, .slice a1 l1.length l1.length)] ?_
 refine Zs ?_
 refine Zs ?_
 refine Zq [iV 0] [0, 3, 4] [(0, .slice aa_ a_.length ca_), (3, .slice a1 l1.length l1.length), (4, iV 0)] ?_
 obtain ⟨x1, gx1, hF⟩ := M.bind_some hF
 obtain ⟨hloy1, hhiy1, gx1⟩ := M.for_start gx1
 refine Run_join (fun L' h' => L' = [(3, .slice a1 l1.length l1.length)] ∧ Hold h h' [own cd60 a1 l1.length l1.length x1]) ?_ ?_
 ·rintro _ h3 ⟨rfl, H3⟩
  refine Zs ?_
  refine Zq [.slice a1 l1.length l1.length, .slice a1 l1.length l1.length] [2] [(2, .slice a1 l1.length l1.length)] ?_
  have hF := M.ret_some hF
  subst hF
  have H7 := H3.norm
  exact Run_ret1 rfl (Zt (.slice a1 l1.length l1.length)) ⟨a1, l1.length, (by simp only [(H3.len 0 rfl)]), H7⟩
 ·refine Run_block ?_
  refine Zk [0, 3, 4] [(0, .slice aa_ a_.length ca_), (3, .slice a1 l1.length l1.length), (4, iV 0)] ?_
  refine Run_loop (fun m L' h' => ∃ (i1 : Int) (s1 : (List TPlace)), 0 ≤ i1 ∧ M.forN (a_.length : Int) _ _ n m i1 s1 = some x1 ∧ L' = [(0, .slice aa_ a_.length ca_), (3, .slice a1 l1.length l1.length), (4, iV i1)] ∧ Hold h h' [own cd60 a1 l1.length l1.length s1]) ((a_.length : Int) - 0 : Int).toNat ⟨0, l1, Int.le_refl _, gx1, rfl, H1⟩ ?_
  rintro my1 _ h2 ⟨i1, s1, hloy1', gx1, rfl, H2⟩
  refine Zs ?_
  refine Zs ?_
  refine Zq [iV i1, .slice aa_ a_.length ca_, iV (a_.length : Int), .bool (decide (i1 < (a_.length : Int)))] [0, 3, 4, 11] [(0, .slice aa_ a_.length ca_), (3, .slice a1 l1.length l1.length), (4, iV i1), (11, .bool (decide (i1 < (a_.length : Int))))] ?_
  refine Zc (decide (i1 < (a_.length : Int))) (fun hb1 => ?_) (fun hb1 => ?_)
  ·obtain ⟨my1, y1, rfl, hB1, hgoy1, houty1⟩ := M.for_go gx1 hb1
   have hlty1 := of_decide_eq_true hb1
   refine Run_skip ?_
   refine Zs ?_
   refine Run_block ?_
   refine Run_ops ?_
   obtain ⟨x2, hx1, hB1⟩ := M.bind_some hB1
   obtain ⟨hx1l, hx1u, hx1⟩ := M.idx_some hx1
   refine Zr [.slice a1 l1.length l1.length, iV i1, .slice aa_ a_.length ca_, iV i1] 0 ?_
   refine Zz (.pointer (some (adr aa_ (i1.toNat * 4)))) (Zi 22 110 4 (aa_) (a_.length) (ca_) .i64 (i1) Try.underlying22 ((ra_.at H2.ext).cell hx1).1 hx1l hx1u) ?_
   refine Zz (.agg #[iV x2.From, iV x2.To, iV x2.Delay, iV x2.Tokens]) (Y_loadA (t := 110) (n := 4) (p := adr aa_ (i1.toNat * 4)) (cs := [iV x2.From, iV x2.To, iV x2.Delay, iV x2.Tokens]) (by kernel_rfl) (fun w => by kernel_rfl) (by kernel_rfl) rfl (cd110_elem (ra_.at H2.ext) hx1)) ?_
   obtain ⟨x3, hx2, hB1⟩ := M.bind_some hB1
   refine Ze ?_
   refine ZC 77 #[.agg #[iV x2.From, iV x2.To, iV x2.Delay, iV x2.Tokens]] (w_laws_toPlace h2 x2 _ _ hx2) (fun v1 h4 hp1 => ?_)
   obtain ⟨rfl, H4⟩ := hp1
   have H5 : Hold h h4 [own cd60 a1 l1.length l1.length s1] := H2.call H4 rfl
   obtain ⟨x4, hx3, hB1⟩ := M.bind_some hB1
   obtain ⟨hx3l, hx3u, hx3⟩ := M.idx_some hx3
   refine Zz (.pointer (some (adr a1 (i1.toNat * 4)))) (Zi 26 60 4 (a1) (l1.length) (l1.length) .i64 (i1) Try.underlying26 ((H5.rd 0 rfl).cell hx3).1 hx3l (by rw [← (H5.len 0 rfl)]; exact hx3u)) ?_
   obtain ⟨l2, hu1, hB1⟩ := M.bind_some hB1
   have hu1 := M.upd_some hu1
   refine Ze ?_
   refine E_put (C := cd60) (t := 60) (sz := 4) (j := i1) (x := x3) (v := .agg #[iV x3.From, iV x3.To, iV x3.Delay, iV x3.Tokens]) H5 cd60_flat (by kernel_rfl) rfl (cd60_own _) (by kernel_rfl) hu1 (fun h5 H6 => ?_)
   refine Zx ?_
   refine Zk [0, 3, 4] [(0, .slice aa_ a_.length ca_), (3, .slice a1 l1.length l1.length), (4, iV i1)] ?_
   refine Run_blk ?_
   refine Zg 3 [(0, .slice aa_ a_.length ca_), (3, .slice a1 l1.length l1.length), (4, iV (i1 + 1))] ?_ ?_
   ·refine Zb [iV i1] 0 ?_
    refine Zy (iV (i1 + 1)) (Y_eq (v := iV (w64 (i1 + 1))) (Y_pure (fun w => by kernel_rfl)) (by rw [w64_eq _ (by omega)])) ?_
    refine Zb [iV (i1 + 1)] 2 ?_
    exact Zd [0, 3, 4]
   have hB1 := M.ret_some hB1
   have gx1 := hgoy1 _ hB1.symm
   exact Za [0, 3, 4] my1 ⟨i1 + 1, l2, by omega, gx1, rfl, H6⟩
  ·have gx1 := M.for_end gx1 hb1
   subst gx1
   refine Run_exit (k' := _) rfl ?_
   exact Zf [3] ⟨rfl, H2⟩

theorem w_laws_toEventGraph (h : Heap) (a_ : TGraph) (aa_Places : Option Addr) (ca_Places : Nat) (ra_Places : Rd cd110 h (Lt h) aa_Places ca_Places a_.Places) (n : Nat) (r : TGraph) (hF : laws_toEventGraph a_ n = some r) :
  Fn Try.prog 8 #[.agg #[iV a_.Events, .slice aa_Places a_.Places.length ca_Places]] h fun v h' => ∃ (a0 : Option Addr) (c0 : Nat), v = .agg #[iV r.Events, .slice a0 r.Places.length c0] ∧ Hold h h' [own cd60 a0 r.Places.length c0 r.Places] := by
 unfold laws_toEventGraph at hF
 refine Zo [.agg #[iV a_.Events, .slice aa_Places a_.Places.length ca_Places]] Try.func8 rfl (fun w0 _ => ?_)
 have H0 := Hold.init h
 refine Zs ?_
 refine Run_ops ?_
 refine Ze ?_
 refine E_box (ty := 24) (cs := [iV a_.Events, .slice aa_Places a_.Places.length ca_Places]) H0 (fun w => by kernel_rfl) (fun b1 h1 H1 => ?_)
 refine Ze ?_
 refine E_box (ty := 28) (cs := [iV 0, .slice none 0 0]) H1 (fun w => by kernel_rfl) (fun b2 h2 H2 => ?_)
 refine Zx ?_
 refine Zk [1, 2] [(1, pV b1), (2, pV b2)] ?_
 refine Zs ?_
 refine Run_ops ?_
 refine Ze ?_
 refine E_box (ty := 28) (cs := [iV 0, .slice none 0 0]) H2 (fun w => by kernel_rfl) (fun b3 h3 H3 => ?_)
 refine Zx ?_
 refine Zk [1, 2, 3] [(1, pV b1), (2, pV b2), (3, pV b3)] ?_
 refine Zs ?_
 refine Run_ops ?_
 refine Zr [pV b1] 0 ?_
 refine Zz (iV a_.Events) (Zl 2 (⟨b1, 0, none⟩) (iV a_.Events) (H3.cell 2 rfl rfl)) ?_
 refine Zr [pV b3] 2 ?_
 refine Ze ?_
 refine ZP 2 0 [iV a_.Events, .slice none 0 0] (iV a_.Events) H3 (fun h4 H4 => ?_)
 refine Zx ?_
 refine Zk [1, 2, 3] [(1, pV b1), (2, pV b2), (3, pV b3)] ?_
 refine Zs ?_
 refine Run_ops ?_
 refine Zr [.pointer (some ⟨b1, 1, none⟩)] 0 ?_
 refine Zz (.slice aa_Places a_.Places.length ca_Places) (Zl 22 (⟨b1, 1, none⟩) (.slice aa_Places a_.Places.length ca_Places) (H4.cell 2 rfl rfl)) ?_
 obtain ⟨x1, hx1, hF⟩ := M.bind_some hF
 refine Ze ?_
 refine ZC 31 #[.slice aa_Places a_.Places.length ca_Places] (w_laws_toPlaceS h4 a_.Places aa_Places ca_Places (ra_Places.at H4.ext) _ _ hx1) (fun v1 h5 hp1 => ?_)
 obtain ⟨a1, c1, rfl, H5⟩ := hp1
 have H6 : Hold h h5 [own cd60 a1 x1.length c1 x1, box b3 28 [iV a_.Events, .slice none 0 0], box b2 28 [iV 0, .slice none 0 0], box b1 24 [iV a_.Events, .slice aa_Places a_.Places.length ca_Places]] := H4.call H5 rfl
 refine Zr [.pointer (some ⟨b3, 1, none⟩)] 3 ?_
 have H8 : Hold h h5 [box b3 28 [iV a_.Events, .slice none 0 0], own cd60 a1 x1.length c1 x1, box b2 28 [iV 0, .slice none 0 0], box b1 24 [iV a_.Events, .slice aa_Places a_.Places.length ca_Places]] := H6.pk [1, 0, 2, 3]
 refine Ze ?_
 refine ZP 26 1 [iV a_.Events, .slice a1 x1.length c1] (.slice a1 x1.length c1) H8 (fun h6 H7 => ?_)
 refine Zx ?_
 refine Zk [2, 3] [(2, pV b2), (3, pV b3)] ?_
 refine Zs ?_
 refine Run_ops ?_
 refine Zz (.agg #[iV a_.Events, .slice a1 x1.length c1]) (Y_loadA (t := 28) (n := 2) (p := ⟨b3, 0, none⟩) (cs := [iV a_.Events, .slice a1 x1.length c1]) (by kernel_rfl) (fun w => by kernel_rfl) (by kernel_rfl) rfl (H7.cells (n := 2) (off := 0) 0 rfl rfl)) ?_
 have H10 : Hold h h6 [box b2 28 [iV 0, .slice none 0 0], box b3 28 [iV a_.Events, .slice a1 x1.length c1], own cd60 a1 x1.length c1 x1, box b1 24 [iV a_.Events, .slice aa_Places a_.Places.length ca_Places]] := H7.pk [2, 0, 1, 3]
 refine Ze ?_
 refine ZP 28 0 [iV a_.Events, .slice a1 x1.length c1] (.agg #[iV a_.Events, .slice a1 x1.length c1]) H10 (fun h7 H9 => ?_)
 refine Zx ?_
 refine Zk [2] [(2, pV b2)] ?_
 have hF := M.ret_some hF
 subst hF
 have H11 : Hold h h7 [own cd60 a1 x1.length c1 x1, box b2 28 [iV a_.Events, .slice a1 x1.length c1], box b3 28 [iV a_.Events, .slice a1 x1.length c1], box b1 24 [iV a_.Events, .slice aa_Places a_.Places.length ca_Places]] := H9.pk [2, 0, 1, 3]
 have H12 : Hold h h7 [own cd60 a1 x1.length c1 x1] := H11.pk [0]
 exact Run_ret1 rfl (ResV_cell (n := 2) (cs := [iV a_.Events, .slice a1 x1.length c1]) (by kernel_rfl) (fun w => by kernel_rfl) (by kernel_rfl) rfl (H9.cells (n := 2) (off := 0) 0 rfl rfl)) ⟨a1, c1, rfl, H12⟩

theorem w_spec_l01In (h : Heap) (n_ : Int) (low : Int) (high : Int) (n : Nat) (r : Bool) (hF : spec_l01In n_ low high n = some r) :
  Fn Try.prog 53 #[iV n_, iV low, iV high] h fun v h' => v = .bool r ∧ h' = h := by
 unfold spec_l01In at hF
 refine Zo [iV n_, iV low, iV high] Try.func53 rfl (fun w0 _ => ?_)
 refine Zs ?_
 refine Zq [.bool false] [0, 1, 2] [(0, iV n_), (1, iV low), (2, iV high)] ?_
 refine Zs ?_
 refine Zg 9 [(6, .bool ((decide (low ≤ n_)) && (decide (n_ ≤ high))))] ?_ ?_
 ·refine Zb [iV n_, iV low, .bool (decide (low ≤ n_))] 0 ?_
  refine QRun_seq 8 [(14, .bool ((decide (low ≤ n_)) && (decide (n_ ≤ high))))] ?_ ?_
  ·rcases Bool.eq_false_or_eq_true (decide (low ≤ n_)) with hb1 | hb1
   ·refine Zv (decide (low ≤ n_)) true hb1 ?_
    refine Zb [iV n_, iV high, .bool (decide (n_ ≤ high))] 4 ?_
    refine QRun_bool (decide (n_ ≤ high)) ((decide (low ≤ n_)) && (decide (n_ ≤ high))) (by kernel_rfl) (fun w => by kernel_rfl) (by rw [hb1]; rfl) ?_
    exact Zd [14]
   ·refine Zv (decide (low ≤ n_)) false hb1 ?_
    refine Zn ?_
    refine Zn ?_
    refine Zn ?_
    refine QRun_bool false ((decide (low ≤ n_)) && (decide (n_ ≤ high))) (by kernel_rfl) (fun w => by kernel_rfl) (by rw [hb1]; rfl) ?_
    exact Zd [14]
  refine Zb [.bool ((decide (low ≤ n_)) && (decide (n_ ≤ high)))] 8 ?_
  exact Zd [6]
 have hF := M.ret_some hF
 subst hF
 exact Run_ret1 rfl (Zt (.bool ((decide (low ≤ n_)) && (decide (n_ ≤ high))))) ⟨rfl, rfl⟩

theorem w_spec_l11Place (h : Heap) (p : TPlace) (events : Int) (n : Nat) (r : Bool) (hF : spec_l11Place p events n = some r) :
  Fn Try.prog 75 #[.agg #[iV p.From, iV p.To, iV p.Delay, iV p.Tokens], iV events] h fun v h' => v = .bool r ∧ Hold h h' [] := by
 unfold spec_l11Place at hF
 refine Zo [.agg #[iV p.From, iV p.To, iV p.Delay, iV p.Tokens], iV events] Try.func75 rfl (fun w0 _ => ?_)
 have H0 := Hold.init h
 refine Zs ?_
 refine Run_ops ?_
 refine Ze ?_
 refine E_box (ty := 60) (cs := [iV p.From, iV p.To, iV p.Delay, iV p.Tokens]) H0 (fun w => by kernel_rfl) (fun b1 h1 H1 => ?_)
 refine Zr [.bool false] 1 ?_
 refine Zx ?_
 refine Zk [1, 2] [(1, iV events), (2, pV b1)] ?_
 refine Zs ?_
 obtain ⟨x1, hx1, hF⟩ := M.bind_some hF
 obtain ⟨x2, gx2, hF⟩ := M.bind_some hF
 obtain ⟨x4, gx4, hF⟩ := M.bind_some hF
 obtain ⟨x6, gx6, hF⟩ := M.bind_some hF
 refine Zg 23 [(4, .bool x6)] ?_ ?_
 ·refine Zb [pV b1] 0 ?_
  refine Zy (iV p.From) (Zl 2 (⟨b1, 0, none⟩) (iV p.From) (H1.cell 0 rfl rfl)) ?_
  refine Zb [iV events, iV (w64 (events - 1))] 2 ?_
  refine Zy (.bool x1) (ZQ 53 #[iV p.From, iV 0, iV (w64 (events - 1))] (w_spec_l01In h1 p.From 0 (w64 (events - 1)) _ _ hx1)) ?_
  refine QRun_seq 12 [(2, pV b1), (16, .bool x2)] ?_ ?_
  ·rcases Bool.eq_false_or_eq_true x1 with hb1 | hb1
   ·refine Zv x1 true hb1 ?_
    have gx2 := (M.ite_some gx2).1 hb1
    obtain ⟨x3, hx2, gx2⟩ := M.bind_some gx2
    have gx2 := M.ret_some gx2
    refine Zb [.pointer (some ⟨b1, 1, none⟩)] 6 ?_
    refine Zy (iV p.To) (Zl 2 (⟨b1, 1, none⟩) (iV p.To) (H1.cell 0 rfl rfl)) ?_
    refine Zb [iV events, iV (w64 (events - 1))] 8 ?_
    refine Zy (.bool x3) (ZQ 53 #[iV p.To, iV 0, iV (w64 (events - 1))] (w_spec_l01In h1 p.To 0 (w64 (events - 1)) _ _ hx2)) ?_
    refine Zv x3 x2 gx2 ?_
    exact Zd [2, 16]
   ·refine Zv x1 false hb1 ?_
    have gx2 := M.ret_some ((M.ite_some gx2).2 hb1)
    refine Zn ?_
    refine Zn ?_
    refine Zn ?_
    refine Zn ?_
    refine Zn ?_
    refine Zv false x2 gx2 ?_
    exact Zd [2, 16]
  refine QRun_seq 17 [(2, pV b1), (21, .bool x4)] ?_ ?_
  ·rcases Bool.eq_false_or_eq_true x2 with hb2 | hb2
   ·refine Zv x2 true hb2 ?_
    have gx4 := (M.ite_some gx4).1 hb2
    obtain ⟨x5, hx3, gx4⟩ := M.bind_some gx4
    have gx4 := M.ret_some gx4
    refine Zb [.pointer (some ⟨b1, 2, none⟩)] 13 ?_
    refine Zy (iV p.Delay) (Zl 2 (⟨b1, 2, none⟩) (iV p.Delay) (H1.cell 0 rfl rfl)) ?_
    refine Zy (.bool x5) (ZQ 53 #[iV p.Delay, iV 0, iV 1000] (w_spec_l01In h1 p.Delay 0 1000 _ _ hx3)) ?_
    refine Zv x5 x4 gx4 ?_
    exact Zd [2, 21]
   ·refine Zv x2 false hb2 ?_
    have gx4 := M.ret_some ((M.ite_some gx4).2 hb2)
    refine Zn ?_
    refine Zn ?_
    refine Zn ?_
    refine Zv false x4 gx4 ?_
    exact Zd [2, 21]
  refine QRun_seq 22 [(26, .bool x6)] ?_ ?_
  ·rcases Bool.eq_false_or_eq_true x4 with hb3 | hb3
   ·refine Zv x4 true hb3 ?_
    have gx6 := (M.ite_some gx6).1 hb3
    obtain ⟨x7, hx4, gx6⟩ := M.bind_some gx6
    have gx6 := M.ret_some gx6
    refine Zb [.pointer (some ⟨b1, 3, none⟩)] 18 ?_
    refine Zy (iV p.Tokens) (Zl 2 (⟨b1, 3, none⟩) (iV p.Tokens) (H1.cell 0 rfl rfl)) ?_
    refine Zy (.bool x7) (ZQ 53 #[iV p.Tokens, iV 0, iV 5] (w_spec_l01In h1 p.Tokens 0 5 _ _ hx4)) ?_
    refine Zv x7 x6 gx6 ?_
    exact Zd [26]
   ·refine Zv x4 false hb3 ?_
    have gx6 := M.ret_some ((M.ite_some gx6).2 hb3)
    refine Zn ?_
    refine Zn ?_
    refine Zn ?_
    refine Zv false x6 gx6 ?_
    exact Zd [26]
  refine Zb [.bool x6] 22 ?_
  exact Zd [4]
 have hF := M.ret_some hF
 subst hF
 have H2 : Hold h h1 [] := H1.pk []
 exact Run_ret1 rfl (Zt (.bool x6)) ⟨rfl, H2⟩

theorem w_spec_IsEventGraph (h : Heap) (g : TGraph) (agPlaces : Option Addr) (cgPlaces : Nat) (rgPlaces : Rd cd60 h (Lt h) agPlaces cgPlaces g.Places) (n : Nat) (r : Bool) (hF : spec_IsEventGraph g n = some r) :
  Fn Try.prog 29 #[.agg #[iV g.Events, .slice agPlaces g.Places.length cgPlaces]] h fun v h' => v = .bool r ∧ Hold h h' [] := by
 unfold spec_IsEventGraph at hF
 refine Zo [.agg #[iV g.Events, .slice agPlaces g.Places.length cgPlaces]] Try.func29 rfl (fun w0 _ => ?_)
 have H0 := Hold.init h
 refine Zs ?_
 refine Run_ops ?_
 refine Ze ?_
 refine E_box (ty := 28) (cs := [iV g.Events, .slice agPlaces g.Places.length cgPlaces]) H0 (fun w => by kernel_rfl) (fun b1 h1 H1 => ?_)
 refine Zr [.bool false] 1 ?_
 refine Zx ?_
 refine Zk [1] [(1, pV b1)] ?_
 refine Zs ?_
 refine Zs ?_
 refine Zq [iV 0] [1, 3] [(1, pV b1), (3, iV 0)] ?_
 obtain ⟨x1, gx1, hF⟩ := M.bind_some hF
 refine Run_join (fun L' h' => ∃ (s2 : Int), x1 = .inl s2 ∧ L' = [(1, pV b1)] ∧ Hold h h' [box b1 28 [iV g.Events, .slice agPlaces g.Places.length cgPlaces]]) ?_ ?_
 ·rintro _ h3 ⟨s2, es2, rfl, H3⟩
  have hF := M.cont_inl' hF es2
  refine Zs ?_
  obtain ⟨x4, hx3, hF⟩ := M.bind_some hF
  refine Zg 10 [(2, .bool (x4 && (decide ((g.Places.length : Int) ≤ 30))))] ?_ ?_
  ·refine Zb [pV b1] 0 ?_
   refine Zy (iV g.Events) (Zl 2 (⟨b1, 0, none⟩) (iV g.Events) (H3.cell 0 rfl rfl)) ?_
   refine Zy (.bool x4) (ZQ 53 #[iV g.Events, iV 1, iV 10] (w_spec_l01In h3 g.Events 1 10 _ _ hx3)) ?_
   refine QRun_seq 9 [(28, .bool (x4 && (decide ((g.Places.length : Int) ≤ 30))))] ?_ ?_
   ·rcases Bool.eq_false_or_eq_true x4 with hb3 | hb3
    ·refine Zv x4 true hb3 ?_
     refine Zb [.pointer (some ⟨b1, 1, none⟩)] 4 ?_
     refine Zy (.slice agPlaces g.Places.length cgPlaces) (Zl 26 (⟨b1, 1, none⟩) (.slice agPlaces g.Places.length cgPlaces) (H3.cell 0 rfl rfl)) ?_
     refine Zb [iV (g.Places.length : Int), .bool (decide ((g.Places.length : Int) ≤ 30))] 6 ?_
     refine QRun_bool (decide ((g.Places.length : Int) ≤ 30)) (x4 && (decide ((g.Places.length : Int) ≤ 30))) (by kernel_rfl) (fun w => by kernel_rfl) (by rw [hb3]; rfl) ?_
     exact Zd [28]
    ·refine Zv x4 false hb3 ?_
     refine Zn ?_
     refine Zn ?_
     refine Zn ?_
     refine Zn ?_
     refine QRun_bool false (x4 && (decide ((g.Places.length : Int) ≤ 30))) (by kernel_rfl) (fun w => by kernel_rfl) (by rw [hb3]; rfl) ?_
     exact Zd [28]
   refine Zb [.bool (x4 && (decide ((g.Places.length : Int) ≤ 30)))] 9 ?_
   exact Zd [2]
  have hF := M.ret_some hF
  subst hF
  have H7 : Hold h h3 [] := H3.pk []
  exact Run_ret1 rfl (Zt (.bool (x4 && (decide ((g.Places.length : Int) ≤ 30))))) ⟨rfl, H7⟩
 ·refine Run_block ?_
  refine Zk [1, 3] [(1, pV b1), (3, iV 0)] ?_
  refine Run_loop (fun m L' h' => ∃ (s1 : Int), M.loopN _ n m s1 = some x1 ∧ L' = [(1, pV b1), (3, iV s1)] ∧ Hold h h' [box b1 28 [iV g.Events, .slice agPlaces g.Places.length cgPlaces]]) n ⟨0, gx1, rfl, H1⟩ ?_
  rintro my1 _ h2 ⟨s1, gx1, rfl, H2⟩
  obtain ⟨my1, y1, rfl, hB1, hgoy1, houty1⟩ := M.loop_some gx1
  refine Zs ?_
  refine Zs ?_
  refine Zg 5 [(1, pV b1), (3, iV s1), (8, .bool (decide (s1 < (g.Places.length : Int))))] ?_ ?_
  ·refine Zb [iV s1, .pointer (some ⟨b1, 1, none⟩)] 0 ?_
   refine Zy (.slice agPlaces g.Places.length cgPlaces) (Zl 26 (⟨b1, 1, none⟩) (.slice agPlaces g.Places.length cgPlaces) (H2.cell 0 rfl rfl)) ?_
   refine Zb [iV (g.Places.length : Int), .bool (decide (s1 < (g.Places.length : Int)))] 3 ?_
   exact Zd [1, 3, 8]
  refine Zc (decide (s1 < (g.Places.length : Int))) (fun hb1 => ?_) (fun hb1 => ?_)
  ·have hB1 := (M.ite_some hB1).1 hb1
   refine Run_skip ?_
   refine Zs ?_
   refine Run_block ?_
   refine Zs ?_
   obtain ⟨x2, hx1, hB1⟩ := M.bind_some hB1
   obtain ⟨hx1l, hx1u, hx1⟩ := M.idx_some hx1
   obtain ⟨x3, hx2, hB1⟩ := M.bind_some hB1
   refine Run_drawC (j := 9) (C := fun x => Hold h x [box b1 28 [iV g.Events, .slice agPlaces g.Places.length cgPlaces]]) mixed (by kernel_rfl) (by kernel_rfl) H2 (L' := [(1, pV b1), (3, iV s1), (19, .bool (!x3))]) ?_ (fun h4 H4 => ?_)
   ·refine Zb [.pointer (some ⟨b1, 1, none⟩)] 0 ?_
    refine Zy (.slice agPlaces g.Places.length cgPlaces) (Y_cls fun hx Hx => (Zl 26 (⟨b1, 1, none⟩) (.slice agPlaces g.Places.length cgPlaces) (Hx.cell 0 rfl rfl))) ?_
    refine Zb [iV s1] 2 ?_
    refine Zy (.pointer (some (adr agPlaces (s1.toNat * 4)))) (Y_cls fun hx Hx => (Zi 26 60 4 (agPlaces) (g.Places.length) (cgPlaces) .i64 (s1) Try.underlying26 ((rgPlaces.at H2.ext).cell hx1).1 hx1l hx1u)) ?_
    refine Zy (.agg #[iV x2.From, iV x2.To, iV x2.Delay, iV x2.Tokens]) (Y_cls fun hx Hx => (Y_loadA (t := 60) (n := 4) (p := adr agPlaces (s1.toNat * 4)) (cs := [iV x2.From, iV x2.To, iV x2.Delay, iV x2.Tokens]) (by kernel_rfl) (fun w => by kernel_rfl) (by kernel_rfl) rfl (cd60_elem (rgPlaces.at Hx.ext) hx1))) ?_
    refine Zb [pV b1] 5 ?_
    refine Zy (iV g.Events) (Y_cls fun hx Hx => (Zl 2 (⟨b1, 0, none⟩) (iV g.Events) (Hx.cell 0 rfl rfl))) ?_
    refine Zy (.bool x3) (Y_call (f := 75) (args := #[.agg #[iV x2.From, iV x2.To, iV x2.Delay, iV x2.Tokens], iV g.Events]) (v := .bool x3) (by kernel_rfl) fun hx Hx => (w_spec_l11Place hx x2 g.Events _ _ hx2).mono fun _ _ ⟨e, H'⟩ => ⟨e, Hx.call H' rfl⟩) ?_
    refine Zb [.bool (!x3)] 8 ?_
    exact Zd [1, 3, 19]
   have H5 : Hold h h4 [box b1 28 [iV g.Events, .slice agPlaces g.Places.length cgPlaces]] := H4
   refine Zc (!x3) (fun hb2 => ?_) (fun hb2 => ?_)
   ·have hB1 := (M.ite_some hB1).1 hb2
    refine Zs ?_
    refine Zq [.bool false] [2] [(2, .bool false)] ?_
    have hB1 := M.ret_some hB1
    have gx1 := houty1 _ hB1.symm
    have hF := M.cont_inr' hF gx1
    have hF := M.ret_some hF
    subst hF
    have H6 : Hold h h4 [] := H5.pk []
    exact Run_ret1 rfl (Zt (.bool false)) ⟨rfl, H6⟩
   ·have hB1 := (M.ite_some hB1).2 hb2
    refine Run_skip ?_
    refine Run_blk ?_
    refine Zq [iV s1, iV (w64 (s1 + 1)), iV (w64 (s1 + 1))] [1, 3] [(1, pV b1), (3, iV (w64 (s1 + 1)))] ?_
    have hB1 := M.ret_some hB1
    have gx1 := hgoy1 _ hB1.symm
    exact Za [1, 3] my1 ⟨(w64 (s1 + 1)), gx1, rfl, H5⟩
  ·have hB1 := (M.ite_some hB1).2 hb1
   refine Run_exit (k' := _) rfl ?_
   have hB1 := M.ret_some hB1
   have gx1 := houty1 _ hB1.symm
   subst gx1
   exact Zf [1] ⟨s1, rfl, rfl, H2⟩

theorem w_spec_l01Less (h : Heap) (a_ : List Int) {Sa_ : Bs} (aa_ : Option Addr) (ca_ : Nat) (ra_ : Rd cd2 h Sa_ aa_ ca_ a_) (b : List Int) {Sb : Bs} (ab : Option Addr) (cb : Nat) (rb : Rd cd2 h Sb ab cb b) (n : Nat) (r : Bool) (hF : spec_l01Less a_ b n = some r) :
  Fn Try.prog 76 #[.slice aa_ a_.length ca_, .slice ab b.length cb] h fun v h' => v = .bool r ∧ h' = h := by
 unfold spec_l01Less at hF
 refine Zo [.slice aa_ a_.length ca_, .slice ab b.length cb] Try.func76 rfl (fun w0 _ => ?_)
 refine Zs ?_
 refine Zq [.bool false] [0, 1] [(0, .slice aa_ a_.length ca_), (1, .slice ab b.length cb)] ?_
 refine Zs ?_
 refine Zs ?_
 refine Zq [iV 0] [0, 1, 5] [(0, .slice aa_ a_.length ca_), (1, .slice ab b.length cb), (5, iV 0)] ?_
 obtain ⟨x1, gx1, hF⟩ := M.bind_some hF
 refine Run_join (fun L' h' => ∃ (s2 : Int), x1 = .inl s2 ∧ L' = [(0, .slice aa_ a_.length ca_), (1, .slice ab b.length cb)] ∧ h = h') ?_ ?_
 ·rintro _ _ ⟨s2, es2, rfl, rfl⟩
  have hF := M.cont_inl' hF es2
  refine Zs ?_
  refine Zq [.slice aa_ a_.length ca_, iV (a_.length : Int), .slice ab b.length cb, iV (b.length : Int), .bool (decide ((a_.length : Int) < (b.length : Int))), .bool (decide ((a_.length : Int) < (b.length : Int)))] [4] [(4, .bool (decide ((a_.length : Int) < (b.length : Int))))] ?_
  have hF := M.ret_some hF
  subst hF
  exact Run_ret1 rfl (Zt (.bool (decide ((a_.length : Int) < (b.length : Int))))) ⟨rfl, rfl⟩
 ·refine Run_block ?_
  refine Zk [0, 1, 5] [(0, .slice aa_ a_.length ca_), (1, .slice ab b.length cb), (5, iV 0)] ?_
  refine Run_loop (fun m L' h' => ∃ (s1 : Int), M.loopN _ n m s1 = some x1 ∧ L' = [(0, .slice aa_ a_.length ca_), (1, .slice ab b.length cb), (5, iV s1)] ∧ h = h') n ⟨0, gx1, rfl, rfl⟩ ?_
  rintro my1 _ _ ⟨s1, gx1, rfl, rfl⟩
  obtain ⟨my1, y1, rfl, hB1, hgoy1, houty1⟩ := M.loop_some gx1
  refine Zs ?_
  refine Zs ?_
  refine Zg 10 [(0, .slice aa_ a_.length ca_), (1, .slice ab b.length cb), (5, iV s1), (15, .bool ((decide (s1 < (a_.length : Int))) && (decide (s1 < (b.length : Int)))))] ?_ ?_
  ·refine Zb [iV s1, .slice aa_ a_.length ca_, iV (a_.length : Int), .bool (decide (s1 < (a_.length : Int)))] 0 ?_
   refine QRun_seq 10 [(0, .slice aa_ a_.length ca_), (1, .slice ab b.length cb), (5, iV s1), (15, .bool ((decide (s1 < (a_.length : Int))) && (decide (s1 < (b.length : Int)))))] ?_ ?_
   ·rcases Bool.eq_false_or_eq_true (decide (s1 < (a_.length : Int))) with hb1 | hb1
    ·refine Zv (decide (s1 < (a_.length : Int))) true hb1 ?_
     refine Zb [iV s1, .slice ab b.length cb, iV (b.length : Int), .bool (decide (s1 < (b.length : Int)))] 5 ?_
     refine QRun_bool (decide (s1 < (b.length : Int))) ((decide (s1 < (a_.length : Int))) && (decide (s1 < (b.length : Int)))) (by kernel_rfl) (fun w => by kernel_rfl) (by rw [hb1]; rfl) ?_
     exact Zd [0, 1, 5, 15]
    ·refine Zv (decide (s1 < (a_.length : Int))) false hb1 ?_
     refine Zn ?_
     refine Zn ?_
     refine Zn ?_
     refine Zn ?_
     refine QRun_bool false ((decide (s1 < (a_.length : Int))) && (decide (s1 < (b.length : Int)))) (by kernel_rfl) (fun w => by kernel_rfl) (by rw [hb1]; rfl) ?_
     exact Zd [0, 1, 5, 15]
   exact Zd [0, 1, 5, 15]
  refine Zc ((decide (s1 < (a_.length : Int))) && (decide (s1 < (b.length : Int)))) (fun hb2 => ?_) (fun hb2 => ?_)
  ·have hB1 := (M.ite_some hB1).1 hb2
   refine Run_skip ?_
   refine Zs ?_
   refine Run_block ?_
   refine Zs ?_
   obtain ⟨x3, hx1, hB1⟩ := M.bind_some hB1
   obtain ⟨hx1l, hx1u, hx1⟩ := M.idx_some hx1
   obtain ⟨x4, hx2, hB1⟩ := M.bind_some hB1
   obtain ⟨hx2l, hx2u, hx2⟩ := M.idx_some hx2
   refine Run_draw 9 mixed (by kernel_rfl) (by kernel_rfl) (L' := [(0, .slice aa_ a_.length ca_), (1, .slice ab b.length cb), (5, iV s1), (26, .bool (x3 != x4))]) ?_ ?_
   ·refine Zb [.slice aa_ a_.length ca_, iV s1] 0 ?_
    refine Zy (.pointer (some (adr aa_ (s1.toNat * 1)))) (Zi 90 2 1 (aa_) (a_.length) (ca_) .i64 (s1) Try.underlying90 (ra_.cell hx1).1 hx1l hx1u) ?_
    refine Zy (iV x3) (Zl 2 (adr aa_ (s1.toNat * 1)) (iV x3) (cd2_cell ra_ hx1)) ?_
    refine Zb [.slice ab b.length cb, iV s1] 4 ?_
    refine Zy (.pointer (some (adr ab (s1.toNat * 1)))) (Zi 90 2 1 (ab) (b.length) (cb) .i64 (s1) Try.underlying90 (rb.cell hx2).1 hx2l hx2u) ?_
    refine Zy (iV x4) (Zl 2 (adr ab (s1.toNat * 1)) (iV x4) (cd2_cell rb hx2)) ?_
    refine Zb [.bool (x3 != x4)] 8 ?_
    exact Zd [0, 1, 5, 26]
   refine Zc (x3 != x4) (fun hb3 => ?_) (fun hb3 => ?_)
   ·have hB1 := (M.ite_some hB1).1 hb3
    refine Zs ?_
    obtain ⟨x5, hx3, hB1⟩ := M.bind_some hB1
    obtain ⟨hx3l, hx3u, hx3⟩ := M.idx_some hx3
    obtain ⟨x6, hx4, hB1⟩ := M.bind_some hB1
    obtain ⟨hx4l, hx4u, hx4⟩ := M.idx_some hx4
    refine Run_draw 10 mixed (by kernel_rfl) (by kernel_rfl) (L' := [(4, .bool (decide (x5 < x6)))]) ?_ ?_
    ·refine Zb [.slice aa_ a_.length ca_, iV s1] 0 ?_
     refine Zy (.pointer (some (adr aa_ (s1.toNat * 1)))) (Zi 90 2 1 (aa_) (a_.length) (ca_) .i64 (s1) Try.underlying90 (ra_.cell hx3).1 hx3l hx3u) ?_
     refine Zy (iV x5) (Zl 2 (adr aa_ (s1.toNat * 1)) (iV x5) (cd2_cell ra_ hx3)) ?_
     refine Zb [.slice ab b.length cb, iV s1] 4 ?_
     refine Zy (.pointer (some (adr ab (s1.toNat * 1)))) (Zi 90 2 1 (ab) (b.length) (cb) .i64 (s1) Try.underlying90 (rb.cell hx4).1 hx4l hx4u) ?_
     refine Zy (iV x6) (Zl 2 (adr ab (s1.toNat * 1)) (iV x6) (cd2_cell rb hx4)) ?_
     refine Zb [.bool (decide (x5 < x6)), .bool (decide (x5 < x6))] 8 ?_
     exact Zd [4]
    have hB1 := M.ret_some hB1
    have gx1 := houty1 _ hB1.symm
    have hF := M.cont_inr' hF gx1
    have hF := M.ret_some hF
    subst hF
    exact Run_ret1 rfl (Zt (.bool (decide (x5 < x6)))) ⟨rfl, rfl⟩
   ·have hB1 := (M.ite_some hB1).2 hb3
    refine Run_skip ?_
    refine Run_blk ?_
    refine Zq [iV s1, iV (w64 (s1 + 1)), iV (w64 (s1 + 1))] [0, 1, 5] [(0, .slice aa_ a_.length ca_), (1, .slice ab b.length cb), (5, iV (w64 (s1 + 1)))] ?_
    have hB1 := M.ret_some hB1
    have gx1 := hgoy1 _ hB1.symm
    exact Za [0, 1, 5] my1 ⟨(w64 (s1 + 1)), gx1, rfl, rfl⟩
  ·have hB1 := (M.ite_some hB1).2 hb2
   refine Run_exit (k' := _) rfl ?_
   have hB1 := M.ret_some hB1
   have gx1 := houty1 _ hB1.symm
   subst gx1
   exact Zf [0, 1] ⟨s1, rfl, rfl, rfl⟩

theorem w_spec_l11Before (h : Heap) (p : TPlace) (q : TPlace) (n : Nat) (r : Bool) (hF : spec_l11Before p q n = some r) :
  Fn Try.prog 30 #[.agg #[iV p.From, iV p.To, iV p.Delay, iV p.Tokens], .agg #[iV q.From, iV q.To, iV q.Delay, iV q.Tokens]] h fun v h' => v = .bool r ∧ Hold h h' [] := by
 unfold spec_l11Before at hF
 refine Zo [.agg #[iV p.From, iV p.To, iV p.Delay, iV p.Tokens], .agg #[iV q.From, iV q.To, iV q.Delay, iV q.Tokens]] Try.func30 rfl (fun w0 _ => ?_)
 have H0 := Hold.init h
 refine Zs ?_
 refine Run_ops ?_
 refine Ze ?_
 refine E_box (ty := 60) (cs := [iV p.From, iV p.To, iV p.Delay, iV p.Tokens]) H0 (fun w => by kernel_rfl) (fun b1 h1 H1 => ?_)
 refine Ze ?_
 refine E_box (ty := 60) (cs := [iV q.From, iV q.To, iV q.Delay, iV q.Tokens]) H1 (fun w => by kernel_rfl) (fun b2 h2 H2 => ?_)
 refine Zr [.bool false] 2 ?_
 refine Zx ?_
 refine Zk [2, 3] [(2, pV b1), (3, pV b2)] ?_
 refine Zs ?_
 refine Run_ops ?_
 refine Zr [pV b1] 0 ?_
 refine Zz (iV p.From) (Zl 2 (⟨b1, 0, none⟩) (iV p.From) (H2.cell 1 rfl rfl)) ?_
 refine Zr [.pointer (some ⟨b1, 1, none⟩)] 2 ?_
 refine Zz (iV p.To) (Zl 2 (⟨b1, 1, none⟩) (iV p.To) (H2.cell 1 rfl rfl)) ?_
 refine Zr [.pointer (some ⟨b1, 3, none⟩)] 4 ?_
 refine Zz (iV p.Tokens) (Zl 2 (⟨b1, 3, none⟩) (iV p.Tokens) (H2.cell 1 rfl rfl)) ?_
 refine Ze ?_
 refine E_lit (C := cd2) (n := 3) (l := ([p.From, p.To, p.Tokens] : List Int)) (cs := [iV p.From, iV p.To, iV p.Tokens]) H2 (fun w => by kernel_rfl) (Enc.consE (cd2_own p.From _) (Enc.consE (cd2_own p.To _) (Enc.consE (cd2_own p.Tokens _) (Enc.nil _ _) rfl) rfl) rfl) rfl (by decide) (fun a1 h3 H3 => ?_)
 refine Zr [pV b2] 7 ?_
 refine Zz (iV q.From) (Zl 2 (⟨b2, 0, none⟩) (iV q.From) (H3.cell 1 rfl rfl)) ?_
 refine Zr [.pointer (some ⟨b2, 1, none⟩)] 9 ?_
 refine Zz (iV q.To) (Zl 2 (⟨b2, 1, none⟩) (iV q.To) (H3.cell 1 rfl rfl)) ?_
 refine Zr [.pointer (some ⟨b2, 3, none⟩)] 11 ?_
 refine Zz (iV q.Tokens) (Zl 2 (⟨b2, 3, none⟩) (iV q.Tokens) (H3.cell 1 rfl rfl)) ?_
 refine Ze ?_
 refine E_lit (C := cd2) (n := 3) (l := ([q.From, q.To, q.Tokens] : List Int)) (cs := [iV q.From, iV q.To, iV q.Tokens]) H3 (fun w => by kernel_rfl) (Enc.consE (cd2_own q.From _) (Enc.consE (cd2_own q.To _) (Enc.consE (cd2_own q.Tokens _) (Enc.nil _ _) rfl) rfl) rfl) rfl (by decide) (fun a2 h4 H4 => ?_)
 obtain ⟨x1, hx1, hF⟩ := M.bind_some hF
 refine Zz (.bool x1) (ZQ 76 #[.slice a1 3 3, .slice a2 3 3] (Fn.arg (w_spec_l01Less h4 ([p.From, p.To, p.Tokens] : List Int) a1 3 (H4.rd 1 rfl) ([q.From, q.To, q.Tokens] : List Int) a2 3 (H4.rd 0 rfl) _ _ hx1) (by simp only [(H4.len 1 rfl), (H4.len 0 rfl)]))) ?_
 refine Zr [.bool x1] 15 ?_
 refine Zx ?_
 refine Zk [4] [(4, .bool x1)] ?_
 have hF := M.ret_some hF
 subst hF
 have H5 : Hold h h4 [] := H4.pk []
 exact Run_ret1 rfl (Zt (.bool x1)) ⟨rfl, H5⟩

theorem w_spec_SimplifyGraph (h : Heap) (g : TGraph) (agPlaces : Option Addr) (cgPlaces : Nat) (rgPlaces : Rd cd60 h (Lt h) agPlaces cgPlaces g.Places) (n : Nat) (r : TGraph × Int) (hF : spec_SimplifyGraph g n = some r) :
  Fn Try.prog 7 #[.agg #[iV g.Events, .slice agPlaces g.Places.length cgPlaces]] h fun v h' => ∃ (a0 : Option Addr) (c0 : Nat), v = .tuple #[.agg #[iV r.1.Events, .slice a0 r.1.Places.length c0], iV r.2] ∧ Hold h h' [own cd60 a0 r.1.Places.length c0 r.1.Places] := by
 unfold spec_SimplifyGraph at hF
 refine Zo [.agg #[iV g.Events, .slice agPlaces g.Places.length cgPlaces]] Try.func7 rfl (fun w0 _ => ?_)
 have H0 := Hold.init h
 refine Zs ?_
 refine Run_ops ?_
 refine Ze ?_
 refine E_box (ty := 28) (cs := [iV g.Events, .slice agPlaces g.Places.length cgPlaces]) H0 (fun w => by kernel_rfl) (fun b1 h1 H1 => ?_)
 refine Ze ?_
 refine E_box (ty := 28) (cs := [iV 0, .slice none 0 0]) H1 (fun w => by kernel_rfl) (fun b2 h2 H2 => ?_)
 refine Zr [iV 0] 2 ?_
 refine Zx ?_
 refine Zk [1, 2] [(1, pV b1), (2, pV b2)] ?_
 refine Zs ?_
 refine Zs ?_
 obtain ⟨x1, hx1, hF⟩ := M.bind_some hF
 refine Run_regC (j := 3) (C := fun x => Hold h x [box b2 28 [iV 0, .slice none 0 0], box b1 28 [iV g.Events, .slice agPlaces g.Places.length cgPlaces]]) (by kernel_rfl) H2 (L' := [(1, pV b1), (2, pV b2), (10, .bool (!x1))]) ?_ (fun h3 H3 => ?_)
 ·refine Zy (.agg #[iV g.Events, .slice agPlaces g.Places.length cgPlaces]) (Y_cls fun hx Hx => (Y_loadA (t := 28) (n := 2) (p := ⟨b1, 0, none⟩) (cs := [iV g.Events, .slice agPlaces g.Places.length cgPlaces]) (by kernel_rfl) (fun w => by kernel_rfl) (by kernel_rfl) rfl (Hx.cells (n := 2) (off := 0) 1 rfl rfl))) ?_
  refine Zy (.bool x1) (Y_call (f := 29) (args := #[.agg #[iV g.Events, .slice agPlaces g.Places.length cgPlaces]]) (v := .bool x1) (by kernel_rfl) fun hx Hx => (w_spec_IsEventGraph hx g agPlaces cgPlaces (rgPlaces.at Hx.ext) _ _ hx1).mono fun _ _ ⟨e, H'⟩ => ⟨e, Hx.call H' rfl⟩) ?_
  refine Zb [.bool (!x1)] 2 ?_
  exact Zd [1, 2, 10]
 have H4 : Hold h h3 [box b2 28 [iV 0, .slice none 0 0], box b1 28 [iV g.Events, .slice agPlaces g.Places.length cgPlaces]] := H3
 refine Zc (!x1) (fun hb1 => ?_) (fun hb1 => ?_)
 ·have hF := (M.ite_some hF).1 hb1
  refine Zs ?_
  refine Run_ops ?_
  refine Zr [.agg #[iV 0, .slice none 0 0]] 0 ?_
  refine Ze ?_
  refine ZP 28 0 [iV 0, .slice none 0 0] (.agg #[iV 0, .slice none 0 0]) H4 (fun h4 H5 => ?_)
  refine Zr [iV 1] 2 ?_
  refine Zx ?_
  refine Zk [2, 3] [(2, pV b2), (3, iV 1)] ?_
  have hF := M.ret_some hF
  subst hF
  have H6 := H5.empty cd60
  have H7 : Hold h h4 [own cd60 none 0 0 []] := H6.pk [0]
  exact Run_ret2 rfl (ResV_cell (n := 2) (cs := [iV 0, .slice none 0 0]) (by kernel_rfl) (fun w => by kernel_rfl) (by kernel_rfl) rfl (H5.cells (n := 2) (off := 0) 0 rfl rfl)) (Zt (iV 1)) ⟨none, 0, rfl, H7⟩
 ·have hF := (M.ite_some hF).2 hb1
  refine Run_skip ?_
  refine Zs ?_
  refine Run_ops ?_
  refine Zr [pV b1] 0 ?_
  refine Zz (iV g.Events) (Zl 2 (⟨b1, 0, none⟩) (iV g.Events) (H4.cell 1 rfl rfl)) ?_
  refine Ze ?_
  refine E_lit (C := cd60) (n := 0) (l := ([] : List TPlace)) (cs := []) H4 (fun w => by kernel_rfl) (Enc.nil _ _) rfl (by decide) (fun a1 h5 H8 => ?_)
  refine Zr [.agg #[iV g.Events, .slice a1 0 0]] 3 ?_
  refine Ze ?_
  refine E_box (ty := 28) (cs := [iV 0, .slice none 0 0]) H8 (fun w => by kernel_rfl) (fun b3 h6 H9 => ?_)
  refine Ze ?_
  refine ZP 28 0 [iV g.Events, .slice a1 0 0] (.agg #[iV g.Events, .slice a1 0 0]) H9 (fun h7 H10 => ?_)
  refine Zx ?_
  refine Zk [1, 2, 4] [(1, pV b1), (2, pV b2), (4, pV b3)] ?_
  refine Zs ?_
  refine Zs ?_
  refine Zq [iV 0] [1, 2, 4, 5] [(1, pV b1), (2, pV b2), (4, pV b3), (5, iV 0)] ?_
  obtain ⟨x2, gx2, hF⟩ := M.bind_some hF
  refine Run_join (fun L' h' => ∃ (a3 : Option Addr) (c2 : Nat), L' = [(2, pV b2), (4, pV b3)] ∧ Hold h h' [box b2 28 [iV 0, .slice none 0 0], box b3 28 [iV g.Events, .slice a3 x2.1.length c2], own cd60 a3 x2.1.length c2 x2.1]) ?_ ?_
  ·rintro _ h9 ⟨a3, c2, rfl, H12⟩
   refine Zs ?_
   refine Run_ops ?_
   refine Zz (.agg #[iV g.Events, .slice a3 x2.1.length c2]) (Y_loadA (t := 28) (n := 2) (p := ⟨b3, 0, none⟩) (cs := [iV g.Events, .slice a3 x2.1.length c2]) (by kernel_rfl) (fun w => by kernel_rfl) (by kernel_rfl) rfl (H12.cells (n := 2) (off := 0) 1 rfl rfl)) ?_
   refine Ze ?_
   refine ZP 28 0 [iV g.Events, .slice a3 x2.1.length c2] (.agg #[iV g.Events, .slice a3 x2.1.length c2]) H12 (fun h51 H130 => ?_)
   refine Zr [iV 0] 2 ?_
   refine Zx ?_
   refine Zk [2, 3] [(2, pV b2), (3, iV 0)] ?_
   have hF := M.ret_some hF
   subst hF
   have H131 : Hold h h51 [own cd60 a3 x2.1.length c2 x2.1, box b2 28 [iV g.Events, .slice a3 x2.1.length c2], box b3 28 [iV g.Events, .slice a3 x2.1.length c2]] := H130.pk [2, 0, 1]
   have H132 : Hold h h51 [own cd60 a3 x2.1.length c2 x2.1] := H131.pk [0]
   exact Run_ret2 rfl (ResV_cell (n := 2) (cs := [iV g.Events, .slice a3 x2.1.length c2]) (by kernel_rfl) (fun w => by kernel_rfl) (by kernel_rfl) rfl (H130.cells (n := 2) (off := 0) 0 rfl rfl)) (Zt (iV 0)) ⟨a3, c2, rfl, H132⟩
  ·refine Run_block ?_
   have H133 : Hold h h7 [own cd60 a1 0 0 ([] : List TPlace), box b3 28 [iV g.Events, .slice a1 0 0], box b2 28 [iV 0, .slice none 0 0], box b1 28 [iV g.Events, .slice agPlaces g.Places.length cgPlaces]] := H10.pk [1, 0, 2, 3]
   have hn6 := (H133.len 0 rfl)
   have H134 : Hold h h7 [own cd60 a1 (([] : List TPlace).length) 0 ([] : List TPlace), box b3 28 [iV g.Events, .slice a1 (([] : List TPlace).length) 0], box b2 28 [iV 0, .slice none 0 0], box b1 28 [iV g.Events, .slice agPlaces g.Places.length cgPlaces]] := by rw [hn6]; exact H133
   have H135 : Hold h h7 [box b1 28 [iV g.Events, .slice agPlaces g.Places.length cgPlaces], box b2 28 [iV 0, .slice none 0 0], box b3 28 [iV g.Events, .slice a1 (([] : List TPlace).length) 0], own cd60 a1 (([] : List TPlace).length) 0 ([] : List TPlace)] := H134.pk [3, 2, 1, 0]
   refine Run_keep [1, 2, 4, 5] (L' := [(1, pV b1), (2, pV b2), (4, pV b3), (5, iV 0)]) (by first | (rw [hn6]; kernel_rfl) | (simp only [hn6]; kernel_rfl) | kernel_rfl) ?_
   refine Run_loop (fun m L' h' => ∃ (s1 : (List TPlace) × Int) (a2 : Option Addr) (c1 : Nat), M.loopN _ n m s1 = some x2 ∧ L' = [(1, pV b1), (2, pV b2), (4, pV b3), (5, iV s1.2)] ∧ Hold h h' [box b1 28 [iV g.Events, .slice agPlaces g.Places.length cgPlaces], box b2 28 [iV 0, .slice none 0 0], box b3 28 [iV g.Events, .slice a2 s1.1.length c1], own cd60 a2 s1.1.length c1 s1.1]) n ⟨(([] : List TPlace), 0), a1, 0, gx2, rfl, H135⟩ ?_
   rintro my1 _ h8 ⟨s1, a2, c1, gx2, rfl, H11⟩
   obtain ⟨my1, y1, rfl, hB1, hgoy1, houty1⟩ := M.loop_some gx2
   refine Zs ?_
   refine Zs ?_
   refine Zg 5 [(1, pV b1), (2, pV b2), (4, pV b3), (5, iV s1.2), (20, .bool (decide (s1.2 < (g.Places.length : Int))))] ?_ ?_
   ·refine Zb [iV s1.2, .pointer (some ⟨b1, 1, none⟩)] 0 ?_
    refine Zy (.slice agPlaces g.Places.length cgPlaces) (Zl 26 (⟨b1, 1, none⟩) (.slice agPlaces g.Places.length cgPlaces) (H11.cell 0 rfl rfl)) ?_
    refine Zb [iV (g.Places.length : Int), .bool (decide (s1.2 < (g.Places.length : Int)))] 3 ?_
    exact Zd [1, 2, 4, 5, 20]
   refine Zc (decide (s1.2 < (g.Places.length : Int))) (fun hb2 => ?_) (fun hb2 => ?_)
   ·have hB1 := (M.ite_some hB1).1 hb2
    refine Run_skip ?_
    refine Zs ?_
    obtain ⟨s2, gs2, hB1⟩ := M.bind_some hB1
    refine Run_join (fun L' h' => ∃ (a19 : Option Addr), ∃ (c13 : Nat), L' = [(1, pV b1), (2, pV b2), (4, pV b3), (5, iV s1.2)] ∧ Hold h h' [box b1 28 [iV g.Events, .slice agPlaces g.Places.length cgPlaces], box b2 28 [iV 0, .slice none 0 0], box b3 28 [iV g.Events, .slice a19 s2.length c13], own cd60 a19 s2.length c13 s2]) ?_ ?_
    ·rintro _ h50 ⟨a19, c13, rfl, H121⟩
     refine Zq [iV s1.2, iV (w64 (s1.2 + 1)), iV (w64 (s1.2 + 1))] [1, 2, 4, 5] [(1, pV b1), (2, pV b2), (4, pV b3), (5, iV (w64 (s1.2 + 1)))] ?_
     have H126 : Hold h h50 [own cd60 a19 s2.length c13 s2, box b1 28 [iV g.Events, .slice agPlaces g.Places.length cgPlaces], box b2 28 [iV 0, .slice none 0 0], box b3 28 [iV g.Events, .slice a19 s2.length c13]] := H121.pk [3, 0, 1, 2]
     have H127 : Hold h h50 [box b1 28 [iV g.Events, .slice agPlaces g.Places.length cgPlaces], box b2 28 [iV 0, .slice none 0 0], box b3 28 [iV g.Events, .slice a19 s2.length c13], own cd60 a19 s2.length c13 s2] := H126.pk [1, 2, 3, 0]
     have hB1 := M.ret_some hB1
     have gx2 := hgoy1 _ hB1.symm
     exact Za [1, 2, 4, 5] my1 ⟨(s2, (w64 (s1.2 + 1))), a19, c13, gx2, rfl, H127⟩
    ·refine Run_block ?_
     refine Zs ?_
     refine Run_ops ?_
     obtain ⟨x3, hx2, gs2⟩ := M.bind_some gs2
     obtain ⟨hx2l, hx2u, hx2⟩ := M.idx_some hx2
     refine Zr [.pointer (some ⟨b1, 1, none⟩)] 0 ?_
     refine Zz (.slice agPlaces g.Places.length cgPlaces) (Zl 26 (⟨b1, 1, none⟩) (.slice agPlaces g.Places.length cgPlaces) (H11.cell 0 rfl rfl)) ?_
     refine Zr [iV s1.2] 2 ?_
     refine Zz (.pointer (some (adr agPlaces (s1.2.toNat * 4)))) (Zi 26 60 4 (agPlaces) (g.Places.length) (cgPlaces) .i64 (s1.2) Try.underlying26 ((rgPlaces.at H11.ext).cell hx2).1 hx2l hx2u) ?_
     refine Zz (.agg #[iV x3.From, iV x3.To, iV x3.Delay, iV x3.Tokens]) (Y_loadA (t := 60) (n := 4) (p := adr agPlaces (s1.2.toNat * 4)) (cs := [iV x3.From, iV x3.To, iV x3.Delay, iV x3.Tokens]) (by kernel_rfl) (fun w => by kernel_rfl) (by kernel_rfl) rfl (cd60_elem (rgPlaces.at H11.ext) hx2)) ?_
     refine Ze ?_
     refine E_box (ty := 60) (cs := [iV 0, iV 0, iV 0, iV 0]) H11 (fun w => by kernel_rfl) (fun b4 h10 H13 => ?_)
     refine Ze ?_
     refine ZP 60 0 [iV x3.From, iV x3.To, iV x3.Delay, iV x3.Tokens] (.agg #[iV x3.From, iV x3.To, iV x3.Delay, iV x3.Tokens]) H13 (fun h11 H14 => ?_)
     refine Zx ?_
     refine Zk [1, 2, 4, 5, 6] [(1, pV b1), (2, pV b2), (4, pV b3), (5, iV s1.2), (6, pV b4)] ?_
     refine Zs ?_
     refine Zq [iV 0] [1, 2, 4, 5, 6, 7] [(1, pV b1), (2, pV b2), (4, pV b3), (5, iV s1.2), (6, pV b4), (7, iV 0)] ?_
     refine Zs ?_
     obtain ⟨x4, gx4, gs2⟩ := M.bind_some gs2
     refine Run_join (fun L' h' => L' = [(1, pV b1), (2, pV b2), (4, pV b3), (5, iV s1.2), (6, pV b4), (7, iV x4)] ∧ Hold h h' [box b1 28 [iV g.Events, .slice agPlaces g.Places.length cgPlaces], box b2 28 [iV 0, .slice none 0 0], box b3 28 [iV g.Events, .slice a2 s1.1.length c1], own cd60 a2 s1.1.length c1 s1.1, box b4 60 [iV x3.From, iV x3.To, iV x3.Delay, iV x3.Tokens]]) ?_ ?_
     ·rintro _ h13 ⟨rfl, H16⟩
      refine Zs ?_
      refine Zs ?_
      obtain ⟨x8, gx8, gs2⟩ := M.bind_some gs2
      refine Run_drawC (j := 15) (C := fun x => Hold h x [box b1 28 [iV g.Events, .slice agPlaces g.Places.length cgPlaces], box b2 28 [iV 0, .slice none 0 0], box b3 28 [iV g.Events, .slice a2 s1.1.length c1], own cd60 a2 s1.1.length c1 s1.1, box b4 60 [iV x3.From, iV x3.To, iV x3.Delay, iV x3.Tokens]]) mixed (by kernel_rfl) (by kernel_rfl) H16 (L' := [(1, pV b1), (2, pV b2), (4, pV b3), (5, iV s1.2), (6, pV b4), (7, iV x4), (58, .bool x8)]) ?_ (fun h15 H19 => ?_)
      ·refine Zb [iV x4, .pointer (some ⟨b3, 1, none⟩)] 0 ?_
       refine Zy (.slice a2 s1.1.length c1) (Y_cls fun hx Hx => (Zl 26 (⟨b3, 1, none⟩) (.slice a2 s1.1.length c1) (Hx.cell 2 rfl rfl))) ?_
       refine Zb [iV (s1.1.length : Int), .bool (decide (x4 < (s1.1.length : Int)))] 3 ?_
       refine QRun_seq 15 [(1, pV b1), (2, pV b2), (4, pV b3), (5, iV s1.2), (6, pV b4), (7, iV x4), (58, .bool x8)] ?_ ?_
       ·rcases Bool.eq_false_or_eq_true (decide (x4 < (s1.1.length : Int))) with hb5 | hb5
        ·refine Zv (decide (x4 < (s1.1.length : Int))) true hb5 ?_
         have gx8 := (M.ite_some gx8).1 hb5
         obtain ⟨x9, hx5, gx8⟩ := M.bind_some gx8
         obtain ⟨hx5l, hx5u, hx5⟩ := M.idx_some hx5
         obtain ⟨x10, hx6, gx8⟩ := M.bind_some gx8
         have gx8 := M.ret_some gx8
         refine Zy (.agg #[iV x3.From, iV x3.To, iV x3.Delay, iV x3.Tokens]) (Y_cls fun hx Hx => (Y_loadA (t := 60) (n := 4) (p := ⟨b4, 0, none⟩) (cs := [iV x3.From, iV x3.To, iV x3.Delay, iV x3.Tokens]) (by kernel_rfl) (fun w => by kernel_rfl) (by kernel_rfl) rfl (Hx.cells (n := 4) (off := 0) 4 rfl rfl))) ?_
         refine Zb [.pointer (some ⟨b3, 1, none⟩)] 7 ?_
         refine Zy (.slice a2 s1.1.length c1) (Y_cls fun hx Hx => (Zl 26 (⟨b3, 1, none⟩) (.slice a2 s1.1.length c1) (Hx.cell 2 rfl rfl))) ?_
         refine Zb [iV x4] 9 ?_
         refine Zy (.pointer (some (adr a2 (x4.toNat * 4)))) (Y_cls fun hx Hx => (Zi 26 60 4 (a2) (s1.1.length) (c1) .i64 (x4) Try.underlying26 ((H16.rd 3 rfl).cell hx5).1 hx5l hx5u)) ?_
         refine Zy (.agg #[iV x9.From, iV x9.To, iV x9.Delay, iV x9.Tokens]) (Y_cls fun hx Hx => (Y_loadA (t := 60) (n := 4) (p := adr a2 (x4.toNat * 4)) (cs := [iV x9.From, iV x9.To, iV x9.Delay, iV x9.Tokens]) (by kernel_rfl) (fun w => by kernel_rfl) (by kernel_rfl) rfl (cd60_elem (Hx.rd 3 rfl) hx5))) ?_
         refine Zy (.bool x10) (Y_call (f := 30) (args := #[.agg #[iV x3.From, iV x3.To, iV x3.Delay, iV x3.Tokens], .agg #[iV x9.From, iV x9.To, iV x9.Delay, iV x9.Tokens]]) (v := .bool x10) (by kernel_rfl) fun hx Hx => (w_spec_l11Before hx x3 x9 _ _ hx6).mono fun _ _ ⟨e, H'⟩ => ⟨e, Hx.call H' rfl⟩) ?_
         refine Zb [.bool (!x10)] 13 ?_
         refine Zv (!x10) x8 gx8 ?_
         exact Zd [1, 2, 4, 5, 6, 7, 58]
        ·refine Zv (decide (x4 < (s1.1.length : Int))) false hb5 ?_
         have gx8 := M.ret_some ((M.ite_some gx8).2 hb5)
         refine Zn ?_
         refine Zn ?_
         refine Zn ?_
         refine Zn ?_
         refine Zn ?_
         refine Zn ?_
         refine Zn ?_
         refine Zn ?_
         refine Zv false x8 gx8 ?_
         exact Zd [1, 2, 4, 5, 6, 7, 58]
       exact Zd [1, 2, 4, 5, 6, 7, 58]
      have H20 : Hold h h15 [box b1 28 [iV g.Events, .slice agPlaces g.Places.length cgPlaces], box b2 28 [iV 0, .slice none 0 0], box b3 28 [iV g.Events, .slice a2 s1.1.length c1], own cd60 a2 s1.1.length c1 s1.1, box b4 60 [iV x3.From, iV x3.To, iV x3.Delay, iV x3.Tokens]] := H19
      refine Zc (x8) (fun hb6 => ?_) (fun hb6 => ?_)
      ·have gs2 := (M.ite_some gs2).1 hb6
       refine Zs ?_
       obtain ⟨x11, hx7, gs2⟩ := M.bind_some gs2
       obtain ⟨hx7l, hx7u, hx7⟩ := M.idx_some hx7
       obtain ⟨x12, hx8, gs2⟩ := M.bind_some gs2
       obtain ⟨hx8l, hx8u, hx8⟩ := M.idx_some hx8
       refine Run_D (fun x => Hold h x [box b1 28 [iV g.Events, .slice agPlaces g.Places.length cgPlaces], box b2 28 [iV 0, .slice none 0 0], box b3 28 [iV g.Events, .slice a2 s1.1.length c1], own cd60 a2 s1.1.length c1 s1.1, box b4 60 [iV x3.From, iV x3.To, iV x3.Delay, iV x3.Tokens]]) (fun x => Hold h x [box b1 28 [iV g.Events, .slice agPlaces g.Places.length cgPlaces], box b2 28 [iV 0, .slice none 0 0], box b3 28 [iV g.Events, .slice a2 s1.1.length c1], own cd60 a2 s1.1.length c1 s1.1, box b4 60 [iV x3.From, iV x3.To, iV x3.Delay, iV x3.Tokens]]) mixed (by kernel_rfl) H20 Hold.stable (fun x Hy => (show Hold h x [box b1 28 [iV g.Events, .slice agPlaces g.Places.length cgPlaces], box b2 28 [iV 0, .slice none 0 0], box b3 28 [iV g.Events, .slice a2 s1.1.length c1], own cd60 a2 s1.1.length c1 s1.1, box b4 60 [iV x3.From, iV x3.To, iV x3.Delay, iV x3.Tokens]] from Hy).pk [0, 1, 2, 3, 4]) ?_
       refine ZB 14 [.pointer (some ⟨b3, 1, none⟩)] 0 ?_
       refine ZY 13 1 (.slice a2 s1.1.length c1) (fun hx Hx => (YE.of (Zl 26 (⟨b3, 1, none⟩) (.slice a2 s1.1.length c1) (Hx.cell 2 rfl rfl)))) ?_
       refine ZB 11 [iV x4, .pointer (some ⟨b3, 1, none⟩)] 2 ?_
       refine ZY 10 4 (.slice a2 s1.1.length c1) (fun hx Hx => (YE.of (Zl 26 (⟨b3, 1, none⟩) (.slice a2 s1.1.length c1) (Hx.cell 2 rfl rfl)))) ?_
       refine ZB 9 [iV x4] 5 ?_
       refine ZY 8 6 (.pointer (some (adr a2 (x4.toNat * 4)))) (fun hx Hx => (YE.of (Zi 26 60 4 (a2) (s1.1.length) (c1) .i64 (x4) Try.underlying26 ((H20.rd 3 rfl).cell hx7).1 hx7l hx7u))) ?_
       refine ZB 7 [.pointer (some ((adr a2 (x4.toNat * 4)).add 2))] 7 ?_
       refine ZY 6 8 (iV x11.Delay) (fun hx Hx => (YE.of (Zl 2 ((adr a2 (x4.toNat * 4)).add 2) (iV x11.Delay) (cd60_f2 (Hx.rd 3 rfl) hx7)))) ?_
       refine ZB 5 [.pointer (some ⟨b4, 2, none⟩)] 9 ?_
       refine ZY 4 10 (iV x3.Delay) (fun hx Hx => (YE.of (Zl 2 (⟨b4, 2, none⟩) (iV x3.Delay) (Hx.cell 4 rfl rfl)))) ?_
       refine ZB 3 [iV (mx x11.Delay x3.Delay)] 11 ?_
       refine ZY 2 12 (.pointer (some (adr a2 (x4.toNat * 4)))) (fun hx Hx => (YE.of (Zi 26 60 4 (a2) (s1.1.length) (c1) .i64 (x4) Try.underlying26 ((H20.rd 3 rfl).cell hx8).1 hx8l hx8u))) ?_
       refine ZB 1 [.pointer (some ((adr a2 (x4.toNat * 4)).add 2))] 13 ?_
       refine ZT 14 (fun h16 H21 => ?_)
       have H22 : Hold h h16 [box b1 28 [iV g.Events, .slice agPlaces g.Places.length cgPlaces], box b2 28 [iV 0, .slice none 0 0], box b3 28 [iV g.Events, .slice a2 s1.1.length c1], own cd60 a2 s1.1.length c1 s1.1, box b4 60 [iV x3.From, iV x3.To, iV x3.Delay, iV x3.Tokens]] := H21
       obtain ⟨l1, hu1, gs2⟩ := M.bind_some gs2
       have hu1 := M.upd_some hu1
       have H24 : Hold h h16 [own cd60 a2 s1.1.length c1 s1.1, box b1 28 [iV g.Events, .slice agPlaces g.Places.length cgPlaces], box b2 28 [iV 0, .slice none 0 0], box b3 28 [iV g.Events, .slice a2 s1.1.length c1], box b4 60 [iV x3.From, iV x3.To, iV x3.Delay, iV x3.Tokens]] := H22.pk [3, 0, 1, 2, 4]
       refine Ze ?_
       refine E_putF (C := cd60) (t := 2) (sz := 4) (f := 2) (j := x4) (y := x12) (y' := (⟨x12.From, x12.To, (mx x11.Delay x3.Delay), x12.Tokens⟩ : TPlace)) (v := iV (mx x11.Delay x3.Delay)) H24 (by kernel_rfl) rfl (by kernel_rfl) rfl rfl (fun _ vs G o => by obtain ⟨rfl, rfl⟩ := o; exact ⟨rfl, rfl⟩) (by kernel_rfl) hx8 hu1 (fun h17 H23 => ?_)
       refine Zx ?_
       refine Zk [1, 2, 4, 5] [(1, pV b1), (2, pV b2), (4, pV b3), (5, iV s1.2)] ?_
       refine Run_exit (k' := _) rfl ?_
       have hn5 := (H23.len 0 rfl)
       have H122 : Hold h h17 [own cd60 a2 l1.length c1 l1, box b1 28 [iV g.Events, .slice agPlaces g.Places.length cgPlaces], box b2 28 [iV 0, .slice none 0 0], box b3 28 [iV g.Events, .slice a2 l1.length c1], box b4 60 [iV x3.From, iV x3.To, iV x3.Delay, iV x3.Tokens]] := by rw [hn5]; exact H23
       have H123 : Hold h h17 [box b1 28 [iV g.Events, .slice agPlaces g.Places.length cgPlaces], box b2 28 [iV 0, .slice none 0 0], box b3 28 [iV g.Events, .slice a2 l1.length c1], own cd60 a2 l1.length c1 l1] := H122.pk [1, 2, 3, 0]
       have gs2 := M.ret_some gs2
       subst gs2
       exact Run_fall [1, 2, 4, 5] (by first | (rw [hn5]; kernel_rfl) | (simp only [hn5]; kernel_rfl) | kernel_rfl) ⟨a2, c1, rfl, H123⟩
      ·have gs2 := (M.ite_some gs2).2 hb6
       refine Run_skip ?_
       obtain ⟨s4, gs4, gs2⟩ := M.bind_some gs2
       refine Run_join (fun L' h' => ∃ (a18 : Option Addr), ∃ (c12 : Nat), L' = [(1, pV b1), (2, pV b2), (4, pV b3), (5, iV s1.2)] ∧ Hold h h' [box b1 28 [iV g.Events, .slice agPlaces g.Places.length cgPlaces], box b2 28 [iV 0, .slice none 0 0], box b3 28 [iV g.Events, .slice a18 s4.length c12], own cd60 a18 s4.length c12 s4]) ?_ ?_
       ·rintro _ h49 ⟨a18, c12, rfl, H81⟩
        refine Run_blk ?_
        have H124 : Hold h h49 [own cd60 a18 s4.length c12 s4, box b1 28 [iV g.Events, .slice agPlaces g.Places.length cgPlaces], box b2 28 [iV 0, .slice none 0 0], box b3 28 [iV g.Events, .slice a18 s4.length c12]] := H81.pk [3, 0, 1, 2]
        have H125 : Hold h h49 [box b1 28 [iV g.Events, .slice agPlaces g.Places.length cgPlaces], box b2 28 [iV 0, .slice none 0 0], box b3 28 [iV g.Events, .slice a18 s4.length c12], own cd60 a18 s4.length c12 s4] := H124.pk [1, 2, 3, 0]
        have gs2 := M.ret_some gs2
        subst gs2
        exact Zf [1, 2, 4, 5] ⟨a18, c12, rfl, H125⟩
       ·obtain ⟨x15, hx11, gs4⟩ := M.bind_some gs4
        obtain ⟨hx11a, hx11b, hx11c, hx11d⟩ := M.sub_some hx11
        have hn3 : x15.length = x4.toNat - (0 : Int).toNat := by rw [hx11d, List.length_take, List.length_drop]; omega
        obtain ⟨x16, hx12, gs4⟩ := M.bind_some gs4
        obtain ⟨hx12a, hx12b, hx12c, hx12d⟩ := M.sub_some hx12
        have hn4 : x16.length = (s1.1.length : Int).toNat - (x4 : Int).toNat := by rw [hx12d, List.length_take, List.length_drop]; omega
        refine Run_D (fun x => Hold h x [box b1 28 [iV g.Events, .slice agPlaces g.Places.length cgPlaces], box b2 28 [iV 0, .slice none 0 0], box b3 28 [iV g.Events, .slice a2 s1.1.length c1], own cd60 a2 s1.1.length c1 s1.1, box b4 60 [iV x3.From, iV x3.To, iV x3.Delay, iV x3.Tokens]]) (fun x => Hold h x [box b1 28 [iV g.Events, .slice agPlaces g.Places.length cgPlaces], box b2 28 [iV 0, .slice none 0 0], box b3 28 [iV g.Events, .slice a2 s1.1.length c1], own cd60 a2 s1.1.length c1 s1.1, box b4 60 [iV x3.From, iV x3.To, iV x3.Delay, iV x3.Tokens]]) mixed (by kernel_rfl) H20 Hold.stable (fun x Hy => (show Hold h x [box b1 28 [iV g.Events, .slice agPlaces g.Places.length cgPlaces], box b2 28 [iV 0, .slice none 0 0], box b3 28 [iV g.Events, .slice a2 s1.1.length c1], own cd60 a2 s1.1.length c1 s1.1, box b4 60 [iV x3.From, iV x3.To, iV x3.Delay, iV x3.Tokens]] from Hy).pk [0, 1, 2, 3, 4]) ?_
        refine ZB 15 [.pointer (some ⟨b3, 1, none⟩)] 1 ?_
        refine ZY 14 2 (.slice a2 s1.1.length c1) (fun hx Hx => (YE.of (Zl 26 (⟨b3, 1, none⟩) (.slice a2 s1.1.length c1) (Hx.cell 2 rfl rfl)))) ?_
        refine ZB 13 [iV x4] 3 ?_
        refine ZY 12 4 (.slice (sliceA a2 c1 0 4) (x4.toNat - (0 : Int).toNat) (c1 - 0)) (fun hx Hx => (YE.of (Y_slice (t := 26) (e := 60) (sz := 4) (a := a2) (n := s1.1.length) (cap := c1) (lo := none) (hi := (some (.i64, x4))) (x := 0) (y := x4) (by kernel_rfl) Try.underlying26 (by kernel_rfl) (Hx.rd 3 rfl).fits rfl rfl hx11a hx11b hx11c))) ?_
        refine ZY 11 6 (.agg #[iV x3.From, iV x3.To, iV x3.Delay, iV x3.Tokens]) (fun hx Hx => (YE.of (Y_loadA (t := 60) (n := 4) (p := ⟨b4, 0, none⟩) (cs := [iV x3.From, iV x3.To, iV x3.Delay, iV x3.Tokens]) (by kernel_rfl) (fun w => by kernel_rfl) (by kernel_rfl) rfl (Hx.cells (n := 4) (off := 0) 4 rfl rfl)))) ?_
        refine ZB 10 [.pointer (some ⟨b3, 1, none⟩)] 9 ?_
        refine ZY 9 10 (.slice a2 s1.1.length c1) (fun hx Hx => (YE.of (Zl 26 (⟨b3, 1, none⟩) (.slice a2 s1.1.length c1) (Hx.cell 2 rfl rfl)))) ?_
        refine ZB 8 [iV x4] 11 ?_
        refine ZY 7 12 (.slice (sliceA a2 c1 x4.toNat 4) ((s1.1.length : Int).toNat - (x4 : Int).toNat) (c1 - x4.toNat)) (fun hx Hx => (YE.of (Y_slice (t := 26) (e := 60) (sz := 4) (a := a2) (n := s1.1.length) (cap := c1) (lo := (some (.i64, x4))) (hi := none) (x := x4) (y := (s1.1.length : Int)) (by kernel_rfl) Try.underlying26 (by kernel_rfl) (Hx.rd 3 rfl).fits rfl rfl hx12a hx12b hx12c))) ?_
        refine DR_e2 6 0 7 (by kernel_rfl) (by kernel_rfl) (by kernel_rfl) (by kernel_rfl) ?_ ?_
        ·intro h18 H25
         have H26 : Hold h h18 [box b1 28 [iV g.Events, .slice agPlaces g.Places.length cgPlaces], box b2 28 [iV 0, .slice none 0 0], box b3 28 [iV g.Events, .slice a2 s1.1.length c1], own cd60 a2 s1.1.length c1 s1.1, box b4 60 [iV x3.From, iV x3.To, iV x3.Delay, iV x3.Tokens]] := H25
         refine E_lit (C := cd60) (n := 0) (l := ([] : List TPlace)) (cs := []) H26 (fun w => by kernel_rfl) (Enc.nil _ _) rfl (by decide) (fun a4 h19 H27 => ?_)
         refine ⟨fun x => Hold h x [box b1 28 [iV g.Events, .slice agPlaces g.Places.length cgPlaces], box b2 28 [iV 0, .slice none 0 0], box b3 28 [iV g.Events, .slice a2 s1.1.length c1], own cd60 a2 s1.1.length c1 s1.1, box b4 60 [iV x3.From, iV x3.To, iV x3.Delay, iV x3.Tokens]], fun x => Hold h x [own cd60 a4 0 0 ([] : List TPlace), box b1 28 [iV g.Events, .slice agPlaces g.Places.length cgPlaces], box b2 28 [iV 0, .slice none 0 0], box b3 28 [iV g.Events, .slice a2 s1.1.length c1], own cd60 a2 s1.1.length c1 s1.1, box b4 60 [iV x3.From, iV x3.To, iV x3.Delay, iV x3.Tokens]], H27, Hold.stable, fun x Hy => (show Hold h x [own cd60 a4 0 0 ([] : List TPlace), box b1 28 [iV g.Events, .slice agPlaces g.Places.length cgPlaces], box b2 28 [iV 0, .slice none 0 0], box b3 28 [iV g.Events, .slice a2 s1.1.length c1], own cd60 a2 s1.1.length c1 s1.1, box b4 60 [iV x3.From, iV x3.To, iV x3.Delay, iV x3.Tokens]] from Hy).pk [1, 2, 3, 4, 5], fun x Hy => (show Hold h x [box b1 28 [iV g.Events, .slice agPlaces g.Places.length cgPlaces], box b2 28 [iV 0, .slice none 0 0], box b3 28 [iV g.Events, .slice a2 s1.1.length c1], own cd60 a2 s1.1.length c1 s1.1, box b4 60 [iV x3.From, iV x3.To, iV x3.Delay, iV x3.Tokens]] from Hy).pk [0, 1, 2, 3, 4], ?_⟩
         refine DR_e2 5 5 7 (by kernel_rfl) (by kernel_rfl) (by kernel_rfl) (by kernel_rfl) ?_ ?_
         ·intro h20 H28
          have H29 : Hold h h20 [own cd60 a4 0 0 ([] : List TPlace), box b1 28 [iV g.Events, .slice agPlaces g.Places.length cgPlaces], box b2 28 [iV 0, .slice none 0 0], box b3 28 [iV g.Events, .slice a2 s1.1.length c1], own cd60 a2 s1.1.length c1 s1.1, box b4 60 [iV x3.From, iV x3.To, iV x3.Delay, iV x3.Tokens]] := H28
          obtain ⟨l2, hl1, gs4⟩ := M.bind_some gs4
          have hl1 := M.app_some hl1
          refine E_appR (C := cd60) (t := 26) (ty := 26) (n := 0) (m := x4.toNat - (0 : Int).toNat) H29 cd60_copies (show Rd _ _ _ _ _ x15 from hx11d ▸ ((H29.rd 4 rfl)).sub (by omega) (by omega)) hn3 cd60_ti rfl Try.underlying26 (by decide) (by kernel_rfl) hl1 (fun a5 c3 h21 H30 => ?_)
          refine ⟨fun x => Hold h x [box b1 28 [iV g.Events, .slice agPlaces g.Places.length cgPlaces], box b2 28 [iV 0, .slice none 0 0], box b3 28 [iV g.Events, .slice a2 s1.1.length c1], own cd60 a2 s1.1.length c1 s1.1, box b4 60 [iV x3.From, iV x3.To, iV x3.Delay, iV x3.Tokens]], fun x => Hold h x [own cd60 a5 l2.length c3 l2, box b1 28 [iV g.Events, .slice agPlaces g.Places.length cgPlaces], box b2 28 [iV 0, .slice none 0 0], box b3 28 [iV g.Events, .slice a2 s1.1.length c1], own cd60 a2 s1.1.length c1 s1.1, box b4 60 [iV x3.From, iV x3.To, iV x3.Delay, iV x3.Tokens]], H30, Hold.stable, fun x Hy => (show Hold h x [own cd60 a5 l2.length c3 l2, box b1 28 [iV g.Events, .slice agPlaces g.Places.length cgPlaces], box b2 28 [iV 0, .slice none 0 0], box b3 28 [iV g.Events, .slice a2 s1.1.length c1], own cd60 a2 s1.1.length c1 s1.1, box b4 60 [iV x3.From, iV x3.To, iV x3.Delay, iV x3.Tokens]] from Hy).pk [1, 2, 3, 4, 5], fun x Hy => (show Hold h x [box b1 28 [iV g.Events, .slice agPlaces g.Places.length cgPlaces], box b2 28 [iV 0, .slice none 0 0], box b3 28 [iV g.Events, .slice a2 s1.1.length c1], own cd60 a2 s1.1.length c1 s1.1, box b4 60 [iV x3.From, iV x3.To, iV x3.Delay, iV x3.Tokens]] from Hy).pk [0, 1, 2, 3, 4], ?_⟩
          refine ZE 4 7 (fun h22 H31 => ?_)
          have H32 : Hold h h22 [own cd60 a5 l2.length c3 l2, box b1 28 [iV g.Events, .slice agPlaces g.Places.length cgPlaces], box b2 28 [iV 0, .slice none 0 0], box b3 28 [iV g.Events, .slice a2 s1.1.length c1], own cd60 a2 s1.1.length c1 s1.1, box b4 60 [iV x3.From, iV x3.To, iV x3.Delay, iV x3.Tokens]] := H31
          refine E_lit (C := cd60) (n := 1) (l := ([x3] : List TPlace)) (cs := [iV x3.From, iV x3.To, iV x3.Delay, iV x3.Tokens]) H32 (fun w => by kernel_rfl) (Enc.consE (cd60_own (x3 : TPlace) _) (Enc.nil _ _) rfl) rfl (by decide) (fun a6 h23 H33 => ?_)
          refine ⟨fun x => Hold h x [box b1 28 [iV g.Events, .slice agPlaces g.Places.length cgPlaces], box b2 28 [iV 0, .slice none 0 0], box b3 28 [iV g.Events, .slice a2 s1.1.length c1], own cd60 a2 s1.1.length c1 s1.1, box b4 60 [iV x3.From, iV x3.To, iV x3.Delay, iV x3.Tokens]], fun x => Hold h x [own cd60 a6 1 1 ([x3] : List TPlace), own cd60 a5 l2.length c3 l2, box b1 28 [iV g.Events, .slice agPlaces g.Places.length cgPlaces], box b2 28 [iV 0, .slice none 0 0], box b3 28 [iV g.Events, .slice a2 s1.1.length c1], own cd60 a2 s1.1.length c1 s1.1, box b4 60 [iV x3.From, iV x3.To, iV x3.Delay, iV x3.Tokens]], H33, Hold.stable, fun x Hy => (show Hold h x [own cd60 a6 1 1 ([x3] : List TPlace), own cd60 a5 l2.length c3 l2, box b1 28 [iV g.Events, .slice agPlaces g.Places.length cgPlaces], box b2 28 [iV 0, .slice none 0 0], box b3 28 [iV g.Events, .slice a2 s1.1.length c1], own cd60 a2 s1.1.length c1 s1.1, box b4 60 [iV x3.From, iV x3.To, iV x3.Delay, iV x3.Tokens]] from Hy).pk [2, 3, 4, 5, 6], fun x Hy => (show Hold h x [box b1 28 [iV g.Events, .slice agPlaces g.Places.length cgPlaces], box b2 28 [iV 0, .slice none 0 0], box b3 28 [iV g.Events, .slice a2 s1.1.length c1], own cd60 a2 s1.1.length c1 s1.1, box b4 60 [iV x3.From, iV x3.To, iV x3.Delay, iV x3.Tokens]] from Hy).pk [0, 1, 2, 3, 4], ?_⟩
          refine ZE 3 8 (fun h24 H34 => ?_)
          have H35 : Hold h h24 [own cd60 a6 1 1 ([x3] : List TPlace), own cd60 a5 l2.length c3 l2, box b1 28 [iV g.Events, .slice agPlaces g.Places.length cgPlaces], box b2 28 [iV 0, .slice none 0 0], box b3 28 [iV g.Events, .slice a2 s1.1.length c1], own cd60 a2 s1.1.length c1 s1.1, box b4 60 [iV x3.From, iV x3.To, iV x3.Delay, iV x3.Tokens]] := H34
          obtain ⟨l3, hl2, gs4⟩ := M.bind_some gs4
          have hl2 := M.app_some hl2
          have H36 : Hold h h24 [own cd60 a5 l2.length c3 l2, own cd60 a6 1 1 ([x3] : List TPlace), box b1 28 [iV g.Events, .slice agPlaces g.Places.length cgPlaces], box b2 28 [iV 0, .slice none 0 0], box b3 28 [iV g.Events, .slice a2 s1.1.length c1], own cd60 a2 s1.1.length c1 s1.1, box b4 60 [iV x3.From, iV x3.To, iV x3.Delay, iV x3.Tokens]] := H35.pk [1, 0, 2, 3, 4, 5, 6]
          have H37 : Hold h h24 [own cd60 a6 1 1 ([x3] : List TPlace), own cd60 a5 l2.length c3 l2, box b1 28 [iV g.Events, .slice agPlaces g.Places.length cgPlaces], box b2 28 [iV 0, .slice none 0 0], box b3 28 [iV g.Events, .slice a2 s1.1.length c1], own cd60 a2 s1.1.length c1 s1.1, box b4 60 [iV x3.From, iV x3.To, iV x3.Delay, iV x3.Tokens]] := H36.pk [1, 0, 2, 3, 4, 5, 6]
          have H38 : Hold h h24 [own cd60 a5 l2.length c3 l2, own cd60 a6 1 1 ([x3] : List TPlace), box b1 28 [iV g.Events, .slice agPlaces g.Places.length cgPlaces], box b2 28 [iV 0, .slice none 0 0], box b3 28 [iV g.Events, .slice a2 s1.1.length c1], own cd60 a2 s1.1.length c1 s1.1, box b4 60 [iV x3.From, iV x3.To, iV x3.Delay, iV x3.Tokens]] := H37.pk [1, 0, 2, 3, 4, 5, 6]
          refine E_app (C := cd60) (t := 26) (ty := 26) (n := l2.length) (m := 1) H38 cd60_ti rfl Try.underlying26 (by decide) (by kernel_rfl) hl2 (fun a7 c4 h25 H39 => ?_)
          refine ⟨fun x => Hold h x [box b1 28 [iV g.Events, .slice agPlaces g.Places.length cgPlaces], box b2 28 [iV 0, .slice none 0 0], box b3 28 [iV g.Events, .slice a2 s1.1.length c1], own cd60 a2 s1.1.length c1 s1.1, box b4 60 [iV x3.From, iV x3.To, iV x3.Delay, iV x3.Tokens], own cd60 a7 l3.length c4 l3], fun x => Hold h x [own cd60 a7 l3.length c4 l3, box b1 28 [iV g.Events, .slice agPlaces g.Places.length cgPlaces], box b2 28 [iV 0, .slice none 0 0], box b3 28 [iV g.Events, .slice a2 s1.1.length c1], own cd60 a2 s1.1.length c1 s1.1, box b4 60 [iV x3.From, iV x3.To, iV x3.Delay, iV x3.Tokens]], H39, Hold.stable, fun x Hy => (show Hold h x [own cd60 a7 l3.length c4 l3, box b1 28 [iV g.Events, .slice agPlaces g.Places.length cgPlaces], box b2 28 [iV 0, .slice none 0 0], box b3 28 [iV g.Events, .slice a2 s1.1.length c1], own cd60 a2 s1.1.length c1 s1.1, box b4 60 [iV x3.From, iV x3.To, iV x3.Delay, iV x3.Tokens]] from Hy).pk [1, 2, 3, 4, 5, 0], fun x Hy => (show Hold h x [box b1 28 [iV g.Events, .slice agPlaces g.Places.length cgPlaces], box b2 28 [iV 0, .slice none 0 0], box b3 28 [iV g.Events, .slice a2 s1.1.length c1], own cd60 a2 s1.1.length c1 s1.1, box b4 60 [iV x3.From, iV x3.To, iV x3.Delay, iV x3.Tokens], own cd60 a7 l3.length c4 l3] from Hy).pk [0, 1, 2, 3, 4], ?_⟩
          refine ZT 13 (fun h26 H40 => ?_)
          have H41 : Hold h h26 [own cd60 a7 l3.length c4 l3, box b1 28 [iV g.Events, .slice agPlaces g.Places.length cgPlaces], box b2 28 [iV 0, .slice none 0 0], box b3 28 [iV g.Events, .slice a2 s1.1.length c1], own cd60 a2 s1.1.length c1 s1.1, box b4 60 [iV x3.From, iV x3.To, iV x3.Delay, iV x3.Tokens]] := H40
          obtain ⟨l4, hl3, gs4⟩ := M.bind_some gs4
          have hl3 := M.app_some hl3
          refine Ze ?_
          refine E_appR (C := cd60) (t := 26) (ty := 26) (n := l3.length) (m := (s1.1.length : Int).toNat - (x4 : Int).toNat) H41 cd60_copies (show Rd _ _ _ _ _ x16 from hx12d ▸ ((H41.rd 4 rfl)).sub (by omega) (by omega)) hn4 cd60_ti rfl Try.underlying26 (by decide) (by kernel_rfl) hl3 (fun a8 c5 h27 H42 => ?_)
          refine Zr [.pointer (some ⟨b3, 1, none⟩)] 14 ?_
          have H44 : Hold h h27 [box b3 28 [iV g.Events, .slice a2 s1.1.length c1], own cd60 a8 l4.length c5 l4, box b1 28 [iV g.Events, .slice agPlaces g.Places.length cgPlaces], box b2 28 [iV 0, .slice none 0 0], own cd60 a2 s1.1.length c1 s1.1, box b4 60 [iV x3.From, iV x3.To, iV x3.Delay, iV x3.Tokens]] := H42.pk [3, 0, 1, 2, 4, 5]
          refine Ze ?_
          refine ZP 26 1 [iV g.Events, .slice a8 l4.length c5] (.slice a8 l4.length c5) H44 (fun h28 H43 => ?_)
          refine Zx ?_
          refine Zk [1, 2, 4, 5] [(1, pV b1), (2, pV b2), (4, pV b3), (5, iV s1.2)] ?_
          have H114 : Hold h h28 [own cd60 a8 l4.length c5 l4, box b3 28 [iV g.Events, .slice a8 l4.length c5], box b1 28 [iV g.Events, .slice agPlaces g.Places.length cgPlaces], box b2 28 [iV 0, .slice none 0 0], own cd60 a2 s1.1.length c1 s1.1, box b4 60 [iV x3.From, iV x3.To, iV x3.Delay, iV x3.Tokens]] := H43.pk [1, 0, 2, 3, 4, 5]
          have H115 : Hold h h28 [box b1 28 [iV g.Events, .slice agPlaces g.Places.length cgPlaces], box b2 28 [iV 0, .slice none 0 0], box b3 28 [iV g.Events, .slice a8 l4.length c5], own cd60 a8 l4.length c5 l4] := H114.pk [2, 3, 1, 0]
          have gs4 := M.ret_some gs4
          subst gs4
          exact Zf [1, 2, 4, 5] ⟨a8, c5, rfl, H115⟩
         ·intro h29 H45
          have H46 : Hold h h29 [own cd60 a4 0 0 ([] : List TPlace), box b1 28 [iV g.Events, .slice agPlaces g.Places.length cgPlaces], box b2 28 [iV 0, .slice none 0 0], box b3 28 [iV g.Events, .slice a2 s1.1.length c1], own cd60 a2 s1.1.length c1 s1.1, box b4 60 [iV x3.From, iV x3.To, iV x3.Delay, iV x3.Tokens]] := H45
          refine E_lit (C := cd60) (n := 1) (l := ([x3] : List TPlace)) (cs := [iV x3.From, iV x3.To, iV x3.Delay, iV x3.Tokens]) H46 (fun w => by kernel_rfl) (Enc.consE (cd60_own (x3 : TPlace) _) (Enc.nil _ _) rfl) rfl (by decide) (fun a9 h30 H47 => ?_)
          refine ⟨fun x => Hold h x [box b1 28 [iV g.Events, .slice agPlaces g.Places.length cgPlaces], box b2 28 [iV 0, .slice none 0 0], box b3 28 [iV g.Events, .slice a2 s1.1.length c1], own cd60 a2 s1.1.length c1 s1.1, box b4 60 [iV x3.From, iV x3.To, iV x3.Delay, iV x3.Tokens]], fun x => Hold h x [own cd60 a9 1 1 ([x3] : List TPlace), own cd60 a4 0 0 ([] : List TPlace), box b1 28 [iV g.Events, .slice agPlaces g.Places.length cgPlaces], box b2 28 [iV 0, .slice none 0 0], box b3 28 [iV g.Events, .slice a2 s1.1.length c1], own cd60 a2 s1.1.length c1 s1.1, box b4 60 [iV x3.From, iV x3.To, iV x3.Delay, iV x3.Tokens]], H47, Hold.stable, fun x Hy => (show Hold h x [own cd60 a9 1 1 ([x3] : List TPlace), own cd60 a4 0 0 ([] : List TPlace), box b1 28 [iV g.Events, .slice agPlaces g.Places.length cgPlaces], box b2 28 [iV 0, .slice none 0 0], box b3 28 [iV g.Events, .slice a2 s1.1.length c1], own cd60 a2 s1.1.length c1 s1.1, box b4 60 [iV x3.From, iV x3.To, iV x3.Delay, iV x3.Tokens]] from Hy).pk [2, 3, 4, 5, 6], fun x Hy => (show Hold h x [box b1 28 [iV g.Events, .slice agPlaces g.Places.length cgPlaces], box b2 28 [iV 0, .slice none 0 0], box b3 28 [iV g.Events, .slice a2 s1.1.length c1], own cd60 a2 s1.1.length c1 s1.1, box b4 60 [iV x3.From, iV x3.To, iV x3.Delay, iV x3.Tokens]] from Hy).pk [0, 1, 2, 3, 4], ?_⟩
          refine ZE 4 5 (fun h31 H48 => ?_)
          have H49 : Hold h h31 [own cd60 a9 1 1 ([x3] : List TPlace), own cd60 a4 0 0 ([] : List TPlace), box b1 28 [iV g.Events, .slice agPlaces g.Places.length cgPlaces], box b2 28 [iV 0, .slice none 0 0], box b3 28 [iV g.Events, .slice a2 s1.1.length c1], own cd60 a2 s1.1.length c1 s1.1, box b4 60 [iV x3.From, iV x3.To, iV x3.Delay, iV x3.Tokens]] := H48
          obtain ⟨l5, hl4, gs4⟩ := M.bind_some gs4
          have hl4 := M.app_some hl4
          have H50 : Hold h h31 [own cd60 a4 0 0 ([] : List TPlace), own cd60 a9 1 1 ([x3] : List TPlace), box b1 28 [iV g.Events, .slice agPlaces g.Places.length cgPlaces], box b2 28 [iV 0, .slice none 0 0], box b3 28 [iV g.Events, .slice a2 s1.1.length c1], own cd60 a2 s1.1.length c1 s1.1, box b4 60 [iV x3.From, iV x3.To, iV x3.Delay, iV x3.Tokens]] := H49.pk [1, 0, 2, 3, 4, 5, 6]
          refine E_appR (C := cd60) (t := 26) (ty := 26) (n := 0) (m := x4.toNat - (0 : Int).toNat) H50 cd60_copies (show Rd _ _ _ _ _ x15 from hx11d ▸ ((H50.rd 5 rfl)).sub (by omega) (by omega)) hn3 cd60_ti rfl Try.underlying26 (by decide) (by kernel_rfl) hl4 (fun a10 c6 h32 H51 => ?_)
          refine ⟨fun x => Hold h x [box b1 28 [iV g.Events, .slice agPlaces g.Places.length cgPlaces], box b2 28 [iV 0, .slice none 0 0], box b3 28 [iV g.Events, .slice a2 s1.1.length c1], own cd60 a2 s1.1.length c1 s1.1, box b4 60 [iV x3.From, iV x3.To, iV x3.Delay, iV x3.Tokens]], fun x => Hold h x [own cd60 a10 l5.length c6 l5, own cd60 a9 1 1 ([x3] : List TPlace), box b1 28 [iV g.Events, .slice agPlaces g.Places.length cgPlaces], box b2 28 [iV 0, .slice none 0 0], box b3 28 [iV g.Events, .slice a2 s1.1.length c1], own cd60 a2 s1.1.length c1 s1.1, box b4 60 [iV x3.From, iV x3.To, iV x3.Delay, iV x3.Tokens]], H51, Hold.stable, fun x Hy => (show Hold h x [own cd60 a10 l5.length c6 l5, own cd60 a9 1 1 ([x3] : List TPlace), box b1 28 [iV g.Events, .slice agPlaces g.Places.length cgPlaces], box b2 28 [iV 0, .slice none 0 0], box b3 28 [iV g.Events, .slice a2 s1.1.length c1], own cd60 a2 s1.1.length c1 s1.1, box b4 60 [iV x3.From, iV x3.To, iV x3.Delay, iV x3.Tokens]] from Hy).pk [2, 3, 4, 5, 6], fun x Hy => (show Hold h x [box b1 28 [iV g.Events, .slice agPlaces g.Places.length cgPlaces], box b2 28 [iV 0, .slice none 0 0], box b3 28 [iV g.Events, .slice a2 s1.1.length c1], own cd60 a2 s1.1.length c1 s1.1, box b4 60 [iV x3.From, iV x3.To, iV x3.Delay, iV x3.Tokens]] from Hy).pk [0, 1, 2, 3, 4], ?_⟩
          refine ZE 3 8 (fun h33 H52 => ?_)
          have H53 : Hold h h33 [own cd60 a10 l5.length c6 l5, own cd60 a9 1 1 ([x3] : List TPlace), box b1 28 [iV g.Events, .slice agPlaces g.Places.length cgPlaces], box b2 28 [iV 0, .slice none 0 0], box b3 28 [iV g.Events, .slice a2 s1.1.length c1], own cd60 a2 s1.1.length c1 s1.1, box b4 60 [iV x3.From, iV x3.To, iV x3.Delay, iV x3.Tokens]] := H52
          obtain ⟨l6, hl5, gs4⟩ := M.bind_some gs4
          have hl5 := M.app_some hl5
          have H54 : Hold h h33 [own cd60 a9 1 1 ([x3] : List TPlace), own cd60 a10 l5.length c6 l5, box b1 28 [iV g.Events, .slice agPlaces g.Places.length cgPlaces], box b2 28 [iV 0, .slice none 0 0], box b3 28 [iV g.Events, .slice a2 s1.1.length c1], own cd60 a2 s1.1.length c1 s1.1, box b4 60 [iV x3.From, iV x3.To, iV x3.Delay, iV x3.Tokens]] := H53.pk [1, 0, 2, 3, 4, 5, 6]
          have H55 : Hold h h33 [own cd60 a10 l5.length c6 l5, own cd60 a9 1 1 ([x3] : List TPlace), box b1 28 [iV g.Events, .slice agPlaces g.Places.length cgPlaces], box b2 28 [iV 0, .slice none 0 0], box b3 28 [iV g.Events, .slice a2 s1.1.length c1], own cd60 a2 s1.1.length c1 s1.1, box b4 60 [iV x3.From, iV x3.To, iV x3.Delay, iV x3.Tokens]] := H54.pk [1, 0, 2, 3, 4, 5, 6]
          refine E_app (C := cd60) (t := 26) (ty := 26) (n := l5.length) (m := 1) H55 cd60_ti rfl Try.underlying26 (by decide) (by kernel_rfl) hl5 (fun a11 c7 h34 H56 => ?_)
          refine ⟨fun x => Hold h x [box b1 28 [iV g.Events, .slice agPlaces g.Places.length cgPlaces], box b2 28 [iV 0, .slice none 0 0], box b3 28 [iV g.Events, .slice a2 s1.1.length c1], own cd60 a2 s1.1.length c1 s1.1, box b4 60 [iV x3.From, iV x3.To, iV x3.Delay, iV x3.Tokens], own cd60 a11 l6.length c7 l6], fun x => Hold h x [own cd60 a11 l6.length c7 l6, box b1 28 [iV g.Events, .slice agPlaces g.Places.length cgPlaces], box b2 28 [iV 0, .slice none 0 0], box b3 28 [iV g.Events, .slice a2 s1.1.length c1], own cd60 a2 s1.1.length c1 s1.1, box b4 60 [iV x3.From, iV x3.To, iV x3.Delay, iV x3.Tokens]], H56, Hold.stable, fun x Hy => (show Hold h x [own cd60 a11 l6.length c7 l6, box b1 28 [iV g.Events, .slice agPlaces g.Places.length cgPlaces], box b2 28 [iV 0, .slice none 0 0], box b3 28 [iV g.Events, .slice a2 s1.1.length c1], own cd60 a2 s1.1.length c1 s1.1, box b4 60 [iV x3.From, iV x3.To, iV x3.Delay, iV x3.Tokens]] from Hy).pk [1, 2, 3, 4, 5, 0], fun x Hy => (show Hold h x [box b1 28 [iV g.Events, .slice agPlaces g.Places.length cgPlaces], box b2 28 [iV 0, .slice none 0 0], box b3 28 [iV g.Events, .slice a2 s1.1.length c1], own cd60 a2 s1.1.length c1 s1.1, box b4 60 [iV x3.From, iV x3.To, iV x3.Delay, iV x3.Tokens], own cd60 a11 l6.length c7 l6] from Hy).pk [0, 1, 2, 3, 4], ?_⟩
          refine ZT 13 (fun h35 H57 => ?_)
          have H58 : Hold h h35 [own cd60 a11 l6.length c7 l6, box b1 28 [iV g.Events, .slice agPlaces g.Places.length cgPlaces], box b2 28 [iV 0, .slice none 0 0], box b3 28 [iV g.Events, .slice a2 s1.1.length c1], own cd60 a2 s1.1.length c1 s1.1, box b4 60 [iV x3.From, iV x3.To, iV x3.Delay, iV x3.Tokens]] := H57
          obtain ⟨l7, hl6, gs4⟩ := M.bind_some gs4
          have hl6 := M.app_some hl6
          refine Ze ?_
          refine E_appR (C := cd60) (t := 26) (ty := 26) (n := l6.length) (m := (s1.1.length : Int).toNat - (x4 : Int).toNat) H58 cd60_copies (show Rd _ _ _ _ _ x16 from hx12d ▸ ((H58.rd 4 rfl)).sub (by omega) (by omega)) hn4 cd60_ti rfl Try.underlying26 (by decide) (by kernel_rfl) hl6 (fun a12 c8 h36 H59 => ?_)
          refine Zr [.pointer (some ⟨b3, 1, none⟩)] 14 ?_
          have H61 : Hold h h36 [box b3 28 [iV g.Events, .slice a2 s1.1.length c1], own cd60 a12 l7.length c8 l7, box b1 28 [iV g.Events, .slice agPlaces g.Places.length cgPlaces], box b2 28 [iV 0, .slice none 0 0], own cd60 a2 s1.1.length c1 s1.1, box b4 60 [iV x3.From, iV x3.To, iV x3.Delay, iV x3.Tokens]] := H59.pk [3, 0, 1, 2, 4, 5]
          refine Ze ?_
          refine ZP 26 1 [iV g.Events, .slice a12 l7.length c8] (.slice a12 l7.length c8) H61 (fun h37 H60 => ?_)
          refine Zx ?_
          refine Zk [1, 2, 4, 5] [(1, pV b1), (2, pV b2), (4, pV b3), (5, iV s1.2)] ?_
          have H116 : Hold h h37 [own cd60 a12 l7.length c8 l7, box b3 28 [iV g.Events, .slice a12 l7.length c8], box b1 28 [iV g.Events, .slice agPlaces g.Places.length cgPlaces], box b2 28 [iV 0, .slice none 0 0], own cd60 a2 s1.1.length c1 s1.1, box b4 60 [iV x3.From, iV x3.To, iV x3.Delay, iV x3.Tokens]] := H60.pk [1, 0, 2, 3, 4, 5]
          have H117 : Hold h h37 [box b1 28 [iV g.Events, .slice agPlaces g.Places.length cgPlaces], box b2 28 [iV 0, .slice none 0 0], box b3 28 [iV g.Events, .slice a12 l7.length c8], own cd60 a12 l7.length c8 l7] := H116.pk [2, 3, 1, 0]
          have gs4 := M.ret_some gs4
          subst gs4
          exact Zf [1, 2, 4, 5] ⟨a12, c8, rfl, H117⟩
        ·intro h38 H62
         have H63 : Hold h h38 [box b1 28 [iV g.Events, .slice agPlaces g.Places.length cgPlaces], box b2 28 [iV 0, .slice none 0 0], box b3 28 [iV g.Events, .slice a2 s1.1.length c1], own cd60 a2 s1.1.length c1 s1.1, box b4 60 [iV x3.From, iV x3.To, iV x3.Delay, iV x3.Tokens]] := H62
         refine E_lit (C := cd60) (n := 1) (l := ([x3] : List TPlace)) (cs := [iV x3.From, iV x3.To, iV x3.Delay, iV x3.Tokens]) H63 (fun w => by kernel_rfl) (Enc.consE (cd60_own (x3 : TPlace) _) (Enc.nil _ _) rfl) rfl (by decide) (fun a13 h39 H64 => ?_)
         refine ⟨fun x => Hold h x [box b1 28 [iV g.Events, .slice agPlaces g.Places.length cgPlaces], box b2 28 [iV 0, .slice none 0 0], box b3 28 [iV g.Events, .slice a2 s1.1.length c1], own cd60 a2 s1.1.length c1 s1.1, box b4 60 [iV x3.From, iV x3.To, iV x3.Delay, iV x3.Tokens]], fun x => Hold h x [own cd60 a13 1 1 ([x3] : List TPlace), box b1 28 [iV g.Events, .slice agPlaces g.Places.length cgPlaces], box b2 28 [iV 0, .slice none 0 0], box b3 28 [iV g.Events, .slice a2 s1.1.length c1], own cd60 a2 s1.1.length c1 s1.1, box b4 60 [iV x3.From, iV x3.To, iV x3.Delay, iV x3.Tokens]], H64, Hold.stable, fun x Hy => (show Hold h x [own cd60 a13 1 1 ([x3] : List TPlace), box b1 28 [iV g.Events, .slice agPlaces g.Places.length cgPlaces], box b2 28 [iV 0, .slice none 0 0], box b3 28 [iV g.Events, .slice a2 s1.1.length c1], own cd60 a2 s1.1.length c1 s1.1, box b4 60 [iV x3.From, iV x3.To, iV x3.Delay, iV x3.Tokens]] from Hy).pk [1, 2, 3, 4, 5], fun x Hy => (show Hold h x [box b1 28 [iV g.Events, .slice agPlaces g.Places.length cgPlaces], box b2 28 [iV 0, .slice none 0 0], box b3 28 [iV g.Events, .slice a2 s1.1.length c1], own cd60 a2 s1.1.length c1 s1.1, box b4 60 [iV x3.From, iV x3.To, iV x3.Delay, iV x3.Tokens]] from Hy).pk [0, 1, 2, 3, 4], ?_⟩
         refine ZE 5 0 (fun h40 H65 => ?_)
         have H66 : Hold h h40 [own cd60 a13 1 1 ([x3] : List TPlace), box b1 28 [iV g.Events, .slice agPlaces g.Places.length cgPlaces], box b2 28 [iV 0, .slice none 0 0], box b3 28 [iV g.Events, .slice a2 s1.1.length c1], own cd60 a2 s1.1.length c1 s1.1, box b4 60 [iV x3.From, iV x3.To, iV x3.Delay, iV x3.Tokens]] := H65
         refine E_lit (C := cd60) (n := 0) (l := ([] : List TPlace)) (cs := []) H66 (fun w => by kernel_rfl) (Enc.nil _ _) rfl (by decide) (fun a14 h41 H67 => ?_)
         refine ⟨fun x => Hold h x [box b1 28 [iV g.Events, .slice agPlaces g.Places.length cgPlaces], box b2 28 [iV 0, .slice none 0 0], box b3 28 [iV g.Events, .slice a2 s1.1.length c1], own cd60 a2 s1.1.length c1 s1.1, box b4 60 [iV x3.From, iV x3.To, iV x3.Delay, iV x3.Tokens]], fun x => Hold h x [own cd60 a14 0 0 ([] : List TPlace), own cd60 a13 1 1 ([x3] : List TPlace), box b1 28 [iV g.Events, .slice agPlaces g.Places.length cgPlaces], box b2 28 [iV 0, .slice none 0 0], box b3 28 [iV g.Events, .slice a2 s1.1.length c1], own cd60 a2 s1.1.length c1 s1.1, box b4 60 [iV x3.From, iV x3.To, iV x3.Delay, iV x3.Tokens]], H67, Hold.stable, fun x Hy => (show Hold h x [own cd60 a14 0 0 ([] : List TPlace), own cd60 a13 1 1 ([x3] : List TPlace), box b1 28 [iV g.Events, .slice agPlaces g.Places.length cgPlaces], box b2 28 [iV 0, .slice none 0 0], box b3 28 [iV g.Events, .slice a2 s1.1.length c1], own cd60 a2 s1.1.length c1 s1.1, box b4 60 [iV x3.From, iV x3.To, iV x3.Delay, iV x3.Tokens]] from Hy).pk [2, 3, 4, 5, 6], fun x Hy => (show Hold h x [box b1 28 [iV g.Events, .slice agPlaces g.Places.length cgPlaces], box b2 28 [iV 0, .slice none 0 0], box b3 28 [iV g.Events, .slice a2 s1.1.length c1], own cd60 a2 s1.1.length c1 s1.1, box b4 60 [iV x3.From, iV x3.To, iV x3.Delay, iV x3.Tokens]] from Hy).pk [0, 1, 2, 3, 4], ?_⟩
         refine ZE 4 5 (fun h42 H68 => ?_)
         have H69 : Hold h h42 [own cd60 a14 0 0 ([] : List TPlace), own cd60 a13 1 1 ([x3] : List TPlace), box b1 28 [iV g.Events, .slice agPlaces g.Places.length cgPlaces], box b2 28 [iV 0, .slice none 0 0], box b3 28 [iV g.Events, .slice a2 s1.1.length c1], own cd60 a2 s1.1.length c1 s1.1, box b4 60 [iV x3.From, iV x3.To, iV x3.Delay, iV x3.Tokens]] := H68
         obtain ⟨l8, hl7, gs4⟩ := M.bind_some gs4
         have hl7 := M.app_some hl7
         refine E_appR (C := cd60) (t := 26) (ty := 26) (n := 0) (m := x4.toNat - (0 : Int).toNat) H69 cd60_copies (show Rd _ _ _ _ _ x15 from hx11d ▸ ((H69.rd 5 rfl)).sub (by omega) (by omega)) hn3 cd60_ti rfl Try.underlying26 (by decide) (by kernel_rfl) hl7 (fun a15 c9 h43 H70 => ?_)
         refine ⟨fun x => Hold h x [box b1 28 [iV g.Events, .slice agPlaces g.Places.length cgPlaces], box b2 28 [iV 0, .slice none 0 0], box b3 28 [iV g.Events, .slice a2 s1.1.length c1], own cd60 a2 s1.1.length c1 s1.1, box b4 60 [iV x3.From, iV x3.To, iV x3.Delay, iV x3.Tokens]], fun x => Hold h x [own cd60 a15 l8.length c9 l8, own cd60 a13 1 1 ([x3] : List TPlace), box b1 28 [iV g.Events, .slice agPlaces g.Places.length cgPlaces], box b2 28 [iV 0, .slice none 0 0], box b3 28 [iV g.Events, .slice a2 s1.1.length c1], own cd60 a2 s1.1.length c1 s1.1, box b4 60 [iV x3.From, iV x3.To, iV x3.Delay, iV x3.Tokens]], H70, Hold.stable, fun x Hy => (show Hold h x [own cd60 a15 l8.length c9 l8, own cd60 a13 1 1 ([x3] : List TPlace), box b1 28 [iV g.Events, .slice agPlaces g.Places.length cgPlaces], box b2 28 [iV 0, .slice none 0 0], box b3 28 [iV g.Events, .slice a2 s1.1.length c1], own cd60 a2 s1.1.length c1 s1.1, box b4 60 [iV x3.From, iV x3.To, iV x3.Delay, iV x3.Tokens]] from Hy).pk [2, 3, 4, 5, 6], fun x Hy => (show Hold h x [box b1 28 [iV g.Events, .slice agPlaces g.Places.length cgPlaces], box b2 28 [iV 0, .slice none 0 0], box b3 28 [iV g.Events, .slice a2 s1.1.length c1], own cd60 a2 s1.1.length c1 s1.1, box b4 60 [iV x3.From, iV x3.To, iV x3.Delay, iV x3.Tokens]] from Hy).pk [0, 1, 2, 3, 4], ?_⟩
         refine ZE 3 8 (fun h44 H71 => ?_)
         have H72 : Hold h h44 [own cd60 a15 l8.length c9 l8, own cd60 a13 1 1 ([x3] : List TPlace), box b1 28 [iV g.Events, .slice agPlaces g.Places.length cgPlaces], box b2 28 [iV 0, .slice none 0 0], box b3 28 [iV g.Events, .slice a2 s1.1.length c1], own cd60 a2 s1.1.length c1 s1.1, box b4 60 [iV x3.From, iV x3.To, iV x3.Delay, iV x3.Tokens]] := H71
         obtain ⟨l9, hl8, gs4⟩ := M.bind_some gs4
         have hl8 := M.app_some hl8
         have H73 : Hold h h44 [own cd60 a13 1 1 ([x3] : List TPlace), own cd60 a15 l8.length c9 l8, box b1 28 [iV g.Events, .slice agPlaces g.Places.length cgPlaces], box b2 28 [iV 0, .slice none 0 0], box b3 28 [iV g.Events, .slice a2 s1.1.length c1], own cd60 a2 s1.1.length c1 s1.1, box b4 60 [iV x3.From, iV x3.To, iV x3.Delay, iV x3.Tokens]] := H72.pk [1, 0, 2, 3, 4, 5, 6]
         have H74 : Hold h h44 [own cd60 a15 l8.length c9 l8, own cd60 a13 1 1 ([x3] : List TPlace), box b1 28 [iV g.Events, .slice agPlaces g.Places.length cgPlaces], box b2 28 [iV 0, .slice none 0 0], box b3 28 [iV g.Events, .slice a2 s1.1.length c1], own cd60 a2 s1.1.length c1 s1.1, box b4 60 [iV x3.From, iV x3.To, iV x3.Delay, iV x3.Tokens]] := H73.pk [1, 0, 2, 3, 4, 5, 6]
         refine E_app (C := cd60) (t := 26) (ty := 26) (n := l8.length) (m := 1) H74 cd60_ti rfl Try.underlying26 (by decide) (by kernel_rfl) hl8 (fun a16 c10 h45 H75 => ?_)
         refine ⟨fun x => Hold h x [box b1 28 [iV g.Events, .slice agPlaces g.Places.length cgPlaces], box b2 28 [iV 0, .slice none 0 0], box b3 28 [iV g.Events, .slice a2 s1.1.length c1], own cd60 a2 s1.1.length c1 s1.1, box b4 60 [iV x3.From, iV x3.To, iV x3.Delay, iV x3.Tokens], own cd60 a16 l9.length c10 l9], fun x => Hold h x [own cd60 a16 l9.length c10 l9, box b1 28 [iV g.Events, .slice agPlaces g.Places.length cgPlaces], box b2 28 [iV 0, .slice none 0 0], box b3 28 [iV g.Events, .slice a2 s1.1.length c1], own cd60 a2 s1.1.length c1 s1.1, box b4 60 [iV x3.From, iV x3.To, iV x3.Delay, iV x3.Tokens]], H75, Hold.stable, fun x Hy => (show Hold h x [own cd60 a16 l9.length c10 l9, box b1 28 [iV g.Events, .slice agPlaces g.Places.length cgPlaces], box b2 28 [iV 0, .slice none 0 0], box b3 28 [iV g.Events, .slice a2 s1.1.length c1], own cd60 a2 s1.1.length c1 s1.1, box b4 60 [iV x3.From, iV x3.To, iV x3.Delay, iV x3.Tokens]] from Hy).pk [1, 2, 3, 4, 5, 0], fun x Hy => (show Hold h x [box b1 28 [iV g.Events, .slice agPlaces g.Places.length cgPlaces], box b2 28 [iV 0, .slice none 0 0], box b3 28 [iV g.Events, .slice a2 s1.1.length c1], own cd60 a2 s1.1.length c1 s1.1, box b4 60 [iV x3.From, iV x3.To, iV x3.Delay, iV x3.Tokens], own cd60 a16 l9.length c10 l9] from Hy).pk [0, 1, 2, 3, 4], ?_⟩
         refine ZT 13 (fun h46 H76 => ?_)
         have H77 : Hold h h46 [own cd60 a16 l9.length c10 l9, box b1 28 [iV g.Events, .slice agPlaces g.Places.length cgPlaces], box b2 28 [iV 0, .slice none 0 0], box b3 28 [iV g.Events, .slice a2 s1.1.length c1], own cd60 a2 s1.1.length c1 s1.1, box b4 60 [iV x3.From, iV x3.To, iV x3.Delay, iV x3.Tokens]] := H76
         obtain ⟨l10, hl9, gs4⟩ := M.bind_some gs4
         have hl9 := M.app_some hl9
         refine Ze ?_
         refine E_appR (C := cd60) (t := 26) (ty := 26) (n := l9.length) (m := (s1.1.length : Int).toNat - (x4 : Int).toNat) H77 cd60_copies (show Rd _ _ _ _ _ x16 from hx12d ▸ ((H77.rd 4 rfl)).sub (by omega) (by omega)) hn4 cd60_ti rfl Try.underlying26 (by decide) (by kernel_rfl) hl9 (fun a17 c11 h47 H78 => ?_)
         refine Zr [.pointer (some ⟨b3, 1, none⟩)] 14 ?_
         have H80 : Hold h h47 [box b3 28 [iV g.Events, .slice a2 s1.1.length c1], own cd60 a17 l10.length c11 l10, box b1 28 [iV g.Events, .slice agPlaces g.Places.length cgPlaces], box b2 28 [iV 0, .slice none 0 0], own cd60 a2 s1.1.length c1 s1.1, box b4 60 [iV x3.From, iV x3.To, iV x3.Delay, iV x3.Tokens]] := H78.pk [3, 0, 1, 2, 4, 5]
         refine Ze ?_
         refine ZP 26 1 [iV g.Events, .slice a17 l10.length c11] (.slice a17 l10.length c11) H80 (fun h48 H79 => ?_)
         refine Zx ?_
         refine Zk [1, 2, 4, 5] [(1, pV b1), (2, pV b2), (4, pV b3), (5, iV s1.2)] ?_
         have H118 : Hold h h48 [own cd60 a17 l10.length c11 l10, box b3 28 [iV g.Events, .slice a17 l10.length c11], box b1 28 [iV g.Events, .slice agPlaces g.Places.length cgPlaces], box b2 28 [iV 0, .slice none 0 0], own cd60 a2 s1.1.length c1 s1.1, box b4 60 [iV x3.From, iV x3.To, iV x3.Delay, iV x3.Tokens]] := H79.pk [1, 0, 2, 3, 4, 5]
         have H119 : Hold h h48 [box b1 28 [iV g.Events, .slice agPlaces g.Places.length cgPlaces], box b2 28 [iV 0, .slice none 0 0], box b3 28 [iV g.Events, .slice a17 l10.length c11], own cd60 a17 l10.length c11 l10] := H118.pk [2, 3, 1, 0]
         have gs4 := M.ret_some gs4
         subst gs4
         exact Zf [1, 2, 4, 5] ⟨a17, c11, rfl, H119⟩
     ·refine Run_block ?_
      have H120 : Hold h h11 [box b1 28 [iV g.Events, .slice agPlaces g.Places.length cgPlaces], box b2 28 [iV 0, .slice none 0 0], box b3 28 [iV g.Events, .slice a2 s1.1.length c1], own cd60 a2 s1.1.length c1 s1.1, box b4 60 [iV x3.From, iV x3.To, iV x3.Delay, iV x3.Tokens]] := H14.pk [1, 2, 3, 4, 0]
      refine Zk [1, 2, 4, 5, 6, 7] [(1, pV b1), (2, pV b2), (4, pV b3), (5, iV s1.2), (6, pV b4), (7, iV 0)] ?_
      refine Run_loop (fun m L' h' => ∃ (s3 : Int), M.loopN _ n m s3 = some x4 ∧ L' = [(1, pV b1), (2, pV b2), (4, pV b3), (5, iV s1.2), (6, pV b4), (7, iV s3)] ∧ Hold h h' [box b1 28 [iV g.Events, .slice agPlaces g.Places.length cgPlaces], box b2 28 [iV 0, .slice none 0 0], box b3 28 [iV g.Events, .slice a2 s1.1.length c1], own cd60 a2 s1.1.length c1 s1.1, box b4 60 [iV x3.From, iV x3.To, iV x3.Delay, iV x3.Tokens]]) n ⟨0, gx4, rfl, H120⟩ ?_
      rintro my2 _ h12 ⟨s3, gx4, rfl, H15⟩
      obtain ⟨my2, y2, rfl, hB2, hgoy2, houty2⟩ := M.loop_some gx4
      refine Zs ?_
      refine Zs ?_
      obtain ⟨x5, gx5, hB2⟩ := M.bind_some hB2
      refine Run_drawC (j := 14) (C := fun x => Hold h x [box b1 28 [iV g.Events, .slice agPlaces g.Places.length cgPlaces], box b2 28 [iV 0, .slice none 0 0], box b3 28 [iV g.Events, .slice a2 s1.1.length c1], own cd60 a2 s1.1.length c1 s1.1, box b4 60 [iV x3.From, iV x3.To, iV x3.Delay, iV x3.Tokens]]) mixed (by kernel_rfl) (by kernel_rfl) H15 (L' := [(1, pV b1), (2, pV b2), (4, pV b3), (5, iV s1.2), (6, pV b4), (7, iV s3), (41, .bool x5)]) ?_ (fun h14 H17 => ?_)
      ·refine Zb [iV s3, .pointer (some ⟨b3, 1, none⟩)] 0 ?_
       refine Zy (.slice a2 s1.1.length c1) (Y_cls fun hx Hx => (Zl 26 (⟨b3, 1, none⟩) (.slice a2 s1.1.length c1) (Hx.cell 2 rfl rfl))) ?_
       refine Zb [iV (s1.1.length : Int), .bool (decide (s3 < (s1.1.length : Int)))] 3 ?_
       refine QRun_seq 14 [(1, pV b1), (2, pV b2), (4, pV b3), (5, iV s1.2), (6, pV b4), (7, iV s3), (41, .bool x5)] ?_ ?_
       ·rcases Bool.eq_false_or_eq_true (decide (s3 < (s1.1.length : Int))) with hb3 | hb3
        ·refine Zv (decide (s3 < (s1.1.length : Int))) true hb3 ?_
         have gx5 := (M.ite_some gx5).1 hb3
         obtain ⟨x6, hx3, gx5⟩ := M.bind_some gx5
         obtain ⟨hx3l, hx3u, hx3⟩ := M.idx_some hx3
         obtain ⟨x7, hx4, gx5⟩ := M.bind_some gx5
         have gx5 := M.ret_some gx5
         refine Zb [.pointer (some ⟨b3, 1, none⟩)] 6 ?_
         refine Zy (.slice a2 s1.1.length c1) (Y_cls fun hx Hx => (Zl 26 (⟨b3, 1, none⟩) (.slice a2 s1.1.length c1) (Hx.cell 2 rfl rfl))) ?_
         refine Zb [iV s3] 8 ?_
         refine Zy (.pointer (some (adr a2 (s3.toNat * 4)))) (Y_cls fun hx Hx => (Zi 26 60 4 (a2) (s1.1.length) (c1) .i64 (s3) Try.underlying26 ((H15.rd 3 rfl).cell hx3).1 hx3l hx3u)) ?_
         refine Zy (.agg #[iV x6.From, iV x6.To, iV x6.Delay, iV x6.Tokens]) (Y_cls fun hx Hx => (Y_loadA (t := 60) (n := 4) (p := adr a2 (s3.toNat * 4)) (cs := [iV x6.From, iV x6.To, iV x6.Delay, iV x6.Tokens]) (by kernel_rfl) (fun w => by kernel_rfl) (by kernel_rfl) rfl (cd60_elem (Hx.rd 3 rfl) hx3))) ?_
         refine Zy (.agg #[iV x3.From, iV x3.To, iV x3.Delay, iV x3.Tokens]) (Y_cls fun hx Hx => (Y_loadA (t := 60) (n := 4) (p := ⟨b4, 0, none⟩) (cs := [iV x3.From, iV x3.To, iV x3.Delay, iV x3.Tokens]) (by kernel_rfl) (fun w => by kernel_rfl) (by kernel_rfl) rfl (Hx.cells (n := 4) (off := 0) 4 rfl rfl))) ?_
         refine Zy (.bool x7) (Y_call (f := 30) (args := #[.agg #[iV x6.From, iV x6.To, iV x6.Delay, iV x6.Tokens], .agg #[iV x3.From, iV x3.To, iV x3.Delay, iV x3.Tokens]]) (v := .bool x7) (by kernel_rfl) fun hx Hx => (w_spec_l11Before hx x6 x3 _ _ hx4).mono fun _ _ ⟨e, H'⟩ => ⟨e, Hx.call H' rfl⟩) ?_
         refine Zv x7 x5 gx5 ?_
         exact Zd [1, 2, 4, 5, 6, 7, 41]
        ·refine Zv (decide (s3 < (s1.1.length : Int))) false hb3 ?_
         have gx5 := M.ret_some ((M.ite_some gx5).2 hb3)
         refine Zn ?_
         refine Zn ?_
         refine Zn ?_
         refine Zn ?_
         refine Zn ?_
         refine Zn ?_
         refine Zn ?_
         refine Zv false x5 gx5 ?_
         exact Zd [1, 2, 4, 5, 6, 7, 41]
       exact Zd [1, 2, 4, 5, 6, 7, 41]
      have H18 : Hold h h14 [box b1 28 [iV g.Events, .slice agPlaces g.Places.length cgPlaces], box b2 28 [iV 0, .slice none 0 0], box b3 28 [iV g.Events, .slice a2 s1.1.length c1], own cd60 a2 s1.1.length c1 s1.1, box b4 60 [iV x3.From, iV x3.To, iV x3.Delay, iV x3.Tokens]] := H17
      refine Zc (x5) (fun hb4 => ?_) (fun hb4 => ?_)
      ·have hB2 := (M.ite_some hB2).1 hb4
       refine Run_skip ?_
       refine Run_block ?_
       refine Zq [iV s3, iV (w64 (s3 + 1)), iV (w64 (s3 + 1))] [1, 2, 4, 5, 6, 7] [(1, pV b1), (2, pV b2), (4, pV b3), (5, iV s1.2), (6, pV b4), (7, iV (w64 (s3 + 1)))] ?_
       refine Run_blk ?_
       have hB2 := M.ret_some hB2
       have gx4 := hgoy2 _ hB2.symm
       exact Za [1, 2, 4, 5, 6, 7] my2 ⟨(w64 (s3 + 1)), gx4, rfl, H18⟩
      ·have hB2 := (M.ite_some hB2).2 hb4
       refine Run_exit (k' := _) rfl ?_
       have hB2 := M.ret_some hB2
       have gx4 := houty2 _ hB2.symm
       subst gx4
       exact Zf [1, 2, 4, 5, 6, 7] ⟨rfl, H18⟩
   ·have hB1 := (M.ite_some hB1).2 hb2
    refine Run_exit (k' := _) rfl ?_
    have H128 : Hold h h8 [own cd60 a2 s1.1.length c1 s1.1, box b1 28 [iV g.Events, .slice agPlaces g.Places.length cgPlaces], box b2 28 [iV 0, .slice none 0 0], box b3 28 [iV g.Events, .slice a2 s1.1.length c1]] := H11.pk [3, 0, 1, 2]
    have H129 : Hold h h8 [box b2 28 [iV 0, .slice none 0 0], box b3 28 [iV g.Events, .slice a2 s1.1.length c1], own cd60 a2 s1.1.length c1 s1.1] := H128.pk [2, 3, 0]
    have hB1 := M.ret_some hB1
    have gx2 := houty1 _ hB1.symm
    subst gx2
    exact Zf [2, 4] ⟨a2, c1, rfl, H129⟩

theorem w_impl_within (h : Heap) (n_ : Int) (low : Int) (high : Int) (n : Nat) (r : Bool) (hF : impl_within n_ low high n = some r) :
  Fn Try.prog 48 #[iV n_, iV low, iV high] h fun v h' => v = .bool r ∧ h' = h := by
 unfold impl_within at hF
 refine Zo [iV n_, iV low, iV high] Try.func48 rfl (fun w0 _ => ?_)
 refine Zs ?_
 refine Zq [.bool false] [0, 1, 2] [(0, iV n_), (1, iV low), (2, iV high)] ?_
 refine Zs ?_
 refine Zg 9 [(6, .bool ((decide (low ≤ n_)) && (decide (n_ ≤ high))))] ?_ ?_
 ·refine Zb [iV n_, iV low, .bool (decide (low ≤ n_))] 0 ?_
  refine QRun_seq 8 [(14, .bool ((decide (low ≤ n_)) && (decide (n_ ≤ high))))] ?_ ?_
  ·rcases Bool.eq_false_or_eq_true (decide (low ≤ n_)) with hb1 | hb1
   ·refine Zv (decide (low ≤ n_)) true hb1 ?_
    refine Zb [iV n_, iV high, .bool (decide (n_ ≤ high))] 4 ?_
    refine QRun_bool (decide (n_ ≤ high)) ((decide (low ≤ n_)) && (decide (n_ ≤ high))) (by kernel_rfl) (fun w => by kernel_rfl) (by rw [hb1]; rfl) ?_
    exact Zd [14]
   ·refine Zv (decide (low ≤ n_)) false hb1 ?_
    refine Zn ?_
    refine Zn ?_
    refine Zn ?_
    refine QRun_bool false ((decide (low ≤ n_)) && (decide (n_ ≤ high))) (by kernel_rfl) (fun w => by kernel_rfl) (by rw [hb1]; rfl) ?_
    exact Zd [14]
  refine Zb [.bool ((decide (low ≤ n_)) && (decide (n_ ≤ high)))] 8 ?_
  exact Zd [6]
 have hF := M.ret_some hF
 subst hF
 exact Run_ret1 rfl (Zt (.bool ((decide (low ≤ n_)) && (decide (n_ ≤ high))))) ⟨rfl, rfl⟩

theorem w_impl_isEvent (h : Heap) (g : TGraph) (agPlaces : Option Addr) (cgPlaces : Nat) (rgPlaces : Rd cd60 h (Lt h) agPlaces cgPlaces g.Places) (event : Int) (n : Nat) (r : Bool) (hF : impl_isEvent g event n = some r) :
  Fn Try.prog 119 #[.agg #[iV g.Events, .slice agPlaces g.Places.length cgPlaces], iV event] h fun v h' => v = .bool r ∧ Hold h h' [] := by
 unfold impl_isEvent at hF
 refine Zo [.agg #[iV g.Events, .slice agPlaces g.Places.length cgPlaces], iV event] Try.func119 rfl (fun w0 _ => ?_)
 have H0 := Hold.init h
 refine Zs ?_
 refine Run_ops ?_
 refine Ze ?_
 refine E_box (ty := 28) (cs := [iV g.Events, .slice agPlaces g.Places.length cgPlaces]) H0 (fun w => by kernel_rfl) (fun b1 h1 H1 => ?_)
 refine Zr [.bool false] 1 ?_
 refine Zx ?_
 refine Zk [1, 2] [(1, iV event), (2, pV b1)] ?_
 refine Zs ?_
 obtain ⟨x1, hx1, hF⟩ := M.bind_some hF
 refine Zg 6 [(4, .bool x1)] ?_ ?_
 ·refine Zb [iV event, pV b1] 0 ?_
  refine Zy (iV g.Events) (Zl 2 (⟨b1, 0, none⟩) (iV g.Events) (H1.cell 0 rfl rfl)) ?_
  refine Zb [iV (w64 (g.Events - 1))] 3 ?_
  refine Zy (.bool x1) (ZQ 48 #[iV event, iV 0, iV (w64 (g.Events - 1))] (w_impl_within h1 event 0 (w64 (g.Events - 1)) _ _ hx1)) ?_
  refine Zb [.bool x1] 5 ?_
  exact Zd [4]
 have hF := M.ret_some hF
 subst hF
 have H2 : Hold h h1 [] := H1.pk []
 exact Run_ret1 rfl (Zt (.bool x1)) ⟨rfl, H2⟩

theorem w_impl_isPlace (h : Heap) (g : TGraph) (agPlaces : Option Addr) (cgPlaces : Nat) (rgPlaces : Rd cd60 h (Lt h) agPlaces cgPlaces g.Places) (p : TPlace) (n : Nat) (r : Bool) (hF : impl_isPlace g p n = some r) :
  Fn Try.prog 80 #[.agg #[iV g.Events, .slice agPlaces g.Places.length cgPlaces], .agg #[iV p.From, iV p.To, iV p.Delay, iV p.Tokens]] h fun v h' => v = .bool r ∧ Hold h h' [] := by
 unfold impl_isPlace at hF
 refine Zo [.agg #[iV g.Events, .slice agPlaces g.Places.length cgPlaces], .agg #[iV p.From, iV p.To, iV p.Delay, iV p.Tokens]] Try.func80 rfl (fun w0 _ => ?_)
 have H0 := Hold.init h
 refine Zs ?_
 refine Run_ops ?_
 refine Ze ?_
 refine E_box (ty := 28) (cs := [iV g.Events, .slice agPlaces g.Places.length cgPlaces]) H0 (fun w => by kernel_rfl) (fun b1 h1 H1 => ?_)
 refine Ze ?_
 refine E_box (ty := 60) (cs := [iV p.From, iV p.To, iV p.Delay, iV p.Tokens]) H1 (fun w => by kernel_rfl) (fun b2 h2 H2 => ?_)
 refine Zr [.bool false] 2 ?_
 refine Zx ?_
 refine Zk [2, 3] [(2, pV b1), (3, pV b2)] ?_
 refine Zs ?_
 obtain ⟨x1, hx1, hF⟩ := M.bind_some hF
 obtain ⟨x2, gx2, hF⟩ := M.bind_some hF
 obtain ⟨x4, gx4, hF⟩ := M.bind_some hF
 obtain ⟨x6, gx6, hF⟩ := M.bind_some hF
 refine Run_regC (j := 21) (C := fun x => Hold h x [box b2 60 [iV p.From, iV p.To, iV p.Delay, iV p.Tokens], box b1 28 [iV g.Events, .slice agPlaces g.Places.length cgPlaces]]) (by kernel_rfl) H2 (L' := [(4, .bool x6)]) ?_ (fun h3 H3 => ?_)
 ·refine Zy (.agg #[iV g.Events, .slice agPlaces g.Places.length cgPlaces]) (Y_cls fun hx Hx => (Y_loadA (t := 28) (n := 2) (p := ⟨b1, 0, none⟩) (cs := [iV g.Events, .slice agPlaces g.Places.length cgPlaces]) (by kernel_rfl) (fun w => by kernel_rfl) (by kernel_rfl) rfl (Hx.cells (n := 2) (off := 0) 1 rfl rfl))) ?_
  refine Zb [pV b2] 1 ?_
  refine Zy (iV p.From) (Y_cls fun hx Hx => (Zl 2 (⟨b2, 0, none⟩) (iV p.From) (Hx.cell 0 rfl rfl))) ?_
  refine Zy (.bool x1) (Y_call (f := 119) (args := #[.agg #[iV g.Events, .slice agPlaces g.Places.length cgPlaces], iV p.From]) (v := .bool x1) (by kernel_rfl) fun hx Hx => (w_impl_isEvent hx g agPlaces cgPlaces (rgPlaces.at Hx.ext) p.From _ _ hx1).mono fun _ _ ⟨e, H'⟩ => ⟨e, Hx.call H' rfl⟩) ?_
  refine QRun_seq 10 [(3, pV b2), (14, .bool x2)] ?_ ?_
  ·rcases Bool.eq_false_or_eq_true x1 with hb1 | hb1
   ·refine Zv x1 true hb1 ?_
    have gx2 := (M.ite_some gx2).1 hb1
    obtain ⟨x3, hx2, gx2⟩ := M.bind_some gx2
    have gx2 := M.ret_some gx2
    refine Zy (.agg #[iV g.Events, .slice agPlaces g.Places.length cgPlaces]) (Y_cls fun hx Hx => (Y_loadA (t := 28) (n := 2) (p := ⟨b1, 0, none⟩) (cs := [iV g.Events, .slice agPlaces g.Places.length cgPlaces]) (by kernel_rfl) (fun w => by kernel_rfl) (by kernel_rfl) rfl (Hx.cells (n := 2) (off := 0) 1 rfl rfl))) ?_
    refine Zb [.pointer (some ⟨b2, 1, none⟩)] 6 ?_
    refine Zy (iV p.To) (Y_cls fun hx Hx => (Zl 2 (⟨b2, 1, none⟩) (iV p.To) (Hx.cell 0 rfl rfl))) ?_
    refine Zy (.bool x3) (Y_call (f := 119) (args := #[.agg #[iV g.Events, .slice agPlaces g.Places.length cgPlaces], iV p.To]) (v := .bool x3) (by kernel_rfl) fun hx Hx => (w_impl_isEvent hx g agPlaces cgPlaces (rgPlaces.at Hx.ext) p.To _ _ hx2).mono fun _ _ ⟨e, H'⟩ => ⟨e, Hx.call H' rfl⟩) ?_
    refine Zv x3 x2 gx2 ?_
    exact Zd [3, 14]
   ·refine Zv x1 false hb1 ?_
    have gx2 := M.ret_some ((M.ite_some gx2).2 hb1)
    refine Zn ?_
    refine Zn ?_
    refine Zn ?_
    refine Zn ?_
    refine Zv false x2 gx2 ?_
    exact Zd [3, 14]
  refine QRun_seq 15 [(3, pV b2), (19, .bool x4)] ?_ ?_
  ·rcases Bool.eq_false_or_eq_true x2 with hb2 | hb2
   ·refine Zv x2 true hb2 ?_
    have gx4 := (M.ite_some gx4).1 hb2
    obtain ⟨x5, hx3, gx4⟩ := M.bind_some gx4
    have gx4 := M.ret_some gx4
    refine Zb [.pointer (some ⟨b2, 2, none⟩)] 11 ?_
    refine Zy (iV p.Delay) (Y_cls fun hx Hx => (Zl 2 (⟨b2, 2, none⟩) (iV p.Delay) (Hx.cell 0 rfl rfl))) ?_
    refine Zy (.bool x5) (Y_cls fun hx Hx => (ZQ 48 #[iV p.Delay, iV 0, iV 1000] (w_impl_within hx p.Delay 0 1000 _ _ hx3))) ?_
    refine Zv x5 x4 gx4 ?_
    exact Zd [3, 19]
   ·refine Zv x2 false hb2 ?_
    have gx4 := M.ret_some ((M.ite_some gx4).2 hb2)
    refine Zn ?_
    refine Zn ?_
    refine Zn ?_
    refine Zv false x4 gx4 ?_
    exact Zd [3, 19]
  refine QRun_seq 20 [(24, .bool x6)] ?_ ?_
  ·rcases Bool.eq_false_or_eq_true x4 with hb3 | hb3
   ·refine Zv x4 true hb3 ?_
    have gx6 := (M.ite_some gx6).1 hb3
    obtain ⟨x7, hx4, gx6⟩ := M.bind_some gx6
    have gx6 := M.ret_some gx6
    refine Zb [.pointer (some ⟨b2, 3, none⟩)] 16 ?_
    refine Zy (iV p.Tokens) (Y_cls fun hx Hx => (Zl 2 (⟨b2, 3, none⟩) (iV p.Tokens) (Hx.cell 0 rfl rfl))) ?_
    refine Zy (.bool x7) (Y_cls fun hx Hx => (ZQ 48 #[iV p.Tokens, iV 0, iV 5] (w_impl_within hx p.Tokens 0 5 _ _ hx4))) ?_
    refine Zv x7 x6 gx6 ?_
    exact Zd [24]
   ·refine Zv x4 false hb3 ?_
    have gx6 := M.ret_some ((M.ite_some gx6).2 hb3)
    refine Zn ?_
    refine Zn ?_
    refine Zn ?_
    refine Zv false x6 gx6 ?_
    exact Zd [24]
  refine Zb [.bool x6] 20 ?_
  exact Zd [4]
 have H4 : Hold h h3 [box b2 60 [iV p.From, iV p.To, iV p.Delay, iV p.Tokens], box b1 28 [iV g.Events, .slice agPlaces g.Places.length cgPlaces]] := H3
 have hF := M.ret_some hF
 subst hF
 have H5 : Hold h h3 [] := H4.pk []
 exact Run_ret1 rfl (Zt (.bool x6)) ⟨rfl, H5⟩

theorem w_impl_IsEventGraph_1 (h : Heap) (p : TPlace) (z0 : TGraph) (az0Places : Option Addr) (cz0Places : Nat) (rz0Places : Rd cd60 h (Lt h) az0Places cz0Places z0.Places) (bz0 : Nat) (vz0 : VarAt h bz0 28 [iV z0.Events, .slice az0Places z0.Places.length cz0Places]) (n : Nat) (r : Bool) (hF : impl_IsEventGraph_1 p z0 n = some r) :
  Fn Try.prog 79 #[.agg #[iV p.From, iV p.To, iV p.Delay, iV p.Tokens], pV bz0] h fun v h' => v = .bool r ∧ Hold h h' [] := by
 unfold impl_IsEventGraph_1 at hF
 refine Zo [.agg #[iV p.From, iV p.To, iV p.Delay, iV p.Tokens], pV bz0] Try.func79 rfl (fun w0 _ => ?_)
 have H0 := Hold.init h
 refine Zs ?_
 refine Run_ops ?_
 refine Ze ?_
 refine E_box (ty := 60) (cs := [iV p.From, iV p.To, iV p.Delay, iV p.Tokens]) H0 (fun w => by kernel_rfl) (fun b1 h1 H1 => ?_)
 refine Zr [.bool false] 1 ?_
 refine Zx ?_
 refine Zk [1, 2] [(1, pV bz0), (2, pV b1)] ?_
 refine Zs ?_
 obtain ⟨x1, hx1, hF⟩ := M.bind_some hF
 refine Run_regC (j := 5) (C := fun x => Hold h x [box b1 60 [iV p.From, iV p.To, iV p.Delay, iV p.Tokens]]) (by kernel_rfl) H1 (L' := [(3, .bool (!x1))]) ?_ (fun h2 H2 => ?_)
 ·refine Zy (.agg #[iV z0.Events, .slice az0Places z0.Places.length cz0Places]) (Y_cls fun hx Hx => (Y_loadA (t := 28) (n := 2) (p := ⟨bz0, 0, none⟩) (cs := [iV z0.Events, .slice az0Places z0.Places.length cz0Places]) (by kernel_rfl) (fun w => by kernel_rfl) (by kernel_rfl) rfl (VarAt.cells (n := 2) (off := 0) (vz0.at Hx.ext) rfl))) ?_
  refine Zy (.agg #[iV p.From, iV p.To, iV p.Delay, iV p.Tokens]) (Y_cls fun hx Hx => (Y_loadA (t := 60) (n := 4) (p := ⟨b1, 0, none⟩) (cs := [iV p.From, iV p.To, iV p.Delay, iV p.Tokens]) (by kernel_rfl) (fun w => by kernel_rfl) (by kernel_rfl) rfl (Hx.cells (n := 4) (off := 0) 0 rfl rfl))) ?_
  refine Zy (.bool x1) (Y_call (f := 80) (args := #[.agg #[iV z0.Events, .slice az0Places z0.Places.length cz0Places], .agg #[iV p.From, iV p.To, iV p.Delay, iV p.Tokens]]) (v := .bool x1) (by kernel_rfl) fun hx Hx => (w_impl_isPlace hx z0 az0Places cz0Places (rz0Places.at Hx.ext) p _ _ hx1).mono fun _ _ ⟨e, H'⟩ => ⟨e, Hx.call H' rfl⟩) ?_
  refine Zb [.bool (!x1), .bool (!x1)] 3 ?_
  exact Zd [3]
 have H3 : Hold h h2 [box b1 60 [iV p.From, iV p.To, iV p.Delay, iV p.Tokens]] := H2
 have hF := M.ret_some hF
 subst hF
 have H4 : Hold h h2 [] := H3.pk []
 exact Run_ret1 rfl (Zt (.bool (!x1))) ⟨rfl, H4⟩

theorem w_slices_IndexFunc_Place_F_impl_IsEventGraph_1 (h : Heap) (s_ : List TPlace) (as_ : Option Addr) (cs_ : Nat) (rs_ : Rd cd60 h (Lt h) as_ cs_ s_) (f0 : TGraph) (af0Places : Option Addr) (cf0Places : Nat) (rf0Places : Rd cd60 h (Lt h) af0Places cf0Places f0.Places) (bf0 : Nat) (vf0 : VarAt h bf0 28 [iV f0.Events, .slice af0Places f0.Places.length cf0Places]) (n : Nat) (r : Int) (hF : slices_IndexFunc_Place_F_impl_IsEventGraph_1 s_ f0 n = some r) :
  Fn Try.prog 118 #[.slice as_ s_.length cs_, .func (.func 79) #[] #[pV bf0]] h fun v h' => v = iV r ∧ Hold h h' [] := by
 unfold slices_IndexFunc_Place_F_impl_IsEventGraph_1 at hF
 refine Zo [.slice as_ s_.length cs_, .func (.func 79) #[] #[pV bf0]] Try.func118 rfl (fun w0 _ => ?_)
 have H0 := Hold.init h
 refine Zs ?_
 refine Zq [iV 0] [0, 1] [(0, .slice as_ s_.length cs_), (1, .func (.func 79) #[] #[pV bf0])] ?_
 refine Zs ?_
 refine Zs ?_
 refine Zq [.slice as_ s_.length cs_, iV (s_.length : Int), iV 0] [0, 1, 7, 8] [(0, .slice as_ s_.length cs_), (1, .func (.func 79) #[] #[pV bf0]), (7, iV (s_.length : Int)), (8, iV 0)] ?_
 obtain ⟨x1, gx1, hF⟩ := M.bind_some hF
 obtain ⟨hloy1, hhiy1, gx1⟩ := M.for_start gx1
 refine Run_join (fun L' h' => ∃ (s2 : Unit), x1 = .inl s2 ∧ L' = [] ∧ Hold h h' []) ?_ ?_
 ·rintro _ h2 ⟨s2, es2, rfl, H2⟩
  have hF := M.cont_inl' hF es2
  refine Zs ?_
  refine Zq [iV (-1)] [4] [(4, iV (-1))] ?_
  have hF := M.ret_some hF
  subst hF
  exact Run_ret1 rfl (Zt (iV (-1))) ⟨rfl, H2⟩
 ·refine Run_block ?_
  refine Zk [0, 1, 7, 8] [(0, .slice as_ s_.length cs_), (1, .func (.func 79) #[] #[pV bf0]), (7, iV (s_.length : Int)), (8, iV 0)] ?_
  refine Run_loop (fun m L' h' => ∃ (i1 : Int) (s1 : Unit), 0 ≤ i1 ∧ M.forN (s_.length : Int) _ _ n m i1 s1 = some x1 ∧ L' = [(0, .slice as_ s_.length cs_), (1, .func (.func 79) #[] #[pV bf0]), (7, iV (s_.length : Int)), (8, iV i1)] ∧ Hold h h' []) ((s_.length : Int) - 0 : Int).toNat ⟨0, (), Int.le_refl _, gx1, rfl, H0⟩ ?_
  rintro my1 _ h1 ⟨i1, s1, hloy1', gx1, rfl, H1⟩
  refine Zs ?_
  refine Zq [.bool (decide (i1 < (s_.length : Int)))] [0, 1, 7, 8, 9] [(0, .slice as_ s_.length cs_), (1, .func (.func 79) #[] #[pV bf0]), (7, iV (s_.length : Int)), (8, iV i1), (9, .bool (decide (i1 < (s_.length : Int))))] ?_
  refine Zs ?_
  refine Zc (decide (i1 < (s_.length : Int))) (fun hb1 => ?_) (fun hb1 => ?_)
  ·obtain ⟨my1, y1, rfl, hB1, hgoy1, houty1⟩ := M.for_go gx1 hb1
   have hlty1 := of_decide_eq_true hb1
   refine Run_skip ?_
   refine Zs ?_
   refine Run_block ?_
   refine Zs ?_
   refine Zq [iV i1, iV i1] [0, 1, 5, 7, 8] [(0, .slice as_ s_.length cs_), (1, .func (.func 79) #[] #[pV bf0]), (5, iV i1), (7, iV (s_.length : Int)), (8, iV i1)] ?_
   refine Zs ?_
   obtain ⟨x2, hx1, hB1⟩ := M.bind_some hB1
   obtain ⟨hx1l, hx1u, hx1⟩ := M.idx_some hx1
   obtain ⟨x3, hx2, hB1⟩ := M.bind_some hB1
   refine Run_regC (j := 6) (C := fun x => Hold h x []) (by kernel_rfl) H1 (L' := [(0, .slice as_ s_.length cs_), (1, .func (.func 79) #[] #[pV bf0]), (5, iV i1), (7, iV (s_.length : Int)), (8, iV i1), (16, .bool x3)]) ?_ (fun h3 H3 => ?_)
   ·refine Zb [.func (.func 79) #[] #[pV bf0], .slice as_ s_.length cs_, iV i1] 0 ?_
    refine Zy (.pointer (some (adr as_ (i1.toNat * 4)))) (Y_cls fun hx Hx => (Zi 26 60 4 (as_) (s_.length) (cs_) .i64 (i1) Try.underlying26 ((rs_.at H1.ext).cell hx1).1 hx1l hx1u)) ?_
    refine Zy (.agg #[iV x2.From, iV x2.To, iV x2.Delay, iV x2.Tokens]) (Y_cls fun hx Hx => (Y_loadA (t := 60) (n := 4) (p := adr as_ (i1.toNat * 4)) (cs := [iV x2.From, iV x2.To, iV x2.Delay, iV x2.Tokens]) (by kernel_rfl) (fun w => by kernel_rfl) (by kernel_rfl) rfl (cd60_elem (rs_.at Hx.ext) hx1))) ?_
    refine Zy (.bool x3) (Y_call (f := 79) (args := #[.agg #[iV x2.From, iV x2.To, iV x2.Delay, iV x2.Tokens], pV bf0]) (v := .bool x3) (by kernel_rfl) fun hx Hx => (w_impl_IsEventGraph_1 hx x2 f0 af0Places cf0Places (rf0Places.at Hx.ext) bf0 (vf0.at Hx.ext) _ _ hx2).mono fun _ _ ⟨e, H'⟩ => ⟨e, Hx.call H' rfl⟩) ?_
    exact Zd [0, 1, 5, 7, 8, 16]
   have H4 : Hold h h3 [] := H3
   refine Zc (x3) (fun hb2 => ?_) (fun hb2 => ?_)
   ·have hB1 := (M.ite_some hB1).1 hb2
    refine Zs ?_
    refine Zq [iV i1, iV i1] [4] [(4, iV i1)] ?_
    have hB1 := M.ret_some hB1
    have gx1 := houty1 _ hB1.symm
    have hF := M.cont_inr' hF gx1
    have hF := M.ret_some hF
    subst hF
    exact Run_ret1 rfl (Zt (iV i1)) ⟨rfl, H4⟩
   ·have hB1 := (M.ite_some hB1).2 hb2
    refine Run_skip ?_
    refine Run_blk ?_
    refine Zg 2 [(0, .slice as_ s_.length cs_), (1, .func (.func 79) #[] #[pV bf0]), (7, iV (s_.length : Int)), (8, iV (i1 + 1))] ?_ ?_
    ·refine Zy (iV (i1 + 1)) (Y_eq (v := iV (w64 (i1 + 1))) (Y_pure (fun w => by kernel_rfl)) (by rw [w64_eq _ (by omega)])) ?_
     refine Zb [iV (i1 + 1)] 1 ?_
     exact Zd [0, 1, 7, 8]
    have hB1 := M.ret_some hB1
    have gx1 := hgoy1 _ hB1.symm
    exact Za [0, 1, 7, 8] my1 ⟨i1 + 1, (), by omega, gx1, rfl, H4⟩
  ·have gx1 := M.for_end gx1 hb1
   subst gx1
   refine Run_exit (k' := _) rfl ?_
   exact Zf [] ⟨(), rfl, rfl, H1⟩

theorem w_slices_ContainsFunc_Place_F_impl_IsEventGraph_1 (h : Heap) (s_ : List TPlace) (as_ : Option Addr) (cs_ : Nat) (rs_ : Rd cd60 h (Lt h) as_ cs_ s_) (f0 : TGraph) (af0Places : Option Addr) (cf0Places : Nat) (rf0Places : Rd cd60 h (Lt h) af0Places cf0Places f0.Places) (bf0 : Nat) (vf0 : VarAt h bf0 28 [iV f0.Events, .slice af0Places f0.Places.length cf0Places]) (n : Nat) (r : Bool) (hF : slices_ContainsFunc_Place_F_impl_IsEventGraph_1 s_ f0 n = some r) :
  Fn Try.prog 78 #[.slice as_ s_.length cs_, .func (.func 79) #[] #[pV bf0]] h fun v h' => v = .bool r ∧ Hold h h' [] := by
 unfold slices_ContainsFunc_Place_F_impl_IsEventGraph_1 at hF
 refine Zo [.slice as_ s_.length cs_, .func (.func 79) #[] #[pV bf0]] Try.func78 rfl (fun w0 _ => ?_)
 have H0 := Hold.init h
 refine Zs ?_
 refine Zq [.bool false] [0, 1] [(0, .slice as_ s_.length cs_), (1, .func (.func 79) #[] #[pV bf0])] ?_
 refine Zs ?_
 obtain ⟨x1, hx1, hF⟩ := M.bind_some hF
 refine Run_regC (j := 5) (C := fun x => Hold h x []) (by kernel_rfl) H0 (L' := [(4, .bool (decide (0 ≤ x1)))]) ?_ (fun h1 H1 => ?_)
 ·refine Zb [.slice as_ s_.length cs_, .func (.func 79) #[] #[pV bf0]] 0 ?_
  refine Zy (iV x1) (Y_call (f := 118) (args := #[.slice as_ s_.length cs_, .func (.func 79) #[] #[pV bf0]]) (v := iV x1) (by kernel_rfl) fun hx Hx => (w_slices_IndexFunc_Place_F_impl_IsEventGraph_1 hx s_ as_ cs_ (rs_.at Hx.ext) f0 af0Places cf0Places (rf0Places.at Hx.ext) bf0 (vf0.at Hx.ext) _ _ hx1).mono fun _ _ ⟨e, H'⟩ => ⟨e, Hx.call H' rfl⟩) ?_
  refine Zb [.bool (decide (0 ≤ x1)), .bool (decide (0 ≤ x1))] 3 ?_
  exact Zd [4]
 have H2 : Hold h h1 [] := H1
 have hF := M.ret_some hF
 subst hF
 exact Run_ret1 rfl (Zt (.bool (decide (0 ≤ x1)))) ⟨rfl, H2⟩

theorem w_impl_IsEventGraph (h : Heap) (g : TGraph) (agPlaces : Option Addr) (cgPlaces : Nat) (rgPlaces : Rd cd60 h (Lt h) agPlaces cgPlaces g.Places) (n : Nat) (r : Bool) (hF : impl_IsEventGraph g n = some r) :
  Fn Try.prog 32 #[.agg #[iV g.Events, .slice agPlaces g.Places.length cgPlaces]] h fun v h' => v = .bool r ∧ Hold h h' [] := by
 unfold impl_IsEventGraph at hF
 refine Zo [.agg #[iV g.Events, .slice agPlaces g.Places.length cgPlaces]] Try.func32 rfl (fun w0 _ => ?_)
 have H0 := Hold.init h
 refine Zs ?_
 refine Run_ops ?_
 refine Ze ?_
 refine E_box (ty := 28) (cs := [iV g.Events, .slice agPlaces g.Places.length cgPlaces]) H0 (fun w => by kernel_rfl) (fun b1 h1 H1 => ?_)
 refine Zr [.bool false] 1 ?_
 refine Zx ?_
 refine Zk [1] [(1, pV b1)] ?_
 refine Zs ?_
 obtain ⟨x1, hx1, hF⟩ := M.bind_some hF
 obtain ⟨x3, gx3, hF⟩ := M.bind_some hF
 refine Run_regC (j := 17) (C := fun x => Hold h x [box b1 28 [iV g.Events, .slice agPlaces g.Places.length cgPlaces]]) (by kernel_rfl) H1 (L' := [(2, .bool x3)]) ?_ (fun h2 H2 => ?_)
 ·refine Zb [pV b1] 0 ?_
  refine Zy (iV g.Events) (Y_cls fun hx Hx => (Zl 2 (⟨b1, 0, none⟩) (iV g.Events) (Hx.cell 0 rfl rfl))) ?_
  refine Zy (.bool x1) (Y_cls fun hx Hx => (ZQ 48 #[iV g.Events, iV 1, iV 10] (w_impl_within hx g.Events 1 10 _ _ hx1))) ?_
  refine QRun_seq 9 [(1, pV b1), (11, .bool (x1 && (decide ((g.Places.length : Int) ≤ 30))))] ?_ ?_
  ·rcases Bool.eq_false_or_eq_true x1 with hb1 | hb1
   ·refine Zv x1 true hb1 ?_
    refine Zb [.pointer (some ⟨b1, 1, none⟩)] 4 ?_
    refine Zy (.slice agPlaces g.Places.length cgPlaces) (Y_cls fun hx Hx => (Zl 26 (⟨b1, 1, none⟩) (.slice agPlaces g.Places.length cgPlaces) (Hx.cell 0 rfl rfl))) ?_
    refine Zb [iV (g.Places.length : Int), .bool (decide ((g.Places.length : Int) ≤ 30))] 6 ?_
    refine QRun_bool (decide ((g.Places.length : Int) ≤ 30)) (x1 && (decide ((g.Places.length : Int) ≤ 30))) (by kernel_rfl) (fun w => by kernel_rfl) (by rw [hb1]; rfl) ?_
    exact Zd [1, 11]
   ·refine Zv x1 false hb1 ?_
    refine Zn ?_
    refine Zn ?_
    refine Zn ?_
    refine Zn ?_
    refine QRun_bool false (x1 && (decide ((g.Places.length : Int) ≤ 30))) (by kernel_rfl) (fun w => by kernel_rfl) (by rw [hb1]; rfl) ?_
    exact Zd [1, 11]
  refine QRun_seq 16 [(18, .bool x3)] ?_ ?_
  ·rcases Bool.eq_false_or_eq_true (x1 && (decide ((g.Places.length : Int) ≤ 30))) with hb2 | hb2
   ·refine Zv (x1 && (decide ((g.Places.length : Int) ≤ 30))) true hb2 ?_
    have gx3 := (M.ite_some gx3).1 hb2
    obtain ⟨x4, hx2, gx3⟩ := M.bind_some gx3
    have gx3 := M.ret_some gx3
    refine Zb [.pointer (some ⟨b1, 1, none⟩)] 10 ?_
    refine Zy (.slice agPlaces g.Places.length cgPlaces) (Y_cls fun hx Hx => (Zl 26 (⟨b1, 1, none⟩) (.slice agPlaces g.Places.length cgPlaces) (Hx.cell 0 rfl rfl))) ?_
    refine Zb [.func (.func 79) #[] #[pV b1]] 12 ?_
    refine Zy (.bool x4) (Y_call (f := 78) (args := #[.slice agPlaces g.Places.length cgPlaces, .func (.func 79) #[] #[pV b1]]) (v := .bool x4) (by kernel_rfl) fun hx Hx => (w_slices_ContainsFunc_Place_F_impl_IsEventGraph_1 hx g.Places agPlaces cgPlaces (rgPlaces.at Hx.ext) g agPlaces cgPlaces (rgPlaces.at Hx.ext) b1 (Hx.var 0 rfl) _ _ hx2).mono fun _ _ ⟨e, H'⟩ => ⟨e, Hx.call H' rfl⟩) ?_
    refine Zb [.bool (!x4)] 14 ?_
    refine Zv (!x4) x3 gx3 ?_
    exact Zd [18]
   ·refine Zv (x1 && (decide ((g.Places.length : Int) ≤ 30))) false hb2 ?_
    have gx3 := M.ret_some ((M.ite_some gx3).2 hb2)
    refine Zn ?_
    refine Zn ?_
    refine Zn ?_
    refine Zn ?_
    refine Zn ?_
    refine Zv false x3 gx3 ?_
    exact Zd [18]
  refine Zb [.bool x3] 16 ?_
  exact Zd [2]
 have H3 : Hold h h2 [box b1 28 [iV g.Events, .slice agPlaces g.Places.length cgPlaces]] := H2
 have hF := M.ret_some hF
 subst hF
 have H4 : Hold h h2 [] := H3.pk []
 exact Run_ret1 rfl (Zt (.bool x3)) ⟨rfl, H4⟩

theorem w_slices_Clone_Place (h : Heap) (s_ : List TPlace) (as_ : Option Addr) (cs_ : Nat) (rs_ : Rd cd60 h (Lt h) as_ cs_ s_) (n : Nat) (r : (List TPlace)) (hF : slices_Clone_Place s_ n = some r) :
  Fn Try.prog 120 #[.slice as_ s_.length cs_] h fun v h' => ∃ (a0 : Option Addr) (c0 : Nat), v = .slice a0 r.length c0 ∧ Hold h h' [own cd60 a0 r.length c0 r] := by
 unfold slices_Clone_Place at hF
 refine Zo [.slice as_ s_.length cs_] Try.func120 rfl (fun w0 _ => ?_)
 have H0 := Hold.init h
 refine Zs ?_
 refine Zq [.slice none 0 0] [0] [(0, .slice as_ s_.length cs_)] ?_
 refine Zs ?_
 refine Zs ?_
 refine Zg 2 [(0, .slice as_ s_.length cs_), (4, .bool as_.isNone)] ?_ ?_
 ·refine Zb [.slice as_ s_.length cs_] 0 ?_
  refine Zy (.bool as_.isNone) (Y_isnil (t := 26) (e := 60) (n := s_.length) (c := cs_) (a := as_) (by kernel_rfl) Try.underlying26) ?_
  exact Zd [0, 4]
 refine Zc (as_.isNone) (fun hb1 => ?_) (fun hb1 => ?_)
 ·obtain rfl : s_ = [] := rs_.isNone hb1
  have hF : (M.ret ([] : List TPlace)) n = some r := by simpa [M.bind, M.app, M.ret] using hF
  refine Zs ?_
  refine Zq [.slice none 0 0] [2] [(2, .slice none 0 0)] ?_
  have hF := M.ret_some hF
  subst hF
  have H1 := H0.empty cd60
  exact Run_ret1 rfl (Zt (.slice none 0 0)) ⟨none, 0, rfl, H1⟩
 ·refine Run_skip ?_
  refine Zs ?_
  refine Run_ops ?_
  refine Ze ?_
  refine E_lit (C := cd60) (n := 0) (l := ([] : List TPlace)) (cs := []) H0 (fun w => by kernel_rfl) (Enc.nil _ _) rfl (by decide) (fun a1 h1 H2 => ?_)
  refine Zr [.slice as_ s_.length cs_] 1 ?_
  obtain ⟨l1, hl1, hF⟩ := M.bind_some hF
  have hl1 := M.app_some hl1
  refine Ze ?_
  refine E_appR (C := cd60) (t := 26) (ty := 26) (n := 0) (m := s_.length) H2 cd60_copies (rs_.at H2.ext) rfl cd60_ti rfl Try.underlying26 (by decide) (by kernel_rfl) hl1 (fun a2 c1 h2 H3 => ?_)
  refine Zr [.slice a2 l1.length c1] 3 ?_
  refine Zx ?_
  refine Zk [2] [(2, .slice a2 l1.length c1)] ?_
  have hF := M.ret_some hF
  subst hF
  exact Run_ret1 rfl (Zt (.slice a2 l1.length c1)) ⟨a2, c1, rfl, H3⟩

theorem w_impl_cloneGraph (h : Heap) (g : TGraph) (agPlaces : Option Addr) (cgPlaces : Nat) (rgPlaces : Rd cd60 h (Lt h) agPlaces cgPlaces g.Places) (n : Nat) (r : TGraph) (hF : impl_cloneGraph g n = some r) :
  Fn Try.prog 81 #[.agg #[iV g.Events, .slice agPlaces g.Places.length cgPlaces]] h fun v h' => ∃ (a0 : Option Addr) (c0 : Nat), v = .agg #[iV r.Events, .slice a0 r.Places.length c0] ∧ Hold h h' [own cd60 a0 r.Places.length c0 r.Places] := by
 unfold impl_cloneGraph at hF
 refine Zo [.agg #[iV g.Events, .slice agPlaces g.Places.length cgPlaces]] Try.func81 rfl (fun w0 _ => ?_)
 have H0 := Hold.init h
 refine Zs ?_
 refine Run_ops ?_
 refine Ze ?_
 refine E_box (ty := 28) (cs := [iV g.Events, .slice agPlaces g.Places.length cgPlaces]) H0 (fun w => by kernel_rfl) (fun b1 h1 H1 => ?_)
 refine Ze ?_
 refine E_box (ty := 28) (cs := [iV 0, .slice none 0 0]) H1 (fun w => by kernel_rfl) (fun b2 h2 H2 => ?_)
 refine Zx ?_
 refine Zk [1, 2] [(1, pV b1), (2, pV b2)] ?_
 refine Zs ?_
 refine Run_D (fun x => Hold h x [box b2 28 [iV 0, .slice none 0 0], box b1 28 [iV g.Events, .slice agPlaces g.Places.length cgPlaces]]) (fun x => Hold h x [box b2 28 [iV 0, .slice none 0 0], box b1 28 [iV g.Events, .slice agPlaces g.Places.length cgPlaces]]) mixed (by kernel_rfl) H2 Hold.stable (fun x Hy => (show Hold h x [box b2 28 [iV 0, .slice none 0 0], box b1 28 [iV g.Events, .slice agPlaces g.Places.length cgPlaces]] from Hy).pk [0, 1]) ?_
 refine ZB 6 [pV b1] 0 ?_
 refine ZY 5 1 (iV g.Events) (fun hx Hx => (YE.of (Zl 2 (⟨b1, 0, none⟩) (iV g.Events) (Hx.cell 1 rfl rfl)))) ?_
 refine ZB 4 [.pointer (some ⟨b1, 1, none⟩)] 2 ?_
 refine ZY 3 3 (.slice agPlaces g.Places.length cgPlaces) (fun hx Hx => (YE.of (Zl 26 (⟨b1, 1, none⟩) (.slice agPlaces g.Places.length cgPlaces) (Hx.cell 1 rfl rfl)))) ?_
 refine ZE 2 4 (fun h3 H3 => ?_)
 have H4 : Hold h h3 [box b2 28 [iV 0, .slice none 0 0], box b1 28 [iV g.Events, .slice agPlaces g.Places.length cgPlaces]] := H3
 obtain ⟨x1, hx1, hF⟩ := M.bind_some hF
 refine ZC 120 #[.slice agPlaces g.Places.length cgPlaces] (w_slices_Clone_Place h3 g.Places agPlaces cgPlaces (rgPlaces.at H4.ext) _ _ hx1) (fun v1 h4 hp1 => ?_)
 obtain ⟨a1, c1, rfl, H5⟩ := hp1
 have H6 : Hold h h4 [own cd60 a1 x1.length c1 x1, box b2 28 [iV 0, .slice none 0 0], box b1 28 [iV g.Events, .slice agPlaces g.Places.length cgPlaces]] := H4.call H5 rfl
 refine ⟨fun x => Hold h x [box b2 28 [iV 0, .slice none 0 0], box b1 28 [iV g.Events, .slice agPlaces g.Places.length cgPlaces], own cd60 a1 x1.length c1 x1], fun x => Hold h x [own cd60 a1 x1.length c1 x1, box b2 28 [iV 0, .slice none 0 0], box b1 28 [iV g.Events, .slice agPlaces g.Places.length cgPlaces]], H6, Hold.stable, fun x Hy => (show Hold h x [own cd60 a1 x1.length c1 x1, box b2 28 [iV 0, .slice none 0 0], box b1 28 [iV g.Events, .slice agPlaces g.Places.length cgPlaces]] from Hy).pk [1, 2, 0], fun x Hy => (show Hold h x [box b2 28 [iV 0, .slice none 0 0], box b1 28 [iV g.Events, .slice agPlaces g.Places.length cgPlaces], own cd60 a1 x1.length c1 x1] from Hy).pk [0, 1], ?_⟩
 refine ZB 1 [.agg #[iV g.Events, .slice a1 x1.length c1]] 5 ?_
 refine ZT 6 (fun h5 H7 => ?_)
 have H8 : Hold h h5 [own cd60 a1 x1.length c1 x1, box b2 28 [iV 0, .slice none 0 0], box b1 28 [iV g.Events, .slice agPlaces g.Places.length cgPlaces]] := H7
 have H10 : Hold h h5 [box b2 28 [iV 0, .slice none 0 0], own cd60 a1 x1.length c1 x1, box b1 28 [iV g.Events, .slice agPlaces g.Places.length cgPlaces]] := H8.pk [1, 0, 2]
 refine Ze ?_
 refine ZP 28 0 [iV g.Events, .slice a1 x1.length c1] (.agg #[iV g.Events, .slice a1 x1.length c1]) H10 (fun h6 H9 => ?_)
 refine Zx ?_
 refine Zk [2] [(2, pV b2)] ?_
 have hF := M.ret_some hF
 subst hF
 have H11 : Hold h h6 [own cd60 a1 x1.length c1 x1, box b2 28 [iV g.Events, .slice a1 x1.length c1], box b1 28 [iV g.Events, .slice agPlaces g.Places.length cgPlaces]] := H9.pk [1, 0, 2]
 have H12 : Hold h h6 [own cd60 a1 x1.length c1 x1] := H11.pk [0]
 exact Run_ret1 rfl (ResV_cell (n := 2) (cs := [iV g.Events, .slice a1 x1.length c1]) (by kernel_rfl) (fun w => by kernel_rfl) (by kernel_rfl) rfl (H9.cells (n := 2) (off := 0) 0 rfl rfl)) ⟨a1, c1, rfl, H12⟩

theorem w_cmp_isNaN_i (h : Heap) (x_ : Int) (n : Nat) (r : Bool) (hF : cmp_isNaN_i x_ n = some r) :
  Fn Try.prog 123 #[iV x_] h fun v h' => v = .bool r ∧ h' = h := by
 unfold cmp_isNaN_i at hF
 refine Zo [iV x_] Try.func123 rfl (fun w0 _ => ?_)
 refine Zs ?_
 refine Zq [.bool false] [0] [(0, iV x_)] ?_
 refine Zs ?_
 refine Zq [iV x_, iV x_, .bool (x_ != x_), .bool (x_ != x_)] [2] [(2, .bool (x_ != x_))] ?_
 have hF := M.ret_some hF
 subst hF
 exact Run_ret1 rfl (Zt (.bool (x_ != x_))) ⟨rfl, rfl⟩

theorem w_cmp_Compare_i (h : Heap) (x_ : Int) (y_ : Int) (n : Nat) (r : Int) (hF : cmp_Compare_i x_ y_ n = some r) :
  Fn Try.prog 85 #[iV x_, iV y_] h fun v h' => v = iV r ∧ h' = h := by
 unfold cmp_Compare_i at hF
 refine Zo [iV x_, iV y_] Try.func85 rfl (fun w0 _ => ?_)
 refine Zs ?_
 refine Zq [iV 0] [0, 1] [(0, iV x_), (1, iV y_)] ?_
 refine Zs ?_
 obtain ⟨x1, hx1, hF⟩ := M.bind_some hF
 refine Zg 3 [(0, iV x_), (1, iV y_), (5, .bool x1)] ?_ ?_
 ·refine Zb [iV x_] 0 ?_
  refine Zy (.bool x1) (ZQ 123 #[iV x_] (w_cmp_isNaN_i h x_ _ _ hx1)) ?_
  refine Zb [.bool x1] 2 ?_
  exact Zd [0, 1, 5]
 refine Zs ?_
 obtain ⟨x2, hx2, hF⟩ := M.bind_some hF
 refine Zg 3 [(0, iV x_), (1, iV y_), (5, .bool x1), (6, .bool x2)] ?_ ?_
 ·refine Zb [iV y_] 0 ?_
  refine Zy (.bool x2) (ZQ 123 #[iV y_] (w_cmp_isNaN_i h y_ _ _ hx2)) ?_
  refine Zb [.bool x2] 2 ?_
  exact Zd [0, 1, 5, 6]
 refine Zs ?_
 refine Zs ?_
 refine Zq [.bool x1] [0, 1, 6, 11] [(0, iV x_), (1, iV y_), (6, .bool x2), (11, .bool x1)] ?_
 refine Zc (x1) (fun hb1 => ?_) (fun hb1 => ?_)
 ·have hF := (M.ite_some hF).1 hb1
  refine Zs ?_
  refine Zs ?_
  refine Zq [.bool x2] [12] [(12, .bool x2)] ?_
  refine Zc (x2) (fun hb2 => ?_) (fun hb2 => ?_)
  ·have hF := (M.ite_some hF).1 hb2
   refine Zs ?_
   refine Zq [iV 0] [4] [(4, iV 0)] ?_
   have hF := M.ret_some hF
   subst hF
   exact Run_ret1 rfl (Zt (iV 0)) ⟨rfl, rfl⟩
  ·have hF := (M.ite_some hF).2 hb2
   refine Run_skip ?_
   refine Zs ?_
   refine Zq [iV (-1)] [4] [(4, iV (-1))] ?_
   have hF := M.ret_some hF
   subst hF
   exact Run_ret1 rfl (Zt (iV (-1))) ⟨rfl, rfl⟩
 ·have hF := (M.ite_some hF).2 hb1
  refine Run_skip ?_
  refine Zs ?_
  refine Zs ?_
  refine Zq [.bool x2] [0, 1, 13] [(0, iV x_), (1, iV y_), (13, .bool x2)] ?_
  refine Zc (x2) (fun hb3 => ?_) (fun hb3 => ?_)
  ·have hF := (M.ite_some hF).1 hb3
   refine Zs ?_
   refine Zq [iV 1] [4] [(4, iV 1)] ?_
   have hF := M.ret_some hF
   subst hF
   exact Run_ret1 rfl (Zt (iV 1)) ⟨rfl, rfl⟩
  ·have hF := (M.ite_some hF).2 hb3
   refine Run_skip ?_
   refine Zs ?_
   refine Zs ?_
   refine Zq [iV x_, iV y_, .bool (decide (x_ < y_))] [0, 1, 16] [(0, iV x_), (1, iV y_), (16, .bool (decide (x_ < y_)))] ?_
   refine Zc (decide (x_ < y_)) (fun hb4 => ?_) (fun hb4 => ?_)
   ·have hF := (M.ite_some hF).1 hb4
    refine Zs ?_
    refine Zq [iV (-1)] [4] [(4, iV (-1))] ?_
    have hF := M.ret_some hF
    subst hF
    exact Run_ret1 rfl (Zt (iV (-1))) ⟨rfl, rfl⟩
   ·have hF := (M.ite_some hF).2 hb4
    refine Run_skip ?_
    refine Zs ?_
    refine Zs ?_
    refine Zq [iV x_, iV y_, .bool (decide (y_ < x_))] [19] [(19, .bool (decide (y_ < x_)))] ?_
    refine Zc (decide (y_ < x_)) (fun hb5 => ?_) (fun hb5 => ?_)
    ·have hF := (M.ite_some hF).1 hb5
     refine Zs ?_
     refine Zq [iV 1] [4] [(4, iV 1)] ?_
     have hF := M.ret_some hF
     subst hF
     exact Run_ret1 rfl (Zt (iV 1)) ⟨rfl, rfl⟩
    ·have hF := (M.ite_some hF).2 hb5
     refine Run_skip ?_
     refine Zs ?_
     refine Zq [iV 0] [4] [(4, iV 0)] ?_
     have hF := M.ret_some hF
     subst hF
     exact Run_ret1 rfl (Zt (iV 0)) ⟨rfl, rfl⟩

theorem w_cmp_Or_n (h : Heap) (vals : List Int) {Svals : Bs} (avals : Option Addr) (cvals : Nat) (rvals : Rd cd3 h Svals avals cvals vals) (n : Nat) (r : Int) (hF : cmp_Or_n vals n = some r) :
  Fn Try.prog 84 #[.slice avals vals.length cvals] h fun v h' => v = iV r ∧ h' = h := by
 unfold cmp_Or_n at hF
 refine Zo [.slice avals vals.length cvals] Try.func84 rfl (fun w0 _ => ?_)
 refine Zs ?_
 refine Zq [iV 0] [0] [(0, .slice avals vals.length cvals)] ?_
 refine Zs ?_
 refine Zq [iV 0] [0, 3] [(0, .slice avals vals.length cvals), (3, iV 0)] ?_
 refine Zs ?_
 refine Zs ?_
 refine Zq [.slice avals vals.length cvals, iV (vals.length : Int), iV 0] [3, 6, 7, 8] [(3, iV 0), (6, .slice avals vals.length cvals), (7, iV (vals.length : Int)), (8, iV 0)] ?_
 obtain ⟨x1, gx1, hF⟩ := M.bind_some hF
 obtain ⟨hloy1, hhiy1, gx1⟩ := M.for_start gx1
 refine Run_join (fun L' h' => ∃ (s2 : Unit), x1 = .inl s2 ∧ L' = [(3, iV 0)] ∧ h = h') ?_ ?_
 ·rintro _ _ ⟨s2, es2, rfl, rfl⟩
  have hF := M.cont_inl' hF es2
  refine Zs ?_
  refine Zq [iV 0, iV 0] [2] [(2, iV 0)] ?_
  have hF := M.ret_some hF
  subst hF
  exact Run_ret1 rfl (Zt (iV 0)) ⟨rfl, rfl⟩
 ·refine Run_block ?_
  refine Zk [3, 6, 7, 8] [(3, iV 0), (6, .slice avals vals.length cvals), (7, iV (vals.length : Int)), (8, iV 0)] ?_
  refine Run_loop (fun m L' h' => ∃ (i1 : Int) (s1 : Unit), 0 ≤ i1 ∧ M.forN (vals.length : Int) _ _ n m i1 s1 = some x1 ∧ L' = [(3, iV 0), (6, .slice avals vals.length cvals), (7, iV (vals.length : Int)), (8, iV i1)] ∧ h = h') ((vals.length : Int) - 0 : Int).toNat ⟨0, (), Int.le_refl _, gx1, rfl, rfl⟩ ?_
  rintro my1 _ _ ⟨i1, s1, hloy1', gx1, rfl, rfl⟩
  refine Zs ?_
  refine Zq [.bool (decide (i1 < (vals.length : Int)))] [3, 6, 7, 8, 9] [(3, iV 0), (6, .slice avals vals.length cvals), (7, iV (vals.length : Int)), (8, iV i1), (9, .bool (decide (i1 < (vals.length : Int))))] ?_
  refine Zs ?_
  refine Zc (decide (i1 < (vals.length : Int))) (fun hb1 => ?_) (fun hb1 => ?_)
  ·obtain ⟨my1, y1, rfl, hB1, hgoy1, houty1⟩ := M.for_go gx1 hb1
   have hlty1 := of_decide_eq_true hb1
   refine Run_skip ?_
   refine Zs ?_
   refine Run_block ?_
   refine Zs ?_
   obtain ⟨x2, hx1, hB1⟩ := M.bind_some hB1
   obtain ⟨hx1l, hx1u, hx1⟩ := M.idx_some hx1
   refine Zg 3 [(3, iV 0), (5, iV x2), (6, .slice avals vals.length cvals), (7, iV (vals.length : Int)), (8, iV i1)] ?_ ?_
   ·refine Zy (.pointer (some (adr avals (i1.toNat * 1)))) (Zi 149 3 1 (avals) (vals.length) (cvals) .i64 (i1) Try.underlying149 (rvals.cell hx1).1 hx1l hx1u) ?_
    refine Zy (iV x2) (Zl 3 (adr avals (i1.toNat * 1)) (iV x2) (cd3_cell rvals hx1)) ?_
    refine Zb [iV x2] 2 ?_
    exact Zd [3, 5, 6, 7, 8]
   refine Zs ?_
   refine Zq [iV x2, iV 0, .bool (x2 != 0)] [3, 5, 6, 7, 8, 14] [(3, iV 0), (5, iV x2), (6, .slice avals vals.length cvals), (7, iV (vals.length : Int)), (8, iV i1), (14, .bool (x2 != 0))] ?_
   refine Zc (x2 != 0) (fun hb2 => ?_) (fun hb2 => ?_)
   ·have hB1 := (M.ite_some hB1).1 hb2
    refine Zs ?_
    refine Zq [iV x2, iV x2] [2] [(2, iV x2)] ?_
    have hB1 := M.ret_some hB1
    have gx1 := houty1 _ hB1.symm
    have hF := M.cont_inr' hF gx1
    have hF := M.ret_some hF
    subst hF
    exact Run_ret1 rfl (Zt (iV x2)) ⟨rfl, rfl⟩
   ·have hB1 := (M.ite_some hB1).2 hb2
    refine Run_skip ?_
    refine Run_blk ?_
    refine Zg 2 [(3, iV 0), (6, .slice avals vals.length cvals), (7, iV (vals.length : Int)), (8, iV (i1 + 1))] ?_ ?_
    ·refine Zy (iV (i1 + 1)) (Y_eq (v := iV (w64 (i1 + 1))) (Y_pure (fun w => by kernel_rfl)) (by rw [w64_eq _ (by omega)])) ?_
     refine Zb [iV (i1 + 1)] 1 ?_
     exact Zd [3, 6, 7, 8]
    have hB1 := M.ret_some hB1
    have gx1 := hgoy1 _ hB1.symm
    exact Za [3, 6, 7, 8] my1 ⟨i1 + 1, (), by omega, gx1, rfl, rfl⟩
  ·have gx1 := M.for_end gx1 hb1
   subst gx1
   refine Run_exit (k' := _) rfl ?_
   exact Zf [3] ⟨(), rfl, rfl, rfl⟩

theorem w_impl_simplified_1 (h : Heap) (p : TPlace) (q : TPlace) (n : Nat) (r : Int) (hF : impl_simplified_1 p q n = some r) :
  Fn Try.prog 83 #[.agg #[iV p.From, iV p.To, iV p.Delay, iV p.Tokens], .agg #[iV q.From, iV q.To, iV q.Delay, iV q.Tokens]] h fun v h' => v = iV r ∧ Hold h h' [] := by
 unfold impl_simplified_1 at hF
 refine Zo [.agg #[iV p.From, iV p.To, iV p.Delay, iV p.Tokens], .agg #[iV q.From, iV q.To, iV q.Delay, iV q.Tokens]] Try.func83 rfl (fun w0 _ => ?_)
 have H0 := Hold.init h
 refine Zs ?_
 refine Run_ops ?_
 refine Ze ?_
 refine E_box (ty := 60) (cs := [iV p.From, iV p.To, iV p.Delay, iV p.Tokens]) H0 (fun w => by kernel_rfl) (fun b1 h1 H1 => ?_)
 refine Ze ?_
 refine E_box (ty := 60) (cs := [iV q.From, iV q.To, iV q.Delay, iV q.Tokens]) H1 (fun w => by kernel_rfl) (fun b2 h2 H2 => ?_)
 refine Zr [iV 0] 2 ?_
 refine Zx ?_
 refine Zk [2, 3] [(2, pV b1), (3, pV b2)] ?_
 refine Zs ?_
 obtain ⟨x1, hx1, hF⟩ := M.bind_some hF
 obtain ⟨x2, hx2, hF⟩ := M.bind_some hF
 obtain ⟨x3, hx3, hF⟩ := M.bind_some hF
 obtain ⟨x4, hx4, hF⟩ := M.bind_some hF
 refine Run_D (fun x => Hold h x [box b2 60 [iV q.From, iV q.To, iV q.Delay, iV q.Tokens], box b1 60 [iV p.From, iV p.To, iV p.Delay, iV p.Tokens]]) (fun x => Hold h x [box b2 60 [iV q.From, iV q.To, iV q.Delay, iV q.Tokens], box b1 60 [iV p.From, iV p.To, iV p.Delay, iV p.Tokens]]) mixed (by kernel_rfl) H2 Hold.stable (fun x Hy => (show Hold h x [box b2 60 [iV q.From, iV q.To, iV q.Delay, iV q.Tokens], box b1 60 [iV p.From, iV p.To, iV p.Delay, iV p.Tokens]] from Hy).pk [0, 1]) ?_
 refine ZB 22 [pV b1] 0 ?_
 refine ZY 21 1 (iV p.From) (fun hx Hx => (YE.of (Zl 2 (⟨b1, 0, none⟩) (iV p.From) (Hx.cell 1 rfl rfl)))) ?_
 refine ZB 20 [pV b2] 2 ?_
 refine ZY 19 3 (iV q.From) (fun hx Hx => (YE.of (Zl 2 (⟨b2, 0, none⟩) (iV q.From) (Hx.cell 0 rfl rfl)))) ?_
 refine ZY 18 4 (iV x1) (fun hx Hx => (YE.of (ZQ 85 #[iV p.From, iV q.From] (w_cmp_Compare_i hx p.From q.From _ _ hx1)))) ?_
 refine ZB 17 [.pointer (some ⟨b1, 1, none⟩)] 5 ?_
 refine ZY 16 6 (iV p.To) (fun hx Hx => (YE.of (Zl 2 (⟨b1, 1, none⟩) (iV p.To) (Hx.cell 1 rfl rfl)))) ?_
 refine ZB 15 [.pointer (some ⟨b2, 1, none⟩)] 7 ?_
 refine ZY 14 8 (iV q.To) (fun hx Hx => (YE.of (Zl 2 (⟨b2, 1, none⟩) (iV q.To) (Hx.cell 0 rfl rfl)))) ?_
 refine ZY 13 9 (iV x2) (fun hx Hx => (YE.of (ZQ 85 #[iV p.To, iV q.To] (w_cmp_Compare_i hx p.To q.To _ _ hx2)))) ?_
 refine ZB 12 [.pointer (some ⟨b1, 3, none⟩)] 10 ?_
 refine ZY 11 11 (iV p.Tokens) (fun hx Hx => (YE.of (Zl 2 (⟨b1, 3, none⟩) (iV p.Tokens) (Hx.cell 1 rfl rfl)))) ?_
 refine ZB 10 [.pointer (some ⟨b2, 3, none⟩)] 12 ?_
 refine ZY 9 13 (iV q.Tokens) (fun hx Hx => (YE.of (Zl 2 (⟨b2, 3, none⟩) (iV q.Tokens) (Hx.cell 0 rfl rfl)))) ?_
 refine ZY 8 14 (iV x3) (fun hx Hx => (YE.of (ZQ 85 #[iV p.Tokens, iV q.Tokens] (w_cmp_Compare_i hx p.Tokens q.Tokens _ _ hx3)))) ?_
 refine ZB 7 [.pointer (some ⟨b2, 2, none⟩)] 15 ?_
 refine ZY 6 16 (iV q.Delay) (fun hx Hx => (YE.of (Zl 2 (⟨b2, 2, none⟩) (iV q.Delay) (Hx.cell 0 rfl rfl)))) ?_
 refine ZB 5 [.pointer (some ⟨b1, 2, none⟩)] 17 ?_
 refine ZY 4 18 (iV p.Delay) (fun hx Hx => (YE.of (Zl 2 (⟨b1, 2, none⟩) (iV p.Delay) (Hx.cell 1 rfl rfl)))) ?_
 refine ZY 3 19 (iV x4) (fun hx Hx => (YE.of (ZQ 85 #[iV q.Delay, iV p.Delay] (w_cmp_Compare_i hx q.Delay p.Delay _ _ hx4)))) ?_
 refine ZT 20 (fun h3 H3 => ?_)
 have H4 : Hold h h3 [box b2 60 [iV q.From, iV q.To, iV q.Delay, iV q.Tokens], box b1 60 [iV p.From, iV p.To, iV p.Delay, iV p.Tokens]] := H3
 refine Ze ?_
 refine E_lit (C := cd3) (n := 4) (l := ([x1, x2, x3, x4] : List Int)) (cs := [iV x1, iV x2, iV x3, iV x4]) H4 (fun w => by kernel_rfl) (Enc.consE (cd3_own x1 _) (Enc.consE (cd3_own x2 _) (Enc.consE (cd3_own x3 _) (Enc.consE (cd3_own x4 _) (Enc.nil _ _) rfl) rfl) rfl) rfl) rfl (by decide) (fun a1 h4 H5 => ?_)
 obtain ⟨x5, hx5, hF⟩ := M.bind_some hF
 refine Zz (iV x5) (ZQ 84 #[.slice a1 4 4] (Fn.arg (w_cmp_Or_n h4 ([x1, x2, x3, x4] : List Int) a1 4 (H5.rd 0 rfl) _ _ hx5) (by simp only [(H5.len 0 rfl)]))) ?_
 refine Zr [iV x5] 22 ?_
 refine Zx ?_
 refine Zk [4] [(4, iV x5)] ?_
 have hF := M.ret_some hF
 subst hF
 have H6 : Hold h h4 [] := H5.pk []
 exact Run_ret1 rfl (Zt (iV x5)) ⟨rfl, H6⟩

theorem w_impl_simplified_2 (h : Heap) (p : TPlace) (q : TPlace) (n : Nat) (r : Bool) (hF : impl_simplified_2 p q n = some r) :
  Fn Try.prog 87 #[.agg #[iV p.From, iV p.To, iV p.Delay, iV p.Tokens], .agg #[iV q.From, iV q.To, iV q.Delay, iV q.Tokens]] h fun v h' => v = .bool r ∧ Hold h h' [] := by
 unfold impl_simplified_2 at hF
 refine Zo [.agg #[iV p.From, iV p.To, iV p.Delay, iV p.Tokens], .agg #[iV q.From, iV q.To, iV q.Delay, iV q.Tokens]] Try.func87 rfl (fun w0 _ => ?_)
 have H0 := Hold.init h
 refine Zs ?_
 refine Run_ops ?_
 refine Ze ?_
 refine E_box (ty := 60) (cs := [iV p.From, iV p.To, iV p.Delay, iV p.Tokens]) H0 (fun w => by kernel_rfl) (fun b1 h1 H1 => ?_)
 refine Ze ?_
 refine E_box (ty := 60) (cs := [iV q.From, iV q.To, iV q.Delay, iV q.Tokens]) H1 (fun w => by kernel_rfl) (fun b2 h2 H2 => ?_)
 refine Zr [.bool false] 2 ?_
 refine Zx ?_
 refine Zk [2, 3] [(2, pV b1), (3, pV b2)] ?_
 refine Zs ?_
 refine Zg 20 [(4, .bool (((p.From == q.From) && (p.To == q.To)) && (p.Tokens == q.Tokens)))] ?_ ?_
 ·refine Zb [pV b1] 0 ?_
  refine Zy (iV p.From) (Zl 2 (⟨b1, 0, none⟩) (iV p.From) (H2.cell 1 rfl rfl)) ?_
  refine Zb [pV b2] 2 ?_
  refine Zy (iV q.From) (Zl 2 (⟨b2, 0, none⟩) (iV q.From) (H2.cell 0 rfl rfl)) ?_
  refine Zb [.bool (p.From == q.From)] 4 ?_
  refine QRun_seq 12 [(2, pV b1), (3, pV b2), (16, .bool ((p.From == q.From) && (p.To == q.To)))] ?_ ?_
  ·rcases Bool.eq_false_or_eq_true (p.From == q.From) with hb1 | hb1
   ·refine Zv (p.From == q.From) true hb1 ?_
    refine Zb [.pointer (some ⟨b1, 1, none⟩)] 6 ?_
    refine Zy (iV p.To) (Zl 2 (⟨b1, 1, none⟩) (iV p.To) (H2.cell 1 rfl rfl)) ?_
    refine Zb [.pointer (some ⟨b2, 1, none⟩)] 8 ?_
    refine Zy (iV q.To) (Zl 2 (⟨b2, 1, none⟩) (iV q.To) (H2.cell 0 rfl rfl)) ?_
    refine Zb [.bool (p.To == q.To)] 10 ?_
    refine QRun_bool (p.To == q.To) ((p.From == q.From) && (p.To == q.To)) (by kernel_rfl) (fun w => by kernel_rfl) (by rw [hb1]; rfl) ?_
    exact Zd [2, 3, 16]
   ·refine Zv (p.From == q.From) false hb1 ?_
    refine Zn ?_
    refine Zn ?_
    refine Zn ?_
    refine Zn ?_
    refine Zn ?_
    refine QRun_bool false ((p.From == q.From) && (p.To == q.To)) (by kernel_rfl) (fun w => by kernel_rfl) (by rw [hb1]; rfl) ?_
    exact Zd [2, 3, 16]
  refine QRun_seq 19 [(23, .bool (((p.From == q.From) && (p.To == q.To)) && (p.Tokens == q.Tokens)))] ?_ ?_
  ·rcases Bool.eq_false_or_eq_true ((p.From == q.From) && (p.To == q.To)) with hb2 | hb2
   ·refine Zv ((p.From == q.From) && (p.To == q.To)) true hb2 ?_
    refine Zb [.pointer (some ⟨b1, 3, none⟩)] 13 ?_
    refine Zy (iV p.Tokens) (Zl 2 (⟨b1, 3, none⟩) (iV p.Tokens) (H2.cell 1 rfl rfl)) ?_
    refine Zb [.pointer (some ⟨b2, 3, none⟩)] 15 ?_
    refine Zy (iV q.Tokens) (Zl 2 (⟨b2, 3, none⟩) (iV q.Tokens) (H2.cell 0 rfl rfl)) ?_
    refine Zb [.bool (p.Tokens == q.Tokens)] 17 ?_
    refine QRun_bool (p.Tokens == q.Tokens) (((p.From == q.From) && (p.To == q.To)) && (p.Tokens == q.Tokens)) (by kernel_rfl) (fun w => by kernel_rfl) (by rw [hb2]; rfl) ?_
    exact Zd [23]
   ·refine Zv ((p.From == q.From) && (p.To == q.To)) false hb2 ?_
    refine Zn ?_
    refine Zn ?_
    refine Zn ?_
    refine Zn ?_
    refine Zn ?_
    refine QRun_bool false (((p.From == q.From) && (p.To == q.To)) && (p.Tokens == q.Tokens)) (by kernel_rfl) (fun w => by kernel_rfl) (by rw [hb2]; rfl) ?_
    exact Zd [23]
  refine Zb [.bool (((p.From == q.From) && (p.To == q.To)) && (p.Tokens == q.Tokens))] 19 ?_
  exact Zd [4]
 have hF := M.ret_some hF
 subst hF
 have H3 : Hold h h2 [] := H2.pk []
 exact Run_ret1 rfl (Zt (.bool (((p.From == q.From) && (p.To == q.To)) && (p.Tokens == q.Tokens)))) ⟨rfl, H3⟩

theorem cmpI_run (x y : Int) (n : Nat) : cmp_Compare_i x y n = some (cmpI x y) := by
 have e : ∀ z : Int, (z != z) = false := fun z => by simp
 simp only [cmp_Compare_i, cmp_isNaN_i, M.bind, M.ret, M.ite, e]
 unfold cmpI
 by_cases h1 : x < y
 ·simp [h1]
 ·by_cases h2 : y < x <;> simp [h1, h2]
theorem cmpI_val (x y : Int) : cmpI x y = -1 ∨ cmpI x y = 0 ∨ cmpI x y = 1 := by
 unfold cmpI
 by_cases h1 : x < y
 ·simp [h1]
 ·by_cases h2 : y < x <;> simp [h1, h2]
theorem placeCmp_run (p q : TPlace) : impl_simplified_1 p q 8 = some (placeCmp p q) := by
 show M.bind (cmp_Compare_i p.From q.From) _ 8 = _
 unfold M.bind
 simp only [cmpI_run, Option.bind_some, placeCmp]
 have a := cmpI_val p.From q.From
 have b := cmpI_val p.To q.To
 have c := cmpI_val p.Tokens q.Tokens
 have d := cmpI_val q.Delay p.Delay
 generalize cmpI p.From q.From = x1 at *
 generalize cmpI p.To q.To = x2 at *
 generalize cmpI p.Tokens q.Tokens = x3 at *
 generalize cmpI q.Delay p.Delay = x4 at *
 rcases a with rfl | rfl | rfl
 ·rcases b with rfl | rfl | rfl <;> rcases c with rfl | rfl | rfl <;> rcases d with rfl | rfl | rfl <;> rfl
 ·rcases b with rfl | rfl | rfl <;> rcases c with rfl | rfl | rfl <;> rcases d with rfl | rfl | rfl <;> rfl
 ·rcases b with rfl | rfl | rfl <;> rcases c with rfl | rfl | rfl <;> rcases d with rfl | rfl | rfl <;> rfl
theorem placeCmp_lt (p q : TPlace) : placeCmp p q < 0 ↔ p.From < q.From ∨ (p.From = q.From ∧ (p.To < q.To ∨ (p.To = q.To ∧ (p.Tokens < q.Tokens ∨ (p.Tokens = q.Tokens ∧ q.Delay < p.Delay))))) := by
 have v : ∀ x y : Int, (cmpI x y = -1 ∧ x < y) ∨ (cmpI x y = 0 ∧ x = y) ∨ (cmpI x y = 1 ∧ y < x) := fun x y => by
  unfold cmpI
  by_cases h1 : x < y
  ·simp [h1]
  ·by_cases h2 : y < x
   ·simp [h1, h2]
   ·simp [h1, h2]; omega
 have a := v p.From q.From
 have b := v p.To q.To
 have c := v p.Tokens q.Tokens
 have d := v q.Delay p.Delay
 unfold placeCmp
 split
 ·omega
 ·split
  ·omega
  ·split <;> omega
theorem w_slices_SortFunc_Place_F_impl_simplified_1 (h hE : Heap) (it : Item) (x_ : List TPlace) (ax_ : Option Addr) (cx_ : Nat) (HM : Hold h hE [own cd60 ax_ x_.length cx_ x_, it]) (n : Nat) (r : List TPlace) (hF : slices_SortFunc_Place_F_impl_simplified_1 x_ n = some r) :
  Fn Try.prog 82 #[.slice ax_ x_.length cx_, .func (.func 83) #[] #[]] hE fun v h' => v = .tuple #[] ∧ Hold h h' [own cd60 ax_ x_.length cx_ r, it] := by
 obtain ⟨u, hu, hF⟩ := M.bind_some hF
 have hu := of_decide_eq_true (M.guard_some hu)
 have hF := M.ret_some hF
 subst hF
 haveI : Inhabited TPlace := ⟨⟨0, 0, 0, 0⟩⟩
 refine Fn_sortK (C := cd60) (enc := (fun x : TPlace => [iV x.From, iV x.To, iV x.Delay, iV x.Tokens])) laySortF rfl ⟨fun _ => rfl, fun _ _ _ _ o => o, fun h x => cd60_own x h⟩ (fun x v hv => ?_) (fun w => by kernel_rfl) (fun w => by kernel_rfl) placeCmp ⟨fun x => ?_, fun x y z h1 h2 => ?_, fun x y z h1 h2 => ?_⟩ (fun x y h1 h2 => ?_) (by kernel_rfl) (fun h x y => (w_impl_simplified_1 h x y 8 _ (placeCmp_run x y))) HM hu
 ·simp only [List.mem_cons, List.not_mem_nil, or_false] at hv
  rcases hv with rfl | rfl | rfl | rfl <;> rfl
 ·simp only [Go.Proofs.ltOf, decide_eq_false_iff_not, placeCmp_lt]; omega
 ·simp only [Go.Proofs.ltOf, decide_eq_true_eq, placeCmp_lt] at *; omega
 ·simp only [Go.Proofs.ltOf, decide_eq_false_iff_not, placeCmp_lt] at *; omega
 ·simp only [Go.Proofs.ltOf, decide_eq_false_iff_not, placeCmp_lt] at h1 h2
  cases x; cases y
  simp only [TPlace.mk.injEq] at *
  omega

theorem w_slices_CompactFunc_Place_F_impl_simplified_2 (h hE : Heap) (it : Item) (s_ : List TPlace) (as_ : Option Addr) (cs_ : Nat) (HM : Hold h hE [own cd60 as_ s_.length cs_ s_, it]) (n : Nat) (r : (List TPlace)) (hF : slices_CompactFunc_Place_F_impl_simplified_2 s_ n = some r) :
  Fn Try.prog 86 #[.slice as_ s_.length cs_, .func (.func 87) #[] #[]] hE fun v h' => ∃ (a0 : Option Addr) (c0 : Nat), v = .slice a0 r.length c0 ∧ Hold h h' [own cd60 a0 r.length c0 r, it] := by
 unfold slices_CompactFunc_Place_F_impl_simplified_2 at hF
 refine Zo [.slice as_ s_.length cs_, .func (.func 87) #[] #[]] Try.func86 rfl (fun w0 _ => ?_)
 refine Zs ?_
 refine Zq [.slice none 0 0] [0, 1] [(0, .slice as_ s_.length cs_), (1, .func (.func 87) #[] #[])] ?_
 refine Zs ?_
 refine Zs ?_
 refine Zq [.slice as_ s_.length cs_, iV (s_.length : Int), .bool (decide ((s_.length : Int) < 2))] [0, 1, 10] [(0, .slice as_ s_.length cs_), (1, .func (.func 87) #[] #[]), (10, .bool (decide ((s_.length : Int) < 2)))] ?_
 refine Zc (decide ((s_.length : Int) < 2)) (fun hb1 => ?_) (fun hb1 => ?_)
 ·have hF := (M.ite_some hF).1 hb1
  refine Zs ?_
  refine Zq [.slice as_ s_.length cs_, .slice as_ s_.length cs_] [4] [(4, .slice as_ s_.length cs_)] ?_
  have hF := M.ret_some hF
  subst hF
  exact Run_ret1 rfl (Zt (.slice as_ s_.length cs_)) ⟨as_, cs_, rfl, HM⟩
 ·have hF := (M.ite_some hF).2 hb1
  refine Run_skip ?_
  refine Zs ?_
  refine Zs ?_
  refine Zq [iV 1] [0, 1, 5] [(0, .slice as_ s_.length cs_), (1, .func (.func 87) #[] #[]), (5, iV 1)] ?_
  obtain ⟨x1, gx1, hF⟩ := M.bind_some hF
  refine Run_join (fun L' h' => ∃ (s2 : Int), x1 = .inl s2 ∧ L' = [(0, .slice as_ s_.length cs_)] ∧ Hold h h' [own cd60 as_ s_.length cs_ s_, it]) ?_ ?_
  ·rintro _ h2 ⟨s2, es2, rfl, H2⟩
   have hF := M.cont_inl' hF es2
   refine Zs ?_
   refine Zq [.slice as_ s_.length cs_, .slice as_ s_.length cs_] [4] [(4, .slice as_ s_.length cs_)] ?_
   have hF := M.ret_some hF
   subst hF
   exact Run_ret1 rfl (Zt (.slice as_ s_.length cs_)) ⟨as_, cs_, rfl, H2⟩
  ·refine Run_block ?_
   refine Zk [0, 1, 5] [(0, .slice as_ s_.length cs_), (1, .func (.func 87) #[] #[]), (5, iV 1)] ?_
   refine Run_loop (fun m L' h' => ∃ (s1 : Int), M.loopN _ n m s1 = some x1 ∧ L' = [(0, .slice as_ s_.length cs_), (1, .func (.func 87) #[] #[]), (5, iV s1)] ∧ Hold h h' [own cd60 as_ s_.length cs_ s_, it]) n ⟨1, gx1, rfl, HM⟩ ?_
   rintro my1 _ h1 ⟨s1, gx1, rfl, H1⟩
   obtain ⟨my1, y1, rfl, hB1, hgoy1, houty1⟩ := M.loop_some gx1
   refine Zs ?_
   refine Zs ?_
   refine Zq [iV s1, .slice as_ s_.length cs_, iV (s_.length : Int), .bool (decide (s1 < (s_.length : Int)))] [0, 1, 5, 15] [(0, .slice as_ s_.length cs_), (1, .func (.func 87) #[] #[]), (5, iV s1), (15, .bool (decide (s1 < (s_.length : Int))))] ?_
   refine Zc (decide (s1 < (s_.length : Int))) (fun hb2 => ?_) (fun hb2 => ?_)
   ·have hB1 := (M.ite_some hB1).1 hb2
    refine Run_skip ?_
    refine Zs ?_
    refine Run_block ?_
    refine Zs ?_
    obtain ⟨x2, hx1, hB1⟩ := M.bind_some hB1
    obtain ⟨hx1l, hx1u, hx1⟩ := M.idx_some hx1
    obtain ⟨x3, hx2, hB1⟩ := M.bind_some hB1
    obtain ⟨hx2l, hx2u, hx2⟩ := M.idx_some hx2
    obtain ⟨x4, hx3, hB1⟩ := M.bind_some hB1
    refine Run_drawC (j := 11) (C := fun x => Hold h x [own cd60 as_ s_.length cs_ s_, it]) mixed (by kernel_rfl) (by kernel_rfl) H1 (L' := [(0, .slice as_ s_.length cs_), (1, .func (.func 87) #[] #[]), (5, iV s1), (28, .bool x4)]) ?_ (fun h3 H3 => ?_)
    ·refine Zb [.func (.func 87) #[] #[], .slice as_ s_.length cs_, iV s1] 0 ?_
     refine Zy (.pointer (some (adr as_ (s1.toNat * 4)))) (Y_cls fun hx Hx => (Zi 26 60 4 (as_) (s_.length) (cs_) .i64 (s1) Try.underlying26 ((H1.rd 0 rfl).cell hx1).1 hx1l hx1u)) ?_
     refine Zy (.agg #[iV x2.From, iV x2.To, iV x2.Delay, iV x2.Tokens]) (Y_cls fun hx Hx => (Y_loadA (t := 60) (n := 4) (p := adr as_ (s1.toNat * 4)) (cs := [iV x2.From, iV x2.To, iV x2.Delay, iV x2.Tokens]) (by kernel_rfl) (fun w => by kernel_rfl) (by kernel_rfl) rfl (cd60_elem (Hx.rd 0 rfl) hx1))) ?_
     refine Zb [.slice as_ s_.length cs_, iV s1, iV (w64 (s1 - 1))] 5 ?_
     refine Zy (.pointer (some (adr as_ ((w64 (s1 - 1)).toNat * 4)))) (Y_cls fun hx Hx => (Zi 26 60 4 (as_) (s_.length) (cs_) .i64 (w64 (s1 - 1)) Try.underlying26 ((H1.rd 0 rfl).cell hx2).1 hx2l hx2u)) ?_
     refine Zy (.agg #[iV x3.From, iV x3.To, iV x3.Delay, iV x3.Tokens]) (Y_cls fun hx Hx => (Y_loadA (t := 60) (n := 4) (p := adr as_ ((w64 (s1 - 1)).toNat * 4)) (cs := [iV x3.From, iV x3.To, iV x3.Delay, iV x3.Tokens]) (by kernel_rfl) (fun w => by kernel_rfl) (by kernel_rfl) rfl (cd60_elem (Hx.rd 0 rfl) hx2))) ?_
     refine Zy (.bool x4) (Y_call (f := 87) (args := #[.agg #[iV x2.From, iV x2.To, iV x2.Delay, iV x2.Tokens], .agg #[iV x3.From, iV x3.To, iV x3.Delay, iV x3.Tokens]]) (v := .bool x4) (by kernel_rfl) fun hx Hx => (w_impl_simplified_2 hx x2 x3 _ _ hx3).mono fun _ _ ⟨e, H'⟩ => ⟨e, Hx.call H' rfl⟩) ?_
     exact Zd [0, 1, 5, 28]
    have H4 : Hold h h3 [own cd60 as_ s_.length cs_ s_, it] := H3
    refine Zc (x4) (fun hb3 => ?_) (fun hb3 => ?_)
    ·have hB1 := (M.ite_some hB1).1 hb3
     refine Zs ?_
     obtain ⟨x5, hx4, hB1⟩ := M.bind_some hB1
     obtain ⟨hx4a, hx4b, hx4c, hx4d⟩ := M.sub_some hx4
     have hn1 : x5.length = (s_.length : Int).toNat - (s1 : Int).toNat := by rw [hx4d, List.length_take, List.length_drop]; omega
     refine Zg 4 [(0, .slice as_ s_.length cs_), (1, .func (.func 87) #[] #[]), (5, iV s1), (6, .slice (sliceA as_ cs_ s1.toNat 4) ((s_.length : Int).toNat - (s1 : Int).toNat) (cs_ - s1.toNat))] ?_ ?_
     ·refine Zb [.slice as_ s_.length cs_, iV s1] 0 ?_
      refine Zy (.slice (sliceA as_ cs_ s1.toNat 4) ((s_.length : Int).toNat - (s1 : Int).toNat) (cs_ - s1.toNat)) (Y_slice (t := 26) (e := 60) (sz := 4) (a := as_) (n := s_.length) (cap := cs_) (lo := (some (.i64, s1))) (hi := none) (x := s1) (y := (s_.length : Int)) (by kernel_rfl) Try.underlying26 (by kernel_rfl) (H4.rd 0 rfl).fits rfl rfl hx4a hx4b hx4c) ?_
      refine Zb [.slice (sliceA as_ cs_ s1.toNat 4) ((s_.length : Int).toNat - (s1 : Int).toNat) (cs_ - s1.toNat)] 3 ?_
      exact Zd [0, 1, 5, 6]
     refine Zs ?_
     refine Zs ?_
     refine Zq [iV 1] [0, 1, 5, 6, 7] [(0, .slice as_ s_.length cs_), (1, .func (.func 87) #[] #[]), (5, iV s1), (6, .slice (sliceA as_ cs_ s1.toNat 4) ((s_.length : Int).toNat - (s1 : Int).toNat) (cs_ - s1.toNat)), (7, iV 1)] ?_
     obtain ⟨x6, gx6, hB1⟩ := M.bind_some hB1
     obtain ⟨hloy2, hhiy2, gx6⟩ := M.for_start gx6
     refine Run_join (fun L' h' => L' = [(0, .slice as_ s_.length cs_), (5, iV x6.2)] ∧ Hold h h' [own cd60 as_ s_.length cs_ x6.1, it]) ?_ ?_
     ·rintro _ h5 ⟨rfl, H6⟩
      refine Zs ?_
      refine Run_ops ?_
      obtain ⟨x12, hx10, hB1⟩ := M.bind_some hB1
      obtain ⟨hx10a, hx10b, hx10c, hx10d⟩ := M.sub_some hx10
      have hn2 : x12.length = (s_.length : Int).toNat - (x6.2 : Int).toNat := by rw [hx10d, List.length_take, List.length_drop]; omega
      refine Zr [.slice as_ s_.length cs_, iV x6.2] 0 ?_
      refine Zz (.slice (sliceA as_ cs_ x6.2.toNat 4) ((s_.length : Int).toNat - (x6.2 : Int).toNat) (cs_ - x6.2.toNat)) (Y_slice (t := 26) (e := 60) (sz := 4) (a := as_) (n := s_.length) (cap := cs_) (lo := (some (.i64, x6.2))) (hi := none) (x := x6.2) (y := (s_.length : Int)) (by kernel_rfl) Try.underlying26 (by kernel_rfl) (by rw [← (H6.len 0 rfl)]; exact (H6.rd 0 rfl).fits) rfl rfl hx10a hx10b (by have := (H6.len 0 rfl); have := hx10c; omega)) ?_
      refine Ze ?_
      refine E_clear (C := cd60) (t := 26) (ty := 0) (n := s_.length) (m := (s_.length : Int).toNat - (x6.2 : Int).toNat) (c2 := cs_ - x6.2.toNat) (k := x6.2.toNat) (sz := 4) (⟨0, 0, 0, 0⟩ : TPlace) H6 cd60_flat cd60_ti (by kernel_rfl) Try.underlying26 rfl cd60_zero (by kernel_rfl) (by have := H6.len 0 rfl; omega) (by have := H6.len 0 rfl; omega) (fun h9 H11 => ?_)
      have hn3 : s_.length = (x6.1.take x6.2.toNat ++ List.replicate ((s_.length : Int).toNat - (x6.2 : Int).toNat) (⟨0, 0, 0, 0⟩ : TPlace)).length := by have := H11.len 0 rfl; omega
      refine Zx ?_
      refine Zk [0, 5] [(0, .slice as_ s_.length cs_), (5, iV x6.2)] ?_
      refine Zs ?_
      obtain ⟨x13, hx11, hB1⟩ := M.bind_some hB1
      obtain ⟨hx11a, hx11b, hx11c, hx11d⟩ := M.sub_some hx11
      obtain ⟨H12, e1⟩ := H11.cut x6.2.toNat
      have hx11q : x13 = (x6.1.take x6.2.toNat ++ List.replicate ((s_.length : Int).toNat - (x6.2 : Int).toNat) (⟨0, 0, 0, 0⟩ : TPlace)).take x6.2.toNat := by rw [hx11d]; rfl
      have H13 : Hold h h9 [own cd60 as_ x13.length cs_ x13, it] := by rw [hx11q]; exact H12
      refine Zg 4 [(4, .slice as_ x13.length cs_)] ?_ ?_
      ·refine Zb [.slice as_ s_.length cs_, iV x6.2] 0 ?_
       refine Zy (.slice as_ x13.length cs_) (Y_eq (Y_slice (t := 26) (e := 60) (sz := 4) (a := as_) (n := s_.length) (cap := cs_) (lo := none) (hi := (some (.i64, x6.2))) (x := 0) (y := x6.2) (by kernel_rfl) Try.underlying26 (by kernel_rfl) (by rw [← (H11.len 0 rfl)]; exact (H11.rd 0 rfl).fits) rfl rfl hx11a hx11b (by have := (H11.len 0 rfl); have := hx11c; omega)) (by rw [show sliceA as_ cs_ (0 : Int).toNat 4 = as_ from e1]; simp only [hx11q, List.length_take]; congr 1 <;> omega)) ?_
       refine Zb [.slice as_ x13.length cs_] 3 ?_
       exact Zd [4]
      have hB1 := M.ret_some hB1
      have gx1 := houty1 _ hB1.symm
      have hF := M.cont_inr' hF gx1
      have hF := M.ret_some hF
      subst hF
      exact Run_ret1 rfl (Zt (.slice as_ x13.length cs_)) ⟨as_, cs_, rfl, H13⟩
     ·refine Run_block ?_
      refine Zk [0, 1, 5, 6, 7] [(0, .slice as_ s_.length cs_), (1, .func (.func 87) #[] #[]), (5, iV s1), (6, .slice (sliceA as_ cs_ s1.toNat 4) ((s_.length : Int).toNat - (s1 : Int).toNat) (cs_ - s1.toNat)), (7, iV 1)] ?_
      refine Run_loop (fun m L' h' => ∃ (i1 : Int) (s3 : (List TPlace) × Int), 1 ≤ i1 ∧ M.forN (((s_.length : Int).toNat - (s1 : Int).toNat : Nat) : Int) _ _ n m i1 s3 = some x6 ∧ L' = [(0, .slice as_ s_.length cs_), (1, .func (.func 87) #[] #[]), (5, iV s3.2), (6, .slice (sliceA as_ cs_ s1.toNat 4) ((s_.length : Int).toNat - (s1 : Int).toNat) (cs_ - s1.toNat)), (7, iV i1)] ∧ Hold h h' [own cd60 as_ s_.length cs_ s3.1, it]) ((((s_.length : Int).toNat - (s1 : Int).toNat : Nat) : Int) - 1 : Int).toNat ⟨1, (s_, s1), Int.le_refl _, gx6, rfl, H4⟩ ?_
      rintro my2 _ h4 ⟨i1, s3, hloy2', gx6, rfl, H5⟩
      refine Zs ?_
      refine Zs ?_
      refine Zq [iV i1, .slice (sliceA as_ cs_ s1.toNat 4) ((s_.length : Int).toNat - (s1 : Int).toNat) (cs_ - s1.toNat), iV (((s_.length : Int).toNat - (s1 : Int).toNat : Nat) : Int), .bool (decide (i1 < (((s_.length : Int).toNat - (s1 : Int).toNat : Nat) : Int)))] [0, 1, 5, 6, 7, 35] [(0, .slice as_ s_.length cs_), (1, .func (.func 87) #[] #[]), (5, iV s3.2), (6, .slice (sliceA as_ cs_ s1.toNat 4) ((s_.length : Int).toNat - (s1 : Int).toNat) (cs_ - s1.toNat)), (7, iV i1), (35, .bool (decide (i1 < (((s_.length : Int).toNat - (s1 : Int).toNat : Nat) : Int))))] ?_
      refine Zc (decide (i1 < (((s_.length : Int).toNat - (s1 : Int).toNat : Nat) : Int))) (fun hb4 => ?_) (fun hb4 => ?_)
      ·obtain ⟨my2, y2, rfl, hB2, hgoy2, houty2⟩ := M.for_go gx6 hb4
       have hlty2 := of_decide_eq_true hb4
       refine Run_skip ?_
       refine Zs ?_
       refine Run_block ?_
       refine Zs ?_
       obtain ⟨x7, hx5, hB2⟩ := M.bind_some hB2
       obtain ⟨hx5l, hx5u, hx5⟩ := M.idx_some hx5
       obtain ⟨x8, hx6, hB2⟩ := M.bind_some hB2
       obtain ⟨hx6l, hx6u, hx6⟩ := M.idx_some hx6
       obtain ⟨x9, hx7, hB2⟩ := M.bind_some hB2
       refine Run_drawC (j := 12) (C := fun x => Hold h x [own cd60 as_ s_.length cs_ s3.1, it]) mixed (by kernel_rfl) (by kernel_rfl) H5 (L' := [(0, .slice as_ s_.length cs_), (1, .func (.func 87) #[] #[]), (5, iV s3.2), (6, .slice (sliceA as_ cs_ s1.toNat 4) ((s_.length : Int).toNat - (s1 : Int).toNat) (cs_ - s1.toNat)), (7, iV i1), (49, .bool (!x9))]) ?_ (fun h6 H7 => ?_)
       ·refine Zb [.func (.func 87) #[] #[], .slice (sliceA as_ cs_ s1.toNat 4) ((s_.length : Int).toNat - (s1 : Int).toNat) (cs_ - s1.toNat), iV i1] 0 ?_
        refine Zy (.pointer (some (adr (sliceA as_ cs_ s1.toNat 4) (i1.toNat * 4)))) (Y_cls fun hx Hx => (Zi 26 60 4 (sliceA as_ cs_ s1.toNat 4) ((s_.length : Int).toNat - (s1 : Int).toNat) (cs_ - s1.toNat) .i64 (i1) Try.underlying26 ((show Rd _ _ _ _ _ (List.take ((s_.length : Int).toNat - (s1 : Int).toNat) (List.drop (s1 : Int).toNat s3.1)) from ((H5.rd 0 rfl)).sub (by omega) (by have := H5.len 0 rfl; omega)).cell hx5).1 hx5l (by rw [← (show (List.take ((s_.length : Int).toNat - (s1 : Int).toNat) (List.drop (s1 : Int).toNat s3.1)).length = (s_.length : Int).toNat - (s1 : Int).toNat by have := H5.len 0 rfl; rw [List.length_take, List.length_drop]; omega)]; exact hx5u))) ?_
        refine Zy (.agg #[iV x7.From, iV x7.To, iV x7.Delay, iV x7.Tokens]) (Y_cls fun hx Hx => (Y_loadA (t := 60) (n := 4) (p := adr (sliceA as_ cs_ s1.toNat 4) (i1.toNat * 4)) (cs := [iV x7.From, iV x7.To, iV x7.Delay, iV x7.Tokens]) (by kernel_rfl) (fun w => by kernel_rfl) (by kernel_rfl) rfl (cd60_elem (show Rd _ _ _ _ _ (List.take ((s_.length : Int).toNat - (s1 : Int).toNat) (List.drop (s1 : Int).toNat s3.1)) from ((Hx.rd 0 rfl)).sub (by omega) (by have := H5.len 0 rfl; omega)) hx5))) ?_
        refine Zb [.slice (sliceA as_ cs_ s1.toNat 4) ((s_.length : Int).toNat - (s1 : Int).toNat) (cs_ - s1.toNat), iV i1, iV (w64 (i1 - 1))] 5 ?_
        refine Zy (.pointer (some (adr (sliceA as_ cs_ s1.toNat 4) ((w64 (i1 - 1)).toNat * 4)))) (Y_cls fun hx Hx => (Zi 26 60 4 (sliceA as_ cs_ s1.toNat 4) ((s_.length : Int).toNat - (s1 : Int).toNat) (cs_ - s1.toNat) .i64 (w64 (i1 - 1)) Try.underlying26 ((show Rd _ _ _ _ _ (List.take ((s_.length : Int).toNat - (s1 : Int).toNat) (List.drop (s1 : Int).toNat s3.1)) from ((H5.rd 0 rfl)).sub (by omega) (by have := H5.len 0 rfl; omega)).cell hx6).1 hx6l (by rw [← (show (List.take ((s_.length : Int).toNat - (s1 : Int).toNat) (List.drop (s1 : Int).toNat s3.1)).length = (s_.length : Int).toNat - (s1 : Int).toNat by have := H5.len 0 rfl; rw [List.length_take, List.length_drop]; omega)]; exact hx6u))) ?_
        refine Zy (.agg #[iV x8.From, iV x8.To, iV x8.Delay, iV x8.Tokens]) (Y_cls fun hx Hx => (Y_loadA (t := 60) (n := 4) (p := adr (sliceA as_ cs_ s1.toNat 4) ((w64 (i1 - 1)).toNat * 4)) (cs := [iV x8.From, iV x8.To, iV x8.Delay, iV x8.Tokens]) (by kernel_rfl) (fun w => by kernel_rfl) (by kernel_rfl) rfl (cd60_elem (show Rd _ _ _ _ _ (List.take ((s_.length : Int).toNat - (s1 : Int).toNat) (List.drop (s1 : Int).toNat s3.1)) from ((Hx.rd 0 rfl)).sub (by omega) (by have := H5.len 0 rfl; omega)) hx6))) ?_
        refine Zy (.bool x9) (Y_call (f := 87) (args := #[.agg #[iV x7.From, iV x7.To, iV x7.Delay, iV x7.Tokens], .agg #[iV x8.From, iV x8.To, iV x8.Delay, iV x8.Tokens]]) (v := .bool x9) (by kernel_rfl) fun hx Hx => (w_impl_simplified_2 hx x7 x8 _ _ hx7).mono fun _ _ ⟨e, H'⟩ => ⟨e, Hx.call H' rfl⟩) ?_
        refine Zb [.bool (!x9)] 11 ?_
        exact Zd [0, 1, 5, 6, 7, 49]
       have H8 : Hold h h6 [own cd60 as_ s_.length cs_ s3.1, it] := H7
       obtain ⟨s4, gs4, hB2⟩ := M.bind_some hB2
       refine Run_join (fun L' h' => L' = [(0, .slice as_ s_.length cs_), (1, .func (.func 87) #[] #[]), (5, iV s4.2), (6, .slice (sliceA as_ cs_ s1.toNat 4) ((s_.length : Int).toNat - (s1 : Int).toNat) (cs_ - s1.toNat)), (7, iV i1)] ∧ Hold h h' [own cd60 as_ s_.length cs_ s4.1, it]) ?_ ?_
       ·rintro _ h8 ⟨rfl, H10⟩
        refine Run_blk ?_
        refine Zg 3 [(0, .slice as_ s_.length cs_), (1, .func (.func 87) #[] #[]), (5, iV s4.2), (6, .slice (sliceA as_ cs_ s1.toNat 4) ((s_.length : Int).toNat - (s1 : Int).toNat) (cs_ - s1.toNat)), (7, iV (i1 + 1))] ?_ ?_
        ·refine Zb [iV i1] 0 ?_
         refine Zy (iV (i1 + 1)) (Y_eq (v := iV (w64 (i1 + 1))) (Y_pure (fun w => by kernel_rfl)) (by rw [w64_eq _ (by omega)])) ?_
         refine Zb [iV (i1 + 1)] 2 ?_
         exact Zd [0, 1, 5, 6, 7]
        have hB2 := M.ret_some hB2
        have gx6 := hgoy2 _ hB2.symm
        exact Za [0, 1, 5, 6, 7] my2 ⟨i1 + 1, (s4.1, s4.2), by omega, gx6, rfl, H10⟩
       ·refine Zc (!x9) (fun hb5 => ?_) (fun hb5 => ?_)
        ·have gs4 := (M.ite_some gs4).1 hb5
         refine Zs ?_
         refine Run_ops ?_
         obtain ⟨x10, hx8, gs4⟩ := M.bind_some gs4
         obtain ⟨hx8l, hx8u, hx8⟩ := M.idx_some hx8
         obtain ⟨x11, hx9, gs4⟩ := M.bind_some gs4
         obtain ⟨hx9l, hx9u, hx9⟩ := M.idx_some hx9
         refine Zr [.slice as_ s_.length cs_, iV s3.2, .slice (sliceA as_ cs_ s1.toNat 4) ((s_.length : Int).toNat - (s1 : Int).toNat) (cs_ - s1.toNat), iV i1] 0 ?_
         refine Zz (.pointer (some (adr (sliceA as_ cs_ s1.toNat 4) (i1.toNat * 4)))) (Zi 26 60 4 (sliceA as_ cs_ s1.toNat 4) ((s_.length : Int).toNat - (s1 : Int).toNat) (cs_ - s1.toNat) .i64 (i1) Try.underlying26 ((show Rd _ _ _ _ _ (List.take ((s_.length : Int).toNat - (s1 : Int).toNat) (List.drop (s1 : Int).toNat s3.1)) from ((H8.rd 0 rfl)).sub (by omega) (by have := H8.len 0 rfl; omega)).cell hx8).1 hx8l (by rw [← (show (List.take ((s_.length : Int).toNat - (s1 : Int).toNat) (List.drop (s1 : Int).toNat s3.1)).length = (s_.length : Int).toNat - (s1 : Int).toNat by have := H8.len 0 rfl; rw [List.length_take, List.length_drop]; omega)]; exact hx8u)) ?_
         refine Zz (.agg #[iV x10.From, iV x10.To, iV x10.Delay, iV x10.Tokens]) (Y_loadA (t := 60) (n := 4) (p := adr (sliceA as_ cs_ s1.toNat 4) (i1.toNat * 4)) (cs := [iV x10.From, iV x10.To, iV x10.Delay, iV x10.Tokens]) (by kernel_rfl) (fun w => by kernel_rfl) (by kernel_rfl) rfl (cd60_elem (show Rd _ _ _ _ _ (List.take ((s_.length : Int).toNat - (s1 : Int).toNat) (List.drop (s1 : Int).toNat s3.1)) from ((H8.rd 0 rfl)).sub (by omega) (by have := H8.len 0 rfl; omega)) hx8)) ?_
         refine Zz (.pointer (some (adr as_ (s3.2.toNat * 4)))) (Zi 26 60 4 (as_) (s_.length) (cs_) .i64 (s3.2) Try.underlying26 ((H8.rd 0 rfl).cell hx9).1 hx9l (by rw [← (H8.len 0 rfl)]; exact hx9u)) ?_
         obtain ⟨l1, hu1, gs4⟩ := M.bind_some gs4
         have hu1 := M.upd_some hu1
         refine Ze ?_
         refine E_put (C := cd60) (t := 60) (sz := 4) (j := s3.2) (x := x10) (v := .agg #[iV x10.From, iV x10.To, iV x10.Delay, iV x10.Tokens]) H8 cd60_flat (by kernel_rfl) rfl (cd60_own _) (by kernel_rfl) hu1 (fun h7 H9 => ?_)
         refine Zx ?_
         refine Zk [0, 1, 5, 6, 7] [(0, .slice as_ s_.length cs_), (1, .func (.func 87) #[] #[]), (5, iV s3.2), (6, .slice (sliceA as_ cs_ s1.toNat 4) ((s_.length : Int).toNat - (s1 : Int).toNat) (cs_ - s1.toNat)), (7, iV i1)] ?_
         refine Zq [iV s3.2, iV (w64 (s3.2 + 1)), iV (w64 (s3.2 + 1))] [0, 1, 5, 6, 7] [(0, .slice as_ s_.length cs_), (1, .func (.func 87) #[] #[]), (5, iV (w64 (s3.2 + 1))), (6, .slice (sliceA as_ cs_ s1.toNat 4) ((s_.length : Int).toNat - (s1 : Int).toNat) (cs_ - s1.toNat)), (7, iV i1)] ?_
         have gs4 := M.ret_some gs4
         subst gs4
         exact Zf [0, 1, 5, 6, 7] ⟨rfl, H9⟩
        ·have gs4 := (M.ite_some gs4).2 hb5
         refine Run_skip ?_
         have gs4 := M.ret_some gs4
         subst gs4
         exact Zf [0, 1, 5, 6, 7] ⟨rfl, H8⟩
      ·have gx6 := M.for_end gx6 hb4
       subst gx6
       refine Run_exit (k' := _) rfl ?_
       exact Zf [0, 5] ⟨rfl, H5⟩
    ·have hB1 := (M.ite_some hB1).2 hb3
     refine Run_skip ?_
     refine Run_blk ?_
     refine Zq [iV s1, iV (w64 (s1 + 1)), iV (w64 (s1 + 1))] [0, 1, 5] [(0, .slice as_ s_.length cs_), (1, .func (.func 87) #[] #[]), (5, iV (w64 (s1 + 1)))] ?_
     have hB1 := M.ret_some hB1
     have gx1 := hgoy1 _ hB1.symm
     exact Za [0, 1, 5] my1 ⟨(w64 (s1 + 1)), gx1, rfl, H4⟩
   ·have hB1 := (M.ite_some hB1).2 hb2
    refine Run_exit (k' := _) rfl ?_
    have hB1 := M.ret_some hB1
    have gx1 := houty1 _ hB1.symm
    subst gx1
    exact Zf [0] ⟨s1, rfl, rfl, H1⟩

theorem w_impl_simplified (h : Heap) (g : TGraph) (agPlaces : Option Addr) (cgPlaces : Nat) (rgPlaces : Rd cd60 h (Lt h) agPlaces cgPlaces g.Places) (n : Nat) (r : TGraph) (hF : impl_simplified g n = some r) :
  Fn Try.prog 33 #[.agg #[iV g.Events, .slice agPlaces g.Places.length cgPlaces]] h fun v h' => ∃ (a0 : Option Addr) (c0 : Nat), v = .agg #[iV r.Events, .slice a0 r.Places.length c0] ∧ Hold h h' [own cd60 a0 r.Places.length c0 r.Places] := by
 unfold impl_simplified at hF
 refine Zo [.agg #[iV g.Events, .slice agPlaces g.Places.length cgPlaces]] Try.func33 rfl (fun w0 _ => ?_)
 have H0 := Hold.init h
 refine Zs ?_
 refine Run_ops ?_
 refine Ze ?_
 refine E_box (ty := 28) (cs := [iV g.Events, .slice agPlaces g.Places.length cgPlaces]) H0 (fun w => by kernel_rfl) (fun b1 h1 H1 => ?_)
 refine Ze ?_
 refine E_box (ty := 28) (cs := [iV 0, .slice none 0 0]) H1 (fun w => by kernel_rfl) (fun b2 h2 H2 => ?_)
 refine Zx ?_
 refine Zk [1, 2] [(1, pV b1), (2, pV b2)] ?_
 refine Zs ?_
 refine Run_ops ?_
 refine Zz (.agg #[iV g.Events, .slice agPlaces g.Places.length cgPlaces]) (Y_loadA (t := 28) (n := 2) (p := ⟨b1, 0, none⟩) (cs := [iV g.Events, .slice agPlaces g.Places.length cgPlaces]) (by kernel_rfl) (fun w => by kernel_rfl) (by kernel_rfl) rfl (H2.cells (n := 2) (off := 0) 1 rfl rfl)) ?_
 obtain ⟨x1, hx1, hF⟩ := M.bind_some hF
 refine Ze ?_
 refine ZC 81 #[.agg #[iV g.Events, .slice agPlaces g.Places.length cgPlaces]] (w_impl_cloneGraph h2 g agPlaces cgPlaces (rgPlaces.at H2.ext) _ _ hx1) (fun v1 h3 hp1 => ?_)
 obtain ⟨a1, c1, rfl, H3⟩ := hp1
 have H4 : Hold h h3 [own cd60 a1 x1.Places.length c1 x1.Places, box b2 28 [iV 0, .slice none 0 0], box b1 28 [iV g.Events, .slice agPlaces g.Places.length cgPlaces]] := H2.call H3 rfl
 refine Ze ?_
 refine E_box (ty := 28) (cs := [iV 0, .slice none 0 0]) H4 (fun w => by kernel_rfl) (fun b3 h4 H5 => ?_)
 refine Ze ?_
 refine ZP 28 0 [iV x1.Events, .slice a1 x1.Places.length c1] (.agg #[iV x1.Events, .slice a1 x1.Places.length c1]) H5 (fun h5 H6 => ?_)
 refine Zx ?_
 refine Zk [2, 3] [(2, pV b2), (3, pV b3)] ?_
 refine Zs ?_
 refine Run_ops ?_
 refine Zr [.pointer (some ⟨b3, 1, none⟩)] 0 ?_
 refine Zz (.slice a1 x1.Places.length c1) (Zl 26 (⟨b3, 1, none⟩) (.slice a1 x1.Places.length c1) (H6.cell 0 rfl rfl)) ?_
 obtain ⟨x2, hx2, hF⟩ := M.bind_some hF
 have H7 : Hold h h5 [own cd60 a1 x1.Places.length c1 x1.Places, box b3 28 [iV x1.Events, .slice a1 x1.Places.length c1], box b2 28 [iV 0, .slice none 0 0], box b1 28 [iV g.Events, .slice agPlaces g.Places.length cgPlaces]] := H6.pk [1, 0, 2, 3]
 have H8 : Hold h h5 [own cd60 a1 x1.Places.length c1 x1.Places, bun [box b3 28 [iV x1.Events, .slice a1 x1.Places.length c1], box b2 28 [iV 0, .slice none 0 0], box b1 28 [iV g.Events, .slice agPlaces g.Places.length cgPlaces]]] := Hold.bundle (S := [own cd60 a1 x1.Places.length c1 x1.Places]) (R := [box b3 28 [iV x1.Events, .slice a1 x1.Places.length c1], box b2 28 [iV 0, .slice none 0 0], box b1 28 [iV g.Events, .slice agPlaces g.Places.length cgPlaces]]) H7
 refine Ze ?_
 refine ZC 82 #[.slice a1 x1.Places.length c1, .func (.func 83) #[] #[]] (w_slices_SortFunc_Place_F_impl_simplified_1 h h5 _ x1.Places a1 c1 H8 _ _ hx2) (fun v2 h6 hp2 => ?_)
 obtain ⟨rfl, H9⟩ := hp2
 have H10 : Hold h h6 [own cd60 a1 x1.Places.length c1 x2, box b3 28 [iV x1.Events, .slice a1 x1.Places.length c1], box b2 28 [iV 0, .slice none 0 0], box b1 28 [iV g.Events, .slice agPlaces g.Places.length cgPlaces]] := Hold.unbundle (S := [own cd60 a1 x1.Places.length c1 x2]) (R := [box b3 28 [iV x1.Events, .slice a1 x1.Places.length c1], box b2 28 [iV 0, .slice none 0 0], box b1 28 [iV g.Events, .slice agPlaces g.Places.length cgPlaces]]) H9 (Hold.tailBase (S := [own cd60 a1 x1.Places.length c1 x1.Places]) (R := [box b3 28 [iV x1.Events, .slice a1 x1.Places.length c1], box b2 28 [iV 0, .slice none 0 0], box b1 28 [iV g.Events, .slice agPlaces g.Places.length cgPlaces]]) H7)
 refine Zx ?_
 refine Zk [2, 3] [(2, pV b2), (3, pV b3)] ?_
 refine Zs ?_
 refine Run_ops ?_
 refine Zr [.pointer (some ⟨b3, 1, none⟩)] 0 ?_
 refine Zz (.slice a1 x1.Places.length c1) (Zl 26 (⟨b3, 1, none⟩) (.slice a1 x1.Places.length c1) (H10.cell 1 rfl rfl)) ?_
 obtain ⟨x3, hx3, hF⟩ := M.bind_some hF
 have hn1 := (H10.len 0 rfl)
 have H11 : Hold h h6 [own cd60 a1 x2.length c1 x2, box b3 28 [iV x1.Events, .slice a1 x2.length c1], box b2 28 [iV 0, .slice none 0 0], box b1 28 [iV g.Events, .slice agPlaces g.Places.length cgPlaces]] := by rw [hn1]; exact H10
 have H12 : Hold h h6 [own cd60 a1 x2.length c1 x2, bun [box b3 28 [iV x1.Events, .slice a1 x2.length c1], box b2 28 [iV 0, .slice none 0 0], box b1 28 [iV g.Events, .slice agPlaces g.Places.length cgPlaces]]] := Hold.bundle (S := [own cd60 a1 x2.length c1 x2]) (R := [box b3 28 [iV x1.Events, .slice a1 x2.length c1], box b2 28 [iV 0, .slice none 0 0], box b1 28 [iV g.Events, .slice agPlaces g.Places.length cgPlaces]]) H11
 refine Ze ?_
 refine ZC 86 #[.slice a1 x1.Places.length c1, .func (.func 87) #[] #[]] (Fn.arg (w_slices_CompactFunc_Place_F_impl_simplified_2 h h6 _ x2 a1 c1 H12 _ _ hx3) (by simp only [hn1])) (fun v3 h7 hp3 => ?_)
 obtain ⟨a2, c2, rfl, H13⟩ := hp3
 have H14 : Hold h h7 [own cd60 a2 x3.length c2 x3, box b3 28 [iV x1.Events, .slice a1 x2.length c1], box b2 28 [iV 0, .slice none 0 0], box b1 28 [iV g.Events, .slice agPlaces g.Places.length cgPlaces]] := Hold.unbundle (S := [own cd60 a2 x3.length c2 x3]) (R := [box b3 28 [iV x1.Events, .slice a1 x2.length c1], box b2 28 [iV 0, .slice none 0 0], box b1 28 [iV g.Events, .slice agPlaces g.Places.length cgPlaces]]) H13 (Hold.tailBase (S := [own cd60 a1 x2.length c1 x2]) (R := [box b3 28 [iV x1.Events, .slice a1 x2.length c1], box b2 28 [iV 0, .slice none 0 0], box b1 28 [iV g.Events, .slice agPlaces g.Places.length cgPlaces]]) H11)
 refine Zr [.pointer (some ⟨b3, 1, none⟩)] 3 ?_
 have H16 : Hold h h7 [box b3 28 [iV x1.Events, .slice a1 x2.length c1], own cd60 a2 x3.length c2 x3, box b2 28 [iV 0, .slice none 0 0], box b1 28 [iV g.Events, .slice agPlaces g.Places.length cgPlaces]] := H14.pk [1, 0, 2, 3]
 refine Ze ?_
 refine ZP 26 1 [iV x1.Events, .slice a2 x3.length c2] (.slice a2 x3.length c2) H16 (fun h8 H15 => ?_)
 refine Zx ?_
 refine Zk [2, 3] [(2, pV b2), (3, pV b3)] ?_
 refine Zs ?_
 refine Run_ops ?_
 refine Zz (.agg #[iV x1.Events, .slice a2 x3.length c2]) (Y_loadA (t := 28) (n := 2) (p := ⟨b3, 0, none⟩) (cs := [iV x1.Events, .slice a2 x3.length c2]) (by kernel_rfl) (fun w => by kernel_rfl) (by kernel_rfl) rfl (H15.cells (n := 2) (off := 0) 0 rfl rfl)) ?_
 have H18 : Hold h h8 [box b2 28 [iV 0, .slice none 0 0], box b3 28 [iV x1.Events, .slice a2 x3.length c2], own cd60 a2 x3.length c2 x3, box b1 28 [iV g.Events, .slice agPlaces g.Places.length cgPlaces]] := H15.pk [2, 0, 1, 3]
 refine Ze ?_
 refine ZP 28 0 [iV x1.Events, .slice a2 x3.length c2] (.agg #[iV x1.Events, .slice a2 x3.length c2]) H18 (fun h9 H17 => ?_)
 refine Zx ?_
 refine Zk [2] [(2, pV b2)] ?_
 have hF := M.ret_some hF
 subst hF
 have H19 : Hold h h9 [own cd60 a2 x3.length c2 x3, box b2 28 [iV x1.Events, .slice a2 x3.length c2], box b3 28 [iV x1.Events, .slice a2 x3.length c2], box b1 28 [iV g.Events, .slice agPlaces g.Places.length cgPlaces]] := H17.pk [2, 0, 1, 3]
 have H20 : Hold h h9 [own cd60 a2 x3.length c2 x3] := H19.pk [0]
 exact Run_ret1 rfl (ResV_cell (n := 2) (cs := [iV x1.Events, .slice a2 x3.length c2]) (by kernel_rfl) (fun w => by kernel_rfl) (by kernel_rfl) rfl (H17.cells (n := 2) (off := 0) 0 rfl rfl)) ⟨a2, c2, rfl, H20⟩

theorem w_impl_SimplifyGraph (h : Heap) (g : TGraph) (agPlaces : Option Addr) (cgPlaces : Nat) (rgPlaces : Rd cd60 h (Lt h) agPlaces cgPlaces g.Places) (n : Nat) (r : TGraph × Int) (hF : impl_SimplifyGraph g n = some r) :
  Fn Try.prog 9 #[.agg #[iV g.Events, .slice agPlaces g.Places.length cgPlaces]] h fun v h' => ∃ (a0 : Option Addr) (c0 : Nat), v = .tuple #[.agg #[iV r.1.Events, .slice a0 r.1.Places.length c0], iV r.2] ∧ Hold h h' [own cd60 a0 r.1.Places.length c0 r.1.Places] := by
 unfold impl_SimplifyGraph at hF
 refine Zo [.agg #[iV g.Events, .slice agPlaces g.Places.length cgPlaces]] Try.func9 rfl (fun w0 _ => ?_)
 have H0 := Hold.init h
 refine Zs ?_
 refine Run_ops ?_
 refine Ze ?_
 refine E_box (ty := 28) (cs := [iV g.Events, .slice agPlaces g.Places.length cgPlaces]) H0 (fun w => by kernel_rfl) (fun b1 h1 H1 => ?_)
 refine Ze ?_
 refine E_box (ty := 28) (cs := [iV 0, .slice none 0 0]) H1 (fun w => by kernel_rfl) (fun b2 h2 H2 => ?_)
 refine Zr [iV 0] 2 ?_
 refine Zx ?_
 refine Zk [1, 2] [(1, pV b1), (2, pV b2)] ?_
 refine Zs ?_
 refine Zs ?_
 obtain ⟨x1, hx1, hF⟩ := M.bind_some hF
 refine Run_regC (j := 3) (C := fun x => Hold h x [box b2 28 [iV 0, .slice none 0 0], box b1 28 [iV g.Events, .slice agPlaces g.Places.length cgPlaces]]) (by kernel_rfl) H2 (L' := [(1, pV b1), (2, pV b2), (6, .bool (!x1))]) ?_ (fun h3 H3 => ?_)
 ·refine Zy (.agg #[iV g.Events, .slice agPlaces g.Places.length cgPlaces]) (Y_cls fun hx Hx => (Y_loadA (t := 28) (n := 2) (p := ⟨b1, 0, none⟩) (cs := [iV g.Events, .slice agPlaces g.Places.length cgPlaces]) (by kernel_rfl) (fun w => by kernel_rfl) (by kernel_rfl) rfl (Hx.cells (n := 2) (off := 0) 1 rfl rfl))) ?_
  refine Zy (.bool x1) (Y_call (f := 32) (args := #[.agg #[iV g.Events, .slice agPlaces g.Places.length cgPlaces]]) (v := .bool x1) (by kernel_rfl) fun hx Hx => (w_impl_IsEventGraph hx g agPlaces cgPlaces (rgPlaces.at Hx.ext) _ _ hx1).mono fun _ _ ⟨e, H'⟩ => ⟨e, Hx.call H' rfl⟩) ?_
  refine Zb [.bool (!x1)] 2 ?_
  exact Zd [1, 2, 6]
 have H4 : Hold h h3 [box b2 28 [iV 0, .slice none 0 0], box b1 28 [iV g.Events, .slice agPlaces g.Places.length cgPlaces]] := H3
 refine Zc (!x1) (fun hb1 => ?_) (fun hb1 => ?_)
 ·have hF := (M.ite_some hF).1 hb1
  refine Zs ?_
  refine Run_ops ?_
  refine Zr [.agg #[iV 0, .slice none 0 0]] 0 ?_
  refine Ze ?_
  refine ZP 28 0 [iV 0, .slice none 0 0] (.agg #[iV 0, .slice none 0 0]) H4 (fun h4 H5 => ?_)
  refine Zr [iV 1] 2 ?_
  refine Zx ?_
  refine Zk [2, 3] [(2, pV b2), (3, iV 1)] ?_
  have hF := M.ret_some hF
  subst hF
  have H6 := H5.empty cd60
  have H7 : Hold h h4 [own cd60 none 0 0 []] := H6.pk [0]
  exact Run_ret2 rfl (ResV_cell (n := 2) (cs := [iV 0, .slice none 0 0]) (by kernel_rfl) (fun w => by kernel_rfl) (by kernel_rfl) rfl (H5.cells (n := 2) (off := 0) 0 rfl rfl)) (Zt (iV 1)) ⟨none, 0, rfl, H7⟩
 ·have hF := (M.ite_some hF).2 hb1
  refine Run_skip ?_
  refine Zs ?_
  refine Run_ops ?_
  refine Zz (.agg #[iV g.Events, .slice agPlaces g.Places.length cgPlaces]) (Y_loadA (t := 28) (n := 2) (p := ⟨b1, 0, none⟩) (cs := [iV g.Events, .slice agPlaces g.Places.length cgPlaces]) (by kernel_rfl) (fun w => by kernel_rfl) (by kernel_rfl) rfl (H4.cells (n := 2) (off := 0) 1 rfl rfl)) ?_
  obtain ⟨x2, hx2, hF⟩ := M.bind_some hF
  refine Ze ?_
  refine ZC 33 #[.agg #[iV g.Events, .slice agPlaces g.Places.length cgPlaces]] (w_impl_simplified h3 g agPlaces cgPlaces (rgPlaces.at H4.ext) _ _ hx2) (fun v1 h5 hp1 => ?_)
  obtain ⟨a1, c1, rfl, H8⟩ := hp1
  have H9 : Hold h h5 [own cd60 a1 x2.Places.length c1 x2.Places, box b2 28 [iV 0, .slice none 0 0], box b1 28 [iV g.Events, .slice agPlaces g.Places.length cgPlaces]] := H4.call H8 rfl
  have H11 : Hold h h5 [box b2 28 [iV 0, .slice none 0 0], own cd60 a1 x2.Places.length c1 x2.Places, box b1 28 [iV g.Events, .slice agPlaces g.Places.length cgPlaces]] := H9.pk [1, 0, 2]
  refine Ze ?_
  refine ZP 28 0 [iV x2.Events, .slice a1 x2.Places.length c1] (.agg #[iV x2.Events, .slice a1 x2.Places.length c1]) H11 (fun h6 H10 => ?_)
  refine Zr [iV 0] 3 ?_
  refine Zx ?_
  refine Zk [2, 3] [(2, pV b2), (3, iV 0)] ?_
  have hF := M.ret_some hF
  subst hF
  have H12 : Hold h h6 [own cd60 a1 x2.Places.length c1 x2.Places, box b2 28 [iV x2.Events, .slice a1 x2.Places.length c1], box b1 28 [iV g.Events, .slice agPlaces g.Places.length cgPlaces]] := H10.pk [1, 0, 2]
  have H13 : Hold h h6 [own cd60 a1 x2.Places.length c1 x2.Places] := H12.pk [0]
  exact Run_ret2 rfl (ResV_cell (n := 2) (cs := [iV x2.Events, .slice a1 x2.Places.length c1]) (by kernel_rfl) (fun w => by kernel_rfl) (by kernel_rfl) rfl (H10.cells (n := 2) (off := 0) 0 rfl rfl)) (Zt (iV 0)) ⟨a1, c1, rfl, H13⟩

theorem w_laws_eqPlace (h : Heap) (a_ : TPlace) (b : TPlace) (n : Nat) (r : Bool) (hF : laws_eqPlace a_ b n = some r) :
  Fn Try.prog 88 #[.agg #[iV a_.From, iV a_.To, iV a_.Delay, iV a_.Tokens], .agg #[iV b.From, iV b.To, iV b.Delay, iV b.Tokens]] h fun v h' => v = .bool r ∧ Hold h h' [] := by
 unfold laws_eqPlace at hF
 refine Zo [.agg #[iV a_.From, iV a_.To, iV a_.Delay, iV a_.Tokens], .agg #[iV b.From, iV b.To, iV b.Delay, iV b.Tokens]] Try.func88 rfl (fun w0 _ => ?_)
 have H0 := Hold.init h
 refine Zs ?_
 refine Run_ops ?_
 refine Ze ?_
 refine E_box (ty := 60) (cs := [iV a_.From, iV a_.To, iV a_.Delay, iV a_.Tokens]) H0 (fun w => by kernel_rfl) (fun b1 h1 H1 => ?_)
 refine Ze ?_
 refine E_box (ty := 60) (cs := [iV b.From, iV b.To, iV b.Delay, iV b.Tokens]) H1 (fun w => by kernel_rfl) (fun b2 h2 H2 => ?_)
 refine Zr [.bool false] 2 ?_
 refine Zx ?_
 refine Zk [2, 3] [(2, pV b1), (3, pV b2)] ?_
 refine Zs ?_
 refine Zs ?_
 refine Zg 5 [(2, pV b1), (3, pV b2), (9, .bool (a_.From != b.From))] ?_ ?_
 ·refine Zb [pV b1] 0 ?_
  refine Zy (iV a_.From) (Zl 2 (⟨b1, 0, none⟩) (iV a_.From) (H2.cell 1 rfl rfl)) ?_
  refine Zb [pV b2] 2 ?_
  refine Zy (iV b.From) (Zl 2 (⟨b2, 0, none⟩) (iV b.From) (H2.cell 0 rfl rfl)) ?_
  refine Zb [.bool (a_.From != b.From)] 4 ?_
  exact Zd [2, 3, 9]
 refine Zc (a_.From != b.From) (fun hb1 => ?_) (fun hb1 => ?_)
 ·have hF := (M.ite_some hF).1 hb1
  refine Zs ?_
  refine Zq [.bool false] [4] [(4, .bool false)] ?_
  have hF := M.ret_some hF
  subst hF
  have H3 : Hold h h2 [] := H2.pk []
  exact Run_ret1 rfl (Zt (.bool false)) ⟨rfl, H3⟩
 ·have hF := (M.ite_some hF).2 hb1
  refine Run_skip ?_
  refine Zs ?_
  refine Zs ?_
  refine Zg 5 [(2, pV b1), (3, pV b2), (14, .bool (a_.To != b.To))] ?_ ?_
  ·refine Zb [.pointer (some ⟨b1, 1, none⟩)] 0 ?_
   refine Zy (iV a_.To) (Zl 2 (⟨b1, 1, none⟩) (iV a_.To) (H2.cell 1 rfl rfl)) ?_
   refine Zb [.pointer (some ⟨b2, 1, none⟩)] 2 ?_
   refine Zy (iV b.To) (Zl 2 (⟨b2, 1, none⟩) (iV b.To) (H2.cell 0 rfl rfl)) ?_
   refine Zb [.bool (a_.To != b.To)] 4 ?_
   exact Zd [2, 3, 14]
  refine Zc (a_.To != b.To) (fun hb2 => ?_) (fun hb2 => ?_)
  ·have hF := (M.ite_some hF).1 hb2
   refine Zs ?_
   refine Zq [.bool false] [4] [(4, .bool false)] ?_
   have hF := M.ret_some hF
   subst hF
   have H4 : Hold h h2 [] := H2.pk []
   exact Run_ret1 rfl (Zt (.bool false)) ⟨rfl, H4⟩
  ·have hF := (M.ite_some hF).2 hb2
   refine Run_skip ?_
   refine Zs ?_
   refine Zs ?_
   refine Zg 5 [(2, pV b1), (3, pV b2), (19, .bool (a_.Delay != b.Delay))] ?_ ?_
   ·refine Zb [.pointer (some ⟨b1, 2, none⟩)] 0 ?_
    refine Zy (iV a_.Delay) (Zl 2 (⟨b1, 2, none⟩) (iV a_.Delay) (H2.cell 1 rfl rfl)) ?_
    refine Zb [.pointer (some ⟨b2, 2, none⟩)] 2 ?_
    refine Zy (iV b.Delay) (Zl 2 (⟨b2, 2, none⟩) (iV b.Delay) (H2.cell 0 rfl rfl)) ?_
    refine Zb [.bool (a_.Delay != b.Delay)] 4 ?_
    exact Zd [2, 3, 19]
   refine Zc (a_.Delay != b.Delay) (fun hb3 => ?_) (fun hb3 => ?_)
   ·have hF := (M.ite_some hF).1 hb3
    refine Zs ?_
    refine Zq [.bool false] [4] [(4, .bool false)] ?_
    have hF := M.ret_some hF
    subst hF
    have H5 : Hold h h2 [] := H2.pk []
    exact Run_ret1 rfl (Zt (.bool false)) ⟨rfl, H5⟩
   ·have hF := (M.ite_some hF).2 hb3
    refine Run_skip ?_
    refine Zs ?_
    refine Zs ?_
    refine Zg 5 [(24, .bool (a_.Tokens != b.Tokens))] ?_ ?_
    ·refine Zb [.pointer (some ⟨b1, 3, none⟩)] 0 ?_
     refine Zy (iV a_.Tokens) (Zl 2 (⟨b1, 3, none⟩) (iV a_.Tokens) (H2.cell 1 rfl rfl)) ?_
     refine Zb [.pointer (some ⟨b2, 3, none⟩)] 2 ?_
     refine Zy (iV b.Tokens) (Zl 2 (⟨b2, 3, none⟩) (iV b.Tokens) (H2.cell 0 rfl rfl)) ?_
     refine Zb [.bool (a_.Tokens != b.Tokens)] 4 ?_
     exact Zd [24]
    refine Zc (a_.Tokens != b.Tokens) (fun hb4 => ?_) (fun hb4 => ?_)
    ·have hF := (M.ite_some hF).1 hb4
     refine Zs ?_
     refine Zq [.bool false] [4] [(4, .bool false)] ?_
     have hF := M.ret_some hF
     subst hF
     have H6 : Hold h h2 [] := H2.pk []
     exact Run_ret1 rfl (Zt (.bool false)) ⟨rfl, H6⟩
    ·have hF := (M.ite_some hF).2 hb4
     refine Run_skip ?_
     refine Zs ?_
     refine Zq [.bool true] [4] [(4, .bool true)] ?_
     have hF := M.ret_some hF
     subst hF
     have H7 : Hold h h2 [] := H2.pk []
     exact Run_ret1 rfl (Zt (.bool true)) ⟨rfl, H7⟩

theorem w_laws_eqPlaceS (h : Heap) (a_ : List TPlace) (aa_ : Option Addr) (ca_ : Nat) (ra_ : Rd cd60 h (Lt h) aa_ ca_ a_) (b : List TPlace) (ab : Option Addr) (cb : Nat) (rb : Rd cd60 h (Lt h) ab cb b) (n : Nat) (r : Bool) (hF : laws_eqPlaceS a_ b n = some r) :
  Fn Try.prog 34 #[.slice aa_ a_.length ca_, .slice ab b.length cb] h fun v h' => v = .bool r ∧ Hold h h' [] := by
 unfold laws_eqPlaceS at hF
 refine Zo [.slice aa_ a_.length ca_, .slice ab b.length cb] Try.func34 rfl (fun w0 _ => ?_)
 have H0 := Hold.init h
 refine Zs ?_
 refine Zq [.bool false] [0, 1] [(0, .slice aa_ a_.length ca_), (1, .slice ab b.length cb)] ?_
 refine Zs ?_
 refine Zs ?_
 refine Zq [.slice aa_ a_.length ca_, iV (a_.length : Int), .slice ab b.length cb, iV (b.length : Int), .bool ((a_.length : Int) != (b.length : Int))] [0, 1, 10] [(0, .slice aa_ a_.length ca_), (1, .slice ab b.length cb), (10, .bool ((a_.length : Int) != (b.length : Int)))] ?_
 refine Zc ((a_.length : Int) != (b.length : Int)) (fun hb1 => ?_) (fun hb1 => ?_)
 ·have hF := (M.ite_some hF).1 hb1
  refine Zs ?_
  refine Zq [.bool false] [4] [(4, .bool false)] ?_
  have hF := M.ret_some hF
  subst hF
  exact Run_ret1 rfl (Zt (.bool false)) ⟨rfl, H0⟩
 ·have hF := (M.ite_some hF).2 hb1
  refine Run_skip ?_
  refine Zs ?_
  refine Zs ?_
  refine Zq [iV 0] [0, 1, 5] [(0, .slice aa_ a_.length ca_), (1, .slice ab b.length cb), (5, iV 0)] ?_
  obtain ⟨x1, gx1, hF⟩ := M.bind_some hF
  obtain ⟨hloy1, hhiy1, gx1⟩ := M.for_start gx1
  refine Run_join (fun L' h' => ∃ (s2 : Unit), x1 = .inl s2 ∧ L' = [] ∧ Hold h h' []) ?_ ?_
  ·rintro _ h2 ⟨s2, es2, rfl, H2⟩
   have hF := M.cont_inl' hF es2
   refine Zs ?_
   refine Zq [.bool true] [4] [(4, .bool true)] ?_
   have hF := M.ret_some hF
   subst hF
   exact Run_ret1 rfl (Zt (.bool true)) ⟨rfl, H2⟩
  ·refine Run_block ?_
   refine Zk [0, 1, 5] [(0, .slice aa_ a_.length ca_), (1, .slice ab b.length cb), (5, iV 0)] ?_
   refine Run_loop (fun m L' h' => ∃ (i1 : Int) (s1 : Unit), 0 ≤ i1 ∧ M.forN (a_.length : Int) _ _ n m i1 s1 = some x1 ∧ L' = [(0, .slice aa_ a_.length ca_), (1, .slice ab b.length cb), (5, iV i1)] ∧ Hold h h' []) ((a_.length : Int) - 0 : Int).toNat ⟨0, (), Int.le_refl _, gx1, rfl, H0⟩ ?_
   rintro my1 _ h1 ⟨i1, s1, hloy1', gx1, rfl, H1⟩
   refine Zs ?_
   refine Zs ?_
   refine Zq [iV i1, .slice aa_ a_.length ca_, iV (a_.length : Int), .bool (decide (i1 < (a_.length : Int)))] [0, 1, 5, 14] [(0, .slice aa_ a_.length ca_), (1, .slice ab b.length cb), (5, iV i1), (14, .bool (decide (i1 < (a_.length : Int))))] ?_
   refine Zc (decide (i1 < (a_.length : Int))) (fun hb2 => ?_) (fun hb2 => ?_)
   ·obtain ⟨my1, y1, rfl, hB1, hgoy1, houty1⟩ := M.for_go gx1 hb2
    have hlty1 := of_decide_eq_true hb2
    refine Run_skip ?_
    refine Zs ?_
    refine Run_block ?_
    refine Zs ?_
    obtain ⟨x2, hx1, hB1⟩ := M.bind_some hB1
    obtain ⟨hx1l, hx1u, hx1⟩ := M.idx_some hx1
    obtain ⟨x3, hx2, hB1⟩ := M.bind_some hB1
    obtain ⟨hx2l, hx2u, hx2⟩ := M.idx_some hx2
    obtain ⟨x4, hx3, hB1⟩ := M.bind_some hB1
    refine Run_drawC (j := 10) (C := fun x => Hold h x []) mixed (by kernel_rfl) (by kernel_rfl) H1 (L' := [(0, .slice aa_ a_.length ca_), (1, .slice ab b.length cb), (5, iV i1), (26, .bool (!x4))]) ?_ (fun h3 H3 => ?_)
    ·refine Zb [.slice aa_ a_.length ca_, iV i1] 0 ?_
     refine Zy (.pointer (some (adr aa_ (i1.toNat * 4)))) (Y_cls fun hx Hx => (Zi 26 60 4 (aa_) (a_.length) (ca_) .i64 (i1) Try.underlying26 ((ra_.at H1.ext).cell hx1).1 hx1l hx1u)) ?_
     refine Zy (.agg #[iV x2.From, iV x2.To, iV x2.Delay, iV x2.Tokens]) (Y_cls fun hx Hx => (Y_loadA (t := 60) (n := 4) (p := adr aa_ (i1.toNat * 4)) (cs := [iV x2.From, iV x2.To, iV x2.Delay, iV x2.Tokens]) (by kernel_rfl) (fun w => by kernel_rfl) (by kernel_rfl) rfl (cd60_elem (ra_.at Hx.ext) hx1))) ?_
     refine Zb [.slice ab b.length cb, iV i1] 4 ?_
     refine Zy (.pointer (some (adr ab (i1.toNat * 4)))) (Y_cls fun hx Hx => (Zi 26 60 4 (ab) (b.length) (cb) .i64 (i1) Try.underlying26 ((rb.at H1.ext).cell hx2).1 hx2l hx2u)) ?_
     refine Zy (.agg #[iV x3.From, iV x3.To, iV x3.Delay, iV x3.Tokens]) (Y_cls fun hx Hx => (Y_loadA (t := 60) (n := 4) (p := adr ab (i1.toNat * 4)) (cs := [iV x3.From, iV x3.To, iV x3.Delay, iV x3.Tokens]) (by kernel_rfl) (fun w => by kernel_rfl) (by kernel_rfl) rfl (cd60_elem (rb.at Hx.ext) hx2))) ?_
     refine Zy (.bool x4) (Y_call (f := 88) (args := #[.agg #[iV x2.From, iV x2.To, iV x2.Delay, iV x2.Tokens], .agg #[iV x3.From, iV x3.To, iV x3.Delay, iV x3.Tokens]]) (v := .bool x4) (by kernel_rfl) fun hx Hx => (w_laws_eqPlace hx x2 x3 _ _ hx3).mono fun _ _ ⟨e, H'⟩ => ⟨e, Hx.call H' rfl⟩) ?_
     refine Zb [.bool (!x4)] 9 ?_
     exact Zd [0, 1, 5, 26]
    have H4 : Hold h h3 [] := H3
    refine Zc (!x4) (fun hb3 => ?_) (fun hb3 => ?_)
    ·have hB1 := (M.ite_some hB1).1 hb3
     refine Zs ?_
     refine Zq [.bool false] [4] [(4, .bool false)] ?_
     have hB1 := M.ret_some hB1
     have gx1 := houty1 _ hB1.symm
     have hF := M.cont_inr' hF gx1
     have hF := M.ret_some hF
     subst hF
     exact Run_ret1 rfl (Zt (.bool false)) ⟨rfl, H4⟩
    ·have hB1 := (M.ite_some hB1).2 hb3
     refine Run_skip ?_
     refine Run_blk ?_
     refine Zg 3 [(0, .slice aa_ a_.length ca_), (1, .slice ab b.length cb), (5, iV (i1 + 1))] ?_ ?_
     ·refine Zb [iV i1] 0 ?_
      refine Zy (iV (i1 + 1)) (Y_eq (v := iV (w64 (i1 + 1))) (Y_pure (fun w => by kernel_rfl)) (by rw [w64_eq _ (by omega)])) ?_
      refine Zb [iV (i1 + 1)] 2 ?_
      exact Zd [0, 1, 5]
     have hB1 := M.ret_some hB1
     have gx1 := hgoy1 _ hB1.symm
     exact Za [0, 1, 5] my1 ⟨i1 + 1, (), by omega, gx1, rfl, H4⟩
   ·have gx1 := M.for_end gx1 hb2
    subst gx1
    refine Run_exit (k' := _) rfl ?_
    exact Zf [] ⟨(), rfl, rfl, H1⟩

theorem w_laws_eqEventGraph (h : Heap) (a_ : TGraph) (aa_Places : Option Addr) (ca_Places : Nat) (ra_Places : Rd cd60 h (Lt h) aa_Places ca_Places a_.Places) (b : TGraph) (abPlaces : Option Addr) (cbPlaces : Nat) (rbPlaces : Rd cd60 h (Lt h) abPlaces cbPlaces b.Places) (n : Nat) (r : Bool) (hF : laws_eqEventGraph a_ b n = some r) :
  Fn Try.prog 10 #[.agg #[iV a_.Events, .slice aa_Places a_.Places.length ca_Places], .agg #[iV b.Events, .slice abPlaces b.Places.length cbPlaces]] h fun v h' => v = .bool r ∧ Hold h h' [] := by
 unfold laws_eqEventGraph at hF
 refine Zo [.agg #[iV a_.Events, .slice aa_Places a_.Places.length ca_Places], .agg #[iV b.Events, .slice abPlaces b.Places.length cbPlaces]] Try.func10 rfl (fun w0 _ => ?_)
 have H0 := Hold.init h
 refine Zs ?_
 refine Run_ops ?_
 refine Ze ?_
 refine E_box (ty := 28) (cs := [iV a_.Events, .slice aa_Places a_.Places.length ca_Places]) H0 (fun w => by kernel_rfl) (fun b1 h1 H1 => ?_)
 refine Ze ?_
 refine E_box (ty := 28) (cs := [iV b.Events, .slice abPlaces b.Places.length cbPlaces]) H1 (fun w => by kernel_rfl) (fun b2 h2 H2 => ?_)
 refine Zr [.bool false] 2 ?_
 refine Zx ?_
 refine Zk [2, 3] [(2, pV b1), (3, pV b2)] ?_
 refine Zs ?_
 refine Zs ?_
 refine Zg 5 [(2, pV b1), (3, pV b2), (9, .bool (a_.Events != b.Events))] ?_ ?_
 ·refine Zb [pV b1] 0 ?_
  refine Zy (iV a_.Events) (Zl 2 (⟨b1, 0, none⟩) (iV a_.Events) (H2.cell 1 rfl rfl)) ?_
  refine Zb [pV b2] 2 ?_
  refine Zy (iV b.Events) (Zl 2 (⟨b2, 0, none⟩) (iV b.Events) (H2.cell 0 rfl rfl)) ?_
  refine Zb [.bool (a_.Events != b.Events)] 4 ?_
  exact Zd [2, 3, 9]
 refine Zc (a_.Events != b.Events) (fun hb1 => ?_) (fun hb1 => ?_)
 ·have hF := (M.ite_some hF).1 hb1
  refine Zs ?_
  refine Zq [.bool false] [4] [(4, .bool false)] ?_
  have hF := M.ret_some hF
  subst hF
  have H3 : Hold h h2 [] := H2.pk []
  exact Run_ret1 rfl (Zt (.bool false)) ⟨rfl, H3⟩
 ·have hF := (M.ite_some hF).2 hb1
  refine Run_skip ?_
  refine Zs ?_
  refine Zs ?_
  obtain ⟨x1, hx1, hF⟩ := M.bind_some hF
  refine Run_regC (j := 6) (C := fun x => Hold h x [box b2 28 [iV b.Events, .slice abPlaces b.Places.length cbPlaces], box b1 28 [iV a_.Events, .slice aa_Places a_.Places.length ca_Places]]) (by kernel_rfl) H2 (L' := [(15, .bool (!x1))]) ?_ (fun h3 H4 => ?_)
  ·refine Zb [.pointer (some ⟨b1, 1, none⟩)] 0 ?_
   refine Zy (.slice aa_Places a_.Places.length ca_Places) (Y_cls fun hx Hx => (Zl 26 (⟨b1, 1, none⟩) (.slice aa_Places a_.Places.length ca_Places) (Hx.cell 1 rfl rfl))) ?_
   refine Zb [.pointer (some ⟨b2, 1, none⟩)] 2 ?_
   refine Zy (.slice abPlaces b.Places.length cbPlaces) (Y_cls fun hx Hx => (Zl 26 (⟨b2, 1, none⟩) (.slice abPlaces b.Places.length cbPlaces) (Hx.cell 0 rfl rfl))) ?_
   refine Zy (.bool x1) (Y_call (f := 34) (args := #[.slice aa_Places a_.Places.length ca_Places, .slice abPlaces b.Places.length cbPlaces]) (v := .bool x1) (by kernel_rfl) fun hx Hx => (w_laws_eqPlaceS hx a_.Places aa_Places ca_Places (ra_Places.at Hx.ext) b.Places abPlaces cbPlaces (rbPlaces.at Hx.ext) _ _ hx1).mono fun _ _ ⟨e, H'⟩ => ⟨e, Hx.call H' rfl⟩) ?_
   refine Zb [.bool (!x1)] 5 ?_
   exact Zd [15]
  have H5 : Hold h h3 [box b2 28 [iV b.Events, .slice abPlaces b.Places.length cbPlaces], box b1 28 [iV a_.Events, .slice aa_Places a_.Places.length ca_Places]] := H4
  refine Zc (!x1) (fun hb2 => ?_) (fun hb2 => ?_)
  ·have hF := (M.ite_some hF).1 hb2
   refine Zs ?_
   refine Zq [.bool false] [4] [(4, .bool false)] ?_
   have hF := M.ret_some hF
   subst hF
   have H6 : Hold h h3 [] := H5.pk []
   exact Run_ret1 rfl (Zt (.bool false)) ⟨rfl, H6⟩
  ·have hF := (M.ite_some hF).2 hb2
   refine Run_skip ?_
   refine Zs ?_
   refine Zq [.bool true] [4] [(4, .bool true)] ?_
   have hF := M.ret_some hF
   subst hF
   have H7 : Hold h h3 [] := H5.pk []
   exact Run_ret1 rfl (Zt (.bool true)) ⟨rfl, H7⟩

theorem w_laws_heldPlaceS (h : Heap) (a_ : List TPlace) {Sa_ : Bs} (aa_ : Option Addr) (ca_ : Nat) (ra_ : Rd cd60 h Sa_ aa_ ca_ a_) (k_ : Int) (n : Nat) (r : Int) (hF : laws_heldPlaceS a_ k_ n = some r) :
  Fn Try.prog 36 #[.slice aa_ a_.length ca_, iV k_] h fun v h' => v = iV r ∧ h' = h := by
 unfold laws_heldPlaceS at hF
 refine Zo [.slice aa_ a_.length ca_, iV k_] Try.func36 rfl (fun w0 _ => ?_)
 refine Zs ?_
 refine Zq [iV 0] [0, 1] [(0, .slice aa_ a_.length ca_), (1, iV k_)] ?_
 refine Zs ?_
 refine Zs ?_
 refine Zq [iV 0] [0, 1, 5] [(0, .slice aa_ a_.length ca_), (1, iV k_), (5, iV 0)] ?_
 obtain ⟨x1, gx1, hF⟩ := M.bind_some hF
 obtain ⟨hloy1, hhiy1, gx1⟩ := M.for_start gx1
 refine Run_join (fun L' h' => ∃ (s2 : Int), x1 = .inl s2 ∧ L' = [(1, iV s2)] ∧ h = h') ?_ ?_
 ·rintro _ _ ⟨s2, es2, rfl, rfl⟩
  have hF := M.cont_inl' hF es2
  refine Zs ?_
  refine Zq [iV s2, iV s2] [4] [(4, iV s2)] ?_
  have hF := M.ret_some hF
  subst hF
  exact Run_ret1 rfl (Zt (iV s2)) ⟨rfl, rfl⟩
 ·refine Run_block ?_
  refine Zk [0, 1, 5] [(0, .slice aa_ a_.length ca_), (1, iV k_), (5, iV 0)] ?_
  refine Run_loop (fun m L' h' => ∃ (i1 : Int) (s1 : Int), 0 ≤ i1 ∧ M.forN (a_.length : Int) _ _ n m i1 s1 = some x1 ∧ L' = [(0, .slice aa_ a_.length ca_), (1, iV s1), (5, iV i1)] ∧ h = h') ((a_.length : Int) - 0 : Int).toNat ⟨0, k_, Int.le_refl _, gx1, rfl, rfl⟩ ?_
  rintro my1 _ _ ⟨i1, s1, hloy1', gx1, rfl, rfl⟩
  refine Zs ?_
  refine Zs ?_
  refine Zq [iV i1, .slice aa_ a_.length ca_, iV (a_.length : Int), .bool (decide (i1 < (a_.length : Int)))] [0, 1, 5, 9] [(0, .slice aa_ a_.length ca_), (1, iV s1), (5, iV i1), (9, .bool (decide (i1 < (a_.length : Int))))] ?_
  refine Zc (decide (i1 < (a_.length : Int))) (fun hb1 => ?_) (fun hb1 => ?_)
  ·obtain ⟨my1, y1, rfl, hB1, hgoy1, houty1⟩ := M.for_go gx1 hb1
   have hlty1 := of_decide_eq_true hb1
   refine Run_skip ?_
   refine Zs ?_
   refine Run_block ?_
   refine Zs ?_
   refine Zs ?_
   obtain ⟨x2, hx1, hB1⟩ := M.bind_some hB1
   obtain ⟨hx1l, hx1u, hx1⟩ := M.idx_some hx1
   refine Zg 7 [(0, .slice aa_ a_.length ca_), (1, iV s1), (5, iV i1), (18, .bool (x2.From != s1))] ?_ ?_
   ·refine Zb [.slice aa_ a_.length ca_, iV i1] 0 ?_
    refine Zy (.pointer (some (adr aa_ (i1.toNat * 4)))) (Zi 26 60 4 (aa_) (a_.length) (ca_) .i64 (i1) Try.underlying26 (ra_.cell hx1).1 hx1l hx1u) ?_
    refine Zb [.pointer (some ((adr aa_ (i1.toNat * 4)).add 0))] 3 ?_
    refine Zy (iV x2.From) (Zl 2 ((adr aa_ (i1.toNat * 4)).add 0) (iV x2.From) (cd60_f0 ra_ hx1)) ?_
    refine Zb [iV s1, .bool (x2.From != s1)] 5 ?_
    exact Zd [0, 1, 5, 18]
   refine Zc (x2.From != s1) (fun hb2 => ?_) (fun hb2 => ?_)
   ·have hB1 := (M.ite_some hB1).1 hb2
    refine Zs ?_
    refine Zq [iV (-1)] [4] [(4, iV (-1))] ?_
    have hB1 := M.ret_some hB1
    have gx1 := houty1 _ hB1.symm
    have hF := M.cont_inr' hF gx1
    have hF := M.ret_some hF
    subst hF
    exact Run_ret1 rfl (Zt (iV (-1))) ⟨rfl, rfl⟩
   ·have hB1 := (M.ite_some hB1).2 hb2
    refine Run_skip ?_
    refine Zs ?_
    refine Zq [iV s1, iV (w64 (s1 + 1)), iV (w64 (s1 + 1))] [0, 1, 5] [(0, .slice aa_ a_.length ca_), (1, iV (w64 (s1 + 1))), (5, iV i1)] ?_
    refine Zs ?_
    refine Zs ?_
    obtain ⟨x3, hx2, hB1⟩ := M.bind_some hB1
    obtain ⟨hx2l, hx2u, hx2⟩ := M.idx_some hx2
    refine Zg 7 [(0, .slice aa_ a_.length ca_), (1, iV (w64 (s1 + 1))), (5, iV i1), (27, .bool (x3.To != (w64 (s1 + 1))))] ?_ ?_
    ·refine Zb [.slice aa_ a_.length ca_, iV i1] 0 ?_
     refine Zy (.pointer (some (adr aa_ (i1.toNat * 4)))) (Zi 26 60 4 (aa_) (a_.length) (ca_) .i64 (i1) Try.underlying26 (ra_.cell hx2).1 hx2l hx2u) ?_
     refine Zb [.pointer (some ((adr aa_ (i1.toNat * 4)).add 1))] 3 ?_
     refine Zy (iV x3.To) (Zl 2 ((adr aa_ (i1.toNat * 4)).add 1) (iV x3.To) (cd60_f1 ra_ hx2)) ?_
     refine Zb [iV (w64 (s1 + 1)), .bool (x3.To != (w64 (s1 + 1)))] 5 ?_
     exact Zd [0, 1, 5, 27]
    refine Zc (x3.To != (w64 (s1 + 1))) (fun hb3 => ?_) (fun hb3 => ?_)
    ·have hB1 := (M.ite_some hB1).1 hb3
     refine Zs ?_
     refine Zq [iV (-1)] [4] [(4, iV (-1))] ?_
     have hB1 := M.ret_some hB1
     have gx1 := houty1 _ hB1.symm
     have hF := M.cont_inr' hF gx1
     have hF := M.ret_some hF
     subst hF
     exact Run_ret1 rfl (Zt (iV (-1))) ⟨rfl, rfl⟩
    ·have hB1 := (M.ite_some hB1).2 hb3
     refine Run_skip ?_
     refine Zs ?_
     refine Zq [iV (w64 (s1 + 1)), iV (w64 ((w64 (s1 + 1)) + 1)), iV (w64 ((w64 (s1 + 1)) + 1))] [0, 1, 5] [(0, .slice aa_ a_.length ca_), (1, iV (w64 ((w64 (s1 + 1)) + 1))), (5, iV i1)] ?_
     refine Zs ?_
     refine Zs ?_
     obtain ⟨x4, hx3, hB1⟩ := M.bind_some hB1
     obtain ⟨hx3l, hx3u, hx3⟩ := M.idx_some hx3
     refine Zg 7 [(0, .slice aa_ a_.length ca_), (1, iV (w64 ((w64 (s1 + 1)) + 1))), (5, iV i1), (36, .bool (x4.Delay != (w64 ((w64 (s1 + 1)) + 1))))] ?_ ?_
     ·refine Zb [.slice aa_ a_.length ca_, iV i1] 0 ?_
      refine Zy (.pointer (some (adr aa_ (i1.toNat * 4)))) (Zi 26 60 4 (aa_) (a_.length) (ca_) .i64 (i1) Try.underlying26 (ra_.cell hx3).1 hx3l hx3u) ?_
      refine Zb [.pointer (some ((adr aa_ (i1.toNat * 4)).add 2))] 3 ?_
      refine Zy (iV x4.Delay) (Zl 2 ((adr aa_ (i1.toNat * 4)).add 2) (iV x4.Delay) (cd60_f2 ra_ hx3)) ?_
      refine Zb [iV (w64 ((w64 (s1 + 1)) + 1)), .bool (x4.Delay != (w64 ((w64 (s1 + 1)) + 1)))] 5 ?_
      exact Zd [0, 1, 5, 36]
     refine Zc (x4.Delay != (w64 ((w64 (s1 + 1)) + 1))) (fun hb4 => ?_) (fun hb4 => ?_)
     ·have hB1 := (M.ite_some hB1).1 hb4
      refine Zs ?_
      refine Zq [iV (-1)] [4] [(4, iV (-1))] ?_
      have hB1 := M.ret_some hB1
      have gx1 := houty1 _ hB1.symm
      have hF := M.cont_inr' hF gx1
      have hF := M.ret_some hF
      subst hF
      exact Run_ret1 rfl (Zt (iV (-1))) ⟨rfl, rfl⟩
     ·have hB1 := (M.ite_some hB1).2 hb4
      refine Run_skip ?_
      refine Zs ?_
      refine Zq [iV (w64 ((w64 (s1 + 1)) + 1)), iV (w64 ((w64 ((w64 (s1 + 1)) + 1)) + 1)), iV (w64 ((w64 ((w64 (s1 + 1)) + 1)) + 1))] [0, 1, 5] [(0, .slice aa_ a_.length ca_), (1, iV (w64 ((w64 ((w64 (s1 + 1)) + 1)) + 1))), (5, iV i1)] ?_
      refine Zs ?_
      refine Zs ?_
      obtain ⟨x5, hx4, hB1⟩ := M.bind_some hB1
      obtain ⟨hx4l, hx4u, hx4⟩ := M.idx_some hx4
      refine Zg 7 [(0, .slice aa_ a_.length ca_), (1, iV (w64 ((w64 ((w64 (s1 + 1)) + 1)) + 1))), (5, iV i1), (45, .bool (x5.Tokens != (w64 ((w64 ((w64 (s1 + 1)) + 1)) + 1))))] ?_ ?_
      ·refine Zb [.slice aa_ a_.length ca_, iV i1] 0 ?_
       refine Zy (.pointer (some (adr aa_ (i1.toNat * 4)))) (Zi 26 60 4 (aa_) (a_.length) (ca_) .i64 (i1) Try.underlying26 (ra_.cell hx4).1 hx4l hx4u) ?_
       refine Zb [.pointer (some ((adr aa_ (i1.toNat * 4)).add 3))] 3 ?_
       refine Zy (iV x5.Tokens) (Zl 2 ((adr aa_ (i1.toNat * 4)).add 3) (iV x5.Tokens) (cd60_f3 ra_ hx4)) ?_
       refine Zb [iV (w64 ((w64 ((w64 (s1 + 1)) + 1)) + 1)), .bool (x5.Tokens != (w64 ((w64 ((w64 (s1 + 1)) + 1)) + 1)))] 5 ?_
       exact Zd [0, 1, 5, 45]
      refine Zc (x5.Tokens != (w64 ((w64 ((w64 (s1 + 1)) + 1)) + 1))) (fun hb5 => ?_) (fun hb5 => ?_)
      ·have hB1 := (M.ite_some hB1).1 hb5
       refine Zs ?_
       refine Zq [iV (-1)] [4] [(4, iV (-1))] ?_
       have hB1 := M.ret_some hB1
       have gx1 := houty1 _ hB1.symm
       have hF := M.cont_inr' hF gx1
       have hF := M.ret_some hF
       subst hF
       exact Run_ret1 rfl (Zt (iV (-1))) ⟨rfl, rfl⟩
      ·have hB1 := (M.ite_some hB1).2 hb5
       refine Run_skip ?_
       refine Zq [iV (w64 ((w64 ((w64 (s1 + 1)) + 1)) + 1)), iV (w64 ((w64 ((w64 ((w64 (s1 + 1)) + 1)) + 1)) + 1)), iV (w64 ((w64 ((w64 ((w64 (s1 + 1)) + 1)) + 1)) + 1))] [0, 1, 5] [(0, .slice aa_ a_.length ca_), (1, iV (w64 ((w64 ((w64 ((w64 (s1 + 1)) + 1)) + 1)) + 1))), (5, iV i1)] ?_
       refine Run_blk ?_
       refine Zg 3 [(0, .slice aa_ a_.length ca_), (1, iV (w64 ((w64 ((w64 ((w64 (s1 + 1)) + 1)) + 1)) + 1))), (5, iV (i1 + 1))] ?_ ?_
       ·refine Zb [iV i1] 0 ?_
        refine Zy (iV (i1 + 1)) (Y_eq (v := iV (w64 (i1 + 1))) (Y_pure (fun w => by kernel_rfl)) (by rw [w64_eq _ (by omega)])) ?_
        refine Zb [iV (i1 + 1)] 2 ?_
        exact Zd [0, 1, 5]
       have hB1 := M.ret_some hB1
       have gx1 := hgoy1 _ hB1.symm
       exact Za [0, 1, 5] my1 ⟨i1 + 1, (w64 ((w64 ((w64 ((w64 (s1 + 1)) + 1)) + 1)) + 1)), by omega, gx1, rfl, rfl⟩
  ·have gx1 := M.for_end gx1 hb1
   subst gx1
   refine Run_exit (k' := _) rfl ?_
   exact Zf [1] ⟨s1, rfl, rfl, rfl⟩

theorem w_laws_heldEventGraph (h : Heap) (a_ : TGraph) (aa_Places : Option Addr) (ca_Places : Nat) (ra_Places : Rd cd60 h (Lt h) aa_Places ca_Places a_.Places) (k_ : Int) (n : Nat) (r : Int) (hF : laws_heldEventGraph a_ k_ n = some r) :
  Fn Try.prog 12 #[.agg #[iV a_.Events, .slice aa_Places a_.Places.length ca_Places], iV k_] h fun v h' => v = iV r ∧ Hold h h' [] := by
 unfold laws_heldEventGraph at hF
 refine Zo [.agg #[iV a_.Events, .slice aa_Places a_.Places.length ca_Places], iV k_] Try.func12 rfl (fun w0 _ => ?_)
 have H0 := Hold.init h
 refine Zs ?_
 refine Run_ops ?_
 refine Ze ?_
 refine E_box (ty := 28) (cs := [iV a_.Events, .slice aa_Places a_.Places.length ca_Places]) H0 (fun w => by kernel_rfl) (fun b1 h1 H1 => ?_)
 refine Zr [iV 0] 1 ?_
 refine Zx ?_
 refine Zk [1, 2] [(1, iV k_), (2, pV b1)] ?_
 refine Zs ?_
 obtain ⟨x1, hx1, hF⟩ := M.bind_some hF
 refine Zg 5 [(1, iV x1)] ?_ ?_
 ·refine Zb [.pointer (some ⟨b1, 1, none⟩)] 0 ?_
  refine Zy (.slice aa_Places a_.Places.length ca_Places) (Zl 26 (⟨b1, 1, none⟩) (.slice aa_Places a_.Places.length ca_Places) (H1.cell 0 rfl rfl)) ?_
  refine Zb [iV k_] 2 ?_
  refine Zy (iV x1) (ZQ 36 #[.slice aa_Places a_.Places.length ca_Places, iV k_] (w_laws_heldPlaceS h1 a_.Places aa_Places ca_Places (ra_Places.at H1.ext) k_ _ _ hx1)) ?_
  refine Zb [iV x1] 4 ?_
  exact Zd [1]
 refine Zs ?_
 refine Zs ?_
 refine Zq [iV x1, .bool (decide (x1 < 0))] [1, 10] [(1, iV x1), (10, .bool (decide (x1 < 0)))] ?_
 refine Zc (decide (x1 < 0)) (fun hb1 => ?_) (fun hb1 => ?_)
 ·have hF := (M.ite_some hF).1 hb1
  refine Zs ?_
  refine Zq [iV (-1)] [4] [(4, iV (-1))] ?_
  have hF := M.ret_some hF
  subst hF
  have H2 : Hold h h1 [] := H1.pk []
  exact Run_ret1 rfl (Zt (iV (-1))) ⟨rfl, H2⟩
 ·have hF := (M.ite_some hF).2 hb1
  refine Run_skip ?_
  refine Zs ?_
  refine Zq [iV x1, iV x1] [4] [(4, iV x1)] ?_
  have hF := M.ret_some hF
  subst hF
  have H3 : Hold h h1 [] := H1.pk []
  exact Run_ret1 rfl (Zt (iV x1)) ⟨rfl, H3⟩

theorem w_laws_markPlaceS (h hE : Heap) (it : Item) (a_ : List TPlace) (aa_ : Option Addr) (ca_ : Nat) (k_ : Int) (HM : Hold h hE [own cd60 aa_ a_.length ca_ a_, it]) (n : Nat) (r : Int × (List TPlace)) (hF : laws_markPlaceS a_ k_ n = some r) :
  Fn Try.prog 35 #[.slice aa_ a_.length ca_, iV k_] hE fun v h' => v = iV r.1 ∧ Hold h h' [own cd60 aa_ a_.length ca_ r.2, it] := by
 unfold laws_markPlaceS at hF
 refine Zo [.slice aa_ a_.length ca_, iV k_] Try.func35 rfl (fun w0 _ => ?_)
 refine Zs ?_
 refine Zq [iV 0] [0, 1] [(0, .slice aa_ a_.length ca_), (1, iV k_)] ?_
 refine Zs ?_
 refine Zs ?_
 refine Zq [iV 0] [0, 1, 5] [(0, .slice aa_ a_.length ca_), (1, iV k_), (5, iV 0)] ?_
 obtain ⟨x1, gx1, hF⟩ := M.bind_some hF
 obtain ⟨hloy1, hhiy1, gx1⟩ := M.for_start gx1
 refine Run_join (fun L' h' => L' = [(1, iV x1.2)] ∧ Hold h h' [own cd60 aa_ a_.length ca_ x1.1, it]) ?_ ?_
 ·rintro _ h2 ⟨rfl, H2⟩
  refine Zs ?_
  refine Zq [iV x1.2, iV x1.2] [4] [(4, iV x1.2)] ?_
  have hF := M.ret_some hF
  subst hF
  exact Run_ret1 rfl (Zt (iV x1.2)) ⟨rfl, H2⟩
 ·refine Run_block ?_
  refine Zk [0, 1, 5] [(0, .slice aa_ a_.length ca_), (1, iV k_), (5, iV 0)] ?_
  refine Run_loop (fun m L' h' => ∃ (i1 : Int) (s1 : (List TPlace) × Int), 0 ≤ i1 ∧ M.forN (a_.length : Int) _ _ n m i1 s1 = some x1 ∧ L' = [(0, .slice aa_ a_.length ca_), (1, iV s1.2), (5, iV i1)] ∧ Hold h h' [own cd60 aa_ a_.length ca_ s1.1, it]) ((a_.length : Int) - 0 : Int).toNat ⟨0, (a_, k_), Int.le_refl _, gx1, rfl, HM⟩ ?_
  rintro my1 _ h1 ⟨i1, s1, hloy1', gx1, rfl, H1⟩
  refine Zs ?_
  refine Zs ?_
  refine Zq [iV i1, .slice aa_ a_.length ca_, iV (a_.length : Int), .bool (decide (i1 < (a_.length : Int)))] [0, 1, 5, 9] [(0, .slice aa_ a_.length ca_), (1, iV s1.2), (5, iV i1), (9, .bool (decide (i1 < (a_.length : Int))))] ?_
  refine Zc (decide (i1 < (a_.length : Int))) (fun hb1 => ?_) (fun hb1 => ?_)
  ·obtain ⟨my1, y1, rfl, hB1, hgoy1, houty1⟩ := M.for_go gx1 hb1
   have hlty1 := of_decide_eq_true hb1
   refine Run_skip ?_
   refine Zs ?_
   refine Run_block ?_
   refine Zs ?_
   refine Run_ops ?_
   obtain ⟨x2, hx1, hB1⟩ := M.bind_some hB1
   obtain ⟨hx1l, hx1u, hx1⟩ := M.idx_some hx1
   refine Zr [.slice aa_ a_.length ca_, iV i1, iV s1.2] 0 ?_
   refine Zz (.pointer (some (adr aa_ (i1.toNat * 4)))) (Zi 26 60 4 (aa_) (a_.length) (ca_) .i64 (i1) Try.underlying26 ((H1.rd 0 rfl).cell hx1).1 hx1l (by rw [← (H1.len 0 rfl)]; exact hx1u)) ?_
   refine Zr [.pointer (some ((adr aa_ (i1.toNat * 4)).add 0))] 4 ?_
   obtain ⟨l1, hu1, hB1⟩ := M.bind_some hB1
   have hu1 := M.upd_some hu1
   refine Ze ?_
   refine E_putF (C := cd60) (t := 2) (sz := 4) (f := 0) (j := i1) (y := x2) (y' := (⟨s1.2, x2.To, x2.Delay, x2.Tokens⟩ : TPlace)) (v := iV s1.2) H1 (by kernel_rfl) rfl (by kernel_rfl) rfl rfl (fun _ vs G o => by obtain ⟨rfl, rfl⟩ := o; exact ⟨rfl, rfl⟩) (by kernel_rfl) hx1 hu1 (fun h3 H3 => ?_)
   refine Zx ?_
   refine Zk [0, 1, 5] [(0, .slice aa_ a_.length ca_), (1, iV s1.2), (5, iV i1)] ?_
   refine Zs ?_
   refine Zq [iV s1.2, iV (w64 (s1.2 + 1)), iV (w64 (s1.2 + 1))] [0, 1, 5] [(0, .slice aa_ a_.length ca_), (1, iV (w64 (s1.2 + 1))), (5, iV i1)] ?_
   refine Zs ?_
   refine Run_ops ?_
   obtain ⟨x3, hx2, hB1⟩ := M.bind_some hB1
   obtain ⟨hx2l, hx2u, hx2⟩ := M.idx_some hx2
   refine Zr [.slice aa_ a_.length ca_, iV i1, iV (w64 (s1.2 + 1))] 0 ?_
   refine Zz (.pointer (some (adr aa_ (i1.toNat * 4)))) (Zi 26 60 4 (aa_) (a_.length) (ca_) .i64 (i1) Try.underlying26 ((H3.rd 0 rfl).cell hx2).1 hx2l (by rw [← (H3.len 0 rfl)]; exact hx2u)) ?_
   refine Zr [.pointer (some ((adr aa_ (i1.toNat * 4)).add 1))] 4 ?_
   obtain ⟨l2, hu2, hB1⟩ := M.bind_some hB1
   have hu2 := M.upd_some hu2
   refine Ze ?_
   refine E_putF (C := cd60) (t := 2) (sz := 4) (f := 1) (j := i1) (y := x3) (y' := (⟨x3.From, (w64 (s1.2 + 1)), x3.Delay, x3.Tokens⟩ : TPlace)) (v := iV (w64 (s1.2 + 1))) H3 (by kernel_rfl) rfl (by kernel_rfl) rfl rfl (fun _ vs G o => by obtain ⟨rfl, rfl⟩ := o; exact ⟨rfl, rfl⟩) (by kernel_rfl) hx2 hu2 (fun h4 H4 => ?_)
   refine Zx ?_
   refine Zk [0, 1, 5] [(0, .slice aa_ a_.length ca_), (1, iV (w64 (s1.2 + 1))), (5, iV i1)] ?_
   refine Zs ?_
   refine Zq [iV (w64 (s1.2 + 1)), iV (w64 ((w64 (s1.2 + 1)) + 1)), iV (w64 ((w64 (s1.2 + 1)) + 1))] [0, 1, 5] [(0, .slice aa_ a_.length ca_), (1, iV (w64 ((w64 (s1.2 + 1)) + 1))), (5, iV i1)] ?_
   refine Zs ?_
   refine Run_ops ?_
   obtain ⟨x4, hx3, hB1⟩ := M.bind_some hB1
   obtain ⟨hx3l, hx3u, hx3⟩ := M.idx_some hx3
   refine Zr [.slice aa_ a_.length ca_, iV i1, iV (w64 ((w64 (s1.2 + 1)) + 1))] 0 ?_
   refine Zz (.pointer (some (adr aa_ (i1.toNat * 4)))) (Zi 26 60 4 (aa_) (a_.length) (ca_) .i64 (i1) Try.underlying26 ((H4.rd 0 rfl).cell hx3).1 hx3l (by rw [← (H4.len 0 rfl)]; exact hx3u)) ?_
   refine Zr [.pointer (some ((adr aa_ (i1.toNat * 4)).add 2))] 4 ?_
   obtain ⟨l3, hu3, hB1⟩ := M.bind_some hB1
   have hu3 := M.upd_some hu3
   refine Ze ?_
   refine E_putF (C := cd60) (t := 2) (sz := 4) (f := 2) (j := i1) (y := x4) (y' := (⟨x4.From, x4.To, (w64 ((w64 (s1.2 + 1)) + 1)), x4.Tokens⟩ : TPlace)) (v := iV (w64 ((w64 (s1.2 + 1)) + 1))) H4 (by kernel_rfl) rfl (by kernel_rfl) rfl rfl (fun _ vs G o => by obtain ⟨rfl, rfl⟩ := o; exact ⟨rfl, rfl⟩) (by kernel_rfl) hx3 hu3 (fun h5 H5 => ?_)
   refine Zx ?_
   refine Zk [0, 1, 5] [(0, .slice aa_ a_.length ca_), (1, iV (w64 ((w64 (s1.2 + 1)) + 1))), (5, iV i1)] ?_
   refine Zs ?_
   refine Zq [iV (w64 ((w64 (s1.2 + 1)) + 1)), iV (w64 ((w64 ((w64 (s1.2 + 1)) + 1)) + 1)), iV (w64 ((w64 ((w64 (s1.2 + 1)) + 1)) + 1))] [0, 1, 5] [(0, .slice aa_ a_.length ca_), (1, iV (w64 ((w64 ((w64 (s1.2 + 1)) + 1)) + 1))), (5, iV i1)] ?_
   refine Zs ?_
   refine Run_ops ?_
   obtain ⟨x5, hx4, hB1⟩ := M.bind_some hB1
   obtain ⟨hx4l, hx4u, hx4⟩ := M.idx_some hx4
   refine Zr [.slice aa_ a_.length ca_, iV i1, iV (w64 ((w64 ((w64 (s1.2 + 1)) + 1)) + 1))] 0 ?_
   refine Zz (.pointer (some (adr aa_ (i1.toNat * 4)))) (Zi 26 60 4 (aa_) (a_.length) (ca_) .i64 (i1) Try.underlying26 ((H5.rd 0 rfl).cell hx4).1 hx4l (by rw [← (H5.len 0 rfl)]; exact hx4u)) ?_
   refine Zr [.pointer (some ((adr aa_ (i1.toNat * 4)).add 3))] 4 ?_
   obtain ⟨l4, hu4, hB1⟩ := M.bind_some hB1
   have hu4 := M.upd_some hu4
   refine Ze ?_
   refine E_putF (C := cd60) (t := 2) (sz := 4) (f := 3) (j := i1) (y := x5) (y' := (⟨x5.From, x5.To, x5.Delay, (w64 ((w64 ((w64 (s1.2 + 1)) + 1)) + 1))⟩ : TPlace)) (v := iV (w64 ((w64 ((w64 (s1.2 + 1)) + 1)) + 1))) H5 (by kernel_rfl) rfl (by kernel_rfl) rfl rfl (fun _ vs G o => by obtain ⟨rfl, rfl⟩ := o; exact ⟨rfl, rfl⟩) (by kernel_rfl) hx4 hu4 (fun h6 H6 => ?_)
   refine Zx ?_
   refine Zk [0, 1, 5] [(0, .slice aa_ a_.length ca_), (1, iV (w64 ((w64 ((w64 (s1.2 + 1)) + 1)) + 1))), (5, iV i1)] ?_
   refine Zq [iV (w64 ((w64 ((w64 (s1.2 + 1)) + 1)) + 1)), iV (w64 ((w64 ((w64 ((w64 (s1.2 + 1)) + 1)) + 1)) + 1)), iV (w64 ((w64 ((w64 ((w64 (s1.2 + 1)) + 1)) + 1)) + 1))] [0, 1, 5] [(0, .slice aa_ a_.length ca_), (1, iV (w64 ((w64 ((w64 ((w64 (s1.2 + 1)) + 1)) + 1)) + 1))), (5, iV i1)] ?_
   refine Run_blk ?_
   refine Zg 3 [(0, .slice aa_ a_.length ca_), (1, iV (w64 ((w64 ((w64 ((w64 (s1.2 + 1)) + 1)) + 1)) + 1))), (5, iV (i1 + 1))] ?_ ?_
   ·refine Zb [iV i1] 0 ?_
    refine Zy (iV (i1 + 1)) (Y_eq (v := iV (w64 (i1 + 1))) (Y_pure (fun w => by kernel_rfl)) (by rw [w64_eq _ (by omega)])) ?_
    refine Zb [iV (i1 + 1)] 2 ?_
    exact Zd [0, 1, 5]
   have hB1 := M.ret_some hB1
   have gx1 := hgoy1 _ hB1.symm
   exact Za [0, 1, 5] my1 ⟨i1 + 1, (l4, (w64 ((w64 ((w64 ((w64 (s1.2 + 1)) + 1)) + 1)) + 1))), by omega, gx1, rfl, H6⟩
  ·have gx1 := M.for_end gx1 hb1
   subst gx1
   refine Run_exit (k' := _) rfl ?_
   exact Zf [1] ⟨rfl, H1⟩

theorem w_laws_markEventGraph (h hE : Heap) (it : Item) (a_ : TGraph) (aa_Places : Option Addr) (ca_Places : Nat) (k_ : Int) (HM : Hold h hE [own cd60 aa_Places a_.Places.length ca_Places a_.Places, it]) (n : Nat) (r : Int × (List TPlace)) (hF : laws_markEventGraph a_ k_ n = some r) :
  Fn Try.prog 11 #[.agg #[iV a_.Events, .slice aa_Places a_.Places.length ca_Places], iV k_] hE fun v h' => v = iV r.1 ∧ Hold h h' [own cd60 aa_Places a_.Places.length ca_Places r.2, it] := by
 unfold laws_markEventGraph at hF
 refine Zo [.agg #[iV a_.Events, .slice aa_Places a_.Places.length ca_Places], iV k_] Try.func11 rfl (fun w0 _ => ?_)
 refine Zs ?_
 refine Run_ops ?_
 refine Ze ?_
 refine E_box (ty := 28) (cs := [iV a_.Events, .slice aa_Places a_.Places.length ca_Places]) HM (fun w => by kernel_rfl) (fun b1 h1 H1 => ?_)
 refine Zr [iV 0] 1 ?_
 refine Zx ?_
 refine Zk [1, 2] [(1, iV k_), (2, pV b1)] ?_
 refine Zs ?_
 refine Run_ops ?_
 refine Zr [.pointer (some ⟨b1, 1, none⟩)] 0 ?_
 refine Zz (.slice aa_Places a_.Places.length ca_Places) (Zl 26 (⟨b1, 1, none⟩) (.slice aa_Places a_.Places.length ca_Places) (H1.cell 0 rfl rfl)) ?_
 refine Zr [iV k_] 2 ?_
 obtain ⟨x1, hx1, hF⟩ := M.bind_some hF
 have H2 : Hold h h1 [own cd60 aa_Places a_.Places.length ca_Places a_.Places, box b1 28 [iV a_.Events, .slice aa_Places a_.Places.length ca_Places], it] := H1.pk [1, 0, 2]
 have H3 : Hold h h1 [own cd60 aa_Places a_.Places.length ca_Places a_.Places, bun [box b1 28 [iV a_.Events, .slice aa_Places a_.Places.length ca_Places], it]] := Hold.bundle (S := [own cd60 aa_Places a_.Places.length ca_Places a_.Places]) (R := [box b1 28 [iV a_.Events, .slice aa_Places a_.Places.length ca_Places], it]) H2
 refine Ze ?_
 refine ZC 35 #[.slice aa_Places a_.Places.length ca_Places, iV k_] (w_laws_markPlaceS h h1 _ a_.Places aa_Places ca_Places k_ H3 _ _ hx1) (fun v1 h2 hp1 => ?_)
 obtain ⟨rfl, H4⟩ := hp1
 have H5 : Hold h h2 [own cd60 aa_Places a_.Places.length ca_Places x1.2, box b1 28 [iV a_.Events, .slice aa_Places a_.Places.length ca_Places], it] := Hold.unbundle (S := [own cd60 aa_Places a_.Places.length ca_Places x1.2]) (R := [box b1 28 [iV a_.Events, .slice aa_Places a_.Places.length ca_Places], it]) H4 (Hold.tailBase (S := [own cd60 aa_Places a_.Places.length ca_Places a_.Places]) (R := [box b1 28 [iV a_.Events, .slice aa_Places a_.Places.length ca_Places], it]) H2)
 refine Zr [iV x1.1] 4 ?_
 refine Zx ?_
 refine Zk [1] [(1, iV x1.1)] ?_
 refine Zs ?_
 refine Zq [iV x1.1, iV x1.1] [4] [(4, iV x1.1)] ?_
 have hF := M.ret_some hF
 subst hF
 have H6 : Hold h h2 [own cd60 aa_Places a_.Places.length ca_Places x1.2, it] := H5.pk [0, 2]
 exact Run_ret1 rfl (Zt (iV x1.1)) ⟨rfl, H6⟩

end Go.Proofs.Ytelopfgolahlpaa
