/-
  Walks: each Go function, called with what reads as plain data, returns what its plain program computes.
  Conditions: None beyond the given statement.
-/
import Derived.Test.YtelopfgolahlpaaDoorRows
import Derived.Test.YtelopfgolahlpaaDoorP
import Derived.Test.YtelopfgolahlpaaDoorShort
import Derived.Test.YtelopfgolahlpaaDoorStr
import Derived.Test.YtelopfgolahlpaaDoorLay
namespace Go.Proofs.YtelopfgolahlpaaDoor
open Go
attribute [local irreducible] setL setB opA fineI idleI fineB evB okB markB markBs readyB readyBs chainB lk rho pickL dropSlot tailOK
theorem mixed : Tryd.prog.follows .mixedOrders = true := by kernel_rfl
def cd93 : Cd (TPlace) := flatCd 93 4 (by decide) (fun x => [.int .i64 x.From, .int .i64 x.To, .int .i64 x.Delay, .int .i64 x.Tokens]) (fun _ => rfl) (fun _ => rfl)
theorem cd93_own (x : TPlace) : ∀ h, cd93.own h x [.int .i64 x.From, .int .i64 x.To, .int .i64 x.Delay, .int .i64 x.Tokens] [] := fun _ => ⟨rfl, rfl⟩
theorem cd93_flat : Flat cd93 := fun _ _ _ _ o => o.2
theorem cd93_copies : Copies cd93 := fun _ _ _ _ o => ⟨o, rfl⟩
theorem cd93_zero : ∀ h, cd93.own h (⟨0, 0, 0, 0⟩ : TPlace) [.int .i64 0, .int .i64 0, .int .i64 0, .int .i64 0] [] := fun _ => ⟨rfl, rfl⟩
theorem cd93_ti : TI Tryd.prog 93 (.agg #[.int .i64 0, .int .i64 0, .int .i64 0, .int .i64 0]) 4 32 := by unfold TI; kernel_rfl
theorem cd93_elem {h : Heap} {B : Bs} {a : Option Addr} {c : Nat} {l : List (TPlace)} {j : Nat} {x : TPlace} (r : Rd cd93 h B a c l) (hx : l[j]? = some x) : ∀ i v, ([.int .i64 x.From, .int .i64 x.To, .int .i64 x.Delay, .int .i64 x.Tokens] : List Value)[i]? = some v → cellH h ((adr a (j * 4)).add i) = some v := r.elem hx (fun _ o => o)
theorem cd93_f0 {h : Heap} {B : Bs} {a : Option Addr} {c : Nat} {l : List (TPlace)} {j : Nat} {x : TPlace} (r : Rd cd93 h B a c l) (hx : l[j]? = some x) : cellH h ((adr a (j * 4)).add 0) = some (.int .i64 x.From) := r.field hx (fun vs o => by rw [show vs = _ from o]; rfl)
theorem cd93_f1 {h : Heap} {B : Bs} {a : Option Addr} {c : Nat} {l : List (TPlace)} {j : Nat} {x : TPlace} (r : Rd cd93 h B a c l) (hx : l[j]? = some x) : cellH h ((adr a (j * 4)).add 1) = some (.int .i64 x.To) := r.field hx (fun vs o => by rw [show vs = _ from o]; rfl)
theorem cd93_f2 {h : Heap} {B : Bs} {a : Option Addr} {c : Nat} {l : List (TPlace)} {j : Nat} {x : TPlace} (r : Rd cd93 h B a c l) (hx : l[j]? = some x) : cellH h ((adr a (j * 4)).add 2) = some (.int .i64 x.Delay) := r.field hx (fun vs o => by rw [show vs = _ from o]; rfl)
theorem cd93_f3 {h : Heap} {B : Bs} {a : Option Addr} {c : Nat} {l : List (TPlace)} {j : Nat} {x : TPlace} (r : Rd cd93 h B a c l) (hx : l[j]? = some x) : cellH h ((adr a (j * 4)).add 3) = some (.int .i64 x.Tokens) := r.field hx (fun vs o => by rw [show vs = _ from o]; rfl)
def cd28 : Cd (TPlace) := flatCd 28 4 (by decide) (fun x => [.int .i64 x.From, .int .i64 x.To, .int .i64 x.Delay, .int .i64 x.Tokens]) (fun _ => rfl) (fun _ => rfl)
theorem cd28_own (x : TPlace) : ∀ h, cd28.own h x [.int .i64 x.From, .int .i64 x.To, .int .i64 x.Delay, .int .i64 x.Tokens] [] := fun _ => ⟨rfl, rfl⟩
theorem cd28_flat : Flat cd28 := fun _ _ _ _ o => o.2
theorem cd28_copies : Copies cd28 := fun _ _ _ _ o => ⟨o, rfl⟩
theorem cd28_zero : ∀ h, cd28.own h (⟨0, 0, 0, 0⟩ : TPlace) [.int .i64 0, .int .i64 0, .int .i64 0, .int .i64 0] [] := fun _ => ⟨rfl, rfl⟩
theorem cd28_ti : TI Tryd.prog 28 (.agg #[.int .i64 0, .int .i64 0, .int .i64 0, .int .i64 0]) 4 32 := by unfold TI; kernel_rfl
theorem cd28_elem {h : Heap} {B : Bs} {a : Option Addr} {c : Nat} {l : List (TPlace)} {j : Nat} {x : TPlace} (r : Rd cd28 h B a c l) (hx : l[j]? = some x) : ∀ i v, ([.int .i64 x.From, .int .i64 x.To, .int .i64 x.Delay, .int .i64 x.Tokens] : List Value)[i]? = some v → cellH h ((adr a (j * 4)).add i) = some v := r.elem hx (fun _ o => o)
theorem cd28_f0 {h : Heap} {B : Bs} {a : Option Addr} {c : Nat} {l : List (TPlace)} {j : Nat} {x : TPlace} (r : Rd cd28 h B a c l) (hx : l[j]? = some x) : cellH h ((adr a (j * 4)).add 0) = some (.int .i64 x.From) := r.field hx (fun vs o => by rw [show vs = _ from o]; rfl)
theorem cd28_f1 {h : Heap} {B : Bs} {a : Option Addr} {c : Nat} {l : List (TPlace)} {j : Nat} {x : TPlace} (r : Rd cd28 h B a c l) (hx : l[j]? = some x) : cellH h ((adr a (j * 4)).add 1) = some (.int .i64 x.To) := r.field hx (fun vs o => by rw [show vs = _ from o]; rfl)
theorem cd28_f2 {h : Heap} {B : Bs} {a : Option Addr} {c : Nat} {l : List (TPlace)} {j : Nat} {x : TPlace} (r : Rd cd28 h B a c l) (hx : l[j]? = some x) : cellH h ((adr a (j * 4)).add 2) = some (.int .i64 x.Delay) := r.field hx (fun vs o => by rw [show vs = _ from o]; rfl)
theorem cd28_f3 {h : Heap} {B : Bs} {a : Option Addr} {c : Nat} {l : List (TPlace)} {j : Nat} {x : TPlace} (r : Rd cd28 h B a c l) (hx : l[j]? = some x) : cellH h ((adr a (j * 4)).add 3) = some (.int .i64 x.Tokens) := r.field hx (fun vs o => by rw [show vs = _ from o]; rfl)
def cd5 : Cd (Int) := flatCd 5 1 (by decide) (fun x => [.int .u8 x]) (fun _ => rfl) (fun _ => rfl)
theorem cd5_own (x : Int) : ∀ h, cd5.own h x [.int .u8 x] [] := fun _ => ⟨rfl, rfl⟩
theorem cd5_flat : Flat cd5 := fun _ _ _ _ o => o.2
theorem cd5_copies : Copies cd5 := fun _ _ _ _ o => ⟨o, rfl⟩
theorem cd5_zero : ∀ h, cd5.own h 0 [.int .u8 0] [] := fun _ => ⟨rfl, rfl⟩
theorem cd5_ti : TI Tryd.prog 5 (.int .u8 0) 1 1 := by unfold TI; kernel_rfl
theorem cd5_cell {h : Heap} {B : Bs} {a : Option Addr} {c : Nat} {l : List (Int)} {j : Nat} {x : Int} (r : Rd cd5 h B a c l) (hx : l[j]? = some x) : cellH h (adr a (j * 1)) = some (.int .u8 x) := r.cell1 hx (fun vs o => by rw [show vs = _ from o]; rfl)
set_option maxRecDepth 100000
set_option maxHeartbeats 4000000
theorem w_laws_szPlaceS (h : Heap) (a_ : List TPlace) {Sa_ : Bs} (aa_ : Option Addr) (ca_ : Nat) (ra_ : Rd cd93 h Sa_ aa_ ca_ a_) (left : Int) (n : Nat) (r : Int) (hF : laws_szPlaceS a_ left n = some r) :
  Fn Tryd.prog 46 #[.slice aa_ a_.length ca_, iV left] h fun v h' => v = iV r ∧ h' = h := by
 unfold laws_szPlaceS at hF
 refine Zo [.slice aa_ a_.length ca_, iV left] Tryd.func46 rfl (fun w0 _ => ?_)
 refine Zs ?_
 refine Zq [iV 0] [0, 1] [(0, .slice aa_ a_.length ca_), (1, iV left)] ?_
 refine Zs ?_
 refine Zq [iV left, .slice aa_ a_.length ca_, iV (a_.length : Int), iV (w64 (left - (a_.length : Int))), iV (w64 (left - (a_.length : Int)))] [1] [(1, iV (w64 (left - (a_.length : Int))))] ?_
 refine Zs ?_
 refine Zs ?_
 refine Zq [iV (w64 (left - (a_.length : Int))), .bool (decide ((w64 (left - (a_.length : Int))) < 0))] [1, 10] [(1, iV (w64 (left - (a_.length : Int)))), (10, .bool (decide ((w64 (left - (a_.length : Int))) < 0)))] ?_
 refine Zc (decide ((w64 (left - (a_.length : Int))) < 0)) (fun hb1 => ?_) (fun hb1 => ?_)
 ·have hF := (M.ite_some hF).1 hb1
  refine Zs ?_
  refine Zq [iV (-1)] [4] [(4, iV (-1))] ?_
  have hF := M.ret_some hF
  subst hF
  exact Run_ret1 rfl (Zt (iV (-1))) ⟨rfl, rfl⟩
 ·have hF := (M.ite_some hF).2 hb1
  refine Run_skip ?_
  refine Zs ?_
  refine Zq [iV (w64 (left - (a_.length : Int))), iV (w64 (left - (a_.length : Int)))] [4] [(4, iV (w64 (left - (a_.length : Int))))] ?_
  have hF := M.ret_some hF
  subst hF
  exact Run_ret1 rfl (Zt (iV (w64 (left - (a_.length : Int))))) ⟨rfl, rfl⟩

theorem w_laws_szEventGraph (h : Heap) (a_ : TGraph) (aa_Places : Option Addr) (ca_Places : Nat) (ra_Places : Rd cd93 h (Lt h) aa_Places ca_Places a_.Places) (left : Int) (n : Nat) (r : Int) (hF : laws_szEventGraph a_ left n = some r) :
  Fn Tryd.prog 18 #[.agg #[iV a_.Events, .slice aa_Places a_.Places.length ca_Places], iV left] h fun v h' => v = iV r ∧ Hold h h' [] := by
 unfold laws_szEventGraph at hF
 refine Zo [.agg #[iV a_.Events, .slice aa_Places a_.Places.length ca_Places], iV left] Tryd.func18 rfl (fun w0 _ => ?_)
 have H0 := Hold.init h
 refine Zs ?_
 refine Run_ops ?_
 refine Ze ?_
 refine E_box (ty := 42) (cs := [iV a_.Events, .slice aa_Places a_.Places.length ca_Places]) H0 (fun w => by kernel_rfl) (fun b1 h1 H1 => ?_)
 refine Zr [iV 0] 1 ?_
 refine Zx ?_
 refine Zk [1, 2] [(1, iV left), (2, pV b1)] ?_
 refine Zs ?_
 obtain ⟨x1, hx1, hF⟩ := M.bind_some hF
 refine Zg 5 [(1, iV x1)] ?_ ?_
 ·refine Zb [.pointer (some ⟨b1, 1, none⟩)] 0 ?_
  refine Zy (.slice aa_Places a_.Places.length ca_Places) (Zl 40 (⟨b1, 1, none⟩) (.slice aa_Places a_.Places.length ca_Places) (H1.cell 0 rfl rfl)) ?_
  refine Zb [iV left] 2 ?_
  refine Zy (iV x1) (ZQ 46 #[.slice aa_Places a_.Places.length ca_Places, iV left] (w_laws_szPlaceS h1 a_.Places aa_Places ca_Places (ra_Places.at H1.ext) left _ _ hx1)) ?_
  refine Zb [iV x1] 4 ?_
  exact Zd [1]
 refine Zs ?_
 refine Zs ?_
 refine Zq [iV x1, .bool (decide (x1 < 0))] [1, 10] [(1, iV x1), (10, .bool (decide (x1 < 0)))] ?_
 refine Zc (decide (x1 < 0)) (fun hb1 => ?_) (fun hb1 => ?_)
 ·have hF := (M.ite_some hF).1 hb1
  refine Zs ?_
  refine Zq [iV (-1)] [4] [(4, iV (-1))] ?_
  have hF := M.ret_some hF
  subst hF
  have H2 : Hold h h1 [] := H1.pk []
  exact Run_ret1 rfl (Zt (iV (-1))) ⟨rfl, H2⟩
 ·have hF := (M.ite_some hF).2 hb1
  refine Run_skip ?_
  refine Zs ?_
  refine Zq [iV x1, iV x1] [4] [(4, iV x1)] ?_
  have hF := M.ret_some hF
  subst hF
  have H3 : Hold h h1 [] := H1.pk []
  exact Run_ret1 rfl (Zt (iV x1)) ⟨rfl, H3⟩

theorem w_laws_toPlace (h : Heap) (a_ : TPlace) (n : Nat) (r : TPlace) (hF : laws_toPlace a_ n = some r) :
  Fn Tryd.prog 60 #[.agg #[iV a_.From, iV a_.To, iV a_.Delay, iV a_.Tokens]] h fun v h' => v = .agg #[iV r.From, iV r.To, iV r.Delay, iV r.Tokens] ∧ Hold h h' [] := by
 unfold laws_toPlace at hF
 refine Zo [.agg #[iV a_.From, iV a_.To, iV a_.Delay, iV a_.Tokens]] Tryd.func60 rfl (fun w0 _ => ?_)
 have H0 := Hold.init h
 refine Zs ?_
 refine Run_ops ?_
 refine Ze ?_
 refine E_box (ty := 93) (cs := [iV a_.From, iV a_.To, iV a_.Delay, iV a_.Tokens]) H0 (fun w => by kernel_rfl) (fun b1 h1 H1 => ?_)
 refine Ze ?_
 refine E_box (ty := 28) (cs := [iV 0, iV 0, iV 0, iV 0]) H1 (fun w => by kernel_rfl) (fun b2 h2 H2 => ?_)
 refine Zx ?_
 refine Zk [1, 2] [(1, pV b1), (2, pV b2)] ?_
 refine Zs ?_
 refine Run_ops ?_
 refine Ze ?_
 refine E_box (ty := 28) (cs := [iV 0, iV 0, iV 0, iV 0]) H2 (fun w => by kernel_rfl) (fun b3 h3 H3 => ?_)
 refine Zx ?_
 refine Zk [1, 2, 3] [(1, pV b1), (2, pV b2), (3, pV b3)] ?_
 refine Zs ?_
 refine Run_ops ?_
 refine Zr [pV b1] 0 ?_
 refine Zz (iV a_.From) (Zl 2 (⟨b1, 0, none⟩) (iV a_.From) (H3.cell 2 rfl rfl)) ?_
 refine Zr [pV b3] 2 ?_
 refine Ze ?_
 refine ZP 2 0 [iV a_.From, iV 0, iV 0, iV 0] (iV a_.From) H3 (fun h4 H4 => ?_)
 refine Zx ?_
 refine Zk [1, 2, 3] [(1, pV b1), (2, pV b2), (3, pV b3)] ?_
 refine Zs ?_
 refine Run_ops ?_
 refine Zr [.pointer (some ⟨b1, 1, none⟩)] 0 ?_
 refine Zz (iV a_.To) (Zl 2 (⟨b1, 1, none⟩) (iV a_.To) (H4.cell 2 rfl rfl)) ?_
 refine Zr [.pointer (some ⟨b3, 1, none⟩)] 2 ?_
 refine Ze ?_
 refine ZP 2 1 [iV a_.From, iV a_.To, iV 0, iV 0] (iV a_.To) H4 (fun h5 H5 => ?_)
 refine Zx ?_
 refine Zk [1, 2, 3] [(1, pV b1), (2, pV b2), (3, pV b3)] ?_
 refine Zs ?_
 refine Run_ops ?_
 refine Zr [.pointer (some ⟨b1, 2, none⟩)] 0 ?_
 refine Zz (iV a_.Delay) (Zl 2 (⟨b1, 2, none⟩) (iV a_.Delay) (H5.cell 2 rfl rfl)) ?_
 refine Zr [.pointer (some ⟨b3, 2, none⟩)] 2 ?_
 refine Ze ?_
 refine ZP 2 2 [iV a_.From, iV a_.To, iV a_.Delay, iV 0] (iV a_.Delay) H5 (fun h6 H6 => ?_)
 refine Zx ?_
 refine Zk [1, 2, 3] [(1, pV b1), (2, pV b2), (3, pV b3)] ?_
 refine Zs ?_
 refine Run_ops ?_
 refine Zr [.pointer (some ⟨b1, 3, none⟩)] 0 ?_
 refine Zz (iV a_.Tokens) (Zl 2 (⟨b1, 3, none⟩) (iV a_.Tokens) (H6.cell 2 rfl rfl)) ?_
 refine Zr [.pointer (some ⟨b3, 3, none⟩)] 2 ?_
 refine Ze ?_
 refine ZP 2 3 [iV a_.From, iV a_.To, iV a_.Delay, iV a_.Tokens] (iV a_.Tokens) H6 (fun h7 H7 => ?_)
 refine Zx ?_
 refine Zk [2, 3] [(2, pV b2), (3, pV b3)] ?_
 refine Zs ?_
 refine Run_ops ?_
 refine Zz (.agg #[iV a_.From, iV a_.To, iV a_.Delay, iV a_.Tokens]) (Y_loadA (t := 28) (n := 4) (p := ⟨b3, 0, none⟩) (cs := [iV a_.From, iV a_.To, iV a_.Delay, iV a_.Tokens]) (by kernel_rfl) (fun w => by kernel_rfl) (by kernel_rfl) rfl (H7.cells (n := 4) (off := 0) 0 rfl rfl)) ?_
 have H9 : Hold h h7 [box b2 28 [iV 0, iV 0, iV 0, iV 0], box b3 28 [iV a_.From, iV a_.To, iV a_.Delay, iV a_.Tokens], box b1 93 [iV a_.From, iV a_.To, iV a_.Delay, iV a_.Tokens]] := H7.pk [1, 0, 2]
 refine Ze ?_
 refine ZP 28 0 [iV a_.From, iV a_.To, iV a_.Delay, iV a_.Tokens] (.agg #[iV a_.From, iV a_.To, iV a_.Delay, iV a_.Tokens]) H9 (fun h8 H8 => ?_)
 refine Zx ?_
 refine Zk [2] [(2, pV b2)] ?_
 have hF := M.ret_some hF
 subst hF
 have H10 : Hold h h8 [] := H8.pk []
 exact Run_ret1 rfl (ResV_cell (n := 4) (cs := [iV a_.From, iV a_.To, iV a_.Delay, iV a_.Tokens]) (by kernel_rfl) (fun w => by kernel_rfl) (by kernel_rfl) rfl (H8.cells (n := 4) (off := 0) 0 rfl rfl)) ⟨rfl, H10⟩

theorem w_laws_toPlaceS (h : Heap) (a_ : List TPlace) (aa_ : Option Addr) (ca_ : Nat) (ra_ : Rd cd93 h (Lt h) aa_ ca_ a_) (n : Nat) (r : (List TPlace)) (hF : laws_toPlaceS a_ n = some r) :
  Fn Tryd.prog 47 #[.slice aa_ a_.length ca_] h fun v h' => ∃ (a0 : Option Addr) (c0 : Nat), v = .slice a0 r.length c0 ∧ Hold h h' [own cd28 a0 r.length c0 r] := by
 unfold laws_toPlaceS at hF
 refine Zo [.slice aa_ a_.length ca_] Tryd.func47 rfl (fun w0 _ => ?_)
 have H0 := Hold.init h
 refine Zs ?_
 refine Zq [.slice none 0 0] [0] [(0, .slice aa_ a_.length ca_)] ?_
 refine Zs ?_
 refine Run_ops ?_
 refine Zr [.slice aa_ a_.length ca_, iV (a_.length : Int)] 0 ?_
 obtain ⟨l1, hl1, hF⟩ := M.bind_some hF
 have hl1 := M.make_some hl1
 refine Ze ?_
 refine E_make cd28 (⟨0, 0, 0, 0⟩ : TPlace) (kl := .i64) (kc := .i64) H0 cd28_ti Tryd.underlying24 (by decide) cd28_zero (by kernel_rfl) hl1 (fun a1 h1 H1 => ?_)
 refine Zr [.slice a1 l1.length l1.length] 3 ?_
 refine Zx ?_
 refine Zk [0, 3] [(0, .slice aa_ a_.length ca_), (3, .slice a1 l1.length l1.length)] ?_
 refine Zs ?_
 refine Zs ?_
 refine Zq [iV 0] [0, 3, 4] [(0, .slice aa_ a_.length ca_), (3, .slice a1 l1.length l1.length), (4, iV 0)] ?_
 obtain ⟨x1, gx1, hF⟩ := M.bind_some hF
 obtain ⟨hloy1, hhiy1, gx1⟩ := M.for_start gx1
 refine Run_join (fun L' h' => L' = [(3, .slice a1 l1.length l1.length)] ∧ Hold h h' [own cd28 a1 l1.length l1.length x1]) ?_ ?_
 ·rintro _ h3 ⟨rfl, H3⟩
  refine Zs ?_
  refine Zq [.slice a1 l1.length l1.length, .slice a1 l1.length l1.length] [2] [(2, .slice a1 l1.length l1.length)] ?_
  have hF := M.ret_some hF
  subst hF
  have H7 := H3.norm
  exact Run_ret1 rfl (Zt (.slice a1 l1.length l1.length)) ⟨a1, l1.length, (by simp only [(H3.len 0 rfl)]), H7⟩
 ·refine Run_block ?_
  refine Zk [0, 3, 4] [(0, .slice aa_ a_.length ca_), (3, .slice a1 l1.length l1.length), (4, iV 0)] ?_
  refine Run_loop (fun m L' h' => ∃ (i1 : Int) (s1 : (List TPlace)), 0 ≤ i1 ∧ M.forN (a_.length : Int) _ _ n m i1 s1 = some x1 ∧ L' = [(0, .slice aa_ a_.length ca_), (3, .slice a1 l1.length l1.length), (4, iV i1)] ∧ Hold h h' [own cd28 a1 l1.length l1.length s1]) ((a_.length : Int) - 0 : Int).toNat ⟨0, l1, Int.le_refl _, gx1, rfl, H1⟩ ?_
  rintro my1 _ h2 ⟨i1, s1, hloy1', gx1, rfl, H2⟩
  refine Zs ?_
  refine Zs ?_
  refine Zq [iV i1, .slice aa_ a_.length ca_, iV (a_.length : Int), .bool (decide (i1 < (a_.length : Int)))] [0, 3, 4, 11] [(0, .slice aa_ a_.length ca_), (3, .slice a1 l1.length l1.length), (4, iV i1), (11, .bool (decide (i1 < (a_.length : Int))))] ?_
  refine Zc (decide (i1 < (a_.length : Int))) (fun hb1 => ?_) (fun hb1 => ?_)
  ·obtain ⟨my1, y1, rfl, hB1, hgoy1, houty1⟩ := M.for_go gx1 hb1
   have hlty1 := of_decide_eq_true hb1
   refine Run_skip ?_
   refine Zs ?_
   refine Run_block ?_
   refine Run_ops ?_
   obtain ⟨x2, hx1, hB1⟩ := M.bind_some hB1
   obtain ⟨hx1l, hx1u, hx1⟩ := M.idx_some hx1
   refine Zr [.slice a1 l1.length l1.length, iV i1, .slice aa_ a_.length ca_, iV i1] 0 ?_
   refine Zz (.pointer (some (adr aa_ (i1.toNat * 4)))) (Zi 40 93 4 (aa_) (a_.length) (ca_) .i64 (i1) Tryd.underlying40 ((ra_.at H2.ext).cell hx1).1 hx1l hx1u) ?_
   refine Zz (.agg #[iV x2.From, iV x2.To, iV x2.Delay, iV x2.Tokens]) (Y_loadA (t := 93) (n := 4) (p := adr aa_ (i1.toNat * 4)) (cs := [iV x2.From, iV x2.To, iV x2.Delay, iV x2.Tokens]) (by kernel_rfl) (fun w => by kernel_rfl) (by kernel_rfl) rfl (cd93_elem (ra_.at H2.ext) hx1)) ?_
   obtain ⟨x3, hx2, hB1⟩ := M.bind_some hB1
   refine Ze ?_
   refine ZC 60 #[.agg #[iV x2.From, iV x2.To, iV x2.Delay, iV x2.Tokens]] (w_laws_toPlace h2 x2 _ _ hx2) (fun v1 h4 hp1 => ?_)
   obtain ⟨rfl, H4⟩ := hp1
   have H5 : Hold h h4 [own cd28 a1 l1.length l1.length s1] := H2.call H4 rfl
   obtain ⟨x4, hx3, hB1⟩ := M.bind_some hB1
   obtain ⟨hx3l, hx3u, hx3⟩ := M.idx_some hx3
   refine Zz (.pointer (some (adr a1 (i1.toNat * 4)))) (Zi 24 28 4 (a1) (l1.length) (l1.length) .i64 (i1) Tryd.underlying24 ((H5.rd 0 rfl).cell hx3).1 hx3l (by rw [← (H5.len 0 rfl)]; exact hx3u)) ?_
   obtain ⟨l2, hu1, hB1⟩ := M.bind_some hB1
   have hu1 := M.upd_some hu1
   refine Ze ?_
   refine E_put (C := cd28) (t := 28) (sz := 4) (j := i1) (x := x3) (v := .agg #[iV x3.From, iV x3.To, iV x3.Delay, iV x3.Tokens]) H5 cd28_flat (by kernel_rfl) rfl (cd28_own _) (by kernel_rfl) hu1 (fun h5 H6 => ?_)
   refine Zx ?_
   refine Zk [0, 3, 4] [(0, .slice aa_ a_.length ca_), (3, .slice a1 l1.length l1.length), (4, iV i1)] ?_
   refine Run_blk ?_
   refine Zg 3 [(0, .slice aa_ a_.length ca_), (3, .slice a1 l1.length l1.length), (4, iV (i1 + 1))] ?_ ?_
   ·refine Zb [iV i1] 0 ?_
    refine Zy (iV (i1 + 1)) (Y_eq (v := iV (w64 (i1 + 1))) (Y_pure (fun w => by kernel_rfl)) (by rw [w64_eq _ (by omega)])) ?_
    refine Zb [iV (i1 + 1)] 2 ?_
    exact Zd [0, 3, 4]
   have hB1 := M.ret_some hB1
   have gx1 := hgoy1 _ hB1.symm
   exact Za [0, 3, 4] my1 ⟨i1 + 1, l2, by omega, gx1, rfl, H6⟩
  ·have gx1 := M.for_end gx1 hb1
   subst gx1
   refine Run_exit (k' := _) rfl ?_
   exact Zf [3] ⟨rfl, H2⟩

theorem w_laws_toEventGraph (h : Heap) (a_ : TGraph) (aa_Places : Option Addr) (ca_Places : Nat) (ra_Places : Rd cd93 h (Lt h) aa_Places ca_Places a_.Places) (n : Nat) (r : TGraph) (hF : laws_toEventGraph a_ n = some r) :
  Fn Tryd.prog 19 #[.agg #[iV a_.Events, .slice aa_Places a_.Places.length ca_Places]] h fun v h' => ∃ (a0 : Option Addr) (c0 : Nat), v = .agg #[iV r.Events, .slice a0 r.Places.length c0] ∧ Hold h h' [own cd28 a0 r.Places.length c0 r.Places] := by
 unfold laws_toEventGraph at hF
 refine Zo [.agg #[iV a_.Events, .slice aa_Places a_.Places.length ca_Places]] Tryd.func19 rfl (fun w0 _ => ?_)
 have H0 := Hold.init h
 refine Zs ?_
 refine Run_ops ?_
 refine Ze ?_
 refine E_box (ty := 42) (cs := [iV a_.Events, .slice aa_Places a_.Places.length ca_Places]) H0 (fun w => by kernel_rfl) (fun b1 h1 H1 => ?_)
 refine Ze ?_
 refine E_box (ty := 26) (cs := [iV 0, .slice none 0 0]) H1 (fun w => by kernel_rfl) (fun b2 h2 H2 => ?_)
 refine Zx ?_
 refine Zk [1, 2] [(1, pV b1), (2, pV b2)] ?_
 refine Zs ?_
 refine Run_ops ?_
 refine Ze ?_
 refine E_box (ty := 26) (cs := [iV 0, .slice none 0 0]) H2 (fun w => by kernel_rfl) (fun b3 h3 H3 => ?_)
 refine Zx ?_
 refine Zk [1, 2, 3] [(1, pV b1), (2, pV b2), (3, pV b3)] ?_
 refine Zs ?_
 refine Run_ops ?_
 refine Zr [pV b1] 0 ?_
 refine Zz (iV a_.Events) (Zl 2 (⟨b1, 0, none⟩) (iV a_.Events) (H3.cell 2 rfl rfl)) ?_
 refine Zr [pV b3] 2 ?_
 refine Ze ?_
 refine ZP 2 0 [iV a_.Events, .slice none 0 0] (iV a_.Events) H3 (fun h4 H4 => ?_)
 refine Zx ?_
 refine Zk [1, 2, 3] [(1, pV b1), (2, pV b2), (3, pV b3)] ?_
 refine Zs ?_
 refine Run_ops ?_
 refine Zr [.pointer (some ⟨b1, 1, none⟩)] 0 ?_
 refine Zz (.slice aa_Places a_.Places.length ca_Places) (Zl 40 (⟨b1, 1, none⟩) (.slice aa_Places a_.Places.length ca_Places) (H4.cell 2 rfl rfl)) ?_
 obtain ⟨x1, hx1, hF⟩ := M.bind_some hF
 refine Ze ?_
 refine ZC 47 #[.slice aa_Places a_.Places.length ca_Places] (w_laws_toPlaceS h4 a_.Places aa_Places ca_Places (ra_Places.at H4.ext) _ _ hx1) (fun v1 h5 hp1 => ?_)
 obtain ⟨a1, c1, rfl, H5⟩ := hp1
 have H6 : Hold h h5 [own cd28 a1 x1.length c1 x1, box b3 26 [iV a_.Events, .slice none 0 0], box b2 26 [iV 0, .slice none 0 0], box b1 42 [iV a_.Events, .slice aa_Places a_.Places.length ca_Places]] := H4.call H5 rfl
 refine Zr [.pointer (some ⟨b3, 1, none⟩)] 3 ?_
 have H8 : Hold h h5 [box b3 26 [iV a_.Events, .slice none 0 0], own cd28 a1 x1.length c1 x1, box b2 26 [iV 0, .slice none 0 0], box b1 42 [iV a_.Events, .slice aa_Places a_.Places.length ca_Places]] := H6.pk [1, 0, 2, 3]
 refine Ze ?_
 refine ZP 24 1 [iV a_.Events, .slice a1 x1.length c1] (.slice a1 x1.length c1) H8 (fun h6 H7 => ?_)
 refine Zx ?_
 refine Zk [2, 3] [(2, pV b2), (3, pV b3)] ?_
 refine Zs ?_
 refine Run_ops ?_
 refine Zz (.agg #[iV a_.Events, .slice a1 x1.length c1]) (Y_loadA (t := 26) (n := 2) (p := ⟨b3, 0, none⟩) (cs := [iV a_.Events, .slice a1 x1.length c1]) (by kernel_rfl) (fun w => by kernel_rfl) (by kernel_rfl) rfl (H7.cells (n := 2) (off := 0) 0 rfl rfl)) ?_
 have H10 : Hold h h6 [box b2 26 [iV 0, .slice none 0 0], box b3 26 [iV a_.Events, .slice a1 x1.length c1], own cd28 a1 x1.length c1 x1, box b1 42 [iV a_.Events, .slice aa_Places a_.Places.length ca_Places]] := H7.pk [2, 0, 1, 3]
 refine Ze ?_
 refine ZP 26 0 [iV a_.Events, .slice a1 x1.length c1] (.agg #[iV a_.Events, .slice a1 x1.length c1]) H10 (fun h7 H9 => ?_)
 refine Zx ?_
 refine Zk [2] [(2, pV b2)] ?_
 have hF := M.ret_some hF
 subst hF
 have H11 : Hold h h7 [own cd28 a1 x1.length c1 x1, box b2 26 [iV a_.Events, .slice a1 x1.length c1], box b3 26 [iV a_.Events, .slice a1 x1.length c1], box b1 42 [iV a_.Events, .slice aa_Places a_.Places.length ca_Places]] := H9.pk [2, 0, 1, 3]
 have H12 : Hold h h7 [own cd28 a1 x1.length c1 x1] := H11.pk [0]
 exact Run_ret1 rfl (ResV_cell (n := 2) (cs := [iV a_.Events, .slice a1 x1.length c1]) (by kernel_rfl) (fun w => by kernel_rfl) (by kernel_rfl) rfl (H9.cells (n := 2) (off := 0) 0 rfl rfl)) ⟨a1, c1, rfl, H12⟩

theorem w_spec_l01In (h : Heap) (n_ : Int) (low : Int) (high : Int) (n : Nat) (r : Bool) (hF : spec_l01In n_ low high n = some r) :
  Fn Tryd.prog 53 #[iV n_, iV low, iV high] h fun v h' => v = .bool r ∧ h' = h := by
 unfold spec_l01In at hF
 refine Zo [iV n_, iV low, iV high] Tryd.func53 rfl (fun w0 _ => ?_)
 refine Zs ?_
 refine Zq [.bool false] [0, 1, 2] [(0, iV n_), (1, iV low), (2, iV high)] ?_
 refine Zs ?_
 refine Zg 9 [(6, .bool ((decide (low ≤ n_)) && (decide (n_ ≤ high))))] ?_ ?_
 ·refine Zb [iV n_, iV low, .bool (decide (low ≤ n_))] 0 ?_
  refine QRun_seq 8 [(14, .bool ((decide (low ≤ n_)) && (decide (n_ ≤ high))))] ?_ ?_
  ·rcases Bool.eq_false_or_eq_true (decide (low ≤ n_)) with hb1 | hb1
   ·refine Zv (decide (low ≤ n_)) true hb1 ?_
    refine Zb [iV n_, iV high, .bool (decide (n_ ≤ high))] 4 ?_
    refine QRun_bool (decide (n_ ≤ high)) ((decide (low ≤ n_)) && (decide (n_ ≤ high))) (by kernel_rfl) (fun w => by kernel_rfl) (by rw [hb1]; rfl) ?_
    exact Zd [14]
   ·refine Zv (decide (low ≤ n_)) false hb1 ?_
    refine Zn ?_
    refine Zn ?_
    refine Zn ?_
    refine QRun_bool false ((decide (low ≤ n_)) && (decide (n_ ≤ high))) (by kernel_rfl) (fun w => by kernel_rfl) (by rw [hb1]; rfl) ?_
    exact Zd [14]
  refine Zb [.bool ((decide (low ≤ n_)) && (decide (n_ ≤ high)))] 8 ?_
  exact Zd [6]
 have hF := M.ret_some hF
 subst hF
 exact Run_ret1 rfl (Zt (.bool ((decide (low ≤ n_)) && (decide (n_ ≤ high))))) ⟨rfl, rfl⟩

theorem w_spec_l11Place (h : Heap) (p : TPlace) (events : Int) (n : Nat) (r : Bool) (hF : spec_l11Place p events n = some r) :
  Fn Tryd.prog 30 #[.agg #[iV p.From, iV p.To, iV p.Delay, iV p.Tokens], iV events] h fun v h' => v = .bool r ∧ Hold h h' [] := by
 unfold spec_l11Place at hF
 refine Zo [.agg #[iV p.From, iV p.To, iV p.Delay, iV p.Tokens], iV events] Tryd.func30 rfl (fun w0 _ => ?_)
 have H0 := Hold.init h
 refine Zs ?_
 refine Run_ops ?_
 refine Ze ?_
 refine E_box (ty := 28) (cs := [iV p.From, iV p.To, iV p.Delay, iV p.Tokens]) H0 (fun w => by kernel_rfl) (fun b1 h1 H1 => ?_)
 refine Zr [.bool false] 1 ?_
 refine Zx ?_
 refine Zk [1, 2] [(1, iV events), (2, pV b1)] ?_
 refine Zs ?_
 obtain ⟨x1, hx1, hF⟩ := M.bind_some hF
 obtain ⟨x2, gx2, hF⟩ := M.bind_some hF
 obtain ⟨x4, gx4, hF⟩ := M.bind_some hF
 obtain ⟨x6, gx6, hF⟩ := M.bind_some hF
 refine Zg 23 [(4, .bool x6)] ?_ ?_
 ·refine Zb [pV b1] 0 ?_
  refine Zy (iV p.From) (Zl 2 (⟨b1, 0, none⟩) (iV p.From) (H1.cell 0 rfl rfl)) ?_
  refine Zb [iV events, iV (w64 (events - 1))] 2 ?_
  refine Zy (.bool x1) (ZQ 53 #[iV p.From, iV 0, iV (w64 (events - 1))] (w_spec_l01In h1 p.From 0 (w64 (events - 1)) _ _ hx1)) ?_
  refine QRun_seq 12 [(2, pV b1), (16, .bool x2)] ?_ ?_
  ·rcases Bool.eq_false_or_eq_true x1 with hb1 | hb1
   ·refine Zv x1 true hb1 ?_
    have gx2 := (M.ite_some gx2).1 hb1
    obtain ⟨x3, hx2, gx2⟩ := M.bind_some gx2
    have gx2 := M.ret_some gx2
    refine Zb [.pointer (some ⟨b1, 1, none⟩)] 6 ?_
    refine Zy (iV p.To) (Zl 2 (⟨b1, 1, none⟩) (iV p.To) (H1.cell 0 rfl rfl)) ?_
    refine Zb [iV events, iV (w64 (events - 1))] 8 ?_
    refine Zy (.bool x3) (ZQ 53 #[iV p.To, iV 0, iV (w64 (events - 1))] (w_spec_l01In h1 p.To 0 (w64 (events - 1)) _ _ hx2)) ?_
    refine Zv x3 x2 gx2 ?_
    exact Zd [2, 16]
   ·refine Zv x1 false hb1 ?_
    have gx2 := M.ret_some ((M.ite_some gx2).2 hb1)
    refine Zn ?_
    refine Zn ?_
    refine Zn ?_
    refine Zn ?_
    refine Zn ?_
    refine Zv false x2 gx2 ?_
    exact Zd [2, 16]
  refine QRun_seq 17 [(2, pV b1), (21, .bool x4)] ?_ ?_
  ·rcases Bool.eq_false_or_eq_true x2 with hb2 | hb2
   ·refine Zv x2 true hb2 ?_
    have gx4 := (M.ite_some gx4).1 hb2
    obtain ⟨x5, hx3, gx4⟩ := M.bind_some gx4
    have gx4 := M.ret_some gx4
    refine Zb [.pointer (some ⟨b1, 2, none⟩)] 13 ?_
    refine Zy (iV p.Delay) (Zl 2 (⟨b1, 2, none⟩) (iV p.Delay) (H1.cell 0 rfl rfl)) ?_
    refine Zy (.bool x5) (ZQ 53 #[iV p.Delay, iV 0, iV 1000] (w_spec_l01In h1 p.Delay 0 1000 _ _ hx3)) ?_
    refine Zv x5 x4 gx4 ?_
    exact Zd [2, 21]
   ·refine Zv x2 false hb2 ?_
    have gx4 := M.ret_some ((M.ite_some gx4).2 hb2)
    refine Zn ?_
    refine Zn ?_
    refine Zn ?_
    refine Zv false x4 gx4 ?_
    exact Zd [2, 21]
  refine QRun_seq 22 [(26, .bool x6)] ?_ ?_
  ·rcases Bool.eq_false_or_eq_true x4 with hb3 | hb3
   ·refine Zv x4 true hb3 ?_
    have gx6 := (M.ite_some gx6).1 hb3
    obtain ⟨x7, hx4, gx6⟩ := M.bind_some gx6
    have gx6 := M.ret_some gx6
    refine Zb [.pointer (some ⟨b1, 3, none⟩)] 18 ?_
    refine Zy (iV p.Tokens) (Zl 2 (⟨b1, 3, none⟩) (iV p.Tokens) (H1.cell 0 rfl rfl)) ?_
    refine Zy (.bool x7) (ZQ 53 #[iV p.Tokens, iV 0, iV 5] (w_spec_l01In h1 p.Tokens 0 5 _ _ hx4)) ?_
    refine Zv x7 x6 gx6 ?_
    exact Zd [26]
   ·refine Zv x4 false hb3 ?_
    have gx6 := M.ret_some ((M.ite_some gx6).2 hb3)
    refine Zn ?_
    refine Zn ?_
    refine Zn ?_
    refine Zv false x6 gx6 ?_
    exact Zd [26]
  refine Zb [.bool x6] 22 ?_
  exact Zd [4]
 have hF := M.ret_some hF
 subst hF
 have H2 : Hold h h1 [] := H1.pk []
 exact Run_ret1 rfl (Zt (.bool x6)) ⟨rfl, H2⟩

theorem w_spec_IsEventGraph (h : Heap) (g : TGraph) (agPlaces : Option Addr) (cgPlaces : Nat) (rgPlaces : Rd cd28 h (Lt h) agPlaces cgPlaces g.Places) (n : Nat) (r : Bool) (hF : spec_IsEventGraph g n = some r) :
  Fn Tryd.prog 29 #[.agg #[iV g.Events, .slice agPlaces g.Places.length cgPlaces]] h fun v h' => v = .bool r ∧ Hold h h' [] := by
 unfold spec_IsEventGraph at hF
 refine Zo [.agg #[iV g.Events, .slice agPlaces g.Places.length cgPlaces]] Tryd.func29 rfl (fun w0 _ => ?_)
 have H0 := Hold.init h
 refine Zs ?_
 refine Run_ops ?_
 refine Ze ?_
 refine E_box (ty := 26) (cs := [iV g.Events, .slice agPlaces g.Places.length cgPlaces]) H0 (fun w => by kernel_rfl) (fun b1 h1 H1 => ?_)
 refine Zr [.bool false] 1 ?_
 refine Zx ?_
 refine Zk [1] [(1, pV b1)] ?_
 refine Zs ?_
 refine Zs ?_
 refine Zq [iV 0] [1, 3] [(1, pV b1), (3, iV 0)] ?_
 obtain ⟨x1, gx1, hF⟩ := M.bind_some hF
 refine Run_join (fun L' h' => ∃ (s2 : Int), x1 = .inl s2 ∧ L' = [(1, pV b1)] ∧ Hold h h' [box b1 26 [iV g.Events, .slice agPlaces g.Places.length cgPlaces]]) ?_ ?_
 ·rintro _ h3 ⟨s2, es2, rfl, H3⟩
  have hF := M.cont_inl' hF es2
  refine Zs ?_
  obtain ⟨x4, hx3, hF⟩ := M.bind_some hF
  refine Zg 10 [(2, .bool (x4 && (decide ((g.Places.length : Int) ≤ 30))))] ?_ ?_
  ·refine Zb [pV b1] 0 ?_
   refine Zy (iV g.Events) (Zl 2 (⟨b1, 0, none⟩) (iV g.Events) (H3.cell 0 rfl rfl)) ?_
   refine Zy (.bool x4) (ZQ 53 #[iV g.Events, iV 1, iV 10] (w_spec_l01In h3 g.Events 1 10 _ _ hx3)) ?_
   refine QRun_seq 9 [(28, .bool (x4 && (decide ((g.Places.length : Int) ≤ 30))))] ?_ ?_
   ·rcases Bool.eq_false_or_eq_true x4 with hb3 | hb3
    ·refine Zv x4 true hb3 ?_
     refine Zb [.pointer (some ⟨b1, 1, none⟩)] 4 ?_
     refine Zy (.slice agPlaces g.Places.length cgPlaces) (Zl 24 (⟨b1, 1, none⟩) (.slice agPlaces g.Places.length cgPlaces) (H3.cell 0 rfl rfl)) ?_
     refine Zb [iV (g.Places.length : Int), .bool (decide ((g.Places.length : Int) ≤ 30))] 6 ?_
     refine QRun_bool (decide ((g.Places.length : Int) ≤ 30)) (x4 && (decide ((g.Places.length : Int) ≤ 30))) (by kernel_rfl) (fun w => by kernel_rfl) (by rw [hb3]; rfl) ?_
     exact Zd [28]
    ·refine Zv x4 false hb3 ?_
     refine Zn ?_
     refine Zn ?_
     refine Zn ?_
     refine Zn ?_
     refine QRun_bool false (x4 && (decide ((g.Places.length : Int) ≤ 30))) (by kernel_rfl) (fun w => by kernel_rfl) (by rw [hb3]; rfl) ?_
     exact Zd [28]
   refine Zb [.bool (x4 && (decide ((g.Places.length : Int) ≤ 30)))] 9 ?_
   exact Zd [2]
  have hF := M.ret_some hF
  subst hF
  have H7 : Hold h h3 [] := H3.pk []
  exact Run_ret1 rfl (Zt (.bool (x4 && (decide ((g.Places.length : Int) ≤ 30))))) ⟨rfl, H7⟩
 ·refine Run_block ?_
  refine Zk [1, 3] [(1, pV b1), (3, iV 0)] ?_
  refine Run_loop (fun m L' h' => ∃ (s1 : Int), M.loopN _ n m s1 = some x1 ∧ L' = [(1, pV b1), (3, iV s1)] ∧ Hold h h' [box b1 26 [iV g.Events, .slice agPlaces g.Places.length cgPlaces]]) n ⟨0, gx1, rfl, H1⟩ ?_
  rintro my1 _ h2 ⟨s1, gx1, rfl, H2⟩
  obtain ⟨my1, y1, rfl, hB1, hgoy1, houty1⟩ := M.loop_some gx1
  refine Zs ?_
  refine Zs ?_
  refine Zg 5 [(1, pV b1), (3, iV s1), (8, .bool (decide (s1 < (g.Places.length : Int))))] ?_ ?_
  ·refine Zb [iV s1, .pointer (some ⟨b1, 1, none⟩)] 0 ?_
   refine Zy (.slice agPlaces g.Places.length cgPlaces) (Zl 24 (⟨b1, 1, none⟩) (.slice agPlaces g.Places.length cgPlaces) (H2.cell 0 rfl rfl)) ?_
   refine Zb [iV (g.Places.length : Int), .bool (decide (s1 < (g.Places.length : Int)))] 3 ?_
   exact Zd [1, 3, 8]
  refine Zc (decide (s1 < (g.Places.length : Int))) (fun hb1 => ?_) (fun hb1 => ?_)
  ·have hB1 := (M.ite_some hB1).1 hb1
   refine Run_skip ?_
   refine Zs ?_
   refine Run_block ?_
   refine Zs ?_
   obtain ⟨x2, hx1, hB1⟩ := M.bind_some hB1
   obtain ⟨hx1l, hx1u, hx1⟩ := M.idx_some hx1
   obtain ⟨x3, hx2, hB1⟩ := M.bind_some hB1
   refine Run_drawC (j := 9) (C := fun x => Hold h x [box b1 26 [iV g.Events, .slice agPlaces g.Places.length cgPlaces]]) mixed (by kernel_rfl) (by kernel_rfl) H2 (L' := [(1, pV b1), (3, iV s1), (19, .bool (!x3))]) ?_ (fun h4 H4 => ?_)
   ·refine Zb [.pointer (some ⟨b1, 1, none⟩)] 0 ?_
    refine Zy (.slice agPlaces g.Places.length cgPlaces) (Y_cls fun hx Hx => (Zl 24 (⟨b1, 1, none⟩) (.slice agPlaces g.Places.length cgPlaces) (Hx.cell 0 rfl rfl))) ?_
    refine Zb [iV s1] 2 ?_
    refine Zy (.pointer (some (adr agPlaces (s1.toNat * 4)))) (Y_cls fun hx Hx => (Zi 24 28 4 (agPlaces) (g.Places.length) (cgPlaces) .i64 (s1) Tryd.underlying24 ((rgPlaces.at H2.ext).cell hx1).1 hx1l hx1u)) ?_
    refine Zy (.agg #[iV x2.From, iV x2.To, iV x2.Delay, iV x2.Tokens]) (Y_cls fun hx Hx => (Y_loadA (t := 28) (n := 4) (p := adr agPlaces (s1.toNat * 4)) (cs := [iV x2.From, iV x2.To, iV x2.Delay, iV x2.Tokens]) (by kernel_rfl) (fun w => by kernel_rfl) (by kernel_rfl) rfl (cd28_elem (rgPlaces.at Hx.ext) hx1))) ?_
    refine Zb [pV b1] 5 ?_
    refine Zy (iV g.Events) (Y_cls fun hx Hx => (Zl 2 (⟨b1, 0, none⟩) (iV g.Events) (Hx.cell 0 rfl rfl))) ?_
    refine Zy (.bool x3) (Y_call (f := 30) (args := #[.agg #[iV x2.From, iV x2.To, iV x2.Delay, iV x2.Tokens], iV g.Events]) (v := .bool x3) (by kernel_rfl) fun hx Hx => (w_spec_l11Place hx x2 g.Events _ _ hx2).mono fun _ _ ⟨e, H'⟩ => ⟨e, Hx.call H' rfl⟩) ?_
    refine Zb [.bool (!x3)] 8 ?_
    exact Zd [1, 3, 19]
   have H5 : Hold h h4 [box b1 26 [iV g.Events, .slice agPlaces g.Places.length cgPlaces]] := H4
   refine Zc (!x3) (fun hb2 => ?_) (fun hb2 => ?_)
   ·have hB1 := (M.ite_some hB1).1 hb2
    refine Zs ?_
    refine Zq [.bool false] [2] [(2, .bool false)] ?_
    have hB1 := M.ret_some hB1
    have gx1 := houty1 _ hB1.symm
    have hF := M.cont_inr' hF gx1
    have hF := M.ret_some hF
    subst hF
    have H6 : Hold h h4 [] := H5.pk []
    exact Run_ret1 rfl (Zt (.bool false)) ⟨rfl, H6⟩
   ·have hB1 := (M.ite_some hB1).2 hb2
    refine Run_skip ?_
    refine Run_blk ?_
    refine Zq [iV s1, iV (w64 (s1 + 1)), iV (w64 (s1 + 1))] [1, 3] [(1, pV b1), (3, iV (w64 (s1 + 1)))] ?_
    have hB1 := M.ret_some hB1
    have gx1 := hgoy1 _ hB1.symm
    exact Za [1, 3] my1 ⟨(w64 (s1 + 1)), gx1, rfl, H5⟩
  ·have hB1 := (M.ite_some hB1).2 hb1
   refine Run_exit (k' := _) rfl ?_
   have hB1 := M.ret_some hB1
   have gx1 := houty1 _ hB1.symm
   subst gx1
   exact Zf [1] ⟨s1, rfl, rfl, H2⟩

theorem w_spec_l01Dec_R (kR : Nat) : ∀ (h : Heap) (n_ : Int) (n : Nat) (r : ByteArray) (hF : spec_l01Dec_R kR n_ n = some r),
  Fn Tryd.prog 41 #[iV n_] h fun v h' => v = .string r ∧ Hold h h' [] := by
 induction kR with
 | zero => intros; rename_i hF; cases hF
 | succ kR ih =>
  intro h n_ n r hF
  rw [show spec_l01Dec_R (kR + 1) n_ = (M.ite (decide (n_ < 10)) (M.ret (toS ([(IntKind.u8.wrap (w64 (48 + n_)))] : List Int))) (M.bind (spec_l01Dec_R kR (w64 (n_.tdiv 10))) (fun x1 => M.bind (M.cat x1 (toS ([(IntKind.u8.wrap (w64 (48 + (n_.tmod 10))))] : List Int))) (fun x2 => M.ret x2)))) from rfl] at hF
  refine Zo [iV n_] Tryd.func41 rfl (fun w0 _ => ?_)
  have H0 := Hold.init h
  refine Zs ?_
  refine Zq [.string (⟨#[]⟩ : ByteArray)] [0] [(0, iV n_)] ?_
  refine Zs ?_
  refine Zs ?_
  refine Zq [iV n_, .bool (decide (n_ < 10))] [0, 4] [(0, iV n_), (4, .bool (decide (n_ < 10)))] ?_
  refine Zc (decide (n_ < 10)) (fun hb1 => ?_) (fun hb1 => ?_)
  ·have hF := (M.ite_some hF).1 hb1
   refine Zs ?_
   refine Run_ops ?_
   refine Zr [iV n_, iV (w64 (48 + n_)), .int .u8 (IntKind.u8.wrap (w64 (48 + n_)))] 0 ?_
   refine Ze ?_
   refine E_lit (C := cd5) (n := 1) (l := ([(IntKind.u8.wrap (w64 (48 + n_)))] : List Int)) (cs := [.int .u8 (IntKind.u8.wrap (w64 (48 + n_)))]) H0 (fun w => by kernel_rfl) (Enc.consE (cd5_own (IntKind.u8.wrap (w64 (48 + n_))) _) (Enc.nil _ _) rfl) rfl (by decide) (fun a1 h1 H1 => ?_)
   refine Zz (.string (toS ([(IntKind.u8.wrap (w64 (48 + n_)))] : List Int))) (Y_toS (n := 1) (t := 22) (s := 9) (e := 5) (H1.rd 0 rfl) rfl (fun _ _ o => o) (H1.len 0 rfl) Tryd.underlying22 Tryd.underlying9 Tryd.underlying5 (by kernel_rfl)) ?_
   refine Zr [.string (toS ([(IntKind.u8.wrap (w64 (48 + n_)))] : List Int))] 5 ?_
   refine Zx ?_
   refine Zk [2] [(2, .string (toS ([(IntKind.u8.wrap (w64 (48 + n_)))] : List Int)))] ?_
   have hF := M.ret_some hF
   subst hF
   have H2 : Hold h h1 [] := H1.pk []
   exact Run_ret1 rfl (Zt (.string (toS ([(IntKind.u8.wrap (w64 (48 + n_)))] : List Int)))) ⟨rfl, H2⟩
  ·have hF := (M.ite_some hF).2 hb1
   refine Run_skip ?_
   refine Zs ?_
   obtain ⟨x1, hx1, hF⟩ := M.bind_some hF
   refine Run_D (fun x => Hold h x []) (fun x => Hold h x []) mixed (by kernel_rfl) H0 Hold.stable (fun x Hy => (show Hold h x [] from Hy).pk []) ?_
   refine ZB 9 [iV n_, iV (w64 (n_.tdiv 10))] 0 ?_
   refine ZY 8 2 (.string x1) (fun hx Hx => (YE_call (f := 41) (args := #[iV (w64 (n_.tdiv 10))]) (v := .string x1) (by kernel_rfl) ((ih hx (w64 (n_.tdiv 10)) _ _ hx1).mono fun _ _ ⟨e, H'⟩ => ⟨e, H'.ext⟩))) ?_
   refine ZB 4 [iV n_, iV (n_.tmod 10), iV (w64 (48 + (n_.tmod 10))), .int .u8 (IntKind.u8.wrap (w64 (48 + (n_.tmod 10))))] 3 ?_
   refine ZE 3 7 (fun h2 H3 => ?_)
   have H4 : Hold h h2 [] := H3
   refine E_lit (C := cd5) (n := 1) (l := ([(IntKind.u8.wrap (w64 (48 + (n_.tmod 10))))] : List Int)) (cs := [.int .u8 (IntKind.u8.wrap (w64 (48 + (n_.tmod 10))))]) H4 (fun w => by kernel_rfl) (Enc.consE (cd5_own (IntKind.u8.wrap (w64 (48 + (n_.tmod 10)))) _) (Enc.nil _ _) rfl) rfl (by decide) (fun a2 h3 H5 => ?_)
   refine ⟨fun x => Hold h x [own cd5 a2 1 1 ([(IntKind.u8.wrap (w64 (48 + (n_.tmod 10))))] : List Int)], fun x => Hold h x [own cd5 a2 1 1 ([(IntKind.u8.wrap (w64 (48 + (n_.tmod 10))))] : List Int)], H5, Hold.stable, fun x Hy => (show Hold h x [own cd5 a2 1 1 ([(IntKind.u8.wrap (w64 (48 + (n_.tmod 10))))] : List Int)] from Hy).pk [0], fun x Hy => (show Hold h x [own cd5 a2 1 1 ([(IntKind.u8.wrap (w64 (48 + (n_.tmod 10))))] : List Int)] from Hy).pk [], ?_⟩
   obtain ⟨x2, hx2, hF⟩ := M.bind_some hF
   refine ZY 2 8 (.string (toS ([(IntKind.u8.wrap (w64 (48 + (n_.tmod 10))))] : List Int))) (fun hx Hx => (YE.of (Y_toS (n := 1) (t := 22) (s := 9) (e := 5) (Hx.rd 0 rfl) rfl (fun _ _ o => o) (Hx.len 0 rfl) Tryd.underlying22 Tryd.underlying9 Tryd.underlying5 (by kernel_rfl)))) ?_
   refine ZY 1 9 (.string x2) (fun hx Hx => (YE.of (Y_cat hx2 (by kernel_rfl)))) ?_
   refine ZB 0 [.string x2] 10 ?_
   refine ZT 11 (fun h4 H6 => ?_)
   have H7 : Hold h h4 [own cd5 a2 1 1 ([(IntKind.u8.wrap (w64 (48 + (n_.tmod 10))))] : List Int)] := H6
   refine Zx ?_
   refine Zk [2] [(2, .string x2)] ?_
   have hF := M.ret_some hF
   subst hF
   have H8 : Hold h h4 [] := H7.pk []
   exact Run_ret1 rfl (Zt (.string x2)) ⟨rfl, H8⟩

theorem w_spec_l01Dec (h : Heap) (n_ : Int) (n : Nat) (r : ByteArray) (hF : spec_l01Dec n_ n = some r) :
  Fn Tryd.prog 41 #[iV n_] h fun v h' => v = .string r ∧ Hold h h' [] := by
 exact w_spec_l01Dec_R n h n_ n r hF

theorem w_spec_GraphText (h : Heap) (g : TGraph) (agPlaces : Option Addr) (cgPlaces : Nat) (rgPlaces : Rd cd28 h (Lt h) agPlaces cgPlaces g.Places) (n : Nat) (r : ByteArray) (hF : spec_GraphText g n = some r) :
  Fn Tryd.prog 15 #[.agg #[iV g.Events, .slice agPlaces g.Places.length cgPlaces]] h fun v h' => v = .string r ∧ Hold h h' [] := by
 unfold spec_GraphText at hF
 refine Zo [.agg #[iV g.Events, .slice agPlaces g.Places.length cgPlaces]] Tryd.func15 rfl (fun w0 _ => ?_)
 have H0 := Hold.init h
 refine Zs ?_
 refine Run_ops ?_
 refine Ze ?_
 refine E_box (ty := 26) (cs := [iV g.Events, .slice agPlaces g.Places.length cgPlaces]) H0 (fun w => by kernel_rfl) (fun b1 h1 H1 => ?_)
 refine Zr [.string (⟨#[]⟩ : ByteArray)] 1 ?_
 refine Zx ?_
 refine Zk [1] [(1, pV b1)] ?_
 refine Zs ?_
 refine Zs ?_
 obtain ⟨x1, hx1, hF⟩ := M.bind_some hF
 refine Run_regC (j := 3) (C := fun x => Hold h x [box b1 26 [iV g.Events, .slice agPlaces g.Places.length cgPlaces]]) (by kernel_rfl) H1 (L' := [(1, pV b1), (8, .bool (!x1))]) ?_ (fun h2 H2 => ?_)
 ·refine Zy (.agg #[iV g.Events, .slice agPlaces g.Places.length cgPlaces]) (Y_cls fun hx Hx => (Y_loadA (t := 26) (n := 2) (p := ⟨b1, 0, none⟩) (cs := [iV g.Events, .slice agPlaces g.Places.length cgPlaces]) (by kernel_rfl) (fun w => by kernel_rfl) (by kernel_rfl) rfl (Hx.cells (n := 2) (off := 0) 0 rfl rfl))) ?_
  refine Zy (.bool x1) (Y_call (f := 29) (args := #[.agg #[iV g.Events, .slice agPlaces g.Places.length cgPlaces]]) (v := .bool x1) (by kernel_rfl) fun hx Hx => (w_spec_IsEventGraph hx g agPlaces cgPlaces (rgPlaces.at Hx.ext) _ _ hx1).mono fun _ _ ⟨e, H'⟩ => ⟨e, Hx.call H' rfl⟩) ?_
  refine Zb [.bool (!x1)] 2 ?_
  exact Zd [1, 8]
 have H3 : Hold h h2 [box b1 26 [iV g.Events, .slice agPlaces g.Places.length cgPlaces]] := H2
 refine Zc (!x1) (fun hb1 => ?_) (fun hb1 => ?_)
 ·have hF := (M.ite_some hF).1 hb1
  refine Zs ?_
  refine Zq [.string (⟨#[]⟩ : ByteArray)] [2] [(2, .string (⟨#[]⟩ : ByteArray))] ?_
  have hF := M.ret_some hF
  subst hF
  have H4 : Hold h h2 [] := H3.pk []
  exact Run_ret1 rfl (Zt (.string (⟨#[]⟩ : ByteArray))) ⟨rfl, H4⟩
 ·have hF := (M.ite_some hF).2 hb1
  refine Run_skip ?_
  refine Zs ?_
  obtain ⟨x2, hx2, hF⟩ := M.bind_some hF
  refine Run_regC (j := 4) (C := fun x => Hold h x [box b1 26 [iV g.Events, .slice agPlaces g.Places.length cgPlaces]]) (by kernel_rfl) H3 (L' := [(1, pV b1), (3, .string x2)]) ?_ (fun h3 H5 => ?_)
  ·refine Zb [pV b1] 0 ?_
   refine Zy (iV g.Events) (Y_cls fun hx Hx => (Zl 2 (⟨b1, 0, none⟩) (iV g.Events) (Hx.cell 0 rfl rfl))) ?_
   refine Zy (.string x2) (Y_call (f := 41) (args := #[iV g.Events]) (v := .string x2) (by kernel_rfl) fun hx Hx => (w_spec_l01Dec hx g.Events _ _ hx2).mono fun _ _ ⟨e, H'⟩ => ⟨e, Hx.call H' rfl⟩) ?_
   refine Zb [.string x2] 3 ?_
   exact Zd [1, 3]
  have H6 : Hold h h3 [box b1 26 [iV g.Events, .slice agPlaces g.Places.length cgPlaces]] := H5
  refine Zs ?_
  refine Zs ?_
  refine Zq [iV 0] [1, 3, 4] [(1, pV b1), (3, .string x2), (4, iV 0)] ?_
  obtain ⟨x3, gx3, hF⟩ := M.bind_some hF
  refine Run_join (fun L' h' => L' = [(3, .string x3.1)] ∧ Hold h h' []) ?_ ?_
  ·rintro _ h5 ⟨rfl, H8⟩
   refine Zs ?_
   refine Zq [.string x3.1, .string x3.1] [2] [(2, .string x3.1)] ?_
   have hF := M.ret_some hF
   subst hF
   exact Run_ret1 rfl (Zt (.string x3.1)) ⟨rfl, H8⟩
  ·refine Run_block ?_
   refine Zk [1, 3, 4] [(1, pV b1), (3, .string x2), (4, iV 0)] ?_
   refine Run_loop (fun m L' h' => ∃ (s1 : ByteArray × Int), M.loopN _ n m s1 = some x3 ∧ L' = [(1, pV b1), (3, .string s1.1), (4, iV s1.2)] ∧ Hold h h' [box b1 26 [iV g.Events, .slice agPlaces g.Places.length cgPlaces]]) n ⟨(x2, 0), gx3, rfl, H6⟩ ?_
   rintro my1 _ h4 ⟨s1, gx3, rfl, H7⟩
   obtain ⟨my1, y1, rfl, hB1, hgoy1, houty1⟩ := M.loop_some gx3
   refine Zs ?_
   refine Zs ?_
   refine Zg 5 [(1, pV b1), (3, .string s1.1), (4, iV s1.2), (16, .bool (decide (s1.2 < (g.Places.length : Int))))] ?_ ?_
   ·refine Zb [iV s1.2, .pointer (some ⟨b1, 1, none⟩)] 0 ?_
    refine Zy (.slice agPlaces g.Places.length cgPlaces) (Zl 24 (⟨b1, 1, none⟩) (.slice agPlaces g.Places.length cgPlaces) (H7.cell 0 rfl rfl)) ?_
    refine Zb [iV (g.Places.length : Int), .bool (decide (s1.2 < (g.Places.length : Int)))] 3 ?_
    exact Zd [1, 3, 4, 16]
   refine Zc (decide (s1.2 < (g.Places.length : Int))) (fun hb2 => ?_) (fun hb2 => ?_)
   ·have hB1 := (M.ite_some hB1).1 hb2
    refine Run_skip ?_
    refine Zs ?_
    refine Run_block ?_
    refine Zs ?_
    refine Run_ops ?_
    obtain ⟨x4, hx3, hB1⟩ := M.bind_some hB1
    obtain ⟨hx3l, hx3u, hx3⟩ := M.idx_some hx3
    refine Zr [.pointer (some ⟨b1, 1, none⟩)] 0 ?_
    refine Zz (.slice agPlaces g.Places.length cgPlaces) (Zl 24 (⟨b1, 1, none⟩) (.slice agPlaces g.Places.length cgPlaces) (H7.cell 0 rfl rfl)) ?_
    refine Zr [iV s1.2] 2 ?_
    refine Zz (.pointer (some (adr agPlaces (s1.2.toNat * 4)))) (Zi 24 28 4 (agPlaces) (g.Places.length) (cgPlaces) .i64 (s1.2) Tryd.underlying24 ((rgPlaces.at H7.ext).cell hx3).1 hx3l hx3u) ?_
    refine Zz (.agg #[iV x4.From, iV x4.To, iV x4.Delay, iV x4.Tokens]) (Y_loadA (t := 28) (n := 4) (p := adr agPlaces (s1.2.toNat * 4)) (cs := [iV x4.From, iV x4.To, iV x4.Delay, iV x4.Tokens]) (by kernel_rfl) (fun w => by kernel_rfl) (by kernel_rfl) rfl (cd28_elem (rgPlaces.at H7.ext) hx3)) ?_
    refine Ze ?_
    refine E_box (ty := 28) (cs := [iV 0, iV 0, iV 0, iV 0]) H7 (fun w => by kernel_rfl) (fun b2 h6 H9 => ?_)
    refine Ze ?_
    refine ZP 28 0 [iV x4.From, iV x4.To, iV x4.Delay, iV x4.Tokens] (.agg #[iV x4.From, iV x4.To, iV x4.Delay, iV x4.Tokens]) H9 (fun h7 H10 => ?_)
    refine Zx ?_
    refine Zk [1, 3, 4, 5] [(1, pV b1), (3, .string s1.1), (4, iV s1.2), (5, pV b2)] ?_
    obtain ⟨x5, hx4, hB1⟩ := M.bind_some hB1
    obtain ⟨x6, hx5, hB1⟩ := M.bind_some hB1
    obtain ⟨x7, hx6, hB1⟩ := M.bind_some hB1
    obtain ⟨x8, hx7, hB1⟩ := M.bind_some hB1
    obtain ⟨x9, hx8, hB1⟩ := M.bind_some hB1
    obtain ⟨x10, hx9, hB1⟩ := M.bind_some hB1
    obtain ⟨x11, hx10, hB1⟩ := M.bind_some hB1
    obtain ⟨x12, hx11, hB1⟩ := M.bind_some hB1
    obtain ⟨x13, hx12, hB1⟩ := M.bind_some hB1
    obtain ⟨x14, hx13, hB1⟩ := M.bind_some hB1
    obtain ⟨x15, hx14, hB1⟩ := M.bind_some hB1
    obtain ⟨x16, hx15, hB1⟩ := M.bind_some hB1
    refine Run_drawC (j := 22) (C := fun x => Hold h x [box b2 28 [iV x4.From, iV x4.To, iV x4.Delay, iV x4.Tokens], box b1 26 [iV g.Events, .slice agPlaces g.Places.length cgPlaces]]) mixed (by kernel_rfl) (by kernel_rfl) H10 (L' := [(1, pV b1), (3, .string x16), (4, iV s1.2)]) ?_ (fun h8 H11 => ?_)
    ·refine Zb [.string s1.1] 0 ?_
     refine Zy (.string x5) (Y_cls fun hx Hx => (Y_cat hx4 (by kernel_rfl))) ?_
     refine Zb [pV b2] 2 ?_
     refine Zy (iV x4.From) (Y_cls fun hx Hx => (Zl 2 (⟨b2, 0, none⟩) (iV x4.From) (Hx.cell 0 rfl rfl))) ?_
     refine Zy (.string x6) (Y_call (f := 41) (args := #[iV x4.From]) (v := .string x6) (by kernel_rfl) fun hx Hx => (w_spec_l01Dec hx x4.From _ _ hx5).mono fun _ _ ⟨e, H'⟩ => ⟨e, Hx.call H' rfl⟩) ?_
     refine Zy (.string x7) (Y_cls fun hx Hx => (Y_cat hx6 (by kernel_rfl))) ?_
     refine Zy (.string x8) (Y_cls fun hx Hx => (Y_cat hx7 (by kernel_rfl))) ?_
     refine Zb [.pointer (some ⟨b2, 1, none⟩)] 7 ?_
     refine Zy (iV x4.To) (Y_cls fun hx Hx => (Zl 2 (⟨b2, 1, none⟩) (iV x4.To) (Hx.cell 0 rfl rfl))) ?_
     refine Zy (.string x9) (Y_call (f := 41) (args := #[iV x4.To]) (v := .string x9) (by kernel_rfl) fun hx Hx => (w_spec_l01Dec hx x4.To _ _ hx8).mono fun _ _ ⟨e, H'⟩ => ⟨e, Hx.call H' rfl⟩) ?_
     refine Zy (.string x10) (Y_cls fun hx Hx => (Y_cat hx9 (by kernel_rfl))) ?_
     refine Zy (.string x11) (Y_cls fun hx Hx => (Y_cat hx10 (by kernel_rfl))) ?_
     refine Zb [.pointer (some ⟨b2, 2, none⟩)] 12 ?_
     refine Zy (iV x4.Delay) (Y_cls fun hx Hx => (Zl 2 (⟨b2, 2, none⟩) (iV x4.Delay) (Hx.cell 0 rfl rfl))) ?_
     refine Zy (.string x12) (Y_call (f := 41) (args := #[iV x4.Delay]) (v := .string x12) (by kernel_rfl) fun hx Hx => (w_spec_l01Dec hx x4.Delay _ _ hx11).mono fun _ _ ⟨e, H'⟩ => ⟨e, Hx.call H' rfl⟩) ?_
     refine Zy (.string x13) (Y_cls fun hx Hx => (Y_cat hx12 (by kernel_rfl))) ?_
     refine Zy (.string x14) (Y_cls fun hx Hx => (Y_cat hx13 (by kernel_rfl))) ?_
     refine Zb [.pointer (some ⟨b2, 3, none⟩)] 17 ?_
     refine Zy (iV x4.Tokens) (Y_cls fun hx Hx => (Zl 2 (⟨b2, 3, none⟩) (iV x4.Tokens) (Hx.cell 0 rfl rfl))) ?_
     refine Zy (.string x15) (Y_call (f := 41) (args := #[iV x4.Tokens]) (v := .string x15) (by kernel_rfl) fun hx Hx => (w_spec_l01Dec hx x4.Tokens _ _ hx14).mono fun _ _ ⟨e, H'⟩ => ⟨e, Hx.call H' rfl⟩) ?_
     refine Zy (.string x16) (Y_cls fun hx Hx => (Y_cat hx15 (by kernel_rfl))) ?_
     refine Zb [.string x16] 21 ?_
     exact Zd [1, 3, 4]
    have H12 : Hold h h8 [box b2 28 [iV x4.From, iV x4.To, iV x4.Delay, iV x4.Tokens], box b1 26 [iV g.Events, .slice agPlaces g.Places.length cgPlaces]] := H11
    refine Run_blk ?_
    refine Zq [iV s1.2, iV (w64 (s1.2 + 1)), iV (w64 (s1.2 + 1))] [1, 3, 4] [(1, pV b1), (3, .string x16), (4, iV (w64 (s1.2 + 1)))] ?_
    have H13 : Hold h h8 [box b1 26 [iV g.Events, .slice agPlaces g.Places.length cgPlaces]] := H12.pk [1]
    have hB1 := M.ret_some hB1
    have gx3 := hgoy1 _ hB1.symm
    exact Za [1, 3, 4] my1 ⟨(x16, (w64 (s1.2 + 1))), gx3, rfl, H13⟩
   ·have hB1 := (M.ite_some hB1).2 hb2
    refine Run_exit (k' := _) rfl ?_
    have H14 : Hold h h4 [] := H7.pk []
    have hB1 := M.ret_some hB1
    have gx3 := houty1 _ hB1.symm
    subst gx3
    exact Zf [3] ⟨rfl, H14⟩

theorem w_impl_within (h : Heap) (n_ : Int) (low : Int) (high : Int) (n : Nat) (r : Bool) (hF : impl_within n_ low high n = some r) :
  Fn Tryd.prog 42 #[iV n_, iV low, iV high] h fun v h' => v = .bool r ∧ h' = h := by
 unfold impl_within at hF
 refine Zo [iV n_, iV low, iV high] Tryd.func42 rfl (fun w0 _ => ?_)
 refine Zs ?_
 refine Zq [.bool false] [0, 1, 2] [(0, iV n_), (1, iV low), (2, iV high)] ?_
 refine Zs ?_
 refine Zg 9 [(6, .bool ((decide (low ≤ n_)) && (decide (n_ ≤ high))))] ?_ ?_
 ·refine Zb [iV n_, iV low, .bool (decide (low ≤ n_))] 0 ?_
  refine QRun_seq 8 [(14, .bool ((decide (low ≤ n_)) && (decide (n_ ≤ high))))] ?_ ?_
  ·rcases Bool.eq_false_or_eq_true (decide (low ≤ n_)) with hb1 | hb1
   ·refine Zv (decide (low ≤ n_)) true hb1 ?_
    refine Zb [iV n_, iV high, .bool (decide (n_ ≤ high))] 4 ?_
    refine QRun_bool (decide (n_ ≤ high)) ((decide (low ≤ n_)) && (decide (n_ ≤ high))) (by kernel_rfl) (fun w => by kernel_rfl) (by rw [hb1]; rfl) ?_
    exact Zd [14]
   ·refine Zv (decide (low ≤ n_)) false hb1 ?_
    refine Zn ?_
    refine Zn ?_
    refine Zn ?_
    refine QRun_bool false ((decide (low ≤ n_)) && (decide (n_ ≤ high))) (by kernel_rfl) (fun w => by kernel_rfl) (by rw [hb1]; rfl) ?_
    exact Zd [14]
  refine Zb [.bool ((decide (low ≤ n_)) && (decide (n_ ≤ high)))] 8 ?_
  exact Zd [6]
 have hF := M.ret_some hF
 subst hF
 exact Run_ret1 rfl (Zt (.bool ((decide (low ≤ n_)) && (decide (n_ ≤ high))))) ⟨rfl, rfl⟩

theorem w_impl_isEvent (h : Heap) (g : TGraph) (agPlaces : Option Addr) (cgPlaces : Nat) (rgPlaces : Rd cd28 h (Lt h) agPlaces cgPlaces g.Places) (event : Int) (n : Nat) (r : Bool) (hF : impl_isEvent g event n = some r) :
  Fn Tryd.prog 51 #[.agg #[iV g.Events, .slice agPlaces g.Places.length cgPlaces], iV event] h fun v h' => v = .bool r ∧ Hold h h' [] := by
 unfold impl_isEvent at hF
 refine Zo [.agg #[iV g.Events, .slice agPlaces g.Places.length cgPlaces], iV event] Tryd.func51 rfl (fun w0 _ => ?_)
 have H0 := Hold.init h
 refine Zs ?_
 refine Run_ops ?_
 refine Ze ?_
 refine E_box (ty := 26) (cs := [iV g.Events, .slice agPlaces g.Places.length cgPlaces]) H0 (fun w => by kernel_rfl) (fun b1 h1 H1 => ?_)
 refine Zr [.bool false] 1 ?_
 refine Zx ?_
 refine Zk [1, 2] [(1, iV event), (2, pV b1)] ?_
 refine Zs ?_
 obtain ⟨x1, hx1, hF⟩ := M.bind_some hF
 refine Zg 6 [(4, .bool x1)] ?_ ?_
 ·refine Zb [iV event, pV b1] 0 ?_
  refine Zy (iV g.Events) (Zl 2 (⟨b1, 0, none⟩) (iV g.Events) (H1.cell 0 rfl rfl)) ?_
  refine Zb [iV (w64 (g.Events - 1))] 3 ?_
  refine Zy (.bool x1) (ZQ 42 #[iV event, iV 0, iV (w64 (g.Events - 1))] (w_impl_within h1 event 0 (w64 (g.Events - 1)) _ _ hx1)) ?_
  refine Zb [.bool x1] 5 ?_
  exact Zd [4]
 have hF := M.ret_some hF
 subst hF
 have H2 : Hold h h1 [] := H1.pk []
 exact Run_ret1 rfl (Zt (.bool x1)) ⟨rfl, H2⟩

theorem w_impl_isPlace (h : Heap) (g : TGraph) (agPlaces : Option Addr) (cgPlaces : Nat) (rgPlaces : Rd cd28 h (Lt h) agPlaces cgPlaces g.Places) (p : TPlace) (n : Nat) (r : Bool) (hF : impl_isPlace g p n = some r) :
  Fn Tryd.prog 27 #[.agg #[iV g.Events, .slice agPlaces g.Places.length cgPlaces], .agg #[iV p.From, iV p.To, iV p.Delay, iV p.Tokens]] h fun v h' => v = .bool r ∧ Hold h h' [] := by
 unfold impl_isPlace at hF
 refine Zo [.agg #[iV g.Events, .slice agPlaces g.Places.length cgPlaces], .agg #[iV p.From, iV p.To, iV p.Delay, iV p.Tokens]] Tryd.func27 rfl (fun w0 _ => ?_)
 have H0 := Hold.init h
 refine Zs ?_
 refine Run_ops ?_
 refine Ze ?_
 refine E_box (ty := 26) (cs := [iV g.Events, .slice agPlaces g.Places.length cgPlaces]) H0 (fun w => by kernel_rfl) (fun b1 h1 H1 => ?_)
 refine Ze ?_
 refine E_box (ty := 28) (cs := [iV p.From, iV p.To, iV p.Delay, iV p.Tokens]) H1 (fun w => by kernel_rfl) (fun b2 h2 H2 => ?_)
 refine Zr [.bool false] 2 ?_
 refine Zx ?_
 refine Zk [2, 3] [(2, pV b1), (3, pV b2)] ?_
 refine Zs ?_
 obtain ⟨x1, hx1, hF⟩ := M.bind_some hF
 obtain ⟨x2, gx2, hF⟩ := M.bind_some hF
 obtain ⟨x4, gx4, hF⟩ := M.bind_some hF
 obtain ⟨x6, gx6, hF⟩ := M.bind_some hF
 refine Run_regC (j := 21) (C := fun x => Hold h x [box b2 28 [iV p.From, iV p.To, iV p.Delay, iV p.Tokens], box b1 26 [iV g.Events, .slice agPlaces g.Places.length cgPlaces]]) (by kernel_rfl) H2 (L' := [(4, .bool x6)]) ?_ (fun h3 H3 => ?_)
 ·refine Zy (.agg #[iV g.Events, .slice agPlaces g.Places.length cgPlaces]) (Y_cls fun hx Hx => (Y_loadA (t := 26) (n := 2) (p := ⟨b1, 0, none⟩) (cs := [iV g.Events, .slice agPlaces g.Places.length cgPlaces]) (by kernel_rfl) (fun w => by kernel_rfl) (by kernel_rfl) rfl (Hx.cells (n := 2) (off := 0) 1 rfl rfl))) ?_
  refine Zb [pV b2] 1 ?_
  refine Zy (iV p.From) (Y_cls fun hx Hx => (Zl 2 (⟨b2, 0, none⟩) (iV p.From) (Hx.cell 0 rfl rfl))) ?_
  refine Zy (.bool x1) (Y_call (f := 51) (args := #[.agg #[iV g.Events, .slice agPlaces g.Places.length cgPlaces], iV p.From]) (v := .bool x1) (by kernel_rfl) fun hx Hx => (w_impl_isEvent hx g agPlaces cgPlaces (rgPlaces.at Hx.ext) p.From _ _ hx1).mono fun _ _ ⟨e, H'⟩ => ⟨e, Hx.call H' rfl⟩) ?_
  refine QRun_seq 10 [(3, pV b2), (14, .bool x2)] ?_ ?_
  ·rcases Bool.eq_false_or_eq_true x1 with hb1 | hb1
   ·refine Zv x1 true hb1 ?_
    have gx2 := (M.ite_some gx2).1 hb1
    obtain ⟨x3, hx2, gx2⟩ := M.bind_some gx2
    have gx2 := M.ret_some gx2
    refine Zy (.agg #[iV g.Events, .slice agPlaces g.Places.length cgPlaces]) (Y_cls fun hx Hx => (Y_loadA (t := 26) (n := 2) (p := ⟨b1, 0, none⟩) (cs := [iV g.Events, .slice agPlaces g.Places.length cgPlaces]) (by kernel_rfl) (fun w => by kernel_rfl) (by kernel_rfl) rfl (Hx.cells (n := 2) (off := 0) 1 rfl rfl))) ?_
    refine Zb [.pointer (some ⟨b2, 1, none⟩)] 6 ?_
    refine Zy (iV p.To) (Y_cls fun hx Hx => (Zl 2 (⟨b2, 1, none⟩) (iV p.To) (Hx.cell 0 rfl rfl))) ?_
    refine Zy (.bool x3) (Y_call (f := 51) (args := #[.agg #[iV g.Events, .slice agPlaces g.Places.length cgPlaces], iV p.To]) (v := .bool x3) (by kernel_rfl) fun hx Hx => (w_impl_isEvent hx g agPlaces cgPlaces (rgPlaces.at Hx.ext) p.To _ _ hx2).mono fun _ _ ⟨e, H'⟩ => ⟨e, Hx.call H' rfl⟩) ?_
    refine Zv x3 x2 gx2 ?_
    exact Zd [3, 14]
   ·refine Zv x1 false hb1 ?_
    have gx2 := M.ret_some ((M.ite_some gx2).2 hb1)
    refine Zn ?_
    refine Zn ?_
    refine Zn ?_
    refine Zn ?_
    refine Zv false x2 gx2 ?_
    exact Zd [3, 14]
  refine QRun_seq 15 [(3, pV b2), (19, .bool x4)] ?_ ?_
  ·rcases Bool.eq_false_or_eq_true x2 with hb2 | hb2
   ·refine Zv x2 true hb2 ?_
    have gx4 := (M.ite_some gx4).1 hb2
    obtain ⟨x5, hx3, gx4⟩ := M.bind_some gx4
    have gx4 := M.ret_some gx4
    refine Zb [.pointer (some ⟨b2, 2, none⟩)] 11 ?_
    refine Zy (iV p.Delay) (Y_cls fun hx Hx => (Zl 2 (⟨b2, 2, none⟩) (iV p.Delay) (Hx.cell 0 rfl rfl))) ?_
    refine Zy (.bool x5) (Y_cls fun hx Hx => (ZQ 42 #[iV p.Delay, iV 0, iV 1000] (w_impl_within hx p.Delay 0 1000 _ _ hx3))) ?_
    refine Zv x5 x4 gx4 ?_
    exact Zd [3, 19]
   ·refine Zv x2 false hb2 ?_
    have gx4 := M.ret_some ((M.ite_some gx4).2 hb2)
    refine Zn ?_
    refine Zn ?_
    refine Zn ?_
    refine Zv false x4 gx4 ?_
    exact Zd [3, 19]
  refine QRun_seq 20 [(24, .bool x6)] ?_ ?_
  ·rcases Bool.eq_false_or_eq_true x4 with hb3 | hb3
   ·refine Zv x4 true hb3 ?_
    have gx6 := (M.ite_some gx6).1 hb3
    obtain ⟨x7, hx4, gx6⟩ := M.bind_some gx6
    have gx6 := M.ret_some gx6
    refine Zb [.pointer (some ⟨b2, 3, none⟩)] 16 ?_
    refine Zy (iV p.Tokens) (Y_cls fun hx Hx => (Zl 2 (⟨b2, 3, none⟩) (iV p.Tokens) (Hx.cell 0 rfl rfl))) ?_
    refine Zy (.bool x7) (Y_cls fun hx Hx => (ZQ 42 #[iV p.Tokens, iV 0, iV 5] (w_impl_within hx p.Tokens 0 5 _ _ hx4))) ?_
    refine Zv x7 x6 gx6 ?_
    exact Zd [24]
   ·refine Zv x4 false hb3 ?_
    have gx6 := M.ret_some ((M.ite_some gx6).2 hb3)
    refine Zn ?_
    refine Zn ?_
    refine Zn ?_
    refine Zv false x6 gx6 ?_
    exact Zd [24]
  refine Zb [.bool x6] 20 ?_
  exact Zd [4]
 have H4 : Hold h h3 [box b2 28 [iV p.From, iV p.To, iV p.Delay, iV p.Tokens], box b1 26 [iV g.Events, .slice agPlaces g.Places.length cgPlaces]] := H3
 have hF := M.ret_some hF
 subst hF
 have H5 : Hold h h3 [] := H4.pk []
 exact Run_ret1 rfl (Zt (.bool x6)) ⟨rfl, H5⟩

theorem w_impl_IsEventGraph_1 (h : Heap) (p : TPlace) (z0 : TGraph) (az0Places : Option Addr) (cz0Places : Nat) (rz0Places : Rd cd28 h (Lt h) az0Places cz0Places z0.Places) (bz0 : Nat) (vz0 : VarAt h bz0 26 [iV z0.Events, .slice az0Places z0.Places.length cz0Places]) (n : Nat) (r : Bool) (hF : impl_IsEventGraph_1 p z0 n = some r) :
  Fn Tryd.prog 44 #[.agg #[iV p.From, iV p.To, iV p.Delay, iV p.Tokens], pV bz0] h fun v h' => v = .bool r ∧ Hold h h' [] := by
 unfold impl_IsEventGraph_1 at hF
 refine Zo [.agg #[iV p.From, iV p.To, iV p.Delay, iV p.Tokens], pV bz0] Tryd.func44 rfl (fun w0 _ => ?_)
 have H0 := Hold.init h
 refine Zs ?_
 refine Run_ops ?_
 refine Ze ?_
 refine E_box (ty := 28) (cs := [iV p.From, iV p.To, iV p.Delay, iV p.Tokens]) H0 (fun w => by kernel_rfl) (fun b1 h1 H1 => ?_)
 refine Zr [.bool false] 1 ?_
 refine Zx ?_
 refine Zk [1, 2] [(1, pV bz0), (2, pV b1)] ?_
 refine Zs ?_
 obtain ⟨x1, hx1, hF⟩ := M.bind_some hF
 refine Run_regC (j := 5) (C := fun x => Hold h x [box b1 28 [iV p.From, iV p.To, iV p.Delay, iV p.Tokens]]) (by kernel_rfl) H1 (L' := [(3, .bool (!x1))]) ?_ (fun h2 H2 => ?_)
 ·refine Zy (.agg #[iV z0.Events, .slice az0Places z0.Places.length cz0Places]) (Y_cls fun hx Hx => (Y_loadA (t := 26) (n := 2) (p := ⟨bz0, 0, none⟩) (cs := [iV z0.Events, .slice az0Places z0.Places.length cz0Places]) (by kernel_rfl) (fun w => by kernel_rfl) (by kernel_rfl) rfl (VarAt.cells (n := 2) (off := 0) (vz0.at Hx.ext) rfl))) ?_
  refine Zy (.agg #[iV p.From, iV p.To, iV p.Delay, iV p.Tokens]) (Y_cls fun hx Hx => (Y_loadA (t := 28) (n := 4) (p := ⟨b1, 0, none⟩) (cs := [iV p.From, iV p.To, iV p.Delay, iV p.Tokens]) (by kernel_rfl) (fun w => by kernel_rfl) (by kernel_rfl) rfl (Hx.cells (n := 4) (off := 0) 0 rfl rfl))) ?_
  refine Zy (.bool x1) (Y_call (f := 27) (args := #[.agg #[iV z0.Events, .slice az0Places z0.Places.length cz0Places], .agg #[iV p.From, iV p.To, iV p.Delay, iV p.Tokens]]) (v := .bool x1) (by kernel_rfl) fun hx Hx => (w_impl_isPlace hx z0 az0Places cz0Places (rz0Places.at Hx.ext) p _ _ hx1).mono fun _ _ ⟨e, H'⟩ => ⟨e, Hx.call H' rfl⟩) ?_
  refine Zb [.bool (!x1), .bool (!x1)] 3 ?_
  exact Zd [3]
 have H3 : Hold h h2 [box b1 28 [iV p.From, iV p.To, iV p.Delay, iV p.Tokens]] := H2
 have hF := M.ret_some hF
 subst hF
 have H4 : Hold h h2 [] := H3.pk []
 exact Run_ret1 rfl (Zt (.bool (!x1))) ⟨rfl, H4⟩

theorem w_slices_IndexFunc_Place_F_impl_IsEventGraph_1 (h : Heap) (s_ : List TPlace) (as_ : Option Addr) (cs_ : Nat) (rs_ : Rd cd28 h (Lt h) as_ cs_ s_) (f0 : TGraph) (af0Places : Option Addr) (cf0Places : Nat) (rf0Places : Rd cd28 h (Lt h) af0Places cf0Places f0.Places) (bf0 : Nat) (vf0 : VarAt h bf0 26 [iV f0.Events, .slice af0Places f0.Places.length cf0Places]) (n : Nat) (r : Int) (hF : slices_IndexFunc_Place_F_impl_IsEventGraph_1 s_ f0 n = some r) :
  Fn Tryd.prog 59 #[.slice as_ s_.length cs_, .func (.func 44) #[] #[pV bf0]] h fun v h' => v = iV r ∧ Hold h h' [] := by
 unfold slices_IndexFunc_Place_F_impl_IsEventGraph_1 at hF
 refine Zo [.slice as_ s_.length cs_, .func (.func 44) #[] #[pV bf0]] Tryd.func59 rfl (fun w0 _ => ?_)
 have H0 := Hold.init h
 refine Zs ?_
 refine Zq [iV 0] [0, 1] [(0, .slice as_ s_.length cs_), (1, .func (.func 44) #[] #[pV bf0])] ?_
 refine Zs ?_
 refine Zs ?_
 refine Zq [.slice as_ s_.length cs_, iV (s_.length : Int), iV 0] [0, 1, 7, 8] [(0, .slice as_ s_.length cs_), (1, .func (.func 44) #[] #[pV bf0]), (7, iV (s_.length : Int)), (8, iV 0)] ?_
 obtain ⟨x1, gx1, hF⟩ := M.bind_some hF
 obtain ⟨hloy1, hhiy1, gx1⟩ := M.for_start gx1
 refine Run_join (fun L' h' => ∃ (s2 : Unit), x1 = .inl s2 ∧ L' = [] ∧ Hold h h' []) ?_ ?_
 ·rintro _ h2 ⟨s2, es2, rfl, H2⟩
  have hF := M.cont_inl' hF es2
  refine Zs ?_
  refine Zq [iV (-1)] [4] [(4, iV (-1))] ?_
  have hF := M.ret_some hF
  subst hF
  exact Run_ret1 rfl (Zt (iV (-1))) ⟨rfl, H2⟩
 ·refine Run_block ?_
  refine Zk [0, 1, 7, 8] [(0, .slice as_ s_.length cs_), (1, .func (.func 44) #[] #[pV bf0]), (7, iV (s_.length : Int)), (8, iV 0)] ?_
  refine Run_loop (fun m L' h' => ∃ (i1 : Int) (s1 : Unit), 0 ≤ i1 ∧ M.forN (s_.length : Int) _ _ n m i1 s1 = some x1 ∧ L' = [(0, .slice as_ s_.length cs_), (1, .func (.func 44) #[] #[pV bf0]), (7, iV (s_.length : Int)), (8, iV i1)] ∧ Hold h h' []) ((s_.length : Int) - 0 : Int).toNat ⟨0, (), Int.le_refl _, gx1, rfl, H0⟩ ?_
  rintro my1 _ h1 ⟨i1, s1, hloy1', gx1, rfl, H1⟩
  refine Zs ?_
  refine Zq [.bool (decide (i1 < (s_.length : Int)))] [0, 1, 7, 8, 9] [(0, .slice as_ s_.length cs_), (1, .func (.func 44) #[] #[pV bf0]), (7, iV (s_.length : Int)), (8, iV i1), (9, .bool (decide (i1 < (s_.length : Int))))] ?_
  refine Zs ?_
  refine Zc (decide (i1 < (s_.length : Int))) (fun hb1 => ?_) (fun hb1 => ?_)
  ·obtain ⟨my1, y1, rfl, hB1, hgoy1, houty1⟩ := M.for_go gx1 hb1
   have hlty1 := of_decide_eq_true hb1
   refine Run_skip ?_
   refine Zs ?_
   refine Run_block ?_
   refine Zs ?_
   refine Zq [iV i1, iV i1] [0, 1, 5, 7, 8] [(0, .slice as_ s_.length cs_), (1, .func (.func 44) #[] #[pV bf0]), (5, iV i1), (7, iV (s_.length : Int)), (8, iV i1)] ?_
   refine Zs ?_
   obtain ⟨x2, hx1, hB1⟩ := M.bind_some hB1
   obtain ⟨hx1l, hx1u, hx1⟩ := M.idx_some hx1
   obtain ⟨x3, hx2, hB1⟩ := M.bind_some hB1
   refine Run_regC (j := 6) (C := fun x => Hold h x []) (by kernel_rfl) H1 (L' := [(0, .slice as_ s_.length cs_), (1, .func (.func 44) #[] #[pV bf0]), (5, iV i1), (7, iV (s_.length : Int)), (8, iV i1), (16, .bool x3)]) ?_ (fun h3 H3 => ?_)
   ·refine Zb [.func (.func 44) #[] #[pV bf0], .slice as_ s_.length cs_, iV i1] 0 ?_
    refine Zy (.pointer (some (adr as_ (i1.toNat * 4)))) (Y_cls fun hx Hx => (Zi 24 28 4 (as_) (s_.length) (cs_) .i64 (i1) Tryd.underlying24 ((rs_.at H1.ext).cell hx1).1 hx1l hx1u)) ?_
    refine Zy (.agg #[iV x2.From, iV x2.To, iV x2.Delay, iV x2.Tokens]) (Y_cls fun hx Hx => (Y_loadA (t := 28) (n := 4) (p := adr as_ (i1.toNat * 4)) (cs := [iV x2.From, iV x2.To, iV x2.Delay, iV x2.Tokens]) (by kernel_rfl) (fun w => by kernel_rfl) (by kernel_rfl) rfl (cd28_elem (rs_.at Hx.ext) hx1))) ?_
    refine Zy (.bool x3) (Y_call (f := 44) (args := #[.agg #[iV x2.From, iV x2.To, iV x2.Delay, iV x2.Tokens], pV bf0]) (v := .bool x3) (by kernel_rfl) fun hx Hx => (w_impl_IsEventGraph_1 hx x2 f0 af0Places cf0Places (rf0Places.at Hx.ext) bf0 (vf0.at Hx.ext) _ _ hx2).mono fun _ _ ⟨e, H'⟩ => ⟨e, Hx.call H' rfl⟩) ?_
    exact Zd [0, 1, 5, 7, 8, 16]
   have H4 : Hold h h3 [] := H3
   refine Zc (x3) (fun hb2 => ?_) (fun hb2 => ?_)
   ·have hB1 := (M.ite_some hB1).1 hb2
    refine Zs ?_
    refine Zq [iV i1, iV i1] [4] [(4, iV i1)] ?_
    have hB1 := M.ret_some hB1
    have gx1 := houty1 _ hB1.symm
    have hF := M.cont_inr' hF gx1
    have hF := M.ret_some hF
    subst hF
    exact Run_ret1 rfl (Zt (iV i1)) ⟨rfl, H4⟩
   ·have hB1 := (M.ite_some hB1).2 hb2
    refine Run_skip ?_
    refine Run_blk ?_
    refine Zg 2 [(0, .slice as_ s_.length cs_), (1, .func (.func 44) #[] #[pV bf0]), (7, iV (s_.length : Int)), (8, iV (i1 + 1))] ?_ ?_
    ·refine Zy (iV (i1 + 1)) (Y_eq (v := iV (w64 (i1 + 1))) (Y_pure (fun w => by kernel_rfl)) (by rw [w64_eq _ (by omega)])) ?_
     refine Zb [iV (i1 + 1)] 1 ?_
     exact Zd [0, 1, 7, 8]
    have hB1 := M.ret_some hB1
    have gx1 := hgoy1 _ hB1.symm
    exact Za [0, 1, 7, 8] my1 ⟨i1 + 1, (), by omega, gx1, rfl, H4⟩
  ·have gx1 := M.for_end gx1 hb1
   subst gx1
   refine Run_exit (k' := _) rfl ?_
   exact Zf [] ⟨(), rfl, rfl, H1⟩

theorem w_slices_ContainsFunc_Place_F_impl_IsEventGraph_1 (h : Heap) (s_ : List TPlace) (as_ : Option Addr) (cs_ : Nat) (rs_ : Rd cd28 h (Lt h) as_ cs_ s_) (f0 : TGraph) (af0Places : Option Addr) (cf0Places : Nat) (rf0Places : Rd cd28 h (Lt h) af0Places cf0Places f0.Places) (bf0 : Nat) (vf0 : VarAt h bf0 26 [iV f0.Events, .slice af0Places f0.Places.length cf0Places]) (n : Nat) (r : Bool) (hF : slices_ContainsFunc_Place_F_impl_IsEventGraph_1 s_ f0 n = some r) :
  Fn Tryd.prog 43 #[.slice as_ s_.length cs_, .func (.func 44) #[] #[pV bf0]] h fun v h' => v = .bool r ∧ Hold h h' [] := by
 unfold slices_ContainsFunc_Place_F_impl_IsEventGraph_1 at hF
 refine Zo [.slice as_ s_.length cs_, .func (.func 44) #[] #[pV bf0]] Tryd.func43 rfl (fun w0 _ => ?_)
 have H0 := Hold.init h
 refine Zs ?_
 refine Zq [.bool false] [0, 1] [(0, .slice as_ s_.length cs_), (1, .func (.func 44) #[] #[pV bf0])] ?_
 refine Zs ?_
 obtain ⟨x1, hx1, hF⟩ := M.bind_some hF
 refine Run_regC (j := 5) (C := fun x => Hold h x []) (by kernel_rfl) H0 (L' := [(4, .bool (decide (0 ≤ x1)))]) ?_ (fun h1 H1 => ?_)
 ·refine Zb [.slice as_ s_.length cs_, .func (.func 44) #[] #[pV bf0]] 0 ?_
  refine Zy (iV x1) (Y_call (f := 59) (args := #[.slice as_ s_.length cs_, .func (.func 44) #[] #[pV bf0]]) (v := iV x1) (by kernel_rfl) fun hx Hx => (w_slices_IndexFunc_Place_F_impl_IsEventGraph_1 hx s_ as_ cs_ (rs_.at Hx.ext) f0 af0Places cf0Places (rf0Places.at Hx.ext) bf0 (vf0.at Hx.ext) _ _ hx1).mono fun _ _ ⟨e, H'⟩ => ⟨e, Hx.call H' rfl⟩) ?_
  refine Zb [.bool (decide (0 ≤ x1)), .bool (decide (0 ≤ x1))] 3 ?_
  exact Zd [4]
 have H2 : Hold h h1 [] := H1
 have hF := M.ret_some hF
 subst hF
 exact Run_ret1 rfl (Zt (.bool (decide (0 ≤ x1)))) ⟨rfl, H2⟩

theorem w_impl_IsEventGraph (h : Heap) (g : TGraph) (agPlaces : Option Addr) (cgPlaces : Nat) (rgPlaces : Rd cd28 h (Lt h) agPlaces cgPlaces g.Places) (n : Nat) (r : Bool) (hF : impl_IsEventGraph g n = some r) :
  Fn Tryd.prog 16 #[.agg #[iV g.Events, .slice agPlaces g.Places.length cgPlaces]] h fun v h' => v = .bool r ∧ Hold h h' [] := by
 unfold impl_IsEventGraph at hF
 refine Zo [.agg #[iV g.Events, .slice agPlaces g.Places.length cgPlaces]] Tryd.func16 rfl (fun w0 _ => ?_)
 have H0 := Hold.init h
 refine Zs ?_
 refine Run_ops ?_
 refine Ze ?_
 refine E_box (ty := 26) (cs := [iV g.Events, .slice agPlaces g.Places.length cgPlaces]) H0 (fun w => by kernel_rfl) (fun b1 h1 H1 => ?_)
 refine Zr [.bool false] 1 ?_
 refine Zx ?_
 refine Zk [1] [(1, pV b1)] ?_
 refine Zs ?_
 obtain ⟨x1, hx1, hF⟩ := M.bind_some hF
 obtain ⟨x3, gx3, hF⟩ := M.bind_some hF
 refine Run_regC (j := 17) (C := fun x => Hold h x [box b1 26 [iV g.Events, .slice agPlaces g.Places.length cgPlaces]]) (by kernel_rfl) H1 (L' := [(2, .bool x3)]) ?_ (fun h2 H2 => ?_)
 ·refine Zb [pV b1] 0 ?_
  refine Zy (iV g.Events) (Y_cls fun hx Hx => (Zl 2 (⟨b1, 0, none⟩) (iV g.Events) (Hx.cell 0 rfl rfl))) ?_
  refine Zy (.bool x1) (Y_cls fun hx Hx => (ZQ 42 #[iV g.Events, iV 1, iV 10] (w_impl_within hx g.Events 1 10 _ _ hx1))) ?_
  refine QRun_seq 9 [(1, pV b1), (11, .bool (x1 && (decide ((g.Places.length : Int) ≤ 30))))] ?_ ?_
  ·rcases Bool.eq_false_or_eq_true x1 with hb1 | hb1
   ·refine Zv x1 true hb1 ?_
    refine Zb [.pointer (some ⟨b1, 1, none⟩)] 4 ?_
    refine Zy (.slice agPlaces g.Places.length cgPlaces) (Y_cls fun hx Hx => (Zl 24 (⟨b1, 1, none⟩) (.slice agPlaces g.Places.length cgPlaces) (Hx.cell 0 rfl rfl))) ?_
    refine Zb [iV (g.Places.length : Int), .bool (decide ((g.Places.length : Int) ≤ 30))] 6 ?_
    refine QRun_bool (decide ((g.Places.length : Int) ≤ 30)) (x1 && (decide ((g.Places.length : Int) ≤ 30))) (by kernel_rfl) (fun w => by kernel_rfl) (by rw [hb1]; rfl) ?_
    exact Zd [1, 11]
   ·refine Zv x1 false hb1 ?_
    refine Zn ?_
    refine Zn ?_
    refine Zn ?_
    refine Zn ?_
    refine QRun_bool false (x1 && (decide ((g.Places.length : Int) ≤ 30))) (by kernel_rfl) (fun w => by kernel_rfl) (by rw [hb1]; rfl) ?_
    exact Zd [1, 11]
  refine QRun_seq 16 [(18, .bool x3)] ?_ ?_
  ·rcases Bool.eq_false_or_eq_true (x1 && (decide ((g.Places.length : Int) ≤ 30))) with hb2 | hb2
   ·refine Zv (x1 && (decide ((g.Places.length : Int) ≤ 30))) true hb2 ?_
    have gx3 := (M.ite_some gx3).1 hb2
    obtain ⟨x4, hx2, gx3⟩ := M.bind_some gx3
    have gx3 := M.ret_some gx3
    refine Zb [.pointer (some ⟨b1, 1, none⟩)] 10 ?_
    refine Zy (.slice agPlaces g.Places.length cgPlaces) (Y_cls fun hx Hx => (Zl 24 (⟨b1, 1, none⟩) (.slice agPlaces g.Places.length cgPlaces) (Hx.cell 0 rfl rfl))) ?_
    refine Zb [.func (.func 44) #[] #[pV b1]] 12 ?_
    refine Zy (.bool x4) (Y_call (f := 43) (args := #[.slice agPlaces g.Places.length cgPlaces, .func (.func 44) #[] #[pV b1]]) (v := .bool x4) (by kernel_rfl) fun hx Hx => (w_slices_ContainsFunc_Place_F_impl_IsEventGraph_1 hx g.Places agPlaces cgPlaces (rgPlaces.at Hx.ext) g agPlaces cgPlaces (rgPlaces.at Hx.ext) b1 (Hx.var 0 rfl) _ _ hx2).mono fun _ _ ⟨e, H'⟩ => ⟨e, Hx.call H' rfl⟩) ?_
    refine Zb [.bool (!x4)] 14 ?_
    refine Zv (!x4) x3 gx3 ?_
    exact Zd [18]
   ·refine Zv (x1 && (decide ((g.Places.length : Int) ≤ 30))) false hb2 ?_
    have gx3 := M.ret_some ((M.ite_some gx3).2 hb2)
    refine Zn ?_
    refine Zn ?_
    refine Zn ?_
    refine Zn ?_
    refine Zn ?_
    refine Zv false x3 gx3 ?_
    exact Zd [18]
  refine Zb [.bool x3] 16 ?_
  exact Zd [2]
 have H3 : Hold h h2 [box b1 26 [iV g.Events, .slice agPlaces g.Places.length cgPlaces]] := H2
 have hF := M.ret_some hF
 subst hF
 have H4 : Hold h h2 [] := H3.pk []
 exact Run_ret1 rfl (Zt (.bool x3)) ⟨rfl, H4⟩

theorem w_internal_strconv_log10Pow2 (h : Heap) (x_ : Int) (n : Nat) (r : Int) (hF : internal_strconv_log10Pow2 x_ n = some r) :
  Fn Tryd.prog 83 #[iV x_] h fun v h' => v = iV r ∧ h' = h := by
 unfold internal_strconv_log10Pow2 at hF
 refine Zo [iV x_] Tryd.func83 rfl (fun w0 _ => ?_)
 refine Zs ?_
 refine Zq [iV 0] [0] [(0, iV x_)] ?_
 refine Zs ?_
 obtain ⟨u1, hz1, hF⟩ := M.bind_some hF
 have hz1 := M.guard_some hz1
 refine Zg 4 [(2, iV (ishr .i64 (w64 (x_ * 78913)) 18))] ?_ ?_
 ·refine Zb [iV x_, iV (w64 (x_ * 78913))] 0 ?_
  refine Zy (iV (ishr .i64 (w64 (x_ * 78913)) 18)) (Y_shr (k := .i64) (x := w64 (x_ * 78913)) (kk := .u64) (y := 18) (by kernel_rfl) hz1) ?_
  refine Zb [iV (ishr .i64 (w64 (x_ * 78913)) 18)] 3 ?_
  exact Zd [2]
 have hF := M.ret_some hF
 subst hF
 exact Run_ret1 rfl (Zt (iV (ishr .i64 (w64 (x_ * 78913)) 18))) ⟨rfl, rfl⟩

theorem w_internal_strconv_bool2_n (h : Heap) (b : Bool) (n : Nat) (r : Int) (hF : internal_strconv_bool2_n b n = some r) :
  Fn Tryd.prog 85 #[.bool b] h fun v h' => v = iV r ∧ h' = h := by
 unfold internal_strconv_bool2_n at hF
 refine Zo [.bool b] Tryd.func85 rfl (fun w0 _ => ?_)
 refine Zs ?_
 refine Zq [iV 0] [0] [(0, .bool b)] ?_
 refine Zs ?_
 refine Zs ?_
 refine Zq [.bool b] [3] [(3, .bool b)] ?_
 refine Zc (b) (fun hb1 => ?_) (fun hb1 => ?_)
 ·have hF := (M.ite_some hF).1 hb1
  refine Zs ?_
  refine Zq [iV 1] [2] [(2, iV 1)] ?_
  have hF := M.ret_some hF
  subst hF
  exact Run_ret1 rfl (Zt (iV 1)) ⟨rfl, rfl⟩
 ·have hF := (M.ite_some hF).2 hb1
  refine Run_skip ?_
  refine Zs ?_
  refine Zq [iV 0] [2] [(2, iV 0)] ?_
  have hF := M.ret_some hF
  subst hF
  exact Run_ret1 rfl (Zt (iV 0)) ⟨rfl, rfl⟩

theorem w_internal_strconv_isPowerOfTwo (h : Heap) (x_ : Int) (n : Nat) (r : Bool) (hF : internal_strconv_isPowerOfTwo x_ n = some r) :
  Fn Tryd.prog 86 #[iV x_] h fun v h' => v = .bool r ∧ h' = h := by
 unfold internal_strconv_isPowerOfTwo at hF
 refine Zo [iV x_] Tryd.func86 rfl (fun w0 _ => ?_)
 refine Zs ?_
 refine Zq [.bool false] [0] [(0, iV x_)] ?_
 refine Zs ?_
 refine Zq [iV x_, iV x_, iV (w64 (x_ - 1)), iV (ibit .and .i64 x_ (w64 (x_ - 1))), .bool ((ibit .and .i64 x_ (w64 (x_ - 1))) == 0), .bool ((ibit .and .i64 x_ (w64 (x_ - 1))) == 0)] [2] [(2, .bool ((ibit .and .i64 x_ (w64 (x_ - 1))) == 0))] ?_
 have hF := M.ret_some hF
 subst hF
 exact Run_ret1 rfl (Zt (.bool ((ibit .and .i64 x_ (w64 (x_ - 1))) == 0))) ⟨rfl, rfl⟩

theorem w_strconv_FormatInt (h : Heap) (tb : Tab Tryd.prog h) (i : Int) (base : Int) (n : Nat) (r : ByteArray) (hF : strconv_FormatInt i base n = some r) :
  Fn Tryd.prog 54 #[iV i, iV base] h fun v h' => v = .string r ∧ Hold h h' [] := by
 obtain ⟨u, hu, hF⟩ := M.bind_some hF
 have hu := M.guard_some hu
 simp only [Bool.and_eq_true, decide_eq_true_eq] at hu
 have hF := M.ret_some hF
 subst hF
 obtain ⟨⟨h1, h2⟩, rfl⟩ := hu
 exact Fn_itoa layItoa rfl (by kernel_rfl) tb ⟨h1, h2⟩

theorem w_impl_decimal (h : Heap) (tb : Tab Tryd.prog h) (n_ : Int) (n : Nat) (r : ByteArray) (hF : impl_decimal n_ n = some r) :
  Fn Tryd.prog 32 #[iV n_] h fun v h' => v = .string r ∧ Hold h h' [] := by
 unfold impl_decimal at hF
 refine Zo [iV n_] Tryd.func32 rfl (fun w0 _ => ?_)
 have H0 := Hold.init h
 refine Zs ?_
 refine Zq [.string (⟨#[]⟩ : ByteArray)] [0] [(0, iV n_)] ?_
 refine Zs ?_
 obtain ⟨x1, hx1, hF⟩ := M.bind_some hF
 refine Run_regC (j := 3) (C := fun x => Hold h x []) (by kernel_rfl) H0 (L' := [(2, .string x1)]) ?_ (fun h1 H1 => ?_)
 ·refine Zb [iV n_] 0 ?_
  refine Zy (.string x1) (Y_call (f := 54) (args := #[iV n_, iV 10]) (v := .string x1) (by kernel_rfl) fun hx Hx => (w_strconv_FormatInt hx (tb.at Hx.ext) n_ 10 _ _ hx1).mono fun _ _ ⟨e, H'⟩ => ⟨e, Hx.call H' rfl⟩) ?_
  refine Zb [.string x1] 2 ?_
  exact Zd [2]
 have H2 : Hold h h1 [] := H1
 have hF := M.ret_some hF
 subst hF
 exact Run_ret1 rfl (Zt (.string x1)) ⟨rfl, H2⟩

theorem w_impl_placeText (h : Heap) (tb : Tab Tryd.prog h) (p : TPlace) (n : Nat) (r : ByteArray) (hF : impl_placeText p n = some r) :
  Fn Tryd.prog 33 #[.agg #[iV p.From, iV p.To, iV p.Delay, iV p.Tokens]] h fun v h' => v = .string r ∧ Hold h h' [] := by
 unfold impl_placeText at hF
 refine Zo [.agg #[iV p.From, iV p.To, iV p.Delay, iV p.Tokens]] Tryd.func33 rfl (fun w0 _ => ?_)
 have H0 := Hold.init h
 refine Zs ?_
 refine Run_ops ?_
 refine Ze ?_
 refine E_box (ty := 28) (cs := [iV p.From, iV p.To, iV p.Delay, iV p.Tokens]) H0 (fun w => by kernel_rfl) (fun b1 h1 H1 => ?_)
 refine Zr [.string (⟨#[]⟩ : ByteArray)] 1 ?_
 refine Zx ?_
 refine Zk [1] [(1, pV b1)] ?_
 refine Zs ?_
 obtain ⟨x1, hx1, hF⟩ := M.bind_some hF
 obtain ⟨x2, hx2, hF⟩ := M.bind_some hF
 obtain ⟨x3, hx3, hF⟩ := M.bind_some hF
 obtain ⟨x4, hx4, hF⟩ := M.bind_some hF
 obtain ⟨x5, hx5, hF⟩ := M.bind_some hF
 obtain ⟨x6, hx6, hF⟩ := M.bind_some hF
 obtain ⟨x7, hx7, hF⟩ := M.bind_some hF
 obtain ⟨x8, hx8, hF⟩ := M.bind_some hF
 obtain ⟨x9, hx9, hF⟩ := M.bind_some hF
 obtain ⟨x10, hx10, hF⟩ := M.bind_some hF
 refine Run_drawC (j := 19) (C := fun x => Hold h x [box b1 28 [iV p.From, iV p.To, iV p.Delay, iV p.Tokens]]) mixed (by kernel_rfl) (by kernel_rfl) H1 (L' := [(2, .string x10)]) ?_ (fun h2 H2 => ?_)
 ·refine Zb [pV b1] 0 ?_
  refine Zy (iV p.From) (Y_cls fun hx Hx => (Zl 2 (⟨b1, 0, none⟩) (iV p.From) (Hx.cell 0 rfl rfl))) ?_
  refine Zy (.string x1) (Y_call (f := 32) (args := #[iV p.From]) (v := .string x1) (by kernel_rfl) fun hx Hx => (w_impl_decimal hx (tb.at Hx.ext) p.From _ _ hx1).mono fun _ _ ⟨e, H'⟩ => ⟨e, Hx.call H' rfl⟩) ?_
  refine Zy (.string x2) (Y_cls fun hx Hx => (Y_cat hx2 (by kernel_rfl))) ?_
  refine Zb [.pointer (some ⟨b1, 1, none⟩)] 4 ?_
  refine Zy (iV p.To) (Y_cls fun hx Hx => (Zl 2 (⟨b1, 1, none⟩) (iV p.To) (Hx.cell 0 rfl rfl))) ?_
  refine Zy (.string x3) (Y_call (f := 32) (args := #[iV p.To]) (v := .string x3) (by kernel_rfl) fun hx Hx => (w_impl_decimal hx (tb.at Hx.ext) p.To _ _ hx3).mono fun _ _ ⟨e, H'⟩ => ⟨e, Hx.call H' rfl⟩) ?_
  refine Zy (.string x4) (Y_cls fun hx Hx => (Y_cat hx4 (by kernel_rfl))) ?_
  refine Zy (.string x5) (Y_cls fun hx Hx => (Y_cat hx5 (by kernel_rfl))) ?_
  refine Zb [.pointer (some ⟨b1, 2, none⟩)] 9 ?_
  refine Zy (iV p.Delay) (Y_cls fun hx Hx => (Zl 2 (⟨b1, 2, none⟩) (iV p.Delay) (Hx.cell 0 rfl rfl))) ?_
  refine Zy (.string x6) (Y_call (f := 32) (args := #[iV p.Delay]) (v := .string x6) (by kernel_rfl) fun hx Hx => (w_impl_decimal hx (tb.at Hx.ext) p.Delay _ _ hx6).mono fun _ _ ⟨e, H'⟩ => ⟨e, Hx.call H' rfl⟩) ?_
  refine Zy (.string x7) (Y_cls fun hx Hx => (Y_cat hx7 (by kernel_rfl))) ?_
  refine Zy (.string x8) (Y_cls fun hx Hx => (Y_cat hx8 (by kernel_rfl))) ?_
  refine Zb [.pointer (some ⟨b1, 3, none⟩)] 14 ?_
  refine Zy (iV p.Tokens) (Y_cls fun hx Hx => (Zl 2 (⟨b1, 3, none⟩) (iV p.Tokens) (Hx.cell 0 rfl rfl))) ?_
  refine Zy (.string x9) (Y_call (f := 32) (args := #[iV p.Tokens]) (v := .string x9) (by kernel_rfl) fun hx Hx => (w_impl_decimal hx (tb.at Hx.ext) p.Tokens _ _ hx9).mono fun _ _ ⟨e, H'⟩ => ⟨e, Hx.call H' rfl⟩) ?_
  refine Zy (.string x10) (Y_cls fun hx Hx => (Y_cat hx10 (by kernel_rfl))) ?_
  refine Zb [.string x10] 18 ?_
  exact Zd [2]
 have H3 : Hold h h2 [box b1 28 [iV p.From, iV p.To, iV p.Delay, iV p.Tokens]] := H2
 have hF := M.ret_some hF
 subst hF
 have H4 : Hold h h2 [] := H3.pk []
 exact Run_ret1 rfl (Zt (.string x10)) ⟨rfl, H4⟩

theorem w_impl_GraphText (h : Heap) (tb : Tab Tryd.prog h) (g : TGraph) (agPlaces : Option Addr) (cgPlaces : Nat) (rgPlaces : Rd cd28 h (Lt h) agPlaces cgPlaces g.Places) (n : Nat) (r : ByteArray) (hF : impl_GraphText g n = some r) :
  Fn Tryd.prog 10 #[.agg #[iV g.Events, .slice agPlaces g.Places.length cgPlaces]] h fun v h' => v = .string r ∧ Hold h h' [] := by
 unfold impl_GraphText at hF
 refine Zo [.agg #[iV g.Events, .slice agPlaces g.Places.length cgPlaces]] Tryd.func10 rfl (fun w0 _ => ?_)
 have H0 := Hold.init h
 refine Zs ?_
 refine Run_ops ?_
 refine Ze ?_
 refine E_box (ty := 26) (cs := [iV g.Events, .slice agPlaces g.Places.length cgPlaces]) H0 (fun w => by kernel_rfl) (fun b1 h1 H1 => ?_)
 refine Zr [.string (⟨#[]⟩ : ByteArray)] 1 ?_
 refine Zx ?_
 refine Zk [1] [(1, pV b1)] ?_
 refine Zs ?_
 refine Zs ?_
 obtain ⟨x1, hx1, hF⟩ := M.bind_some hF
 refine Run_regC (j := 3) (C := fun x => Hold h x [box b1 26 [iV g.Events, .slice agPlaces g.Places.length cgPlaces]]) (by kernel_rfl) H1 (L' := [(1, pV b1), (8, .bool (!x1))]) ?_ (fun h2 H2 => ?_)
 ·refine Zy (.agg #[iV g.Events, .slice agPlaces g.Places.length cgPlaces]) (Y_cls fun hx Hx => (Y_loadA (t := 26) (n := 2) (p := ⟨b1, 0, none⟩) (cs := [iV g.Events, .slice agPlaces g.Places.length cgPlaces]) (by kernel_rfl) (fun w => by kernel_rfl) (by kernel_rfl) rfl (Hx.cells (n := 2) (off := 0) 0 rfl rfl))) ?_
  refine Zy (.bool x1) (Y_call (f := 16) (args := #[.agg #[iV g.Events, .slice agPlaces g.Places.length cgPlaces]]) (v := .bool x1) (by kernel_rfl) fun hx Hx => (w_impl_IsEventGraph hx g agPlaces cgPlaces (rgPlaces.at Hx.ext) _ _ hx1).mono fun _ _ ⟨e, H'⟩ => ⟨e, Hx.call H' rfl⟩) ?_
  refine Zb [.bool (!x1)] 2 ?_
  exact Zd [1, 8]
 have H3 : Hold h h2 [box b1 26 [iV g.Events, .slice agPlaces g.Places.length cgPlaces]] := H2
 refine Zc (!x1) (fun hb1 => ?_) (fun hb1 => ?_)
 ·have hF := (M.ite_some hF).1 hb1
  refine Zs ?_
  refine Zq [.string (⟨#[]⟩ : ByteArray)] [2] [(2, .string (⟨#[]⟩ : ByteArray))] ?_
  have hF := M.ret_some hF
  subst hF
  have H4 : Hold h h2 [] := H3.pk []
  exact Run_ret1 rfl (Zt (.string (⟨#[]⟩ : ByteArray))) ⟨rfl, H4⟩
 ·have hF := (M.ite_some hF).2 hb1
  refine Run_skip ?_
  refine Zs ?_
  obtain ⟨x2, hx2, hF⟩ := M.bind_some hF
  refine Run_regC (j := 4) (C := fun x => Hold h x [box b1 26 [iV g.Events, .slice agPlaces g.Places.length cgPlaces]]) (by kernel_rfl) H3 (L' := [(1, pV b1), (3, .string x2)]) ?_ (fun h3 H5 => ?_)
  ·refine Zb [pV b1] 0 ?_
   refine Zy (iV g.Events) (Y_cls fun hx Hx => (Zl 2 (⟨b1, 0, none⟩) (iV g.Events) (Hx.cell 0 rfl rfl))) ?_
   refine Zy (.string x2) (Y_call (f := 32) (args := #[iV g.Events]) (v := .string x2) (by kernel_rfl) fun hx Hx => (w_impl_decimal hx (tb.at Hx.ext) g.Events _ _ hx2).mono fun _ _ ⟨e, H'⟩ => ⟨e, Hx.call H' rfl⟩) ?_
   refine Zb [.string x2] 3 ?_
   exact Zd [1, 3]
  have H6 : Hold h h3 [box b1 26 [iV g.Events, .slice agPlaces g.Places.length cgPlaces]] := H5
  refine Zs ?_
  refine Zs ?_
  refine Zg 4 [(3, .string x2), (13, .slice agPlaces g.Places.length cgPlaces), (14, iV (g.Places.length : Int)), (15, iV 0)] ?_ ?_
  ·refine Zb [.pointer (some ⟨b1, 1, none⟩)] 0 ?_
   refine Zy (.slice agPlaces g.Places.length cgPlaces) (Zl 24 (⟨b1, 1, none⟩) (.slice agPlaces g.Places.length cgPlaces) (H6.cell 0 rfl rfl)) ?_
   refine Zb [iV (g.Places.length : Int), iV 0] 2 ?_
   exact Zd [3, 13, 14, 15]
  obtain ⟨x3, gx3, hF⟩ := M.bind_some hF
  obtain ⟨hloy1, hhiy1, gx3⟩ := M.for_start gx3
  refine Run_join (fun L' h' => L' = [(3, .string x3)] ∧ Hold h h' []) ?_ ?_
  ·rintro _ h5 ⟨rfl, H8⟩
   refine Zs ?_
   refine Zq [.string x3, .string x3] [2] [(2, .string x3)] ?_
   have hF := M.ret_some hF
   subst hF
   exact Run_ret1 rfl (Zt (.string x3)) ⟨rfl, H8⟩
  ·refine Run_block ?_
   have H14 : Hold h h3 [] := H6.pk []
   refine Zk [3, 13, 14, 15] [(3, .string x2), (13, .slice agPlaces g.Places.length cgPlaces), (14, iV (g.Places.length : Int)), (15, iV 0)] ?_
   refine Run_loop (fun m L' h' => ∃ (i1 : Int) (s1 : ByteArray), 0 ≤ i1 ∧ M.forN (g.Places.length : Int) _ _ n m i1 s1 = some x3 ∧ L' = [(3, .string s1), (13, .slice agPlaces g.Places.length cgPlaces), (14, iV (g.Places.length : Int)), (15, iV i1)] ∧ Hold h h' []) ((g.Places.length : Int) - 0 : Int).toNat ⟨0, x2, Int.le_refl _, gx3, rfl, H14⟩ ?_
   rintro my1 _ h4 ⟨i1, s1, hloy1', gx3, rfl, H7⟩
   refine Zs ?_
   refine Zq [.bool (decide (i1 < (g.Places.length : Int)))] [3, 13, 14, 15, 16] [(3, .string s1), (13, .slice agPlaces g.Places.length cgPlaces), (14, iV (g.Places.length : Int)), (15, iV i1), (16, .bool (decide (i1 < (g.Places.length : Int))))] ?_
   refine Zs ?_
   refine Zc (decide (i1 < (g.Places.length : Int))) (fun hb2 => ?_) (fun hb2 => ?_)
   ·obtain ⟨my1, y1, rfl, hB1, hgoy1, houty1⟩ := M.for_go gx3 hb2
    have hlty1 := of_decide_eq_true hb2
    refine Run_skip ?_
    refine Zs ?_
    refine Run_block ?_
    refine Zs ?_
    refine Run_ops ?_
    obtain ⟨x4, hx3, hB1⟩ := M.bind_some hB1
    obtain ⟨hx3l, hx3u, hx3⟩ := M.idx_some hx3
    refine Zz (.pointer (some (adr agPlaces (i1.toNat * 4)))) (Zi 24 28 4 (agPlaces) (g.Places.length) (cgPlaces) .i64 (i1) Tryd.underlying24 ((rgPlaces.at H7.ext).cell hx3).1 hx3l hx3u) ?_
    refine Zz (.agg #[iV x4.From, iV x4.To, iV x4.Delay, iV x4.Tokens]) (Y_loadA (t := 28) (n := 4) (p := adr agPlaces (i1.toNat * 4)) (cs := [iV x4.From, iV x4.To, iV x4.Delay, iV x4.Tokens]) (by kernel_rfl) (fun w => by kernel_rfl) (by kernel_rfl) rfl (cd28_elem (rgPlaces.at H7.ext) hx3)) ?_
    refine Ze ?_
    refine E_box (ty := 28) (cs := [iV 0, iV 0, iV 0, iV 0]) H7 (fun w => by kernel_rfl) (fun b2 h6 H9 => ?_)
    refine Ze ?_
    refine ZP 28 0 [iV x4.From, iV x4.To, iV x4.Delay, iV x4.Tokens] (.agg #[iV x4.From, iV x4.To, iV x4.Delay, iV x4.Tokens]) H9 (fun h7 H10 => ?_)
    refine Zx ?_
    refine Zk [3, 5, 13, 14, 15] [(3, .string s1), (5, pV b2), (13, .slice agPlaces g.Places.length cgPlaces), (14, iV (g.Places.length : Int)), (15, iV i1)] ?_
    obtain ⟨x5, hx4, hB1⟩ := M.bind_some hB1
    obtain ⟨x6, hx5, hB1⟩ := M.bind_some hB1
    obtain ⟨x7, hx6, hB1⟩ := M.bind_some hB1
    refine Run_regC (j := 6) (C := fun x => Hold h x [box b2 28 [iV x4.From, iV x4.To, iV x4.Delay, iV x4.Tokens]]) (by kernel_rfl) H10 (L' := [(3, .string x7), (13, .slice agPlaces g.Places.length cgPlaces), (14, iV (g.Places.length : Int)), (15, iV i1)]) ?_ (fun h8 H11 => ?_)
    ·refine Zb [.string s1] 0 ?_
     refine Zy (.agg #[iV x4.From, iV x4.To, iV x4.Delay, iV x4.Tokens]) (Y_cls fun hx Hx => (Y_loadA (t := 28) (n := 4) (p := ⟨b2, 0, none⟩) (cs := [iV x4.From, iV x4.To, iV x4.Delay, iV x4.Tokens]) (by kernel_rfl) (fun w => by kernel_rfl) (by kernel_rfl) rfl (Hx.cells (n := 4) (off := 0) 0 rfl rfl))) ?_
     refine Zy (.string x5) (Y_call (f := 33) (args := #[.agg #[iV x4.From, iV x4.To, iV x4.Delay, iV x4.Tokens]]) (v := .string x5) (by kernel_rfl) fun hx Hx => (w_impl_placeText hx (tb.at Hx.ext) x4 _ _ hx4).mono fun _ _ ⟨e, H'⟩ => ⟨e, Hx.call H' rfl⟩) ?_
     refine Zy (.string x6) (Y_cls fun hx Hx => (Y_cat hx5 (by kernel_rfl))) ?_
     refine Zy (.string x7) (Y_cls fun hx Hx => (Y_cat hx6 (by kernel_rfl))) ?_
     refine Zb [.string x7] 5 ?_
     exact Zd [3, 13, 14, 15]
    have H12 : Hold h h8 [box b2 28 [iV x4.From, iV x4.To, iV x4.Delay, iV x4.Tokens]] := H11
    refine Run_blk ?_
    refine Zg 2 [(3, .string x7), (13, .slice agPlaces g.Places.length cgPlaces), (14, iV (g.Places.length : Int)), (15, iV (i1 + 1))] ?_ ?_
    ·refine Zy (iV (i1 + 1)) (Y_eq (v := iV (w64 (i1 + 1))) (Y_pure (fun w => by kernel_rfl)) (by rw [w64_eq _ (by omega)])) ?_
     refine Zb [iV (i1 + 1)] 1 ?_
     exact Zd [3, 13, 14, 15]
    have H13 : Hold h h8 [] := H12.pk []
    have hB1 := M.ret_some hB1
    have gx3 := hgoy1 _ hB1.symm
    exact Za [3, 13, 14, 15] my1 ⟨i1 + 1, x7, by omega, gx3, rfl, H13⟩
   ·have gx3 := M.for_end gx3 hb2
    subst gx3
    refine Run_exit (k' := _) rfl ?_
    exact Zf [3] ⟨rfl, H7⟩

theorem w_laws_eqPlace (h : Heap) (a_ : TPlace) (b : TPlace) (n : Nat) (r : Bool) (hF : laws_eqPlace a_ b n = some r) :
  Fn Tryd.prog 61 #[.agg #[iV a_.From, iV a_.To, iV a_.Delay, iV a_.Tokens], .agg #[iV b.From, iV b.To, iV b.Delay, iV b.Tokens]] h fun v h' => v = .bool r ∧ Hold h h' [] := by
 unfold laws_eqPlace at hF
 refine Zo [.agg #[iV a_.From, iV a_.To, iV a_.Delay, iV a_.Tokens], .agg #[iV b.From, iV b.To, iV b.Delay, iV b.Tokens]] Tryd.func61 rfl (fun w0 _ => ?_)
 have H0 := Hold.init h
 refine Zs ?_
 refine Run_ops ?_
 refine Ze ?_
 refine E_box (ty := 28) (cs := [iV a_.From, iV a_.To, iV a_.Delay, iV a_.Tokens]) H0 (fun w => by kernel_rfl) (fun b1 h1 H1 => ?_)
 refine Ze ?_
 refine E_box (ty := 28) (cs := [iV b.From, iV b.To, iV b.Delay, iV b.Tokens]) H1 (fun w => by kernel_rfl) (fun b2 h2 H2 => ?_)
 refine Zr [.bool false] 2 ?_
 refine Zx ?_
 refine Zk [2, 3] [(2, pV b1), (3, pV b2)] ?_
 refine Zs ?_
 refine Zs ?_
 refine Zg 5 [(2, pV b1), (3, pV b2), (9, .bool (a_.From != b.From))] ?_ ?_
 ·refine Zb [pV b1] 0 ?_
  refine Zy (iV a_.From) (Zl 2 (⟨b1, 0, none⟩) (iV a_.From) (H2.cell 1 rfl rfl)) ?_
  refine Zb [pV b2] 2 ?_
  refine Zy (iV b.From) (Zl 2 (⟨b2, 0, none⟩) (iV b.From) (H2.cell 0 rfl rfl)) ?_
  refine Zb [.bool (a_.From != b.From)] 4 ?_
  exact Zd [2, 3, 9]
 refine Zc (a_.From != b.From) (fun hb1 => ?_) (fun hb1 => ?_)
 ·have hF := (M.ite_some hF).1 hb1
  refine Zs ?_
  refine Zq [.bool false] [4] [(4, .bool false)] ?_
  have hF := M.ret_some hF
  subst hF
  have H3 : Hold h h2 [] := H2.pk []
  exact Run_ret1 rfl (Zt (.bool false)) ⟨rfl, H3⟩
 ·have hF := (M.ite_some hF).2 hb1
  refine Run_skip ?_
  refine Zs ?_
  refine Zs ?_
  refine Zg 5 [(2, pV b1), (3, pV b2), (14, .bool (a_.To != b.To))] ?_ ?_
  ·refine Zb [.pointer (some ⟨b1, 1, none⟩)] 0 ?_
   refine Zy (iV a_.To) (Zl 2 (⟨b1, 1, none⟩) (iV a_.To) (H2.cell 1 rfl rfl)) ?_
   refine Zb [.pointer (some ⟨b2, 1, none⟩)] 2 ?_
   refine Zy (iV b.To) (Zl 2 (⟨b2, 1, none⟩) (iV b.To) (H2.cell 0 rfl rfl)) ?_
   refine Zb [.bool (a_.To != b.To)] 4 ?_
   exact Zd [2, 3, 14]
  refine Zc (a_.To != b.To) (fun hb2 => ?_) (fun hb2 => ?_)
  ·have hF := (M.ite_some hF).1 hb2
   refine Zs ?_
   refine Zq [.bool false] [4] [(4, .bool false)] ?_
   have hF := M.ret_some hF
   subst hF
   have H4 : Hold h h2 [] := H2.pk []
   exact Run_ret1 rfl (Zt (.bool false)) ⟨rfl, H4⟩
  ·have hF := (M.ite_some hF).2 hb2
   refine Run_skip ?_
   refine Zs ?_
   refine Zs ?_
   refine Zg 5 [(2, pV b1), (3, pV b2), (19, .bool (a_.Delay != b.Delay))] ?_ ?_
   ·refine Zb [.pointer (some ⟨b1, 2, none⟩)] 0 ?_
    refine Zy (iV a_.Delay) (Zl 2 (⟨b1, 2, none⟩) (iV a_.Delay) (H2.cell 1 rfl rfl)) ?_
    refine Zb [.pointer (some ⟨b2, 2, none⟩)] 2 ?_
    refine Zy (iV b.Delay) (Zl 2 (⟨b2, 2, none⟩) (iV b.Delay) (H2.cell 0 rfl rfl)) ?_
    refine Zb [.bool (a_.Delay != b.Delay)] 4 ?_
    exact Zd [2, 3, 19]
   refine Zc (a_.Delay != b.Delay) (fun hb3 => ?_) (fun hb3 => ?_)
   ·have hF := (M.ite_some hF).1 hb3
    refine Zs ?_
    refine Zq [.bool false] [4] [(4, .bool false)] ?_
    have hF := M.ret_some hF
    subst hF
    have H5 : Hold h h2 [] := H2.pk []
    exact Run_ret1 rfl (Zt (.bool false)) ⟨rfl, H5⟩
   ·have hF := (M.ite_some hF).2 hb3
    refine Run_skip ?_
    refine Zs ?_
    refine Zs ?_
    refine Zg 5 [(24, .bool (a_.Tokens != b.Tokens))] ?_ ?_
    ·refine Zb [.pointer (some ⟨b1, 3, none⟩)] 0 ?_
     refine Zy (iV a_.Tokens) (Zl 2 (⟨b1, 3, none⟩) (iV a_.Tokens) (H2.cell 1 rfl rfl)) ?_
     refine Zb [.pointer (some ⟨b2, 3, none⟩)] 2 ?_
     refine Zy (iV b.Tokens) (Zl 2 (⟨b2, 3, none⟩) (iV b.Tokens) (H2.cell 0 rfl rfl)) ?_
     refine Zb [.bool (a_.Tokens != b.Tokens)] 4 ?_
     exact Zd [24]
    refine Zc (a_.Tokens != b.Tokens) (fun hb4 => ?_) (fun hb4 => ?_)
    ·have hF := (M.ite_some hF).1 hb4
     refine Zs ?_
     refine Zq [.bool false] [4] [(4, .bool false)] ?_
     have hF := M.ret_some hF
     subst hF
     have H6 : Hold h h2 [] := H2.pk []
     exact Run_ret1 rfl (Zt (.bool false)) ⟨rfl, H6⟩
    ·have hF := (M.ite_some hF).2 hb4
     refine Run_skip ?_
     refine Zs ?_
     refine Zq [.bool true] [4] [(4, .bool true)] ?_
     have hF := M.ret_some hF
     subst hF
     have H7 : Hold h h2 [] := H2.pk []
     exact Run_ret1 rfl (Zt (.bool true)) ⟨rfl, H7⟩

theorem w_laws_eqPlaceS (h : Heap) (a_ : List TPlace) (aa_ : Option Addr) (ca_ : Nat) (ra_ : Rd cd28 h (Lt h) aa_ ca_ a_) (b : List TPlace) (ab : Option Addr) (cb : Nat) (rb : Rd cd28 h (Lt h) ab cb b) (n : Nat) (r : Bool) (hF : laws_eqPlaceS a_ b n = some r) :
  Fn Tryd.prog 48 #[.slice aa_ a_.length ca_, .slice ab b.length cb] h fun v h' => v = .bool r ∧ Hold h h' [] := by
 unfold laws_eqPlaceS at hF
 refine Zo [.slice aa_ a_.length ca_, .slice ab b.length cb] Tryd.func48 rfl (fun w0 _ => ?_)
 have H0 := Hold.init h
 refine Zs ?_
 refine Zq [.bool false] [0, 1] [(0, .slice aa_ a_.length ca_), (1, .slice ab b.length cb)] ?_
 refine Zs ?_
 refine Zs ?_
 refine Zq [.slice aa_ a_.length ca_, iV (a_.length : Int), .slice ab b.length cb, iV (b.length : Int), .bool ((a_.length : Int) != (b.length : Int))] [0, 1, 10] [(0, .slice aa_ a_.length ca_), (1, .slice ab b.length cb), (10, .bool ((a_.length : Int) != (b.length : Int)))] ?_
 refine Zc ((a_.length : Int) != (b.length : Int)) (fun hb1 => ?_) (fun hb1 => ?_)
 ·have hF := (M.ite_some hF).1 hb1
  refine Zs ?_
  refine Zq [.bool false] [4] [(4, .bool false)] ?_
  have hF := M.ret_some hF
  subst hF
  exact Run_ret1 rfl (Zt (.bool false)) ⟨rfl, H0⟩
 ·have hF := (M.ite_some hF).2 hb1
  refine Run_skip ?_
  refine Zs ?_
  refine Zs ?_
  refine Zq [iV 0] [0, 1, 5] [(0, .slice aa_ a_.length ca_), (1, .slice ab b.length cb), (5, iV 0)] ?_
  obtain ⟨x1, gx1, hF⟩ := M.bind_some hF
  obtain ⟨hloy1, hhiy1, gx1⟩ := M.for_start gx1
  refine Run_join (fun L' h' => ∃ (s2 : Unit), x1 = .inl s2 ∧ L' = [] ∧ Hold h h' []) ?_ ?_
  ·rintro _ h2 ⟨s2, es2, rfl, H2⟩
   have hF := M.cont_inl' hF es2
   refine Zs ?_
   refine Zq [.bool true] [4] [(4, .bool true)] ?_
   have hF := M.ret_some hF
   subst hF
   exact Run_ret1 rfl (Zt (.bool true)) ⟨rfl, H2⟩
  ·refine Run_block ?_
   refine Zk [0, 1, 5] [(0, .slice aa_ a_.length ca_), (1, .slice ab b.length cb), (5, iV 0)] ?_
   refine Run_loop (fun m L' h' => ∃ (i1 : Int) (s1 : Unit), 0 ≤ i1 ∧ M.forN (a_.length : Int) _ _ n m i1 s1 = some x1 ∧ L' = [(0, .slice aa_ a_.length ca_), (1, .slice ab b.length cb), (5, iV i1)] ∧ Hold h h' []) ((a_.length : Int) - 0 : Int).toNat ⟨0, (), Int.le_refl _, gx1, rfl, H0⟩ ?_
   rintro my1 _ h1 ⟨i1, s1, hloy1', gx1, rfl, H1⟩
   refine Zs ?_
   refine Zs ?_
   refine Zq [iV i1, .slice aa_ a_.length ca_, iV (a_.length : Int), .bool (decide (i1 < (a_.length : Int)))] [0, 1, 5, 14] [(0, .slice aa_ a_.length ca_), (1, .slice ab b.length cb), (5, iV i1), (14, .bool (decide (i1 < (a_.length : Int))))] ?_
   refine Zc (decide (i1 < (a_.length : Int))) (fun hb2 => ?_) (fun hb2 => ?_)
   ·obtain ⟨my1, y1, rfl, hB1, hgoy1, houty1⟩ := M.for_go gx1 hb2
    have hlty1 := of_decide_eq_true hb2
    refine Run_skip ?_
    refine Zs ?_
    refine Run_block ?_
    refine Zs ?_
    obtain ⟨x2, hx1, hB1⟩ := M.bind_some hB1
    obtain ⟨hx1l, hx1u, hx1⟩ := M.idx_some hx1
    obtain ⟨x3, hx2, hB1⟩ := M.bind_some hB1
    obtain ⟨hx2l, hx2u, hx2⟩ := M.idx_some hx2
    obtain ⟨x4, hx3, hB1⟩ := M.bind_some hB1
    refine Run_drawC (j := 10) (C := fun x => Hold h x []) mixed (by kernel_rfl) (by kernel_rfl) H1 (L' := [(0, .slice aa_ a_.length ca_), (1, .slice ab b.length cb), (5, iV i1), (26, .bool (!x4))]) ?_ (fun h3 H3 => ?_)
    ·refine Zb [.slice aa_ a_.length ca_, iV i1] 0 ?_
     refine Zy (.pointer (some (adr aa_ (i1.toNat * 4)))) (Y_cls fun hx Hx => (Zi 24 28 4 (aa_) (a_.length) (ca_) .i64 (i1) Tryd.underlying24 ((ra_.at H1.ext).cell hx1).1 hx1l hx1u)) ?_
     refine Zy (.agg #[iV x2.From, iV x2.To, iV x2.Delay, iV x2.Tokens]) (Y_cls fun hx Hx => (Y_loadA (t := 28) (n := 4) (p := adr aa_ (i1.toNat * 4)) (cs := [iV x2.From, iV x2.To, iV x2.Delay, iV x2.Tokens]) (by kernel_rfl) (fun w => by kernel_rfl) (by kernel_rfl) rfl (cd28_elem (ra_.at Hx.ext) hx1))) ?_
     refine Zb [.slice ab b.length cb, iV i1] 4 ?_
     refine Zy (.pointer (some (adr ab (i1.toNat * 4)))) (Y_cls fun hx Hx => (Zi 24 28 4 (ab) (b.length) (cb) .i64 (i1) Tryd.underlying24 ((rb.at H1.ext).cell hx2).1 hx2l hx2u)) ?_
     refine Zy (.agg #[iV x3.From, iV x3.To, iV x3.Delay, iV x3.Tokens]) (Y_cls fun hx Hx => (Y_loadA (t := 28) (n := 4) (p := adr ab (i1.toNat * 4)) (cs := [iV x3.From, iV x3.To, iV x3.Delay, iV x3.Tokens]) (by kernel_rfl) (fun w => by kernel_rfl) (by kernel_rfl) rfl (cd28_elem (rb.at Hx.ext) hx2))) ?_
     refine Zy (.bool x4) (Y_call (f := 61) (args := #[.agg #[iV x2.From, iV x2.To, iV x2.Delay, iV x2.Tokens], .agg #[iV x3.From, iV x3.To, iV x3.Delay, iV x3.Tokens]]) (v := .bool x4) (by kernel_rfl) fun hx Hx => (w_laws_eqPlace hx x2 x3 _ _ hx3).mono fun _ _ ⟨e, H'⟩ => ⟨e, Hx.call H' rfl⟩) ?_
     refine Zb [.bool (!x4)] 9 ?_
     exact Zd [0, 1, 5, 26]
    have H4 : Hold h h3 [] := H3
    refine Zc (!x4) (fun hb3 => ?_) (fun hb3 => ?_)
    ·have hB1 := (M.ite_some hB1).1 hb3
     refine Zs ?_
     refine Zq [.bool false] [4] [(4, .bool false)] ?_
     have hB1 := M.ret_some hB1
     have gx1 := houty1 _ hB1.symm
     have hF := M.cont_inr' hF gx1
     have hF := M.ret_some hF
     subst hF
     exact Run_ret1 rfl (Zt (.bool false)) ⟨rfl, H4⟩
    ·have hB1 := (M.ite_some hB1).2 hb3
     refine Run_skip ?_
     refine Run_blk ?_
     refine Zg 3 [(0, .slice aa_ a_.length ca_), (1, .slice ab b.length cb), (5, iV (i1 + 1))] ?_ ?_
     ·refine Zb [iV i1] 0 ?_
      refine Zy (iV (i1 + 1)) (Y_eq (v := iV (w64 (i1 + 1))) (Y_pure (fun w => by kernel_rfl)) (by rw [w64_eq _ (by omega)])) ?_
      refine Zb [iV (i1 + 1)] 2 ?_
      exact Zd [0, 1, 5]
     have hB1 := M.ret_some hB1
     have gx1 := hgoy1 _ hB1.symm
     exact Za [0, 1, 5] my1 ⟨i1 + 1, (), by omega, gx1, rfl, H4⟩
   ·have gx1 := M.for_end gx1 hb2
    subst gx1
    refine Run_exit (k' := _) rfl ?_
    exact Zf [] ⟨(), rfl, rfl, H1⟩

theorem w_laws_eqEventGraph (h : Heap) (a_ : TGraph) (aa_Places : Option Addr) (ca_Places : Nat) (ra_Places : Rd cd28 h (Lt h) aa_Places ca_Places a_.Places) (b : TGraph) (abPlaces : Option Addr) (cbPlaces : Nat) (rbPlaces : Rd cd28 h (Lt h) abPlaces cbPlaces b.Places) (n : Nat) (r : Bool) (hF : laws_eqEventGraph a_ b n = some r) :
  Fn Tryd.prog 20 #[.agg #[iV a_.Events, .slice aa_Places a_.Places.length ca_Places], .agg #[iV b.Events, .slice abPlaces b.Places.length cbPlaces]] h fun v h' => v = .bool r ∧ Hold h h' [] := by
 unfold laws_eqEventGraph at hF
 refine Zo [.agg #[iV a_.Events, .slice aa_Places a_.Places.length ca_Places], .agg #[iV b.Events, .slice abPlaces b.Places.length cbPlaces]] Tryd.func20 rfl (fun w0 _ => ?_)
 have H0 := Hold.init h
 refine Zs ?_
 refine Run_ops ?_
 refine Ze ?_
 refine E_box (ty := 26) (cs := [iV a_.Events, .slice aa_Places a_.Places.length ca_Places]) H0 (fun w => by kernel_rfl) (fun b1 h1 H1 => ?_)
 refine Ze ?_
 refine E_box (ty := 26) (cs := [iV b.Events, .slice abPlaces b.Places.length cbPlaces]) H1 (fun w => by kernel_rfl) (fun b2 h2 H2 => ?_)
 refine Zr [.bool false] 2 ?_
 refine Zx ?_
 refine Zk [2, 3] [(2, pV b1), (3, pV b2)] ?_
 refine Zs ?_
 refine Zs ?_
 refine Zg 5 [(2, pV b1), (3, pV b2), (9, .bool (a_.Events != b.Events))] ?_ ?_
 ·refine Zb [pV b1] 0 ?_
  refine Zy (iV a_.Events) (Zl 2 (⟨b1, 0, none⟩) (iV a_.Events) (H2.cell 1 rfl rfl)) ?_
  refine Zb [pV b2] 2 ?_
  refine Zy (iV b.Events) (Zl 2 (⟨b2, 0, none⟩) (iV b.Events) (H2.cell 0 rfl rfl)) ?_
  refine Zb [.bool (a_.Events != b.Events)] 4 ?_
  exact Zd [2, 3, 9]
 refine Zc (a_.Events != b.Events) (fun hb1 => ?_) (fun hb1 => ?_)
 ·have hF := (M.ite_some hF).1 hb1
  refine Zs ?_
  refine Zq [.bool false] [4] [(4, .bool false)] ?_
  have hF := M.ret_some hF
  subst hF
  have H3 : Hold h h2 [] := H2.pk []
  exact Run_ret1 rfl (Zt (.bool false)) ⟨rfl, H3⟩
 ·have hF := (M.ite_some hF).2 hb1
  refine Run_skip ?_
  refine Zs ?_
  refine Zs ?_
  obtain ⟨x1, hx1, hF⟩ := M.bind_some hF
  refine Run_regC (j := 6) (C := fun x => Hold h x [box b2 26 [iV b.Events, .slice abPlaces b.Places.length cbPlaces], box b1 26 [iV a_.Events, .slice aa_Places a_.Places.length ca_Places]]) (by kernel_rfl) H2 (L' := [(15, .bool (!x1))]) ?_ (fun h3 H4 => ?_)
  ·refine Zb [.pointer (some ⟨b1, 1, none⟩)] 0 ?_
   refine Zy (.slice aa_Places a_.Places.length ca_Places) (Y_cls fun hx Hx => (Zl 24 (⟨b1, 1, none⟩) (.slice aa_Places a_.Places.length ca_Places) (Hx.cell 1 rfl rfl))) ?_
   refine Zb [.pointer (some ⟨b2, 1, none⟩)] 2 ?_
   refine Zy (.slice abPlaces b.Places.length cbPlaces) (Y_cls fun hx Hx => (Zl 24 (⟨b2, 1, none⟩) (.slice abPlaces b.Places.length cbPlaces) (Hx.cell 0 rfl rfl))) ?_
   refine Zy (.bool x1) (Y_call (f := 48) (args := #[.slice aa_Places a_.Places.length ca_Places, .slice abPlaces b.Places.length cbPlaces]) (v := .bool x1) (by kernel_rfl) fun hx Hx => (w_laws_eqPlaceS hx a_.Places aa_Places ca_Places (ra_Places.at Hx.ext) b.Places abPlaces cbPlaces (rbPlaces.at Hx.ext) _ _ hx1).mono fun _ _ ⟨e, H'⟩ => ⟨e, Hx.call H' rfl⟩) ?_
   refine Zb [.bool (!x1)] 5 ?_
   exact Zd [15]
  have H5 : Hold h h3 [box b2 26 [iV b.Events, .slice abPlaces b.Places.length cbPlaces], box b1 26 [iV a_.Events, .slice aa_Places a_.Places.length ca_Places]] := H4
  refine Zc (!x1) (fun hb2 => ?_) (fun hb2 => ?_)
  ·have hF := (M.ite_some hF).1 hb2
   refine Zs ?_
   refine Zq [.bool false] [4] [(4, .bool false)] ?_
   have hF := M.ret_some hF
   subst hF
   have H6 : Hold h h3 [] := H5.pk []
   exact Run_ret1 rfl (Zt (.bool false)) ⟨rfl, H6⟩
  ·have hF := (M.ite_some hF).2 hb2
   refine Run_skip ?_
   refine Zs ?_
   refine Zq [.bool true] [4] [(4, .bool true)] ?_
   have hF := M.ret_some hF
   subst hF
   have H7 : Hold h h3 [] := H5.pk []
   exact Run_ret1 rfl (Zt (.bool true)) ⟨rfl, H7⟩

theorem w_laws_FnExactGraphText (h : Heap) (tb : Tab Tryd.prog h) (aG : TGraph) (aaGPlaces : Option Addr) (caGPlaces : Nat) (raGPlaces : Rd cd93 h (Lt h) aaGPlaces caGPlaces aG.Places) (n : Nat) (r : Bool) (hF : laws_FnExactGraphText aG n = some r) :
  Fn Tryd.prog 4 #[.agg #[iV aG.Events, .slice aaGPlaces aG.Places.length caGPlaces]] h fun v h' => v = .bool r ∧ Hold h h' [] := by
 unfold laws_FnExactGraphText at hF
 refine Zo [.agg #[iV aG.Events, .slice aaGPlaces aG.Places.length caGPlaces]] Tryd.func4 rfl (fun w0 _ => ?_)
 have H0 := Hold.init h
 refine Zs ?_
 refine Run_ops ?_
 refine Ze ?_
 refine E_box (ty := 42) (cs := [iV aG.Events, .slice aaGPlaces aG.Places.length caGPlaces]) H0 (fun w => by kernel_rfl) (fun b1 h1 H1 => ?_)
 refine Zr [.bool false] 1 ?_
 refine Zx ?_
 refine Zk [1] [(1, pV b1)] ?_
 refine Zs ?_
 refine Zq [iV 1048576] [1, 3] [(1, pV b1), (3, iV 1048576)] ?_
 refine Zs ?_
 obtain ⟨x1, hx1, hF⟩ := M.bind_some hF
 refine Run_regC (j := 4) (C := fun x => Hold h x [box b1 42 [iV aG.Events, .slice aaGPlaces aG.Places.length caGPlaces]]) (by kernel_rfl) H1 (L' := [(1, pV b1), (3, iV x1)]) ?_ (fun h2 H2 => ?_)
 ·refine Zy (.agg #[iV aG.Events, .slice aaGPlaces aG.Places.length caGPlaces]) (Y_cls fun hx Hx => (Y_loadA (t := 42) (n := 2) (p := ⟨b1, 0, none⟩) (cs := [iV aG.Events, .slice aaGPlaces aG.Places.length caGPlaces]) (by kernel_rfl) (fun w => by kernel_rfl) (by kernel_rfl) rfl (Hx.cells (n := 2) (off := 0) 0 rfl rfl))) ?_
  refine Zb [iV 1048576] 1 ?_
  refine Zy (iV x1) (Y_call (f := 18) (args := #[.agg #[iV aG.Events, .slice aaGPlaces aG.Places.length caGPlaces], iV 1048576]) (v := iV x1) (by kernel_rfl) fun hx Hx => (w_laws_szEventGraph hx aG aaGPlaces caGPlaces (raGPlaces.at Hx.ext) 1048576 _ _ hx1).mono fun _ _ ⟨e, H'⟩ => ⟨e, Hx.call H' rfl⟩) ?_
  refine Zb [iV x1] 3 ?_
  exact Zd [1, 3]
 have H3 : Hold h h2 [box b1 42 [iV aG.Events, .slice aaGPlaces aG.Places.length caGPlaces]] := H2
 refine Zs ?_
 refine Zs ?_
 refine Zq [iV x1, .bool (decide (x1 < 0))] [1, 11] [(1, pV b1), (11, .bool (decide (x1 < 0)))] ?_
 refine Zc (decide (x1 < 0)) (fun hb1 => ?_) (fun hb1 => ?_)
 ·have hF := (M.ite_some hF).1 hb1
  refine Zs ?_
  refine Zq [.bool true] [2] [(2, .bool true)] ?_
  have hF := M.ret_some hF
  subst hF
  have H4 : Hold h h2 [] := H3.pk []
  exact Run_ret1 rfl (Zt (.bool true)) ⟨rfl, H4⟩
 ·have hF := (M.ite_some hF).2 hb1
  refine Run_skip ?_
  refine Zs ?_
  refine Run_ops ?_
  refine Zz (.agg #[iV aG.Events, .slice aaGPlaces aG.Places.length caGPlaces]) (Y_loadA (t := 42) (n := 2) (p := ⟨b1, 0, none⟩) (cs := [iV aG.Events, .slice aaGPlaces aG.Places.length caGPlaces]) (by kernel_rfl) (fun w => by kernel_rfl) (by kernel_rfl) rfl (H3.cells (n := 2) (off := 0) 0 rfl rfl)) ?_
  obtain ⟨x2, hx2, hF⟩ := M.bind_some hF
  refine Ze ?_
  refine ZC 19 #[.agg #[iV aG.Events, .slice aaGPlaces aG.Places.length caGPlaces]] (w_laws_toEventGraph h2 aG aaGPlaces caGPlaces (raGPlaces.at H3.ext) _ _ hx2) (fun v1 h3 hp1 => ?_)
  obtain ⟨a1, c1, rfl, H5⟩ := hp1
  have H6 : Hold h h3 [own cd28 a1 x2.Places.length c1 x2.Places, box b1 42 [iV aG.Events, .slice aaGPlaces aG.Places.length caGPlaces]] := H3.call H5 rfl
  obtain ⟨x3, hx3, hF⟩ := M.bind_some hF
  refine Ze ?_
  refine ZC 15 #[.agg #[iV x2.Events, .slice a1 x2.Places.length c1]] (w_spec_GraphText h3 x2 a1 c1 (H6.rd 0 rfl) _ _ hx3) (fun v2 h4 hp2 => ?_)
  obtain ⟨rfl, H7⟩ := hp2
  have H8 : Hold h h4 [own cd28 a1 x2.Places.length c1 x2.Places, box b1 42 [iV aG.Events, .slice aaGPlaces aG.Places.length caGPlaces]] := H6.call H7 rfl
  refine Zr [.string x3] 3 ?_
  refine Zx ?_
  refine Zk [1, 4] [(1, pV b1), (4, .string x3)] ?_
  refine Zs ?_
  refine Run_ops ?_
  refine Zz (.agg #[iV aG.Events, .slice aaGPlaces aG.Places.length caGPlaces]) (Y_loadA (t := 42) (n := 2) (p := ⟨b1, 0, none⟩) (cs := [iV aG.Events, .slice aaGPlaces aG.Places.length caGPlaces]) (by kernel_rfl) (fun w => by kernel_rfl) (by kernel_rfl) rfl (H8.cells (n := 2) (off := 0) 1 rfl rfl)) ?_
  obtain ⟨x4, hx4, hF⟩ := M.bind_some hF
  refine Ze ?_
  refine ZC 19 #[.agg #[iV aG.Events, .slice aaGPlaces aG.Places.length caGPlaces]] (w_laws_toEventGraph h4 aG aaGPlaces caGPlaces (raGPlaces.at H8.ext) _ _ hx4) (fun v3 h5 hp3 => ?_)
  obtain ⟨a2, c2, rfl, H9⟩ := hp3
  have H10 : Hold h h5 [own cd28 a2 x4.Places.length c2 x4.Places, own cd28 a1 x2.Places.length c1 x2.Places, box b1 42 [iV aG.Events, .slice aaGPlaces aG.Places.length caGPlaces]] := H8.call H9 rfl
  refine Ze ?_
  refine E_box (ty := 26) (cs := [iV 0, .slice none 0 0]) H10 (fun w => by kernel_rfl) (fun b2 h6 H11 => ?_)
  refine Ze ?_
  refine ZP 26 0 [iV x4.Events, .slice a2 x4.Places.length c2] (.agg #[iV x4.Events, .slice a2 x4.Places.length c2]) H11 (fun h7 H12 => ?_)
  refine Zx ?_
  refine Zk [1, 4, 5] [(1, pV b1), (4, .string x3), (5, pV b2)] ?_
  refine Zs ?_
  obtain ⟨x5, hx5, hF⟩ := M.bind_some hF
  refine Run_regC (j := 3) (C := fun x => Hold h x [box b2 26 [iV x4.Events, .slice a2 x4.Places.length c2], own cd28 a2 x4.Places.length c2 x4.Places, own cd28 a1 x2.Places.length c1 x2.Places, box b1 42 [iV aG.Events, .slice aaGPlaces aG.Places.length caGPlaces]]) (by kernel_rfl) H12 (L' := [(1, pV b1), (4, .string x3), (5, pV b2), (6, .string x5)]) ?_ (fun h8 H13 => ?_)
  ·refine Zy (.agg #[iV x4.Events, .slice a2 x4.Places.length c2]) (Y_cls fun hx Hx => (Y_loadA (t := 26) (n := 2) (p := ⟨b2, 0, none⟩) (cs := [iV x4.Events, .slice a2 x4.Places.length c2]) (by kernel_rfl) (fun w => by kernel_rfl) (by kernel_rfl) rfl (Hx.cells (n := 2) (off := 0) 0 rfl rfl))) ?_
   refine Zy (.string x5) (Y_call (f := 10) (args := #[.agg #[iV x4.Events, .slice a2 x4.Places.length c2]]) (v := .string x5) (by kernel_rfl) fun hx Hx => (w_impl_GraphText hx (tb.at Hx.ext) x4 a2 c2 (Hx.rd 1 rfl) _ _ hx5).mono fun _ _ ⟨e, H'⟩ => ⟨e, Hx.call H' rfl⟩) ?_
   refine Zb [.string x5] 2 ?_
   exact Zd [1, 4, 5, 6]
  have H14 : Hold h h8 [box b2 26 [iV x4.Events, .slice a2 x4.Places.length c2], own cd28 a2 x4.Places.length c2 x4.Places, own cd28 a1 x2.Places.length c1 x2.Places, box b1 42 [iV aG.Events, .slice aaGPlaces aG.Places.length caGPlaces]] := H13
  refine Zs ?_
  refine Zs ?_
  refine Zq [.string x5, .string x3, .bool (!(x5.toList == x3.toList))] [1, 5, 21] [(1, pV b1), (5, pV b2), (21, .bool (!(x5.toList == x3.toList)))] ?_
  refine Zc (!(x5.toList == x3.toList)) (fun hb2 => ?_) (fun hb2 => ?_)
  ·have hF := (M.ite_some hF).1 hb2
   refine Zs ?_
   refine Zq [.bool false] [2] [(2, .bool false)] ?_
   have hF := M.ret_some hF
   subst hF
   have H15 : Hold h h8 [] := H14.pk []
   exact Run_ret1 rfl (Zt (.bool false)) ⟨rfl, H15⟩
  ·have hF := (M.ite_some hF).2 hb2
   refine Run_skip ?_
   refine Zs ?_
   refine Zs ?_
   refine Run_D (fun x => Hold h x [box b2 26 [iV x4.Events, .slice a2 x4.Places.length c2], own cd28 a2 x4.Places.length c2 x4.Places, own cd28 a1 x2.Places.length c1 x2.Places, box b1 42 [iV aG.Events, .slice aaGPlaces aG.Places.length caGPlaces]]) (fun x => Hold h x [box b2 26 [iV x4.Events, .slice a2 x4.Places.length c2], own cd28 a2 x4.Places.length c2 x4.Places, own cd28 a1 x2.Places.length c1 x2.Places, box b1 42 [iV aG.Events, .slice aaGPlaces aG.Places.length caGPlaces]]) mixed (by kernel_rfl) H14 Hold.stable (fun x Hy => (show Hold h x [box b2 26 [iV x4.Events, .slice a2 x4.Places.length c2], own cd28 a2 x4.Places.length c2 x4.Places, own cd28 a1 x2.Places.length c1 x2.Places, box b1 42 [iV aG.Events, .slice aaGPlaces aG.Places.length caGPlaces]] from Hy).pk [0, 1, 2, 3]) ?_
   refine ZY 4 0 (.agg #[iV x4.Events, .slice a2 x4.Places.length c2]) (fun hx Hx => (YE.of (Y_loadA (t := 26) (n := 2) (p := ⟨b2, 0, none⟩) (cs := [iV x4.Events, .slice a2 x4.Places.length c2]) (by kernel_rfl) (fun w => by kernel_rfl) (by kernel_rfl) rfl (Hx.cells (n := 2) (off := 0) 0 rfl rfl)))) ?_
   refine ZY 3 1 (.agg #[iV aG.Events, .slice aaGPlaces aG.Places.length caGPlaces]) (fun hx Hx => (YE.of (Y_loadA (t := 42) (n := 2) (p := ⟨b1, 0, none⟩) (cs := [iV aG.Events, .slice aaGPlaces aG.Places.length caGPlaces]) (by kernel_rfl) (fun w => by kernel_rfl) (by kernel_rfl) rfl (Hx.cells (n := 2) (off := 0) 3 rfl rfl)))) ?_
   refine ZE 2 2 (fun h9 H16 => ?_)
   have H17 : Hold h h9 [box b2 26 [iV x4.Events, .slice a2 x4.Places.length c2], own cd28 a2 x4.Places.length c2 x4.Places, own cd28 a1 x2.Places.length c1 x2.Places, box b1 42 [iV aG.Events, .slice aaGPlaces aG.Places.length caGPlaces]] := H16
   obtain ⟨x6, hx6, hF⟩ := M.bind_some hF
   refine ZC 19 #[.agg #[iV aG.Events, .slice aaGPlaces aG.Places.length caGPlaces]] (w_laws_toEventGraph h9 aG aaGPlaces caGPlaces (raGPlaces.at H17.ext) _ _ hx6) (fun v4 h10 hp4 => ?_)
   obtain ⟨a3, c3, rfl, H18⟩ := hp4
   have H19 : Hold h h10 [own cd28 a3 x6.Places.length c3 x6.Places, box b2 26 [iV x4.Events, .slice a2 x4.Places.length c2], own cd28 a2 x4.Places.length c2 x4.Places, own cd28 a1 x2.Places.length c1 x2.Places, box b1 42 [iV aG.Events, .slice aaGPlaces aG.Places.length caGPlaces]] := H17.call H18 rfl
   refine ⟨fun x => Hold h x [box b2 26 [iV x4.Events, .slice a2 x4.Places.length c2], own cd28 a2 x4.Places.length c2 x4.Places, own cd28 a1 x2.Places.length c1 x2.Places, box b1 42 [iV aG.Events, .slice aaGPlaces aG.Places.length caGPlaces], own cd28 a3 x6.Places.length c3 x6.Places], fun x => Hold h x [own cd28 a3 x6.Places.length c3 x6.Places, box b2 26 [iV x4.Events, .slice a2 x4.Places.length c2], own cd28 a2 x4.Places.length c2 x4.Places, own cd28 a1 x2.Places.length c1 x2.Places, box b1 42 [iV aG.Events, .slice aaGPlaces aG.Places.length caGPlaces]], H19, Hold.stable, fun x Hy => (show Hold h x [own cd28 a3 x6.Places.length c3 x6.Places, box b2 26 [iV x4.Events, .slice a2 x4.Places.length c2], own cd28 a2 x4.Places.length c2 x4.Places, own cd28 a1 x2.Places.length c1 x2.Places, box b1 42 [iV aG.Events, .slice aaGPlaces aG.Places.length caGPlaces]] from Hy).pk [1, 2, 3, 4, 0], fun x Hy => (show Hold h x [box b2 26 [iV x4.Events, .slice a2 x4.Places.length c2], own cd28 a2 x4.Places.length c2 x4.Places, own cd28 a1 x2.Places.length c1 x2.Places, box b1 42 [iV aG.Events, .slice aaGPlaces aG.Places.length caGPlaces], own cd28 a3 x6.Places.length c3 x6.Places] from Hy).pk [0, 1, 2, 3], ?_⟩
   obtain ⟨x7, hx7, hF⟩ := M.bind_some hF
   refine ZY 1 3 (.bool x7) (fun hx Hx => (YE_call (f := 20) (args := #[.agg #[iV x4.Events, .slice a2 x4.Places.length c2], .agg #[iV x6.Events, .slice a3 x6.Places.length c3]]) (v := .bool x7) (by kernel_rfl) ((w_laws_eqEventGraph hx x4 a2 c2 (Hx.rd 1 rfl) x6 a3 c3 (Hx.rd 4 rfl) _ _ hx7).mono fun _ _ ⟨e, H'⟩ => ⟨e, H'.ext⟩))) ?_
   refine ZB 0 [.bool (!x7)] 4 ?_
   refine ZT 5 (fun h11 H20 => ?_)
   have H21 : Hold h h11 [own cd28 a3 x6.Places.length c3 x6.Places, box b2 26 [iV x4.Events, .slice a2 x4.Places.length c2], own cd28 a2 x4.Places.length c2 x4.Places, own cd28 a1 x2.Places.length c1 x2.Places, box b1 42 [iV aG.Events, .slice aaGPlaces aG.Places.length caGPlaces]] := H20
   refine Zx ?_
   refine Zk [26] [(26, .bool (!x7))] ?_
   refine Zc (!x7) (fun hb3 => ?_) (fun hb3 => ?_)
   ·have hF := (M.ite_some hF).1 hb3
    refine Zs ?_
    refine Zq [.bool false] [2] [(2, .bool false)] ?_
    have hF := M.ret_some hF
    subst hF
    have H22 : Hold h h11 [] := H21.pk []
    exact Run_ret1 rfl (Zt (.bool false)) ⟨rfl, H22⟩
   ·have hF := (M.ite_some hF).2 hb3
    refine Run_skip ?_
    refine Zs ?_
    refine Zq [.bool true] [2] [(2, .bool true)] ?_
    have hF := M.ret_some hF
    subst hF
    have H23 : Hold h h11 [] := H21.pk []
    exact Run_ret1 rfl (Zt (.bool true)) ⟨rfl, H23⟩

end Go.Proofs.YtelopfgolahlpaaDoor
