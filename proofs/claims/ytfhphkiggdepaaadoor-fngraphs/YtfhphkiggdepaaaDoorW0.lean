/-
  Walks: each Go function, called with what reads as plain data, returns what its plain program computes.
  Conditions: None beyond the given statement.
-/
import Derived.Test.YtfhphkiggdepaaaDoorRows
import Derived.Test.YtfhphkiggdepaaaDoorP
import Derived.Test.YtfhphkiggdepaaaDoorShort
import Derived.Test.YtfhphkiggdepaaaDoorStr
import Derived.Test.YtfhphkiggdepaaaDoorLay
namespace Go.Proofs.YtfhphkiggdepaaaDoor
open Go
attribute [local irreducible] setL setB opA fineI idleI fineB evB okB markB markBs readyB readyBs chainB lk rho pickL dropSlot tailOK
theorem mixed : Tryd.prog.follows .mixedOrders = true := by kernel_rfl
def cd5 : Cd (Int) := flatCd 5 1 (by decide) (fun x => [.int .u8 x]) (fun _ => rfl) (fun _ => rfl)
theorem cd5_own (x : Int) : ∀ h, cd5.own h x [.int .u8 x] [] := fun _ => ⟨rfl, rfl⟩
theorem cd5_flat : Flat cd5 := fun _ _ _ _ o => o.2
theorem cd5_copies : Copies cd5 := fun _ _ _ _ o => ⟨o, rfl⟩
theorem cd5_zero : ∀ h, cd5.own h 0 [.int .u8 0] [] := fun _ => ⟨rfl, rfl⟩
theorem cd5_ti : TI Tryd.prog 5 (.int .u8 0) 1 1 := by unfold TI; kernel_rfl
theorem cd5_cell {h : Heap} {B : Bs} {a : Option Addr} {c : Nat} {l : List (Int)} {j : Nat} {x : Int} (r : Rd cd5 h B a c l) (hx : l[j]? = some x) : cellH h (adr a (j * 1)) = some (.int .u8 x) := r.cell1 hx (fun vs o => by rw [show vs = _ from o]; rfl)
def cd28 : Cd (TPlace) := flatCd 28 4 (by decide) (fun x => [.int .i64 x.From, .int .i64 x.To, .int .i64 x.Delay, .int .i64 x.Tokens]) (fun _ => rfl) (fun _ => rfl)
theorem cd28_own (x : TPlace) : ∀ h, cd28.own h x [.int .i64 x.From, .int .i64 x.To, .int .i64 x.Delay, .int .i64 x.Tokens] [] := fun _ => ⟨rfl, rfl⟩
theorem cd28_flat : Flat cd28 := fun _ _ _ _ o => o.2
theorem cd28_copies : Copies cd28 := fun _ _ _ _ o => ⟨o, rfl⟩
theorem cd28_zero : ∀ h, cd28.own h (⟨0, 0, 0, 0⟩ : TPlace) [.int .i64 0, .int .i64 0, .int .i64 0, .int .i64 0] [] := fun _ => ⟨rfl, rfl⟩
theorem cd28_ti : TI Tryd.prog 28 (.agg #[.int .i64 0, .int .i64 0, .int .i64 0, .int .i64 0]) 4 32 := by unfold TI; kernel_rfl
theorem cd28_elem {h : Heap} {B : Bs} {a : Option Addr} {c : Nat} {l : List (TPlace)} {j : Nat} {x : TPlace} (r : Rd cd28 h B a c l) (hx : l[j]? = some x) : ∀ i v, ([.int .i64 x.From, .int .i64 x.To, .int .i64 x.Delay, .int .i64 x.Tokens] : List Value)[i]? = some v → cellH h ((adr a (j * 4)).add i) = some v := r.elem hx (fun _ o => o)
theorem cd28_f0 {h : Heap} {B : Bs} {a : Option Addr} {c : Nat} {l : List (TPlace)} {j : Nat} {x : TPlace} (r : Rd cd28 h B a c l) (hx : l[j]? = some x) : cellH h ((adr a (j * 4)).add 0) = some (.int .i64 x.From) := r.field hx (fun vs o => by rw [show vs = _ from o]; rfl)
theorem cd28_f1 {h : Heap} {B : Bs} {a : Option Addr} {c : Nat} {l : List (TPlace)} {j : Nat} {x : TPlace} (r : Rd cd28 h B a c l) (hx : l[j]? = some x) : cellH h ((adr a (j * 4)).add 1) = some (.int .i64 x.To) := r.field hx (fun vs o => by rw [show vs = _ from o]; rfl)
theorem cd28_f2 {h : Heap} {B : Bs} {a : Option Addr} {c : Nat} {l : List (TPlace)} {j : Nat} {x : TPlace} (r : Rd cd28 h B a c l) (hx : l[j]? = some x) : cellH h ((adr a (j * 4)).add 2) = some (.int .i64 x.Delay) := r.field hx (fun vs o => by rw [show vs = _ from o]; rfl)
theorem cd28_f3 {h : Heap} {B : Bs} {a : Option Addr} {c : Nat} {l : List (TPlace)} {j : Nat} {x : TPlace} (r : Rd cd28 h B a c l) (hx : l[j]? = some x) : cellH h ((adr a (j * 4)).add 3) = some (.int .i64 x.Tokens) := r.field hx (fun vs o => by rw [show vs = _ from o]; rfl)
def cd2 : Cd (Int) := flatCd 2 1 (by decide) (fun x => [.int .i64 x]) (fun _ => rfl) (fun _ => rfl)
theorem cd2_own (x : Int) : ∀ h, cd2.own h x [.int .i64 x] [] := fun _ => ⟨rfl, rfl⟩
theorem cd2_flat : Flat cd2 := fun _ _ _ _ o => o.2
theorem cd2_copies : Copies cd2 := fun _ _ _ _ o => ⟨o, rfl⟩
theorem cd2_zero : ∀ h, cd2.own h 0 [.int .i64 0] [] := fun _ => ⟨rfl, rfl⟩
theorem cd2_ti : TI Tryd.prog 2 (.int .i64 0) 1 8 := by unfold TI; kernel_rfl
theorem cd2_cell {h : Heap} {B : Bs} {a : Option Addr} {c : Nat} {l : List (Int)} {j : Nat} {x : Int} (r : Rd cd2 h B a c l) (hx : l[j]? = some x) : cellH h (adr a (j * 1)) = some (.int .i64 x) := r.cell1 hx (fun vs o => by rw [show vs = _ from o]; rfl)
def cd9 : Cd (ByteArray) := flatCd 9 1 (by decide) (fun x => [.string x]) (fun _ => rfl) (fun _ => rfl)
theorem cd9_own (x : ByteArray) : ∀ h, cd9.own h x [.string x] [] := fun _ => ⟨rfl, rfl⟩
theorem cd9_flat : Flat cd9 := fun _ _ _ _ o => o.2
theorem cd9_copies : Copies cd9 := fun _ _ _ _ o => ⟨o, rfl⟩
theorem cd9_zero : ∀ h, cd9.own h ByteArray.empty [.string ByteArray.empty] [] := fun _ => ⟨rfl, rfl⟩
theorem cd9_ti : TI Tryd.prog 9 (.string ByteArray.empty) 1 16 := by unfold TI; kernel_rfl
theorem cd9_cell {h : Heap} {B : Bs} {a : Option Addr} {c : Nat} {l : List (ByteArray)} {j : Nat} {x : ByteArray} (r : Rd cd9 h B a c l) (hx : l[j]? = some x) : cellH h (adr a (j * 1)) = some (.string x) := r.cell1 hx (fun vs o => by rw [show vs = _ from o]; rfl)
theorem eqS28 (d : Nat) (x0 : Int) (x1 : Int) (x2 : Int) (x3 : Int) (y0 : Int) (y1 : Int) (y2 : Int) (y3 : Int) (w : World) : (Op.equalIn (d + 2) 28 (.agg #[.int .i64 x0, .int .i64 x1, .int .i64 x2, .int .i64 x3]) (.agg #[.int .i64 y0, .int .i64 y1, .int .i64 y2, .int .i64 y3])).run Tryd.prog w = .ok ((x0 == y0) && (x1 == y1) && (x2 == y2) && (x3 == y3)) w := by
  have hS : Tryd.prog.underlying 28 = some (.struct (Tryd.prog.fieldsOf 28)) := by kernel_rfl
  have hp : Tryd.prog.stoodInHeld 28 = false := by kernel_rfl
  rw [show d + 2 = (d + 1) + 1 from rfl, run_equalIn_struct w (d + 1) 28 _ _ hS hp]
  simp only [Program.fieldsOf, Tryd.underlying28]
  have u2 := Tryd.underlying2
  have a2 := Tryd.isAgg2
  have z2 := Tryd.sizeOf2
  go_simp
  by_cases h0 : x0 = y0 <;> by_cases h1 : x1 = y1 <;> by_cases h2 : x2 = y2 <;> by_cases h3 : x3 = y3 <;> simp [h0, h1, h2, h3]

set_option maxRecDepth 100000
set_option maxHeartbeats 4000000
theorem w_laws_big (h : Heap) (code : List Int) {Scode : Bs} (acode : Option Addr) (ccode : Nat) (rcode : Rd cd5 h Scode acode ccode code) (n : Nat) (r : Bool) (hF : laws_big code n = some r) :
  Fn Tryd.prog 5 #[.slice acode code.length ccode] h fun v h' => v = .bool r ∧ h' = h := by
 unfold laws_big at hF
 refine Zo [.slice acode code.length ccode] Tryd.func5 rfl (fun w0 _ => ?_)
 refine Zs ?_
 refine Zq [.bool false] [0] [(0, .slice acode code.length ccode)] ?_
 refine Zs ?_
 refine Zq [.slice acode code.length ccode, iV (code.length : Int), .bool (decide (4096 < (code.length : Int))), .bool (decide (4096 < (code.length : Int)))] [2] [(2, .bool (decide (4096 < (code.length : Int))))] ?_
 have hF := M.ret_some hF
 subst hF
 exact Run_ret1 rfl (Zt (.bool (decide (4096 < (code.length : Int))))) ⟨rfl, rfl⟩

theorem w_spec_l01From (h : Heap) (code : List Int) (acode : Option Addr) (ccode : Nat) (rcode : Rd cd5 h (Lt h) acode ccode code) (n : Nat) (r : TL01source) (hF : spec_l01From code n = some r) :
  Fn Tryd.prog 20 #[.slice acode code.length ccode] h fun v h' => ∃ (b0 : Nat), ∃ (a0 : Option Addr) (c0 : Nat), v = pV b0 ∧ Ali a0 acode c0 ccode r.code code ∧ Hold h h' [box b0 67 [.slice a0 r.code.length c0, iV r.at_, iV r.seed]] := by
 unfold spec_l01From at hF
 refine Zo [.slice acode code.length ccode] Tryd.func20 rfl (fun w0 _ => ?_)
 have H0 := Hold.init h
 refine Zs ?_
 refine Zq [.pointer none] [0] [(0, .slice acode code.length ccode)] ?_
 refine Zs ?_
 refine Run_ops ?_
 refine Zr [.slice acode code.length ccode, .agg #[.slice acode code.length ccode, iV 0, iV 61403]] 0 ?_
 refine Ze ?_
 refine E_box (ty := 67) (cs := [.slice acode code.length ccode, iV 0, iV 61403]) H0 (fun w => by kernel_rfl) (fun b1 h1 H1 => ?_)
 refine Zr [pV b1] 3 ?_
 refine Zx ?_
 refine Zk [0, 3] [(0, .slice acode code.length ccode), (3, pV b1)] ?_
 refine Zs ?_
 refine Zs ?_
 refine Zq [iV 0] [0, 3, 4] [(0, .slice acode code.length ccode), (3, pV b1), (4, iV 0)] ?_
 obtain ⟨x1, gx1, hF⟩ := M.bind_some hF
 refine Run_join (fun L' h' => L' = [(3, pV b1)] ∧ Hold h h' [box b1 67 [.slice acode code.length ccode, iV 0, iV x1.1]]) ?_ ?_
 ·rintro _ h3 ⟨rfl, H3⟩
  refine Zs ?_
  refine Zq [pV b1, pV b1] [2] [(2, pV b1)] ?_
  have hF := M.ret_some hF
  subst hF
  exact Run_ret1 rfl (Zt (pV b1)) ⟨b1, acode, ccode, rfl, .inl ⟨rfl, rfl, rfl⟩, H3⟩
 ·refine Run_block ?_
  refine Zk [0, 3, 4] [(0, .slice acode code.length ccode), (3, pV b1), (4, iV 0)] ?_
  refine Run_loop (fun m L' h' => ∃ (s1 : Int × Int), M.loopN _ n m s1 = some x1 ∧ L' = [(0, .slice acode code.length ccode), (3, pV b1), (4, iV s1.2)] ∧ Hold h h' [box b1 67 [.slice acode code.length ccode, iV 0, iV s1.1]]) n ⟨(61403, 0), gx1, rfl, H1⟩ ?_
  rintro my1 _ h2 ⟨s1, gx1, rfl, H2⟩
  obtain ⟨my1, y1, rfl, hB1, hgoy1, houty1⟩ := M.loop_some gx1
  refine Zs ?_
  refine Zs ?_
  refine Zg 8 [(0, .slice acode code.length ccode), (3, pV b1), (4, iV s1.2), (15, .bool ((decide (s1.2 < (code.length : Int))) && (decide (s1.2 < 64))))] ?_ ?_
  ·refine Zb [iV s1.2, .slice acode code.length ccode, iV (code.length : Int), .bool (decide (s1.2 < (code.length : Int)))] 0 ?_
   refine QRun_seq 8 [(0, .slice acode code.length ccode), (3, pV b1), (4, iV s1.2), (15, .bool ((decide (s1.2 < (code.length : Int))) && (decide (s1.2 < 64))))] ?_ ?_
   ·rcases Bool.eq_false_or_eq_true (decide (s1.2 < (code.length : Int))) with hb1 | hb1
    ·refine Zv (decide (s1.2 < (code.length : Int))) true hb1 ?_
     refine Zb [iV s1.2, .bool (decide (s1.2 < 64))] 5 ?_
     refine QRun_bool (decide (s1.2 < 64)) ((decide (s1.2 < (code.length : Int))) && (decide (s1.2 < 64))) (by kernel_rfl) (fun w => by kernel_rfl) (by rw [hb1]; rfl) ?_
     exact Zd [0, 3, 4, 15]
    ·refine Zv (decide (s1.2 < (code.length : Int))) false hb1 ?_
     refine Zn ?_
     refine Zn ?_
     refine QRun_bool false ((decide (s1.2 < (code.length : Int))) && (decide (s1.2 < 64))) (by kernel_rfl) (fun w => by kernel_rfl) (by rw [hb1]; rfl) ?_
     exact Zd [0, 3, 4, 15]
   exact Zd [0, 3, 4, 15]
  refine Zc ((decide (s1.2 < (code.length : Int))) && (decide (s1.2 < 64))) (fun hb2 => ?_) (fun hb2 => ?_)
  ·have hB1 := (M.ite_some hB1).1 hb2
   refine Run_skip ?_
   refine Zs ?_
   refine Run_block ?_
   obtain ⟨x3, hx1, hB1⟩ := M.bind_some hB1
   obtain ⟨hx1l, hx1u, hx1⟩ := M.idx_some hx1
   refine Run_D (fun x => Hold h x [box b1 67 [.slice acode code.length ccode, iV 0, iV s1.1]]) (fun x => Hold h x [box b1 67 [.slice acode code.length ccode, iV 0, iV s1.1]]) mixed (by kernel_rfl) H2 Hold.stable (fun x Hy => (show Hold h x [box b1 67 [.slice acode code.length ccode, iV 0, iV s1.1]] from Hy).pk [0]) ?_
   refine ZB 12 [pV b1, pV b1, pV b1, .pointer (some ⟨b1, 2, none⟩)] 0 ?_
   refine ZY 11 4 (iV s1.1) (fun hx Hx => (YE.of (Zl 2 (⟨b1, 2, none⟩) (iV s1.1) (Hx.cell 0 rfl rfl)))) ?_
   refine ZB 8 [iV (w64 (s1.1 * 67)), .slice acode code.length ccode, iV s1.2] 5 ?_
   refine ZY 7 8 (.pointer (some (adr acode (s1.2.toNat * 1)))) (fun hx Hx => (YE.of (Zi 22 5 1 (acode) (code.length) (ccode) .i64 (s1.2) Tryd.underlying22 ((rcode.at H2.ext).cell hx1).1 hx1l hx1u))) ?_
   refine ZY 6 9 (.int .u8 x3) (fun hx Hx => (YE.of (Zl 5 (adr acode (s1.2.toNat * 1)) (.int .u8 x3) (cd5_cell (rcode.at Hx.ext) hx1)))) ?_
   refine ZB 1 [iV (w64 (x3)), iV (w64 ((w64 (s1.1 * 67)) + (w64 (x3)))), iV ((w64 ((w64 (s1.1 * 67)) + (w64 (x3)))).tmod 2147483647), pV b1, .pointer (some ⟨b1, 2, none⟩)] 10 ?_
   refine ZT 15 (fun h4 H4 => ?_)
   have H5 := H4
   refine Ze ?_
   refine ZP 2 2 [.slice acode code.length ccode, iV 0, iV ((w64 ((w64 (s1.1 * 67)) + (w64 (x3)))).tmod 2147483647)] (iV ((w64 ((w64 (s1.1 * 67)) + (w64 (x3)))).tmod 2147483647)) H5 (fun h5 H6 => ?_)
   refine Zx ?_
   refine Zk [0, 3, 4] [(0, .slice acode code.length ccode), (3, pV b1), (4, iV s1.2)] ?_
   refine Run_blk ?_
   refine Zq [iV s1.2, iV (w64 (s1.2 + 1)), iV (w64 (s1.2 + 1))] [0, 3, 4] [(0, .slice acode code.length ccode), (3, pV b1), (4, iV (w64 (s1.2 + 1)))] ?_
   have hB1 := M.ret_some hB1
   have gx1 := hgoy1 _ hB1.symm
   exact Za [0, 3, 4] my1 ⟨(((w64 ((w64 (s1.1 * 67)) + (w64 (x3)))).tmod 2147483647), (w64 (s1.2 + 1))), gx1, rfl, H6⟩
  ·have hB1 := (M.ite_some hB1).2 hb2
   refine Run_exit (k' := _) rfl ?_
   have hB1 := M.ret_some hB1
   have gx1 := houty1 _ hB1.symm
   subst gx1
   exact Zf [3] ⟨rfl, H2⟩

theorem w_spec_l01Next (h hE : Heap) (it : Item) (s_ : TL01source) (bs_ : Nat) (as_code : Option Addr) (cs_code : Nat) (rs_code : Rd cd5 h (Lt h) as_code cs_code s_.code) (n_ : Int) (HM : Hold h hE [box bs_ 67 [.slice as_code s_.code.length cs_code, iV s_.at_, iV s_.seed], it]) (n : Nat) (r : Int × TL01source) (hF : spec_l01Next s_ n_ n = some r) :
  Fn Tryd.prog 22 #[pV bs_, iV n_] hE fun v h' => v = iV r.1 ∧ Hold h h' [box bs_ 67 [.slice as_code s_.code.length cs_code, iV r.2.at_, iV r.2.seed], it] := by
 unfold spec_l01Next at hF
 refine Zo [pV bs_, iV n_] Tryd.func22 rfl (fun w0 _ => ?_)
 refine Zs ?_
 refine Zq [iV 0] [0, 1] [(0, pV bs_), (1, iV n_)] ?_
 refine Zs ?_
 refine Zs ?_
 refine Zq [iV n_, .bool (decide (n_ ≤ 1))] [0, 1, 7] [(0, pV bs_), (1, iV n_), (7, .bool (decide (n_ ≤ 1)))] ?_
 refine Zc (decide (n_ ≤ 1)) (fun hb1 => ?_) (fun hb1 => ?_)
 ·have hF := (M.ite_some hF).1 hb1
  refine Zs ?_
  refine Zq [iV 0] [4] [(4, iV 0)] ?_
  have hF := M.ret_some hF
  subst hF
  exact Run_ret1 rfl (Zt (iV 0)) ⟨rfl, HM⟩
 ·have hF := (M.ite_some hF).2 hb1
  refine Run_skip ?_
  refine Zs ?_
  refine Run_ops ?_
  refine Zr [pV bs_, pV bs_, pV bs_, .pointer (some ⟨bs_, 2, none⟩)] 0 ?_
  refine Zz (iV s_.seed) (Zl 2 (⟨bs_, 2, none⟩) (iV s_.seed) (HM.cell 0 rfl rfl)) ?_
  refine Zr [iV (w64 (s_.seed * 48271)), iV (w64 ((w64 (s_.seed * 48271)) + 59)), iV ((w64 ((w64 (s_.seed * 48271)) + 59)).tmod 2147483647), pV bs_, .pointer (some ⟨bs_, 2, none⟩)] 5 ?_
  refine Ze ?_
  refine ZP 2 2 [.slice as_code s_.code.length cs_code, iV s_.at_, iV ((w64 ((w64 (s_.seed * 48271)) + 59)).tmod 2147483647)] (iV ((w64 ((w64 (s_.seed * 48271)) + 59)).tmod 2147483647)) HM (fun h1 H1 => ?_)
  refine Zx ?_
  refine Zk [0, 1] [(0, pV bs_), (1, iV n_)] ?_
  refine Zs ?_
  refine Zg 6 [(0, pV bs_), (1, iV n_), (5, iV (w64 (((w64 ((w64 (s_.seed * 48271)) + 59)).tmod 2147483647).tdiv 31)))] ?_ ?_
  ·refine Zb [pV bs_, pV bs_, .pointer (some ⟨bs_, 2, none⟩)] 0 ?_
   refine Zy (iV ((w64 ((w64 (s_.seed * 48271)) + 59)).tmod 2147483647)) (Zl 2 (⟨bs_, 2, none⟩) (iV ((w64 ((w64 (s_.seed * 48271)) + 59)).tmod 2147483647)) (H1.cell 0 rfl rfl)) ?_
   refine Zb [iV (w64 (((w64 ((w64 (s_.seed * 48271)) + 59)).tmod 2147483647).tdiv 31)), iV (w64 (((w64 ((w64 (s_.seed * 48271)) + 59)).tmod 2147483647).tdiv 31))] 4 ?_
   exact Zd [0, 1, 5]
  refine Zs ?_
  refine Zs ?_
  refine Run_draw 10 mixed (by kernel_rfl) (by kernel_rfl) (L' := [(0, pV bs_), (1, iV n_), (5, iV (w64 (((w64 ((w64 (s_.seed * 48271)) + 59)).tmod 2147483647).tdiv 31))), (32, .bool (decide (s_.at_ < (s_.code.length : Int))))]) ?_ ?_
  ·refine Zb [pV bs_, pV bs_, .pointer (some ⟨bs_, 1, none⟩)] 0 ?_
   refine Zy (iV s_.at_) (Zl 3 (⟨bs_, 1, none⟩) (iV s_.at_) (H1.cell 0 rfl rfl)) ?_
   refine Zb [pV bs_, pV bs_, pV bs_] 4 ?_
   refine Zy (.slice as_code s_.code.length cs_code) (Zl 22 (⟨bs_, 0, none⟩) (.slice as_code s_.code.length cs_code) (H1.cell 0 rfl rfl)) ?_
   refine Zb [iV (s_.code.length : Int), .bool (decide (s_.at_ < (s_.code.length : Int)))] 8 ?_
   exact Zd [0, 1, 5, 32]
  obtain ⟨s1, gs1, hF⟩ := M.bind_some hF
  refine Run_join (fun L' h' => L' = [(1, iV n_), (5, iV s1.1)] ∧ Hold h h' [box bs_ 67 [.slice as_code s_.code.length cs_code, iV s1.2, iV ((w64 ((w64 (s_.seed * 48271)) + 59)).tmod 2147483647)], it]) ?_ ?_
  ·rintro _ h3 ⟨rfl, H3⟩
   refine Zs ?_
   obtain ⟨u1, hz1, hF⟩ := M.bind_some hF
   have hz1 := M.guard_some hz1
   refine Zg 4 [(4, iV (s1.1.tmod n_))] ?_ ?_
   ·refine Zb [iV s1.1, iV n_] 0 ?_
    refine Zy (iV (s1.1.tmod n_)) (Y_rem (op := .rem) (k := .i64) (x := s1.1) (y := n_) (by kernel_rfl) hz1) ?_
    refine Zb [iV (s1.1.tmod n_)] 3 ?_
    exact Zd [4]
   have hF := M.ret_some hF
   subst hF
   exact Run_ret1 rfl (Zt (iV (s1.1.tmod n_))) ⟨rfl, H3⟩
  ·refine Zc (decide (s_.at_ < (s_.code.length : Int))) (fun hb2 => ?_) (fun hb2 => ?_)
   ·have gs1 := (M.ite_some gs1).1 hb2
    refine Zs ?_
    obtain ⟨x1, hx1, gs1⟩ := M.bind_some gs1
    obtain ⟨hx1l, hx1u, hx1⟩ := M.idx_some hx1
    refine Run_draw 14 mixed (by kernel_rfl) (by kernel_rfl) (L' := [(0, pV bs_), (1, iV n_), (5, iV (w64 ((w64 (((w64 ((w64 (s_.seed * 48271)) + 59)).tmod 2147483647).tdiv 31)) + (w64 (x1)))))]) ?_ ?_
    ·refine Zb [iV (w64 (((w64 ((w64 (s_.seed * 48271)) + 59)).tmod 2147483647).tdiv 31)), pV bs_, pV bs_, pV bs_] 0 ?_
     refine Zy (.slice as_code s_.code.length cs_code) (Zl 22 (⟨bs_, 0, none⟩) (.slice as_code s_.code.length cs_code) (H1.cell 0 rfl rfl)) ?_
     refine Zb [pV bs_, pV bs_, .pointer (some ⟨bs_, 1, none⟩)] 5 ?_
     refine Zy (iV s_.at_) (Zl 3 (⟨bs_, 1, none⟩) (iV s_.at_) (H1.cell 0 rfl rfl)) ?_
     refine Zy (.pointer (some (adr as_code (s_.at_.toNat * 1)))) (Zi 22 5 1 (as_code) (s_.code.length) (cs_code) .i64 (s_.at_) Tryd.underlying22 ((rs_code.at H1.ext).cell hx1).1 hx1l hx1u) ?_
     refine Zy (.int .u8 x1) (Zl 5 (adr as_code (s_.at_.toNat * 1)) (.int .u8 x1) (cd5_cell (rs_code.at H1.ext) hx1)) ?_
     refine Zb [iV (w64 (x1)), iV (w64 ((w64 (((w64 ((w64 (s_.seed * 48271)) + 59)).tmod 2147483647).tdiv 31)) + (w64 (x1)))), iV (w64 ((w64 (((w64 ((w64 (s_.seed * 48271)) + 59)).tmod 2147483647).tdiv 31)) + (w64 (x1))))] 11 ?_
     exact Zd [0, 1, 5]
    refine Zs ?_
    refine Run_ops ?_
    refine Zr [pV bs_, pV bs_, .pointer (some ⟨bs_, 1, none⟩)] 0 ?_
    refine Zz (iV s_.at_) (Zl 3 (⟨bs_, 1, none⟩) (iV s_.at_) (H1.cell 0 rfl rfl)) ?_
    refine Zr [iV (w64 (s_.at_ + 1)), pV bs_, .pointer (some ⟨bs_, 1, none⟩)] 4 ?_
    refine Ze ?_
    refine ZP 3 1 [.slice as_code s_.code.length cs_code, iV (w64 (s_.at_ + 1)), iV ((w64 ((w64 (s_.seed * 48271)) + 59)).tmod 2147483647)] (iV (w64 (s_.at_ + 1))) H1 (fun h2 H2 => ?_)
    refine Zx ?_
    refine Zk [0, 1, 5] [(0, pV bs_), (1, iV n_), (5, iV (w64 ((w64 (((w64 ((w64 (s_.seed * 48271)) + 59)).tmod 2147483647).tdiv 31)) + (w64 (x1)))))] ?_
    refine Zs ?_
    refine Zg 10 [(0, pV bs_), (1, iV n_), (5, iV (w64 ((w64 (((w64 ((w64 (s_.seed * 48271)) + 59)).tmod 2147483647).tdiv 31)) + (w64 (x1))))), (62, .bool ((decide (n_ ≤ 256)) && (((w64 (s_.at_ + 1)).tmod 2) == 0)))] ?_ ?_
    ·refine Zb [iV n_, .bool (decide (n_ ≤ 256))] 0 ?_
     refine QRun_seq 10 [(0, pV bs_), (1, iV n_), (5, iV (w64 ((w64 (((w64 ((w64 (s_.seed * 48271)) + 59)).tmod 2147483647).tdiv 31)) + (w64 (x1))))), (62, .bool ((decide (n_ ≤ 256)) && (((w64 (s_.at_ + 1)).tmod 2) == 0)))] ?_ ?_
     ·rcases Bool.eq_false_or_eq_true (decide (n_ ≤ 256)) with hb3 | hb3
      ·refine Zv (decide (n_ ≤ 256)) true hb3 ?_
       refine Zb [pV bs_, pV bs_, .pointer (some ⟨bs_, 1, none⟩)] 3 ?_
       refine Zy (iV (w64 (s_.at_ + 1))) (Zl 3 (⟨bs_, 1, none⟩) (iV (w64 (s_.at_ + 1))) (H2.cell 0 rfl rfl)) ?_
       refine Zb [iV ((w64 (s_.at_ + 1)).tmod 2), .bool (((w64 (s_.at_ + 1)).tmod 2) == 0)] 7 ?_
       refine QRun_bool (((w64 (s_.at_ + 1)).tmod 2) == 0) ((decide (n_ ≤ 256)) && (((w64 (s_.at_ + 1)).tmod 2) == 0)) (by kernel_rfl) (fun w => by kernel_rfl) (by rw [hb3]; rfl) ?_
       exact Zd [0, 1, 5, 62]
      ·refine Zv (decide (n_ ≤ 256)) false hb3 ?_
       refine Zn ?_
       refine Zn ?_
       refine Zn ?_
       refine Zn ?_
       refine Zn ?_
       refine Zn ?_
       refine QRun_bool false ((decide (n_ ≤ 256)) && (((w64 (s_.at_ + 1)).tmod 2) == 0)) (by kernel_rfl) (fun w => by kernel_rfl) (by rw [hb3]; rfl) ?_
       exact Zd [0, 1, 5, 62]
     exact Zd [0, 1, 5, 62]
    refine Zc ((decide (n_ ≤ 256)) && (((w64 (s_.at_ + 1)).tmod 2) == 0)) (fun hb4 => ?_) (fun hb4 => ?_)
    ·have gs1 := (M.ite_some gs1).1 hb4
     obtain ⟨x3, hx2, gs1⟩ := M.bind_some gs1
     obtain ⟨hx2l, hx2u, hx2⟩ := M.idx_some hx2
     refine Run_draw 13 mixed (by kernel_rfl) (by kernel_rfl) (L' := [(1, iV n_), (5, iV (w64 (x3)))]) ?_ ?_
     ·refine Zb [pV bs_, pV bs_, pV bs_] 0 ?_
      refine Zy (.slice as_code s_.code.length cs_code) (Zl 22 (⟨bs_, 0, none⟩) (.slice as_code s_.code.length cs_code) (H2.cell 0 rfl rfl)) ?_
      refine Zb [pV bs_, pV bs_, .pointer (some ⟨bs_, 1, none⟩)] 4 ?_
      refine Zy (iV (w64 (s_.at_ + 1))) (Zl 3 (⟨bs_, 1, none⟩) (iV (w64 (s_.at_ + 1))) (H2.cell 0 rfl rfl)) ?_
      refine Zb [iV (w64 ((w64 (s_.at_ + 1)) - 1))] 8 ?_
      refine Zy (.pointer (some (adr as_code ((w64 ((w64 (s_.at_ + 1)) - 1)).toNat * 1)))) (Zi 22 5 1 (as_code) (s_.code.length) (cs_code) .i64 (w64 ((w64 (s_.at_ + 1)) - 1)) Tryd.underlying22 ((rs_code.at H2.ext).cell hx2).1 hx2l hx2u) ?_
      refine Zy (.int .u8 x3) (Zl 5 (adr as_code ((w64 ((w64 (s_.at_ + 1)) - 1)).toNat * 1)) (.int .u8 x3) (cd5_cell (rs_code.at H2.ext) hx2)) ?_
      refine Zb [iV (w64 (x3)), iV (w64 (x3))] 11 ?_
      exact Zd [1, 5]
     have gs1 := M.ret_some gs1
     subst gs1
     exact Zf [1, 5] ⟨rfl, H2⟩
    ·have gs1 := (M.ite_some gs1).2 hb4
     refine Run_skip ?_
     have gs1 := M.ret_some gs1
     subst gs1
     exact Zf [1, 5] ⟨rfl, H2⟩
   ·have gs1 := (M.ite_some gs1).2 hb2
    refine Run_skip ?_
    have gs1 := M.ret_some gs1
    subst gs1
    exact Zf [1, 5] ⟨rfl, H1⟩

theorem w_spec_l01Pick (h hE : Heap) (it : Item) (s_ : TL01source) (bs_ : Nat) (as_code : Option Addr) (cs_code : Nat) (rs_code : Rd cd5 h (Lt h) as_code cs_code s_.code) (list : List Int) (alist : Option Addr) (clist : Nat) (HM : Hold h hE [box bs_ 67 [.slice as_code s_.code.length cs_code, iV s_.at_, iV s_.seed], own cd2 alist list.length clist list, it]) (n : Nat) (r : Int × TL01source × (List Int)) (hF : spec_l01Pick s_ list n = some r) :
  Fn Tryd.prog 23 #[pV bs_, .slice alist list.length clist] hE fun v h' => v = iV r.1 ∧ Hold h h' [box bs_ 67 [.slice as_code s_.code.length cs_code, iV r.2.1.at_, iV r.2.1.seed], own cd2 alist list.length clist r.2.2, it] := by
 unfold spec_l01Pick at hF
 refine Zo [pV bs_, .slice alist list.length clist] Tryd.func23 rfl (fun w0 _ => ?_)
 refine Zs ?_
 refine Zq [iV 0] [0, 1] [(0, pV bs_), (1, .slice alist list.length clist)] ?_
 refine Zs ?_
 refine Run_ops ?_
 refine Zr [.slice alist list.length clist, pV bs_, .slice alist list.length clist, iV (list.length : Int)] 0 ?_
 obtain ⟨x1, hx1, hF⟩ := M.bind_some hF
 have H1 : Hold h hE [box bs_ 67 [.slice as_code s_.code.length cs_code, iV s_.at_, iV s_.seed], bun [own cd2 alist list.length clist list, it]] := Hold.bundle (S := [box bs_ 67 [.slice as_code s_.code.length cs_code, iV s_.at_, iV s_.seed]]) (R := [own cd2 alist list.length clist list, it]) HM
 refine Ze ?_
 refine ZC 22 #[pV bs_, iV (list.length : Int)] (w_spec_l01Next h hE _ s_ bs_ as_code cs_code rs_code (list.length : Int) H1 _ _ hx1) (fun v1 h1 hp1 => ?_)
 obtain ⟨rfl, H2⟩ := hp1
 have H3 : Hold h h1 [box bs_ 67 [.slice as_code s_.code.length cs_code, iV x1.2.at_, iV x1.2.seed], own cd2 alist list.length clist list, it] := Hold.unbundle (S := [box bs_ 67 [.slice as_code s_.code.length cs_code, iV x1.2.at_, iV x1.2.seed]]) (R := [own cd2 alist list.length clist list, it]) H2 (Hold.tailBase (S := [box bs_ 67 [.slice as_code s_.code.length cs_code, iV s_.at_, iV s_.seed]]) (R := [own cd2 alist list.length clist list, it]) HM)
 obtain ⟨x2, hx2, hF⟩ := M.bind_some hF
 obtain ⟨hx2l, hx2u, hx2⟩ := M.idx_some hx2
 refine Zz (.pointer (some (adr alist (x1.1.toNat * 1)))) (Zi 68 2 1 (alist) (list.length) (clist) .i64 (x1.1) Tryd.underlying68 ((H3.rd 1 rfl).cell hx2).1 hx2l hx2u) ?_
 refine Zz (iV x2) (Zl 2 (adr alist (x1.1.toNat * 1)) (iV x2) (cd2_cell (H3.rd 1 rfl) hx2)) ?_
 refine Zr [iV x2] 7 ?_
 refine Zx ?_
 refine Zk [4] [(4, iV x2)] ?_
 have hF := M.ret_some hF
 subst hF
 have H4 : Hold h h1 [own cd2 alist list.length clist list, box bs_ 67 [.slice as_code s_.code.length cs_code, iV x1.2.at_, iV x1.2.seed], it] := H3.pk [1, 0, 2]
 have H5 : Hold h h1 [box bs_ 67 [.slice as_code s_.code.length cs_code, iV x1.2.at_, iV x1.2.seed], own cd2 alist list.length clist list, it] := H4.pk [1, 0, 2]
 exact Run_ret1 rfl (Zt (iV x2)) ⟨rfl, H5⟩

theorem w_spec_l11Draw (h hE : Heap) (it : Item) (s_ : TL01source) (bs_ : Nat) (as_code : Option Addr) (cs_code : Nat) (rs_code : Rd cd5 h (Lt h) as_code cs_code s_.code) (HM : Hold h hE [box bs_ 67 [.slice as_code s_.code.length cs_code, iV s_.at_, iV s_.seed], it]) (n : Nat) (r : TGraph × TL01source) (hF : spec_l11Draw s_ n = some r) :
  Fn Tryd.prog 21 #[pV bs_] hE fun v h' => ∃ (a0 : Option Addr) (c0 : Nat), v = .agg #[iV r.1.Events, .slice a0 r.1.Places.length c0] ∧ Hold h h' [own cd28 a0 r.1.Places.length c0 r.1.Places, box bs_ 67 [.slice as_code s_.code.length cs_code, iV r.2.at_, iV r.2.seed], it] := by
 unfold spec_l11Draw at hF
 refine Zo [pV bs_] Tryd.func21 rfl (fun w0 _ => ?_)
 refine Zs ?_
 refine Run_ops ?_
 refine Ze ?_
 refine E_box (ty := 26) (cs := [iV 0, .slice none 0 0]) HM (fun w => by kernel_rfl) (fun b1 h1 H1 => ?_)
 refine Zx ?_
 refine Zk [0, 2] [(0, pV bs_), (2, pV b1)] ?_
 refine Zs ?_
 refine Run_ops ?_
 refine Zr [pV bs_] 0 ?_
 obtain ⟨x1, hx1, hF⟩ := M.bind_some hF
 have H2 : Hold h h1 [box bs_ 67 [.slice as_code s_.code.length cs_code, iV s_.at_, iV s_.seed], box b1 26 [iV 0, .slice none 0 0], it] := H1.pk [1, 0, 2]
 have H3 : Hold h h1 [box bs_ 67 [.slice as_code s_.code.length cs_code, iV s_.at_, iV s_.seed], bun [box b1 26 [iV 0, .slice none 0 0], it]] := H2.bd 1
 refine Ze ?_
 refine ZC 22 #[pV bs_, iV 5] (w_spec_l01Next h h1 _ s_ bs_ as_code cs_code rs_code 5 H3 _ _ hx1) (fun v1 h2 hp1 => ?_)
 obtain ⟨rfl, H4⟩ := hp1
 have H5 : Hold h h2 [box bs_ 67 [.slice as_code s_.code.length cs_code, iV x1.2.at_, iV x1.2.seed], box b1 26 [iV 0, .slice none 0 0], it] := H4.ub (js := _) 1 1 H2
 refine Zr [iV (w64 (1 + x1.1))] 2 ?_
 refine Ze ?_
 refine E_lit (C := cd28) (n := 0) (l := ([] : List TPlace)) (cs := []) H5 (fun w => by kernel_rfl) (Enc.nil _ _) rfl (by decide) (fun a1 h3 H6 => ?_)
 refine Zr [.agg #[iV (w64 (1 + x1.1)), .slice a1 0 0]] 4 ?_
 refine Ze ?_
 refine E_box (ty := 26) (cs := [iV 0, .slice none 0 0]) H6 (fun w => by kernel_rfl) (fun b2 h4 H7 => ?_)
 refine Ze ?_
 refine ZP 26 0 [iV (w64 (1 + x1.1)), .slice a1 0 0] (.agg #[iV (w64 (1 + x1.1)), .slice a1 0 0]) H7 (fun h5 H8 => ?_)
 refine Zx ?_
 refine Zk [0, 2, 3] [(0, pV bs_), (2, pV b1), (3, pV b2)] ?_
 refine Zs ?_
 refine Zs ?_
 refine Run_ops ?_
 refine Zr [pV bs_] 0 ?_
 obtain ⟨x2, hx2, hF⟩ := M.bind_some hF
 have H9 : Hold h h5 [box bs_ 67 [.slice as_code s_.code.length cs_code, iV x1.2.at_, iV x1.2.seed], box b2 26 [iV (w64 (1 + x1.1)), .slice a1 0 0], own cd28 a1 0 0 ([] : List TPlace), box b1 26 [iV 0, .slice none 0 0], it] := H8.pk [2, 0, 1, 3, 4]
 have H10 : Hold h h5 [box bs_ 67 [.slice as_code s_.code.length cs_code, iV x1.2.at_, iV x1.2.seed], bun [box b2 26 [iV (w64 (1 + x1.1)), .slice a1 0 0], own cd28 a1 0 0 ([] : List TPlace), box b1 26 [iV 0, .slice none 0 0], it]] := H9.bd 1
 refine Ze ?_
 refine ZC 22 #[pV bs_, iV 9] (w_spec_l01Next h h5 _ (⟨s_.code, x1.2.at_, x1.2.seed⟩ : TL01source) bs_ as_code cs_code rs_code 9 H10 _ _ hx2) (fun v2 h6 hp2 => ?_)
 obtain ⟨rfl, H11⟩ := hp2
 have H12 : Hold h h6 [box bs_ 67 [.slice as_code s_.code.length cs_code, iV x2.2.at_, iV x2.2.seed], box b2 26 [iV (w64 (1 + x1.1)), .slice a1 0 0], own cd28 a1 0 0 ([] : List TPlace), box b1 26 [iV 0, .slice none 0 0], it] := H11.ub (js := _) 1 1 H9
 refine Zr [iV x2.1] 2 ?_
 refine Zx ?_
 refine Zk [0, 2, 3, 4] [(0, pV bs_), (2, pV b1), (3, pV b2), (4, iV x2.1)] ?_
 obtain ⟨x3, gx3, hF⟩ := M.bind_some hF
 refine Run_join (fun L' h' => ∃ (a3 : Option Addr) (c2 : Nat), L' = [(0, pV bs_), (2, pV b1), (3, pV b2)] ∧ Hold h h' [box bs_ 67 [.slice as_code s_.code.length cs_code, iV x3.1, iV x3.2.1], box b1 26 [iV 0, .slice none 0 0], box b2 26 [iV (w64 (1 + x1.1)), .slice a3 x3.2.2.1.length c2], own cd28 a3 x3.2.2.1.length c2 x3.2.2.1, it]) ?_ ?_
 ·rintro _ h8 ⟨a3, c2, rfl, H14⟩
  refine Zs ?_
  refine Zs ?_
  refine Run_ops ?_
  refine Zr [pV bs_] 0 ?_
  obtain ⟨x17, hx16, hF⟩ := M.bind_some hF
  have H127 : Hold h h8 [box bs_ 67 [.slice as_code s_.code.length cs_code, iV x3.1, iV x3.2.1], bun [box b1 26 [iV 0, .slice none 0 0], box b2 26 [iV (w64 (1 + x1.1)), .slice a3 x3.2.2.1.length c2], own cd28 a3 x3.2.2.1.length c2 x3.2.2.1, it]] := H14.bd 1
  refine Ze ?_
  refine ZC 22 #[pV bs_, iV 60] (w_spec_l01Next h h8 _ (⟨s_.code, x3.1, x3.2.1⟩ : TL01source) bs_ as_code cs_code rs_code 60 H127 _ _ hx16) (fun v16 h56 hp16 => ?_)
  obtain ⟨rfl, H128⟩ := hp16
  have H129 : Hold h h56 [box bs_ 67 [.slice as_code s_.code.length cs_code, iV x17.2.at_, iV x17.2.seed], box b1 26 [iV 0, .slice none 0 0], box b2 26 [iV (w64 (1 + x1.1)), .slice a3 x3.2.2.1.length c2], own cd28 a3 x3.2.2.1.length c2 x3.2.2.1, it] := H128.ub (js := _) 1 1 H14
  refine Zx ?_
  refine Zk [0, 2, 3, 57] [(0, pV bs_), (2, pV b1), (3, pV b2), (57, iV x17.1)] ?_
  refine Run_block ?_
  refine Zs ?_
  refine Zq [.bool (x17.1 == 0), .bool (x17.1 == 0)] [0, 2, 3, 57, 58] [(0, pV bs_), (2, pV b1), (3, pV b2), (57, iV x17.1), (58, .bool (x17.1 == 0))] ?_
  obtain ⟨s6, gs6, hF⟩ := M.bind_some hF
  refine Run_join (fun L' h' => ∃ (a26 : Option Addr), ∃ (c12 : Nat), L' = [(2, pV b1), (3, pV b2)] ∧ Hold h h' [box b1 26 [iV 0, .slice none 0 0], box b2 26 [iV s6.1, .slice a26 s6.2.1.length c12], own cd28 a26 s6.2.1.length c12 s6.2.1, box bs_ 67 [.slice as_code s_.code.length cs_code, iV s6.2.2.1, iV s6.2.2.2], it]) ?_ ?_
  ·rintro _ h113 ⟨a26, c12, rfl, H297⟩
   refine Run_blk ?_
   refine Zs ?_
   refine Run_ops ?_
   refine Zz (.agg #[iV s6.1, .slice a26 s6.2.1.length c12]) (Y_loadA (t := 26) (n := 2) (p := ⟨b2, 0, none⟩) (cs := [iV s6.1, .slice a26 s6.2.1.length c12]) (by kernel_rfl) (fun w => by kernel_rfl) (by kernel_rfl) rfl (H297.cells (n := 2) (off := 0) 1 rfl rfl)) ?_
   refine Ze ?_
   refine ZP 26 0 [iV s6.1, .slice a26 s6.2.1.length c12] (.agg #[iV s6.1, .slice a26 s6.2.1.length c12]) H297 (fun h114 H308 => ?_)
   refine Zx ?_
   refine Zk [2] [(2, pV b1)] ?_
   have hF := M.ret_some hF
   subst hF
   have H309 : Hold h h114 [own cd28 a26 s6.2.1.length c12 s6.2.1, box b1 26 [iV s6.1, .slice a26 s6.2.1.length c12], box b2 26 [iV s6.1, .slice a26 s6.2.1.length c12], box bs_ 67 [.slice as_code s_.code.length cs_code, iV s6.2.2.1, iV s6.2.2.2], it] := H308.pk [2, 0, 1, 3, 4]
   have H310 : Hold h h114 [own cd28 a26 s6.2.1.length c12 s6.2.1, box bs_ 67 [.slice as_code s_.code.length cs_code, iV s6.2.2.1, iV s6.2.2.2], it] := H309.pk [0, 3, 4]
   exact Run_ret1 rfl (ResV_cell (n := 2) (cs := [iV s6.1, .slice a26 s6.2.1.length c12]) (by kernel_rfl) (fun w => by kernel_rfl) (by kernel_rfl) rfl (H308.cells (n := 2) (off := 0) 0 rfl rfl)) ⟨a26, c12, rfl, H310⟩
  ·refine Zc (x17.1 == 0) (fun hb5 => ?_) (fun hb5 => ?_)
   ·have gs6 := (M.ite_some gs6).1 hb5
    refine Run_ops ?_
    refine Zr [pV bs_] 0 ?_
    refine Ze ?_
    refine E_lit (C := cd2) (n := 3) (l := ([0, 10, 11] : List Int)) (cs := [iV 0, iV 10, iV 11]) H129 (fun w => by kernel_rfl) (Enc.consE (cd2_own 0 _) (Enc.consE (cd2_own 10 _) (Enc.consE (cd2_own 11 _) (Enc.nil _ _) rfl) rfl) rfl) rfl (by decide) (fun a6 h57 H130 => ?_)
    obtain ⟨x18, hx17, gs6⟩ := M.bind_some gs6
    have hn1 := (H130.len 0 rfl)
    have H131 : Hold h h57 [own cd2 a6 (([0, 10, 11] : List Int).length) 3 ([0, 10, 11] : List Int), box bs_ 67 [.slice as_code s_.code.length cs_code, iV x17.2.at_, iV x17.2.seed], box b1 26 [iV 0, .slice none 0 0], box b2 26 [iV (w64 (1 + x1.1)), .slice a3 x3.2.2.1.length c2], own cd28 a3 x3.2.2.1.length c2 x3.2.2.1, it] := by rw [hn1]; exact H130
    have H132 : Hold h h57 [box bs_ 67 [.slice as_code s_.code.length cs_code, iV x17.2.at_, iV x17.2.seed], own cd2 a6 (([0, 10, 11] : List Int).length) 3 ([0, 10, 11] : List Int), box b1 26 [iV 0, .slice none 0 0], box b2 26 [iV (w64 (1 + x1.1)), .slice a3 x3.2.2.1.length c2], own cd28 a3 x3.2.2.1.length c2 x3.2.2.1, it] := H131.pk [1, 0, 2, 3, 4, 5]
    have H133 : Hold h h57 [box bs_ 67 [.slice as_code s_.code.length cs_code, iV x17.2.at_, iV x17.2.seed], own cd2 a6 (([0, 10, 11] : List Int).length) 3 ([0, 10, 11] : List Int), bun [box b1 26 [iV 0, .slice none 0 0], box b2 26 [iV (w64 (1 + x1.1)), .slice a3 x3.2.2.1.length c2], own cd28 a3 x3.2.2.1.length c2 x3.2.2.1, it]] := H132.bd 2
    refine Ze ?_
    refine ZC 23 #[pV bs_, .slice a6 3 3] (Fn.arg (w_spec_l01Pick h h57 _ (⟨s_.code, x17.2.at_, x17.2.seed⟩ : TL01source) bs_ as_code cs_code rs_code ([0, 10, 11] : List Int) a6 3 H133 _ _ hx17) (by simp only [hn1])) (fun v17 h58 hp17 => ?_)
    obtain ⟨rfl, H134⟩ := hp17
    have H135 : Hold h h58 [box bs_ 67 [.slice as_code s_.code.length cs_code, iV x18.2.1.at_, iV x18.2.1.seed], own cd2 a6 (([0, 10, 11] : List Int).length) 3 x18.2.2, box b1 26 [iV 0, .slice none 0 0], box b2 26 [iV (w64 (1 + x1.1)), .slice a3 x3.2.2.1.length c2], own cd28 a3 x3.2.2.1.length c2 x3.2.2.1, it] := H134.ub (js := _) 2 2 H132
    refine Zr [pV b2] 3 ?_
    have H137 : Hold h h58 [box b2 26 [iV (w64 (1 + x1.1)), .slice a3 x3.2.2.1.length c2], box bs_ 67 [.slice as_code s_.code.length cs_code, iV x18.2.1.at_, iV x18.2.1.seed], own cd2 a6 (([0, 10, 11] : List Int).length) 3 x18.2.2, box b1 26 [iV 0, .slice none 0 0], own cd28 a3 x3.2.2.1.length c2 x3.2.2.1, it] := H135.pk [3, 0, 1, 2, 4, 5]
    refine Ze ?_
    refine ZP 2 0 [iV x18.1, .slice a3 x3.2.2.1.length c2] (iV x18.1) H137 (fun h59 H136 => ?_)
    refine Zx ?_
    refine Zk [2, 3] [(2, pV b1), (3, pV b2)] ?_
    have H298 : Hold h h59 [own cd28 a3 x3.2.2.1.length c2 x3.2.2.1, box b2 26 [iV x18.1, .slice a3 x3.2.2.1.length c2], box bs_ 67 [.slice as_code s_.code.length cs_code, iV x18.2.1.at_, iV x18.2.1.seed], own cd2 a6 (([0, 10, 11] : List Int).length) 3 x18.2.2, box b1 26 [iV 0, .slice none 0 0], it] := H136.pk [4, 0, 1, 2, 3, 5]
    have H299 : Hold h h59 [box b1 26 [iV 0, .slice none 0 0], box b2 26 [iV x18.1, .slice a3 x3.2.2.1.length c2], own cd28 a3 x3.2.2.1.length c2 x3.2.2.1, box bs_ 67 [.slice as_code s_.code.length cs_code, iV x18.2.1.at_, iV x18.2.1.seed], it] := H298.pk [4, 1, 0, 2, 5]
    have gs6 := M.ret_some gs6
    subst gs6
    exact Zf [2, 3] ⟨a3, c2, rfl, H299⟩
   ·have gs6 := (M.ite_some gs6).2 hb5
    refine Zs ?_
    refine Zq [.bool (x17.1 == 1), .bool (x17.1 == 1)] [0, 2, 3, 57, 64] [(0, pV bs_), (2, pV b1), (3, pV b2), (57, iV x17.1), (64, .bool (x17.1 == 1))] ?_
    refine Zc (x17.1 == 1) (fun hb6 => ?_) (fun hb6 => ?_)
    ·have gs6 := (M.ite_some gs6).1 hb6
     obtain ⟨s7, gs7, gs6⟩ := M.bind_some gs6
     refine Run_join (fun L' h' => ∃ (a18 : Option Addr), ∃ (c7 : Nat), L' = [(2, pV b1), (3, pV b2)] ∧ Hold h h' [box b1 26 [iV 0, .slice none 0 0], box b2 26 [iV (w64 (1 + x1.1)), .slice a18 s7.1.length c7], own cd28 a18 s7.1.length c7 s7.1, box bs_ 67 [.slice as_code s_.code.length cs_code, iV s7.2.1, iV s7.2.2], it]) ?_ ?_
     ·rintro _ h97 ⟨a18, c7, rfl, H231⟩
      have H300 : Hold h h97 [own cd28 a18 s7.1.length c7 s7.1, box b1 26 [iV 0, .slice none 0 0], box b2 26 [iV (w64 (1 + x1.1)), .slice a18 s7.1.length c7], box bs_ 67 [.slice as_code s_.code.length cs_code, iV s7.2.1, iV s7.2.2], it] := H231.pk [2, 0, 1, 3, 4]
      have H301 : Hold h h97 [box b1 26 [iV 0, .slice none 0 0], box b2 26 [iV (w64 (1 + x1.1)), .slice a18 s7.1.length c7], own cd28 a18 s7.1.length c7 s7.1, box bs_ 67 [.slice as_code s_.code.length cs_code, iV s7.2.1, iV s7.2.2], it] := H300.pk [1, 2, 0, 3, 4]
      have gs6 := M.ret_some gs6
      subst gs6
      exact Zf [2, 3] ⟨a18, c7, rfl, H301⟩
     ·refine Run_D (fun x => Hold h x [box b1 26 [iV 0, .slice none 0 0], box b2 26 [iV (w64 (1 + x1.1)), .slice a3 x3.2.2.1.length c2], own cd28 a3 x3.2.2.1.length c2 x3.2.2.1, it]) (fun x => Hold h x [box bs_ 67 [.slice as_code s_.code.length cs_code, iV x17.2.at_, iV x17.2.seed], box b1 26 [iV 0, .slice none 0 0], box b2 26 [iV (w64 (1 + x1.1)), .slice a3 x3.2.2.1.length c2], own cd28 a3 x3.2.2.1.length c2 x3.2.2.1, it]) mixed (by kernel_rfl) H129 Hold.stable (fun x Hy => (show Hold h x [box bs_ 67 [.slice as_code s_.code.length cs_code, iV x17.2.at_, iV x17.2.seed], box b1 26 [iV 0, .slice none 0 0], box b2 26 [iV (w64 (1 + x1.1)), .slice a3 x3.2.2.1.length c2], own cd28 a3 x3.2.2.1.length c2 x3.2.2.1, it] from Hy).pk [1, 2, 3, 4]) ?_
      refine ZB 14 [.pointer (some ⟨b2, 1, none⟩)] 0 ?_
      refine ZY 13 1 (.slice a3 x3.2.2.1.length c2) (fun hx Hx => (YE.of (Zl 24 (⟨b2, 1, none⟩) (.slice a3 x3.2.2.1.length c2) (Hx.cell 1 rfl rfl)))) ?_
      refine ZB 11 [pV bs_, pV b2] 2 ?_
      refine ZY 10 4 (iV (w64 (1 + x1.1))) (fun hx Hx => (YE.of (Zl 2 (⟨b2, 0, none⟩) (iV (w64 (1 + x1.1))) (Hx.cell 1 rfl rfl)))) ?_
      refine ZB 9 [pV bs_] 7 ?_
      refine DR_e2 8 5 8 (by kernel_rfl) (by kernel_rfl) (by kernel_rfl) (by kernel_rfl) ?_ ?_
      ·intro h60 H138
       have H139 := H138
       refine E_lit (C := cd2) (n := 3) (l := ([(-1), 0, (w64 (1 + x1.1))] : List Int)) (cs := [iV (-1), iV 0, iV (w64 (1 + x1.1))]) H139 (fun w => by kernel_rfl) (Enc.consE (cd2_own (-1) _) (Enc.consE (cd2_own 0 _) (Enc.consE (cd2_own (w64 (1 + x1.1)) _) (Enc.nil _ _) rfl) rfl) rfl) rfl (by decide) (fun a7 h61 H140 => ?_)
       refine ZA [box b1 26 [iV 0, .slice none 0 0], box b2 26 [iV (w64 (1 + x1.1)), .slice a3 x3.2.2.1.length c2], own cd28 a3 x3.2.2.1.length c2 x3.2.2.1, it] [2, 3, 4, 5] [0, 1, 2, 3] H140 ?_
       refine DR_e2 7 6 8 (by kernel_rfl) (by kernel_rfl) (by kernel_rfl) (by kernel_rfl) ?_ ?_
       ·intro h62 H141
        have H142 := H141
        obtain ⟨x19, hx18, gs7⟩ := M.bind_some gs7
        have hn2 := (H142.len 0 rfl)
        have H143 : Hold h h62 [own cd2 a7 (([(-1), 0, (w64 (1 + x1.1))] : List Int).length) 3 ([(-1), 0, (w64 (1 + x1.1))] : List Int), box bs_ 67 [.slice as_code s_.code.length cs_code, iV x17.2.at_, iV x17.2.seed], box b1 26 [iV 0, .slice none 0 0], box b2 26 [iV (w64 (1 + x1.1)), .slice a3 x3.2.2.1.length c2], own cd28 a3 x3.2.2.1.length c2 x3.2.2.1, it] := by rw [hn2]; exact H142
        have H144 : Hold h h62 [box bs_ 67 [.slice as_code s_.code.length cs_code, iV x17.2.at_, iV x17.2.seed], own cd2 a7 (([(-1), 0, (w64 (1 + x1.1))] : List Int).length) 3 ([(-1), 0, (w64 (1 + x1.1))] : List Int), box b1 26 [iV 0, .slice none 0 0], box b2 26 [iV (w64 (1 + x1.1)), .slice a3 x3.2.2.1.length c2], own cd28 a3 x3.2.2.1.length c2 x3.2.2.1, it] := H143.pk [1, 0, 2, 3, 4, 5]
        have H145 : Hold h h62 [box bs_ 67 [.slice as_code s_.code.length cs_code, iV x17.2.at_, iV x17.2.seed], own cd2 a7 (([(-1), 0, (w64 (1 + x1.1))] : List Int).length) 3 ([(-1), 0, (w64 (1 + x1.1))] : List Int), bun [box b1 26 [iV 0, .slice none 0 0], box b2 26 [iV (w64 (1 + x1.1)), .slice a3 x3.2.2.1.length c2], own cd28 a3 x3.2.2.1.length c2 x3.2.2.1, it]] := H144.bd 2
        refine ZC 23 #[pV bs_, .slice a7 3 3] (Fn.arg (w_spec_l01Pick h h62 _ (⟨s_.code, x17.2.at_, x17.2.seed⟩ : TL01source) bs_ as_code cs_code rs_code ([(-1), 0, (w64 (1 + x1.1))] : List Int) a7 3 H145 _ _ hx18) (by simp only [hn2])) (fun v18 h63 hp18 => ?_)
        obtain ⟨rfl, H146⟩ := hp18
        have H147 : Hold h h63 [box bs_ 67 [.slice as_code s_.code.length cs_code, iV x19.2.1.at_, iV x19.2.1.seed], own cd2 a7 (([(-1), 0, (w64 (1 + x1.1))] : List Int).length) 3 x19.2.2, box b1 26 [iV 0, .slice none 0 0], box b2 26 [iV (w64 (1 + x1.1)), .slice a3 x3.2.2.1.length c2], own cd28 a3 x3.2.2.1.length c2 x3.2.2.1, it] := H146.ub (js := _) 2 2 H144
        refine ZA [box b1 26 [iV 0, .slice none 0 0], box b2 26 [iV (w64 (1 + x1.1)), .slice a3 x3.2.2.1.length c2], own cd28 a3 x3.2.2.1.length c2 x3.2.2.1, it] [2, 3, 4, 5] [0, 1, 2, 3] H147 ?_
        refine ZE 6 8 (fun h64 H148 => ?_)
        have H149 := H148
        refine E_lit (C := cd2) (n := 3) (l := ([(-1), 1000, 1001] : List Int)) (cs := [iV (-1), iV 1000, iV 1001]) H149 (fun w => by kernel_rfl) (Enc.consE (cd2_own (-1) _) (Enc.consE (cd2_own 1000 _) (Enc.consE (cd2_own 1001 _) (Enc.nil _ _) rfl) rfl) rfl) rfl (by decide) (fun a8 h65 H150 => ?_)
        refine ZA [box b1 26 [iV 0, .slice none 0 0], box b2 26 [iV (w64 (1 + x1.1)), .slice a3 x3.2.2.1.length c2], own cd28 a3 x3.2.2.1.length c2 x3.2.2.1, it] [3, 4, 5, 6] [0, 1, 2, 3] H150 ?_
        refine ZE 5 9 (fun h66 H151 => ?_)
        have H152 := H151
        obtain ⟨x20, hx19, gs7⟩ := M.bind_some gs7
        have hn3 := (H152.len 0 rfl)
        have H153 : Hold h h66 [own cd2 a8 (([(-1), 1000, 1001] : List Int).length) 3 ([(-1), 1000, 1001] : List Int), box bs_ 67 [.slice as_code s_.code.length cs_code, iV x19.2.1.at_, iV x19.2.1.seed], own cd2 a7 (([(-1), 0, (w64 (1 + x1.1))] : List Int).length) 3 x19.2.2, box b1 26 [iV 0, .slice none 0 0], box b2 26 [iV (w64 (1 + x1.1)), .slice a3 x3.2.2.1.length c2], own cd28 a3 x3.2.2.1.length c2 x3.2.2.1, it] := by rw [hn3]; exact H152
        have H154 : Hold h h66 [box bs_ 67 [.slice as_code s_.code.length cs_code, iV x19.2.1.at_, iV x19.2.1.seed], own cd2 a8 (([(-1), 1000, 1001] : List Int).length) 3 ([(-1), 1000, 1001] : List Int), own cd2 a7 (([(-1), 0, (w64 (1 + x1.1))] : List Int).length) 3 x19.2.2, box b1 26 [iV 0, .slice none 0 0], box b2 26 [iV (w64 (1 + x1.1)), .slice a3 x3.2.2.1.length c2], own cd28 a3 x3.2.2.1.length c2 x3.2.2.1, it] := H153.pk [1, 0, 2, 3, 4, 5, 6]
        have H155 : Hold h h66 [box bs_ 67 [.slice as_code s_.code.length cs_code, iV x19.2.1.at_, iV x19.2.1.seed], own cd2 a8 (([(-1), 1000, 1001] : List Int).length) 3 ([(-1), 1000, 1001] : List Int), bun [own cd2 a7 (([(-1), 0, (w64 (1 + x1.1))] : List Int).length) 3 x19.2.2, box b1 26 [iV 0, .slice none 0 0], box b2 26 [iV (w64 (1 + x1.1)), .slice a3 x3.2.2.1.length c2], own cd28 a3 x3.2.2.1.length c2 x3.2.2.1, it]] := H154.bd 2
        refine ZC 23 #[pV bs_, .slice a8 3 3] (Fn.arg (w_spec_l01Pick h h66 _ (⟨s_.code, x19.2.1.at_, x19.2.1.seed⟩ : TL01source) bs_ as_code cs_code rs_code ([(-1), 1000, 1001] : List Int) a8 3 H155 _ _ hx19) (by simp only [hn3])) (fun v19 h67 hp19 => ?_)
        obtain ⟨rfl, H156⟩ := hp19
        have H157 : Hold h h67 [box bs_ 67 [.slice as_code s_.code.length cs_code, iV x20.2.1.at_, iV x20.2.1.seed], own cd2 a8 (([(-1), 1000, 1001] : List Int).length) 3 x20.2.2, own cd2 a7 (([(-1), 0, (w64 (1 + x1.1))] : List Int).length) 3 x19.2.2, box b1 26 [iV 0, .slice none 0 0], box b2 26 [iV (w64 (1 + x1.1)), .slice a3 x3.2.2.1.length c2], own cd28 a3 x3.2.2.1.length c2 x3.2.2.1, it] := H156.ub (js := _) 2 2 H154
        refine ZA [box b1 26 [iV 0, .slice none 0 0], box b2 26 [iV (w64 (1 + x1.1)), .slice a3 x3.2.2.1.length c2], own cd28 a3 x3.2.2.1.length c2 x3.2.2.1, it] [3, 4, 5, 6] [0, 1, 2, 3] H157 ?_
        refine ZB 4 [.agg #[iV x19.1, iV 0, iV x20.1, iV 1]] 10 ?_
        refine ZE 3 11 (fun h68 H158 => ?_)
        have H159 := H158
        refine E_lit (C := cd28) (n := 1) (l := ([⟨x19.1, 0, x20.1, 1⟩] : List TPlace)) (cs := [iV x19.1, iV 0, iV x20.1, iV 1]) H159 (fun w => by kernel_rfl) (Enc.consE (cd28_own (⟨x19.1, 0, x20.1, 1⟩ : TPlace) _) (Enc.nil _ _) rfl) rfl (by decide) (fun a9 h69 H160 => ?_)
        refine ZA [box b1 26 [iV 0, .slice none 0 0], box b2 26 [iV (w64 (1 + x1.1)), .slice a3 x3.2.2.1.length c2], own cd28 a3 x3.2.2.1.length c2 x3.2.2.1, it, own cd28 a9 1 1 ([⟨x19.1, 0, x20.1, 1⟩] : List TPlace)] [4, 5, 6, 7, 0] [0, 1, 2, 3] H160 ?_
        refine ZT 12 (fun h70 H161 => ?_)
        have H162 := H161
        obtain ⟨l2, hl2, gs7⟩ := M.bind_some gs7
        have hl2 := M.app_some hl2
        have H163 : Hold h h70 [own cd28 a3 x3.2.2.1.length c2 x3.2.2.1, own cd28 a9 1 1 ([⟨x19.1, 0, x20.1, 1⟩] : List TPlace), box bs_ 67 [.slice as_code s_.code.length cs_code, iV x20.2.1.at_, iV x20.2.1.seed], own cd2 a8 (([(-1), 1000, 1001] : List Int).length) 3 x20.2.2, own cd2 a7 (([(-1), 0, (w64 (1 + x1.1))] : List Int).length) 3 x19.2.2, box b1 26 [iV 0, .slice none 0 0], box b2 26 [iV (w64 (1 + x1.1)), .slice a3 x3.2.2.1.length c2], it] := H162.pk [6, 0, 1, 2, 3, 4, 5, 7]
        have H164 : Hold h h70 [own cd28 a9 1 1 ([⟨x19.1, 0, x20.1, 1⟩] : List TPlace), own cd28 a3 x3.2.2.1.length c2 x3.2.2.1, box bs_ 67 [.slice as_code s_.code.length cs_code, iV x20.2.1.at_, iV x20.2.1.seed], own cd2 a8 (([(-1), 1000, 1001] : List Int).length) 3 x20.2.2, own cd2 a7 (([(-1), 0, (w64 (1 + x1.1))] : List Int).length) 3 x19.2.2, box b1 26 [iV 0, .slice none 0 0], box b2 26 [iV (w64 (1 + x1.1)), .slice a3 x3.2.2.1.length c2], it] := H163.pk [1, 0, 2, 3, 4, 5, 6, 7]
        have H165 : Hold h h70 [own cd28 a3 x3.2.2.1.length c2 x3.2.2.1, own cd28 a9 1 1 ([⟨x19.1, 0, x20.1, 1⟩] : List TPlace), box bs_ 67 [.slice as_code s_.code.length cs_code, iV x20.2.1.at_, iV x20.2.1.seed], own cd2 a8 (([(-1), 1000, 1001] : List Int).length) 3 x20.2.2, own cd2 a7 (([(-1), 0, (w64 (1 + x1.1))] : List Int).length) 3 x19.2.2, box b1 26 [iV 0, .slice none 0 0], box b2 26 [iV (w64 (1 + x1.1)), .slice a3 x3.2.2.1.length c2], it] := H164.pk [1, 0, 2, 3, 4, 5, 6, 7]
        refine Ze ?_
        refine E_app (C := cd28) (t := 24) (ty := 24) (n := x3.2.2.1.length) (m := 1) H165 cd28_ti rfl Tryd.underlying24 (by decide) (by kernel_rfl) hl2 (fun a10 c4 h71 H166 => ?_)
        refine Zr [.pointer (some ⟨b2, 1, none⟩)] 13 ?_
        have H168 : Hold h h71 [box b2 26 [iV (w64 (1 + x1.1)), .slice a3 x3.2.2.1.length c2], own cd28 a10 l2.length c4 l2, box bs_ 67 [.slice as_code s_.code.length cs_code, iV x20.2.1.at_, iV x20.2.1.seed], own cd2 a8 (([(-1), 1000, 1001] : List Int).length) 3 x20.2.2, own cd2 a7 (([(-1), 0, (w64 (1 + x1.1))] : List Int).length) 3 x19.2.2, box b1 26 [iV 0, .slice none 0 0], it] := H166.pk [5, 0, 1, 2, 3, 4, 6]
        refine Ze ?_
        refine ZP 24 1 [iV (w64 (1 + x1.1)), .slice a10 l2.length c4] (.slice a10 l2.length c4) H168 (fun h72 H167 => ?_)
        refine Zx ?_
        refine Zk [2, 3] [(2, pV b1), (3, pV b2)] ?_
        have H252 : Hold h h72 [own cd28 a10 l2.length c4 l2, box b2 26 [iV (w64 (1 + x1.1)), .slice a10 l2.length c4], box bs_ 67 [.slice as_code s_.code.length cs_code, iV x20.2.1.at_, iV x20.2.1.seed], own cd2 a8 (([(-1), 1000, 1001] : List Int).length) 3 x20.2.2, own cd2 a7 (([(-1), 0, (w64 (1 + x1.1))] : List Int).length) 3 x19.2.2, box b1 26 [iV 0, .slice none 0 0], it] := H167.pk [1, 0, 2, 3, 4, 5, 6]
        have H253 : Hold h h72 [box b1 26 [iV 0, .slice none 0 0], box b2 26 [iV (w64 (1 + x1.1)), .slice a10 l2.length c4], own cd28 a10 l2.length c4 l2, box bs_ 67 [.slice as_code s_.code.length cs_code, iV x20.2.1.at_, iV x20.2.1.seed], it] := H252.pk [5, 1, 0, 2, 6]
        have gs7 := M.ret_some gs7
        subst gs7
        exact Zf [2, 3] ⟨a10, c4, rfl, H253⟩
       ·intro h73 H169
        have H170 := H169
        refine E_lit (C := cd2) (n := 3) (l := ([(-1), 1000, 1001] : List Int)) (cs := [iV (-1), iV 1000, iV 1001]) H170 (fun w => by kernel_rfl) (Enc.consE (cd2_own (-1) _) (Enc.consE (cd2_own 1000 _) (Enc.consE (cd2_own 1001 _) (Enc.nil _ _) rfl) rfl) rfl) rfl (by decide) (fun a11 h74 H171 => ?_)
        refine ZA [box b1 26 [iV 0, .slice none 0 0], box b2 26 [iV (w64 (1 + x1.1)), .slice a3 x3.2.2.1.length c2], own cd28 a3 x3.2.2.1.length c2 x3.2.2.1, it] [3, 4, 5, 6] [0, 1, 2, 3] H171 ?_
        refine ZE 6 6 (fun h75 H172 => ?_)
        have H173 := H172
        obtain ⟨x21, hx20, gs7⟩ := M.bind_some gs7
        have H174 : Hold h h75 [own cd2 a7 3 3 ([(-1), 0, (w64 (1 + x1.1))] : List Int), own cd2 a11 3 3 ([(-1), 1000, 1001] : List Int), box bs_ 67 [.slice as_code s_.code.length cs_code, iV x17.2.at_, iV x17.2.seed], box b1 26 [iV 0, .slice none 0 0], box b2 26 [iV (w64 (1 + x1.1)), .slice a3 x3.2.2.1.length c2], own cd28 a3 x3.2.2.1.length c2 x3.2.2.1, it] := H173.pk [1, 0, 2, 3, 4, 5, 6]
        have hn4 := (H174.len 0 rfl)
        have H175 : Hold h h75 [own cd2 a7 (([(-1), 0, (w64 (1 + x1.1))] : List Int).length) 3 ([(-1), 0, (w64 (1 + x1.1))] : List Int), own cd2 a11 3 3 ([(-1), 1000, 1001] : List Int), box bs_ 67 [.slice as_code s_.code.length cs_code, iV x17.2.at_, iV x17.2.seed], box b1 26 [iV 0, .slice none 0 0], box b2 26 [iV (w64 (1 + x1.1)), .slice a3 x3.2.2.1.length c2], own cd28 a3 x3.2.2.1.length c2 x3.2.2.1, it] := by rw [hn4]; exact H174
        have H176 : Hold h h75 [box bs_ 67 [.slice as_code s_.code.length cs_code, iV x17.2.at_, iV x17.2.seed], own cd2 a7 (([(-1), 0, (w64 (1 + x1.1))] : List Int).length) 3 ([(-1), 0, (w64 (1 + x1.1))] : List Int), own cd2 a11 3 3 ([(-1), 1000, 1001] : List Int), box b1 26 [iV 0, .slice none 0 0], box b2 26 [iV (w64 (1 + x1.1)), .slice a3 x3.2.2.1.length c2], own cd28 a3 x3.2.2.1.length c2 x3.2.2.1, it] := H175.pk [2, 0, 1, 3, 4, 5, 6]
        have H177 : Hold h h75 [box bs_ 67 [.slice as_code s_.code.length cs_code, iV x17.2.at_, iV x17.2.seed], own cd2 a7 (([(-1), 0, (w64 (1 + x1.1))] : List Int).length) 3 ([(-1), 0, (w64 (1 + x1.1))] : List Int), bun [own cd2 a11 3 3 ([(-1), 1000, 1001] : List Int), box b1 26 [iV 0, .slice none 0 0], box b2 26 [iV (w64 (1 + x1.1)), .slice a3 x3.2.2.1.length c2], own cd28 a3 x3.2.2.1.length c2 x3.2.2.1, it]] := H176.bd 2
        refine ZC 23 #[pV bs_, .slice a7 3 3] (Fn.arg (w_spec_l01Pick h h75 _ (⟨s_.code, x17.2.at_, x17.2.seed⟩ : TL01source) bs_ as_code cs_code rs_code ([(-1), 0, (w64 (1 + x1.1))] : List Int) a7 3 H177 _ _ hx20) (by simp only [hn4])) (fun v20 h76 hp20 => ?_)
        obtain ⟨rfl, H178⟩ := hp20
        have H179 : Hold h h76 [box bs_ 67 [.slice as_code s_.code.length cs_code, iV x21.2.1.at_, iV x21.2.1.seed], own cd2 a7 (([(-1), 0, (w64 (1 + x1.1))] : List Int).length) 3 x21.2.2, own cd2 a11 3 3 ([(-1), 1000, 1001] : List Int), box b1 26 [iV 0, .slice none 0 0], box b2 26 [iV (w64 (1 + x1.1)), .slice a3 x3.2.2.1.length c2], own cd28 a3 x3.2.2.1.length c2 x3.2.2.1, it] := H178.ub (js := _) 2 2 H176
        refine ZA [box b1 26 [iV 0, .slice none 0 0], box b2 26 [iV (w64 (1 + x1.1)), .slice a3 x3.2.2.1.length c2], own cd28 a3 x3.2.2.1.length c2 x3.2.2.1, it] [3, 4, 5, 6] [0, 1, 2, 3] H179 ?_
        refine ZE 5 9 (fun h77 H180 => ?_)
        have H181 := H180
        obtain ⟨x22, hx21, gs7⟩ := M.bind_some gs7
        have H182 : Hold h h77 [own cd2 a11 3 3 ([(-1), 1000, 1001] : List Int), box bs_ 67 [.slice as_code s_.code.length cs_code, iV x21.2.1.at_, iV x21.2.1.seed], own cd2 a7 (([(-1), 0, (w64 (1 + x1.1))] : List Int).length) 3 x21.2.2, box b1 26 [iV 0, .slice none 0 0], box b2 26 [iV (w64 (1 + x1.1)), .slice a3 x3.2.2.1.length c2], own cd28 a3 x3.2.2.1.length c2 x3.2.2.1, it] := H181.pk [2, 0, 1, 3, 4, 5, 6]
        have hn5 := (H182.len 0 rfl)
        have H183 : Hold h h77 [own cd2 a11 (([(-1), 1000, 1001] : List Int).length) 3 ([(-1), 1000, 1001] : List Int), box bs_ 67 [.slice as_code s_.code.length cs_code, iV x21.2.1.at_, iV x21.2.1.seed], own cd2 a7 (([(-1), 0, (w64 (1 + x1.1))] : List Int).length) 3 x21.2.2, box b1 26 [iV 0, .slice none 0 0], box b2 26 [iV (w64 (1 + x1.1)), .slice a3 x3.2.2.1.length c2], own cd28 a3 x3.2.2.1.length c2 x3.2.2.1, it] := by rw [hn5]; exact H182
        have H184 : Hold h h77 [box bs_ 67 [.slice as_code s_.code.length cs_code, iV x21.2.1.at_, iV x21.2.1.seed], own cd2 a11 (([(-1), 1000, 1001] : List Int).length) 3 ([(-1), 1000, 1001] : List Int), own cd2 a7 (([(-1), 0, (w64 (1 + x1.1))] : List Int).length) 3 x21.2.2, box b1 26 [iV 0, .slice none 0 0], box b2 26 [iV (w64 (1 + x1.1)), .slice a3 x3.2.2.1.length c2], own cd28 a3 x3.2.2.1.length c2 x3.2.2.1, it] := H183.pk [1, 0, 2, 3, 4, 5, 6]
        have H185 : Hold h h77 [box bs_ 67 [.slice as_code s_.code.length cs_code, iV x21.2.1.at_, iV x21.2.1.seed], own cd2 a11 (([(-1), 1000, 1001] : List Int).length) 3 ([(-1), 1000, 1001] : List Int), bun [own cd2 a7 (([(-1), 0, (w64 (1 + x1.1))] : List Int).length) 3 x21.2.2, box b1 26 [iV 0, .slice none 0 0], box b2 26 [iV (w64 (1 + x1.1)), .slice a3 x3.2.2.1.length c2], own cd28 a3 x3.2.2.1.length c2 x3.2.2.1, it]] := H184.bd 2
        refine ZC 23 #[pV bs_, .slice a11 3 3] (Fn.arg (w_spec_l01Pick h h77 _ (⟨s_.code, x21.2.1.at_, x21.2.1.seed⟩ : TL01source) bs_ as_code cs_code rs_code ([(-1), 1000, 1001] : List Int) a11 3 H185 _ _ hx21) (by simp only [hn5])) (fun v21 h78 hp21 => ?_)
        obtain ⟨rfl, H186⟩ := hp21
        have H187 : Hold h h78 [box bs_ 67 [.slice as_code s_.code.length cs_code, iV x22.2.1.at_, iV x22.2.1.seed], own cd2 a11 (([(-1), 1000, 1001] : List Int).length) 3 x22.2.2, own cd2 a7 (([(-1), 0, (w64 (1 + x1.1))] : List Int).length) 3 x21.2.2, box b1 26 [iV 0, .slice none 0 0], box b2 26 [iV (w64 (1 + x1.1)), .slice a3 x3.2.2.1.length c2], own cd28 a3 x3.2.2.1.length c2 x3.2.2.1, it] := H186.ub (js := _) 2 2 H184
        refine ZA [box b1 26 [iV 0, .slice none 0 0], box b2 26 [iV (w64 (1 + x1.1)), .slice a3 x3.2.2.1.length c2], own cd28 a3 x3.2.2.1.length c2 x3.2.2.1, it] [3, 4, 5, 6] [0, 1, 2, 3] H187 ?_
        refine ZB 4 [.agg #[iV x21.1, iV 0, iV x22.1, iV 1]] 10 ?_
        refine ZE 3 11 (fun h79 H188 => ?_)
        have H189 := H188
        refine E_lit (C := cd28) (n := 1) (l := ([⟨x21.1, 0, x22.1, 1⟩] : List TPlace)) (cs := [iV x21.1, iV 0, iV x22.1, iV 1]) H189 (fun w => by kernel_rfl) (Enc.consE (cd28_own (⟨x21.1, 0, x22.1, 1⟩ : TPlace) _) (Enc.nil _ _) rfl) rfl (by decide) (fun a12 h80 H190 => ?_)
        refine ZA [box b1 26 [iV 0, .slice none 0 0], box b2 26 [iV (w64 (1 + x1.1)), .slice a3 x3.2.2.1.length c2], own cd28 a3 x3.2.2.1.length c2 x3.2.2.1, it, own cd28 a12 1 1 ([⟨x21.1, 0, x22.1, 1⟩] : List TPlace)] [4, 5, 6, 7, 0] [0, 1, 2, 3] H190 ?_
        refine ZT 12 (fun h81 H191 => ?_)
        have H192 := H191
        obtain ⟨l3, hl3, gs7⟩ := M.bind_some gs7
        have hl3 := M.app_some hl3
        have H193 : Hold h h81 [own cd28 a3 x3.2.2.1.length c2 x3.2.2.1, own cd28 a12 1 1 ([⟨x21.1, 0, x22.1, 1⟩] : List TPlace), box bs_ 67 [.slice as_code s_.code.length cs_code, iV x22.2.1.at_, iV x22.2.1.seed], own cd2 a11 (([(-1), 1000, 1001] : List Int).length) 3 x22.2.2, own cd2 a7 (([(-1), 0, (w64 (1 + x1.1))] : List Int).length) 3 x21.2.2, box b1 26 [iV 0, .slice none 0 0], box b2 26 [iV (w64 (1 + x1.1)), .slice a3 x3.2.2.1.length c2], it] := H192.pk [6, 0, 1, 2, 3, 4, 5, 7]
        have H194 : Hold h h81 [own cd28 a12 1 1 ([⟨x21.1, 0, x22.1, 1⟩] : List TPlace), own cd28 a3 x3.2.2.1.length c2 x3.2.2.1, box bs_ 67 [.slice as_code s_.code.length cs_code, iV x22.2.1.at_, iV x22.2.1.seed], own cd2 a11 (([(-1), 1000, 1001] : List Int).length) 3 x22.2.2, own cd2 a7 (([(-1), 0, (w64 (1 + x1.1))] : List Int).length) 3 x21.2.2, box b1 26 [iV 0, .slice none 0 0], box b2 26 [iV (w64 (1 + x1.1)), .slice a3 x3.2.2.1.length c2], it] := H193.pk [1, 0, 2, 3, 4, 5, 6, 7]
        have H195 : Hold h h81 [own cd28 a3 x3.2.2.1.length c2 x3.2.2.1, own cd28 a12 1 1 ([⟨x21.1, 0, x22.1, 1⟩] : List TPlace), box bs_ 67 [.slice as_code s_.code.length cs_code, iV x22.2.1.at_, iV x22.2.1.seed], own cd2 a11 (([(-1), 1000, 1001] : List Int).length) 3 x22.2.2, own cd2 a7 (([(-1), 0, (w64 (1 + x1.1))] : List Int).length) 3 x21.2.2, box b1 26 [iV 0, .slice none 0 0], box b2 26 [iV (w64 (1 + x1.1)), .slice a3 x3.2.2.1.length c2], it] := H194.pk [1, 0, 2, 3, 4, 5, 6, 7]
        refine Ze ?_
        refine E_app (C := cd28) (t := 24) (ty := 24) (n := x3.2.2.1.length) (m := 1) H195 cd28_ti rfl Tryd.underlying24 (by decide) (by kernel_rfl) hl3 (fun a13 c5 h82 H196 => ?_)
        refine Zr [.pointer (some ⟨b2, 1, none⟩)] 13 ?_
        have H198 : Hold h h82 [box b2 26 [iV (w64 (1 + x1.1)), .slice a3 x3.2.2.1.length c2], own cd28 a13 l3.length c5 l3, box bs_ 67 [.slice as_code s_.code.length cs_code, iV x22.2.1.at_, iV x22.2.1.seed], own cd2 a11 (([(-1), 1000, 1001] : List Int).length) 3 x22.2.2, own cd2 a7 (([(-1), 0, (w64 (1 + x1.1))] : List Int).length) 3 x21.2.2, box b1 26 [iV 0, .slice none 0 0], it] := H196.pk [5, 0, 1, 2, 3, 4, 6]
        refine Ze ?_
        refine ZP 24 1 [iV (w64 (1 + x1.1)), .slice a13 l3.length c5] (.slice a13 l3.length c5) H198 (fun h83 H197 => ?_)
        refine Zx ?_
        refine Zk [2, 3] [(2, pV b1), (3, pV b2)] ?_
        have H254 : Hold h h83 [own cd28 a13 l3.length c5 l3, box b2 26 [iV (w64 (1 + x1.1)), .slice a13 l3.length c5], box bs_ 67 [.slice as_code s_.code.length cs_code, iV x22.2.1.at_, iV x22.2.1.seed], own cd2 a11 (([(-1), 1000, 1001] : List Int).length) 3 x22.2.2, own cd2 a7 (([(-1), 0, (w64 (1 + x1.1))] : List Int).length) 3 x21.2.2, box b1 26 [iV 0, .slice none 0 0], it] := H197.pk [1, 0, 2, 3, 4, 5, 6]
        have H255 : Hold h h83 [box b1 26 [iV 0, .slice none 0 0], box b2 26 [iV (w64 (1 + x1.1)), .slice a13 l3.length c5], own cd28 a13 l3.length c5 l3, box bs_ 67 [.slice as_code s_.code.length cs_code, iV x22.2.1.at_, iV x22.2.1.seed], it] := H254.pk [5, 1, 0, 2, 6]
        have gs7 := M.ret_some gs7
        subst gs7
        exact Zf [2, 3] ⟨a13, c5, rfl, H255⟩
      ·intro h84 H199
       have H200 := H199
       refine E_lit (C := cd2) (n := 3) (l := ([(-1), 1000, 1001] : List Int)) (cs := [iV (-1), iV 1000, iV 1001]) H200 (fun w => by kernel_rfl) (Enc.consE (cd2_own (-1) _) (Enc.consE (cd2_own 1000 _) (Enc.consE (cd2_own 1001 _) (Enc.nil _ _) rfl) rfl) rfl) rfl (by decide) (fun a14 h85 H201 => ?_)
       refine ZA [box b1 26 [iV 0, .slice none 0 0], box b2 26 [iV (w64 (1 + x1.1)), .slice a3 x3.2.2.1.length c2], own cd28 a3 x3.2.2.1.length c2 x3.2.2.1, it] [2, 3, 4, 5] [0, 1, 2, 3] H201 ?_
       refine ZE 7 5 (fun h86 H202 => ?_)
       have H203 := H202
       refine E_lit (C := cd2) (n := 3) (l := ([(-1), 0, (w64 (1 + x1.1))] : List Int)) (cs := [iV (-1), iV 0, iV (w64 (1 + x1.1))]) H203 (fun w => by kernel_rfl) (Enc.consE (cd2_own (-1) _) (Enc.consE (cd2_own 0 _) (Enc.consE (cd2_own (w64 (1 + x1.1)) _) (Enc.nil _ _) rfl) rfl) rfl) rfl (by decide) (fun a15 h87 H204 => ?_)
       refine ZA [box b1 26 [iV 0, .slice none 0 0], box b2 26 [iV (w64 (1 + x1.1)), .slice a3 x3.2.2.1.length c2], own cd28 a3 x3.2.2.1.length c2 x3.2.2.1, it] [3, 4, 5, 6] [0, 1, 2, 3] H204 ?_
       refine ZE 6 6 (fun h88 H205 => ?_)
       have H206 := H205
       obtain ⟨x23, hx22, gs7⟩ := M.bind_some gs7
       have hn6 := (H206.len 0 rfl)
       have H207 : Hold h h88 [own cd2 a15 (([(-1), 0, (w64 (1 + x1.1))] : List Int).length) 3 ([(-1), 0, (w64 (1 + x1.1))] : List Int), own cd2 a14 3 3 ([(-1), 1000, 1001] : List Int), box bs_ 67 [.slice as_code s_.code.length cs_code, iV x17.2.at_, iV x17.2.seed], box b1 26 [iV 0, .slice none 0 0], box b2 26 [iV (w64 (1 + x1.1)), .slice a3 x3.2.2.1.length c2], own cd28 a3 x3.2.2.1.length c2 x3.2.2.1, it] := by rw [hn6]; exact H206
       have H208 : Hold h h88 [box bs_ 67 [.slice as_code s_.code.length cs_code, iV x17.2.at_, iV x17.2.seed], own cd2 a15 (([(-1), 0, (w64 (1 + x1.1))] : List Int).length) 3 ([(-1), 0, (w64 (1 + x1.1))] : List Int), own cd2 a14 3 3 ([(-1), 1000, 1001] : List Int), box b1 26 [iV 0, .slice none 0 0], box b2 26 [iV (w64 (1 + x1.1)), .slice a3 x3.2.2.1.length c2], own cd28 a3 x3.2.2.1.length c2 x3.2.2.1, it] := H207.pk [2, 0, 1, 3, 4, 5, 6]
       have H209 : Hold h h88 [box bs_ 67 [.slice as_code s_.code.length cs_code, iV x17.2.at_, iV x17.2.seed], own cd2 a15 (([(-1), 0, (w64 (1 + x1.1))] : List Int).length) 3 ([(-1), 0, (w64 (1 + x1.1))] : List Int), bun [own cd2 a14 3 3 ([(-1), 1000, 1001] : List Int), box b1 26 [iV 0, .slice none 0 0], box b2 26 [iV (w64 (1 + x1.1)), .slice a3 x3.2.2.1.length c2], own cd28 a3 x3.2.2.1.length c2 x3.2.2.1, it]] := H208.bd 2
       refine ZC 23 #[pV bs_, .slice a15 3 3] (Fn.arg (w_spec_l01Pick h h88 _ (⟨s_.code, x17.2.at_, x17.2.seed⟩ : TL01source) bs_ as_code cs_code rs_code ([(-1), 0, (w64 (1 + x1.1))] : List Int) a15 3 H209 _ _ hx22) (by simp only [hn6])) (fun v22 h89 hp22 => ?_)
       obtain ⟨rfl, H210⟩ := hp22
       have H211 : Hold h h89 [box bs_ 67 [.slice as_code s_.code.length cs_code, iV x23.2.1.at_, iV x23.2.1.seed], own cd2 a15 (([(-1), 0, (w64 (1 + x1.1))] : List Int).length) 3 x23.2.2, own cd2 a14 3 3 ([(-1), 1000, 1001] : List Int), box b1 26 [iV 0, .slice none 0 0], box b2 26 [iV (w64 (1 + x1.1)), .slice a3 x3.2.2.1.length c2], own cd28 a3 x3.2.2.1.length c2 x3.2.2.1, it] := H210.ub (js := _) 2 2 H208
       refine ZA [box b1 26 [iV 0, .slice none 0 0], box b2 26 [iV (w64 (1 + x1.1)), .slice a3 x3.2.2.1.length c2], own cd28 a3 x3.2.2.1.length c2 x3.2.2.1, it] [3, 4, 5, 6] [0, 1, 2, 3] H211 ?_
       refine ZE 5 9 (fun h90 H212 => ?_)
       have H213 := H212
       obtain ⟨x24, hx23, gs7⟩ := M.bind_some gs7
       have H214 : Hold h h90 [own cd2 a14 3 3 ([(-1), 1000, 1001] : List Int), box bs_ 67 [.slice as_code s_.code.length cs_code, iV x23.2.1.at_, iV x23.2.1.seed], own cd2 a15 (([(-1), 0, (w64 (1 + x1.1))] : List Int).length) 3 x23.2.2, box b1 26 [iV 0, .slice none 0 0], box b2 26 [iV (w64 (1 + x1.1)), .slice a3 x3.2.2.1.length c2], own cd28 a3 x3.2.2.1.length c2 x3.2.2.1, it] := H213.pk [2, 0, 1, 3, 4, 5, 6]
       have hn7 := (H214.len 0 rfl)
       have H215 : Hold h h90 [own cd2 a14 (([(-1), 1000, 1001] : List Int).length) 3 ([(-1), 1000, 1001] : List Int), box bs_ 67 [.slice as_code s_.code.length cs_code, iV x23.2.1.at_, iV x23.2.1.seed], own cd2 a15 (([(-1), 0, (w64 (1 + x1.1))] : List Int).length) 3 x23.2.2, box b1 26 [iV 0, .slice none 0 0], box b2 26 [iV (w64 (1 + x1.1)), .slice a3 x3.2.2.1.length c2], own cd28 a3 x3.2.2.1.length c2 x3.2.2.1, it] := by rw [hn7]; exact H214
       have H216 : Hold h h90 [box bs_ 67 [.slice as_code s_.code.length cs_code, iV x23.2.1.at_, iV x23.2.1.seed], own cd2 a14 (([(-1), 1000, 1001] : List Int).length) 3 ([(-1), 1000, 1001] : List Int), own cd2 a15 (([(-1), 0, (w64 (1 + x1.1))] : List Int).length) 3 x23.2.2, box b1 26 [iV 0, .slice none 0 0], box b2 26 [iV (w64 (1 + x1.1)), .slice a3 x3.2.2.1.length c2], own cd28 a3 x3.2.2.1.length c2 x3.2.2.1, it] := H215.pk [1, 0, 2, 3, 4, 5, 6]
       have H217 : Hold h h90 [box bs_ 67 [.slice as_code s_.code.length cs_code, iV x23.2.1.at_, iV x23.2.1.seed], own cd2 a14 (([(-1), 1000, 1001] : List Int).length) 3 ([(-1), 1000, 1001] : List Int), bun [own cd2 a15 (([(-1), 0, (w64 (1 + x1.1))] : List Int).length) 3 x23.2.2, box b1 26 [iV 0, .slice none 0 0], box b2 26 [iV (w64 (1 + x1.1)), .slice a3 x3.2.2.1.length c2], own cd28 a3 x3.2.2.1.length c2 x3.2.2.1, it]] := H216.bd 2
       refine ZC 23 #[pV bs_, .slice a14 3 3] (Fn.arg (w_spec_l01Pick h h90 _ (⟨s_.code, x23.2.1.at_, x23.2.1.seed⟩ : TL01source) bs_ as_code cs_code rs_code ([(-1), 1000, 1001] : List Int) a14 3 H217 _ _ hx23) (by simp only [hn7])) (fun v23 h91 hp23 => ?_)
       obtain ⟨rfl, H218⟩ := hp23
       have H219 : Hold h h91 [box bs_ 67 [.slice as_code s_.code.length cs_code, iV x24.2.1.at_, iV x24.2.1.seed], own cd2 a14 (([(-1), 1000, 1001] : List Int).length) 3 x24.2.2, own cd2 a15 (([(-1), 0, (w64 (1 + x1.1))] : List Int).length) 3 x23.2.2, box b1 26 [iV 0, .slice none 0 0], box b2 26 [iV (w64 (1 + x1.1)), .slice a3 x3.2.2.1.length c2], own cd28 a3 x3.2.2.1.length c2 x3.2.2.1, it] := H218.ub (js := _) 2 2 H216
       refine ZA [box b1 26 [iV 0, .slice none 0 0], box b2 26 [iV (w64 (1 + x1.1)), .slice a3 x3.2.2.1.length c2], own cd28 a3 x3.2.2.1.length c2 x3.2.2.1, it] [3, 4, 5, 6] [0, 1, 2, 3] H219 ?_
       refine ZB 4 [.agg #[iV x23.1, iV 0, iV x24.1, iV 1]] 10 ?_
       refine ZE 3 11 (fun h92 H220 => ?_)
       have H221 := H220
       refine E_lit (C := cd28) (n := 1) (l := ([⟨x23.1, 0, x24.1, 1⟩] : List TPlace)) (cs := [iV x23.1, iV 0, iV x24.1, iV 1]) H221 (fun w => by kernel_rfl) (Enc.consE (cd28_own (⟨x23.1, 0, x24.1, 1⟩ : TPlace) _) (Enc.nil _ _) rfl) rfl (by decide) (fun a16 h93 H222 => ?_)
       refine ZA [box b1 26 [iV 0, .slice none 0 0], box b2 26 [iV (w64 (1 + x1.1)), .slice a3 x3.2.2.1.length c2], own cd28 a3 x3.2.2.1.length c2 x3.2.2.1, it, own cd28 a16 1 1 ([⟨x23.1, 0, x24.1, 1⟩] : List TPlace)] [4, 5, 6, 7, 0] [0, 1, 2, 3] H222 ?_
       refine ZT 12 (fun h94 H223 => ?_)
       have H224 := H223
       obtain ⟨l4, hl4, gs7⟩ := M.bind_some gs7
       have hl4 := M.app_some hl4
       have H225 : Hold h h94 [own cd28 a3 x3.2.2.1.length c2 x3.2.2.1, own cd28 a16 1 1 ([⟨x23.1, 0, x24.1, 1⟩] : List TPlace), box bs_ 67 [.slice as_code s_.code.length cs_code, iV x24.2.1.at_, iV x24.2.1.seed], own cd2 a14 (([(-1), 1000, 1001] : List Int).length) 3 x24.2.2, own cd2 a15 (([(-1), 0, (w64 (1 + x1.1))] : List Int).length) 3 x23.2.2, box b1 26 [iV 0, .slice none 0 0], box b2 26 [iV (w64 (1 + x1.1)), .slice a3 x3.2.2.1.length c2], it] := H224.pk [6, 0, 1, 2, 3, 4, 5, 7]
       have H226 : Hold h h94 [own cd28 a16 1 1 ([⟨x23.1, 0, x24.1, 1⟩] : List TPlace), own cd28 a3 x3.2.2.1.length c2 x3.2.2.1, box bs_ 67 [.slice as_code s_.code.length cs_code, iV x24.2.1.at_, iV x24.2.1.seed], own cd2 a14 (([(-1), 1000, 1001] : List Int).length) 3 x24.2.2, own cd2 a15 (([(-1), 0, (w64 (1 + x1.1))] : List Int).length) 3 x23.2.2, box b1 26 [iV 0, .slice none 0 0], box b2 26 [iV (w64 (1 + x1.1)), .slice a3 x3.2.2.1.length c2], it] := H225.pk [1, 0, 2, 3, 4, 5, 6, 7]
       have H227 : Hold h h94 [own cd28 a3 x3.2.2.1.length c2 x3.2.2.1, own cd28 a16 1 1 ([⟨x23.1, 0, x24.1, 1⟩] : List TPlace), box bs_ 67 [.slice as_code s_.code.length cs_code, iV x24.2.1.at_, iV x24.2.1.seed], own cd2 a14 (([(-1), 1000, 1001] : List Int).length) 3 x24.2.2, own cd2 a15 (([(-1), 0, (w64 (1 + x1.1))] : List Int).length) 3 x23.2.2, box b1 26 [iV 0, .slice none 0 0], box b2 26 [iV (w64 (1 + x1.1)), .slice a3 x3.2.2.1.length c2], it] := H226.pk [1, 0, 2, 3, 4, 5, 6, 7]
       refine Ze ?_
       refine E_app (C := cd28) (t := 24) (ty := 24) (n := x3.2.2.1.length) (m := 1) H227 cd28_ti rfl Tryd.underlying24 (by decide) (by kernel_rfl) hl4 (fun a17 c6 h95 H228 => ?_)
       refine Zr [.pointer (some ⟨b2, 1, none⟩)] 13 ?_
       have H230 : Hold h h95 [box b2 26 [iV (w64 (1 + x1.1)), .slice a3 x3.2.2.1.length c2], own cd28 a17 l4.length c6 l4, box bs_ 67 [.slice as_code s_.code.length cs_code, iV x24.2.1.at_, iV x24.2.1.seed], own cd2 a14 (([(-1), 1000, 1001] : List Int).length) 3 x24.2.2, own cd2 a15 (([(-1), 0, (w64 (1 + x1.1))] : List Int).length) 3 x23.2.2, box b1 26 [iV 0, .slice none 0 0], it] := H228.pk [5, 0, 1, 2, 3, 4, 6]
       refine Ze ?_
       refine ZP 24 1 [iV (w64 (1 + x1.1)), .slice a17 l4.length c6] (.slice a17 l4.length c6) H230 (fun h96 H229 => ?_)
       refine Zx ?_
       refine Zk [2, 3] [(2, pV b1), (3, pV b2)] ?_
       have H256 : Hold h h96 [own cd28 a17 l4.length c6 l4, box b2 26 [iV (w64 (1 + x1.1)), .slice a17 l4.length c6], box bs_ 67 [.slice as_code s_.code.length cs_code, iV x24.2.1.at_, iV x24.2.1.seed], own cd2 a14 (([(-1), 1000, 1001] : List Int).length) 3 x24.2.2, own cd2 a15 (([(-1), 0, (w64 (1 + x1.1))] : List Int).length) 3 x23.2.2, box b1 26 [iV 0, .slice none 0 0], it] := H229.pk [1, 0, 2, 3, 4, 5, 6]
       have H257 : Hold h h96 [box b1 26 [iV 0, .slice none 0 0], box b2 26 [iV (w64 (1 + x1.1)), .slice a17 l4.length c6], own cd28 a17 l4.length c6 l4, box bs_ 67 [.slice as_code s_.code.length cs_code, iV x24.2.1.at_, iV x24.2.1.seed], it] := H256.pk [5, 1, 0, 2, 6]
       have gs7 := M.ret_some gs7
       subst gs7
       exact Zf [2, 3] ⟨a17, c6, rfl, H257⟩
    ·have gs6 := (M.ite_some gs6).2 hb6
     refine Zs ?_
     refine Zq [.bool (x17.1 == 2), .bool (x17.1 == 2)] [0, 2, 3, 57, 80] [(0, pV bs_), (2, pV b1), (3, pV b2), (57, iV x17.1), (80, .bool (x17.1 == 2))] ?_
     refine Zc (x17.1 == 2) (fun hb7 => ?_) (fun hb7 => ?_)
     ·have gs6 := (M.ite_some gs6).1 hb7
      refine Run_D (fun x => Hold h x [box b1 26 [iV 0, .slice none 0 0], box b2 26 [iV (w64 (1 + x1.1)), .slice a3 x3.2.2.1.length c2], own cd28 a3 x3.2.2.1.length c2 x3.2.2.1, it]) (fun x => Hold h x [box bs_ 67 [.slice as_code s_.code.length cs_code, iV x17.2.at_, iV x17.2.seed], box b1 26 [iV 0, .slice none 0 0], box b2 26 [iV (w64 (1 + x1.1)), .slice a3 x3.2.2.1.length c2], own cd28 a3 x3.2.2.1.length c2 x3.2.2.1, it]) mixed (by kernel_rfl) H129 Hold.stable (fun x Hy => (show Hold h x [box bs_ 67 [.slice as_code s_.code.length cs_code, iV x17.2.at_, iV x17.2.seed], box b1 26 [iV 0, .slice none 0 0], box b2 26 [iV (w64 (1 + x1.1)), .slice a3 x3.2.2.1.length c2], own cd28 a3 x3.2.2.1.length c2 x3.2.2.1, it] from Hy).pk [1, 2, 3, 4]) ?_
      refine ZB 9 [.pointer (some ⟨b2, 1, none⟩)] 0 ?_
      refine ZY 8 1 (.slice a3 x3.2.2.1.length c2) (fun hx Hx => (YE.of (Zl 24 (⟨b2, 1, none⟩) (.slice a3 x3.2.2.1.length c2) (Hx.cell 1 rfl rfl)))) ?_
      refine ZB 7 [pV bs_] 2 ?_
      refine ZE 6 3 (fun h98 H258 => ?_)
      have H259 := H258
      refine E_lit (C := cd2) (n := 3) (l := ([5, 6, (-1)] : List Int)) (cs := [iV 5, iV 6, iV (-1)]) H259 (fun w => by kernel_rfl) (Enc.consE (cd2_own 5 _) (Enc.consE (cd2_own 6 _) (Enc.consE (cd2_own (-1) _) (Enc.nil _ _) rfl) rfl) rfl) rfl (by decide) (fun a19 h99 H260 => ?_)
      refine ZA [box b1 26 [iV 0, .slice none 0 0], box b2 26 [iV (w64 (1 + x1.1)), .slice a3 x3.2.2.1.length c2], own cd28 a3 x3.2.2.1.length c2 x3.2.2.1, it] [2, 3, 4, 5] [0, 1, 2, 3] H260 ?_
      refine ZE 5 4 (fun h100 H261 => ?_)
      have H262 := H261
      obtain ⟨x25, hx24, gs6⟩ := M.bind_some gs6
      have hn8 := (H262.len 0 rfl)
      have H263 : Hold h h100 [own cd2 a19 (([5, 6, (-1)] : List Int).length) 3 ([5, 6, (-1)] : List Int), box bs_ 67 [.slice as_code s_.code.length cs_code, iV x17.2.at_, iV x17.2.seed], box b1 26 [iV 0, .slice none 0 0], box b2 26 [iV (w64 (1 + x1.1)), .slice a3 x3.2.2.1.length c2], own cd28 a3 x3.2.2.1.length c2 x3.2.2.1, it] := by rw [hn8]; exact H262
      have H264 : Hold h h100 [box bs_ 67 [.slice as_code s_.code.length cs_code, iV x17.2.at_, iV x17.2.seed], own cd2 a19 (([5, 6, (-1)] : List Int).length) 3 ([5, 6, (-1)] : List Int), box b1 26 [iV 0, .slice none 0 0], box b2 26 [iV (w64 (1 + x1.1)), .slice a3 x3.2.2.1.length c2], own cd28 a3 x3.2.2.1.length c2 x3.2.2.1, it] := H263.pk [1, 0, 2, 3, 4, 5]
      have H265 : Hold h h100 [box bs_ 67 [.slice as_code s_.code.length cs_code, iV x17.2.at_, iV x17.2.seed], own cd2 a19 (([5, 6, (-1)] : List Int).length) 3 ([5, 6, (-1)] : List Int), bun [box b1 26 [iV 0, .slice none 0 0], box b2 26 [iV (w64 (1 + x1.1)), .slice a3 x3.2.2.1.length c2], own cd28 a3 x3.2.2.1.length c2 x3.2.2.1, it]] := H264.bd 2
      refine ZC 23 #[pV bs_, .slice a19 3 3] (Fn.arg (w_spec_l01Pick h h100 _ (⟨s_.code, x17.2.at_, x17.2.seed⟩ : TL01source) bs_ as_code cs_code rs_code ([5, 6, (-1)] : List Int) a19 3 H265 _ _ hx24) (by simp only [hn8])) (fun v24 h101 hp24 => ?_)
      obtain ⟨rfl, H266⟩ := hp24
      have H267 : Hold h h101 [box bs_ 67 [.slice as_code s_.code.length cs_code, iV x25.2.1.at_, iV x25.2.1.seed], own cd2 a19 (([5, 6, (-1)] : List Int).length) 3 x25.2.2, box b1 26 [iV 0, .slice none 0 0], box b2 26 [iV (w64 (1 + x1.1)), .slice a3 x3.2.2.1.length c2], own cd28 a3 x3.2.2.1.length c2 x3.2.2.1, it] := H266.ub (js := _) 2 2 H264
      refine ZA [box b1 26 [iV 0, .slice none 0 0], box b2 26 [iV (w64 (1 + x1.1)), .slice a3 x3.2.2.1.length c2], own cd28 a3 x3.2.2.1.length c2 x3.2.2.1, it] [2, 3, 4, 5] [0, 1, 2, 3] H267 ?_
      refine ZB 4 [.agg #[iV 0, iV 0, iV 0, iV x25.1]] 5 ?_
      refine ZE 3 6 (fun h102 H268 => ?_)
      have H269 := H268
      refine E_lit (C := cd28) (n := 1) (l := ([⟨0, 0, 0, x25.1⟩] : List TPlace)) (cs := [iV 0, iV 0, iV 0, iV x25.1]) H269 (fun w => by kernel_rfl) (Enc.consE (cd28_own (⟨0, 0, 0, x25.1⟩ : TPlace) _) (Enc.nil _ _) rfl) rfl (by decide) (fun a20 h103 H270 => ?_)
      refine ZA [box b1 26 [iV 0, .slice none 0 0], box b2 26 [iV (w64 (1 + x1.1)), .slice a3 x3.2.2.1.length c2], own cd28 a3 x3.2.2.1.length c2 x3.2.2.1, it, own cd28 a20 1 1 ([⟨0, 0, 0, x25.1⟩] : List TPlace)] [3, 4, 5, 6, 0] [0, 1, 2, 3] H270 ?_
      refine ZT 7 (fun h104 H271 => ?_)
      have H272 := H271
      obtain ⟨l5, hl5, gs6⟩ := M.bind_some gs6
      have hl5 := M.app_some hl5
      have H273 : Hold h h104 [own cd28 a3 x3.2.2.1.length c2 x3.2.2.1, own cd28 a20 1 1 ([⟨0, 0, 0, x25.1⟩] : List TPlace), box bs_ 67 [.slice as_code s_.code.length cs_code, iV x25.2.1.at_, iV x25.2.1.seed], own cd2 a19 (([5, 6, (-1)] : List Int).length) 3 x25.2.2, box b1 26 [iV 0, .slice none 0 0], box b2 26 [iV (w64 (1 + x1.1)), .slice a3 x3.2.2.1.length c2], it] := H272.pk [5, 0, 1, 2, 3, 4, 6]
      have H274 : Hold h h104 [own cd28 a20 1 1 ([⟨0, 0, 0, x25.1⟩] : List TPlace), own cd28 a3 x3.2.2.1.length c2 x3.2.2.1, box bs_ 67 [.slice as_code s_.code.length cs_code, iV x25.2.1.at_, iV x25.2.1.seed], own cd2 a19 (([5, 6, (-1)] : List Int).length) 3 x25.2.2, box b1 26 [iV 0, .slice none 0 0], box b2 26 [iV (w64 (1 + x1.1)), .slice a3 x3.2.2.1.length c2], it] := H273.pk [1, 0, 2, 3, 4, 5, 6]
      have H275 : Hold h h104 [own cd28 a3 x3.2.2.1.length c2 x3.2.2.1, own cd28 a20 1 1 ([⟨0, 0, 0, x25.1⟩] : List TPlace), box bs_ 67 [.slice as_code s_.code.length cs_code, iV x25.2.1.at_, iV x25.2.1.seed], own cd2 a19 (([5, 6, (-1)] : List Int).length) 3 x25.2.2, box b1 26 [iV 0, .slice none 0 0], box b2 26 [iV (w64 (1 + x1.1)), .slice a3 x3.2.2.1.length c2], it] := H274.pk [1, 0, 2, 3, 4, 5, 6]
      refine Ze ?_
      refine E_app (C := cd28) (t := 24) (ty := 24) (n := x3.2.2.1.length) (m := 1) H275 cd28_ti rfl Tryd.underlying24 (by decide) (by kernel_rfl) hl5 (fun a21 c8 h105 H276 => ?_)
      refine Zr [.pointer (some ⟨b2, 1, none⟩)] 8 ?_
      have H278 : Hold h h105 [box b2 26 [iV (w64 (1 + x1.1)), .slice a3 x3.2.2.1.length c2], own cd28 a21 l5.length c8 l5, box bs_ 67 [.slice as_code s_.code.length cs_code, iV x25.2.1.at_, iV x25.2.1.seed], own cd2 a19 (([5, 6, (-1)] : List Int).length) 3 x25.2.2, box b1 26 [iV 0, .slice none 0 0], it] := H276.pk [4, 0, 1, 2, 3, 5]
      refine Ze ?_
      refine ZP 24 1 [iV (w64 (1 + x1.1)), .slice a21 l5.length c8] (.slice a21 l5.length c8) H278 (fun h106 H277 => ?_)
      refine Zx ?_
      refine Zk [2, 3] [(2, pV b1), (3, pV b2)] ?_
      have H302 : Hold h h106 [own cd28 a21 l5.length c8 l5, box b2 26 [iV (w64 (1 + x1.1)), .slice a21 l5.length c8], box bs_ 67 [.slice as_code s_.code.length cs_code, iV x25.2.1.at_, iV x25.2.1.seed], own cd2 a19 (([5, 6, (-1)] : List Int).length) 3 x25.2.2, box b1 26 [iV 0, .slice none 0 0], it] := H277.pk [1, 0, 2, 3, 4, 5]
      have H303 : Hold h h106 [box b1 26 [iV 0, .slice none 0 0], box b2 26 [iV (w64 (1 + x1.1)), .slice a21 l5.length c8], own cd28 a21 l5.length c8 l5, box bs_ 67 [.slice as_code s_.code.length cs_code, iV x25.2.1.at_, iV x25.2.1.seed], it] := H302.pk [4, 1, 0, 2, 5]
      have gs6 := M.ret_some gs6
      subst gs6
      exact Zf [2, 3] ⟨a21, c8, rfl, H303⟩
     ·have gs6 := (M.ite_some gs6).2 hb7
      refine Zs ?_
      refine Zq [.bool (x17.1 == 3), .bool (x17.1 == 3)] [0, 2, 3, 91] [(0, pV bs_), (2, pV b1), (3, pV b2), (91, .bool (x17.1 == 3))] ?_
      refine Zc (x17.1 == 3) (fun hb8 => ?_) (fun hb8 => ?_)
      ·have gs6 := (M.ite_some gs6).1 hb8
       refine Zs ?_
       refine Zq [iV 0] [0, 2, 3, 6] [(0, pV bs_), (2, pV b1), (3, pV b2), (6, iV 0)] ?_
       obtain ⟨x26, gx26, gs6⟩ := M.bind_some gs6
       refine Run_join (fun L' h' => ∃ (a23 : Option Addr) (c10 : Nat), L' = [(2, pV b1), (3, pV b2)] ∧ Hold h h' [box bs_ 67 [.slice as_code s_.code.length cs_code, iV x26.1, iV x26.2.1], box b1 26 [iV 0, .slice none 0 0], box b2 26 [iV (w64 (1 + x1.1)), .slice a23 x26.2.2.1.length c10], own cd28 a23 x26.2.2.1.length c10 x26.2.2.1, it]) ?_ ?_
       ·rintro _ h108 ⟨a23, c10, rfl, H280⟩
        have H304 : Hold h h108 [own cd28 a23 x26.2.2.1.length c10 x26.2.2.1, box bs_ 67 [.slice as_code s_.code.length cs_code, iV x26.1, iV x26.2.1], box b1 26 [iV 0, .slice none 0 0], box b2 26 [iV (w64 (1 + x1.1)), .slice a23 x26.2.2.1.length c10], it] := H280.pk [3, 0, 1, 2, 4]
        have H305 : Hold h h108 [box b1 26 [iV 0, .slice none 0 0], box b2 26 [iV (w64 (1 + x1.1)), .slice a23 x26.2.2.1.length c10], own cd28 a23 x26.2.2.1.length c10 x26.2.2.1, box bs_ 67 [.slice as_code s_.code.length cs_code, iV x26.1, iV x26.2.1], it] := H304.pk [2, 3, 0, 1, 4]
        have gs6 := M.ret_some gs6
        subst gs6
        exact Zf [2, 3] ⟨a23, c10, rfl, H305⟩
       ·refine Run_block ?_
        have H295 : Hold h h56 [own cd28 a3 x3.2.2.1.length c2 x3.2.2.1, box bs_ 67 [.slice as_code s_.code.length cs_code, iV x17.2.at_, iV x17.2.seed], box b1 26 [iV 0, .slice none 0 0], box b2 26 [iV (w64 (1 + x1.1)), .slice a3 x3.2.2.1.length c2], it] := H129.pk [3, 0, 1, 2, 4]
        have H296 : Hold h h56 [box bs_ 67 [.slice as_code s_.code.length cs_code, iV x17.2.at_, iV x17.2.seed], box b1 26 [iV 0, .slice none 0 0], box b2 26 [iV (w64 (1 + x1.1)), .slice a3 x3.2.2.1.length c2], own cd28 a3 x3.2.2.1.length c2 x3.2.2.1, it] := H295.pk [1, 2, 3, 0, 4]
        refine Zk [0, 2, 3, 6] [(0, pV bs_), (2, pV b1), (3, pV b2), (6, iV 0)] ?_
        refine Run_loop (fun m L' h' => ∃ (s8 : Int × Int × (List TPlace) × Int) (a22 : Option Addr) (c9 : Nat), M.loopN _ n m s8 = some x26 ∧ L' = [(0, pV bs_), (2, pV b1), (3, pV b2), (6, iV s8.2.2.2)] ∧ Hold h h' [box bs_ 67 [.slice as_code s_.code.length cs_code, iV s8.1, iV s8.2.1], box b1 26 [iV 0, .slice none 0 0], box b2 26 [iV (w64 (1 + x1.1)), .slice a22 s8.2.2.1.length c9], own cd28 a22 s8.2.2.1.length c9 s8.2.2.1, it]) n ⟨(x17.2.at_, x17.2.seed, x3.2.2.1, 0), a3, c2, gx26, rfl, H296⟩ ?_
        rintro my2 _ h107 ⟨s8, a22, c9, gx26, rfl, H279⟩
        obtain ⟨my2, y2, rfl, hB2, hgoy2, houty2⟩ := M.loop_some gx26
        refine Zs ?_
        refine Zs ?_
        refine Run_ops ?_
        refine Zr [iV s8.2.2.2, pV bs_] 0 ?_
        obtain ⟨x27, hx25, hB2⟩ := M.bind_some hB2
        have H281 : Hold h h107 [box bs_ 67 [.slice as_code s_.code.length cs_code, iV s8.1, iV s8.2.1], bun [box b1 26 [iV 0, .slice none 0 0], box b2 26 [iV (w64 (1 + x1.1)), .slice a22 s8.2.2.1.length c9], own cd28 a22 s8.2.2.1.length c9 s8.2.2.1, it]] := H279.bd 1
        refine Ze ?_
        refine ZC 22 #[pV bs_, iV 9] (w_spec_l01Next h h107 _ (⟨s_.code, s8.1, s8.2.1⟩ : TL01source) bs_ as_code cs_code rs_code 9 H281 _ _ hx25) (fun v25 h109 hp25 => ?_)
        obtain ⟨rfl, H282⟩ := hp25
        have H283 : Hold h h109 [box bs_ 67 [.slice as_code s_.code.length cs_code, iV x27.2.at_, iV x27.2.seed], box b1 26 [iV 0, .slice none 0 0], box b2 26 [iV (w64 (1 + x1.1)), .slice a22 s8.2.2.1.length c9], own cd28 a22 s8.2.2.1.length c9 s8.2.2.1, it] := H282.ub (js := _) 1 1 H279
        refine Zr [iV (w64 (22 + x27.1)), .bool (decide (s8.2.2.2 < (w64 (22 + x27.1))))] 3 ?_
        refine Zx ?_
        refine Zk [0, 2, 3, 6, 97] [(0, pV bs_), (2, pV b1), (3, pV b2), (6, iV s8.2.2.2), (97, .bool (decide (s8.2.2.2 < (w64 (22 + x27.1)))))] ?_
        refine Zc (decide (s8.2.2.2 < (w64 (22 + x27.1)))) (fun hb9 => ?_) (fun hb9 => ?_)
        ·have hB2 := (M.ite_some hB2).1 hb9
         refine Run_skip ?_
         refine Zs ?_
         refine Run_block ?_
         refine Run_ops ?_
         refine Zr [.pointer (some ⟨b2, 1, none⟩)] 0 ?_
         refine Zz (.slice a22 s8.2.2.1.length c9) (Zl 24 (⟨b2, 1, none⟩) (.slice a22 s8.2.2.1.length c9) (H283.cell 2 rfl rfl)) ?_
         refine Zr [iV s8.2.2.2, .agg #[iV 0, iV 0, iV s8.2.2.2, iV 1]] 2 ?_
         refine Ze ?_
         refine E_lit (C := cd28) (n := 1) (l := ([⟨0, 0, s8.2.2.2, 1⟩] : List TPlace)) (cs := [iV 0, iV 0, iV s8.2.2.2, iV 1]) H283 (fun w => by kernel_rfl) (Enc.consE (cd28_own (⟨0, 0, s8.2.2.2, 1⟩ : TPlace) _) (Enc.nil _ _) rfl) rfl (by decide) (fun a24 h110 H284 => ?_)
         obtain ⟨l6, hl6, hB2⟩ := M.bind_some hB2
         have hl6 := M.app_some hl6
         have H285 : Hold h h110 [own cd28 a22 s8.2.2.1.length c9 s8.2.2.1, own cd28 a24 1 1 ([⟨0, 0, s8.2.2.2, 1⟩] : List TPlace), box bs_ 67 [.slice as_code s_.code.length cs_code, iV x27.2.at_, iV x27.2.seed], box b1 26 [iV 0, .slice none 0 0], box b2 26 [iV (w64 (1 + x1.1)), .slice a22 s8.2.2.1.length c9], it] := H284.pk [4, 0, 1, 2, 3, 5]
         have H286 : Hold h h110 [own cd28 a24 1 1 ([⟨0, 0, s8.2.2.2, 1⟩] : List TPlace), own cd28 a22 s8.2.2.1.length c9 s8.2.2.1, box bs_ 67 [.slice as_code s_.code.length cs_code, iV x27.2.at_, iV x27.2.seed], box b1 26 [iV 0, .slice none 0 0], box b2 26 [iV (w64 (1 + x1.1)), .slice a22 s8.2.2.1.length c9], it] := H285.pk [1, 0, 2, 3, 4, 5]
         have H287 : Hold h h110 [own cd28 a22 s8.2.2.1.length c9 s8.2.2.1, own cd28 a24 1 1 ([⟨0, 0, s8.2.2.2, 1⟩] : List TPlace), box bs_ 67 [.slice as_code s_.code.length cs_code, iV x27.2.at_, iV x27.2.seed], box b1 26 [iV 0, .slice none 0 0], box b2 26 [iV (w64 (1 + x1.1)), .slice a22 s8.2.2.1.length c9], it] := H286.pk [1, 0, 2, 3, 4, 5]
         refine Ze ?_
         refine E_app (C := cd28) (t := 24) (ty := 24) (n := s8.2.2.1.length) (m := 1) H287 cd28_ti rfl Tryd.underlying24 (by decide) (by kernel_rfl) hl6 (fun a25 c11 h111 H288 => ?_)
         refine Zr [.pointer (some ⟨b2, 1, none⟩)] 6 ?_
         have H290 : Hold h h111 [box b2 26 [iV (w64 (1 + x1.1)), .slice a22 s8.2.2.1.length c9], own cd28 a25 l6.length c11 l6, box bs_ 67 [.slice as_code s_.code.length cs_code, iV x27.2.at_, iV x27.2.seed], box b1 26 [iV 0, .slice none 0 0], it] := H288.pk [3, 0, 1, 2, 4]
         refine Ze ?_
         refine ZP 24 1 [iV (w64 (1 + x1.1)), .slice a25 l6.length c11] (.slice a25 l6.length c11) H290 (fun h112 H289 => ?_)
         refine Zx ?_
         refine Zk [0, 2, 3, 6] [(0, pV bs_), (2, pV b1), (3, pV b2), (6, iV s8.2.2.2)] ?_
         refine Run_blk ?_
         refine Zq [iV s8.2.2.2, iV (w64 (s8.2.2.2 + 1)), iV (w64 (s8.2.2.2 + 1))] [0, 2, 3, 6] [(0, pV bs_), (2, pV b1), (3, pV b2), (6, iV (w64 (s8.2.2.2 + 1)))] ?_
         have H291 : Hold h h112 [own cd28 a25 l6.length c11 l6, box b2 26 [iV (w64 (1 + x1.1)), .slice a25 l6.length c11], box bs_ 67 [.slice as_code s_.code.length cs_code, iV x27.2.at_, iV x27.2.seed], box b1 26 [iV 0, .slice none 0 0], it] := H289.pk [1, 0, 2, 3, 4]
         have H292 : Hold h h112 [box bs_ 67 [.slice as_code s_.code.length cs_code, iV x27.2.at_, iV x27.2.seed], box b1 26 [iV 0, .slice none 0 0], box b2 26 [iV (w64 (1 + x1.1)), .slice a25 l6.length c11], own cd28 a25 l6.length c11 l6, it] := H291.pk [2, 3, 1, 0, 4]
         have hB2 := M.ret_some hB2
         have gx26 := hgoy2 _ hB2.symm
         exact Za [0, 2, 3, 6] my2 ⟨(x27.2.at_, x27.2.seed, l6, (w64 (s8.2.2.2 + 1))), a25, c11, gx26, rfl, H292⟩
        ·have hB2 := (M.ite_some hB2).2 hb9
         refine Run_exit (k' := _) rfl ?_
         have H293 : Hold h h109 [own cd28 a22 s8.2.2.1.length c9 s8.2.2.1, box bs_ 67 [.slice as_code s_.code.length cs_code, iV x27.2.at_, iV x27.2.seed], box b1 26 [iV 0, .slice none 0 0], box b2 26 [iV (w64 (1 + x1.1)), .slice a22 s8.2.2.1.length c9], it] := H283.pk [3, 0, 1, 2, 4]
         have H294 : Hold h h109 [box bs_ 67 [.slice as_code s_.code.length cs_code, iV x27.2.at_, iV x27.2.seed], box b1 26 [iV 0, .slice none 0 0], box b2 26 [iV (w64 (1 + x1.1)), .slice a22 s8.2.2.1.length c9], own cd28 a22 s8.2.2.1.length c9 s8.2.2.1, it] := H293.pk [1, 2, 3, 0, 4]
         have hB2 := M.ret_some hB2
         have gx26 := houty2 _ hB2.symm
         subst gx26
         exact Zf [2, 3] ⟨a22, c9, rfl, H294⟩
      ·have gs6 := (M.ite_some gs6).2 hb8
       refine Run_skip ?_
       have H306 : Hold h h56 [own cd28 a3 x3.2.2.1.length c2 x3.2.2.1, box bs_ 67 [.slice as_code s_.code.length cs_code, iV x17.2.at_, iV x17.2.seed], box b1 26 [iV 0, .slice none 0 0], box b2 26 [iV (w64 (1 + x1.1)), .slice a3 x3.2.2.1.length c2], it] := H129.pk [3, 0, 1, 2, 4]
       have H307 : Hold h h56 [box b1 26 [iV 0, .slice none 0 0], box b2 26 [iV (w64 (1 + x1.1)), .slice a3 x3.2.2.1.length c2], own cd28 a3 x3.2.2.1.length c2 x3.2.2.1, box bs_ 67 [.slice as_code s_.code.length cs_code, iV x17.2.at_, iV x17.2.seed], it] := H306.pk [2, 3, 0, 1, 4]
       have gs6 := M.ret_some gs6
       subst gs6
       exact Zf [2, 3] ⟨a3, c2, rfl, H307⟩
 ·refine Run_block ?_
  have H311 : Hold h h6 [own cd28 a1 0 0 ([] : List TPlace), box bs_ 67 [.slice as_code s_.code.length cs_code, iV x2.2.at_, iV x2.2.seed], box b2 26 [iV (w64 (1 + x1.1)), .slice a1 0 0], box b1 26 [iV 0, .slice none 0 0], it] := H12.pk [2, 0, 1, 3, 4]
  have hn9 := (H311.len 0 rfl)
  have H312 : Hold h h6 [own cd28 a1 (([] : List TPlace).length) 0 ([] : List TPlace), box bs_ 67 [.slice as_code s_.code.length cs_code, iV x2.2.at_, iV x2.2.seed], box b2 26 [iV (w64 (1 + x1.1)), .slice a1 (([] : List TPlace).length) 0], box b1 26 [iV 0, .slice none 0 0], it] := by rw [hn9]; exact H311
  have H313 : Hold h h6 [box bs_ 67 [.slice as_code s_.code.length cs_code, iV x2.2.at_, iV x2.2.seed], box b1 26 [iV 0, .slice none 0 0], box b2 26 [iV (w64 (1 + x1.1)), .slice a1 (([] : List TPlace).length) 0], own cd28 a1 (([] : List TPlace).length) 0 ([] : List TPlace), it] := H312.pk [1, 3, 2, 0, 4]
  refine Run_keep [0, 2, 3, 4] (L' := [(0, pV bs_), (2, pV b1), (3, pV b2), (4, iV x2.1)]) (by first | (rw [hn9]; kernel_rfl) | (simp only [hn9]; kernel_rfl) | kernel_rfl) ?_
  refine Run_loop (fun m L' h' => ∃ (s1 : Int × Int × (List TPlace) × Int) (a2 : Option Addr) (c1 : Nat), M.loopN _ n m s1 = some x3 ∧ L' = [(0, pV bs_), (2, pV b1), (3, pV b2), (4, iV s1.2.2.2)] ∧ Hold h h' [box bs_ 67 [.slice as_code s_.code.length cs_code, iV s1.1, iV s1.2.1], box b1 26 [iV 0, .slice none 0 0], box b2 26 [iV (w64 (1 + x1.1)), .slice a2 s1.2.2.1.length c1], own cd28 a2 s1.2.2.1.length c1 s1.2.2.1, it]) n ⟨(x2.2.at_, x2.2.seed, ([] : List TPlace), x2.1), a1, 0, gx3, rfl, H313⟩ ?_
  rintro my1 _ h7 ⟨s1, a2, c1, gx3, rfl, H13⟩
  obtain ⟨my1, y1, rfl, hB1, hgoy1, houty1⟩ := M.loop_some gx3
  refine Zs ?_
  refine Zs ?_
  refine Zq [iV s1.2.2.2, .bool (decide (0 < s1.2.2.2))] [0, 2, 3, 4, 15] [(0, pV bs_), (2, pV b1), (3, pV b2), (4, iV s1.2.2.2), (15, .bool (decide (0 < s1.2.2.2)))] ?_
  refine Zc (decide (0 < s1.2.2.2)) (fun hb1 => ?_) (fun hb1 => ?_)
  ·have hB1 := (M.ite_some hB1).1 hb1
   refine Run_skip ?_
   refine Zs ?_
   refine Run_block ?_
   refine Zs ?_
   obtain ⟨s2, gs2, hB1⟩ := M.bind_some hB1
   refine Run_join (fun L' h' => ∃ (b7 : Nat), L' = [(0, pV bs_), (2, pV b1), (3, pV b2), (4, iV s1.2.2.2), (5, pV b7)] ∧ Hold h h' [box bs_ 67 [.slice as_code s_.code.length cs_code, iV s2.1, iV s2.2.1], box b1 26 [iV 0, .slice none 0 0], box b2 26 [iV (w64 (1 + x1.1)), .slice a2 s1.2.2.1.length c1], own cd28 a2 s1.2.2.1.length c1 s1.2.2.1, box b7 28 [iV s2.2.2.From, iV s2.2.2.To, iV s2.2.2.Delay, iV s2.2.2.Tokens], it]) ?_ ?_
   ·rintro _ h43 ⟨b7, rfl, H90⟩
    refine Zs ?_
    refine Zs ?_
    obtain ⟨s3, gs3, hB1⟩ := M.bind_some hB1
    refine Run_join (fun L' h' => L' = [(0, pV bs_), (2, pV b1), (3, pV b2), (4, iV s1.2.2.2), (5, pV b7), (38, .bool s3.2.2)] ∧ Hold h h' [box bs_ 67 [.slice as_code s_.code.length cs_code, iV s3.1, iV s3.2.1], box b1 26 [iV 0, .slice none 0 0], box b2 26 [iV (w64 (1 + x1.1)), .slice a2 s1.2.2.1.length c1], own cd28 a2 s1.2.2.1.length c1 s1.2.2.1, box b7 28 [iV s2.2.2.From, iV s2.2.2.To, iV s2.2.2.Delay, iV s2.2.2.Tokens], it]) ?_ ?_
    ·rintro _ h45 ⟨rfl, H98⟩
     obtain ⟨s4, gs4, hB1⟩ := M.bind_some hB1
     refine Run_join (fun L' h' => L' = [(0, pV bs_), (2, pV b1), (3, pV b2), (4, iV s1.2.2.2), (5, pV b7)] ∧ Hold h h' [box bs_ 67 [.slice as_code s_.code.length cs_code, iV s4.1, iV s4.2.1], box b1 26 [iV 0, .slice none 0 0], box b2 26 [iV (w64 (1 + x1.1)), .slice a2 s1.2.2.1.length c1], own cd28 a2 s1.2.2.1.length c1 s1.2.2.1, box b7 28 [iV s4.2.2.From, iV s4.2.2.To, iV s4.2.2.Delay, iV s4.2.2.Tokens], it]) ?_ ?_
     ·rintro _ h49 ⟨rfl, H107⟩
      refine Zs ?_
      refine Zs ?_
      refine Run_ops ?_
      refine Zr [pV bs_] 0 ?_
      obtain ⟨x16, hx15, hB1⟩ := M.bind_some hB1
      have H109 : Hold h h49 [box bs_ 67 [.slice as_code s_.code.length cs_code, iV s4.1, iV s4.2.1], bun [box b1 26 [iV 0, .slice none 0 0], box b2 26 [iV (w64 (1 + x1.1)), .slice a2 s1.2.2.1.length c1], own cd28 a2 s1.2.2.1.length c1 s1.2.2.1, box b7 28 [iV s4.2.2.From, iV s4.2.2.To, iV s4.2.2.Delay, iV s4.2.2.Tokens], it]] := H107.bd 1
      refine Ze ?_
      refine ZC 22 #[pV bs_, iV 30] (w_spec_l01Next h h49 _ (⟨s_.code, s4.1, s4.2.1⟩ : TL01source) bs_ as_code cs_code rs_code 30 H109 _ _ hx15) (fun v15 h50 hp15 => ?_)
      obtain ⟨rfl, H110⟩ := hp15
      have H111 : Hold h h50 [box bs_ 67 [.slice as_code s_.code.length cs_code, iV x16.2.at_, iV x16.2.seed], box b1 26 [iV 0, .slice none 0 0], box b2 26 [iV (w64 (1 + x1.1)), .slice a2 s1.2.2.1.length c1], own cd28 a2 s1.2.2.1.length c1 s1.2.2.1, box b7 28 [iV s4.2.2.From, iV s4.2.2.To, iV s4.2.2.Delay, iV s4.2.2.Tokens], it] := H110.ub (js := _) 1 1 H107
      refine Zr [.bool (x16.1 == 0)] 2 ?_
      refine Zx ?_
      refine Zk [0, 2, 3, 4, 5, 48] [(0, pV bs_), (2, pV b1), (3, pV b2), (4, iV s1.2.2.2), (5, pV b7), (48, .bool (x16.1 == 0))] ?_
      obtain ⟨s5, gs5, hB1⟩ := M.bind_some hB1
      refine Run_join (fun L' h' => L' = [(0, pV bs_), (2, pV b1), (3, pV b2), (4, iV s1.2.2.2), (5, pV b7)] ∧ Hold h h' [box bs_ 67 [.slice as_code s_.code.length cs_code, iV x16.2.at_, iV x16.2.seed], box b1 26 [iV 0, .slice none 0 0], box b2 26 [iV (w64 (1 + x1.1)), .slice a2 s1.2.2.1.length c1], own cd28 a2 s1.2.2.1.length c1 s1.2.2.1, box b7 28 [iV s5.From, iV s5.To, iV s5.Delay, iV s5.Tokens], it]) ?_ ?_
      ·rintro _ h52 ⟨rfl, H114⟩
       refine Run_ops ?_
       refine Zr [.pointer (some ⟨b2, 1, none⟩)] 0 ?_
       refine Zz (.slice a2 s1.2.2.1.length c1) (Zl 24 (⟨b2, 1, none⟩) (.slice a2 s1.2.2.1.length c1) (H114.cell 2 rfl rfl)) ?_
       refine Zz (.agg #[iV s5.From, iV s5.To, iV s5.Delay, iV s5.Tokens]) (Y_loadA (t := 28) (n := 4) (p := ⟨b7, 0, none⟩) (cs := [iV s5.From, iV s5.To, iV s5.Delay, iV s5.Tokens]) (by kernel_rfl) (fun w => by kernel_rfl) (by kernel_rfl) rfl (H114.cells (n := 4) (off := 0) 4 rfl rfl)) ?_
       refine Ze ?_
       refine E_lit (C := cd28) (n := 1) (l := ([s5] : List TPlace)) (cs := [iV s5.From, iV s5.To, iV s5.Delay, iV s5.Tokens]) H114 (fun w => by kernel_rfl) (Enc.consE (cd28_own (s5 : TPlace) _) (Enc.nil _ _) rfl) rfl (by decide) (fun a4 h53 H116 => ?_)
       obtain ⟨l1, hl1, hB1⟩ := M.bind_some hB1
       have hl1 := M.app_some hl1
       have H117 : Hold h h53 [own cd28 a2 s1.2.2.1.length c1 s1.2.2.1, own cd28 a4 1 1 ([s5] : List TPlace), box bs_ 67 [.slice as_code s_.code.length cs_code, iV x16.2.at_, iV x16.2.seed], box b1 26 [iV 0, .slice none 0 0], box b2 26 [iV (w64 (1 + x1.1)), .slice a2 s1.2.2.1.length c1], box b7 28 [iV s5.From, iV s5.To, iV s5.Delay, iV s5.Tokens], it] := H116.pk [4, 0, 1, 2, 3, 5, 6]
       have H118 : Hold h h53 [own cd28 a4 1 1 ([s5] : List TPlace), own cd28 a2 s1.2.2.1.length c1 s1.2.2.1, box bs_ 67 [.slice as_code s_.code.length cs_code, iV x16.2.at_, iV x16.2.seed], box b1 26 [iV 0, .slice none 0 0], box b2 26 [iV (w64 (1 + x1.1)), .slice a2 s1.2.2.1.length c1], box b7 28 [iV s5.From, iV s5.To, iV s5.Delay, iV s5.Tokens], it] := H117.pk [1, 0, 2, 3, 4, 5, 6]
       have H119 : Hold h h53 [own cd28 a2 s1.2.2.1.length c1 s1.2.2.1, own cd28 a4 1 1 ([s5] : List TPlace), box bs_ 67 [.slice as_code s_.code.length cs_code, iV x16.2.at_, iV x16.2.seed], box b1 26 [iV 0, .slice none 0 0], box b2 26 [iV (w64 (1 + x1.1)), .slice a2 s1.2.2.1.length c1], box b7 28 [iV s5.From, iV s5.To, iV s5.Delay, iV s5.Tokens], it] := H118.pk [1, 0, 2, 3, 4, 5, 6]
       refine Ze ?_
       refine E_app (C := cd28) (t := 24) (ty := 24) (n := s1.2.2.1.length) (m := 1) H119 cd28_ti rfl Tryd.underlying24 (by decide) (by kernel_rfl) hl1 (fun a5 c3 h54 H120 => ?_)
       refine Zr [.pointer (some ⟨b2, 1, none⟩)] 5 ?_
       have H122 : Hold h h54 [box b2 26 [iV (w64 (1 + x1.1)), .slice a2 s1.2.2.1.length c1], own cd28 a5 l1.length c3 l1, box bs_ 67 [.slice as_code s_.code.length cs_code, iV x16.2.at_, iV x16.2.seed], box b1 26 [iV 0, .slice none 0 0], box b7 28 [iV s5.From, iV s5.To, iV s5.Delay, iV s5.Tokens], it] := H120.pk [3, 0, 1, 2, 4, 5]
       refine Ze ?_
       refine ZP 24 1 [iV (w64 (1 + x1.1)), .slice a5 l1.length c3] (.slice a5 l1.length c3) H122 (fun h55 H121 => ?_)
       refine Zx ?_
       refine Zk [0, 2, 3, 4] [(0, pV bs_), (2, pV b1), (3, pV b2), (4, iV s1.2.2.2)] ?_
       refine Run_blk ?_
       refine Zq [iV s1.2.2.2, iV (w64 (s1.2.2.2 - 1)), iV (w64 (s1.2.2.2 - 1))] [0, 2, 3, 4] [(0, pV bs_), (2, pV b1), (3, pV b2), (4, iV (w64 (s1.2.2.2 - 1)))] ?_
       have H123 : Hold h h55 [own cd28 a5 l1.length c3 l1, box b2 26 [iV (w64 (1 + x1.1)), .slice a5 l1.length c3], box bs_ 67 [.slice as_code s_.code.length cs_code, iV x16.2.at_, iV x16.2.seed], box b1 26 [iV 0, .slice none 0 0], box b7 28 [iV s5.From, iV s5.To, iV s5.Delay, iV s5.Tokens], it] := H121.pk [1, 0, 2, 3, 4, 5]
       have H124 : Hold h h55 [box bs_ 67 [.slice as_code s_.code.length cs_code, iV x16.2.at_, iV x16.2.seed], box b1 26 [iV 0, .slice none 0 0], box b2 26 [iV (w64 (1 + x1.1)), .slice a5 l1.length c3], own cd28 a5 l1.length c3 l1, it] := H123.pk [2, 3, 1, 0, 5]
       have hB1 := M.ret_some hB1
       have gx3 := hgoy1 _ hB1.symm
       exact Za [0, 2, 3, 4] my1 ⟨(x16.2.at_, x16.2.seed, l1, (w64 (s1.2.2.2 - 1))), a5, c3, gx3, rfl, H124⟩
      ·refine Zc (x16.1 == 0) (fun hb4 => ?_) (fun hb4 => ?_)
       ·have gs5 := (M.ite_some gs5).1 hb4
        refine Run_ops ?_
        refine Zr [.pointer (some ⟨b7, 3, none⟩)] 0 ?_
        have H113 : Hold h h50 [box b7 28 [iV s4.2.2.From, iV s4.2.2.To, iV s4.2.2.Delay, iV s4.2.2.Tokens], box bs_ 67 [.slice as_code s_.code.length cs_code, iV x16.2.at_, iV x16.2.seed], box b1 26 [iV 0, .slice none 0 0], box b2 26 [iV (w64 (1 + x1.1)), .slice a2 s1.2.2.1.length c1], own cd28 a2 s1.2.2.1.length c1 s1.2.2.1, it] := H111.pk [4, 0, 1, 2, 3, 5]
        refine Ze ?_
        refine ZP 2 3 [iV s4.2.2.From, iV s4.2.2.To, iV s4.2.2.Delay, iV 0] (iV 0) H113 (fun h51 H112 => ?_)
        refine Zx ?_
        refine Zk [0, 2, 3, 4, 5] [(0, pV bs_), (2, pV b1), (3, pV b2), (4, iV s1.2.2.2), (5, pV b7)] ?_
        have H115 : Hold h h51 [box bs_ 67 [.slice as_code s_.code.length cs_code, iV x16.2.at_, iV x16.2.seed], box b1 26 [iV 0, .slice none 0 0], box b2 26 [iV (w64 (1 + x1.1)), .slice a2 s1.2.2.1.length c1], own cd28 a2 s1.2.2.1.length c1 s1.2.2.1, box b7 28 [iV s4.2.2.From, iV s4.2.2.To, iV s4.2.2.Delay, iV 0], it] := H112.pk [1, 2, 3, 4, 0, 5]
        have gs5 := M.ret_some gs5
        subst gs5
        exact Zf [0, 2, 3, 4, 5] ⟨rfl, H115⟩
       ·have gs5 := (M.ite_some gs5).2 hb4
        refine Run_skip ?_
        have gs5 := M.ret_some gs5
        subst gs5
        exact Zf [0, 2, 3, 4, 5] ⟨rfl, H111⟩
     ·refine Zc (s3.2.2) (fun hb3 => ?_) (fun hb3 => ?_)
      ·have gs4 := (M.ite_some gs4).1 hb3
       refine Run_ops ?_
       refine Zr [pV bs_] 0 ?_
       obtain ⟨x14, hx13, gs4⟩ := M.bind_some gs4
       have H99 : Hold h h45 [box bs_ 67 [.slice as_code s_.code.length cs_code, iV s3.1, iV s3.2.1], bun [box b1 26 [iV 0, .slice none 0 0], box b2 26 [iV (w64 (1 + x1.1)), .slice a2 s1.2.2.1.length c1], own cd28 a2 s1.2.2.1.length c1 s1.2.2.1, box b7 28 [iV s2.2.2.From, iV s2.2.2.To, iV s2.2.2.Delay, iV s2.2.2.Tokens], it]] := H98.bd 1
       refine Ze ?_
       refine ZC 22 #[pV bs_, iV 2] (w_spec_l01Next h h45 _ (⟨s_.code, s3.1, s3.2.1⟩ : TL01source) bs_ as_code cs_code rs_code 2 H99 _ _ hx13) (fun v13 h46 hp13 => ?_)
       obtain ⟨rfl, H100⟩ := hp13
       have H101 : Hold h h46 [box bs_ 67 [.slice as_code s_.code.length cs_code, iV x14.2.at_, iV x14.2.seed], box b1 26 [iV 0, .slice none 0 0], box b2 26 [iV (w64 (1 + x1.1)), .slice a2 s1.2.2.1.length c1], own cd28 a2 s1.2.2.1.length c1 s1.2.2.1, box b7 28 [iV s2.2.2.From, iV s2.2.2.To, iV s2.2.2.Delay, iV s2.2.2.Tokens], it] := H100.ub (js := _) 1 1 H98
       refine Zr [pV bs_] 2 ?_
       obtain ⟨x15, hx14, gs4⟩ := M.bind_some gs4
       have H102 : Hold h h46 [box bs_ 67 [.slice as_code s_.code.length cs_code, iV x14.2.at_, iV x14.2.seed], bun [box b1 26 [iV 0, .slice none 0 0], box b2 26 [iV (w64 (1 + x1.1)), .slice a2 s1.2.2.1.length c1], own cd28 a2 s1.2.2.1.length c1 s1.2.2.1, box b7 28 [iV s2.2.2.From, iV s2.2.2.To, iV s2.2.2.Delay, iV s2.2.2.Tokens], it]] := H101.bd 1
       refine Ze ?_
       refine ZC 22 #[pV bs_, iV 3] (w_spec_l01Next h h46 _ (⟨s_.code, x14.2.at_, x14.2.seed⟩ : TL01source) bs_ as_code cs_code rs_code 3 H102 _ _ hx14) (fun v14 h47 hp14 => ?_)
       obtain ⟨rfl, H103⟩ := hp14
       have H104 : Hold h h47 [box bs_ 67 [.slice as_code s_.code.length cs_code, iV x15.2.at_, iV x15.2.seed], box b1 26 [iV 0, .slice none 0 0], box b2 26 [iV (w64 (1 + x1.1)), .slice a2 s1.2.2.1.length c1], own cd28 a2 s1.2.2.1.length c1 s1.2.2.1, box b7 28 [iV s2.2.2.From, iV s2.2.2.To, iV s2.2.2.Delay, iV s2.2.2.Tokens], it] := H103.ub (js := _) 1 1 H101
       refine Zr [iV (w64 (x14.1 * x15.1)), iV (w64 (1 + (w64 (x14.1 * x15.1)))), .pointer (some ⟨b7, 3, none⟩)] 4 ?_
       have H106 : Hold h h47 [box b7 28 [iV s2.2.2.From, iV s2.2.2.To, iV s2.2.2.Delay, iV s2.2.2.Tokens], box bs_ 67 [.slice as_code s_.code.length cs_code, iV x15.2.at_, iV x15.2.seed], box b1 26 [iV 0, .slice none 0 0], box b2 26 [iV (w64 (1 + x1.1)), .slice a2 s1.2.2.1.length c1], own cd28 a2 s1.2.2.1.length c1 s1.2.2.1, it] := H104.pk [4, 0, 1, 2, 3, 5]
       refine Ze ?_
       refine ZP 2 3 [iV s2.2.2.From, iV s2.2.2.To, iV s2.2.2.Delay, iV (w64 (1 + (w64 (x14.1 * x15.1))))] (iV (w64 (1 + (w64 (x14.1 * x15.1))))) H106 (fun h48 H105 => ?_)
       refine Zx ?_
       refine Zk [0, 2, 3, 4, 5] [(0, pV bs_), (2, pV b1), (3, pV b2), (4, iV s1.2.2.2), (5, pV b7)] ?_
       have H108 : Hold h h48 [box bs_ 67 [.slice as_code s_.code.length cs_code, iV x15.2.at_, iV x15.2.seed], box b1 26 [iV 0, .slice none 0 0], box b2 26 [iV (w64 (1 + x1.1)), .slice a2 s1.2.2.1.length c1], own cd28 a2 s1.2.2.1.length c1 s1.2.2.1, box b7 28 [iV s2.2.2.From, iV s2.2.2.To, iV s2.2.2.Delay, iV (w64 (1 + (w64 (x14.1 * x15.1))))], it] := H105.pk [1, 2, 3, 4, 0, 5]
       have gs4 := M.ret_some gs4
       subst gs4
       exact Zf [0, 2, 3, 4, 5] ⟨rfl, H108⟩
      ·have gs4 := (M.ite_some gs4).2 hb3
       refine Run_skip ?_
       have gs4 := M.ret_some gs4
       subst gs4
       exact Zf [0, 2, 3, 4, 5] ⟨rfl, H98⟩
    ·refine Run_ops ?_
     refine Zr [pV b7] 0 ?_
     refine Zz (iV s2.2.2.From) (Zl 2 (⟨b7, 0, none⟩) (iV s2.2.2.From) (H90.cell 4 rfl rfl)) ?_
     refine Zr [.pointer (some ⟨b7, 1, none⟩)] 2 ?_
     refine Zz (iV s2.2.2.To) (Zl 2 (⟨b7, 1, none⟩) (iV s2.2.2.To) (H90.cell 4 rfl rfl)) ?_
     refine Zr [.bool (decide (s2.2.2.To ≤ s2.2.2.From))] 4 ?_
     rcases Bool.eq_false_or_eq_true (decide (s2.2.2.To ≤ s2.2.2.From)) with hb2 | hb2
     ·have gs3 := (M.ite_some gs3).1 hb2
      refine Run_q1 10 (L' := [(0, pV bs_), (2, pV b1), (3, pV b2), (4, iV s1.2.2.2), (5, pV b7), (38, .bool true)]) ?_ ?_
      ·refine Zv (decide (s2.2.2.To ≤ s2.2.2.From)) true hb2 ?_
       refine Zn ?_
       refine Zn ?_
       refine Zn ?_
       refine Zv true true rfl ?_
       exact Zd [0, 2, 3, 4, 5, 38]
      refine Zx ?_
      refine Zk [0, 2, 3, 4, 5, 38] [(0, pV bs_), (2, pV b1), (3, pV b2), (4, iV s1.2.2.2), (5, pV b7), (38, .bool true)] ?_
      have gs3 := M.ret_some gs3
      subst gs3
      exact Zf [0, 2, 3, 4, 5, 38] ⟨rfl, H90⟩
     ·have gs3 := (M.ite_some gs3).2 hb2
      refine Run_q1 6 (L' := [(0, pV bs_), (2, pV b1), (3, pV b2), (4, iV s1.2.2.2), (5, pV b7), (29, pV b7), (30, iV s2.2.2.From), (31, .pointer (some ⟨b7, 1, none⟩)), (32, iV s2.2.2.To), (33, .bool (decide (s2.2.2.To ≤ s2.2.2.From))), (34, .bool false)]) ?_ ?_
      ·refine Zv (decide (s2.2.2.To ≤ s2.2.2.From)) false hb2 ?_
       exact Zd [0, 2, 3, 4, 5, 29, 30, 31, 32, 33, 34]
      refine Zr [pV bs_] 6 ?_
      obtain ⟨x13, hx12, gs3⟩ := M.bind_some gs3
      have H95 : Hold h h43 [box bs_ 67 [.slice as_code s_.code.length cs_code, iV s2.1, iV s2.2.1], bun [box b1 26 [iV 0, .slice none 0 0], box b2 26 [iV (w64 (1 + x1.1)), .slice a2 s1.2.2.1.length c1], own cd28 a2 s1.2.2.1.length c1 s1.2.2.1, box b7 28 [iV s2.2.2.From, iV s2.2.2.To, iV s2.2.2.Delay, iV s2.2.2.Tokens], it]] := H90.bd 1
      refine Ze ?_
      refine ZC 22 #[pV bs_, iV 4] (w_spec_l01Next h h43 _ (⟨s_.code, s2.1, s2.2.1⟩ : TL01source) bs_ as_code cs_code rs_code 4 H95 _ _ hx12) (fun v12 h44 hp12 => ?_)
      obtain ⟨rfl, H96⟩ := hp12
      have H97 : Hold h h44 [box bs_ 67 [.slice as_code s_.code.length cs_code, iV x13.2.at_, iV x13.2.seed], box b1 26 [iV 0, .slice none 0 0], box b2 26 [iV (w64 (1 + x1.1)), .slice a2 s1.2.2.1.length c1], own cd28 a2 s1.2.2.1.length c1 s1.2.2.1, box b7 28 [iV s2.2.2.From, iV s2.2.2.To, iV s2.2.2.Delay, iV s2.2.2.Tokens], it] := H96.ub (js := _) 1 1 H90
      refine Zr [.bool (x13.1 == 0)] 8 ?_
      refine Zr [.bool (x13.1 == 0)] 9 ?_
      refine Zx ?_
      refine Zk [0, 2, 3, 4, 5, 38] [(0, pV bs_), (2, pV b1), (3, pV b2), (4, iV s1.2.2.2), (5, pV b7), (38, .bool (x13.1 == 0))] ?_
      have gs3 := M.ret_some gs3
      subst gs3
      exact Zf [0, 2, 3, 4, 5, 38] ⟨rfl, H97⟩
   ·refine Run_D (fun x => Hold h x [box b1 26 [iV 0, .slice none 0 0], box b2 26 [iV (w64 (1 + x1.1)), .slice a2 s1.2.2.1.length c1], own cd28 a2 s1.2.2.1.length c1 s1.2.2.1, it]) (fun x => Hold h x [box bs_ 67 [.slice as_code s_.code.length cs_code, iV s1.1, iV s1.2.1], box b1 26 [iV 0, .slice none 0 0], box b2 26 [iV (w64 (1 + x1.1)), .slice a2 s1.2.2.1.length c1], own cd28 a2 s1.2.2.1.length c1 s1.2.2.1, it]) mixed (by kernel_rfl) H13 Hold.stable (fun x Hy => (show Hold h x [box bs_ 67 [.slice as_code s_.code.length cs_code, iV s1.1, iV s1.2.1], box b1 26 [iV 0, .slice none 0 0], box b2 26 [iV (w64 (1 + x1.1)), .slice a2 s1.2.2.1.length c1], own cd28 a2 s1.2.2.1.length c1 s1.2.2.1, it] from Hy).pk [1, 2, 3, 4]) ?_
    refine ZB 11 [pV bs_, pV b2] 0 ?_
    refine ZY 10 2 (iV (w64 (1 + x1.1))) (fun hx Hx => (YE.of (Zl 2 (⟨b2, 0, none⟩) (iV (w64 (1 + x1.1))) (Hx.cell 1 rfl rfl)))) ?_
    refine ZB 8 [pV bs_, pV b2] 4 ?_
    refine ZY 7 6 (iV (w64 (1 + x1.1))) (fun hx Hx => (YE.of (Zl 2 (⟨b2, 0, none⟩) (iV (w64 (1 + x1.1))) (Hx.cell 1 rfl rfl)))) ?_
    refine ZB 6 [pV bs_] 8 ?_
    refine DR_e2 5 3 11 (by kernel_rfl) (by kernel_rfl) (by kernel_rfl) (by kernel_rfl) ?_ ?_
    ·intro h9 H15
     have H16 := H15
     obtain ⟨x4, hx3, gs2⟩ := M.bind_some gs2
     have H17 : Hold h h9 [box bs_ 67 [.slice as_code s_.code.length cs_code, iV s1.1, iV s1.2.1], bun [box b1 26 [iV 0, .slice none 0 0], box b2 26 [iV (w64 (1 + x1.1)), .slice a2 s1.2.2.1.length c1], own cd28 a2 s1.2.2.1.length c1 s1.2.2.1, it]] := H16.bd 1
     refine ZC 22 #[pV bs_, iV (w64 (1 + x1.1))] (w_spec_l01Next h h9 _ (⟨s_.code, s1.1, s1.2.1⟩ : TL01source) bs_ as_code cs_code rs_code (w64 (1 + x1.1)) H17 _ _ hx3) (fun v3 h10 hp3 => ?_)
     obtain ⟨rfl, H18⟩ := hp3
     have H19 : Hold h h10 [box bs_ 67 [.slice as_code s_.code.length cs_code, iV x4.2.at_, iV x4.2.seed], box b1 26 [iV 0, .slice none 0 0], box b2 26 [iV (w64 (1 + x1.1)), .slice a2 s1.2.2.1.length c1], own cd28 a2 s1.2.2.1.length c1 s1.2.2.1, it] := H18.ub (js := _) 1 1 H16
     refine ZA [box b1 26 [iV 0, .slice none 0 0], box b2 26 [iV (w64 (1 + x1.1)), .slice a2 s1.2.2.1.length c1], own cd28 a2 s1.2.2.1.length c1 s1.2.2.1, it] [1, 2, 3, 4] [0, 1, 2, 3] H19 ?_
     refine DR_e2 4 7 11 (by kernel_rfl) (by kernel_rfl) (by kernel_rfl) (by kernel_rfl) ?_ ?_
     ·intro h11 H20
      have H21 := H20
      obtain ⟨x5, hx4, gs2⟩ := M.bind_some gs2
      have H22 : Hold h h11 [box bs_ 67 [.slice as_code s_.code.length cs_code, iV x4.2.at_, iV x4.2.seed], bun [box b1 26 [iV 0, .slice none 0 0], box b2 26 [iV (w64 (1 + x1.1)), .slice a2 s1.2.2.1.length c1], own cd28 a2 s1.2.2.1.length c1 s1.2.2.1, it]] := H21.bd 1
      refine ZC 22 #[pV bs_, iV (w64 (1 + x1.1))] (w_spec_l01Next h h11 _ (⟨s_.code, x4.2.at_, x4.2.seed⟩ : TL01source) bs_ as_code cs_code rs_code (w64 (1 + x1.1)) H22 _ _ hx4) (fun v4 h12 hp4 => ?_)
      obtain ⟨rfl, H23⟩ := hp4
      have H24 : Hold h h12 [box bs_ 67 [.slice as_code s_.code.length cs_code, iV x5.2.at_, iV x5.2.seed], box b1 26 [iV 0, .slice none 0 0], box b2 26 [iV (w64 (1 + x1.1)), .slice a2 s1.2.2.1.length c1], own cd28 a2 s1.2.2.1.length c1 s1.2.2.1, it] := H23.ub (js := _) 1 1 H21
      refine ZA [box b1 26 [iV 0, .slice none 0 0], box b2 26 [iV (w64 (1 + x1.1)), .slice a2 s1.2.2.1.length c1], own cd28 a2 s1.2.2.1.length c1 s1.2.2.1, it] [1, 2, 3, 4] [0, 1, 2, 3] H24 ?_
      refine DR_e2 3 9 11 (by kernel_rfl) (by kernel_rfl) (by kernel_rfl) (by kernel_rfl) ?_ ?_
      ·intro h13 H25
       have H26 := H25
       obtain ⟨x6, hx5, gs2⟩ := M.bind_some gs2
       have H27 : Hold h h13 [box bs_ 67 [.slice as_code s_.code.length cs_code, iV x5.2.at_, iV x5.2.seed], bun [box b1 26 [iV 0, .slice none 0 0], box b2 26 [iV (w64 (1 + x1.1)), .slice a2 s1.2.2.1.length c1], own cd28 a2 s1.2.2.1.length c1 s1.2.2.1, it]] := H26.bd 1
       refine ZC 22 #[pV bs_, iV 12] (w_spec_l01Next h h13 _ (⟨s_.code, x5.2.at_, x5.2.seed⟩ : TL01source) bs_ as_code cs_code rs_code 12 H27 _ _ hx5) (fun v5 h14 hp5 => ?_)
       obtain ⟨rfl, H28⟩ := hp5
       have H29 : Hold h h14 [box bs_ 67 [.slice as_code s_.code.length cs_code, iV x6.2.at_, iV x6.2.seed], box b1 26 [iV 0, .slice none 0 0], box b2 26 [iV (w64 (1 + x1.1)), .slice a2 s1.2.2.1.length c1], own cd28 a2 s1.2.2.1.length c1 s1.2.2.1, it] := H28.ub (js := _) 1 1 H26
       refine ZA [box b1 26 [iV 0, .slice none 0 0], box b2 26 [iV (w64 (1 + x1.1)), .slice a2 s1.2.2.1.length c1], own cd28 a2 s1.2.2.1.length c1 s1.2.2.1, it] [1, 2, 3, 4] [0, 1, 2, 3] H29 ?_
       refine ZB 2 [.agg #[iV x4.1, iV x5.1, iV x6.1, iV 0]] 10 ?_
       refine ZE 1 11 (fun h15 H30 => ?_)
       have H31 := H30
       refine E_box (ty := 28) (cs := [iV 0, iV 0, iV 0, iV 0]) H31 (fun w => by kernel_rfl) (fun b3 h16 H32 => ?_)
       refine ZA [box b1 26 [iV 0, .slice none 0 0], box b2 26 [iV (w64 (1 + x1.1)), .slice a2 s1.2.2.1.length c1], own cd28 a2 s1.2.2.1.length c1 s1.2.2.1, it, box b3 28 [iV 0, iV 0, iV 0, iV 0]] [2, 3, 4, 5, 0] [0, 1, 2, 3] H32 ?_
       refine ZT 12 (fun h17 H33 => ?_)
       have H34 := H33
       refine Ze ?_
       refine ZP 28 0 [iV x4.1, iV x5.1, iV x6.1, iV 0] (.agg #[iV x4.1, iV x5.1, iV x6.1, iV 0]) H34 (fun h18 H35 => ?_)
       refine Zx ?_
       refine Zk [0, 2, 3, 4, 5] [(0, pV bs_), (2, pV b1), (3, pV b2), (4, iV s1.2.2.2), (5, pV b3)] ?_
       have H91 : Hold h h18 [box bs_ 67 [.slice as_code s_.code.length cs_code, iV x6.2.at_, iV x6.2.seed], box b1 26 [iV 0, .slice none 0 0], box b2 26 [iV (w64 (1 + x1.1)), .slice a2 s1.2.2.1.length c1], own cd28 a2 s1.2.2.1.length c1 s1.2.2.1, box b3 28 [iV x4.1, iV x5.1, iV x6.1, iV 0], it] := H35.pk [1, 2, 3, 4, 0, 5]
       have gs2 := M.ret_some gs2
       subst gs2
       exact Zf [0, 2, 3, 4, 5] ⟨b3, rfl, H91⟩
      ·intro h19 H36
       have H37 := H36
       refine E_box (ty := 28) (cs := [iV 0, iV 0, iV 0, iV 0]) H37 (fun w => by kernel_rfl) (fun b4 h20 H38 => ?_)
       refine ZA [box b1 26 [iV 0, .slice none 0 0], box b2 26 [iV (w64 (1 + x1.1)), .slice a2 s1.2.2.1.length c1], own cd28 a2 s1.2.2.1.length c1 s1.2.2.1, it, box b4 28 [iV 0, iV 0, iV 0, iV 0]] [2, 3, 4, 5, 0] [0, 1, 2, 3] H38 ?_
       refine ZE 2 9 (fun h21 H39 => ?_)
       have H40 := H39
       obtain ⟨x7, hx6, gs2⟩ := M.bind_some gs2
       have H41 : Hold h h21 [box bs_ 67 [.slice as_code s_.code.length cs_code, iV x5.2.at_, iV x5.2.seed], box b4 28 [iV 0, iV 0, iV 0, iV 0], box b1 26 [iV 0, .slice none 0 0], box b2 26 [iV (w64 (1 + x1.1)), .slice a2 s1.2.2.1.length c1], own cd28 a2 s1.2.2.1.length c1 s1.2.2.1, it] := H40.pk [1, 0, 2, 3, 4, 5]
       have H42 : Hold h h21 [box bs_ 67 [.slice as_code s_.code.length cs_code, iV x5.2.at_, iV x5.2.seed], bun [box b4 28 [iV 0, iV 0, iV 0, iV 0], box b1 26 [iV 0, .slice none 0 0], box b2 26 [iV (w64 (1 + x1.1)), .slice a2 s1.2.2.1.length c1], own cd28 a2 s1.2.2.1.length c1 s1.2.2.1, it]] := H41.bd 1
       refine ZC 22 #[pV bs_, iV 12] (w_spec_l01Next h h21 _ (⟨s_.code, x5.2.at_, x5.2.seed⟩ : TL01source) bs_ as_code cs_code rs_code 12 H42 _ _ hx6) (fun v6 h22 hp6 => ?_)
       obtain ⟨rfl, H43⟩ := hp6
       have H44 : Hold h h22 [box bs_ 67 [.slice as_code s_.code.length cs_code, iV x7.2.at_, iV x7.2.seed], box b4 28 [iV 0, iV 0, iV 0, iV 0], box b1 26 [iV 0, .slice none 0 0], box b2 26 [iV (w64 (1 + x1.1)), .slice a2 s1.2.2.1.length c1], own cd28 a2 s1.2.2.1.length c1 s1.2.2.1, it] := H43.ub (js := _) 1 1 H41
       refine ZA [box b1 26 [iV 0, .slice none 0 0], box b2 26 [iV (w64 (1 + x1.1)), .slice a2 s1.2.2.1.length c1], own cd28 a2 s1.2.2.1.length c1 s1.2.2.1, it, box b4 28 [iV 0, iV 0, iV 0, iV 0]] [2, 3, 4, 5, 1] [0, 1, 2, 3, 4] H44 ?_
       refine ZB 1 [.agg #[iV x4.1, iV x5.1, iV x7.1, iV 0]] 10 ?_
       refine ZT 12 (fun h23 H45 => ?_)
       have H46 := H45
       have H48 : Hold h h23 [box b4 28 [iV 0, iV 0, iV 0, iV 0], box bs_ 67 [.slice as_code s_.code.length cs_code, iV x7.2.at_, iV x7.2.seed], box b1 26 [iV 0, .slice none 0 0], box b2 26 [iV (w64 (1 + x1.1)), .slice a2 s1.2.2.1.length c1], own cd28 a2 s1.2.2.1.length c1 s1.2.2.1, it] := H46.pk [1, 0, 2, 3, 4, 5]
       refine Ze ?_
       refine ZP 28 0 [iV x4.1, iV x5.1, iV x7.1, iV 0] (.agg #[iV x4.1, iV x5.1, iV x7.1, iV 0]) H48 (fun h24 H47 => ?_)
       refine Zx ?_
       refine Zk [0, 2, 3, 4, 5] [(0, pV bs_), (2, pV b1), (3, pV b2), (4, iV s1.2.2.2), (5, pV b4)] ?_
       have H92 : Hold h h24 [box bs_ 67 [.slice as_code s_.code.length cs_code, iV x7.2.at_, iV x7.2.seed], box b1 26 [iV 0, .slice none 0 0], box b2 26 [iV (w64 (1 + x1.1)), .slice a2 s1.2.2.1.length c1], own cd28 a2 s1.2.2.1.length c1 s1.2.2.1, box b4 28 [iV x4.1, iV x5.1, iV x7.1, iV 0], it] := H47.pk [1, 2, 3, 4, 0, 5]
       have gs2 := M.ret_some gs2
       subst gs2
       exact Zf [0, 2, 3, 4, 5] ⟨b4, rfl, H92⟩
     ·intro h25 H49
      have H50 := H49
      refine E_box (ty := 28) (cs := [iV 0, iV 0, iV 0, iV 0]) H50 (fun w => by kernel_rfl) (fun b5 h26 H51 => ?_)
      refine ZA [box b1 26 [iV 0, .slice none 0 0], box b2 26 [iV (w64 (1 + x1.1)), .slice a2 s1.2.2.1.length c1], own cd28 a2 s1.2.2.1.length c1 s1.2.2.1, it, box b5 28 [iV 0, iV 0, iV 0, iV 0]] [2, 3, 4, 5, 0] [0, 1, 2, 3] H51 ?_
      refine ZE 3 7 (fun h27 H52 => ?_)
      have H53 := H52
      obtain ⟨x8, hx7, gs2⟩ := M.bind_some gs2
      have H54 : Hold h h27 [box bs_ 67 [.slice as_code s_.code.length cs_code, iV x4.2.at_, iV x4.2.seed], box b5 28 [iV 0, iV 0, iV 0, iV 0], box b1 26 [iV 0, .slice none 0 0], box b2 26 [iV (w64 (1 + x1.1)), .slice a2 s1.2.2.1.length c1], own cd28 a2 s1.2.2.1.length c1 s1.2.2.1, it] := H53.pk [1, 0, 2, 3, 4, 5]
      have H55 : Hold h h27 [box bs_ 67 [.slice as_code s_.code.length cs_code, iV x4.2.at_, iV x4.2.seed], bun [box b5 28 [iV 0, iV 0, iV 0, iV 0], box b1 26 [iV 0, .slice none 0 0], box b2 26 [iV (w64 (1 + x1.1)), .slice a2 s1.2.2.1.length c1], own cd28 a2 s1.2.2.1.length c1 s1.2.2.1, it]] := H54.bd 1
      refine ZC 22 #[pV bs_, iV (w64 (1 + x1.1))] (w_spec_l01Next h h27 _ (⟨s_.code, x4.2.at_, x4.2.seed⟩ : TL01source) bs_ as_code cs_code rs_code (w64 (1 + x1.1)) H55 _ _ hx7) (fun v7 h28 hp7 => ?_)
      obtain ⟨rfl, H56⟩ := hp7
      have H57 : Hold h h28 [box bs_ 67 [.slice as_code s_.code.length cs_code, iV x8.2.at_, iV x8.2.seed], box b5 28 [iV 0, iV 0, iV 0, iV 0], box b1 26 [iV 0, .slice none 0 0], box b2 26 [iV (w64 (1 + x1.1)), .slice a2 s1.2.2.1.length c1], own cd28 a2 s1.2.2.1.length c1 s1.2.2.1, it] := H56.ub (js := _) 1 1 H54
      refine ZA [box b1 26 [iV 0, .slice none 0 0], box b2 26 [iV (w64 (1 + x1.1)), .slice a2 s1.2.2.1.length c1], own cd28 a2 s1.2.2.1.length c1 s1.2.2.1, it, box b5 28 [iV 0, iV 0, iV 0, iV 0]] [2, 3, 4, 5, 1] [0, 1, 2, 3, 4] H57 ?_
      refine ZE 2 9 (fun h29 H58 => ?_)
      have H59 := H58
      obtain ⟨x9, hx8, gs2⟩ := M.bind_some gs2
      have H60 : Hold h h29 [box bs_ 67 [.slice as_code s_.code.length cs_code, iV x8.2.at_, iV x8.2.seed], bun [box b5 28 [iV 0, iV 0, iV 0, iV 0], box b1 26 [iV 0, .slice none 0 0], box b2 26 [iV (w64 (1 + x1.1)), .slice a2 s1.2.2.1.length c1], own cd28 a2 s1.2.2.1.length c1 s1.2.2.1, it]] := H59.bd 1
      refine ZC 22 #[pV bs_, iV 12] (w_spec_l01Next h h29 _ (⟨s_.code, x8.2.at_, x8.2.seed⟩ : TL01source) bs_ as_code cs_code rs_code 12 H60 _ _ hx8) (fun v8 h30 hp8 => ?_)
      obtain ⟨rfl, H61⟩ := hp8
      have H62 : Hold h h30 [box bs_ 67 [.slice as_code s_.code.length cs_code, iV x9.2.at_, iV x9.2.seed], box b5 28 [iV 0, iV 0, iV 0, iV 0], box b1 26 [iV 0, .slice none 0 0], box b2 26 [iV (w64 (1 + x1.1)), .slice a2 s1.2.2.1.length c1], own cd28 a2 s1.2.2.1.length c1 s1.2.2.1, it] := H61.ub (js := _) 1 1 H59
      refine ZA [box b1 26 [iV 0, .slice none 0 0], box b2 26 [iV (w64 (1 + x1.1)), .slice a2 s1.2.2.1.length c1], own cd28 a2 s1.2.2.1.length c1 s1.2.2.1, it, box b5 28 [iV 0, iV 0, iV 0, iV 0]] [2, 3, 4, 5, 1] [0, 1, 2, 3, 4] H62 ?_
      refine ZB 1 [.agg #[iV x4.1, iV x8.1, iV x9.1, iV 0]] 10 ?_
      refine ZT 12 (fun h31 H63 => ?_)
      have H64 := H63
      have H66 : Hold h h31 [box b5 28 [iV 0, iV 0, iV 0, iV 0], box bs_ 67 [.slice as_code s_.code.length cs_code, iV x9.2.at_, iV x9.2.seed], box b1 26 [iV 0, .slice none 0 0], box b2 26 [iV (w64 (1 + x1.1)), .slice a2 s1.2.2.1.length c1], own cd28 a2 s1.2.2.1.length c1 s1.2.2.1, it] := H64.pk [1, 0, 2, 3, 4, 5]
      refine Ze ?_
      refine ZP 28 0 [iV x4.1, iV x8.1, iV x9.1, iV 0] (.agg #[iV x4.1, iV x8.1, iV x9.1, iV 0]) H66 (fun h32 H65 => ?_)
      refine Zx ?_
      refine Zk [0, 2, 3, 4, 5] [(0, pV bs_), (2, pV b1), (3, pV b2), (4, iV s1.2.2.2), (5, pV b5)] ?_
      have H93 : Hold h h32 [box bs_ 67 [.slice as_code s_.code.length cs_code, iV x9.2.at_, iV x9.2.seed], box b1 26 [iV 0, .slice none 0 0], box b2 26 [iV (w64 (1 + x1.1)), .slice a2 s1.2.2.1.length c1], own cd28 a2 s1.2.2.1.length c1 s1.2.2.1, box b5 28 [iV x4.1, iV x8.1, iV x9.1, iV 0], it] := H65.pk [1, 2, 3, 4, 0, 5]
      have gs2 := M.ret_some gs2
      subst gs2
      exact Zf [0, 2, 3, 4, 5] ⟨b5, rfl, H93⟩
    ·intro h33 H67
     have H68 := H67
     refine E_box (ty := 28) (cs := [iV 0, iV 0, iV 0, iV 0]) H68 (fun w => by kernel_rfl) (fun b6 h34 H69 => ?_)
     refine ZA [box b1 26 [iV 0, .slice none 0 0], box b2 26 [iV (w64 (1 + x1.1)), .slice a2 s1.2.2.1.length c1], own cd28 a2 s1.2.2.1.length c1 s1.2.2.1, it, box b6 28 [iV 0, iV 0, iV 0, iV 0]] [2, 3, 4, 5, 0] [0, 1, 2, 3] H69 ?_
     refine ZE 4 3 (fun h35 H70 => ?_)
     have H71 := H70
     obtain ⟨x10, hx9, gs2⟩ := M.bind_some gs2
     have H72 : Hold h h35 [box bs_ 67 [.slice as_code s_.code.length cs_code, iV s1.1, iV s1.2.1], box b6 28 [iV 0, iV 0, iV 0, iV 0], box b1 26 [iV 0, .slice none 0 0], box b2 26 [iV (w64 (1 + x1.1)), .slice a2 s1.2.2.1.length c1], own cd28 a2 s1.2.2.1.length c1 s1.2.2.1, it] := H71.pk [1, 0, 2, 3, 4, 5]
     have H73 : Hold h h35 [box bs_ 67 [.slice as_code s_.code.length cs_code, iV s1.1, iV s1.2.1], bun [box b6 28 [iV 0, iV 0, iV 0, iV 0], box b1 26 [iV 0, .slice none 0 0], box b2 26 [iV (w64 (1 + x1.1)), .slice a2 s1.2.2.1.length c1], own cd28 a2 s1.2.2.1.length c1 s1.2.2.1, it]] := H72.bd 1
     refine ZC 22 #[pV bs_, iV (w64 (1 + x1.1))] (w_spec_l01Next h h35 _ (⟨s_.code, s1.1, s1.2.1⟩ : TL01source) bs_ as_code cs_code rs_code (w64 (1 + x1.1)) H73 _ _ hx9) (fun v9 h36 hp9 => ?_)
     obtain ⟨rfl, H74⟩ := hp9
     have H75 : Hold h h36 [box bs_ 67 [.slice as_code s_.code.length cs_code, iV x10.2.at_, iV x10.2.seed], box b6 28 [iV 0, iV 0, iV 0, iV 0], box b1 26 [iV 0, .slice none 0 0], box b2 26 [iV (w64 (1 + x1.1)), .slice a2 s1.2.2.1.length c1], own cd28 a2 s1.2.2.1.length c1 s1.2.2.1, it] := H74.ub (js := _) 1 1 H72
     refine ZA [box b1 26 [iV 0, .slice none 0 0], box b2 26 [iV (w64 (1 + x1.1)), .slice a2 s1.2.2.1.length c1], own cd28 a2 s1.2.2.1.length c1 s1.2.2.1, it, box b6 28 [iV 0, iV 0, iV 0, iV 0]] [2, 3, 4, 5, 1] [0, 1, 2, 3, 4] H75 ?_
     refine ZE 3 7 (fun h37 H76 => ?_)
     have H77 := H76
     obtain ⟨x11, hx10, gs2⟩ := M.bind_some gs2
     have H78 : Hold h h37 [box bs_ 67 [.slice as_code s_.code.length cs_code, iV x10.2.at_, iV x10.2.seed], bun [box b6 28 [iV 0, iV 0, iV 0, iV 0], box b1 26 [iV 0, .slice none 0 0], box b2 26 [iV (w64 (1 + x1.1)), .slice a2 s1.2.2.1.length c1], own cd28 a2 s1.2.2.1.length c1 s1.2.2.1, it]] := H77.bd 1
     refine ZC 22 #[pV bs_, iV (w64 (1 + x1.1))] (w_spec_l01Next h h37 _ (⟨s_.code, x10.2.at_, x10.2.seed⟩ : TL01source) bs_ as_code cs_code rs_code (w64 (1 + x1.1)) H78 _ _ hx10) (fun v10 h38 hp10 => ?_)
     obtain ⟨rfl, H79⟩ := hp10
     have H80 : Hold h h38 [box bs_ 67 [.slice as_code s_.code.length cs_code, iV x11.2.at_, iV x11.2.seed], box b6 28 [iV 0, iV 0, iV 0, iV 0], box b1 26 [iV 0, .slice none 0 0], box b2 26 [iV (w64 (1 + x1.1)), .slice a2 s1.2.2.1.length c1], own cd28 a2 s1.2.2.1.length c1 s1.2.2.1, it] := H79.ub (js := _) 1 1 H77
     refine ZA [box b1 26 [iV 0, .slice none 0 0], box b2 26 [iV (w64 (1 + x1.1)), .slice a2 s1.2.2.1.length c1], own cd28 a2 s1.2.2.1.length c1 s1.2.2.1, it, box b6 28 [iV 0, iV 0, iV 0, iV 0]] [2, 3, 4, 5, 1] [0, 1, 2, 3, 4] H80 ?_
     refine ZE 2 9 (fun h39 H81 => ?_)
     have H82 := H81
     obtain ⟨x12, hx11, gs2⟩ := M.bind_some gs2
     have H83 : Hold h h39 [box bs_ 67 [.slice as_code s_.code.length cs_code, iV x11.2.at_, iV x11.2.seed], bun [box b6 28 [iV 0, iV 0, iV 0, iV 0], box b1 26 [iV 0, .slice none 0 0], box b2 26 [iV (w64 (1 + x1.1)), .slice a2 s1.2.2.1.length c1], own cd28 a2 s1.2.2.1.length c1 s1.2.2.1, it]] := H82.bd 1
     refine ZC 22 #[pV bs_, iV 12] (w_spec_l01Next h h39 _ (⟨s_.code, x11.2.at_, x11.2.seed⟩ : TL01source) bs_ as_code cs_code rs_code 12 H83 _ _ hx11) (fun v11 h40 hp11 => ?_)
     obtain ⟨rfl, H84⟩ := hp11
     have H85 : Hold h h40 [box bs_ 67 [.slice as_code s_.code.length cs_code, iV x12.2.at_, iV x12.2.seed], box b6 28 [iV 0, iV 0, iV 0, iV 0], box b1 26 [iV 0, .slice none 0 0], box b2 26 [iV (w64 (1 + x1.1)), .slice a2 s1.2.2.1.length c1], own cd28 a2 s1.2.2.1.length c1 s1.2.2.1, it] := H84.ub (js := _) 1 1 H82
     refine ZA [box b1 26 [iV 0, .slice none 0 0], box b2 26 [iV (w64 (1 + x1.1)), .slice a2 s1.2.2.1.length c1], own cd28 a2 s1.2.2.1.length c1 s1.2.2.1, it, box b6 28 [iV 0, iV 0, iV 0, iV 0]] [2, 3, 4, 5, 1] [0, 1, 2, 3, 4] H85 ?_
     refine ZB 1 [.agg #[iV x10.1, iV x11.1, iV x12.1, iV 0]] 10 ?_
     refine ZT 12 (fun h41 H86 => ?_)
     have H87 := H86
     have H89 : Hold h h41 [box b6 28 [iV 0, iV 0, iV 0, iV 0], box bs_ 67 [.slice as_code s_.code.length cs_code, iV x12.2.at_, iV x12.2.seed], box b1 26 [iV 0, .slice none 0 0], box b2 26 [iV (w64 (1 + x1.1)), .slice a2 s1.2.2.1.length c1], own cd28 a2 s1.2.2.1.length c1 s1.2.2.1, it] := H87.pk [1, 0, 2, 3, 4, 5]
     refine Ze ?_
     refine ZP 28 0 [iV x10.1, iV x11.1, iV x12.1, iV 0] (.agg #[iV x10.1, iV x11.1, iV x12.1, iV 0]) H89 (fun h42 H88 => ?_)
     refine Zx ?_
     refine Zk [0, 2, 3, 4, 5] [(0, pV bs_), (2, pV b1), (3, pV b2), (4, iV s1.2.2.2), (5, pV b6)] ?_
     have H94 : Hold h h42 [box bs_ 67 [.slice as_code s_.code.length cs_code, iV x12.2.at_, iV x12.2.seed], box b1 26 [iV 0, .slice none 0 0], box b2 26 [iV (w64 (1 + x1.1)), .slice a2 s1.2.2.1.length c1], own cd28 a2 s1.2.2.1.length c1 s1.2.2.1, box b6 28 [iV x10.1, iV x11.1, iV x12.1, iV 0], it] := H88.pk [1, 2, 3, 4, 0, 5]
     have gs2 := M.ret_some gs2
     subst gs2
     exact Zf [0, 2, 3, 4, 5] ⟨b6, rfl, H94⟩
  ·have hB1 := (M.ite_some hB1).2 hb1
   refine Run_exit (k' := _) rfl ?_
   have H125 : Hold h h7 [own cd28 a2 s1.2.2.1.length c1 s1.2.2.1, box bs_ 67 [.slice as_code s_.code.length cs_code, iV s1.1, iV s1.2.1], box b1 26 [iV 0, .slice none 0 0], box b2 26 [iV (w64 (1 + x1.1)), .slice a2 s1.2.2.1.length c1], it] := H13.pk [3, 0, 1, 2, 4]
   have H126 : Hold h h7 [box bs_ 67 [.slice as_code s_.code.length cs_code, iV s1.1, iV s1.2.1], box b1 26 [iV 0, .slice none 0 0], box b2 26 [iV (w64 (1 + x1.1)), .slice a2 s1.2.2.1.length c1], own cd28 a2 s1.2.2.1.length c1 s1.2.2.1, it] := H125.pk [1, 2, 3, 0, 4]
   have hB1 := M.ret_some hB1
   have gx3 := houty1 _ hB1.symm
   subst gx3
   exact Zf [0, 2, 3] ⟨a2, c1, rfl, H126⟩

end Go.Proofs.YtfhphkiggdepaaaDoor
