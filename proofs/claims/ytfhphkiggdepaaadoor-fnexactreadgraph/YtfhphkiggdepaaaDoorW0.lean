/-
  Walks: each Go function, called with what reads as plain data, returns what its plain program computes.
  Conditions: None beyond the given statement.
-/
import Derived.Test.YtfhphkiggdepaaaDoorRows
import Derived.Test.YtfhphkiggdepaaaDoorP
import Derived.Test.YtfhphkiggdepaaaDoorShort
import Derived.Test.YtfhphkiggdepaaaDoorStr
import Derived.Test.YtfhphkiggdepaaaDoorLay
namespace Go.Proofs.YtfhphkiggdepaaaDoor
open Go
attribute [local irreducible] setL setB opA fineI idleI fineB evB okB markB markBs readyB readyBs chainB lk rho pickL dropSlot tailOK
theorem mixed : Tryd.prog.follows .mixedOrders = true := by kernel_rfl
def cd9 : Cd (ByteArray) := flatCd 9 1 (by decide) (fun x => [.string x]) (fun _ => rfl) (fun _ => rfl)
theorem cd9_own (x : ByteArray) : ∀ h, cd9.own h x [.string x] [] := fun _ => ⟨rfl, rfl⟩
theorem cd9_flat : Flat cd9 := fun _ _ _ _ o => o.2
theorem cd9_copies : Copies cd9 := fun _ _ _ _ o => ⟨o, rfl⟩
theorem cd9_zero : ∀ h, cd9.own h ByteArray.empty [.string ByteArray.empty] [] := fun _ => ⟨rfl, rfl⟩
theorem cd9_ti : TI Tryd.prog 9 (.string ByteArray.empty) 1 16 := by unfold TI; kernel_rfl
theorem cd9_cell {h : Heap} {B : Bs} {a : Option Addr} {c : Nat} {l : List (ByteArray)} {j : Nat} {x : ByteArray} (r : Rd cd9 h B a c l) (hx : l[j]? = some x) : cellH h (adr a (j * 1)) = some (.string x) := r.cell1 hx (fun vs o => by rw [show vs = _ from o]; rfl)
def cd5 : Cd (Int) := flatCd 5 1 (by decide) (fun x => [.int .u8 x]) (fun _ => rfl) (fun _ => rfl)
theorem cd5_own (x : Int) : ∀ h, cd5.own h x [.int .u8 x] [] := fun _ => ⟨rfl, rfl⟩
theorem cd5_flat : Flat cd5 := fun _ _ _ _ o => o.2
theorem cd5_copies : Copies cd5 := fun _ _ _ _ o => ⟨o, rfl⟩
theorem cd5_zero : ∀ h, cd5.own h 0 [.int .u8 0] [] := fun _ => ⟨rfl, rfl⟩
theorem cd5_ti : TI Tryd.prog 5 (.int .u8 0) 1 1 := by unfold TI; kernel_rfl
theorem cd5_cell {h : Heap} {B : Bs} {a : Option Addr} {c : Nat} {l : List (Int)} {j : Nat} {x : Int} (r : Rd cd5 h B a c l) (hx : l[j]? = some x) : cellH h (adr a (j * 1)) = some (.int .u8 x) := r.cell1 hx (fun vs o => by rw [show vs = _ from o]; rfl)
def cd2 : Cd (Int) := flatCd 2 1 (by decide) (fun x => [.int .i64 x]) (fun _ => rfl) (fun _ => rfl)
theorem cd2_own (x : Int) : ∀ h, cd2.own h x [.int .i64 x] [] := fun _ => ⟨rfl, rfl⟩
theorem cd2_flat : Flat cd2 := fun _ _ _ _ o => o.2
theorem cd2_copies : Copies cd2 := fun _ _ _ _ o => ⟨o, rfl⟩
theorem cd2_zero : ∀ h, cd2.own h 0 [.int .i64 0] [] := fun _ => ⟨rfl, rfl⟩
theorem cd2_ti : TI Tryd.prog 2 (.int .i64 0) 1 8 := by unfold TI; kernel_rfl
theorem cd2_cell {h : Heap} {B : Bs} {a : Option Addr} {c : Nat} {l : List (Int)} {j : Nat} {x : Int} (r : Rd cd2 h B a c l) (hx : l[j]? = some x) : cellH h (adr a (j * 1)) = some (.int .i64 x) := r.cell1 hx (fun vs o => by rw [show vs = _ from o]; rfl)
def cd28 : Cd (TPlace) := flatCd 28 4 (by decide) (fun x => [.int .i64 x.From, .int .i64 x.To, .int .i64 x.Delay, .int .i64 x.Tokens]) (fun _ => rfl) (fun _ => rfl)
theorem cd28_own (x : TPlace) : ∀ h, cd28.own h x [.int .i64 x.From, .int .i64 x.To, .int .i64 x.Delay, .int .i64 x.Tokens] [] := fun _ => ⟨rfl, rfl⟩
theorem cd28_flat : Flat cd28 := fun _ _ _ _ o => o.2
theorem cd28_copies : Copies cd28 := fun _ _ _ _ o => ⟨o, rfl⟩
theorem cd28_zero : ∀ h, cd28.own h (⟨0, 0, 0, 0⟩ : TPlace) [.int .i64 0, .int .i64 0, .int .i64 0, .int .i64 0] [] := fun _ => ⟨rfl, rfl⟩
theorem cd28_ti : TI Tryd.prog 28 (.agg #[.int .i64 0, .int .i64 0, .int .i64 0, .int .i64 0]) 4 32 := by unfold TI; kernel_rfl
theorem cd28_elem {h : Heap} {B : Bs} {a : Option Addr} {c : Nat} {l : List (TPlace)} {j : Nat} {x : TPlace} (r : Rd cd28 h B a c l) (hx : l[j]? = some x) : ∀ i v, ([.int .i64 x.From, .int .i64 x.To, .int .i64 x.Delay, .int .i64 x.Tokens] : List Value)[i]? = some v → cellH h ((adr a (j * 4)).add i) = some v := r.elem hx (fun _ o => o)
theorem cd28_f0 {h : Heap} {B : Bs} {a : Option Addr} {c : Nat} {l : List (TPlace)} {j : Nat} {x : TPlace} (r : Rd cd28 h B a c l) (hx : l[j]? = some x) : cellH h ((adr a (j * 4)).add 0) = some (.int .i64 x.From) := r.field hx (fun vs o => by rw [show vs = _ from o]; rfl)
theorem cd28_f1 {h : Heap} {B : Bs} {a : Option Addr} {c : Nat} {l : List (TPlace)} {j : Nat} {x : TPlace} (r : Rd cd28 h B a c l) (hx : l[j]? = some x) : cellH h ((adr a (j * 4)).add 1) = some (.int .i64 x.To) := r.field hx (fun vs o => by rw [show vs = _ from o]; rfl)
theorem cd28_f2 {h : Heap} {B : Bs} {a : Option Addr} {c : Nat} {l : List (TPlace)} {j : Nat} {x : TPlace} (r : Rd cd28 h B a c l) (hx : l[j]? = some x) : cellH h ((adr a (j * 4)).add 2) = some (.int .i64 x.Delay) := r.field hx (fun vs o => by rw [show vs = _ from o]; rfl)
theorem cd28_f3 {h : Heap} {B : Bs} {a : Option Addr} {c : Nat} {l : List (TPlace)} {j : Nat} {x : TPlace} (r : Rd cd28 h B a c l) (hx : l[j]? = some x) : cellH h ((adr a (j * 4)).add 3) = some (.int .i64 x.Tokens) := r.field hx (fun vs o => by rw [show vs = _ from o]; rfl)
set_option maxRecDepth 100000
set_option maxHeartbeats 4000000
theorem w_spec_l01Split (h : Heap) (s_ : ByteArray) (by_ : Int) (n : Nat) (r : (List ByteArray)) (hF : spec_l01Split s_ by_ n = some r) :
  Fn Tryd.prog 35 #[.string s_, .int .u8 by_] h fun v h' => ∃ (a0 : Option Addr) (c0 : Nat), v = .slice a0 r.length c0 ∧ Hold h h' [own cd9 a0 r.length c0 r] := by
 unfold spec_l01Split at hF
 refine Zo [.string s_, .int .u8 by_] Tryd.func35 rfl (fun w0 _ => ?_)
 have H0 := Hold.init h
 refine Zs ?_
 refine Zq [.slice none 0 0] [0, 1] [(0, .string s_), (1, .int .u8 by_)] ?_
 refine Zs ?_
 refine Run_ops ?_
 refine Ze ?_
 refine E_lit (C := cd9) (n := 0) (l := ([] : List ByteArray)) (cs := []) H0 (fun w => by kernel_rfl) (Enc.nil _ _) rfl (by decide) (fun a1 h1 H1 => ?_)
 refine Zr [.slice a1 0 0] 1 ?_
 refine Zx ?_
 refine Zk [0, 1, 5] [(0, .string s_), (1, .int .u8 by_), (5, .slice a1 0 0)] ?_
 refine Zs ?_
 refine Zq [iV 0] [0, 1, 5, 6] [(0, .string s_), (1, .int .u8 by_), (5, .slice a1 0 0), (6, iV 0)] ?_
 refine Zs ?_
 refine Zs ?_
 refine Zq [iV 0] [0, 1, 5, 6, 7] [(0, .string s_), (1, .int .u8 by_), (5, .slice a1 0 0), (6, iV 0), (7, iV 0)] ?_
 obtain ⟨x1, gx1, hF⟩ := M.bind_some hF
 refine Run_join (fun L' h' => ∃ (a3 : Option Addr) (c2 : Nat), L' = [(5, .slice a3 x1.1.length c2)] ∧ Hold h h' [own cd9 a3 x1.1.length c2 x1.1]) ?_ ?_
 ·rintro _ h3 ⟨a3, c2, rfl, H3⟩
  refine Zs ?_
  refine Zq [.slice a3 x1.1.length c2, .slice a3 x1.1.length c2] [4] [(4, .slice a3 x1.1.length c2)] ?_
  have hF := M.ret_some hF
  subst hF
  exact Run_ret1 rfl (Zt (.slice a3 x1.1.length c2)) ⟨a3, c2, rfl, H3⟩
 ·refine Run_block ?_
  have hn1 := (H1.len 0 rfl)
  have H10 : Hold h h1 [own cd9 a1 (([] : List ByteArray).length) 0 ([] : List ByteArray)] := by rw [hn1]; exact H1
  refine Run_keep [0, 1, 5, 6, 7] (L' := [(0, .string s_), (1, .int .u8 by_), (5, .slice a1 (([] : List ByteArray).length) 0), (6, iV 0), (7, iV 0)]) (by first | (rw [hn1]; kernel_rfl) | (simp only [hn1]; kernel_rfl) | kernel_rfl) ?_
  refine Run_loop (fun m L' h' => ∃ (s1 : (List ByteArray) × Int × Int) (a2 : Option Addr) (c1 : Nat), M.loopN _ n m s1 = some x1 ∧ L' = [(0, .string s_), (1, .int .u8 by_), (5, .slice a2 s1.1.length c1), (6, iV s1.2.1), (7, iV s1.2.2)] ∧ Hold h h' [own cd9 a2 s1.1.length c1 s1.1]) n ⟨(([] : List ByteArray), 0, 0), a1, 0, gx1, rfl, H10⟩ ?_
  rintro my1 _ h2 ⟨s1, a2, c1, gx1, rfl, H2⟩
  obtain ⟨my1, y1, rfl, hB1, hgoy1, houty1⟩ := M.loop_some gx1
  refine Zs ?_
  refine Zs ?_
  refine Zq [iV s1.2.2, .string s_, iV (s_.size : Int), .bool (decide (s1.2.2 ≤ (s_.size : Int)))] [0, 1, 5, 6, 7, 12] [(0, .string s_), (1, .int .u8 by_), (5, .slice a2 s1.1.length c1), (6, iV s1.2.1), (7, iV s1.2.2), (12, .bool (decide (s1.2.2 ≤ (s_.size : Int))))] ?_
  refine Zc (decide (s1.2.2 ≤ (s_.size : Int))) (fun hb1 => ?_) (fun hb1 => ?_)
  ·have hB1 := (M.ite_some hB1).1 hb1
   refine Run_skip ?_
   refine Zs ?_
   refine Run_block ?_
   refine Zs ?_
   obtain ⟨x2, gx2, hB1⟩ := M.bind_some hB1
   refine Zg 11 [(0, .string s_), (1, .int .u8 by_), (5, .slice a2 s1.1.length c1), (6, iV s1.2.1), (7, iV s1.2.2), (25, .bool x2)] ?_ ?_
   ·refine Zb [iV s1.2.2, .string s_, iV (s_.size : Int), .bool (s1.2.2 == (s_.size : Int))] 0 ?_
    refine QRun_seq 11 [(0, .string s_), (1, .int .u8 by_), (5, .slice a2 s1.1.length c1), (6, iV s1.2.1), (7, iV s1.2.2), (25, .bool x2)] ?_ ?_
    ·rcases Bool.eq_false_or_eq_true (s1.2.2 == (s_.size : Int)) with hb2 | hb2
     ·refine Zv (s1.2.2 == (s_.size : Int)) true hb2 ?_
      have gx2 := M.ret_some ((M.ite_some gx2).1 hb2)
      refine Zn ?_
      refine Zn ?_
      refine Zn ?_
      refine Zn ?_
      refine Zn ?_
      refine Zv true x2 gx2 ?_
      exact Zd [0, 1, 5, 6, 7, 25]
     ·refine Zv (s1.2.2 == (s_.size : Int)) false hb2 ?_
      have gx2 := (M.ite_some gx2).2 hb2
      obtain ⟨x3, hx1, gx2⟩ := M.bind_some gx2
      have gx2 := M.ret_some gx2
      refine Zb [.string s_, iV s1.2.2] 5 ?_
      refine Zy (.int .u8 x3) (Y_sidx (kk := .i64) hx1 Tryd.underlying9 (by kernel_rfl)) ?_
      refine Zb [.int .u8 by_, .bool (x3 == by_)] 8 ?_
      refine Zv (x3 == by_) x2 gx2 ?_
      exact Zd [0, 1, 5, 6, 7, 25]
    exact Zd [0, 1, 5, 6, 7, 25]
   obtain ⟨s2, gs2, hB1⟩ := M.bind_some hB1
   refine Run_join (fun L' h' => ∃ (a6 : Option Addr), ∃ (c4 : Nat), L' = [(0, .string s_), (1, .int .u8 by_), (5, .slice a6 s2.1.length c4), (6, iV s2.2), (7, iV s1.2.2)] ∧ Hold h h' [own cd9 a6 s2.1.length c4 s2.1]) ?_ ?_
   ·rintro _ h6 ⟨a6, c4, rfl, H9⟩
    refine Run_blk ?_
    refine Zq [iV s1.2.2, iV (w64 (s1.2.2 + 1)), iV (w64 (s1.2.2 + 1))] [0, 1, 5, 6, 7] [(0, .string s_), (1, .int .u8 by_), (5, .slice a6 s2.1.length c4), (6, iV s2.2), (7, iV (w64 (s1.2.2 + 1)))] ?_
    have hB1 := M.ret_some hB1
    have gx1 := hgoy1 _ hB1.symm
    exact Za [0, 1, 5, 6, 7] my1 ⟨(s2.1, s2.2, (w64 (s1.2.2 + 1))), a6, c4, gx1, rfl, H9⟩
   ·refine Zc (x2) (fun hb3 => ?_) (fun hb3 => ?_)
    ·have gs2 := (M.ite_some gs2).1 hb3
     refine Zs ?_
     refine Run_ops ?_
     obtain ⟨x4, hx2, gs2⟩ := M.bind_some gs2
     refine Zr [.slice a2 s1.1.length c1, .string s_, iV s1.2.1, iV s1.2.2] 0 ?_
     refine Zz (.string x4) (Y_ssub (lo := (some (.i64, s1.2.1))) (hi := (some (.i64, s1.2.2))) hx2 rfl rfl Tryd.underlying9 (by kernel_rfl)) ?_
     refine Ze ?_
     refine E_lit (C := cd9) (n := 1) (l := ([x4] : List ByteArray)) (cs := [.string x4]) H2 (fun w => by kernel_rfl) (Enc.consE (cd9_own x4 _) (Enc.nil _ _) rfl) rfl (by decide) (fun a4 h4 H4 => ?_)
     obtain ⟨l1, hl1, gs2⟩ := M.bind_some gs2
     have hl1 := M.app_some hl1
     have H5 : Hold h h4 [own cd9 a2 s1.1.length c1 s1.1, own cd9 a4 1 1 ([x4] : List ByteArray)] := H4.pk [1, 0]
     have H6 : Hold h h4 [own cd9 a4 1 1 ([x4] : List ByteArray), own cd9 a2 s1.1.length c1 s1.1] := H5.pk [1, 0]
     have H7 : Hold h h4 [own cd9 a2 s1.1.length c1 s1.1, own cd9 a4 1 1 ([x4] : List ByteArray)] := H6.pk [1, 0]
     refine Ze ?_
     refine E_app (C := cd9) (t := 52) (ty := 52) (n := s1.1.length) (m := 1) H7 cd9_ti rfl Tryd.underlying52 (by decide) (by kernel_rfl) hl1 (fun a5 c3 h5 H8 => ?_)
     refine Zr [.slice a5 l1.length c3] 7 ?_
     refine Zx ?_
     refine Zk [0, 1, 5, 7] [(0, .string s_), (1, .int .u8 by_), (5, .slice a5 l1.length c3), (7, iV s1.2.2)] ?_
     refine Zq [iV s1.2.2, iV (w64 (s1.2.2 + 1)), iV (w64 (s1.2.2 + 1))] [0, 1, 5, 6, 7] [(0, .string s_), (1, .int .u8 by_), (5, .slice a5 l1.length c3), (6, iV (w64 (s1.2.2 + 1))), (7, iV s1.2.2)] ?_
     have gs2 := M.ret_some gs2
     subst gs2
     exact Zf [0, 1, 5, 6, 7] ⟨a5, c3, rfl, H8⟩
    ·have gs2 := (M.ite_some gs2).2 hb3
     refine Run_skip ?_
     have gs2 := M.ret_some gs2
     subst gs2
     exact Zf [0, 1, 5, 6, 7] ⟨a2, c1, rfl, H2⟩
  ·have hB1 := (M.ite_some hB1).2 hb1
   refine Run_exit (k' := _) rfl ?_
   have hB1 := M.ret_some hB1
   have gx1 := houty1 _ hB1.symm
   subst gx1
   exact Zf [5] ⟨a2, c1, rfl, H2⟩

theorem w_spec_l01Dec_R (kR : Nat) : ∀ (h : Heap) (n_ : Int) (n : Nat) (r : ByteArray) (hF : spec_l01Dec_R kR n_ n = some r),
  Fn Tryd.prog 38 #[iV n_] h fun v h' => v = .string r ∧ Hold h h' [] := by
 induction kR with
 | zero => intros; rename_i hF; cases hF
 | succ kR ih =>
  intro h n_ n r hF
  rw [show spec_l01Dec_R (kR + 1) n_ = (M.ite (decide (n_ < 10)) (M.ret (toS ([(IntKind.u8.wrap (w64 (48 + n_)))] : List Int))) (M.bind (spec_l01Dec_R kR (w64 (n_.tdiv 10))) (fun x1 => M.bind (M.cat x1 (toS ([(IntKind.u8.wrap (w64 (48 + (n_.tmod 10))))] : List Int))) (fun x2 => M.ret x2)))) from rfl] at hF
  refine Zo [iV n_] Tryd.func38 rfl (fun w0 _ => ?_)
  have H0 := Hold.init h
  refine Zs ?_
  refine Zq [.string (⟨#[]⟩ : ByteArray)] [0] [(0, iV n_)] ?_
  refine Zs ?_
  refine Zs ?_
  refine Zq [iV n_, .bool (decide (n_ < 10))] [0, 4] [(0, iV n_), (4, .bool (decide (n_ < 10)))] ?_
  refine Zc (decide (n_ < 10)) (fun hb1 => ?_) (fun hb1 => ?_)
  ·have hF := (M.ite_some hF).1 hb1
   refine Zs ?_
   refine Run_ops ?_
   refine Zr [iV n_, iV (w64 (48 + n_)), .int .u8 (IntKind.u8.wrap (w64 (48 + n_)))] 0 ?_
   refine Ze ?_
   refine E_lit (C := cd5) (n := 1) (l := ([(IntKind.u8.wrap (w64 (48 + n_)))] : List Int)) (cs := [.int .u8 (IntKind.u8.wrap (w64 (48 + n_)))]) H0 (fun w => by kernel_rfl) (Enc.consE (cd5_own (IntKind.u8.wrap (w64 (48 + n_))) _) (Enc.nil _ _) rfl) rfl (by decide) (fun a1 h1 H1 => ?_)
   refine Zz (.string (toS ([(IntKind.u8.wrap (w64 (48 + n_)))] : List Int))) (Y_toS (n := 1) (t := 22) (s := 9) (e := 5) (H1.rd 0 rfl) rfl (fun _ _ o => o) (H1.len 0 rfl) Tryd.underlying22 Tryd.underlying9 Tryd.underlying5 (by kernel_rfl)) ?_
   refine Zr [.string (toS ([(IntKind.u8.wrap (w64 (48 + n_)))] : List Int))] 5 ?_
   refine Zx ?_
   refine Zk [2] [(2, .string (toS ([(IntKind.u8.wrap (w64 (48 + n_)))] : List Int)))] ?_
   have hF := M.ret_some hF
   subst hF
   have H2 : Hold h h1 [] := H1.pk []
   exact Run_ret1 rfl (Zt (.string (toS ([(IntKind.u8.wrap (w64 (48 + n_)))] : List Int)))) ⟨rfl, H2⟩
  ·have hF := (M.ite_some hF).2 hb1
   refine Run_skip ?_
   refine Zs ?_
   obtain ⟨x1, hx1, hF⟩ := M.bind_some hF
   refine Run_D (fun x => Hold h x []) (fun x => Hold h x []) mixed (by kernel_rfl) H0 Hold.stable (fun x Hy => (show Hold h x [] from Hy).pk []) ?_
   refine ZB 9 [iV n_, iV (w64 (n_.tdiv 10))] 0 ?_
   refine ZY 8 2 (.string x1) (fun hx Hx => (YE_call (f := 38) (args := #[iV (w64 (n_.tdiv 10))]) (v := .string x1) (by kernel_rfl) ((ih hx (w64 (n_.tdiv 10)) _ _ hx1).mono fun _ _ ⟨e, H'⟩ => ⟨e, H'.ext⟩))) ?_
   refine ZB 4 [iV n_, iV (n_.tmod 10), iV (w64 (48 + (n_.tmod 10))), .int .u8 (IntKind.u8.wrap (w64 (48 + (n_.tmod 10))))] 3 ?_
   refine ZE 3 7 (fun h2 H3 => ?_)
   have H4 := H3
   refine E_lit (C := cd5) (n := 1) (l := ([(IntKind.u8.wrap (w64 (48 + (n_.tmod 10))))] : List Int)) (cs := [.int .u8 (IntKind.u8.wrap (w64 (48 + (n_.tmod 10))))]) H4 (fun w => by kernel_rfl) (Enc.consE (cd5_own (IntKind.u8.wrap (w64 (48 + (n_.tmod 10)))) _) (Enc.nil _ _) rfl) rfl (by decide) (fun a2 h3 H5 => ?_)
   refine ZA [own cd5 a2 1 1 ([(IntKind.u8.wrap (w64 (48 + (n_.tmod 10))))] : List Int)] [0] [] H5 ?_
   obtain ⟨x2, hx2, hF⟩ := M.bind_some hF
   refine ZY 2 8 (.string (toS ([(IntKind.u8.wrap (w64 (48 + (n_.tmod 10))))] : List Int))) (fun hx Hx => (YE.of (Y_toS (n := 1) (t := 22) (s := 9) (e := 5) (Hx.rd 0 rfl) rfl (fun _ _ o => o) (Hx.len 0 rfl) Tryd.underlying22 Tryd.underlying9 Tryd.underlying5 (by kernel_rfl)))) ?_
   refine ZY 1 9 (.string x2) (fun hx Hx => (YE.of (Y_cat hx2 (by kernel_rfl)))) ?_
   refine ZB 0 [.string x2] 10 ?_
   refine ZT 11 (fun h4 H6 => ?_)
   have H7 := H6
   refine Zx ?_
   refine Zk [2] [(2, .string x2)] ?_
   have hF := M.ret_some hF
   subst hF
   have H8 : Hold h h4 [] := H7.pk []
   exact Run_ret1 rfl (Zt (.string x2)) ⟨rfl, H8⟩

theorem w_spec_l01Dec (h : Heap) (n_ : Int) (n : Nat) (r : ByteArray) (hF : spec_l01Dec n_ n = some r) :
  Fn Tryd.prog 38 #[iV n_] h fun v h' => v = .string r ∧ Hold h h' [] := by
 exact w_spec_l01Dec_R n h n_ n r hF

theorem w_spec_l01Digits (h : Heap) (s_ : ByteArray) (n : Nat) (r : Int × Bool) (hF : spec_l01Digits s_ n = some r) :
  Fn Tryd.prog 36 #[.string s_] h fun v h' => v = .tuple #[iV r.1, .bool r.2] ∧ Hold h h' [] := by
 unfold spec_l01Digits at hF
 refine Zo [.string s_] Tryd.func36 rfl (fun w0 _ => ?_)
 have H0 := Hold.init h
 refine Zs ?_
 refine Zq [iV 0, .bool false] [0] [(0, .string s_)] ?_
 refine Zs ?_
 refine Zs ?_
 refine Zg 8 [(0, .string s_), (13, .bool ((decide ((s_.size : Int) < 1)) || (decide (10 < (s_.size : Int)))))] ?_ ?_
 ·refine Zb [.string s_, iV (s_.size : Int), .bool (decide ((s_.size : Int) < 1))] 0 ?_
  refine QRun_seq 8 [(0, .string s_), (13, .bool ((decide ((s_.size : Int) < 1)) || (decide (10 < (s_.size : Int)))))] ?_ ?_
  ·rcases Bool.eq_false_or_eq_true (decide ((s_.size : Int) < 1)) with hb1 | hb1
   ·refine Zv (decide ((s_.size : Int) < 1)) true hb1 ?_
    refine Zn ?_
    refine Zn ?_
    refine Zn ?_
    refine QRun_bool true ((decide ((s_.size : Int) < 1)) || (decide (10 < (s_.size : Int)))) (by kernel_rfl) (fun w => by kernel_rfl) (by rw [hb1]; rfl) ?_
    exact Zd [0, 13]
   ·refine Zv (decide ((s_.size : Int) < 1)) false hb1 ?_
    refine Zb [.string s_, iV (s_.size : Int), .bool (decide (10 < (s_.size : Int)))] 4 ?_
    refine QRun_bool (decide (10 < (s_.size : Int))) ((decide ((s_.size : Int) < 1)) || (decide (10 < (s_.size : Int)))) (by kernel_rfl) (fun w => by kernel_rfl) (by rw [hb1]; rfl) ?_
    exact Zd [0, 13]
  exact Zd [0, 13]
 refine Zc ((decide ((s_.size : Int) < 1)) || (decide (10 < (s_.size : Int)))) (fun hb2 => ?_) (fun hb2 => ?_)
 ·have hF := (M.ite_some hF).1 hb2
  refine Zs ?_
  refine Zq [iV 0, .bool false] [2, 3] [(2, iV 0), (3, .bool false)] ?_
  have hF := M.ret_some hF
  subst hF
  exact Run_ret2 rfl (Zt (iV 0)) (Zt (.bool false)) ⟨rfl, H0⟩
 ·have hF := (M.ite_some hF).2 hb2
  refine Run_skip ?_
  refine Zs ?_
  refine Zq [iV 0] [0, 4] [(0, .string s_), (4, iV 0)] ?_
  refine Zs ?_
  refine Zs ?_
  refine Zq [iV 0] [0, 4, 5] [(0, .string s_), (4, iV 0), (5, iV 0)] ?_
  obtain ⟨x2, gx2, hF⟩ := M.bind_some hF
  obtain ⟨hloy1, hhiy1, gx2⟩ := M.for_start gx2
  refine Run_join (fun L' h' => ∃ (s2 : Int), x2 = .inl s2 ∧ L' = [(0, .string s_), (4, iV s2)] ∧ Hold h h' []) ?_ ?_
  ·rintro _ h2 ⟨s2, es2, rfl, H2⟩
   have hF := M.cont_inl' hF es2
   refine Zs ?_
   obtain ⟨x7, hx4, hF⟩ := M.bind_some hF
   refine Run_regC (j := 7) (C := fun x => Hold h x []) (by kernel_rfl) H2 (L' := [(2, iV s2), (3, .bool (x7.toList == s_.toList))]) ?_ (fun h3 H3 => ?_)
   ·refine Zb [iV s2, iV s2] 0 ?_
    refine Zy (.string x7) (Y_call (f := 38) (args := #[iV s2]) (v := .string x7) (by kernel_rfl) fun hx Hx => (w_spec_l01Dec hx s2 _ _ hx4).mono fun _ _ ⟨e, H'⟩ => ⟨e, Hx.call H' rfl⟩) ?_
    refine Zb [.string s_, .bool (x7.toList == s_.toList), iV s2, .bool (x7.toList == s_.toList)] 3 ?_
    exact Zd [2, 3]
   have H4 := H3
   have hF := M.ret_some hF
   subst hF
   exact Run_ret2 rfl (Zt (iV s2)) (Zt (.bool (x7.toList == s_.toList))) ⟨rfl, H4⟩
  ·refine Run_block ?_
   refine Zk [0, 4, 5] [(0, .string s_), (4, iV 0), (5, iV 0)] ?_
   refine Run_loop (fun m L' h' => ∃ (i1 : Int) (s1 : Int), 0 ≤ i1 ∧ M.forN (s_.size : Int) _ _ n m i1 s1 = some x2 ∧ L' = [(0, .string s_), (4, iV s1), (5, iV i1)] ∧ Hold h h' []) ((s_.size : Int) - 0 : Int).toNat ⟨0, 0, Int.le_refl _, gx2, rfl, H0⟩ ?_
   rintro my1 _ h1 ⟨i1, s1, hloy1', gx2, rfl, H1⟩
   refine Zs ?_
   refine Zs ?_
   refine Zq [iV i1, .string s_, iV (s_.size : Int), .bool (decide (i1 < (s_.size : Int)))] [0, 4, 5, 17] [(0, .string s_), (4, iV s1), (5, iV i1), (17, .bool (decide (i1 < (s_.size : Int))))] ?_
   refine Zc (decide (i1 < (s_.size : Int))) (fun hb3 => ?_) (fun hb3 => ?_)
   ·obtain ⟨my1, y1, rfl, hB1, hgoy1, houty1⟩ := M.for_go gx2 hb3
    have hlty1 := of_decide_eq_true hb3
    refine Run_skip ?_
    refine Zs ?_
    refine Run_block ?_
    refine Zs ?_
    refine Zs ?_
    obtain ⟨x3, hx1, hB1⟩ := M.bind_some hB1
    obtain ⟨x4, gx4, hB1⟩ := M.bind_some hB1
    refine Zg 10 [(0, .string s_), (4, iV s1), (5, iV i1), (29, .bool x4)] ?_ ?_
    ·refine Zb [.string s_, iV i1] 0 ?_
     refine Zy (.int .u8 x3) (Y_sidx (kk := .i64) hx1 Tryd.underlying9 (by kernel_rfl)) ?_
     refine Zb [.bool (decide (x3 < 48))] 3 ?_
     refine QRun_seq 10 [(0, .string s_), (4, iV s1), (5, iV i1), (29, .bool x4)] ?_ ?_
     ·rcases Bool.eq_false_or_eq_true (decide (x3 < 48)) with hb4 | hb4
      ·refine Zv (decide (x3 < 48)) true hb4 ?_
       have gx4 := M.ret_some ((M.ite_some gx4).1 hb4)
       refine Zn ?_
       refine Zn ?_
       refine Zn ?_
       refine Zn ?_
       refine Zv true x4 gx4 ?_
       exact Zd [0, 4, 5, 29]
      ·refine Zv (decide (x3 < 48)) false hb4 ?_
       have gx4 := (M.ite_some gx4).2 hb4
       obtain ⟨x5, hx2, gx4⟩ := M.bind_some gx4
       have gx4 := M.ret_some gx4
       refine Zb [.string s_, iV i1] 5 ?_
       refine Zy (.int .u8 x5) (Y_sidx (kk := .i64) hx2 Tryd.underlying9 (by kernel_rfl)) ?_
       refine Zb [.bool (decide (57 < x5))] 8 ?_
       refine Zv (decide (57 < x5)) x4 gx4 ?_
       exact Zd [0, 4, 5, 29]
     exact Zd [0, 4, 5, 29]
    refine Zc (x4) (fun hb5 => ?_) (fun hb5 => ?_)
    ·have hB1 := (M.ite_some hB1).1 hb5
     refine Zs ?_
     refine Zq [iV 0, .bool false] [2, 3] [(2, iV 0), (3, .bool false)] ?_
     have hB1 := M.ret_some hB1
     have gx2 := houty1 _ hB1.symm
     have hF := M.cont_inr' hF gx2
     have hF := M.ret_some hF
     subst hF
     exact Run_ret2 rfl (Zt (iV 0)) (Zt (.bool false)) ⟨rfl, H1⟩
    ·have hB1 := (M.ite_some hB1).2 hb5
     refine Run_skip ?_
     obtain ⟨x6, hx3, hB1⟩ := M.bind_some hB1
     refine Zg 9 [(0, .string s_), (4, iV (w64 ((w64 (10 * s1)) + (w64 (IntKind.u8.wrap (x6 - 48)))))), (5, iV i1)] ?_ ?_
     ·refine Zb [iV s1, iV (w64 (10 * s1)), .string s_, iV i1] 0 ?_
      refine Zy (.int .u8 x6) (Y_sidx (kk := .i64) hx3 Tryd.underlying9 (by kernel_rfl)) ?_
      refine Zb [.int .u8 (IntKind.u8.wrap (x6 - 48)), iV (w64 (IntKind.u8.wrap (x6 - 48))), iV (w64 ((w64 (10 * s1)) + (w64 (IntKind.u8.wrap (x6 - 48))))), iV (w64 ((w64 (10 * s1)) + (w64 (IntKind.u8.wrap (x6 - 48)))))] 5 ?_
      exact Zd [0, 4, 5]
     refine Run_blk ?_
     refine Zg 3 [(0, .string s_), (4, iV (w64 ((w64 (10 * s1)) + (w64 (IntKind.u8.wrap (x6 - 48)))))), (5, iV (i1 + 1))] ?_ ?_
     ·refine Zb [iV i1] 0 ?_
      refine Zy (iV (i1 + 1)) (Y_eq (v := iV (w64 (i1 + 1))) (Y_pure (fun w => by kernel_rfl)) (by rw [w64_eq _ (by omega)])) ?_
      refine Zb [iV (i1 + 1)] 2 ?_
      exact Zd [0, 4, 5]
     have hB1 := M.ret_some hB1
     have gx2 := hgoy1 _ hB1.symm
     exact Za [0, 4, 5] my1 ⟨i1 + 1, (w64 ((w64 (10 * s1)) + (w64 (IntKind.u8.wrap (x6 - 48))))), by omega, gx2, rfl, H1⟩
   ·have gx2 := M.for_end gx2 hb3
    subst gx2
    refine Run_exit (k' := _) rfl ?_
    exact Zf [0, 4] ⟨s1, rfl, rfl, H1⟩

theorem w_spec_l01Signed (h : Heap) (s_ : ByteArray) (n : Nat) (r : Int × Bool) (hF : spec_l01Signed s_ n = some r) :
  Fn Tryd.prog 63 #[.string s_] h fun v h' => v = .tuple #[iV r.1, .bool r.2] ∧ Hold h h' [] := by
 unfold spec_l01Signed at hF
 refine Zo [.string s_] Tryd.func63 rfl (fun w0 _ => ?_)
 have H0 := Hold.init h
 refine Zs ?_
 refine Zq [iV 0, .bool false] [0] [(0, .string s_)] ?_
 refine Zs ?_
 refine Zs ?_
 obtain ⟨x1, gx1, hF⟩ := M.bind_some hF
 refine Zg 8 [(0, .string s_), (13, .bool x1)] ?_ ?_
 ·refine Zb [.string s_, iV (s_.size : Int), .bool (decide (0 < (s_.size : Int)))] 0 ?_
  refine QRun_seq 8 [(0, .string s_), (13, .bool x1)] ?_ ?_
  ·rcases Bool.eq_false_or_eq_true (decide (0 < (s_.size : Int))) with hb1 | hb1
   ·refine Zv (decide (0 < (s_.size : Int))) true hb1 ?_
    have gx1 := (M.ite_some gx1).1 hb1
    obtain ⟨x2, hx1, gx1⟩ := M.bind_some gx1
    have gx1 := M.ret_some gx1
    refine Zb [.string s_] 4 ?_
    refine Zy (.int .u8 x2) (Y_sidx (kk := .i64) hx1 Tryd.underlying9 (by kernel_rfl)) ?_
    refine Zb [.bool (x2 == 45)] 6 ?_
    refine Zv (x2 == 45) x1 gx1 ?_
    exact Zd [0, 13]
   ·refine Zv (decide (0 < (s_.size : Int))) false hb1 ?_
    have gx1 := M.ret_some ((M.ite_some gx1).2 hb1)
    refine Zn ?_
    refine Zn ?_
    refine Zn ?_
    refine Zv false x1 gx1 ?_
    exact Zd [0, 13]
  exact Zd [0, 13]
 refine Zc (x1) (fun hb2 => ?_) (fun hb2 => ?_)
 ·have hF := (M.ite_some hF).1 hb2
  refine Zs ?_
  obtain ⟨x3, hx2, hF⟩ := M.bind_some hF
  obtain ⟨x4, hx3, hF⟩ := M.bind_some hF
  refine Run_regC (j := 8) (C := fun x => Hold h x []) (by kernel_rfl) H0 (L' := [(4, iV x4.1), (5, .bool x4.2)]) ?_ (fun h1 H1 => ?_)
  ·refine Zb [.string s_] 0 ?_
   refine Zy (.string x3) (Y_cls fun hx Hx => (Y_ssub (lo := (some (.i64, 1))) (hi := none) hx2 rfl rfl Tryd.underlying9 (by kernel_rfl))) ?_
   refine Zy (.tuple #[iV x4.1, .bool x4.2]) (Y_call (f := 36) (args := #[.string x3]) (v := .tuple #[iV x4.1, .bool x4.2]) (by kernel_rfl) fun hx Hx => (w_spec_l01Digits hx x3 _ _ hx3).mono fun _ _ ⟨e, H'⟩ => ⟨e, Hx.call H' rfl⟩) ?_
   refine Zb [.tuple #[iV x4.1, .bool x4.2], iV x4.1, .bool x4.2, iV x4.1, .bool x4.2] 3 ?_
   exact Zd [4, 5]
  have H2 := H1
  refine Zs ?_
  refine Zg 9 [(2, iV (w64 (0 - x4.1))), (3, .bool (x4.2 && (decide (0 < x4.1))))] ?_ ?_
  ·refine Zb [iV x4.1, iV (w64 (0 - x4.1)), .bool x4.2] 0 ?_
   refine QRun_seq 7 [(21, iV (w64 (0 - x4.1))), (26, .bool (x4.2 && (decide (0 < x4.1))))] ?_ ?_
   ·rcases Bool.eq_false_or_eq_true x4.2 with hb3 | hb3
    ·refine Zv x4.2 true hb3 ?_
     refine Zb [iV x4.1, .bool (decide (0 < x4.1))] 4 ?_
     refine QRun_bool (decide (0 < x4.1)) (x4.2 && (decide (0 < x4.1))) (by kernel_rfl) (fun w => by kernel_rfl) (by rw [hb3]; rfl) ?_
     exact Zd [21, 26]
    ·refine Zv x4.2 false hb3 ?_
     refine Zn ?_
     refine Zn ?_
     refine QRun_bool false (x4.2 && (decide (0 < x4.1))) (by kernel_rfl) (fun w => by kernel_rfl) (by rw [hb3]; rfl) ?_
     exact Zd [21, 26]
   refine Zb [iV (w64 (0 - x4.1)), .bool (x4.2 && (decide (0 < x4.1)))] 7 ?_
   exact Zd [2, 3]
  have hF := M.ret_some hF
  subst hF
  exact Run_ret2 rfl (Zt (iV (w64 (0 - x4.1)))) (Zt (.bool (x4.2 && (decide (0 < x4.1))))) ⟨rfl, H2⟩
 ·have hF := (M.ite_some hF).2 hb2
  refine Run_skip ?_
  refine Zs ?_
  obtain ⟨x6, hx4, hF⟩ := M.bind_some hF
  refine Run_regC (j := 6) (C := fun x => Hold h x []) (by kernel_rfl) H0 (L' := [(2, iV x6.1), (3, .bool x6.2)]) ?_ (fun h2 H3 => ?_)
  ·refine Zb [.string s_] 0 ?_
   refine Zy (.tuple #[iV x6.1, .bool x6.2]) (Y_call (f := 36) (args := #[.string s_]) (v := .tuple #[iV x6.1, .bool x6.2]) (by kernel_rfl) fun hx Hx => (w_spec_l01Digits hx s_ _ _ hx4).mono fun _ _ ⟨e, H'⟩ => ⟨e, Hx.call H' rfl⟩) ?_
   refine Zb [iV x6.1, .bool x6.2, iV x6.1, .bool x6.2] 2 ?_
   exact Zd [2, 3]
  have H4 := H3
  have hF := M.ret_some hF
  subst hF
  exact Run_ret2 rfl (Zt (iV x6.1)) (Zt (.bool x6.2)) ⟨rfl, H4⟩

theorem w_spec_l01Numbers (h : Heap) (words : List ByteArray) (awords : Option Addr) (cwords : Nat) (rwords : Rd cd9 h (Lt h) awords cwords words) (n : Nat) (r : (List Int) × Bool) (hF : spec_l01Numbers words n = some r) :
  Fn Tryd.prog 53 #[.slice awords words.length cwords] h fun v h' => ∃ (a0 : Option Addr) (c0 : Nat), v = .tuple #[.slice a0 r.1.length c0, .bool r.2] ∧ Hold h h' [own cd2 a0 r.1.length c0 r.1] := by
 unfold spec_l01Numbers at hF
 refine Zo [.slice awords words.length cwords] Tryd.func53 rfl (fun w0 _ => ?_)
 have H0 := Hold.init h
 refine Zs ?_
 refine Zq [.slice none 0 0, .bool false] [0] [(0, .slice awords words.length cwords)] ?_
 refine Zs ?_
 refine Run_ops ?_
 refine Ze ?_
 refine E_lit (C := cd2) (n := 0) (l := ([] : List Int)) (cs := []) H0 (fun w => by kernel_rfl) (Enc.nil _ _) rfl (by decide) (fun a1 h1 H1 => ?_)
 refine Zr [.slice a1 0 0] 1 ?_
 refine Zx ?_
 refine Zk [0, 4] [(0, .slice awords words.length cwords), (4, .slice a1 0 0)] ?_
 refine Zs ?_
 refine Zs ?_
 refine Zq [iV 0] [0, 4, 5] [(0, .slice awords words.length cwords), (4, .slice a1 0 0), (5, iV 0)] ?_
 obtain ⟨x1, gx1, hF⟩ := M.bind_some hF
 obtain ⟨hloy1, hhiy1, gx1⟩ := M.for_start gx1
 refine Run_join (fun L' h' => ∃ (s2 : (List Int)) (a3 : Option Addr) (c2 : Nat), x1 = .inl s2 ∧ L' = [(4, .slice a3 s2.length c2)] ∧ Hold h h' [own cd2 a3 s2.length c2 s2]) ?_ ?_
 ·rintro _ h3 ⟨s2, a3, c2, es2, rfl, H3⟩
  have hF := M.cont_inl' hF es2
  refine Zs ?_
  refine Zq [.slice a3 s2.length c2, .slice a3 s2.length c2, .bool true] [2, 3] [(2, .slice a3 s2.length c2), (3, .bool true)] ?_
  have hF := M.ret_some hF
  subst hF
  exact Run_ret2 rfl (Zt (.slice a3 s2.length c2)) (Zt (.bool true)) ⟨a3, c2, rfl, H3⟩
 ·refine Run_block ?_
  have hn1 := (H1.len 0 rfl)
  have H13 : Hold h h1 [own cd2 a1 (([] : List Int).length) 0 ([] : List Int)] := by rw [hn1]; exact H1
  refine Run_keep [0, 4, 5] (L' := [(0, .slice awords words.length cwords), (4, .slice a1 (([] : List Int).length) 0), (5, iV 0)]) (by first | (rw [hn1]; kernel_rfl) | (simp only [hn1]; kernel_rfl) | kernel_rfl) ?_
  refine Run_loop (fun m L' h' => ∃ (i1 : Int) (s1 : (List Int)) (a2 : Option Addr) (c1 : Nat), 0 ≤ i1 ∧ M.forN (words.length : Int) _ _ n m i1 s1 = some x1 ∧ L' = [(0, .slice awords words.length cwords), (4, .slice a2 s1.length c1), (5, iV i1)] ∧ Hold h h' [own cd2 a2 s1.length c1 s1]) ((words.length : Int) - 0 : Int).toNat ⟨0, ([] : List Int), a1, 0, Int.le_refl _, gx1, rfl, H13⟩ ?_
  rintro my1 _ h2 ⟨i1, s1, a2, c1, hloy1', gx1, rfl, H2⟩
  refine Zs ?_
  refine Zs ?_
  refine Zq [iV i1, .slice awords words.length cwords, iV (words.length : Int), .bool (decide (i1 < (words.length : Int)))] [0, 4, 5, 12] [(0, .slice awords words.length cwords), (4, .slice a2 s1.length c1), (5, iV i1), (12, .bool (decide (i1 < (words.length : Int))))] ?_
  refine Zc (decide (i1 < (words.length : Int))) (fun hb1 => ?_) (fun hb1 => ?_)
  ·obtain ⟨my1, y1, rfl, hB1, hgoy1, houty1⟩ := M.for_go gx1 hb1
   have hlty1 := of_decide_eq_true hb1
   refine Run_skip ?_
   refine Zs ?_
   refine Run_block ?_
   refine Zs ?_
   obtain ⟨x2, hx1, hB1⟩ := M.bind_some hB1
   obtain ⟨hx1l, hx1u, hx1⟩ := M.idx_some hx1
   obtain ⟨x3, hx2, hB1⟩ := M.bind_some hB1
   refine Run_regC (j := 10) (C := fun x => Hold h x [own cd2 a2 s1.length c1 s1]) (by kernel_rfl) H2 (L' := [(0, .slice awords words.length cwords), (4, .slice a2 s1.length c1), (5, iV i1), (6, iV x3.1), (7, .bool x3.2)]) ?_ (fun h4 H4 => ?_)
   ·refine Zb [.slice awords words.length cwords, iV i1] 0 ?_
    refine Zy (.pointer (some (adr awords (i1.toNat * 1)))) (Y_cls fun hx Hx => (Zi 52 9 1 (awords) (words.length) (cwords) .i64 (i1) Tryd.underlying52 ((rwords.at H2.ext).cell hx1).1 hx1l hx1u)) ?_
    refine Zy (.string x2) (Y_cls fun hx Hx => (Zl 9 (adr awords (i1.toNat * 1)) (.string x2) (cd9_cell (rwords.at Hx.ext) hx1))) ?_
    refine Zy (.tuple #[iV x3.1, .bool x3.2]) (Y_call (f := 63) (args := #[.string x2]) (v := .tuple #[iV x3.1, .bool x3.2]) (by kernel_rfl) fun hx Hx => (w_spec_l01Signed hx x2 _ _ hx2).mono fun _ _ ⟨e, H'⟩ => ⟨e, Hx.call H' rfl⟩) ?_
    refine Zb [.tuple #[iV x3.1, .bool x3.2], iV x3.1, .bool x3.2, iV x3.1, .bool x3.2] 5 ?_
    exact Zd [0, 4, 5, 6, 7]
   have H5 := H4
   refine Zs ?_
   refine Zs ?_
   refine Zq [.bool x3.2, .bool (!x3.2)] [0, 4, 5, 6, 24] [(0, .slice awords words.length cwords), (4, .slice a2 s1.length c1), (5, iV i1), (6, iV x3.1), (24, .bool (!x3.2))] ?_
   refine Zc (!x3.2) (fun hb2 => ?_) (fun hb2 => ?_)
   ·have hB1 := (M.ite_some hB1).1 hb2
    refine Zs ?_
    refine Zq [.slice none 0 0, .bool false] [2, 3] [(2, .slice none 0 0), (3, .bool false)] ?_
    have hB1 := M.ret_some hB1
    have gx1 := houty1 _ hB1.symm
    have hF := M.cont_inr' hF gx1
    have hF := M.ret_some hF
    subst hF
    have H6 := H5.empty cd2
    have H7 : Hold h h4 [own cd2 none 0 0 []] := H6.pk [0]
    exact Run_ret2 rfl (Zt (.slice none 0 0)) (Zt (.bool false)) ⟨none, 0, rfl, H7⟩
   ·have hB1 := (M.ite_some hB1).2 hb2
    refine Run_skip ?_
    refine Run_ops ?_
    refine Zr [.slice a2 s1.length c1, iV x3.1] 0 ?_
    refine Ze ?_
    refine E_lit (C := cd2) (n := 1) (l := ([x3.1] : List Int)) (cs := [iV x3.1]) H5 (fun w => by kernel_rfl) (Enc.consE (cd2_own x3.1 _) (Enc.nil _ _) rfl) rfl (by decide) (fun a4 h5 H8 => ?_)
    obtain ⟨l1, hl1, hB1⟩ := M.bind_some hB1
    have hl1 := M.app_some hl1
    have H9 : Hold h h5 [own cd2 a2 s1.length c1 s1, own cd2 a4 1 1 ([x3.1] : List Int)] := H8.pk [1, 0]
    have H10 : Hold h h5 [own cd2 a4 1 1 ([x3.1] : List Int), own cd2 a2 s1.length c1 s1] := H9.pk [1, 0]
    have H11 : Hold h h5 [own cd2 a2 s1.length c1 s1, own cd2 a4 1 1 ([x3.1] : List Int)] := H10.pk [1, 0]
    refine Ze ?_
    refine E_app (C := cd2) (t := 68) (ty := 68) (n := s1.length) (m := 1) H11 cd2_ti rfl Tryd.underlying68 (by decide) (by kernel_rfl) hl1 (fun a5 c3 h6 H12 => ?_)
    refine Zr [.slice a5 l1.length c3] 4 ?_
    refine Zx ?_
    refine Zk [0, 4, 5] [(0, .slice awords words.length cwords), (4, .slice a5 l1.length c3), (5, iV i1)] ?_
    refine Run_blk ?_
    refine Zg 3 [(0, .slice awords words.length cwords), (4, .slice a5 l1.length c3), (5, iV (i1 + 1))] ?_ ?_
    ·refine Zb [iV i1] 0 ?_
     refine Zy (iV (i1 + 1)) (Y_eq (v := iV (w64 (i1 + 1))) (Y_pure (fun w => by kernel_rfl)) (by rw [w64_eq _ (by omega)])) ?_
     refine Zb [iV (i1 + 1)] 2 ?_
     exact Zd [0, 4, 5]
    have hB1 := M.ret_some hB1
    have gx1 := hgoy1 _ hB1.symm
    exact Za [0, 4, 5] my1 ⟨i1 + 1, l1, a5, c3, by omega, gx1, rfl, H12⟩
  ·have gx1 := M.for_end gx1 hb1
   subst gx1
   refine Run_exit (k' := _) rfl ?_
   exact Zf [4] ⟨s1, a2, c1, rfl, rfl, H2⟩

theorem w_spec_l11Read (h : Heap) (s_ : ByteArray) (n : Nat) (r : TPlace × Bool) (hF : spec_l11Read s_ n = some r) :
  Fn Tryd.prog 37 #[.string s_] h fun v h' => v = .tuple #[.agg #[iV r.1.From, iV r.1.To, iV r.1.Delay, iV r.1.Tokens], .bool r.2] ∧ Hold h h' [] := by
 unfold spec_l11Read at hF
 refine Zo [.string s_] Tryd.func37 rfl (fun w0 _ => ?_)
 have H0 := Hold.init h
 refine Zs ?_
 refine Run_ops ?_
 refine Ze ?_
 refine E_box (ty := 28) (cs := [iV 0, iV 0, iV 0, iV 0]) H0 (fun w => by kernel_rfl) (fun b1 h1 H1 => ?_)
 refine Zr [.bool false] 1 ?_
 refine Zx ?_
 refine Zk [0, 2] [(0, .string s_), (2, pV b1)] ?_
 refine Zs ?_
 refine Run_ops ?_
 refine Zr [.string s_] 0 ?_
 obtain ⟨x1, hx1, hF⟩ := M.bind_some hF
 refine Ze ?_
 refine ZC 35 #[.string s_, .int .u8 62] (w_spec_l01Split h1 s_ 62 _ _ hx1) (fun v1 h2 hp1 => ?_)
 obtain ⟨a1, c1, rfl, H2⟩ := hp1
 have H3 : Hold h h2 [own cd9 a1 x1.length c1 x1, box b1 28 [iV 0, iV 0, iV 0, iV 0]] := H1.call H2 rfl
 refine Zr [.slice a1 x1.length c1] 2 ?_
 refine Zx ?_
 refine Zk [2, 4] [(2, pV b1), (4, .slice a1 x1.length c1)] ?_
 refine Zs ?_
 refine Zs ?_
 refine Zq [.slice a1 x1.length c1, iV (x1.length : Int), .bool ((x1.length : Int) != 2)] [2, 4, 12] [(2, pV b1), (4, .slice a1 x1.length c1), (12, .bool ((x1.length : Int) != 2))] ?_
 refine Zc ((x1.length : Int) != 2) (fun hb1 => ?_) (fun hb1 => ?_)
 ·have hF := (M.ite_some hF).1 hb1
  refine Zs ?_
  refine Run_ops ?_
  refine Zr [.agg #[iV 0, iV 0, iV 0, iV 0]] 0 ?_
  have H5 : Hold h h2 [box b1 28 [iV 0, iV 0, iV 0, iV 0], own cd9 a1 x1.length c1 x1] := H3.pk [1, 0]
  refine Ze ?_
  refine ZP 28 0 [iV 0, iV 0, iV 0, iV 0] (.agg #[iV 0, iV 0, iV 0, iV 0]) H5 (fun h3 H4 => ?_)
  refine Zr [.bool false] 2 ?_
  refine Zx ?_
  refine Zk [2, 3] [(2, pV b1), (3, .bool false)] ?_
  have hF := M.ret_some hF
  subst hF
  have H6 : Hold h h3 [] := H4.pk []
  exact Run_ret2 rfl (ResV_cell (n := 4) (cs := [iV 0, iV 0, iV 0, iV 0]) (by kernel_rfl) (fun w => by kernel_rfl) (by kernel_rfl) rfl (H4.cells (n := 4) (off := 0) 0 rfl rfl)) (Zt (.bool false)) ⟨rfl, H6⟩
 ·have hF := (M.ite_some hF).2 hb1
  refine Run_skip ?_
  refine Zs ?_
  refine Run_ops ?_
  obtain ⟨x2, hx2, hF⟩ := M.bind_some hF
  obtain ⟨hx2l, hx2u, hx2⟩ := M.idx_some hx2
  refine Zr [.slice a1 x1.length c1] 0 ?_
  refine Zz (.pointer (some (adr a1 (1 * 1)))) (Zi 52 9 1 (a1) (x1.length) (c1) .i64 (1) Tryd.underlying52 ((H3.rd 0 rfl).cell hx2).1 hx2l hx2u) ?_
  refine Zz (.string x2) (Zl 9 (adr a1 (1 * 1)) (.string x2) (cd9_cell (H3.rd 0 rfl) hx2)) ?_
  obtain ⟨x3, hx3, hF⟩ := M.bind_some hF
  refine Ze ?_
  refine ZC 35 #[.string x2, .int .u8 58] (w_spec_l01Split h2 x2 58 _ _ hx3) (fun v2 h4 hp2 => ?_)
  obtain ⟨a2, c2, rfl, H7⟩ := hp2
  have H8 : Hold h h4 [own cd9 a2 x3.length c2 x3, own cd9 a1 x1.length c1 x1, box b1 28 [iV 0, iV 0, iV 0, iV 0]] := H3.call H7 rfl
  refine Zr [.slice a2 x3.length c2] 4 ?_
  refine Zx ?_
  refine Zk [2, 4, 5] [(2, pV b1), (4, .slice a1 x1.length c1), (5, .slice a2 x3.length c2)] ?_
  refine Zs ?_
  refine Zs ?_
  refine Zq [.slice a2 x3.length c2, iV (x3.length : Int), .bool ((x3.length : Int) != 2)] [2, 4, 5, 20] [(2, pV b1), (4, .slice a1 x1.length c1), (5, .slice a2 x3.length c2), (20, .bool ((x3.length : Int) != 2))] ?_
  refine Zc ((x3.length : Int) != 2) (fun hb2 => ?_) (fun hb2 => ?_)
  ·have hF := (M.ite_some hF).1 hb2
   refine Zs ?_
   refine Run_ops ?_
   refine Zr [.agg #[iV 0, iV 0, iV 0, iV 0]] 0 ?_
   have H10 : Hold h h4 [box b1 28 [iV 0, iV 0, iV 0, iV 0], own cd9 a2 x3.length c2 x3, own cd9 a1 x1.length c1 x1] := H8.pk [2, 0, 1]
   refine Ze ?_
   refine ZP 28 0 [iV 0, iV 0, iV 0, iV 0] (.agg #[iV 0, iV 0, iV 0, iV 0]) H10 (fun h5 H9 => ?_)
   refine Zr [.bool false] 2 ?_
   refine Zx ?_
   refine Zk [2, 3] [(2, pV b1), (3, .bool false)] ?_
   have hF := M.ret_some hF
   subst hF
   have H11 : Hold h h5 [] := H9.pk []
   exact Run_ret2 rfl (ResV_cell (n := 4) (cs := [iV 0, iV 0, iV 0, iV 0]) (by kernel_rfl) (fun w => by kernel_rfl) (by kernel_rfl) rfl (H9.cells (n := 4) (off := 0) 0 rfl rfl)) (Zt (.bool false)) ⟨rfl, H11⟩
  ·have hF := (M.ite_some hF).2 hb2
   refine Run_skip ?_
   refine Zs ?_
   obtain ⟨s1, gs1, hF⟩ := M.bind_some hF
   refine Run_join (fun L' h' => ∃ (a11 : Option Addr), ∃ (c9 : Nat), L' = [(2, pV b1), (6, .slice a11 s1.1.length c9), (7, .bool s1.2)] ∧ Hold h h' [box b1 28 [iV 0, iV 0, iV 0, iV 0], own cd2 a11 s1.1.length c9 s1.1]) ?_ ?_
   ·rintro _ h24 ⟨a11, c9, rfl, H49⟩
    refine Zs ?_
    refine Zs ?_
    refine Zg 7 [(2, pV b1), (6, .slice a11 s1.1.length c9), (44, .bool ((!s1.2) || ((s1.1.length : Int) != 4)))] ?_ ?_
    ·refine Zb [.bool s1.2, .bool (!s1.2)] 0 ?_
     refine QRun_seq 7 [(2, pV b1), (6, .slice a11 s1.1.length c9), (44, .bool ((!s1.2) || ((s1.1.length : Int) != 4)))] ?_ ?_
     ·rcases Bool.eq_false_or_eq_true (!s1.2) with hb3 | hb3
      ·refine Zv (!s1.2) true hb3 ?_
       refine Zn ?_
       refine Zn ?_
       refine Zn ?_
       refine QRun_bool true ((!s1.2) || ((s1.1.length : Int) != 4)) (by kernel_rfl) (fun w => by kernel_rfl) (by rw [hb3]; rfl) ?_
       exact Zd [2, 6, 44]
      ·refine Zv (!s1.2) false hb3 ?_
       refine Zb [.slice a11 s1.1.length c9, iV (s1.1.length : Int), .bool ((s1.1.length : Int) != 4)] 3 ?_
       refine QRun_bool ((s1.1.length : Int) != 4) ((!s1.2) || ((s1.1.length : Int) != 4)) (by kernel_rfl) (fun w => by kernel_rfl) (by rw [hb3]; rfl) ?_
       exact Zd [2, 6, 44]
     exact Zd [2, 6, 44]
    refine Zc ((!s1.2) || ((s1.1.length : Int) != 4)) (fun hb4 => ?_) (fun hb4 => ?_)
    ·have hF := (M.ite_some hF).1 hb4
     refine Zs ?_
     refine Run_ops ?_
     refine Zr [.agg #[iV 0, iV 0, iV 0, iV 0]] 0 ?_
     refine Ze ?_
     refine ZP 28 0 [iV 0, iV 0, iV 0, iV 0] (.agg #[iV 0, iV 0, iV 0, iV 0]) H49 (fun h25 H56 => ?_)
     refine Zr [.bool false] 2 ?_
     refine Zx ?_
     refine Zk [2, 3] [(2, pV b1), (3, .bool false)] ?_
     have hF := M.ret_some hF
     subst hF
     have H57 : Hold h h25 [] := H56.pk []
     exact Run_ret2 rfl (ResV_cell (n := 4) (cs := [iV 0, iV 0, iV 0, iV 0]) (by kernel_rfl) (fun w => by kernel_rfl) (by kernel_rfl) rfl (H56.cells (n := 4) (off := 0) 0 rfl rfl)) (Zt (.bool false)) ⟨rfl, H57⟩
    ·have hF := (M.ite_some hF).2 hb4
     refine Run_skip ?_
     refine Zs ?_
     obtain ⟨x15, hx14, hF⟩ := M.bind_some hF
     obtain ⟨hx14l, hx14u, hx14⟩ := M.idx_some hx14
     obtain ⟨x16, hx15, hF⟩ := M.bind_some hF
     obtain ⟨hx15l, hx15u, hx15⟩ := M.idx_some hx15
     obtain ⟨x17, hx16, hF⟩ := M.bind_some hF
     obtain ⟨hx16l, hx16u, hx16⟩ := M.idx_some hx16
     obtain ⟨x18, hx17, hF⟩ := M.bind_some hF
     obtain ⟨hx17l, hx17u, hx17⟩ := M.idx_some hx17
     refine Run_D (fun x => Hold h x [box b1 28 [iV 0, iV 0, iV 0, iV 0], own cd2 a11 s1.1.length c9 s1.1]) (fun x => Hold h x [box b1 28 [iV 0, iV 0, iV 0, iV 0], own cd2 a11 s1.1.length c9 s1.1]) mixed (by kernel_rfl) H49 Hold.stable (fun x Hy => (show Hold h x [box b1 28 [iV 0, iV 0, iV 0, iV 0], own cd2 a11 s1.1.length c9 s1.1] from Hy).pk [0, 1]) ?_
     refine ZB 14 [.slice a11 s1.1.length c9] 0 ?_
     refine ZY 13 1 (.pointer (some (adr a11 (0 * 1)))) (fun hx Hx => (YE.of (Zi 68 2 1 (a11) (s1.1.length) (c9) .i64 (0) Tryd.underlying68 ((H49.rd 1 rfl).cell hx14).1 hx14l hx14u))) ?_
     refine ZY 12 2 (iV x15) (fun hx Hx => (YE.of (Zl 2 (adr a11 (0 * 1)) (iV x15) (cd2_cell (Hx.rd 1 rfl) hx14)))) ?_
     refine ZB 11 [.slice a11 s1.1.length c9] 3 ?_
     refine ZY 10 4 (.pointer (some (adr a11 (1 * 1)))) (fun hx Hx => (YE.of (Zi 68 2 1 (a11) (s1.1.length) (c9) .i64 (1) Tryd.underlying68 ((H49.rd 1 rfl).cell hx15).1 hx15l hx15u))) ?_
     refine ZY 9 5 (iV x16) (fun hx Hx => (YE.of (Zl 2 (adr a11 (1 * 1)) (iV x16) (cd2_cell (Hx.rd 1 rfl) hx15)))) ?_
     refine ZB 8 [.slice a11 s1.1.length c9] 6 ?_
     refine ZY 7 7 (.pointer (some (adr a11 (2 * 1)))) (fun hx Hx => (YE.of (Zi 68 2 1 (a11) (s1.1.length) (c9) .i64 (2) Tryd.underlying68 ((H49.rd 1 rfl).cell hx16).1 hx16l hx16u))) ?_
     refine ZY 6 8 (iV x17) (fun hx Hx => (YE.of (Zl 2 (adr a11 (2 * 1)) (iV x17) (cd2_cell (Hx.rd 1 rfl) hx16)))) ?_
     refine ZB 5 [.slice a11 s1.1.length c9] 9 ?_
     refine ZY 4 10 (.pointer (some (adr a11 (3 * 1)))) (fun hx Hx => (YE.of (Zi 68 2 1 (a11) (s1.1.length) (c9) .i64 (3) Tryd.underlying68 ((H49.rd 1 rfl).cell hx17).1 hx17l hx17u))) ?_
     refine ZY 3 11 (iV x18) (fun hx Hx => (YE.of (Zl 2 (adr a11 (3 * 1)) (iV x18) (cd2_cell (Hx.rd 1 rfl) hx17)))) ?_
     refine ZB 2 [.agg #[iV x15, iV x16, iV x17, iV x18]] 12 ?_
     refine ZT 13 (fun h26 H58 => ?_)
     have H59 := H58
     refine Ze ?_
     refine ZP 28 0 [iV x15, iV x16, iV x17, iV x18] (.agg #[iV x15, iV x16, iV x17, iV x18]) H59 (fun h27 H60 => ?_)
     refine Zr [.bool true] 14 ?_
     refine Zx ?_
     refine Zk [2, 3] [(2, pV b1), (3, .bool true)] ?_
     have hF := M.ret_some hF
     subst hF
     have H61 : Hold h h27 [] := H60.pk []
     exact Run_ret2 rfl (ResV_cell (n := 4) (cs := [iV x15, iV x16, iV x17, iV x18]) (by kernel_rfl) (fun w => by kernel_rfl) (by kernel_rfl) rfl (H60.cells (n := 4) (off := 0) 0 rfl rfl)) (Zt (.bool true)) ⟨rfl, H61⟩
   ·obtain ⟨x7, hx7, gs1⟩ := M.bind_some gs1
    obtain ⟨hx7l, hx7u, hx7⟩ := M.idx_some hx7
    obtain ⟨x8, hx8, gs1⟩ := M.bind_some gs1
    obtain ⟨hx8l, hx8u, hx8⟩ := M.idx_some hx8
    obtain ⟨x9, hx9, gs1⟩ := M.bind_some gs1
    obtain ⟨hx9l, hx9u, hx9⟩ := M.idx_some hx9
    refine Run_D (fun x => Hold h x [own cd9 a2 x3.length c2 x3, own cd9 a1 x1.length c1 x1, box b1 28 [iV 0, iV 0, iV 0, iV 0]]) (fun x => Hold h x [own cd9 a2 x3.length c2 x3, own cd9 a1 x1.length c1 x1, box b1 28 [iV 0, iV 0, iV 0, iV 0]]) mixed (by kernel_rfl) H8 Hold.stable (fun x Hy => (show Hold h x [own cd9 a2 x3.length c2 x3, own cd9 a1 x1.length c1 x1, box b1 28 [iV 0, iV 0, iV 0, iV 0]] from Hy).pk [0, 1, 2]) ?_
    refine ZB 17 [.slice a1 x1.length c1] 0 ?_
    refine ZY 16 1 (.pointer (some (adr a1 (0 * 1)))) (fun hx Hx => (YE.of (Zi 52 9 1 (a1) (x1.length) (c1) .i64 (0) Tryd.underlying52 ((H8.rd 1 rfl).cell hx7).1 hx7l hx7u))) ?_
    refine ZY 15 2 (.string x7) (fun hx Hx => (YE.of (Zl 9 (adr a1 (0 * 1)) (.string x7) (cd9_cell (Hx.rd 1 rfl) hx7)))) ?_
    refine ZB 14 [.slice a2 x3.length c2] 3 ?_
    refine ZY 13 4 (.pointer (some (adr a2 (0 * 1)))) (fun hx Hx => (YE.of (Zi 52 9 1 (a2) (x3.length) (c2) .i64 (0) Tryd.underlying52 ((H8.rd 0 rfl).cell hx8).1 hx8l hx8u))) ?_
    refine ZY 12 5 (.string x8) (fun hx Hx => (YE.of (Zl 9 (adr a2 (0 * 1)) (.string x8) (cd9_cell (Hx.rd 0 rfl) hx8)))) ?_
    refine ZB 11 [.slice a2 x3.length c2] 7 ?_
    refine ZY 10 8 (.pointer (some (adr a2 (1 * 1)))) (fun hx Hx => (YE.of (Zi 52 9 1 (a2) (x3.length) (c2) .i64 (1) Tryd.underlying52 ((H8.rd 0 rfl).cell hx9).1 hx9l hx9u))) ?_
    refine ZY 9 9 (.string x9) (fun hx Hx => (YE.of (Zl 9 (adr a2 (1 * 1)) (.string x9) (cd9_cell (Hx.rd 0 rfl) hx9)))) ?_
    refine DR_e2 8 6 10 (by kernel_rfl) (by kernel_rfl) (by kernel_rfl) (by kernel_rfl) ?_ ?_
    ·intro h6 H12
     have H13 := H12
     refine E_lit (C := cd9) (n := 2) (l := ([x7, x8] : List ByteArray)) (cs := [.string x7, .string x8]) H13 (fun w => by kernel_rfl) (Enc.consE (cd9_own x7 _) (Enc.consE (cd9_own x8 _) (Enc.nil _ _) rfl) rfl) rfl (by decide) (fun a3 h7 H14 => ?_)
     refine ZA [own cd9 a2 x3.length c2 x3, own cd9 a1 x1.length c1 x1, box b1 28 [iV 0, iV 0, iV 0, iV 0]] [1, 2, 3] [0, 1, 2] H14 ?_
     refine ZE 7 10 (fun h8 H15 => ?_)
     have H16 := H15
     obtain ⟨x10, hx10, gs1⟩ := M.bind_some gs1
     refine ZC 35 #[.string x9, .int .u8 42] (w_spec_l01Split h8 x9 42 _ _ hx10) (fun v3 h9 hp3 => ?_)
     obtain ⟨a4, c3, rfl, H17⟩ := hp3
     have H18 : Hold h h9 [own cd9 a4 x10.length c3 x10, own cd9 a3 2 2 ([x7, x8] : List ByteArray), own cd9 a2 x3.length c2 x3, own cd9 a1 x1.length c1 x1, box b1 28 [iV 0, iV 0, iV 0, iV 0]] := H16.call H17 rfl
     refine ZA [own cd9 a2 x3.length c2 x3, own cd9 a1 x1.length c1 x1, box b1 28 [iV 0, iV 0, iV 0, iV 0]] [2, 3, 4] [0, 1, 2] H18 ?_
     refine ZE 6 11 (fun h10 H19 => ?_)
     have H20 := H19
     obtain ⟨l1, hl1, gs1⟩ := M.bind_some gs1
     have hl1 := M.app_some hl1
     have H21 : Hold h h10 [own cd9 a3 2 2 ([x7, x8] : List ByteArray), own cd9 a4 x10.length c3 x10, own cd9 a2 x3.length c2 x3, own cd9 a1 x1.length c1 x1, box b1 28 [iV 0, iV 0, iV 0, iV 0]] := H20.pk [1, 0, 2, 3, 4]
     have H22 : Hold h h10 [own cd9 a4 x10.length c3 x10, own cd9 a3 2 2 ([x7, x8] : List ByteArray), own cd9 a2 x3.length c2 x3, own cd9 a1 x1.length c1 x1, box b1 28 [iV 0, iV 0, iV 0, iV 0]] := H21.pk [1, 0, 2, 3, 4]
     have H23 : Hold h h10 [own cd9 a3 2 2 ([x7, x8] : List ByteArray), own cd9 a4 x10.length c3 x10, own cd9 a2 x3.length c2 x3, own cd9 a1 x1.length c1 x1, box b1 28 [iV 0, iV 0, iV 0, iV 0]] := H22.pk [1, 0, 2, 3, 4]
     refine E_app (C := cd9) (t := 52) (ty := 52) (n := 2) (m := x10.length) H23 cd9_ti rfl Tryd.underlying52 (by decide) (by kernel_rfl) hl1 (fun a5 c4 h11 H24 => ?_)
     refine ZA [own cd9 a2 x3.length c2 x3, own cd9 a1 x1.length c1 x1, box b1 28 [iV 0, iV 0, iV 0, iV 0], own cd9 a5 l1.length c4 l1] [1, 2, 3, 0] [0, 1, 2] H24 ?_
     refine ZE 5 12 (fun h12 H25 => ?_)
     have H26 := H25
     obtain ⟨x11, hx11, gs1⟩ := M.bind_some gs1
     refine ZC 53 #[.slice a5 l1.length c4] (w_spec_l01Numbers h12 l1 a5 c4 (H26.rd 0 rfl) _ _ hx11) (fun v4 h13 hp4 => ?_)
     obtain ⟨a6, c5, rfl, H27⟩ := hp4
     have H28 : Hold h h13 [own cd2 a6 x11.1.length c5 x11.1, own cd9 a5 l1.length c4 l1, own cd9 a2 x3.length c2 x3, own cd9 a1 x1.length c1 x1, box b1 28 [iV 0, iV 0, iV 0, iV 0]] := H26.call H27 rfl
     refine ZA [own cd9 a2 x3.length c2 x3, own cd9 a1 x1.length c1 x1, box b1 28 [iV 0, iV 0, iV 0, iV 0], own cd9 a5 l1.length c4 l1, own cd2 a6 x11.1.length c5 x11.1] [2, 3, 4, 1, 0] [0, 1, 2, 3] H28 ?_
     refine ZB 0 [.tuple #[.slice a6 x11.1.length c5, .bool x11.2], .slice a6 x11.1.length c5, .bool x11.2, .slice a6 x11.1.length c5, .bool x11.2] 13 ?_
     refine ZT 18 (fun h14 H29 => ?_)
     have H30 := H29
     refine Zx ?_
     refine Zk [2, 6, 7] [(2, pV b1), (6, .slice a6 x11.1.length c5), (7, .bool x11.2)] ?_
     have H54 : Hold h h14 [box b1 28 [iV 0, iV 0, iV 0, iV 0], own cd2 a6 x11.1.length c5 x11.1] := H30.pk [4, 0]
     have gs1 := M.ret_some gs1
     subst gs1
     exact Zf [2, 6, 7] ⟨a6, c5, rfl, H54⟩
    ·intro h15 H31
     have H32 := H31
     obtain ⟨x12, hx12, gs1⟩ := M.bind_some gs1
     refine ZC 35 #[.string x9, .int .u8 42] (w_spec_l01Split h15 x9 42 _ _ hx12) (fun v5 h16 hp5 => ?_)
     obtain ⟨a7, c6, rfl, H33⟩ := hp5
     have H34 : Hold h h16 [own cd9 a7 x12.length c6 x12, own cd9 a2 x3.length c2 x3, own cd9 a1 x1.length c1 x1, box b1 28 [iV 0, iV 0, iV 0, iV 0]] := H32.call H33 rfl
     refine ZA [own cd9 a2 x3.length c2 x3, own cd9 a1 x1.length c1 x1, box b1 28 [iV 0, iV 0, iV 0, iV 0]] [1, 2, 3] [0, 1, 2] H34 ?_
     refine ZE 7 6 (fun h17 H35 => ?_)
     have H36 := H35
     refine E_lit (C := cd9) (n := 2) (l := ([x7, x8] : List ByteArray)) (cs := [.string x7, .string x8]) H36 (fun w => by kernel_rfl) (Enc.consE (cd9_own x7 _) (Enc.consE (cd9_own x8 _) (Enc.nil _ _) rfl) rfl) rfl (by decide) (fun a8 h18 H37 => ?_)
     refine ZA [own cd9 a2 x3.length c2 x3, own cd9 a1 x1.length c1 x1, box b1 28 [iV 0, iV 0, iV 0, iV 0]] [2, 3, 4] [0, 1, 2] H37 ?_
     refine ZE 6 11 (fun h19 H38 => ?_)
     have H39 := H38
     obtain ⟨l2, hl2, gs1⟩ := M.bind_some gs1
     have hl2 := M.app_some hl2
     have H40 : Hold h h19 [own cd9 a7 x12.length c6 x12, own cd9 a8 2 2 ([x7, x8] : List ByteArray), own cd9 a2 x3.length c2 x3, own cd9 a1 x1.length c1 x1, box b1 28 [iV 0, iV 0, iV 0, iV 0]] := H39.pk [1, 0, 2, 3, 4]
     have H41 : Hold h h19 [own cd9 a8 2 2 ([x7, x8] : List ByteArray), own cd9 a7 x12.length c6 x12, own cd9 a2 x3.length c2 x3, own cd9 a1 x1.length c1 x1, box b1 28 [iV 0, iV 0, iV 0, iV 0]] := H40.pk [1, 0, 2, 3, 4]
     refine E_app (C := cd9) (t := 52) (ty := 52) (n := 2) (m := x12.length) H41 cd9_ti rfl Tryd.underlying52 (by decide) (by kernel_rfl) hl2 (fun a9 c7 h20 H42 => ?_)
     refine ZA [own cd9 a2 x3.length c2 x3, own cd9 a1 x1.length c1 x1, box b1 28 [iV 0, iV 0, iV 0, iV 0], own cd9 a9 l2.length c7 l2] [1, 2, 3, 0] [0, 1, 2] H42 ?_
     refine ZE 5 12 (fun h21 H43 => ?_)
     have H44 := H43
     obtain ⟨x13, hx13, gs1⟩ := M.bind_some gs1
     refine ZC 53 #[.slice a9 l2.length c7] (w_spec_l01Numbers h21 l2 a9 c7 (H44.rd 0 rfl) _ _ hx13) (fun v6 h22 hp6 => ?_)
     obtain ⟨a10, c8, rfl, H45⟩ := hp6
     have H46 : Hold h h22 [own cd2 a10 x13.1.length c8 x13.1, own cd9 a9 l2.length c7 l2, own cd9 a2 x3.length c2 x3, own cd9 a1 x1.length c1 x1, box b1 28 [iV 0, iV 0, iV 0, iV 0]] := H44.call H45 rfl
     refine ZA [own cd9 a2 x3.length c2 x3, own cd9 a1 x1.length c1 x1, box b1 28 [iV 0, iV 0, iV 0, iV 0], own cd9 a9 l2.length c7 l2, own cd2 a10 x13.1.length c8 x13.1] [2, 3, 4, 1, 0] [0, 1, 2, 3] H46 ?_
     refine ZB 0 [.tuple #[.slice a10 x13.1.length c8, .bool x13.2], .slice a10 x13.1.length c8, .bool x13.2, .slice a10 x13.1.length c8, .bool x13.2] 13 ?_
     refine ZT 18 (fun h23 H47 => ?_)
     have H48 := H47
     refine Zx ?_
     refine Zk [2, 6, 7] [(2, pV b1), (6, .slice a10 x13.1.length c8), (7, .bool x13.2)] ?_
     have H55 : Hold h h23 [box b1 28 [iV 0, iV 0, iV 0, iV 0], own cd2 a10 x13.1.length c8 x13.1] := H48.pk [4, 0]
     have gs1 := M.ret_some gs1
     subst gs1
     exact Zf [2, 6, 7] ⟨a10, c8, rfl, H55⟩

theorem w_spec_l01In (h : Heap) (n_ : Int) (low : Int) (high : Int) (n : Nat) (r : Bool) (hF : spec_l01In n_ low high n = some r) :
  Fn Tryd.prog 48 #[iV n_, iV low, iV high] h fun v h' => v = .bool r ∧ h' = h := by
 unfold spec_l01In at hF
 refine Zo [iV n_, iV low, iV high] Tryd.func48 rfl (fun w0 _ => ?_)
 refine Zs ?_
 refine Zq [.bool false] [0, 1, 2] [(0, iV n_), (1, iV low), (2, iV high)] ?_
 refine Zs ?_
 refine Zg 9 [(6, .bool ((decide (low ≤ n_)) && (decide (n_ ≤ high))))] ?_ ?_
 ·refine Zb [iV n_, iV low, .bool (decide (low ≤ n_))] 0 ?_
  refine QRun_seq 8 [(14, .bool ((decide (low ≤ n_)) && (decide (n_ ≤ high))))] ?_ ?_
  ·rcases Bool.eq_false_or_eq_true (decide (low ≤ n_)) with hb1 | hb1
   ·refine Zv (decide (low ≤ n_)) true hb1 ?_
    refine Zb [iV n_, iV high, .bool (decide (n_ ≤ high))] 4 ?_
    refine QRun_bool (decide (n_ ≤ high)) ((decide (low ≤ n_)) && (decide (n_ ≤ high))) (by kernel_rfl) (fun w => by kernel_rfl) (by rw [hb1]; rfl) ?_
    exact Zd [14]
   ·refine Zv (decide (low ≤ n_)) false hb1 ?_
    refine Zn ?_
    refine Zn ?_
    refine Zn ?_
    refine QRun_bool false ((decide (low ≤ n_)) && (decide (n_ ≤ high))) (by kernel_rfl) (fun w => by kernel_rfl) (by rw [hb1]; rfl) ?_
    exact Zd [14]
  refine Zb [.bool ((decide (low ≤ n_)) && (decide (n_ ≤ high)))] 8 ?_
  exact Zd [6]
 have hF := M.ret_some hF
 subst hF
 exact Run_ret1 rfl (Zt (.bool ((decide (low ≤ n_)) && (decide (n_ ≤ high))))) ⟨rfl, rfl⟩

theorem w_spec_l11Place (h : Heap) (p : TPlace) (events : Int) (n : Nat) (r : Bool) (hF : spec_l11Place p events n = some r) :
  Fn Tryd.prog 27 #[.agg #[iV p.From, iV p.To, iV p.Delay, iV p.Tokens], iV events] h fun v h' => v = .bool r ∧ Hold h h' [] := by
 unfold spec_l11Place at hF
 refine Zo [.agg #[iV p.From, iV p.To, iV p.Delay, iV p.Tokens], iV events] Tryd.func27 rfl (fun w0 _ => ?_)
 have H0 := Hold.init h
 refine Zs ?_
 refine Run_ops ?_
 refine Ze ?_
 refine E_box (ty := 28) (cs := [iV p.From, iV p.To, iV p.Delay, iV p.Tokens]) H0 (fun w => by kernel_rfl) (fun b1 h1 H1 => ?_)
 refine Zr [.bool false] 1 ?_
 refine Zx ?_
 refine Zk [1, 2] [(1, iV events), (2, pV b1)] ?_
 refine Zs ?_
 obtain ⟨x1, hx1, hF⟩ := M.bind_some hF
 obtain ⟨x2, gx2, hF⟩ := M.bind_some hF
 obtain ⟨x4, gx4, hF⟩ := M.bind_some hF
 obtain ⟨x6, gx6, hF⟩ := M.bind_some hF
 refine Zg 23 [(4, .bool x6)] ?_ ?_
 ·refine Zb [pV b1] 0 ?_
  refine Zy (iV p.From) (Zl 2 (⟨b1, 0, none⟩) (iV p.From) (H1.cell 0 rfl rfl)) ?_
  refine Zb [iV events, iV (w64 (events - 1))] 2 ?_
  refine Zy (.bool x1) (ZQ 48 #[iV p.From, iV 0, iV (w64 (events - 1))] (w_spec_l01In h1 p.From 0 (w64 (events - 1)) _ _ hx1)) ?_
  refine QRun_seq 12 [(2, pV b1), (16, .bool x2)] ?_ ?_
  ·rcases Bool.eq_false_or_eq_true x1 with hb1 | hb1
   ·refine Zv x1 true hb1 ?_
    have gx2 := (M.ite_some gx2).1 hb1
    obtain ⟨x3, hx2, gx2⟩ := M.bind_some gx2
    have gx2 := M.ret_some gx2
    refine Zb [.pointer (some ⟨b1, 1, none⟩)] 6 ?_
    refine Zy (iV p.To) (Zl 2 (⟨b1, 1, none⟩) (iV p.To) (H1.cell 0 rfl rfl)) ?_
    refine Zb [iV events, iV (w64 (events - 1))] 8 ?_
    refine Zy (.bool x3) (ZQ 48 #[iV p.To, iV 0, iV (w64 (events - 1))] (w_spec_l01In h1 p.To 0 (w64 (events - 1)) _ _ hx2)) ?_
    refine Zv x3 x2 gx2 ?_
    exact Zd [2, 16]
   ·refine Zv x1 false hb1 ?_
    have gx2 := M.ret_some ((M.ite_some gx2).2 hb1)
    refine Zn ?_
    refine Zn ?_
    refine Zn ?_
    refine Zn ?_
    refine Zn ?_
    refine Zv false x2 gx2 ?_
    exact Zd [2, 16]
  refine QRun_seq 17 [(2, pV b1), (21, .bool x4)] ?_ ?_
  ·rcases Bool.eq_false_or_eq_true x2 with hb2 | hb2
   ·refine Zv x2 true hb2 ?_
    have gx4 := (M.ite_some gx4).1 hb2
    obtain ⟨x5, hx3, gx4⟩ := M.bind_some gx4
    have gx4 := M.ret_some gx4
    refine Zb [.pointer (some ⟨b1, 2, none⟩)] 13 ?_
    refine Zy (iV p.Delay) (Zl 2 (⟨b1, 2, none⟩) (iV p.Delay) (H1.cell 0 rfl rfl)) ?_
    refine Zy (.bool x5) (ZQ 48 #[iV p.Delay, iV 0, iV 1000] (w_spec_l01In h1 p.Delay 0 1000 _ _ hx3)) ?_
    refine Zv x5 x4 gx4 ?_
    exact Zd [2, 21]
   ·refine Zv x2 false hb2 ?_
    have gx4 := M.ret_some ((M.ite_some gx4).2 hb2)
    refine Zn ?_
    refine Zn ?_
    refine Zn ?_
    refine Zv false x4 gx4 ?_
    exact Zd [2, 21]
  refine QRun_seq 22 [(26, .bool x6)] ?_ ?_
  ·rcases Bool.eq_false_or_eq_true x4 with hb3 | hb3
   ·refine Zv x4 true hb3 ?_
    have gx6 := (M.ite_some gx6).1 hb3
    obtain ⟨x7, hx4, gx6⟩ := M.bind_some gx6
    have gx6 := M.ret_some gx6
    refine Zb [.pointer (some ⟨b1, 3, none⟩)] 18 ?_
    refine Zy (iV p.Tokens) (Zl 2 (⟨b1, 3, none⟩) (iV p.Tokens) (H1.cell 0 rfl rfl)) ?_
    refine Zy (.bool x7) (ZQ 48 #[iV p.Tokens, iV 0, iV 5] (w_spec_l01In h1 p.Tokens 0 5 _ _ hx4)) ?_
    refine Zv x7 x6 gx6 ?_
    exact Zd [26]
   ·refine Zv x4 false hb3 ?_
    have gx6 := M.ret_some ((M.ite_some gx6).2 hb3)
    refine Zn ?_
    refine Zn ?_
    refine Zn ?_
    refine Zv false x6 gx6 ?_
    exact Zd [26]
  refine Zb [.bool x6] 22 ?_
  exact Zd [4]
 have hF := M.ret_some hF
 subst hF
 have H2 : Hold h h1 [] := H1.pk []
 exact Run_ret1 rfl (Zt (.bool x6)) ⟨rfl, H2⟩

theorem w_spec_IsEventGraph (h : Heap) (g : TGraph) (agPlaces : Option Addr) (cgPlaces : Nat) (rgPlaces : Rd cd28 h (Lt h) agPlaces cgPlaces g.Places) (n : Nat) (r : Bool) (hF : spec_IsEventGraph g n = some r) :
  Fn Tryd.prog 26 #[.agg #[iV g.Events, .slice agPlaces g.Places.length cgPlaces]] h fun v h' => v = .bool r ∧ Hold h h' [] := by
 unfold spec_IsEventGraph at hF
 refine Zo [.agg #[iV g.Events, .slice agPlaces g.Places.length cgPlaces]] Tryd.func26 rfl (fun w0 _ => ?_)
 have H0 := Hold.init h
 refine Zs ?_
 refine Run_ops ?_
 refine Ze ?_
 refine E_box (ty := 26) (cs := [iV g.Events, .slice agPlaces g.Places.length cgPlaces]) H0 (fun w => by kernel_rfl) (fun b1 h1 H1 => ?_)
 refine Zr [.bool false] 1 ?_
 refine Zx ?_
 refine Zk [1] [(1, pV b1)] ?_
 refine Zs ?_
 refine Zs ?_
 refine Zq [iV 0] [1, 3] [(1, pV b1), (3, iV 0)] ?_
 obtain ⟨x1, gx1, hF⟩ := M.bind_some hF
 refine Run_join (fun L' h' => ∃ (s2 : Int), x1 = .inl s2 ∧ L' = [(1, pV b1)] ∧ Hold h h' [box b1 26 [iV g.Events, .slice agPlaces g.Places.length cgPlaces]]) ?_ ?_
 ·rintro _ h3 ⟨s2, es2, rfl, H3⟩
  have hF := M.cont_inl' hF es2
  refine Zs ?_
  obtain ⟨x4, hx3, hF⟩ := M.bind_some hF
  refine Zg 10 [(2, .bool (x4 && (decide ((g.Places.length : Int) ≤ 30))))] ?_ ?_
  ·refine Zb [pV b1] 0 ?_
   refine Zy (iV g.Events) (Zl 2 (⟨b1, 0, none⟩) (iV g.Events) (H3.cell 0 rfl rfl)) ?_
   refine Zy (.bool x4) (ZQ 48 #[iV g.Events, iV 1, iV 10] (w_spec_l01In h3 g.Events 1 10 _ _ hx3)) ?_
   refine QRun_seq 9 [(28, .bool (x4 && (decide ((g.Places.length : Int) ≤ 30))))] ?_ ?_
   ·rcases Bool.eq_false_or_eq_true x4 with hb3 | hb3
    ·refine Zv x4 true hb3 ?_
     refine Zb [.pointer (some ⟨b1, 1, none⟩)] 4 ?_
     refine Zy (.slice agPlaces g.Places.length cgPlaces) (Zl 24 (⟨b1, 1, none⟩) (.slice agPlaces g.Places.length cgPlaces) (H3.cell 0 rfl rfl)) ?_
     refine Zb [iV (g.Places.length : Int), .bool (decide ((g.Places.length : Int) ≤ 30))] 6 ?_
     refine QRun_bool (decide ((g.Places.length : Int) ≤ 30)) (x4 && (decide ((g.Places.length : Int) ≤ 30))) (by kernel_rfl) (fun w => by kernel_rfl) (by rw [hb3]; rfl) ?_
     exact Zd [28]
    ·refine Zv x4 false hb3 ?_
     refine Zn ?_
     refine Zn ?_
     refine Zn ?_
     refine Zn ?_
     refine QRun_bool false (x4 && (decide ((g.Places.length : Int) ≤ 30))) (by kernel_rfl) (fun w => by kernel_rfl) (by rw [hb3]; rfl) ?_
     exact Zd [28]
   refine Zb [.bool (x4 && (decide ((g.Places.length : Int) ≤ 30)))] 9 ?_
   exact Zd [2]
  have hF := M.ret_some hF
  subst hF
  have H7 : Hold h h3 [] := H3.pk []
  exact Run_ret1 rfl (Zt (.bool (x4 && (decide ((g.Places.length : Int) ≤ 30))))) ⟨rfl, H7⟩
 ·refine Run_block ?_
  refine Zk [1, 3] [(1, pV b1), (3, iV 0)] ?_
  refine Run_loop (fun m L' h' => ∃ (s1 : Int), M.loopN _ n m s1 = some x1 ∧ L' = [(1, pV b1), (3, iV s1)] ∧ Hold h h' [box b1 26 [iV g.Events, .slice agPlaces g.Places.length cgPlaces]]) n ⟨0, gx1, rfl, H1⟩ ?_
  rintro my1 _ h2 ⟨s1, gx1, rfl, H2⟩
  obtain ⟨my1, y1, rfl, hB1, hgoy1, houty1⟩ := M.loop_some gx1
  refine Zs ?_
  refine Zs ?_
  refine Zg 5 [(1, pV b1), (3, iV s1), (8, .bool (decide (s1 < (g.Places.length : Int))))] ?_ ?_
  ·refine Zb [iV s1, .pointer (some ⟨b1, 1, none⟩)] 0 ?_
   refine Zy (.slice agPlaces g.Places.length cgPlaces) (Zl 24 (⟨b1, 1, none⟩) (.slice agPlaces g.Places.length cgPlaces) (H2.cell 0 rfl rfl)) ?_
   refine Zb [iV (g.Places.length : Int), .bool (decide (s1 < (g.Places.length : Int)))] 3 ?_
   exact Zd [1, 3, 8]
  refine Zc (decide (s1 < (g.Places.length : Int))) (fun hb1 => ?_) (fun hb1 => ?_)
  ·have hB1 := (M.ite_some hB1).1 hb1
   refine Run_skip ?_
   refine Zs ?_
   refine Run_block ?_
   refine Zs ?_
   obtain ⟨x2, hx1, hB1⟩ := M.bind_some hB1
   obtain ⟨hx1l, hx1u, hx1⟩ := M.idx_some hx1
   obtain ⟨x3, hx2, hB1⟩ := M.bind_some hB1
   refine Run_drawC (j := 9) (C := fun x => Hold h x [box b1 26 [iV g.Events, .slice agPlaces g.Places.length cgPlaces]]) mixed (by kernel_rfl) (by kernel_rfl) H2 (L' := [(1, pV b1), (3, iV s1), (19, .bool (!x3))]) ?_ (fun h4 H4 => ?_)
   ·refine Zb [.pointer (some ⟨b1, 1, none⟩)] 0 ?_
    refine Zy (.slice agPlaces g.Places.length cgPlaces) (Y_cls fun hx Hx => (Zl 24 (⟨b1, 1, none⟩) (.slice agPlaces g.Places.length cgPlaces) (Hx.cell 0 rfl rfl))) ?_
    refine Zb [iV s1] 2 ?_
    refine Zy (.pointer (some (adr agPlaces (s1.toNat * 4)))) (Y_cls fun hx Hx => (Zi 24 28 4 (agPlaces) (g.Places.length) (cgPlaces) .i64 (s1) Tryd.underlying24 ((rgPlaces.at H2.ext).cell hx1).1 hx1l hx1u)) ?_
    refine Zy (.agg #[iV x2.From, iV x2.To, iV x2.Delay, iV x2.Tokens]) (Y_cls fun hx Hx => (Y_loadA (t := 28) (n := 4) (p := adr agPlaces (s1.toNat * 4)) (cs := [iV x2.From, iV x2.To, iV x2.Delay, iV x2.Tokens]) (by kernel_rfl) (fun w => by kernel_rfl) (by kernel_rfl) rfl (cd28_elem (rgPlaces.at Hx.ext) hx1))) ?_
    refine Zb [pV b1] 5 ?_
    refine Zy (iV g.Events) (Y_cls fun hx Hx => (Zl 2 (⟨b1, 0, none⟩) (iV g.Events) (Hx.cell 0 rfl rfl))) ?_
    refine Zy (.bool x3) (Y_call (f := 27) (args := #[.agg #[iV x2.From, iV x2.To, iV x2.Delay, iV x2.Tokens], iV g.Events]) (v := .bool x3) (by kernel_rfl) fun hx Hx => (w_spec_l11Place hx x2 g.Events _ _ hx2).mono fun _ _ ⟨e, H'⟩ => ⟨e, Hx.call H' rfl⟩) ?_
    refine Zb [.bool (!x3)] 8 ?_
    exact Zd [1, 3, 19]
   have H5 := H4
   refine Zc (!x3) (fun hb2 => ?_) (fun hb2 => ?_)
   ·have hB1 := (M.ite_some hB1).1 hb2
    refine Zs ?_
    refine Zq [.bool false] [2] [(2, .bool false)] ?_
    have hB1 := M.ret_some hB1
    have gx1 := houty1 _ hB1.symm
    have hF := M.cont_inr' hF gx1
    have hF := M.ret_some hF
    subst hF
    have H6 : Hold h h4 [] := H5.pk []
    exact Run_ret1 rfl (Zt (.bool false)) ⟨rfl, H6⟩
   ·have hB1 := (M.ite_some hB1).2 hb2
    refine Run_skip ?_
    refine Run_blk ?_
    refine Zq [iV s1, iV (w64 (s1 + 1)), iV (w64 (s1 + 1))] [1, 3] [(1, pV b1), (3, iV (w64 (s1 + 1)))] ?_
    have hB1 := M.ret_some hB1
    have gx1 := hgoy1 _ hB1.symm
    exact Za [1, 3] my1 ⟨(w64 (s1 + 1)), gx1, rfl, H5⟩
  ·have hB1 := (M.ite_some hB1).2 hb1
   refine Run_exit (k' := _) rfl ?_
   have hB1 := M.ret_some hB1
   have gx1 := houty1 _ hB1.symm
   subst gx1
   exact Zf [1] ⟨s1, rfl, rfl, H2⟩

theorem w_spec_ReadGraph (h : Heap) (s_ : ByteArray) (n : Nat) (r : TGraph × Bool) (hF : spec_ReadGraph s_ n = some r) :
  Fn Tryd.prog 12 #[.string s_] h fun v h' => ∃ (a0 : Option Addr) (c0 : Nat), v = .tuple #[.agg #[iV r.1.Events, .slice a0 r.1.Places.length c0], .bool r.2] ∧ Hold h h' [own cd28 a0 r.1.Places.length c0 r.1.Places] := by
 unfold spec_ReadGraph at hF
 refine Zo [.string s_] Tryd.func12 rfl (fun w0 _ => ?_)
 have H0 := Hold.init h
 refine Zs ?_
 refine Run_ops ?_
 refine Ze ?_
 refine E_box (ty := 26) (cs := [iV 0, .slice none 0 0]) H0 (fun w => by kernel_rfl) (fun b1 h1 H1 => ?_)
 refine Zr [.bool false] 1 ?_
 refine Zx ?_
 refine Zk [0, 2] [(0, .string s_), (2, pV b1)] ?_
 refine Zs ?_
 refine Run_ops ?_
 refine Zr [.string s_] 0 ?_
 obtain ⟨x1, hx1, hF⟩ := M.bind_some hF
 refine Ze ?_
 refine ZC 35 #[.string s_, .int .u8 32] (w_spec_l01Split h1 s_ 32 _ _ hx1) (fun v1 h2 hp1 => ?_)
 obtain ⟨a1, c1, rfl, H2⟩ := hp1
 have H3 : Hold h h2 [own cd9 a1 x1.length c1 x1, box b1 26 [iV 0, .slice none 0 0]] := H1.call H2 rfl
 refine Zr [.slice a1 x1.length c1] 2 ?_
 refine Zx ?_
 refine Zk [2, 4] [(2, pV b1), (4, .slice a1 x1.length c1)] ?_
 refine Zs ?_
 obtain ⟨x2, hx2, hF⟩ := M.bind_some hF
 obtain ⟨hx2l, hx2u, hx2⟩ := M.idx_some hx2
 obtain ⟨x3, hx3, hF⟩ := M.bind_some hF
 refine Run_regC (j := 9) (C := fun x => Hold h x [own cd9 a1 x1.length c1 x1, box b1 26 [iV 0, .slice none 0 0]]) (by kernel_rfl) H3 (L' := [(2, pV b1), (4, .slice a1 x1.length c1), (5, iV x3.1), (6, .bool x3.2)]) ?_ (fun h3 H4 => ?_)
 ·refine Zb [.slice a1 x1.length c1] 0 ?_
  refine Zy (.pointer (some (adr a1 (0 * 1)))) (Y_cls fun hx Hx => (Zi 52 9 1 (a1) (x1.length) (c1) .i64 (0) Tryd.underlying52 ((H3.rd 0 rfl).cell hx2).1 hx2l hx2u)) ?_
  refine Zy (.string x2) (Y_cls fun hx Hx => (Zl 9 (adr a1 (0 * 1)) (.string x2) (cd9_cell (Hx.rd 0 rfl) hx2))) ?_
  refine Zy (.tuple #[iV x3.1, .bool x3.2]) (Y_call (f := 36) (args := #[.string x2]) (v := .tuple #[iV x3.1, .bool x3.2]) (by kernel_rfl) fun hx Hx => (w_spec_l01Digits hx x2 _ _ hx3).mono fun _ _ ⟨e, H'⟩ => ⟨e, Hx.call H' rfl⟩) ?_
  refine Zb [.tuple #[iV x3.1, .bool x3.2], iV x3.1, .bool x3.2, iV x3.1, .bool x3.2] 4 ?_
  exact Zd [2, 4, 5, 6]
 have H5 := H4
 refine Zs ?_
 refine Run_ops ?_
 refine Zr [iV x3.1] 0 ?_
 refine Ze ?_
 refine E_lit (C := cd28) (n := 0) (l := ([] : List TPlace)) (cs := []) H5 (fun w => by kernel_rfl) (Enc.nil _ _) rfl (by decide) (fun a2 h4 H6 => ?_)
 refine Zr [.agg #[iV x3.1, .slice a2 0 0]] 2 ?_
 refine Ze ?_
 refine E_box (ty := 26) (cs := [iV 0, .slice none 0 0]) H6 (fun w => by kernel_rfl) (fun b2 h5 H7 => ?_)
 refine Ze ?_
 refine ZP 26 0 [iV x3.1, .slice a2 0 0] (.agg #[iV x3.1, .slice a2 0 0]) H7 (fun h6 H8 => ?_)
 refine Zx ?_
 refine Zk [2, 4, 6, 7] [(2, pV b1), (4, .slice a1 x1.length c1), (6, .bool x3.2), (7, pV b2)] ?_
 refine Zs ?_
 refine Zs ?_
 refine Zq [iV 1] [2, 4, 6, 7, 8] [(2, pV b1), (4, .slice a1 x1.length c1), (6, .bool x3.2), (7, pV b2), (8, iV 1)] ?_
 obtain ⟨x4, gx4, hF⟩ := M.bind_some hF
 obtain ⟨hloy1, hhiy1, gx4⟩ := M.for_start gx4
 refine Run_join (fun L' h' => ∃ (a4 : Option Addr) (c3 : Nat), L' = [(2, pV b1), (6, .bool x4.1), (7, pV b2)] ∧ Hold h h' [box b1 26 [iV 0, .slice none 0 0], box b2 26 [iV x3.1, .slice a4 x4.2.length c3], own cd28 a4 x4.2.length c3 x4.2]) ?_ ?_
 ·rintro _ h8 ⟨a4, c3, rfl, H10⟩
  refine Zs ?_
  refine Zs ?_
  obtain ⟨x8, gx8, hF⟩ := M.bind_some hF
  refine Run_regC (j := 7) (C := fun x => Hold h x [box b1 26 [iV 0, .slice none 0 0], box b2 26 [iV x3.1, .slice a4 x4.2.length c3], own cd28 a4 x4.2.length c3 x4.2]) (by kernel_rfl) H10 (L' := [(2, pV b1), (7, pV b2), (53, .bool x8)]) ?_ (fun h15 H26 => ?_)
  ·refine Zb [.bool x4.1, .bool (!x4.1)] 0 ?_
   refine QRun_seq 7 [(2, pV b1), (7, pV b2), (53, .bool x8)] ?_ ?_
   ·rcases Bool.eq_false_or_eq_true (!x4.1) with hb3 | hb3
    ·refine Zv (!x4.1) true hb3 ?_
     have gx8 := M.ret_some ((M.ite_some gx8).1 hb3)
     refine Zn ?_
     refine Zn ?_
     refine Zn ?_
     refine Zv true x8 gx8 ?_
     exact Zd [2, 7, 53]
    ·refine Zv (!x4.1) false hb3 ?_
     have gx8 := (M.ite_some gx8).2 hb3
     obtain ⟨x9, hx6, gx8⟩ := M.bind_some gx8
     have gx8 := M.ret_some gx8
     refine Zy (.agg #[iV x3.1, .slice a4 x4.2.length c3]) (Y_cls fun hx Hx => (Y_loadA (t := 26) (n := 2) (p := ⟨b2, 0, none⟩) (cs := [iV x3.1, .slice a4 x4.2.length c3]) (by kernel_rfl) (fun w => by kernel_rfl) (by kernel_rfl) rfl (Hx.cells (n := 2) (off := 0) 1 rfl rfl))) ?_
     refine Zy (.bool x9) (Y_call (f := 26) (args := #[.agg #[iV x3.1, .slice a4 x4.2.length c3]]) (v := .bool x9) (by kernel_rfl) fun hx Hx => (w_spec_IsEventGraph hx (⟨x3.1, x4.2⟩ : TGraph) a4 c3 (Hx.rd 2 rfl) _ _ hx6).mono fun _ _ ⟨e, H'⟩ => ⟨e, Hx.call H' rfl⟩) ?_
     refine Zb [.bool (!x9)] 5 ?_
     refine Zv (!x9) x8 gx8 ?_
     exact Zd [2, 7, 53]
   exact Zd [2, 7, 53]
  have H27 := H26
  refine Zc (x8) (fun hb4 => ?_) (fun hb4 => ?_)
  ·have hF := (M.ite_some hF).1 hb4
   refine Zs ?_
   refine Run_ops ?_
   refine Zr [.agg #[iV 0, .slice none 0 0]] 0 ?_
   refine Ze ?_
   refine ZP 26 0 [iV 0, .slice none 0 0] (.agg #[iV 0, .slice none 0 0]) H27 (fun h16 H28 => ?_)
   refine Zr [.bool false] 2 ?_
   refine Zx ?_
   refine Zk [2, 3] [(2, pV b1), (3, .bool false)] ?_
   have hF := M.ret_some hF
   subst hF
   have H29 := H28.empty cd28
   have H30 : Hold h h16 [own cd28 none 0 0 []] := H29.pk [0]
   exact Run_ret2 rfl (ResV_cell (n := 2) (cs := [iV 0, .slice none 0 0]) (by kernel_rfl) (fun w => by kernel_rfl) (by kernel_rfl) rfl (H28.cells (n := 2) (off := 0) 0 rfl rfl)) (Zt (.bool false)) ⟨none, 0, rfl, H30⟩
  ·have hF := (M.ite_some hF).2 hb4
   refine Run_skip ?_
   refine Zs ?_
   refine Run_ops ?_
   refine Zz (.agg #[iV x3.1, .slice a4 x4.2.length c3]) (Y_loadA (t := 26) (n := 2) (p := ⟨b2, 0, none⟩) (cs := [iV x3.1, .slice a4 x4.2.length c3]) (by kernel_rfl) (fun w => by kernel_rfl) (by kernel_rfl) rfl (H27.cells (n := 2) (off := 0) 1 rfl rfl)) ?_
   refine Ze ?_
   refine ZP 26 0 [iV x3.1, .slice a4 x4.2.length c3] (.agg #[iV x3.1, .slice a4 x4.2.length c3]) H27 (fun h17 H31 => ?_)
   refine Zr [.bool true] 2 ?_
   refine Zx ?_
   refine Zk [2, 3] [(2, pV b1), (3, .bool true)] ?_
   have hF := M.ret_some hF
   subst hF
   have H32 : Hold h h17 [own cd28 a4 x4.2.length c3 x4.2, box b1 26 [iV x3.1, .slice a4 x4.2.length c3], box b2 26 [iV x3.1, .slice a4 x4.2.length c3]] := H31.pk [2, 0, 1]
   have H33 : Hold h h17 [own cd28 a4 x4.2.length c3 x4.2] := H32.pk [0]
   exact Run_ret2 rfl (ResV_cell (n := 2) (cs := [iV x3.1, .slice a4 x4.2.length c3]) (by kernel_rfl) (fun w => by kernel_rfl) (by kernel_rfl) rfl (H31.cells (n := 2) (off := 0) 0 rfl rfl)) (Zt (.bool true)) ⟨a4, c3, rfl, H33⟩
 ·refine Run_block ?_
  have H34 : Hold h h6 [own cd28 a2 0 0 ([] : List TPlace), box b2 26 [iV x3.1, .slice a2 0 0], own cd9 a1 x1.length c1 x1, box b1 26 [iV 0, .slice none 0 0]] := H8.pk [1, 0, 2, 3]
  have hn1 := (H34.len 0 rfl)
  have H35 : Hold h h6 [own cd28 a2 (([] : List TPlace).length) 0 ([] : List TPlace), box b2 26 [iV x3.1, .slice a2 (([] : List TPlace).length) 0], own cd9 a1 x1.length c1 x1, box b1 26 [iV 0, .slice none 0 0]] := by rw [hn1]; exact H34
  have H36 : Hold h h6 [box b1 26 [iV 0, .slice none 0 0], own cd9 a1 x1.length c1 x1, box b2 26 [iV x3.1, .slice a2 (([] : List TPlace).length) 0], own cd28 a2 (([] : List TPlace).length) 0 ([] : List TPlace)] := H35.pk [3, 2, 1, 0]
  refine Run_keep [2, 4, 6, 7, 8] (L' := [(2, pV b1), (4, .slice a1 x1.length c1), (6, .bool x3.2), (7, pV b2), (8, iV 1)]) (by first | (rw [hn1]; kernel_rfl) | (simp only [hn1]; kernel_rfl) | kernel_rfl) ?_
  refine Run_loop (fun m L' h' => ∃ (i1 : Int) (s1 : Bool × (List TPlace)) (a3 : Option Addr) (c2 : Nat), 1 ≤ i1 ∧ M.forN (x1.length : Int) _ _ n m i1 s1 = some x4 ∧ L' = [(2, pV b1), (4, .slice a1 x1.length c1), (6, .bool s1.1), (7, pV b2), (8, iV i1)] ∧ Hold h h' [box b1 26 [iV 0, .slice none 0 0], own cd9 a1 x1.length c1 x1, box b2 26 [iV x3.1, .slice a3 s1.2.length c2], own cd28 a3 s1.2.length c2 s1.2]) ((x1.length : Int) - 1 : Int).toNat ⟨1, (x3.2, ([] : List TPlace)), a2, 0, Int.le_refl _, gx4, rfl, H36⟩ ?_
  rintro my1 _ h7 ⟨i1, s1, a3, c2, hloy1', gx4, rfl, H9⟩
  refine Zs ?_
  refine Zs ?_
  refine Zq [iV i1, .slice a1 x1.length c1, iV (x1.length : Int), .bool (decide (i1 < (x1.length : Int)))] [2, 4, 6, 7, 8, 26] [(2, pV b1), (4, .slice a1 x1.length c1), (6, .bool s1.1), (7, pV b2), (8, iV i1), (26, .bool (decide (i1 < (x1.length : Int))))] ?_
  refine Zc (decide (i1 < (x1.length : Int))) (fun hb1 => ?_) (fun hb1 => ?_)
  ·obtain ⟨my1, y1, rfl, hB1, hgoy1, houty1⟩ := M.for_go gx4 hb1
   have hlty1 := of_decide_eq_true hb1
   refine Run_skip ?_
   refine Zs ?_
   refine Run_block ?_
   refine Zs ?_
   refine Run_ops ?_
   obtain ⟨x5, hx4, hB1⟩ := M.bind_some hB1
   obtain ⟨hx4l, hx4u, hx4⟩ := M.idx_some hx4
   refine Zr [.slice a1 x1.length c1, iV i1] 0 ?_
   refine Zz (.pointer (some (adr a1 (i1.toNat * 1)))) (Zi 52 9 1 (a1) (x1.length) (c1) .i64 (i1) Tryd.underlying52 ((H9.rd 1 rfl).cell hx4).1 hx4l hx4u) ?_
   refine Zz (.string x5) (Zl 9 (adr a1 (i1.toNat * 1)) (.string x5) (cd9_cell (H9.rd 1 rfl) hx4)) ?_
   obtain ⟨x6, hx5, hB1⟩ := M.bind_some hB1
   refine Ze ?_
   refine ZC 37 #[.string x5] (w_spec_l11Read h7 x5 _ _ hx5) (fun v2 h9 hp2 => ?_)
   obtain ⟨rfl, H11⟩ := hp2
   have H12 : Hold h h9 [box b1 26 [iV 0, .slice none 0 0], own cd9 a1 x1.length c1 x1, box b2 26 [iV x3.1, .slice a3 s1.2.length c2], own cd28 a3 s1.2.length c2 s1.2] := H9.call H11 rfl
   refine Zr [.tuple #[.agg #[iV x6.1.From, iV x6.1.To, iV x6.1.Delay, iV x6.1.Tokens], .bool x6.2], .agg #[iV x6.1.From, iV x6.1.To, iV x6.1.Delay, iV x6.1.Tokens], .bool x6.2] 5 ?_
   refine Ze ?_
   refine E_box (ty := 28) (cs := [iV 0, iV 0, iV 0, iV 0]) H12 (fun w => by kernel_rfl) (fun b3 h10 H13 => ?_)
   refine Ze ?_
   refine ZP 28 0 [iV x6.1.From, iV x6.1.To, iV x6.1.Delay, iV x6.1.Tokens] (.agg #[iV x6.1.From, iV x6.1.To, iV x6.1.Delay, iV x6.1.Tokens]) H13 (fun h11 H14 => ?_)
   refine Zr [.bool x6.2] 10 ?_
   refine Zx ?_
   refine Zk [2, 4, 6, 7, 8, 9, 10] [(2, pV b1), (4, .slice a1 x1.length c1), (6, .bool s1.1), (7, pV b2), (8, iV i1), (9, pV b3), (10, .bool x6.2)] ?_
   refine Zs ?_
   refine Zg 5 [(2, pV b1), (4, .slice a1 x1.length c1), (6, .bool (s1.1 && x6.2)), (7, pV b2), (8, iV i1), (9, pV b3)] ?_ ?_
   ·refine Zb [.bool s1.1] 0 ?_
    refine QRun_seq 4 [(2, pV b1), (4, .slice a1 x1.length c1), (6, .bool s1.1), (7, pV b2), (8, iV i1), (9, pV b3), (40, .bool (s1.1 && x6.2))] ?_ ?_
    ·rcases Bool.eq_false_or_eq_true s1.1 with hb2 | hb2
     ·refine Zv s1.1 true hb2 ?_
      refine Zb [.bool x6.2] 2 ?_
      refine QRun_bool x6.2 (s1.1 && x6.2) (by kernel_rfl) (fun w => by kernel_rfl) (by rw [hb2]; rfl) ?_
      exact Zd [2, 4, 6, 7, 8, 9, 40]
     ·refine Zv s1.1 false hb2 ?_
      refine Zn ?_
      refine QRun_bool false (s1.1 && x6.2) (by kernel_rfl) (fun w => by kernel_rfl) (by rw [hb2]; rfl) ?_
      exact Zd [2, 4, 6, 7, 8, 9, 40]
    refine Zb [.bool (s1.1 && x6.2)] 4 ?_
    exact Zd [2, 4, 6, 7, 8, 9]
   refine Run_ops ?_
   refine Zr [.pointer (some ⟨b2, 1, none⟩)] 0 ?_
   refine Zz (.slice a3 s1.2.length c2) (Zl 24 (⟨b2, 1, none⟩) (.slice a3 s1.2.length c2) (H14.cell 3 rfl rfl)) ?_
   refine Zz (.agg #[iV x6.1.From, iV x6.1.To, iV x6.1.Delay, iV x6.1.Tokens]) (Y_loadA (t := 28) (n := 4) (p := ⟨b3, 0, none⟩) (cs := [iV x6.1.From, iV x6.1.To, iV x6.1.Delay, iV x6.1.Tokens]) (by kernel_rfl) (fun w => by kernel_rfl) (by kernel_rfl) rfl (H14.cells (n := 4) (off := 0) 0 rfl rfl)) ?_
   refine Ze ?_
   refine E_lit (C := cd28) (n := 1) (l := ([x6.1] : List TPlace)) (cs := [iV x6.1.From, iV x6.1.To, iV x6.1.Delay, iV x6.1.Tokens]) H14 (fun w => by kernel_rfl) (Enc.consE (cd28_own (x6.1 : TPlace) _) (Enc.nil _ _) rfl) rfl (by decide) (fun a5 h12 H15 => ?_)
   obtain ⟨l1, hl1, hB1⟩ := M.bind_some hB1
   have hl1 := M.app_some hl1
   have H16 : Hold h h12 [own cd28 a3 s1.2.length c2 s1.2, own cd28 a5 1 1 ([x6.1] : List TPlace), box b3 28 [iV x6.1.From, iV x6.1.To, iV x6.1.Delay, iV x6.1.Tokens], box b1 26 [iV 0, .slice none 0 0], own cd9 a1 x1.length c1 x1, box b2 26 [iV x3.1, .slice a3 s1.2.length c2]] := H15.pk [5, 0, 1, 2, 3, 4]
   have H17 : Hold h h12 [own cd28 a5 1 1 ([x6.1] : List TPlace), own cd28 a3 s1.2.length c2 s1.2, box b3 28 [iV x6.1.From, iV x6.1.To, iV x6.1.Delay, iV x6.1.Tokens], box b1 26 [iV 0, .slice none 0 0], own cd9 a1 x1.length c1 x1, box b2 26 [iV x3.1, .slice a3 s1.2.length c2]] := H16.pk [1, 0, 2, 3, 4, 5]
   have H18 : Hold h h12 [own cd28 a3 s1.2.length c2 s1.2, own cd28 a5 1 1 ([x6.1] : List TPlace), box b3 28 [iV x6.1.From, iV x6.1.To, iV x6.1.Delay, iV x6.1.Tokens], box b1 26 [iV 0, .slice none 0 0], own cd9 a1 x1.length c1 x1, box b2 26 [iV x3.1, .slice a3 s1.2.length c2]] := H17.pk [1, 0, 2, 3, 4, 5]
   refine Ze ?_
   refine E_app (C := cd28) (t := 24) (ty := 24) (n := s1.2.length) (m := 1) H18 cd28_ti rfl Tryd.underlying24 (by decide) (by kernel_rfl) hl1 (fun a6 c4 h13 H19 => ?_)
   refine Zr [.pointer (some ⟨b2, 1, none⟩)] 5 ?_
   have H21 : Hold h h13 [box b2 26 [iV x3.1, .slice a3 s1.2.length c2], own cd28 a6 l1.length c4 l1, box b3 28 [iV x6.1.From, iV x6.1.To, iV x6.1.Delay, iV x6.1.Tokens], box b1 26 [iV 0, .slice none 0 0], own cd9 a1 x1.length c1 x1] := H19.pk [4, 0, 1, 2, 3]
   refine Ze ?_
   refine ZP 24 1 [iV x3.1, .slice a6 l1.length c4] (.slice a6 l1.length c4) H21 (fun h14 H20 => ?_)
   refine Zx ?_
   refine Zk [2, 4, 6, 7, 8] [(2, pV b1), (4, .slice a1 x1.length c1), (6, .bool (s1.1 && x6.2)), (7, pV b2), (8, iV i1)] ?_
   refine Run_blk ?_
   refine Zg 3 [(2, pV b1), (4, .slice a1 x1.length c1), (6, .bool (s1.1 && x6.2)), (7, pV b2), (8, iV (i1 + 1))] ?_ ?_
   ·refine Zb [iV i1] 0 ?_
    refine Zy (iV (i1 + 1)) (Y_eq (v := iV (w64 (i1 + 1))) (Y_pure (fun w => by kernel_rfl)) (by rw [w64_eq _ (by omega)])) ?_
    refine Zb [iV (i1 + 1)] 2 ?_
    exact Zd [2, 4, 6, 7, 8]
   have H22 : Hold h h14 [own cd28 a6 l1.length c4 l1, box b2 26 [iV x3.1, .slice a6 l1.length c4], box b3 28 [iV x6.1.From, iV x6.1.To, iV x6.1.Delay, iV x6.1.Tokens], box b1 26 [iV 0, .slice none 0 0], own cd9 a1 x1.length c1 x1] := H20.pk [1, 0, 2, 3, 4]
   have H23 : Hold h h14 [box b1 26 [iV 0, .slice none 0 0], own cd9 a1 x1.length c1 x1, box b2 26 [iV x3.1, .slice a6 l1.length c4], own cd28 a6 l1.length c4 l1] := H22.pk [3, 4, 1, 0]
   have hB1 := M.ret_some hB1
   have gx4 := hgoy1 _ hB1.symm
   exact Za [2, 4, 6, 7, 8] my1 ⟨i1 + 1, ((s1.1 && x6.2), l1), a6, c4, by omega, gx4, rfl, H23⟩
  ·have gx4 := M.for_end gx4 hb1
   subst gx4
   refine Run_exit (k' := _) rfl ?_
   have H24 : Hold h h7 [own cd28 a3 s1.2.length c2 s1.2, box b1 26 [iV 0, .slice none 0 0], own cd9 a1 x1.length c1 x1, box b2 26 [iV x3.1, .slice a3 s1.2.length c2]] := H9.pk [3, 0, 1, 2]
   have H25 : Hold h h7 [box b1 26 [iV 0, .slice none 0 0], box b2 26 [iV x3.1, .slice a3 s1.2.length c2], own cd28 a3 s1.2.length c2 s1.2] := H24.pk [1, 3, 0]
   exact Zf [2, 6, 7] ⟨a3, c2, rfl, H25⟩

theorem w_internal_bytealg_Cutover (h : Heap) (n_ : Int) (n : Nat) (r : Int) (hF : internal_bytealg_Cutover n_ n = some r) :
  Fn Tryd.prog 85 #[iV n_] h fun v h' => v = iV r ∧ h' = h := by
 unfold internal_bytealg_Cutover at hF
 refine Zo [iV n_] Tryd.func85 rfl (fun w0 _ => ?_)
 refine Zs ?_
 refine Zq [iV 0] [0] [(0, iV n_)] ?_
 refine Zs ?_
 refine Zq [iV n_, iV (w64 (n_ + 16)), iV (w64 ((w64 (n_ + 16)).tdiv 8)), iV (w64 ((w64 (n_ + 16)).tdiv 8))] [2] [(2, iV (w64 ((w64 (n_ + 16)).tdiv 8)))] ?_
 have hF := M.ret_some hF
 subst hF
 exact Run_ret1 rfl (Zt (iV (w64 ((w64 (n_ + 16)).tdiv 8)))) ⟨rfl, rfl⟩

theorem w_internal_bytealg_hashStr_string_ (h : Heap) (sep : ByteArray) (n : Nat) (r : Int × Int) (hF : internal_bytealg_hashStr_string_ sep n = some r) :
  Fn Tryd.prog 95 #[.string sep] h fun v h' => v = .tuple #[.int .u32 r.1, .int .u32 r.2] ∧ h' = h := by
 unfold internal_bytealg_hashStr_string_ at hF
 refine Zo [.string sep] Tryd.func95 rfl (fun w0 _ => ?_)
 refine Zs ?_
 refine Zq [.int .u32 0, .int .u32 0] [0] [(0, .string sep)] ?_
 refine Zs ?_
 refine Zq [.int .u32 0] [0, 4] [(0, .string sep), (4, .int .u32 0)] ?_
 refine Zs ?_
 refine Zs ?_
 refine Zq [iV 0] [0, 4, 5] [(0, .string sep), (4, .int .u32 0), (5, iV 0)] ?_
 obtain ⟨x1, gx1, hF⟩ := M.bind_some hF
 obtain ⟨hloy1, hhiy1, gx1⟩ := M.for_start gx1
 refine Run_join (fun L' h' => L' = [(0, .string sep), (4, .int .u32 x1)] ∧ h = h') ?_ ?_
 ·rintro _ _ ⟨rfl, rfl⟩
  refine Zs ?_
  refine Zq [.int .u32 1, .int .u32 16777619] [0, 4, 6, 7] [(0, .string sep), (4, .int .u32 x1), (6, .int .u32 1), (7, .int .u32 16777619)] ?_
  refine Zs ?_
  refine Zs ?_
  refine Zq [.string sep, iV (sep.size : Int), iV (sep.size : Int)] [4, 6, 7, 8] [(4, .int .u32 x1), (6, .int .u32 1), (7, .int .u32 16777619), (8, iV (sep.size : Int))] ?_
  obtain ⟨x3, gx3, hF⟩ := M.bind_some hF
  refine Run_join (fun L' h' => L' = [(4, .int .u32 x1), (6, .int .u32 x3.1)] ∧ h = h') ?_ ?_
  ·rintro _ _ ⟨rfl, rfl⟩
   refine Zs ?_
   refine Zq [.int .u32 x1, .int .u32 x3.1, .int .u32 x1, .int .u32 x3.1] [2, 3] [(2, .int .u32 x1), (3, .int .u32 x3.1)] ?_
   have hF := M.ret_some hF
   subst hF
   exact Run_ret2 rfl (Zt (.int .u32 x1)) (Zt (.int .u32 x3.1)) ⟨rfl, rfl⟩
  ·refine Run_block ?_
   refine Zk [4, 6, 7, 8] [(4, .int .u32 x1), (6, .int .u32 1), (7, .int .u32 16777619), (8, iV (sep.size : Int))] ?_
   refine Run_loop (fun m L' h' => ∃ (s2 : Int × Int × Int), M.loopN _ n m s2 = some x3 ∧ L' = [(4, .int .u32 x1), (6, .int .u32 s2.1), (7, .int .u32 s2.2.1), (8, iV s2.2.2)] ∧ h = h') n ⟨(1, 16777619, (sep.size : Int)), gx3, rfl, rfl⟩ ?_
   rintro my2 _ _ ⟨s2, gx3, rfl, rfl⟩
   obtain ⟨my2, y2, rfl, hB2, hgoy2, houty2⟩ := M.loop_some gx3
   refine Zs ?_
   refine Zs ?_
   refine Zq [iV s2.2.2, .bool (decide (0 < s2.2.2))] [4, 6, 7, 8, 25] [(4, .int .u32 x1), (6, .int .u32 s2.1), (7, .int .u32 s2.2.1), (8, iV s2.2.2), (25, .bool (decide (0 < s2.2.2)))] ?_
   refine Zc (decide (0 < s2.2.2)) (fun hb2 => ?_) (fun hb2 => ?_)
   ·have hB2 := (M.ite_some hB2).1 hb2
    refine Run_skip ?_
    refine Zs ?_
    refine Run_block ?_
    refine Zs ?_
    refine Zs ?_
    refine Zq [iV s2.2.2, iV (ibit .and .i64 s2.2.2 1), .bool ((ibit .and .i64 s2.2.2 1) != 0)] [4, 6, 7, 8, 30] [(4, .int .u32 x1), (6, .int .u32 s2.1), (7, .int .u32 s2.2.1), (8, iV s2.2.2), (30, .bool ((ibit .and .i64 s2.2.2 1) != 0))] ?_
    obtain ⟨s3, gs3, hB2⟩ := M.bind_some hB2
    refine Run_join (fun L' h' => L' = [(4, .int .u32 x1), (6, .int .u32 s3), (7, .int .u32 s2.2.1), (8, iV s2.2.2)] ∧ h = h') ?_ ?_
    ·rintro _ _ ⟨rfl, rfl⟩
     refine Zq [.int .u32 s2.2.1, .int .u32 s2.2.1, .int .u32 (IntKind.u32.wrap (s2.2.1 * s2.2.1)), .int .u32 (IntKind.u32.wrap (s2.2.1 * s2.2.1))] [4, 6, 7, 8] [(4, .int .u32 x1), (6, .int .u32 s3), (7, .int .u32 (IntKind.u32.wrap (s2.2.1 * s2.2.1))), (8, iV s2.2.2)] ?_
     refine Run_blk ?_
     obtain ⟨u1, hz1, hB2⟩ := M.bind_some hB2
     have hz1 := M.guard_some hz1
     refine Zg 3 [(4, .int .u32 x1), (6, .int .u32 s3), (7, .int .u32 (IntKind.u32.wrap (s2.2.1 * s2.2.1))), (8, iV (ishr .i64 s2.2.2 1))] ?_ ?_
     ·refine Zb [iV s2.2.2] 0 ?_
      refine Zy (iV (ishr .i64 s2.2.2 1)) (Y_shr (k := .i64) (x := s2.2.2) (kk := .u64) (y := 1) (by kernel_rfl) hz1) ?_
      refine Zb [iV (ishr .i64 s2.2.2 1)] 2 ?_
      exact Zd [4, 6, 7, 8]
     have hB2 := M.ret_some hB2
     have gx3 := hgoy2 _ hB2.symm
     exact Za [4, 6, 7, 8] my2 ⟨(s3, (IntKind.u32.wrap (s2.2.1 * s2.2.1)), (ishr .i64 s2.2.2 1)), gx3, rfl, rfl⟩
    ·refine Zc ((ibit .and .i64 s2.2.2 1) != 0) (fun hb3 => ?_) (fun hb3 => ?_)
     ·have gs3 := (M.ite_some gs3).1 hb3
      refine Zq [.int .u32 s2.1, .int .u32 s2.2.1, .int .u32 (IntKind.u32.wrap (s2.1 * s2.2.1)), .int .u32 (IntKind.u32.wrap (s2.1 * s2.2.1))] [4, 6, 7, 8] [(4, .int .u32 x1), (6, .int .u32 (IntKind.u32.wrap (s2.1 * s2.2.1))), (7, .int .u32 s2.2.1), (8, iV s2.2.2)] ?_
      have gs3 := M.ret_some gs3
      subst gs3
      exact Zf [4, 6, 7, 8] ⟨rfl, rfl⟩
     ·have gs3 := (M.ite_some gs3).2 hb3
      refine Run_skip ?_
      have gs3 := M.ret_some gs3
      subst gs3
      exact Zf [4, 6, 7, 8] ⟨rfl, rfl⟩
   ·have hB2 := (M.ite_some hB2).2 hb2
    refine Run_exit (k' := _) rfl ?_
    have hB2 := M.ret_some hB2
    have gx3 := houty2 _ hB2.symm
    subst gx3
    exact Zf [4, 6] ⟨rfl, rfl⟩
 ·refine Run_block ?_
  refine Zk [0, 4, 5] [(0, .string sep), (4, .int .u32 0), (5, iV 0)] ?_
  refine Run_loop (fun m L' h' => ∃ (i1 : Int) (s1 : Int), 0 ≤ i1 ∧ M.forN (sep.size : Int) _ _ n m i1 s1 = some x1 ∧ L' = [(0, .string sep), (4, .int .u32 s1), (5, iV i1)] ∧ h = h') ((sep.size : Int) - 0 : Int).toNat ⟨0, 0, Int.le_refl _, gx1, rfl, rfl⟩ ?_
  rintro my1 _ _ ⟨i1, s1, hloy1', gx1, rfl, rfl⟩
  refine Zs ?_
  refine Zs ?_
  refine Zq [iV i1, .string sep, iV (sep.size : Int), .bool (decide (i1 < (sep.size : Int)))] [0, 4, 5, 12] [(0, .string sep), (4, .int .u32 s1), (5, iV i1), (12, .bool (decide (i1 < (sep.size : Int))))] ?_
  refine Zc (decide (i1 < (sep.size : Int))) (fun hb1 => ?_) (fun hb1 => ?_)
  ·obtain ⟨my1, y1, rfl, hB1, hgoy1, houty1⟩ := M.for_go gx1 hb1
   have hlty1 := of_decide_eq_true hb1
   refine Run_skip ?_
   refine Zs ?_
   refine Run_block ?_
   obtain ⟨x2, hx1, hB1⟩ := M.bind_some hB1
   refine Zg 8 [(0, .string sep), (4, .int .u32 (IntKind.u32.wrap ((IntKind.u32.wrap (s1 * 16777619)) + (IntKind.u32.wrap (x2))))), (5, iV i1)] ?_ ?_
   ·refine Zb [.int .u32 s1, .int .u32 (IntKind.u32.wrap (s1 * 16777619)), .string sep, iV i1] 0 ?_
    refine Zy (.int .u8 x2) (Y_sidx (kk := .i64) hx1 Tryd.underlying9 (by kernel_rfl)) ?_
    refine Zb [.int .u32 (IntKind.u32.wrap (x2)), .int .u32 (IntKind.u32.wrap ((IntKind.u32.wrap (s1 * 16777619)) + (IntKind.u32.wrap (x2)))), .int .u32 (IntKind.u32.wrap ((IntKind.u32.wrap (s1 * 16777619)) + (IntKind.u32.wrap (x2))))] 5 ?_
    exact Zd [0, 4, 5]
   refine Run_blk ?_
   refine Zg 3 [(0, .string sep), (4, .int .u32 (IntKind.u32.wrap ((IntKind.u32.wrap (s1 * 16777619)) + (IntKind.u32.wrap (x2))))), (5, iV (i1 + 1))] ?_ ?_
   ·refine Zb [iV i1] 0 ?_
    refine Zy (iV (i1 + 1)) (Y_eq (v := iV (w64 (i1 + 1))) (Y_pure (fun w => by kernel_rfl)) (by rw [w64_eq _ (by omega)])) ?_
    refine Zb [iV (i1 + 1)] 2 ?_
    exact Zd [0, 4, 5]
   have hB1 := M.ret_some hB1
   have gx1 := hgoy1 _ hB1.symm
   exact Za [0, 4, 5] my1 ⟨i1 + 1, (IntKind.u32.wrap ((IntKind.u32.wrap (s1 * 16777619)) + (IntKind.u32.wrap (x2)))), by omega, gx1, rfl, rfl⟩
  ·have gx1 := M.for_end gx1 hb1
   subst gx1
   refine Run_exit (k' := _) rfl ?_
   exact Zf [0, 4] ⟨rfl, rfl⟩

theorem w_internal_bytealg_IndexRabinKarp_string_ (h : Heap) (s_ : ByteArray) (sep : ByteArray) (n : Nat) (r : Int) (hF : internal_bytealg_IndexRabinKarp_string_ s_ sep n = some r) :
  Fn Tryd.prog 86 #[.string s_, .string sep] h fun v h' => v = iV r ∧ h' = h := by
 unfold internal_bytealg_IndexRabinKarp_string_ at hF
 refine Zo [.string s_, .string sep] Tryd.func86 rfl (fun w0 _ => ?_)
 refine Zs ?_
 refine Zq [iV 0] [0, 1] [(0, .string s_), (1, .string sep)] ?_
 refine Zs ?_
 obtain ⟨x1, hx1, hF⟩ := M.bind_some hF
 refine Zg 7 [(0, .string s_), (1, .string sep), (5, .int .u32 x1.1), (6, .int .u32 x1.2)] ?_ ?_
 ·refine Zb [.string sep] 0 ?_
  refine Zy (.tuple #[.int .u32 x1.1, .int .u32 x1.2]) (ZQ 95 #[.string sep] (w_internal_bytealg_hashStr_string_ h sep _ _ hx1)) ?_
  refine Zb [.tuple #[.int .u32 x1.1, .int .u32 x1.2], .int .u32 x1.1, .int .u32 x1.2, .int .u32 x1.1, .int .u32 x1.2] 2 ?_
  exact Zd [0, 1, 5, 6]
 refine Zs ?_
 refine Zq [.string sep, iV (sep.size : Int), iV (sep.size : Int)] [0, 1, 5, 6, 7] [(0, .string s_), (1, .string sep), (5, .int .u32 x1.1), (6, .int .u32 x1.2), (7, iV (sep.size : Int))] ?_
 refine Zs ?_
 refine Zq [.int .u32 0] [0, 1, 5, 6, 7, 8] [(0, .string s_), (1, .string sep), (5, .int .u32 x1.1), (6, .int .u32 x1.2), (7, iV (sep.size : Int)), (8, .int .u32 0)] ?_
 refine Zs ?_
 refine Zs ?_
 refine Zq [iV 0] [0, 1, 5, 6, 7, 8, 9] [(0, .string s_), (1, .string sep), (5, .int .u32 x1.1), (6, .int .u32 x1.2), (7, iV (sep.size : Int)), (8, .int .u32 0), (9, iV 0)] ?_
 obtain ⟨x2, gx2, hF⟩ := M.bind_some hF
 obtain ⟨hloy1, hhiy1, gx2⟩ := M.for_start gx2
 refine Run_join (fun L' h' => L' = [(0, .string s_), (1, .string sep), (5, .int .u32 x1.1), (6, .int .u32 x1.2), (7, iV (sep.size : Int)), (8, .int .u32 x2)] ∧ h = h') ?_ ?_
 ·rintro _ _ ⟨rfl, rfl⟩
  refine Zs ?_
  refine Zs ?_
  obtain ⟨x4, gx4, hF⟩ := M.bind_some hF
  refine Zg 10 [(0, .string s_), (1, .string sep), (5, .int .u32 x1.1), (6, .int .u32 x1.2), (7, iV (sep.size : Int)), (8, .int .u32 x2), (39, .bool x4)] ?_ ?_
  ·refine Zb [.int .u32 x2, .int .u32 x1.1, .bool (x2 == x1.1)] 0 ?_
   refine QRun_seq 10 [(0, .string s_), (1, .string sep), (5, .int .u32 x1.1), (6, .int .u32 x1.2), (7, iV (sep.size : Int)), (8, .int .u32 x2), (39, .bool x4)] ?_ ?_
   ·rcases Bool.eq_false_or_eq_true (x2 == x1.1) with hb2 | hb2
    ·refine Zv (x2 == x1.1) true hb2 ?_
     have gx4 := (M.ite_some gx4).1 hb2
     obtain ⟨x5, hx3, gx4⟩ := M.bind_some gx4
     have gx4 := M.ret_some gx4
     refine Zb [.string s_, iV (sep.size : Int)] 4 ?_
     refine Zy (.string x5) (Y_ssub (lo := none) (hi := (some (.i64, (sep.size : Int)))) hx3 rfl rfl Tryd.underlying9 (by kernel_rfl)) ?_
     refine Zb [.string sep, .bool (x5.toList == sep.toList)] 7 ?_
     refine Zv (x5.toList == sep.toList) x4 gx4 ?_
     exact Zd [0, 1, 5, 6, 7, 8, 39]
    ·refine Zv (x2 == x1.1) false hb2 ?_
     have gx4 := M.ret_some ((M.ite_some gx4).2 hb2)
     refine Zn ?_
     refine Zn ?_
     refine Zn ?_
     refine Zn ?_
     refine Zn ?_
     refine Zv false x4 gx4 ?_
     exact Zd [0, 1, 5, 6, 7, 8, 39]
   exact Zd [0, 1, 5, 6, 7, 8, 39]
  refine Zc (x4) (fun hb3 => ?_) (fun hb3 => ?_)
  ·have hF := (M.ite_some hF).1 hb3
   refine Zs ?_
   refine Zq [iV 0] [4] [(4, iV 0)] ?_
   have hF := M.ret_some hF
   subst hF
   exact Run_ret1 rfl (Zt (iV 0)) ⟨rfl, rfl⟩
  ·have hF := (M.ite_some hF).2 hb3
   refine Run_skip ?_
   refine Zs ?_
   refine Zs ?_
   refine Zq [iV (sep.size : Int), iV (sep.size : Int)] [0, 1, 5, 6, 7, 8, 10] [(0, .string s_), (1, .string sep), (5, .int .u32 x1.1), (6, .int .u32 x1.2), (7, iV (sep.size : Int)), (8, .int .u32 x2), (10, iV (sep.size : Int))] ?_
   obtain ⟨x6, gx6, hF⟩ := M.bind_some hF
   refine Run_join (fun L' h' => ∃ (s3 : Int × Int), x6 = .inl s3 ∧ L' = [] ∧ h = h') ?_ ?_
   ·rintro _ _ ⟨s3, es3, rfl, rfl⟩
    have hF := M.cont_inl' hF es3
    refine Zs ?_
    refine Zq [iV (-1)] [4] [(4, iV (-1))] ?_
    have hF := M.ret_some hF
    subst hF
    exact Run_ret1 rfl (Zt (iV (-1))) ⟨rfl, rfl⟩
   ·refine Run_block ?_
    refine Zk [0, 1, 5, 6, 7, 8, 10] [(0, .string s_), (1, .string sep), (5, .int .u32 x1.1), (6, .int .u32 x1.2), (7, iV (sep.size : Int)), (8, .int .u32 x2), (10, iV (sep.size : Int))] ?_
    refine Run_loop (fun m L' h' => ∃ (s2 : Int × Int), M.loopN _ n m s2 = some x6 ∧ L' = [(0, .string s_), (1, .string sep), (5, .int .u32 x1.1), (6, .int .u32 x1.2), (7, iV (sep.size : Int)), (8, .int .u32 s2.1), (10, iV s2.2)] ∧ h = h') n ⟨(x2, (sep.size : Int)), gx6, rfl, rfl⟩ ?_
    rintro my2 _ _ ⟨s2, gx6, rfl, rfl⟩
    obtain ⟨my2, y2, rfl, hB2, hgoy2, houty2⟩ := M.loop_some gx6
    refine Zs ?_
    refine Zs ?_
    refine Zq [iV s2.2, .string s_, iV (s_.size : Int), .bool (decide (s2.2 < (s_.size : Int)))] [0, 1, 5, 6, 7, 8, 10, 44] [(0, .string s_), (1, .string sep), (5, .int .u32 x1.1), (6, .int .u32 x1.2), (7, iV (sep.size : Int)), (8, .int .u32 s2.1), (10, iV s2.2), (44, .bool (decide (s2.2 < (s_.size : Int))))] ?_
    refine Zc (decide (s2.2 < (s_.size : Int))) (fun hb4 => ?_) (fun hb4 => ?_)
    ·have hB2 := (M.ite_some hB2).1 hb4
     refine Run_skip ?_
     refine Run_block ?_
     refine Zs ?_
     refine Zq [.int .u32 s2.1, .int .u32 (IntKind.u32.wrap (s2.1 * 16777619)), .int .u32 (IntKind.u32.wrap (s2.1 * 16777619))] [0, 1, 5, 6, 7, 8, 10] [(0, .string s_), (1, .string sep), (5, .int .u32 x1.1), (6, .int .u32 x1.2), (7, iV (sep.size : Int)), (8, .int .u32 (IntKind.u32.wrap (s2.1 * 16777619))), (10, iV s2.2)] ?_
     refine Zs ?_
     obtain ⟨x7, hx4, hB2⟩ := M.bind_some hB2
     refine Zg 7 [(0, .string s_), (1, .string sep), (5, .int .u32 x1.1), (6, .int .u32 x1.2), (7, iV (sep.size : Int)), (8, .int .u32 (IntKind.u32.wrap ((IntKind.u32.wrap (s2.1 * 16777619)) + (IntKind.u32.wrap (x7))))), (10, iV s2.2)] ?_ ?_
     ·refine Zb [.int .u32 (IntKind.u32.wrap (s2.1 * 16777619)), .string s_, iV s2.2] 0 ?_
      refine Zy (.int .u8 x7) (Y_sidx (kk := .i64) hx4 Tryd.underlying9 (by kernel_rfl)) ?_
      refine Zb [.int .u32 (IntKind.u32.wrap (x7)), .int .u32 (IntKind.u32.wrap ((IntKind.u32.wrap (s2.1 * 16777619)) + (IntKind.u32.wrap (x7)))), .int .u32 (IntKind.u32.wrap ((IntKind.u32.wrap (s2.1 * 16777619)) + (IntKind.u32.wrap (x7))))] 4 ?_
      exact Zd [0, 1, 5, 6, 7, 8, 10]
     refine Zs ?_
     obtain ⟨x8, hx5, hB2⟩ := M.bind_some hB2
     refine Zg 11 [(0, .string s_), (1, .string sep), (5, .int .u32 x1.1), (6, .int .u32 x1.2), (7, iV (sep.size : Int)), (8, .int .u32 (IntKind.u32.wrap ((IntKind.u32.wrap ((IntKind.u32.wrap (s2.1 * 16777619)) + (IntKind.u32.wrap (x7)))) - (IntKind.u32.wrap (x1.2 * (IntKind.u32.wrap (x8))))))), (10, iV s2.2)] ?_ ?_
     ·refine Zb [.int .u32 (IntKind.u32.wrap ((IntKind.u32.wrap (s2.1 * 16777619)) + (IntKind.u32.wrap (x7)))), .int .u32 x1.2, .string s_, iV s2.2, iV (sep.size : Int), iV (w64 (s2.2 - (sep.size : Int)))] 0 ?_
      refine Zy (.int .u8 x8) (Y_sidx (kk := .i64) hx5 Tryd.underlying9 (by kernel_rfl)) ?_
      refine Zb [.int .u32 (IntKind.u32.wrap (x8)), .int .u32 (IntKind.u32.wrap (x1.2 * (IntKind.u32.wrap (x8)))), .int .u32 (IntKind.u32.wrap ((IntKind.u32.wrap ((IntKind.u32.wrap (s2.1 * 16777619)) + (IntKind.u32.wrap (x7)))) - (IntKind.u32.wrap (x1.2 * (IntKind.u32.wrap (x8)))))), .int .u32 (IntKind.u32.wrap ((IntKind.u32.wrap ((IntKind.u32.wrap (s2.1 * 16777619)) + (IntKind.u32.wrap (x7)))) - (IntKind.u32.wrap (x1.2 * (IntKind.u32.wrap (x8))))))] 7 ?_
      exact Zd [0, 1, 5, 6, 7, 8, 10]
     refine Zs ?_
     refine Zq [iV s2.2, iV (w64 (s2.2 + 1)), iV (w64 (s2.2 + 1))] [0, 1, 5, 6, 7, 8, 10] [(0, .string s_), (1, .string sep), (5, .int .u32 x1.1), (6, .int .u32 x1.2), (7, iV (sep.size : Int)), (8, .int .u32 (IntKind.u32.wrap ((IntKind.u32.wrap ((IntKind.u32.wrap (s2.1 * 16777619)) + (IntKind.u32.wrap (x7)))) - (IntKind.u32.wrap (x1.2 * (IntKind.u32.wrap (x8))))))), (10, iV (w64 (s2.2 + 1)))] ?_
     refine Zs ?_
     obtain ⟨x9, gx9, hB2⟩ := M.bind_some hB2
     refine Zg 13 [(0, .string s_), (1, .string sep), (5, .int .u32 x1.1), (6, .int .u32 x1.2), (7, iV (sep.size : Int)), (8, .int .u32 (IntKind.u32.wrap ((IntKind.u32.wrap ((IntKind.u32.wrap (s2.1 * 16777619)) + (IntKind.u32.wrap (x7)))) - (IntKind.u32.wrap (x1.2 * (IntKind.u32.wrap (x8))))))), (10, iV (w64 (s2.2 + 1))), (77, .bool x9)] ?_ ?_
     ·refine Zb [.int .u32 (IntKind.u32.wrap ((IntKind.u32.wrap ((IntKind.u32.wrap (s2.1 * 16777619)) + (IntKind.u32.wrap (x7)))) - (IntKind.u32.wrap (x1.2 * (IntKind.u32.wrap (x8)))))), .int .u32 x1.1, .bool ((IntKind.u32.wrap ((IntKind.u32.wrap ((IntKind.u32.wrap (s2.1 * 16777619)) + (IntKind.u32.wrap (x7)))) - (IntKind.u32.wrap (x1.2 * (IntKind.u32.wrap (x8)))))) == x1.1)] 0 ?_
      refine QRun_seq 13 [(0, .string s_), (1, .string sep), (5, .int .u32 x1.1), (6, .int .u32 x1.2), (7, iV (sep.size : Int)), (8, .int .u32 (IntKind.u32.wrap ((IntKind.u32.wrap ((IntKind.u32.wrap (s2.1 * 16777619)) + (IntKind.u32.wrap (x7)))) - (IntKind.u32.wrap (x1.2 * (IntKind.u32.wrap (x8))))))), (10, iV (w64 (s2.2 + 1))), (77, .bool x9)] ?_ ?_
      ·rcases Bool.eq_false_or_eq_true ((IntKind.u32.wrap ((IntKind.u32.wrap ((IntKind.u32.wrap (s2.1 * 16777619)) + (IntKind.u32.wrap (x7)))) - (IntKind.u32.wrap (x1.2 * (IntKind.u32.wrap (x8)))))) == x1.1) with hb5 | hb5
       ·refine Zv ((IntKind.u32.wrap ((IntKind.u32.wrap ((IntKind.u32.wrap (s2.1 * 16777619)) + (IntKind.u32.wrap (x7)))) - (IntKind.u32.wrap (x1.2 * (IntKind.u32.wrap (x8)))))) == x1.1) true hb5 ?_
        have gx9 := (M.ite_some gx9).1 hb5
        obtain ⟨x10, hx6, gx9⟩ := M.bind_some gx9
        have gx9 := M.ret_some gx9
        refine Zb [.string s_, iV (w64 (s2.2 + 1)), iV (sep.size : Int), iV (w64 ((w64 (s2.2 + 1)) - (sep.size : Int))), iV (w64 (s2.2 + 1))] 4 ?_
        refine Zy (.string x10) (Y_ssub (lo := (some (.i64, w64 ((w64 (s2.2 + 1)) - (sep.size : Int))))) (hi := (some (.i64, w64 (s2.2 + 1)))) hx6 rfl rfl Tryd.underlying9 (by kernel_rfl)) ?_
        refine Zb [.string sep, .bool (x10.toList == sep.toList)] 10 ?_
        refine Zv (x10.toList == sep.toList) x9 gx9 ?_
        exact Zd [0, 1, 5, 6, 7, 8, 10, 77]
       ·refine Zv ((IntKind.u32.wrap ((IntKind.u32.wrap ((IntKind.u32.wrap (s2.1 * 16777619)) + (IntKind.u32.wrap (x7)))) - (IntKind.u32.wrap (x1.2 * (IntKind.u32.wrap (x8)))))) == x1.1) false hb5 ?_
        have gx9 := M.ret_some ((M.ite_some gx9).2 hb5)
        refine Zn ?_
        refine Zn ?_
        refine Zn ?_
        refine Zn ?_
        refine Zn ?_
        refine Zn ?_
        refine Zn ?_
        refine Zn ?_
        refine Zv false x9 gx9 ?_
        exact Zd [0, 1, 5, 6, 7, 8, 10, 77]
      exact Zd [0, 1, 5, 6, 7, 8, 10, 77]
     refine Zc (x9) (fun hb6 => ?_) (fun hb6 => ?_)
     ·have hB2 := (M.ite_some hB2).1 hb6
      refine Zs ?_
      refine Zq [iV (w64 (s2.2 + 1)), iV (sep.size : Int), iV (w64 ((w64 (s2.2 + 1)) - (sep.size : Int))), iV (w64 ((w64 (s2.2 + 1)) - (sep.size : Int)))] [4] [(4, iV (w64 ((w64 (s2.2 + 1)) - (sep.size : Int))))] ?_
      have hB2 := M.ret_some hB2
      have gx6 := houty2 _ hB2.symm
      have hF := M.cont_inr' hF gx6
      have hF := M.ret_some hF
      subst hF
      exact Run_ret1 rfl (Zt (iV (w64 ((w64 (s2.2 + 1)) - (sep.size : Int))))) ⟨rfl, rfl⟩
     ·have hB2 := (M.ite_some hB2).2 hb6
      refine Run_skip ?_
      refine Run_blk ?_
      have hB2 := M.ret_some hB2
      have gx6 := hgoy2 _ hB2.symm
      exact Za [0, 1, 5, 6, 7, 8, 10] my2 ⟨((IntKind.u32.wrap ((IntKind.u32.wrap ((IntKind.u32.wrap (s2.1 * 16777619)) + (IntKind.u32.wrap (x7)))) - (IntKind.u32.wrap (x1.2 * (IntKind.u32.wrap (x8)))))), (w64 (s2.2 + 1))), gx6, rfl, rfl⟩
    ·have hB2 := (M.ite_some hB2).2 hb4
     refine Run_exit (k' := _) rfl ?_
     have hB2 := M.ret_some hB2
     have gx6 := houty2 _ hB2.symm
     subst gx6
     exact Zf [] ⟨(s2.1, s2.2), rfl, rfl, rfl⟩
 ·refine Run_block ?_
  refine Zk [0, 1, 5, 6, 7, 8, 9] [(0, .string s_), (1, .string sep), (5, .int .u32 x1.1), (6, .int .u32 x1.2), (7, iV (sep.size : Int)), (8, .int .u32 0), (9, iV 0)] ?_
  refine Run_loop (fun m L' h' => ∃ (i1 : Int) (s1 : Int), 0 ≤ i1 ∧ M.forN (sep.size : Int) _ _ n m i1 s1 = some x2 ∧ L' = [(0, .string s_), (1, .string sep), (5, .int .u32 x1.1), (6, .int .u32 x1.2), (7, iV (sep.size : Int)), (8, .int .u32 s1), (9, iV i1)] ∧ h = h') ((sep.size : Int) - 0 : Int).toNat ⟨0, 0, Int.le_refl _, gx2, rfl, rfl⟩ ?_
  rintro my1 _ _ ⟨i1, s1, hloy1', gx2, rfl, rfl⟩
  refine Zs ?_
  refine Zs ?_
  refine Zq [iV i1, iV (sep.size : Int), .bool (decide (i1 < (sep.size : Int)))] [0, 1, 5, 6, 7, 8, 9, 20] [(0, .string s_), (1, .string sep), (5, .int .u32 x1.1), (6, .int .u32 x1.2), (7, iV (sep.size : Int)), (8, .int .u32 s1), (9, iV i1), (20, .bool (decide (i1 < (sep.size : Int))))] ?_
  refine Zc (decide (i1 < (sep.size : Int))) (fun hb1 => ?_) (fun hb1 => ?_)
  ·obtain ⟨my1, y1, rfl, hB1, hgoy1, houty1⟩ := M.for_go gx2 hb1
   have hlty1 := of_decide_eq_true hb1
   refine Run_skip ?_
   refine Zs ?_
   refine Run_block ?_
   obtain ⟨x3, hx2, hB1⟩ := M.bind_some hB1
   refine Zg 8 [(0, .string s_), (1, .string sep), (5, .int .u32 x1.1), (6, .int .u32 x1.2), (7, iV (sep.size : Int)), (8, .int .u32 (IntKind.u32.wrap ((IntKind.u32.wrap (s1 * 16777619)) + (IntKind.u32.wrap (x3))))), (9, iV i1)] ?_ ?_
   ·refine Zb [.int .u32 s1, .int .u32 (IntKind.u32.wrap (s1 * 16777619)), .string s_, iV i1] 0 ?_
    refine Zy (.int .u8 x3) (Y_sidx (kk := .i64) hx2 Tryd.underlying9 (by kernel_rfl)) ?_
    refine Zb [.int .u32 (IntKind.u32.wrap (x3)), .int .u32 (IntKind.u32.wrap ((IntKind.u32.wrap (s1 * 16777619)) + (IntKind.u32.wrap (x3)))), .int .u32 (IntKind.u32.wrap ((IntKind.u32.wrap (s1 * 16777619)) + (IntKind.u32.wrap (x3))))] 5 ?_
    exact Zd [0, 1, 5, 6, 7, 8, 9]
   refine Run_blk ?_
   refine Zg 3 [(0, .string s_), (1, .string sep), (5, .int .u32 x1.1), (6, .int .u32 x1.2), (7, iV (sep.size : Int)), (8, .int .u32 (IntKind.u32.wrap ((IntKind.u32.wrap (s1 * 16777619)) + (IntKind.u32.wrap (x3))))), (9, iV (i1 + 1))] ?_ ?_
   ·refine Zb [iV i1] 0 ?_
    refine Zy (iV (i1 + 1)) (Y_eq (v := iV (w64 (i1 + 1))) (Y_pure (fun w => by kernel_rfl)) (by rw [w64_eq _ (by omega)])) ?_
    refine Zb [iV (i1 + 1)] 2 ?_
    exact Zd [0, 1, 5, 6, 7, 8, 9]
   have hB1 := M.ret_some hB1
   have gx2 := hgoy1 _ hB1.symm
   exact Za [0, 1, 5, 6, 7, 8, 9] my1 ⟨i1 + 1, (IntKind.u32.wrap ((IntKind.u32.wrap (s1 * 16777619)) + (IntKind.u32.wrap (x3)))), by omega, gx2, rfl, rfl⟩
  ·have gx2 := M.for_end gx2 hb1
   subst gx2
   refine Run_exit (k' := _) rfl ?_
   exact Zf [0, 1, 5, 6, 7, 8] ⟨rfl, rfl⟩

theorem w_strings_Split (h : Heap) (gl : Gl Tryd.prog h) (s_ : ByteArray) (sep : ByteArray) (n : Nat) (r : List ByteArray) (hF : strings_Split s_ sep n = some r) :
  Fn Tryd.prog 31 #[.string s_, .string sep] h fun v h' => ∃ (a0 : Option Addr) (c0 : Nat), v = .slice a0 r.length c0 ∧ Hold h h' [own cd9 a0 r.length c0 r] := by
 obtain ⟨u, hu, hF⟩ := M.bind_some hF
 have hu := M.guard_some hu
 simp only [Bool.and_eq_true, decide_eq_true_eq] at hu
 have hF := M.ret_some hF
 subst hF
 exact Fn_split laySplit rfl (by kernel_rfl) (by kernel_rfl) (by kernel_rfl) rfl rfl (fun h x => cd9_own x h) gl hu.1 hu.2

theorem w_internal_strconv_lower (h : Heap) (c_ : Int) (n : Nat) (r : Int) (hF : internal_strconv_lower c_ n = some r) :
  Fn Tryd.prog 87 #[.int .u8 c_] h fun v h' => v = .int .u8 r ∧ h' = h := by
 unfold internal_strconv_lower at hF
 refine Zo [.int .u8 c_] Tryd.func87 rfl (fun w0 _ => ?_)
 refine Zs ?_
 refine Zq [.int .u8 0] [0] [(0, .int .u8 c_)] ?_
 refine Zs ?_
 refine Zq [.int .u8 c_, .int .u8 (ibit .or .u8 c_ 32), .int .u8 (ibit .or .u8 c_ 32)] [2] [(2, .int .u8 (ibit .or .u8 c_ 32))] ?_
 have hF := M.ret_some hF
 subst hF
 exact Run_ret1 rfl (Zt (.int .u8 (ibit .or .u8 c_ 32))) ⟨rfl, rfl⟩

theorem w_internal_strconv_underscoreOK (h : Heap) (s_ : ByteArray) (n : Nat) (r : Bool) (hF : internal_strconv_underscoreOK s_ n = some r) :
  Fn Tryd.prog 88 #[.string s_] h fun v h' => v = .bool r ∧ h' = h := by
 unfold internal_strconv_underscoreOK at hF
 refine Zo [.string s_] Tryd.func88 rfl (fun w0 _ => ?_)
 refine Zs ?_
 refine Zq [.bool false] [0] [(0, .string s_)] ?_
 refine Zs ?_
 refine Zq [.int .i32 94] [0, 3] [(0, .string s_), (3, .int .i32 94)] ?_
 refine Zs ?_
 refine Zq [iV 0] [0, 3, 4] [(0, .string s_), (3, .int .i32 94), (4, iV 0)] ?_
 refine Zs ?_
 refine Zs ?_
 obtain ⟨x1, gx1, hF⟩ := M.bind_some hF
 refine Zg 13 [(0, .string s_), (3, .int .i32 94), (4, iV 0), (18, .bool x1)] ?_ ?_
 ·refine Zb [.string s_, iV (s_.size : Int), .bool (decide (1 ≤ (s_.size : Int)))] 0 ?_
  refine QRun_seq 13 [(0, .string s_), (3, .int .i32 94), (4, iV 0), (18, .bool x1)] ?_ ?_
  ·rcases Bool.eq_false_or_eq_true (decide (1 ≤ (s_.size : Int))) with hb1 | hb1
   ·refine Zv (decide (1 ≤ (s_.size : Int))) true hb1 ?_
    have gx1 := (M.ite_some gx1).1 hb1
    obtain ⟨x2, hx1, gx1⟩ := M.bind_some gx1
    obtain ⟨x3, gx3, gx1⟩ := M.bind_some gx1
    have gx1 := M.ret_some gx1
    refine Zb [.string s_] 4 ?_
    refine Zy (.int .u8 x2) (Y_sidx (kk := .i64) hx1 Tryd.underlying9 (by kernel_rfl)) ?_
    refine Zb [.bool (x2 == 45)] 6 ?_
    refine QRun_seq 12 [(0, .string s_), (3, .int .i32 94), (4, iV 0), (9, .bool true), (17, .bool x3)] ?_ ?_
    ·rcases Bool.eq_false_or_eq_true (x2 == 45) with hb2 | hb2
     ·refine Zv (x2 == 45) true hb2 ?_
      have gx3 := M.ret_some ((M.ite_some gx3).1 hb2)
      refine Zn ?_
      refine Zn ?_
      refine Zn ?_
      refine Zv true x3 gx3 ?_
      exact Zd [0, 3, 4, 9, 17]
     ·refine Zv (x2 == 45) false hb2 ?_
      have gx3 := (M.ite_some gx3).2 hb2
      obtain ⟨x4, hx2, gx3⟩ := M.bind_some gx3
      have gx3 := M.ret_some gx3
      refine Zb [.string s_] 8 ?_
      refine Zy (.int .u8 x4) (Y_sidx (kk := .i64) hx2 Tryd.underlying9 (by kernel_rfl)) ?_
      refine Zb [.bool (x4 == 43)] 10 ?_
      refine Zv (x4 == 43) x3 gx3 ?_
      exact Zd [0, 3, 4, 9, 17]
    refine Zv x3 x1 gx1 ?_
    exact Zd [0, 3, 4, 18]
   ·refine Zv (decide (1 ≤ (s_.size : Int))) false hb1 ?_
    have gx1 := M.ret_some ((M.ite_some gx1).2 hb1)
    refine Zn ?_
    refine Zn ?_
    refine Zn ?_
    refine Zn ?_
    refine Zn ?_
    refine Zn ?_
    refine Zn ?_
    refine Zn ?_
    refine Zv false x1 gx1 ?_
    exact Zd [0, 3, 4, 18]
  exact Zd [0, 3, 4, 18]
 obtain ⟨s1, gs1, hF⟩ := M.bind_some hF
 refine Run_join (fun L' h' => L' = [(0, .string s1), (3, .int .i32 94), (4, iV 0)] ∧ h = h') ?_ ?_
 ·rintro _ _ ⟨rfl, rfl⟩
  refine Zs ?_
  refine Zq [.bool false] [0, 3, 4, 5] [(0, .string s1), (3, .int .i32 94), (4, iV 0), (5, .bool false)] ?_
  refine Zs ?_
  refine Zs ?_
  obtain ⟨x6, gx6, hF⟩ := M.bind_some hF
  obtain ⟨x8, gx8, hF⟩ := M.bind_some hF
  refine Zg 26 [(0, .string s1), (3, .int .i32 94), (4, iV 0), (5, .bool false), (46, .bool x8)] ?_ ?_
  ·refine Zb [.string s1, iV (s1.size : Int), .bool (decide (2 ≤ (s1.size : Int)))] 0 ?_
   refine QRun_seq 8 [(0, .string s1), (3, .int .i32 94), (4, iV 0), (5, .bool false), (28, .bool x6)] ?_ ?_
   ·rcases Bool.eq_false_or_eq_true (decide (2 ≤ (s1.size : Int))) with hb4 | hb4
    ·refine Zv (decide (2 ≤ (s1.size : Int))) true hb4 ?_
     have gx6 := (M.ite_some gx6).1 hb4
     obtain ⟨x7, hx4, gx6⟩ := M.bind_some gx6
     have gx6 := M.ret_some gx6
     refine Zb [.string s1] 4 ?_
     refine Zy (.int .u8 x7) (Y_sidx (kk := .i64) hx4 Tryd.underlying9 (by kernel_rfl)) ?_
     refine Zb [.bool (x7 == 48)] 6 ?_
     refine Zv (x7 == 48) x6 gx6 ?_
     exact Zd [0, 3, 4, 5, 28]
    ·refine Zv (decide (2 ≤ (s1.size : Int))) false hb4 ?_
     have gx6 := M.ret_some ((M.ite_some gx6).2 hb4)
     refine Zn ?_
     refine Zn ?_
     refine Zn ?_
     refine Zv false x6 gx6 ?_
     exact Zd [0, 3, 4, 5, 28]
   refine QRun_seq 26 [(0, .string s1), (3, .int .i32 94), (4, iV 0), (5, .bool false), (46, .bool x8)] ?_ ?_
   ·rcases Bool.eq_false_or_eq_true x6 with hb5 | hb5
    ·refine Zv x6 true hb5 ?_
     have gx8 := (M.ite_some gx8).1 hb5
     obtain ⟨x9, hx5, gx8⟩ := M.bind_some gx8
     obtain ⟨x10, hx6, gx8⟩ := M.bind_some gx8
     obtain ⟨x11, gx11, gx8⟩ := M.bind_some gx8
     obtain ⟨x14, gx14, gx8⟩ := M.bind_some gx8
     have gx8 := M.ret_some gx8
     refine Zb [.string s1] 9 ?_
     refine Zy (.int .u8 x9) (Y_sidx (kk := .i64) hx5 Tryd.underlying9 (by kernel_rfl)) ?_
     refine Zy (.int .u8 x10) (ZQ 87 #[.int .u8 x9] (w_internal_strconv_lower h x9 _ _ hx6)) ?_
     refine Zb [.bool (x10 == 98)] 12 ?_
     refine QRun_seq 19 [(0, .string s1), (3, .int .i32 94), (4, iV 0), (5, .bool false), (29, .bool true), (39, .bool x11)] ?_ ?_
     ·rcases Bool.eq_false_or_eq_true (x10 == 98) with hb6 | hb6
      ·refine Zv (x10 == 98) true hb6 ?_
       have gx11 := M.ret_some ((M.ite_some gx11).1 hb6)
       refine Zn ?_
       refine Zn ?_
       refine Zn ?_
       refine Zn ?_
       refine Zv true x11 gx11 ?_
       exact Zd [0, 3, 4, 5, 29, 39]
      ·refine Zv (x10 == 98) false hb6 ?_
       have gx11 := (M.ite_some gx11).2 hb6
       obtain ⟨x12, hx7, gx11⟩ := M.bind_some gx11
       obtain ⟨x13, hx8, gx11⟩ := M.bind_some gx11
       have gx11 := M.ret_some gx11
       refine Zb [.string s1] 14 ?_
       refine Zy (.int .u8 x12) (Y_sidx (kk := .i64) hx7 Tryd.underlying9 (by kernel_rfl)) ?_
       refine Zy (.int .u8 x13) (ZQ 87 #[.int .u8 x12] (w_internal_strconv_lower h x12 _ _ hx8)) ?_
       refine Zb [.bool (x13 == 111)] 17 ?_
       refine Zv (x13 == 111) x11 gx11 ?_
       exact Zd [0, 3, 4, 5, 29, 39]
     refine QRun_seq 25 [(0, .string s1), (3, .int .i32 94), (4, iV 0), (5, .bool false), (29, .bool true), (45, .bool x14)] ?_ ?_
     ·rcases Bool.eq_false_or_eq_true x11 with hb7 | hb7
      ·refine Zv x11 true hb7 ?_
       have gx14 := M.ret_some ((M.ite_some gx14).1 hb7)
       refine Zn ?_
       refine Zn ?_
       refine Zn ?_
       refine Zn ?_
       refine Zv true x14 gx14 ?_
       exact Zd [0, 3, 4, 5, 29, 45]
      ·refine Zv x11 false hb7 ?_
       have gx14 := (M.ite_some gx14).2 hb7
       obtain ⟨x15, hx9, gx14⟩ := M.bind_some gx14
       obtain ⟨x16, hx10, gx14⟩ := M.bind_some gx14
       have gx14 := M.ret_some gx14
       refine Zb [.string s1] 20 ?_
       refine Zy (.int .u8 x15) (Y_sidx (kk := .i64) hx9 Tryd.underlying9 (by kernel_rfl)) ?_
       refine Zy (.int .u8 x16) (ZQ 87 #[.int .u8 x15] (w_internal_strconv_lower h x15 _ _ hx10)) ?_
       refine Zb [.bool (x16 == 120)] 23 ?_
       refine Zv (x16 == 120) x14 gx14 ?_
       exact Zd [0, 3, 4, 5, 29, 45]
     refine Zv x14 x8 gx8 ?_
     exact Zd [0, 3, 4, 5, 46]
    ·refine Zv x6 false hb5 ?_
     have gx8 := M.ret_some ((M.ite_some gx8).2 hb5)
     refine Zn ?_
     refine Zn ?_
     refine Zn ?_
     refine Zn ?_
     refine Zn ?_
     refine Zn ?_
     refine Zn ?_
     refine Zn ?_
     refine Zn ?_
     refine Zn ?_
     refine Zn ?_
     refine Zn ?_
     refine Zn ?_
     refine Zn ?_
     refine Zn ?_
     refine Zn ?_
     refine Zv false x8 gx8 ?_
     exact Zd [0, 3, 4, 5, 46]
   exact Zd [0, 3, 4, 5, 46]
  obtain ⟨s2, gs2, hF⟩ := M.bind_some hF
  refine Run_join (fun L' h' => L' = [(0, .string s1), (3, .int .i32 s2.1), (4, iV s2.2.1), (5, .bool s2.2.2)] ∧ h = h') ?_ ?_
  ·rintro _ _ ⟨rfl, rfl⟩
   refine Zs ?_
   obtain ⟨x19, gx19, hF⟩ := M.bind_some hF
   obtain ⟨hloy1, hhiy1, gx19⟩ := M.for_start gx19
   refine Run_join (fun L' h' => ∃ (s4 : Int), x19 = .inl s4 ∧ L' = [(3, .int .i32 s4)] ∧ h = h') ?_ ?_
   ·rintro _ _ ⟨s4, es4, rfl, rfl⟩
    have hF := M.cont_inl' hF es4
    refine Zs ?_
    refine Zq [.int .i32 s4, .bool (s4 != 95), .bool (s4 != 95)] [2] [(2, .bool (s4 != 95))] ?_
    have hF := M.ret_some hF
    subst hF
    exact Run_ret1 rfl (Zt (.bool (s4 != 95))) ⟨rfl, rfl⟩
   ·refine Run_block ?_
    refine Zk [0, 3, 4, 5] [(0, .string s1), (3, .int .i32 s2.1), (4, iV s2.2.1), (5, .bool s2.2.2)] ?_
    refine Run_loop (fun m L' h' => ∃ (i1 : Int) (s3 : Int), s2.2.1 ≤ i1 ∧ M.forN (s1.size : Int) _ _ n m i1 s3 = some x19 ∧ L' = [(0, .string s1), (3, .int .i32 s3), (4, iV i1), (5, .bool s2.2.2)] ∧ h = h') ((s1.size : Int) - s2.2.1 : Int).toNat ⟨s2.2.1, s2.1, Int.le_refl _, gx19, rfl, rfl⟩ ?_
    rintro my1 _ _ ⟨i1, s3, hloy1', gx19, rfl, rfl⟩
    refine Zs ?_
    refine Zs ?_
    refine Zq [iV i1, .string s1, iV (s1.size : Int), .bool (decide (i1 < (s1.size : Int)))] [0, 3, 4, 5, 54] [(0, .string s1), (3, .int .i32 s3), (4, iV i1), (5, .bool s2.2.2), (54, .bool (decide (i1 < (s1.size : Int))))] ?_
    refine Zc (decide (i1 < (s1.size : Int))) (fun hb9 => ?_) (fun hb9 => ?_)
    ·obtain ⟨my1, y1, rfl, hB1, hgoy1, houty1⟩ := M.for_go gx19 hb9
     have hlty1 := of_decide_eq_true hb9
     refine Run_skip ?_
     refine Zs ?_
     refine Run_block ?_
     refine Zs ?_
     refine Zs ?_
     obtain ⟨x20, hx13, hB1⟩ := M.bind_some hB1
     obtain ⟨x21, gx21, hB1⟩ := M.bind_some hB1
     obtain ⟨x23, gx23, hB1⟩ := M.bind_some hB1
     refine Zg 27 [(0, .string s1), (3, .int .i32 s3), (4, iV i1), (5, .bool s2.2.2), (83, .bool x23)] ?_ ?_
     ·refine Zb [.string s1, iV i1] 0 ?_
      refine Zy (.int .u8 x20) (Y_sidx (kk := .i64) hx13 Tryd.underlying9 (by kernel_rfl)) ?_
      refine Zb [.bool (decide (48 ≤ x20))] 3 ?_
      refine QRun_seq 10 [(0, .string s1), (3, .int .i32 s3), (4, iV i1), (5, .bool s2.2.2), (66, .bool x21)] ?_ ?_
      ·rcases Bool.eq_false_or_eq_true (decide (48 ≤ x20)) with hb10 | hb10
       ·refine Zv (decide (48 ≤ x20)) true hb10 ?_
        have gx21 := (M.ite_some gx21).1 hb10
        obtain ⟨x22, hx14, gx21⟩ := M.bind_some gx21
        have gx21 := M.ret_some gx21
        refine Zb [.string s1, iV i1] 5 ?_
        refine Zy (.int .u8 x22) (Y_sidx (kk := .i64) hx14 Tryd.underlying9 (by kernel_rfl)) ?_
        refine Zb [.bool (decide (x22 ≤ 57))] 8 ?_
        refine Zv (decide (x22 ≤ 57)) x21 gx21 ?_
        exact Zd [0, 3, 4, 5, 66]
       ·refine Zv (decide (48 ≤ x20)) false hb10 ?_
        have gx21 := M.ret_some ((M.ite_some gx21).2 hb10)
        refine Zn ?_
        refine Zn ?_
        refine Zn ?_
        refine Zn ?_
        refine Zv false x21 gx21 ?_
        exact Zd [0, 3, 4, 5, 66]
      refine QRun_seq 27 [(0, .string s1), (3, .int .i32 s3), (4, iV i1), (5, .bool s2.2.2), (83, .bool x23)] ?_ ?_
      ·rcases Bool.eq_false_or_eq_true x21 with hb11 | hb11
       ·refine Zv x21 true hb11 ?_
        have gx23 := M.ret_some ((M.ite_some gx23).1 hb11)
        refine Zn ?_
        refine Zn ?_
        refine Zn ?_
        refine Zn ?_
        refine Zn ?_
        refine Zn ?_
        refine Zn ?_
        refine Zn ?_
        refine Zn ?_
        refine Zn ?_
        refine Zn ?_
        refine Zn ?_
        refine Zn ?_
        refine Zn ?_
        refine Zn ?_
        refine Zv true x23 gx23 ?_
        exact Zd [0, 3, 4, 5, 83]
       ·refine Zv x21 false hb11 ?_
        have gx23 := (M.ite_some gx23).2 hb11
        obtain ⟨x24, gx24, gx23⟩ := M.bind_some gx23
        obtain ⟨x27, gx27, gx23⟩ := M.bind_some gx23
        have gx23 := M.ret_some gx23
        refine Zb [.bool s2.2.2] 11 ?_
        refine QRun_seq 19 [(0, .string s1), (3, .int .i32 s3), (4, iV i1), (5, .bool s2.2.2), (67, .bool false), (75, .bool x24)] ?_ ?_
        ·rcases Bool.eq_false_or_eq_true s2.2.2 with hb12 | hb12
         ·refine Zv s2.2.2 true hb12 ?_
          have gx24 := (M.ite_some gx24).1 hb12
          obtain ⟨x25, hx15, gx24⟩ := M.bind_some gx24
          obtain ⟨x26, hx16, gx24⟩ := M.bind_some gx24
          have gx24 := M.ret_some gx24
          refine Zb [.string s1, iV i1] 13 ?_
          refine Zy (.int .u8 x25) (Y_sidx (kk := .i64) hx15 Tryd.underlying9 (by kernel_rfl)) ?_
          refine Zy (.int .u8 x26) (ZQ 87 #[.int .u8 x25] (w_internal_strconv_lower h x25 _ _ hx16)) ?_
          refine Zb [.bool (decide (97 ≤ x26))] 17 ?_
          refine Zv (decide (97 ≤ x26)) x24 gx24 ?_
          exact Zd [0, 3, 4, 5, 67, 75]
         ·refine Zv s2.2.2 false hb12 ?_
          have gx24 := M.ret_some ((M.ite_some gx24).2 hb12)
          refine Zn ?_
          refine Zn ?_
          refine Zn ?_
          refine Zn ?_
          refine Zn ?_
          refine Zv false x24 gx24 ?_
          exact Zd [0, 3, 4, 5, 67, 75]
        refine QRun_seq 26 [(0, .string s1), (3, .int .i32 s3), (4, iV i1), (5, .bool s2.2.2), (67, .bool false), (82, .bool x27)] ?_ ?_
        ·rcases Bool.eq_false_or_eq_true x24 with hb13 | hb13
         ·refine Zv x24 true hb13 ?_
          have gx27 := (M.ite_some gx27).1 hb13
          obtain ⟨x28, hx17, gx27⟩ := M.bind_some gx27
          obtain ⟨x29, hx18, gx27⟩ := M.bind_some gx27
          have gx27 := M.ret_some gx27
          refine Zb [.string s1, iV i1] 20 ?_
          refine Zy (.int .u8 x28) (Y_sidx (kk := .i64) hx17 Tryd.underlying9 (by kernel_rfl)) ?_
          refine Zy (.int .u8 x29) (ZQ 87 #[.int .u8 x28] (w_internal_strconv_lower h x28 _ _ hx18)) ?_
          refine Zb [.bool (decide (x29 ≤ 102))] 24 ?_
          refine Zv (decide (x29 ≤ 102)) x27 gx27 ?_
          exact Zd [0, 3, 4, 5, 67, 82]
         ·refine Zv x24 false hb13 ?_
          have gx27 := M.ret_some ((M.ite_some gx27).2 hb13)
          refine Zn ?_
          refine Zn ?_
          refine Zn ?_
          refine Zn ?_
          refine Zn ?_
          refine Zv false x27 gx27 ?_
          exact Zd [0, 3, 4, 5, 67, 82]
        refine Zv x27 x23 gx23 ?_
        exact Zd [0, 3, 4, 5, 83]
      exact Zd [0, 3, 4, 5, 83]
     refine Zc (x23) (fun hb14 => ?_) (fun hb14 => ?_)
     ·have hB1 := (M.ite_some hB1).1 hb14
      refine Zs ?_
      refine Zq [.int .i32 48] [0, 3, 4, 5] [(0, .string s1), (3, .int .i32 48), (4, iV i1), (5, .bool s2.2.2)] ?_
      refine Run_exit (k' := _) rfl ?_
      refine Zg 3 [(0, .string s1), (3, .int .i32 48), (4, iV (i1 + 1)), (5, .bool s2.2.2)] ?_ ?_
      ·refine Zb [iV i1] 0 ?_
       refine Zy (iV (i1 + 1)) (Y_eq (v := iV (w64 (i1 + 1))) (Y_pure (fun w => by kernel_rfl)) (by rw [w64_eq _ (by omega)])) ?_
       refine Zb [iV (i1 + 1)] 2 ?_
       exact Zd [0, 3, 4, 5]
      have hB1 := M.ret_some hB1
      have gx19 := hgoy1 _ hB1.symm
      exact Za [0, 3, 4, 5] my1 ⟨i1 + 1, 48, by omega, gx19, rfl, rfl⟩
     ·have hB1 := (M.ite_some hB1).2 hb14
      refine Run_skip ?_
      refine Zs ?_
      refine Zs ?_
      obtain ⟨x30, hx19, hB1⟩ := M.bind_some hB1
      refine Zg 4 [(0, .string s1), (3, .int .i32 s3), (4, iV i1), (5, .bool s2.2.2), (87, .bool (x30 == 95))] ?_ ?_
      ·refine Zb [.string s1, iV i1] 0 ?_
       refine Zy (.int .u8 x30) (Y_sidx (kk := .i64) hx19 Tryd.underlying9 (by kernel_rfl)) ?_
       refine Zb [.bool (x30 == 95)] 3 ?_
       exact Zd [0, 3, 4, 5, 87]
      refine Zc (x30 == 95) (fun hb15 => ?_) (fun hb15 => ?_)
      ·have hB1 := (M.ite_some hB1).1 hb15
       refine Zs ?_
       refine Zs ?_
       refine Zq [.int .i32 s3, .bool (s3 != 48)] [0, 4, 5, 89] [(0, .string s1), (4, iV i1), (5, .bool s2.2.2), (89, .bool (s3 != 48))] ?_
       refine Zc (s3 != 48) (fun hb16 => ?_) (fun hb16 => ?_)
       ·have hB1 := (M.ite_some hB1).1 hb16
        refine Zs ?_
        refine Zq [.bool false] [2] [(2, .bool false)] ?_
        have hB1 := M.ret_some hB1
        have gx19 := houty1 _ hB1.symm
        have hF := M.cont_inr' hF gx19
        have hF := M.ret_some hF
        subst hF
        exact Run_ret1 rfl (Zt (.bool false)) ⟨rfl, rfl⟩
       ·have hB1 := (M.ite_some hB1).2 hb16
        refine Run_skip ?_
        refine Zs ?_
        refine Zq [.int .i32 95] [0, 3, 4, 5] [(0, .string s1), (3, .int .i32 95), (4, iV i1), (5, .bool s2.2.2)] ?_
        refine Run_exit (k' := _) rfl ?_
        refine Zg 3 [(0, .string s1), (3, .int .i32 95), (4, iV (i1 + 1)), (5, .bool s2.2.2)] ?_ ?_
        ·refine Zb [iV i1] 0 ?_
         refine Zy (iV (i1 + 1)) (Y_eq (v := iV (w64 (i1 + 1))) (Y_pure (fun w => by kernel_rfl)) (by rw [w64_eq _ (by omega)])) ?_
         refine Zb [iV (i1 + 1)] 2 ?_
         exact Zd [0, 3, 4, 5]
        have hB1 := M.ret_some hB1
        have gx19 := hgoy1 _ hB1.symm
        exact Za [0, 3, 4, 5] my1 ⟨i1 + 1, 95, by omega, gx19, rfl, rfl⟩
      ·have hB1 := (M.ite_some hB1).2 hb15
       refine Run_skip ?_
       refine Zs ?_
       refine Zs ?_
       refine Zq [.int .i32 s3, .bool (s3 == 95)] [0, 4, 5, 91] [(0, .string s1), (4, iV i1), (5, .bool s2.2.2), (91, .bool (s3 == 95))] ?_
       refine Zc (s3 == 95) (fun hb17 => ?_) (fun hb17 => ?_)
       ·have hB1 := (M.ite_some hB1).1 hb17
        refine Zs ?_
        refine Zq [.bool false] [2] [(2, .bool false)] ?_
        have hB1 := M.ret_some hB1
        have gx19 := houty1 _ hB1.symm
        have hF := M.cont_inr' hF gx19
        have hF := M.ret_some hF
        subst hF
        exact Run_ret1 rfl (Zt (.bool false)) ⟨rfl, rfl⟩
       ·have hB1 := (M.ite_some hB1).2 hb17
        refine Run_skip ?_
        refine Zq [.int .i32 33] [0, 3, 4, 5] [(0, .string s1), (3, .int .i32 33), (4, iV i1), (5, .bool s2.2.2)] ?_
        refine Run_blk ?_
        refine Zg 3 [(0, .string s1), (3, .int .i32 33), (4, iV (i1 + 1)), (5, .bool s2.2.2)] ?_ ?_
        ·refine Zb [iV i1] 0 ?_
         refine Zy (iV (i1 + 1)) (Y_eq (v := iV (w64 (i1 + 1))) (Y_pure (fun w => by kernel_rfl)) (by rw [w64_eq _ (by omega)])) ?_
         refine Zb [iV (i1 + 1)] 2 ?_
         exact Zd [0, 3, 4, 5]
        have hB1 := M.ret_some hB1
        have gx19 := hgoy1 _ hB1.symm
        exact Za [0, 3, 4, 5] my1 ⟨i1 + 1, 33, by omega, gx19, rfl, rfl⟩
    ·have gx19 := M.for_end gx19 hb9
     subst gx19
     refine Run_exit (k' := _) rfl ?_
     exact Zf [3] ⟨s3, rfl, rfl, rfl⟩
  ·refine Zc (x8) (fun hb8 => ?_) (fun hb8 => ?_)
   ·have gs2 := (M.ite_some gs2).1 hb8
    refine Zs ?_
    refine Zq [iV 2] [0, 4] [(0, .string s1), (4, iV 2)] ?_
    refine Zs ?_
    refine Zq [.int .i32 48] [0, 3, 4] [(0, .string s1), (3, .int .i32 48), (4, iV 2)] ?_
    obtain ⟨x17, hx11, gs2⟩ := M.bind_some gs2
    obtain ⟨x18, hx12, gs2⟩ := M.bind_some gs2
    refine Zg 5 [(0, .string s1), (3, .int .i32 48), (4, iV 2), (5, .bool (x18 == 120))] ?_ ?_
    ·refine Zb [.string s1] 0 ?_
     refine Zy (.int .u8 x17) (Y_sidx (kk := .i64) hx11 Tryd.underlying9 (by kernel_rfl)) ?_
     refine Zy (.int .u8 x18) (ZQ 87 #[.int .u8 x17] (w_internal_strconv_lower h x17 _ _ hx12)) ?_
     refine Zb [.bool (x18 == 120), .bool (x18 == 120)] 3 ?_
     exact Zd [0, 3, 4, 5]
    have gs2 := M.ret_some gs2
    subst gs2
    exact Zf [0, 3, 4, 5] ⟨rfl, rfl⟩
   ·have gs2 := (M.ite_some gs2).2 hb8
    refine Run_skip ?_
    have gs2 := M.ret_some gs2
    subst gs2
    exact Zf [0, 3, 4, 5] ⟨rfl, rfl⟩
 ·refine Zc (x1) (fun hb3 => ?_) (fun hb3 => ?_)
  ·have gs1 := (M.ite_some gs1).1 hb3
   obtain ⟨x5, hx3, gs1⟩ := M.bind_some gs1
   refine Zg 3 [(0, .string x5), (3, .int .i32 94), (4, iV 0)] ?_ ?_
   ·refine Zb [.string s_] 0 ?_
    refine Zy (.string x5) (Y_ssub (lo := (some (.i64, 1))) (hi := none) hx3 rfl rfl Tryd.underlying9 (by kernel_rfl)) ?_
    refine Zb [.string x5] 2 ?_
    exact Zd [0, 3, 4]
   have gs1 := M.ret_some gs1
   subst gs1
   exact Zf [0, 3, 4] ⟨rfl, rfl⟩
  ·have gs1 := (M.ite_some gs1).2 hb3
   refine Run_skip ?_
   have gs1 := M.ret_some gs1
   subst gs1
   exact Zf [0, 3, 4] ⟨rfl, rfl⟩

theorem w_internal_strconv_small (h : Heap) (i : Int) (n : Nat) (r : ByteArray) (hF : internal_strconv_small i n = some r) :
  Fn Tryd.prog 64 #[iV i] h fun v h' => v = .string r ∧ h' = h := by
 unfold internal_strconv_small at hF
 refine Zo [iV i] Tryd.func64 rfl (fun w0 _ => ?_)
 refine Zs ?_
 refine Zq [.string (⟨#[]⟩ : ByteArray)] [0] [(0, iV i)] ?_
 refine Zs ?_
 refine Zs ?_
 refine Zq [iV i, .bool (decide (i < 10))] [0, 4] [(0, iV i), (4, .bool (decide (i < 10)))] ?_
 refine Zc (decide (i < 10)) (fun hb1 => ?_) (fun hb1 => ?_)
 ·have hF := (M.ite_some hF).1 hb1
  refine Zs ?_
  obtain ⟨x1, hx1, hF⟩ := M.bind_some hF
  refine Zg 5 [(2, .string x1)] ?_ ?_
  ·refine Zb [iV i, iV i, iV (w64 (i + 1))] 0 ?_
   refine Zy (.string x1) (Y_ssub (lo := (some (.i64, i))) (hi := (some (.i64, w64 (i + 1)))) hx1 rfl rfl Tryd.underlying9 (by kernel_rfl)) ?_
   refine Zb [.string x1] 4 ?_
   exact Zd [2]
  have hF := M.ret_some hF
  subst hF
  exact Run_ret1 rfl (Zt (.string x1)) ⟨rfl, rfl⟩
 ·have hF := (M.ite_some hF).2 hb1
  refine Run_skip ?_
  refine Zs ?_
  obtain ⟨x2, hx2, hF⟩ := M.bind_some hF
  refine Zg 7 [(2, .string x2)] ?_ ?_
  ·refine Zb [iV i, iV (w64 (i * 2)), iV i, iV (w64 (i * 2)), iV (w64 ((w64 (i * 2)) + 2))] 0 ?_
   refine Zy (.string x2) (Y_ssub (lo := (some (.i64, w64 (i * 2)))) (hi := (some (.i64, w64 ((w64 (i * 2)) + 2)))) hx2 rfl rfl Tryd.underlying9 (by kernel_rfl)) ?_
   refine Zb [.string x2] 6 ?_
   exact Zd [2]
  have hF := M.ret_some hF
  subst hF
  exact Run_ret1 rfl (Zt (.string x2)) ⟨rfl, rfl⟩

theorem w_math_bits_Len64 (h : Heap) (x_ : Int) (n : Nat) (r : Int) (hF : math_bits_Len64 x_ n = some r) :
  Fn Tryd.prog 78 #[.int .u64 x_] h fun v h' => v = iV r ∧ h' = h := by
 unfold math_bits_Len64 at hF
 refine Zo [.int .u64 x_] Tryd.func78 rfl (fun w0 _ => ?_)
 refine Zs ?_
 refine Zq [iV 0] [0, 2] [(0, .int .u64 x_), (2, iV 0)] ?_
 refine Zs ?_
 refine Zs ?_
 refine Zq [.int .u64 x_, .bool (decide (4294967296 ≤ x_))] [0, 2, 4] [(0, .int .u64 x_), (2, iV 0), (4, .bool (decide (4294967296 ≤ x_)))] ?_
 obtain ⟨s1, gs1, hF⟩ := M.bind_some hF
 refine Run_join (fun L' h' => L' = [(0, .int .u64 s1.1), (2, iV s1.2)] ∧ h = h') ?_ ?_
 ·rintro _ _ ⟨rfl, rfl⟩
  refine Zs ?_
  refine Zs ?_
  refine Zq [.int .u64 s1.1, .bool (decide (65536 ≤ s1.1))] [0, 2, 8] [(0, .int .u64 s1.1), (2, iV s1.2), (8, .bool (decide (65536 ≤ s1.1)))] ?_
  obtain ⟨s2, gs2, hF⟩ := M.bind_some hF
  refine Run_join (fun L' h' => L' = [(0, .int .u64 s2.1), (2, iV s2.2)] ∧ h = h') ?_ ?_
  ·rintro _ _ ⟨rfl, rfl⟩
   refine Zs ?_
   refine Zs ?_
   refine Zq [.int .u64 s2.1, .bool (decide (256 ≤ s2.1))] [0, 2, 14] [(0, .int .u64 s2.1), (2, iV s2.2), (14, .bool (decide (256 ≤ s2.1)))] ?_
   obtain ⟨s3, gs3, hF⟩ := M.bind_some hF
   refine Run_join (fun L' h' => L' = [(0, .int .u64 s3.1), (2, iV s3.2)] ∧ h = h') ?_ ?_
   ·rintro _ _ ⟨rfl, rfl⟩
    refine Zs ?_
    obtain ⟨x1, hx1, hF⟩ := M.bind_some hF
    refine Zg 7 [(2, iV (w64 (s3.2 + (w64 (x1)))))] ?_ ?_
    ·refine Zb [iV s3.2, .int .u64 s3.1, .int .u8 (IntKind.u8.wrap (s3.1))] 0 ?_
     refine Zy (.int .u8 x1) (Y_sidx (kk := .u8) hx1 Tryd.underlying9 (by kernel_rfl)) ?_
     refine Zb [iV (w64 (x1)), iV (w64 (s3.2 + (w64 (x1)))), iV (w64 (s3.2 + (w64 (x1))))] 4 ?_
     exact Zd [2]
    have hF := M.ret_some hF
    subst hF
    exact Run_ret1 rfl (Zt (iV (w64 (s3.2 + (w64 (x1)))))) ⟨rfl, rfl⟩
   ·refine Zc (decide (256 ≤ s2.1)) (fun hb3 => ?_) (fun hb3 => ?_)
    ·have gs3 := (M.ite_some gs3).1 hb3
     refine Zs ?_
     obtain ⟨u3, hz3, gs3⟩ := M.bind_some gs3
     have hz3 := M.guard_some hz3
     refine Zg 3 [(0, .int .u64 (ishr .u64 s2.1 8)), (2, iV s2.2)] ?_ ?_
     ·refine Zb [.int .u64 s2.1] 0 ?_
      refine Zy (.int .u64 (ishr .u64 s2.1 8)) (Y_shr (k := .u64) (x := s2.1) (kk := .u64) (y := 8) (by kernel_rfl) hz3) ?_
      refine Zb [.int .u64 (ishr .u64 s2.1 8)] 2 ?_
      exact Zd [0, 2]
     refine Zq [iV s2.2, iV (w64 (s2.2 + 8)), iV (w64 (s2.2 + 8))] [0, 2] [(0, .int .u64 (ishr .u64 s2.1 8)), (2, iV (w64 (s2.2 + 8)))] ?_
     have gs3 := M.ret_some gs3
     subst gs3
     exact Zf [0, 2] ⟨rfl, rfl⟩
    ·have gs3 := (M.ite_some gs3).2 hb3
     refine Run_skip ?_
     have gs3 := M.ret_some gs3
     subst gs3
     exact Zf [0, 2] ⟨rfl, rfl⟩
  ·refine Zc (decide (65536 ≤ s1.1)) (fun hb2 => ?_) (fun hb2 => ?_)
   ·have gs2 := (M.ite_some gs2).1 hb2
    refine Zs ?_
    obtain ⟨u2, hz2, gs2⟩ := M.bind_some gs2
    have hz2 := M.guard_some hz2
    refine Zg 3 [(0, .int .u64 (ishr .u64 s1.1 16)), (2, iV s1.2)] ?_ ?_
    ·refine Zb [.int .u64 s1.1] 0 ?_
     refine Zy (.int .u64 (ishr .u64 s1.1 16)) (Y_shr (k := .u64) (x := s1.1) (kk := .u64) (y := 16) (by kernel_rfl) hz2) ?_
     refine Zb [.int .u64 (ishr .u64 s1.1 16)] 2 ?_
     exact Zd [0, 2]
    refine Zq [iV s1.2, iV (w64 (s1.2 + 16)), iV (w64 (s1.2 + 16))] [0, 2] [(0, .int .u64 (ishr .u64 s1.1 16)), (2, iV (w64 (s1.2 + 16)))] ?_
    have gs2 := M.ret_some gs2
    subst gs2
    exact Zf [0, 2] ⟨rfl, rfl⟩
   ·have gs2 := (M.ite_some gs2).2 hb2
    refine Run_skip ?_
    have gs2 := M.ret_some gs2
    subst gs2
    exact Zf [0, 2] ⟨rfl, rfl⟩
 ·refine Zc (decide (4294967296 ≤ x_)) (fun hb1 => ?_) (fun hb1 => ?_)
  ·have gs1 := (M.ite_some gs1).1 hb1
   refine Zs ?_
   obtain ⟨u1, hz1, gs1⟩ := M.bind_some gs1
   have hz1 := M.guard_some hz1
   refine Zg 3 [(0, .int .u64 (ishr .u64 x_ 32))] ?_ ?_
   ·refine Zb [.int .u64 x_] 0 ?_
    refine Zy (.int .u64 (ishr .u64 x_ 32)) (Y_shr (k := .u64) (x := x_) (kk := .u64) (y := 32) (by kernel_rfl) hz1) ?_
    refine Zb [.int .u64 (ishr .u64 x_ 32)] 2 ?_
    exact Zd [0]
   refine Zq [iV 32] [0, 2] [(0, .int .u64 (ishr .u64 x_ 32)), (2, iV 32)] ?_
   have gs1 := M.ret_some gs1
   subst gs1
   exact Zf [0, 2] ⟨rfl, rfl⟩
  ·have gs1 := (M.ite_some gs1).2 hb1
   refine Run_skip ?_
   have gs1 := M.ret_some gs1
   subst gs1
   exact Zf [0, 2] ⟨rfl, rfl⟩

theorem w_internal_strconv_log10Pow2 (h : Heap) (x_ : Int) (n : Nat) (r : Int) (hF : internal_strconv_log10Pow2 x_ n = some r) :
  Fn Tryd.prog 77 #[iV x_] h fun v h' => v = iV r ∧ h' = h := by
 unfold internal_strconv_log10Pow2 at hF
 refine Zo [iV x_] Tryd.func77 rfl (fun w0 _ => ?_)
 refine Zs ?_
 refine Zq [iV 0] [0] [(0, iV x_)] ?_
 refine Zs ?_
 obtain ⟨u1, hz1, hF⟩ := M.bind_some hF
 have hz1 := M.guard_some hz1
 refine Zg 4 [(2, iV (ishr .i64 (w64 (x_ * 78913)) 18))] ?_ ?_
 ·refine Zb [iV x_, iV (w64 (x_ * 78913))] 0 ?_
  refine Zy (iV (ishr .i64 (w64 (x_ * 78913)) 18)) (Y_shr (k := .i64) (x := w64 (x_ * 78913)) (kk := .u64) (y := 18) (by kernel_rfl) hz1) ?_
  refine Zb [iV (ishr .i64 (w64 (x_ * 78913)) 18)] 3 ?_
  exact Zd [2]
 have hF := M.ret_some hF
 subst hF
 exact Run_ret1 rfl (Zt (iV (ishr .i64 (w64 (x_ * 78913)) 18))) ⟨rfl, rfl⟩

theorem w_internal_strconv_bool2_n (h : Heap) (b : Bool) (n : Nat) (r : Int) (hF : internal_strconv_bool2_n b n = some r) :
  Fn Tryd.prog 79 #[.bool b] h fun v h' => v = iV r ∧ h' = h := by
 unfold internal_strconv_bool2_n at hF
 refine Zo [.bool b] Tryd.func79 rfl (fun w0 _ => ?_)
 refine Zs ?_
 refine Zq [iV 0] [0] [(0, .bool b)] ?_
 refine Zs ?_
 refine Zs ?_
 refine Zq [.bool b] [3] [(3, .bool b)] ?_
 refine Zc (b) (fun hb1 => ?_) (fun hb1 => ?_)
 ·have hF := (M.ite_some hF).1 hb1
  refine Zs ?_
  refine Zq [iV 1] [2] [(2, iV 1)] ?_
  have hF := M.ret_some hF
  subst hF
  exact Run_ret1 rfl (Zt (iV 1)) ⟨rfl, rfl⟩
 ·have hF := (M.ite_some hF).2 hb1
  refine Run_skip ?_
  refine Zs ?_
  refine Zq [iV 0] [2] [(2, iV 0)] ?_
  have hF := M.ret_some hF
  subst hF
  exact Run_ret1 rfl (Zt (iV 0)) ⟨rfl, rfl⟩

theorem w_internal_strconv_isPowerOfTwo (h : Heap) (x_ : Int) (n : Nat) (r : Bool) (hF : internal_strconv_isPowerOfTwo x_ n = some r) :
  Fn Tryd.prog 80 #[iV x_] h fun v h' => v = .bool r ∧ h' = h := by
 unfold internal_strconv_isPowerOfTwo at hF
 refine Zo [iV x_] Tryd.func80 rfl (fun w0 _ => ?_)
 refine Zs ?_
 refine Zq [.bool false] [0] [(0, iV x_)] ?_
 refine Zs ?_
 refine Zq [iV x_, iV x_, iV (w64 (x_ - 1)), iV (ibit .and .i64 x_ (w64 (x_ - 1))), .bool ((ibit .and .i64 x_ (w64 (x_ - 1))) == 0), .bool ((ibit .and .i64 x_ (w64 (x_ - 1))) == 0)] [2] [(2, .bool ((ibit .and .i64 x_ (w64 (x_ - 1))) == 0))] ?_
 have hF := M.ret_some hF
 subst hF
 exact Run_ret1 rfl (Zt (.bool ((ibit .and .i64 x_ (w64 (x_ - 1))) == 0))) ⟨rfl, rfl⟩

theorem w_strconv_ParseInt (h : Heap) (gl : Gl Tryd.prog h) (s_ : ByteArray) (base : Int) (bits : Int) (n : Nat) (r : Int × Bool) (hF : strconv_ParseInt s_ base bits n = some r) :
  Fn Tryd.prog 51 #[.string s_, iV base, iV bits] h fun v h' => ∃ ev, ErrV ev r.2 ∧ v = .tuple #[iV r.1, ev] ∧ Hold h h' [] := by
 obtain ⟨u, hu, hF⟩ := M.bind_some hF
 have hu := M.guard_some hu
 simp only [Bool.and_eq_true, decide_eq_true_eq] at hu
 have hF := M.ret_some hF
 subst hF
 obtain ⟨⟨h1, rfl⟩, rfl⟩ := hu
 exact Fn_parse layParse rfl (by kernel_rfl) (by kernel_rfl) (by kernel_rfl) gl h1

theorem w_strconv_FormatInt (h : Heap) (tb : Tab Tryd.prog h) (i : Int) (base : Int) (n : Nat) (r : ByteArray) (hF : strconv_FormatInt i base n = some r) :
  Fn Tryd.prog 49 #[iV i, iV base] h fun v h' => v = .string r ∧ Hold h h' [] := by
 obtain ⟨u, hu, hF⟩ := M.bind_some hF
 have hu := M.guard_some hu
 simp only [Bool.and_eq_true, decide_eq_true_eq] at hu
 have hF := M.ret_some hF
 subst hF
 obtain ⟨⟨h1, h2⟩, rfl⟩ := hu
 exact Fn_itoa layItoa rfl (by kernel_rfl) tb ⟨h1, h2⟩

theorem w_impl_decimal (h : Heap) (tb : Tab Tryd.prog h) (n_ : Int) (n : Nat) (r : ByteArray) (hF : impl_decimal n_ n = some r) :
  Fn Tryd.prog 29 #[iV n_] h fun v h' => v = .string r ∧ Hold h h' [] := by
 unfold impl_decimal at hF
 refine Zo [iV n_] Tryd.func29 rfl (fun w0 _ => ?_)
 have H0 := Hold.init h
 refine Zs ?_
 refine Zq [.string (⟨#[]⟩ : ByteArray)] [0] [(0, iV n_)] ?_
 refine Zs ?_
 obtain ⟨x1, hx1, hF⟩ := M.bind_some hF
 refine Run_regC (j := 3) (C := fun x => Hold h x []) (by kernel_rfl) H0 (L' := [(2, .string x1)]) ?_ (fun h1 H1 => ?_)
 ·refine Zb [iV n_] 0 ?_
  refine Zy (.string x1) (Y_call (f := 49) (args := #[iV n_, iV 10]) (v := .string x1) (by kernel_rfl) fun hx Hx => (w_strconv_FormatInt hx (tb.at Hx.ext) n_ 10 _ _ hx1).mono fun _ _ ⟨e, H'⟩ => ⟨e, Hx.call H' rfl⟩) ?_
  refine Zb [.string x1] 2 ?_
  exact Zd [2]
 have H2 := H1
 have hF := M.ret_some hF
 subst hF
 exact Run_ret1 rfl (Zt (.string x1)) ⟨rfl, H2⟩

theorem w_impl_readNumber (h : Heap) (gl : Gl Tryd.prog h) (tb : Tab Tryd.prog h) (s_ : ByteArray) (n : Nat) (r : Int × Bool) (hF : impl_readNumber s_ n = some r) :
  Fn Tryd.prog 32 #[.string s_] h fun v h' => v = .tuple #[iV r.1, .bool r.2] ∧ Hold h h' [] := by
 unfold impl_readNumber at hF
 refine Zo [.string s_] Tryd.func32 rfl (fun w0 _ => ?_)
 have H0 := Hold.init h
 refine Zs ?_
 refine Zq [iV 0, .bool false] [0] [(0, .string s_)] ?_
 refine Zs ?_
 refine Run_ops ?_
 refine Zr [.string s_] 0 ?_
 obtain ⟨x1, hx1, hF⟩ := M.bind_some hF
 refine Ze ?_
 refine ZC 51 #[.string s_, iV 10, iV 64] (w_strconv_ParseInt h gl s_ 10 64 _ _ hx1) (fun v1 h1 hp1 => ?_)
 obtain ⟨ev1, hev1, rfl, H1⟩ := hp1
 have H2 : Hold h h1 [] := H0.call H1 rfl
 refine Zr [.tuple #[iV x1.1, ev1], iV x1.1, ev1, iV x1.1, ev1] 2 ?_
 refine Zx ?_
 refine Zk [0, 4, 5] [(0, .string s_), (4, iV x1.1), (5, ev1)] ?_
 refine Zs ?_
 refine Zs ?_
 obtain ⟨x2, gx2, hF⟩ := M.bind_some hF
 refine Run_regC (j := 8) (C := fun x => Hold h x []) (by kernel_rfl) H2 (L' := [(4, iV x1.1), (18, .bool x2)]) ?_ (fun h2 H3 => ?_)
 ·refine Zb [ev1] 0 ?_
  refine Zy (.bool x1.2) (Y_cls fun hx Hx => (Y_errne (t := 74) (ox := .tmp 11) hev1 Tryd.underlying73 (by kernel_rfl))) ?_
  refine QRun_seq 8 [(4, iV x1.1), (18, .bool x2)] ?_ ?_
  ·rcases Bool.eq_false_or_eq_true x1.2 with hb1 | hb1
   ·refine Zv x1.2 true hb1 ?_
    have gx2 := M.ret_some ((M.ite_some gx2).1 hb1)
    refine Zn ?_
    refine Zn ?_
    refine Zn ?_
    refine Zn ?_
    refine Zv true x2 gx2 ?_
    exact Zd [4, 18]
   ·refine Zv x1.2 false hb1 ?_
    have gx2 := (M.ite_some gx2).2 hb1
    obtain ⟨x3, hx2, gx2⟩ := M.bind_some gx2
    have gx2 := M.ret_some gx2
    refine Zb [iV x1.1] 3 ?_
    refine Zy (.string x3) (Y_call (f := 29) (args := #[iV x1.1]) (v := .string x3) (by kernel_rfl) fun hx Hx => (w_impl_decimal hx (tb.at Hx.ext) x1.1 _ _ hx2).mono fun _ _ ⟨e, H'⟩ => ⟨e, Hx.call H' rfl⟩) ?_
    refine Zb [.string s_, .bool (!(x3.toList == s_.toList))] 5 ?_
    refine Zv (!(x3.toList == s_.toList)) x2 gx2 ?_
    exact Zd [4, 18]
  exact Zd [4, 18]
 have H4 := H3
 refine Zc (x2) (fun hb2 => ?_) (fun hb2 => ?_)
 ·have hF := (M.ite_some hF).1 hb2
  refine Zs ?_
  refine Zq [iV 0, .bool false] [2, 3] [(2, iV 0), (3, .bool false)] ?_
  have hF := M.ret_some hF
  subst hF
  exact Run_ret2 rfl (Zt (iV 0)) (Zt (.bool false)) ⟨rfl, H4⟩
 ·have hF := (M.ite_some hF).2 hb2
  refine Run_skip ?_
  refine Zs ?_
  refine Zq [iV x1.1, iV x1.1, .bool true] [2, 3] [(2, iV x1.1), (3, .bool true)] ?_
  have hF := M.ret_some hF
  subst hF
  exact Run_ret2 rfl (Zt (iV x1.1)) (Zt (.bool true)) ⟨rfl, H4⟩

theorem w_strings_Cut (h : Heap) (gl : Gl Tryd.prog h) (s_ : ByteArray) (sep : ByteArray) (n : Nat) (r : ByteArray × ByteArray × Bool) (hF : strings_Cut s_ sep n = some r) :
  Fn Tryd.prog 52 #[.string s_, .string sep] h fun v h' => v = .tuple #[.string r.1, .string r.2.1, .bool r.2.2] ∧ h' = h := by
 obtain ⟨u, hu, hF⟩ := M.bind_some hF
 have hu := of_decide_eq_true (M.guard_some hu)
 have hF := M.ret_some hF
 subst hF
 exact Fn_cut layCut rfl (by kernel_rfl) (by kernel_rfl) gl hu

theorem w_impl_readPlace (h : Heap) (gl : Gl Tryd.prog h) (tb : Tab Tryd.prog h) (s_ : ByteArray) (n : Nat) (r : TPlace × Bool) (hF : impl_readPlace s_ n = some r) :
  Fn Tryd.prog 33 #[.string s_] h fun v h' => v = .tuple #[.agg #[iV r.1.From, iV r.1.To, iV r.1.Delay, iV r.1.Tokens], .bool r.2] ∧ Hold h h' [] := by
 unfold impl_readPlace at hF
 refine Zo [.string s_] Tryd.func33 rfl (fun w0 _ => ?_)
 have H0 := Hold.init h
 refine Zs ?_
 refine Run_ops ?_
 refine Ze ?_
 refine E_box (ty := 28) (cs := [iV 0, iV 0, iV 0, iV 0]) H0 (fun w => by kernel_rfl) (fun b1 h1 H1 => ?_)
 refine Zr [.bool false] 1 ?_
 refine Zx ?_
 refine Zk [0, 2] [(0, .string s_), (2, pV b1)] ?_
 refine Zs ?_
 obtain ⟨x1, hx1, hF⟩ := M.bind_some hF
 refine Zg 9 [(2, pV b1), (4, .string x1.1), (5, .string x1.2.1)] ?_ ?_
 ·refine Zb [.string s_] 0 ?_
  refine Zy (.tuple #[.string x1.1, .string x1.2.1, .bool x1.2.2]) (ZQ 52 #[.string s_, .string (⟨#[62]⟩ : ByteArray)] (w_strings_Cut h1 (gl.at H1.ext) s_ (⟨#[62]⟩ : ByteArray) _ _ hx1)) ?_
  refine Zb [.tuple #[.string x1.1, .string x1.2.1, .bool x1.2.2], .string x1.1, .string x1.2.1, .bool x1.2.2, .string x1.1, .string x1.2.1, .bool x1.2.2] 2 ?_
  exact Zd [2, 4, 5]
 refine Zs ?_
 obtain ⟨x2, hx2, hF⟩ := M.bind_some hF
 refine Zg 9 [(2, pV b1), (4, .string x1.1), (5, .string x2.2.1), (7, .string x2.1)] ?_ ?_
 ·refine Zb [.string x1.2.1] 0 ?_
  refine Zy (.tuple #[.string x2.1, .string x2.2.1, .bool x2.2.2]) (ZQ 52 #[.string x1.2.1, .string (⟨#[58]⟩ : ByteArray)] (w_strings_Cut h1 (gl.at H1.ext) x1.2.1 (⟨#[58]⟩ : ByteArray) _ _ hx2)) ?_
  refine Zb [.tuple #[.string x2.1, .string x2.2.1, .bool x2.2.2], .string x2.1, .string x2.2.1, .bool x2.2.2, .string x2.1, .string x2.2.1, .bool x2.2.2] 2 ?_
  exact Zd [2, 4, 5, 7]
 refine Zs ?_
 obtain ⟨x3, hx3, hF⟩ := M.bind_some hF
 refine Zg 9 [(2, pV b1), (4, .string x1.1), (7, .string x2.1), (9, .string x3.1), (10, .string x3.2.1)] ?_ ?_
 ·refine Zb [.string x2.2.1] 0 ?_
  refine Zy (.tuple #[.string x3.1, .string x3.2.1, .bool x3.2.2]) (ZQ 52 #[.string x2.2.1, .string (⟨#[42]⟩ : ByteArray)] (w_strings_Cut h1 (gl.at H1.ext) x2.2.1 (⟨#[42]⟩ : ByteArray) _ _ hx3)) ?_
  refine Zb [.tuple #[.string x3.1, .string x3.2.1, .bool x3.2.2], .string x3.1, .string x3.2.1, .bool x3.2.2, .string x3.1, .string x3.2.1, .bool x3.2.2] 2 ?_
  exact Zd [2, 4, 7, 9, 10]
 refine Zs ?_
 refine Run_ops ?_
 refine Ze ?_
 refine E_box (ty := 79) (cs := [iV 0, iV 0, iV 0, iV 0]) H1 (fun w => by kernel_rfl) (fun b2 h2 H2 => ?_)
 refine Zx ?_
 refine Zk [2, 4, 7, 9, 10, 12] [(2, pV b1), (4, .string x1.1), (7, .string x2.1), (9, .string x3.1), (10, .string x3.2.1), (12, pV b2)] ?_
 refine Zs ?_
 refine Zs ?_
 refine Zq [.string x1.1, .string x2.1, .string x3.1, .string x3.2.1, .agg #[.string x1.1, .string x2.1, .string x3.1, .string x3.2.1], iV 0] [2, 12, 39, 40] [(2, pV b1), (12, pV b2), (39, .agg #[.string x1.1, .string x2.1, .string x3.1, .string x3.2.1]), (40, iV 0)] ?_
 refine Run_block ?_
 refine Run_loopK 4 ?_
 refine Zs ?_
 refine Zq [.bool true] [2, 12, 39, 40, 41] [(2, pV b1), (12, pV b2), (39, .agg #[.string x1.1, .string x2.1, .string x3.1, .string x3.2.1]), (40, iV 0), (41, .bool true)] ?_
 refine Zs ?_
 refine Run_cond (b := true) (by kernel_rfl) (fun _ => ?_) (fun h_ => by cases h_)
 refine Run_skip ?_
 refine Zs ?_
 refine Run_block ?_
 refine Zs ?_
 refine Zq [iV 0, .string x1.1, iV 0, .string x1.1] [2, 12, 13, 14, 39, 40] [(2, pV b1), (12, pV b2), (13, iV 0), (14, .string x1.1), (39, .agg #[.string x1.1, .string x2.1, .string x3.1, .string x3.2.1]), (40, iV 0)] ?_
 refine Zs ?_
 obtain ⟨x4, hx4, hF⟩ := M.bind_some hF
 refine Run_regC (j := 7) (C := fun x => Hold h x [box b2 79 [iV 0, iV 0, iV 0, iV 0], box b1 28 [iV 0, iV 0, iV 0, iV 0]]) (by kernel_rfl) H2 (L' := [(2, pV b1), (12, pV b2), (13, iV 0), (15, iV x4.1), (16, .bool x4.2), (39, .agg #[.string x1.1, .string x2.1, .string x3.1, .string x3.2.1]), (40, iV 0)]) ?_ (fun h3 H3 => ?_)
 ·refine Zb [.string x1.1] 0 ?_
  refine Zy (.tuple #[iV x4.1, .bool x4.2]) (Y_call (f := 32) (args := #[.string x1.1]) (v := .tuple #[iV x4.1, .bool x4.2]) (by kernel_rfl) fun hx Hx => (w_impl_readNumber hx (gl.at Hx.ext) (tb.at Hx.ext) x1.1 _ _ hx4).mono fun _ _ ⟨e, H'⟩ => ⟨e, Hx.call H' rfl⟩) ?_
  refine Zb [.tuple #[iV x4.1, .bool x4.2], iV x4.1, .bool x4.2, iV x4.1, .bool x4.2] 2 ?_
  exact Zd [2, 12, 13, 15, 16, 39, 40]
 have H4 := H3
 refine Zs ?_
 refine Zs ?_
 refine Zq [.bool x4.2, .bool (!x4.2)] [2, 12, 13, 15, 39, 40, 50] [(2, pV b1), (12, pV b2), (13, iV 0), (15, iV x4.1), (39, .agg #[.string x1.1, .string x2.1, .string x3.1, .string x3.2.1]), (40, iV 0), (50, .bool (!x4.2))] ?_
 refine Zc (!x4.2) (fun hb2 => ?_) (fun hb2 => ?_)
 ·have hF := (M.ite_some hF).1 hb2
  refine Zs ?_
  refine Run_ops ?_
  refine Zr [.agg #[iV 0, iV 0, iV 0, iV 0]] 0 ?_
  have H6 : Hold h h3 [box b1 28 [iV 0, iV 0, iV 0, iV 0], box b2 79 [iV 0, iV 0, iV 0, iV 0]] := H4.pk [1, 0]
  refine Ze ?_
  refine ZP 28 0 [iV 0, iV 0, iV 0, iV 0] (.agg #[iV 0, iV 0, iV 0, iV 0]) H6 (fun h4 H5 => ?_)
  refine Zr [.bool false] 2 ?_
  refine Zx ?_
  refine Zk [2, 3] [(2, pV b1), (3, .bool false)] ?_
  have hF := M.ret_some hF
  subst hF
  have H7 : Hold h h4 [] := H5.pk []
  exact Run_ret2 rfl (ResV_cell (n := 4) (cs := [iV 0, iV 0, iV 0, iV 0]) (by kernel_rfl) (fun w => by kernel_rfl) (by kernel_rfl) rfl (H5.cells (n := 4) (off := 0) 0 rfl rfl)) (Zt (.bool false)) ⟨rfl, H7⟩
 ·have hF := (M.ite_some hF).2 hb2
  refine Run_skip ?_
  refine Run_ops ?_
  refine Zr [iV 0, iV x4.1, pV b2] 0 ?_
  refine Ze ?_
  refine ZP 2 0 [iV x4.1, iV 0, iV 0, iV 0] (iV x4.1) H4 (fun h5 H8 => ?_)
  refine Zx ?_
  refine Zk [2, 12, 39, 40] [(2, pV b1), (12, pV b2), (39, .agg #[.string x1.1, .string x2.1, .string x3.1, .string x3.2.1]), (40, iV 0)] ?_
  refine Run_blk ?_
  refine Zq [iV 1, iV 1] [2, 12, 39, 40] [(2, pV b1), (12, pV b2), (39, .agg #[.string x1.1, .string x2.1, .string x3.1, .string x3.2.1]), (40, iV 1)] ?_
  refine Run_round ?_
  refine Zs ?_
  refine Zq [.bool true] [2, 12, 39, 40, 41] [(2, pV b1), (12, pV b2), (39, .agg #[.string x1.1, .string x2.1, .string x3.1, .string x3.2.1]), (40, iV 1), (41, .bool true)] ?_
  refine Zs ?_
  refine Run_cond (b := true) (by kernel_rfl) (fun _ => ?_) (fun h_ => by cases h_)
  refine Run_skip ?_
  refine Zs ?_
  refine Run_block ?_
  refine Zs ?_
  refine Zq [iV 1, .string x2.1, iV 1, .string x2.1] [2, 12, 13, 14, 39, 40] [(2, pV b1), (12, pV b2), (13, iV 1), (14, .string x2.1), (39, .agg #[.string x1.1, .string x2.1, .string x3.1, .string x3.2.1]), (40, iV 1)] ?_
  refine Zs ?_
  obtain ⟨x5, hx5, hF⟩ := M.bind_some hF
  refine Run_regC (j := 7) (C := fun x => Hold h x [box b2 79 [iV x4.1, iV 0, iV 0, iV 0], box b1 28 [iV 0, iV 0, iV 0, iV 0]]) (by kernel_rfl) H8 (L' := [(2, pV b1), (12, pV b2), (13, iV 1), (15, iV x5.1), (16, .bool x5.2), (39, .agg #[.string x1.1, .string x2.1, .string x3.1, .string x3.2.1]), (40, iV 1)]) ?_ (fun h6 H9 => ?_)
  ·refine Zb [.string x2.1] 0 ?_
   refine Zy (.tuple #[iV x5.1, .bool x5.2]) (Y_call (f := 32) (args := #[.string x2.1]) (v := .tuple #[iV x5.1, .bool x5.2]) (by kernel_rfl) fun hx Hx => (w_impl_readNumber hx (gl.at Hx.ext) (tb.at Hx.ext) x2.1 _ _ hx5).mono fun _ _ ⟨e, H'⟩ => ⟨e, Hx.call H' rfl⟩) ?_
   refine Zb [.tuple #[iV x5.1, .bool x5.2], iV x5.1, .bool x5.2, iV x5.1, .bool x5.2] 2 ?_
   exact Zd [2, 12, 13, 15, 16, 39, 40]
  have H10 := H9
  refine Zs ?_
  refine Zs ?_
  refine Zq [.bool x5.2, .bool (!x5.2)] [2, 12, 13, 15, 39, 40, 50] [(2, pV b1), (12, pV b2), (13, iV 1), (15, iV x5.1), (39, .agg #[.string x1.1, .string x2.1, .string x3.1, .string x3.2.1]), (40, iV 1), (50, .bool (!x5.2))] ?_
  refine Zc (!x5.2) (fun hb4 => ?_) (fun hb4 => ?_)
  ·have hF := (M.ite_some hF).1 hb4
   refine Zs ?_
   refine Run_ops ?_
   refine Zr [.agg #[iV 0, iV 0, iV 0, iV 0]] 0 ?_
   have H12 : Hold h h6 [box b1 28 [iV 0, iV 0, iV 0, iV 0], box b2 79 [iV x4.1, iV 0, iV 0, iV 0]] := H10.pk [1, 0]
   refine Ze ?_
   refine ZP 28 0 [iV 0, iV 0, iV 0, iV 0] (.agg #[iV 0, iV 0, iV 0, iV 0]) H12 (fun h7 H11 => ?_)
   refine Zr [.bool false] 2 ?_
   refine Zx ?_
   refine Zk [2, 3] [(2, pV b1), (3, .bool false)] ?_
   have hF := M.ret_some hF
   subst hF
   have H13 : Hold h h7 [] := H11.pk []
   exact Run_ret2 rfl (ResV_cell (n := 4) (cs := [iV 0, iV 0, iV 0, iV 0]) (by kernel_rfl) (fun w => by kernel_rfl) (by kernel_rfl) rfl (H11.cells (n := 4) (off := 0) 0 rfl rfl)) (Zt (.bool false)) ⟨rfl, H13⟩
  ·have hF := (M.ite_some hF).2 hb4
   refine Run_skip ?_
   refine Run_ops ?_
   refine Zr [iV 1, iV x5.1, .pointer (some ⟨b2, 1, none⟩)] 0 ?_
   refine Ze ?_
   refine ZP 2 1 [iV x4.1, iV x5.1, iV 0, iV 0] (iV x5.1) H10 (fun h8 H14 => ?_)
   refine Zx ?_
   refine Zk [2, 12, 39, 40] [(2, pV b1), (12, pV b2), (39, .agg #[.string x1.1, .string x2.1, .string x3.1, .string x3.2.1]), (40, iV 1)] ?_
   refine Run_blk ?_
   refine Zq [iV 2, iV 2] [2, 12, 39, 40] [(2, pV b1), (12, pV b2), (39, .agg #[.string x1.1, .string x2.1, .string x3.1, .string x3.2.1]), (40, iV 2)] ?_
   refine Run_round ?_
   refine Zs ?_
   refine Zq [.bool true] [2, 12, 39, 40, 41] [(2, pV b1), (12, pV b2), (39, .agg #[.string x1.1, .string x2.1, .string x3.1, .string x3.2.1]), (40, iV 2), (41, .bool true)] ?_
   refine Zs ?_
   refine Run_cond (b := true) (by kernel_rfl) (fun _ => ?_) (fun h_ => by cases h_)
   refine Run_skip ?_
   refine Zs ?_
   refine Run_block ?_
   refine Zs ?_
   refine Zq [iV 2, .string x3.1, iV 2, .string x3.1] [2, 12, 13, 14, 39, 40] [(2, pV b1), (12, pV b2), (13, iV 2), (14, .string x3.1), (39, .agg #[.string x1.1, .string x2.1, .string x3.1, .string x3.2.1]), (40, iV 2)] ?_
   refine Zs ?_
   obtain ⟨x6, hx6, hF⟩ := M.bind_some hF
   refine Run_regC (j := 7) (C := fun x => Hold h x [box b2 79 [iV x4.1, iV x5.1, iV 0, iV 0], box b1 28 [iV 0, iV 0, iV 0, iV 0]]) (by kernel_rfl) H14 (L' := [(2, pV b1), (12, pV b2), (13, iV 2), (15, iV x6.1), (16, .bool x6.2), (39, .agg #[.string x1.1, .string x2.1, .string x3.1, .string x3.2.1]), (40, iV 2)]) ?_ (fun h9 H15 => ?_)
   ·refine Zb [.string x3.1] 0 ?_
    refine Zy (.tuple #[iV x6.1, .bool x6.2]) (Y_call (f := 32) (args := #[.string x3.1]) (v := .tuple #[iV x6.1, .bool x6.2]) (by kernel_rfl) fun hx Hx => (w_impl_readNumber hx (gl.at Hx.ext) (tb.at Hx.ext) x3.1 _ _ hx6).mono fun _ _ ⟨e, H'⟩ => ⟨e, Hx.call H' rfl⟩) ?_
    refine Zb [.tuple #[iV x6.1, .bool x6.2], iV x6.1, .bool x6.2, iV x6.1, .bool x6.2] 2 ?_
    exact Zd [2, 12, 13, 15, 16, 39, 40]
   have H16 := H15
   refine Zs ?_
   refine Zs ?_
   refine Zq [.bool x6.2, .bool (!x6.2)] [2, 12, 13, 15, 39, 40, 50] [(2, pV b1), (12, pV b2), (13, iV 2), (15, iV x6.1), (39, .agg #[.string x1.1, .string x2.1, .string x3.1, .string x3.2.1]), (40, iV 2), (50, .bool (!x6.2))] ?_
   refine Zc (!x6.2) (fun hb6 => ?_) (fun hb6 => ?_)
   ·have hF := (M.ite_some hF).1 hb6
    refine Zs ?_
    refine Run_ops ?_
    refine Zr [.agg #[iV 0, iV 0, iV 0, iV 0]] 0 ?_
    have H18 : Hold h h9 [box b1 28 [iV 0, iV 0, iV 0, iV 0], box b2 79 [iV x4.1, iV x5.1, iV 0, iV 0]] := H16.pk [1, 0]
    refine Ze ?_
    refine ZP 28 0 [iV 0, iV 0, iV 0, iV 0] (.agg #[iV 0, iV 0, iV 0, iV 0]) H18 (fun h10 H17 => ?_)
    refine Zr [.bool false] 2 ?_
    refine Zx ?_
    refine Zk [2, 3] [(2, pV b1), (3, .bool false)] ?_
    have hF := M.ret_some hF
    subst hF
    have H19 : Hold h h10 [] := H17.pk []
    exact Run_ret2 rfl (ResV_cell (n := 4) (cs := [iV 0, iV 0, iV 0, iV 0]) (by kernel_rfl) (fun w => by kernel_rfl) (by kernel_rfl) rfl (H17.cells (n := 4) (off := 0) 0 rfl rfl)) (Zt (.bool false)) ⟨rfl, H19⟩
   ·have hF := (M.ite_some hF).2 hb6
    refine Run_skip ?_
    refine Run_ops ?_
    refine Zr [iV 2, iV x6.1, .pointer (some ⟨b2, 2, none⟩)] 0 ?_
    refine Ze ?_
    refine ZP 2 2 [iV x4.1, iV x5.1, iV x6.1, iV 0] (iV x6.1) H16 (fun h11 H20 => ?_)
    refine Zx ?_
    refine Zk [2, 12, 39, 40] [(2, pV b1), (12, pV b2), (39, .agg #[.string x1.1, .string x2.1, .string x3.1, .string x3.2.1]), (40, iV 2)] ?_
    refine Run_blk ?_
    refine Zq [iV 3, iV 3] [2, 12, 39, 40] [(2, pV b1), (12, pV b2), (39, .agg #[.string x1.1, .string x2.1, .string x3.1, .string x3.2.1]), (40, iV 3)] ?_
    refine Run_round ?_
    refine Zs ?_
    refine Zq [.bool true] [2, 12, 39, 40, 41] [(2, pV b1), (12, pV b2), (39, .agg #[.string x1.1, .string x2.1, .string x3.1, .string x3.2.1]), (40, iV 3), (41, .bool true)] ?_
    refine Zs ?_
    refine Run_cond (b := true) (by kernel_rfl) (fun _ => ?_) (fun h_ => by cases h_)
    refine Run_skip ?_
    refine Zs ?_
    refine Run_block ?_
    refine Zs ?_
    refine Zq [iV 3, .string x3.2.1, iV 3, .string x3.2.1] [2, 12, 13, 14, 39, 40] [(2, pV b1), (12, pV b2), (13, iV 3), (14, .string x3.2.1), (39, .agg #[.string x1.1, .string x2.1, .string x3.1, .string x3.2.1]), (40, iV 3)] ?_
    refine Zs ?_
    obtain ⟨x7, hx7, hF⟩ := M.bind_some hF
    refine Run_regC (j := 7) (C := fun x => Hold h x [box b2 79 [iV x4.1, iV x5.1, iV x6.1, iV 0], box b1 28 [iV 0, iV 0, iV 0, iV 0]]) (by kernel_rfl) H20 (L' := [(2, pV b1), (12, pV b2), (13, iV 3), (15, iV x7.1), (16, .bool x7.2), (39, .agg #[.string x1.1, .string x2.1, .string x3.1, .string x3.2.1]), (40, iV 3)]) ?_ (fun h12 H21 => ?_)
    ·refine Zb [.string x3.2.1] 0 ?_
     refine Zy (.tuple #[iV x7.1, .bool x7.2]) (Y_call (f := 32) (args := #[.string x3.2.1]) (v := .tuple #[iV x7.1, .bool x7.2]) (by kernel_rfl) fun hx Hx => (w_impl_readNumber hx (gl.at Hx.ext) (tb.at Hx.ext) x3.2.1 _ _ hx7).mono fun _ _ ⟨e, H'⟩ => ⟨e, Hx.call H' rfl⟩) ?_
     refine Zb [.tuple #[iV x7.1, .bool x7.2], iV x7.1, .bool x7.2, iV x7.1, .bool x7.2] 2 ?_
     exact Zd [2, 12, 13, 15, 16, 39, 40]
    have H22 := H21
    refine Zs ?_
    refine Zs ?_
    refine Zq [.bool x7.2, .bool (!x7.2)] [2, 12, 13, 15, 39, 40, 50] [(2, pV b1), (12, pV b2), (13, iV 3), (15, iV x7.1), (39, .agg #[.string x1.1, .string x2.1, .string x3.1, .string x3.2.1]), (40, iV 3), (50, .bool (!x7.2))] ?_
    refine Zc (!x7.2) (fun hb8 => ?_) (fun hb8 => ?_)
    ·have hF := (M.ite_some hF).1 hb8
     refine Zs ?_
     refine Run_ops ?_
     refine Zr [.agg #[iV 0, iV 0, iV 0, iV 0]] 0 ?_
     have H24 : Hold h h12 [box b1 28 [iV 0, iV 0, iV 0, iV 0], box b2 79 [iV x4.1, iV x5.1, iV x6.1, iV 0]] := H22.pk [1, 0]
     refine Ze ?_
     refine ZP 28 0 [iV 0, iV 0, iV 0, iV 0] (.agg #[iV 0, iV 0, iV 0, iV 0]) H24 (fun h13 H23 => ?_)
     refine Zr [.bool false] 2 ?_
     refine Zx ?_
     refine Zk [2, 3] [(2, pV b1), (3, .bool false)] ?_
     have hF := M.ret_some hF
     subst hF
     have H25 : Hold h h13 [] := H23.pk []
     exact Run_ret2 rfl (ResV_cell (n := 4) (cs := [iV 0, iV 0, iV 0, iV 0]) (by kernel_rfl) (fun w => by kernel_rfl) (by kernel_rfl) rfl (H23.cells (n := 4) (off := 0) 0 rfl rfl)) (Zt (.bool false)) ⟨rfl, H25⟩
    ·have hF := (M.ite_some hF).2 hb8
     refine Run_skip ?_
     refine Run_ops ?_
     refine Zr [iV 3, iV x7.1, .pointer (some ⟨b2, 3, none⟩)] 0 ?_
     refine Ze ?_
     refine ZP 2 3 [iV x4.1, iV x5.1, iV x6.1, iV x7.1] (iV x7.1) H22 (fun h14 H26 => ?_)
     refine Zx ?_
     refine Zk [2, 12, 39, 40] [(2, pV b1), (12, pV b2), (39, .agg #[.string x1.1, .string x2.1, .string x3.1, .string x3.2.1]), (40, iV 3)] ?_
     refine Run_blk ?_
     refine Zq [iV 4, iV 4] [2, 12, 39, 40] [(2, pV b1), (12, pV b2), (39, .agg #[.string x1.1, .string x2.1, .string x3.1, .string x3.2.1]), (40, iV 4)] ?_
     refine Run_round ?_
     refine Zs ?_
     refine Zq [.bool false] [2, 12, 39, 40, 41] [(2, pV b1), (12, pV b2), (39, .agg #[.string x1.1, .string x2.1, .string x3.1, .string x3.2.1]), (40, iV 4), (41, .bool false)] ?_
     refine Zs ?_
     refine Run_cond (b := false) (by kernel_rfl) (fun h_ => by cases h_) (fun _ => ?_)
     refine Run_exit (k' := _) rfl ?_
     refine Zs ?_
     refine Run_ops ?_
     refine Zr [pV b2] 0 ?_
     refine Zz (iV x4.1) (Zl 2 (⟨b2, 0, none⟩) (iV x4.1) (H26.cell 0 rfl rfl)) ?_
     refine Zr [.pointer (some ⟨b2, 1, none⟩)] 2 ?_
     refine Zz (iV x5.1) (Zl 2 (⟨b2, 1, none⟩) (iV x5.1) (H26.cell 0 rfl rfl)) ?_
     refine Zr [.pointer (some ⟨b2, 2, none⟩)] 4 ?_
     refine Zz (iV x6.1) (Zl 2 (⟨b2, 2, none⟩) (iV x6.1) (H26.cell 0 rfl rfl)) ?_
     refine Zr [.pointer (some ⟨b2, 3, none⟩)] 6 ?_
     refine Zz (iV x7.1) (Zl 2 (⟨b2, 3, none⟩) (iV x7.1) (H26.cell 0 rfl rfl)) ?_
     refine Zr [.agg #[iV x4.1, iV x5.1, iV x6.1, iV x7.1]] 8 ?_
     have H28 : Hold h h14 [box b1 28 [iV 0, iV 0, iV 0, iV 0], box b2 79 [iV x4.1, iV x5.1, iV x6.1, iV x7.1]] := H26.pk [1, 0]
     refine Ze ?_
     refine ZP 28 0 [iV x4.1, iV x5.1, iV x6.1, iV x7.1] (.agg #[iV x4.1, iV x5.1, iV x6.1, iV x7.1]) H28 (fun h15 H27 => ?_)
     refine Zr [.bool true] 10 ?_
     refine Zx ?_
     refine Zk [2, 3] [(2, pV b1), (3, .bool true)] ?_
     have hF := M.ret_some hF
     subst hF
     have H29 : Hold h h15 [] := H27.pk []
     exact Run_ret2 rfl (ResV_cell (n := 4) (cs := [iV x4.1, iV x5.1, iV x6.1, iV x7.1]) (by kernel_rfl) (fun w => by kernel_rfl) (by kernel_rfl) rfl (H27.cells (n := 4) (off := 0) 0 rfl rfl)) (Zt (.bool true)) ⟨rfl, H29⟩

theorem w_impl_within (h : Heap) (n_ : Int) (low : Int) (high : Int) (n : Nat) (r : Bool) (hF : impl_within n_ low high n = some r) :
  Fn Tryd.prog 39 #[iV n_, iV low, iV high] h fun v h' => v = .bool r ∧ h' = h := by
 unfold impl_within at hF
 refine Zo [iV n_, iV low, iV high] Tryd.func39 rfl (fun w0 _ => ?_)
 refine Zs ?_
 refine Zq [.bool false] [0, 1, 2] [(0, iV n_), (1, iV low), (2, iV high)] ?_
 refine Zs ?_
 refine Zg 9 [(6, .bool ((decide (low ≤ n_)) && (decide (n_ ≤ high))))] ?_ ?_
 ·refine Zb [iV n_, iV low, .bool (decide (low ≤ n_))] 0 ?_
  refine QRun_seq 8 [(14, .bool ((decide (low ≤ n_)) && (decide (n_ ≤ high))))] ?_ ?_
  ·rcases Bool.eq_false_or_eq_true (decide (low ≤ n_)) with hb1 | hb1
   ·refine Zv (decide (low ≤ n_)) true hb1 ?_
    refine Zb [iV n_, iV high, .bool (decide (n_ ≤ high))] 4 ?_
    refine QRun_bool (decide (n_ ≤ high)) ((decide (low ≤ n_)) && (decide (n_ ≤ high))) (by kernel_rfl) (fun w => by kernel_rfl) (by rw [hb1]; rfl) ?_
    exact Zd [14]
   ·refine Zv (decide (low ≤ n_)) false hb1 ?_
    refine Zn ?_
    refine Zn ?_
    refine Zn ?_
    refine QRun_bool false ((decide (low ≤ n_)) && (decide (n_ ≤ high))) (by kernel_rfl) (fun w => by kernel_rfl) (by rw [hb1]; rfl) ?_
    exact Zd [14]
  refine Zb [.bool ((decide (low ≤ n_)) && (decide (n_ ≤ high)))] 8 ?_
  exact Zd [6]
 have hF := M.ret_some hF
 subst hF
 exact Run_ret1 rfl (Zt (.bool ((decide (low ≤ n_)) && (decide (n_ ≤ high))))) ⟨rfl, rfl⟩

theorem w_impl_isEvent (h : Heap) (g : TGraph) (agPlaces : Option Addr) (cgPlaces : Nat) (rgPlaces : Rd cd28 h (Lt h) agPlaces cgPlaces g.Places) (event : Int) (n : Nat) (r : Bool) (hF : impl_isEvent g event n = some r) :
  Fn Tryd.prog 46 #[.agg #[iV g.Events, .slice agPlaces g.Places.length cgPlaces], iV event] h fun v h' => v = .bool r ∧ Hold h h' [] := by
 unfold impl_isEvent at hF
 refine Zo [.agg #[iV g.Events, .slice agPlaces g.Places.length cgPlaces], iV event] Tryd.func46 rfl (fun w0 _ => ?_)
 have H0 := Hold.init h
 refine Zs ?_
 refine Run_ops ?_
 refine Ze ?_
 refine E_box (ty := 26) (cs := [iV g.Events, .slice agPlaces g.Places.length cgPlaces]) H0 (fun w => by kernel_rfl) (fun b1 h1 H1 => ?_)
 refine Zr [.bool false] 1 ?_
 refine Zx ?_
 refine Zk [1, 2] [(1, iV event), (2, pV b1)] ?_
 refine Zs ?_
 obtain ⟨x1, hx1, hF⟩ := M.bind_some hF
 refine Zg 6 [(4, .bool x1)] ?_ ?_
 ·refine Zb [iV event, pV b1] 0 ?_
  refine Zy (iV g.Events) (Zl 2 (⟨b1, 0, none⟩) (iV g.Events) (H1.cell 0 rfl rfl)) ?_
  refine Zb [iV (w64 (g.Events - 1))] 3 ?_
  refine Zy (.bool x1) (ZQ 39 #[iV event, iV 0, iV (w64 (g.Events - 1))] (w_impl_within h1 event 0 (w64 (g.Events - 1)) _ _ hx1)) ?_
  refine Zb [.bool x1] 5 ?_
  exact Zd [4]
 have hF := M.ret_some hF
 subst hF
 have H2 : Hold h h1 [] := H1.pk []
 exact Run_ret1 rfl (Zt (.bool x1)) ⟨rfl, H2⟩

theorem w_impl_isPlace (h : Heap) (g : TGraph) (agPlaces : Option Addr) (cgPlaces : Nat) (rgPlaces : Rd cd28 h (Lt h) agPlaces cgPlaces g.Places) (p : TPlace) (n : Nat) (r : Bool) (hF : impl_isPlace g p n = some r) :
  Fn Tryd.prog 24 #[.agg #[iV g.Events, .slice agPlaces g.Places.length cgPlaces], .agg #[iV p.From, iV p.To, iV p.Delay, iV p.Tokens]] h fun v h' => v = .bool r ∧ Hold h h' [] := by
 unfold impl_isPlace at hF
 refine Zo [.agg #[iV g.Events, .slice agPlaces g.Places.length cgPlaces], .agg #[iV p.From, iV p.To, iV p.Delay, iV p.Tokens]] Tryd.func24 rfl (fun w0 _ => ?_)
 have H0 := Hold.init h
 refine Zs ?_
 refine Run_ops ?_
 refine Ze ?_
 refine E_box (ty := 26) (cs := [iV g.Events, .slice agPlaces g.Places.length cgPlaces]) H0 (fun w => by kernel_rfl) (fun b1 h1 H1 => ?_)
 refine Ze ?_
 refine E_box (ty := 28) (cs := [iV p.From, iV p.To, iV p.Delay, iV p.Tokens]) H1 (fun w => by kernel_rfl) (fun b2 h2 H2 => ?_)
 refine Zr [.bool false] 2 ?_
 refine Zx ?_
 refine Zk [2, 3] [(2, pV b1), (3, pV b2)] ?_
 refine Zs ?_
 obtain ⟨x1, hx1, hF⟩ := M.bind_some hF
 obtain ⟨x2, gx2, hF⟩ := M.bind_some hF
 obtain ⟨x4, gx4, hF⟩ := M.bind_some hF
 obtain ⟨x6, gx6, hF⟩ := M.bind_some hF
 refine Run_regC (j := 21) (C := fun x => Hold h x [box b2 28 [iV p.From, iV p.To, iV p.Delay, iV p.Tokens], box b1 26 [iV g.Events, .slice agPlaces g.Places.length cgPlaces]]) (by kernel_rfl) H2 (L' := [(4, .bool x6)]) ?_ (fun h3 H3 => ?_)
 ·refine Zy (.agg #[iV g.Events, .slice agPlaces g.Places.length cgPlaces]) (Y_cls fun hx Hx => (Y_loadA (t := 26) (n := 2) (p := ⟨b1, 0, none⟩) (cs := [iV g.Events, .slice agPlaces g.Places.length cgPlaces]) (by kernel_rfl) (fun w => by kernel_rfl) (by kernel_rfl) rfl (Hx.cells (n := 2) (off := 0) 1 rfl rfl))) ?_
  refine Zb [pV b2] 1 ?_
  refine Zy (iV p.From) (Y_cls fun hx Hx => (Zl 2 (⟨b2, 0, none⟩) (iV p.From) (Hx.cell 0 rfl rfl))) ?_
  refine Zy (.bool x1) (Y_call (f := 46) (args := #[.agg #[iV g.Events, .slice agPlaces g.Places.length cgPlaces], iV p.From]) (v := .bool x1) (by kernel_rfl) fun hx Hx => (w_impl_isEvent hx g agPlaces cgPlaces (rgPlaces.at Hx.ext) p.From _ _ hx1).mono fun _ _ ⟨e, H'⟩ => ⟨e, Hx.call H' rfl⟩) ?_
  refine QRun_seq 10 [(3, pV b2), (14, .bool x2)] ?_ ?_
  ·rcases Bool.eq_false_or_eq_true x1 with hb1 | hb1
   ·refine Zv x1 true hb1 ?_
    have gx2 := (M.ite_some gx2).1 hb1
    obtain ⟨x3, hx2, gx2⟩ := M.bind_some gx2
    have gx2 := M.ret_some gx2
    refine Zy (.agg #[iV g.Events, .slice agPlaces g.Places.length cgPlaces]) (Y_cls fun hx Hx => (Y_loadA (t := 26) (n := 2) (p := ⟨b1, 0, none⟩) (cs := [iV g.Events, .slice agPlaces g.Places.length cgPlaces]) (by kernel_rfl) (fun w => by kernel_rfl) (by kernel_rfl) rfl (Hx.cells (n := 2) (off := 0) 1 rfl rfl))) ?_
    refine Zb [.pointer (some ⟨b2, 1, none⟩)] 6 ?_
    refine Zy (iV p.To) (Y_cls fun hx Hx => (Zl 2 (⟨b2, 1, none⟩) (iV p.To) (Hx.cell 0 rfl rfl))) ?_
    refine Zy (.bool x3) (Y_call (f := 46) (args := #[.agg #[iV g.Events, .slice agPlaces g.Places.length cgPlaces], iV p.To]) (v := .bool x3) (by kernel_rfl) fun hx Hx => (w_impl_isEvent hx g agPlaces cgPlaces (rgPlaces.at Hx.ext) p.To _ _ hx2).mono fun _ _ ⟨e, H'⟩ => ⟨e, Hx.call H' rfl⟩) ?_
    refine Zv x3 x2 gx2 ?_
    exact Zd [3, 14]
   ·refine Zv x1 false hb1 ?_
    have gx2 := M.ret_some ((M.ite_some gx2).2 hb1)
    refine Zn ?_
    refine Zn ?_
    refine Zn ?_
    refine Zn ?_
    refine Zv false x2 gx2 ?_
    exact Zd [3, 14]
  refine QRun_seq 15 [(3, pV b2), (19, .bool x4)] ?_ ?_
  ·rcases Bool.eq_false_or_eq_true x2 with hb2 | hb2
   ·refine Zv x2 true hb2 ?_
    have gx4 := (M.ite_some gx4).1 hb2
    obtain ⟨x5, hx3, gx4⟩ := M.bind_some gx4
    have gx4 := M.ret_some gx4
    refine Zb [.pointer (some ⟨b2, 2, none⟩)] 11 ?_
    refine Zy (iV p.Delay) (Y_cls fun hx Hx => (Zl 2 (⟨b2, 2, none⟩) (iV p.Delay) (Hx.cell 0 rfl rfl))) ?_
    refine Zy (.bool x5) (Y_cls fun hx Hx => (ZQ 39 #[iV p.Delay, iV 0, iV 1000] (w_impl_within hx p.Delay 0 1000 _ _ hx3))) ?_
    refine Zv x5 x4 gx4 ?_
    exact Zd [3, 19]
   ·refine Zv x2 false hb2 ?_
    have gx4 := M.ret_some ((M.ite_some gx4).2 hb2)
    refine Zn ?_
    refine Zn ?_
    refine Zn ?_
    refine Zv false x4 gx4 ?_
    exact Zd [3, 19]
  refine QRun_seq 20 [(24, .bool x6)] ?_ ?_
  ·rcases Bool.eq_false_or_eq_true x4 with hb3 | hb3
   ·refine Zv x4 true hb3 ?_
    have gx6 := (M.ite_some gx6).1 hb3
    obtain ⟨x7, hx4, gx6⟩ := M.bind_some gx6
    have gx6 := M.ret_some gx6
    refine Zb [.pointer (some ⟨b2, 3, none⟩)] 16 ?_
    refine Zy (iV p.Tokens) (Y_cls fun hx Hx => (Zl 2 (⟨b2, 3, none⟩) (iV p.Tokens) (Hx.cell 0 rfl rfl))) ?_
    refine Zy (.bool x7) (Y_cls fun hx Hx => (ZQ 39 #[iV p.Tokens, iV 0, iV 5] (w_impl_within hx p.Tokens 0 5 _ _ hx4))) ?_
    refine Zv x7 x6 gx6 ?_
    exact Zd [24]
   ·refine Zv x4 false hb3 ?_
    have gx6 := M.ret_some ((M.ite_some gx6).2 hb3)
    refine Zn ?_
    refine Zn ?_
    refine Zn ?_
    refine Zv false x6 gx6 ?_
    exact Zd [24]
  refine Zb [.bool x6] 20 ?_
  exact Zd [4]
 have H4 := H3
 have hF := M.ret_some hF
 subst hF
 have H5 : Hold h h3 [] := H4.pk []
 exact Run_ret1 rfl (Zt (.bool x6)) ⟨rfl, H5⟩

theorem w_impl_IsEventGraph_1 (h : Heap) (p : TPlace) (z0 : TGraph) (az0Places : Option Addr) (cz0Places : Nat) (rz0Places : Rd cd28 h (Lt h) az0Places cz0Places z0.Places) (bz0 : Nat) (vz0 : VarAt h bz0 26 [iV z0.Events, .slice az0Places z0.Places.length cz0Places]) (n : Nat) (r : Bool) (hF : impl_IsEventGraph_1 p z0 n = some r) :
  Fn Tryd.prog 41 #[.agg #[iV p.From, iV p.To, iV p.Delay, iV p.Tokens], pV bz0] h fun v h' => v = .bool r ∧ Hold h h' [] := by
 unfold impl_IsEventGraph_1 at hF
 refine Zo [.agg #[iV p.From, iV p.To, iV p.Delay, iV p.Tokens], pV bz0] Tryd.func41 rfl (fun w0 _ => ?_)
 have H0 := Hold.init h
 refine Zs ?_
 refine Run_ops ?_
 refine Ze ?_
 refine E_box (ty := 28) (cs := [iV p.From, iV p.To, iV p.Delay, iV p.Tokens]) H0 (fun w => by kernel_rfl) (fun b1 h1 H1 => ?_)
 refine Zr [.bool false] 1 ?_
 refine Zx ?_
 refine Zk [1, 2] [(1, pV bz0), (2, pV b1)] ?_
 refine Zs ?_
 obtain ⟨x1, hx1, hF⟩ := M.bind_some hF
 refine Run_regC (j := 5) (C := fun x => Hold h x [box b1 28 [iV p.From, iV p.To, iV p.Delay, iV p.Tokens]]) (by kernel_rfl) H1 (L' := [(3, .bool (!x1))]) ?_ (fun h2 H2 => ?_)
 ·refine Zy (.agg #[iV z0.Events, .slice az0Places z0.Places.length cz0Places]) (Y_cls fun hx Hx => (Y_loadA (t := 26) (n := 2) (p := ⟨bz0, 0, none⟩) (cs := [iV z0.Events, .slice az0Places z0.Places.length cz0Places]) (by kernel_rfl) (fun w => by kernel_rfl) (by kernel_rfl) rfl (VarAt.cells (n := 2) (off := 0) (vz0.at Hx.ext) rfl))) ?_
  refine Zy (.agg #[iV p.From, iV p.To, iV p.Delay, iV p.Tokens]) (Y_cls fun hx Hx => (Y_loadA (t := 28) (n := 4) (p := ⟨b1, 0, none⟩) (cs := [iV p.From, iV p.To, iV p.Delay, iV p.Tokens]) (by kernel_rfl) (fun w => by kernel_rfl) (by kernel_rfl) rfl (Hx.cells (n := 4) (off := 0) 0 rfl rfl))) ?_
  refine Zy (.bool x1) (Y_call (f := 24) (args := #[.agg #[iV z0.Events, .slice az0Places z0.Places.length cz0Places], .agg #[iV p.From, iV p.To, iV p.Delay, iV p.Tokens]]) (v := .bool x1) (by kernel_rfl) fun hx Hx => (w_impl_isPlace hx z0 az0Places cz0Places (rz0Places.at Hx.ext) p _ _ hx1).mono fun _ _ ⟨e, H'⟩ => ⟨e, Hx.call H' rfl⟩) ?_
  refine Zb [.bool (!x1), .bool (!x1)] 3 ?_
  exact Zd [3]
 have H3 := H2
 have hF := M.ret_some hF
 subst hF
 have H4 : Hold h h2 [] := H3.pk []
 exact Run_ret1 rfl (Zt (.bool (!x1))) ⟨rfl, H4⟩

theorem w_slices_IndexFunc_Place_F_impl_IsEventGraph_1 (h : Heap) (s_ : List TPlace) (as_ : Option Addr) (cs_ : Nat) (rs_ : Rd cd28 h (Lt h) as_ cs_ s_) (f0 : TGraph) (af0Places : Option Addr) (cf0Places : Nat) (rf0Places : Rd cd28 h (Lt h) af0Places cf0Places f0.Places) (bf0 : Nat) (vf0 : VarAt h bf0 26 [iV f0.Events, .slice af0Places f0.Places.length cf0Places]) (n : Nat) (r : Int) (hF : slices_IndexFunc_Place_F_impl_IsEventGraph_1 s_ f0 n = some r) :
  Fn Tryd.prog 54 #[.slice as_ s_.length cs_, .func (.func 41) #[] #[pV bf0]] h fun v h' => v = iV r ∧ Hold h h' [] := by
 unfold slices_IndexFunc_Place_F_impl_IsEventGraph_1 at hF
 refine Zo [.slice as_ s_.length cs_, .func (.func 41) #[] #[pV bf0]] Tryd.func54 rfl (fun w0 _ => ?_)
 have H0 := Hold.init h
 refine Zs ?_
 refine Zq [iV 0] [0, 1] [(0, .slice as_ s_.length cs_), (1, .func (.func 41) #[] #[pV bf0])] ?_
 refine Zs ?_
 refine Zs ?_
 refine Zq [.slice as_ s_.length cs_, iV (s_.length : Int), iV 0] [0, 1, 7, 8] [(0, .slice as_ s_.length cs_), (1, .func (.func 41) #[] #[pV bf0]), (7, iV (s_.length : Int)), (8, iV 0)] ?_
 obtain ⟨x1, gx1, hF⟩ := M.bind_some hF
 obtain ⟨hloy1, hhiy1, gx1⟩ := M.for_start gx1
 refine Run_join (fun L' h' => ∃ (s2 : Unit), x1 = .inl s2 ∧ L' = [] ∧ Hold h h' []) ?_ ?_
 ·rintro _ h2 ⟨s2, es2, rfl, H2⟩
  have hF := M.cont_inl' hF es2
  refine Zs ?_
  refine Zq [iV (-1)] [4] [(4, iV (-1))] ?_
  have hF := M.ret_some hF
  subst hF
  exact Run_ret1 rfl (Zt (iV (-1))) ⟨rfl, H2⟩
 ·refine Run_block ?_
  refine Zk [0, 1, 7, 8] [(0, .slice as_ s_.length cs_), (1, .func (.func 41) #[] #[pV bf0]), (7, iV (s_.length : Int)), (8, iV 0)] ?_
  refine Run_loop (fun m L' h' => ∃ (i1 : Int) (s1 : Unit), 0 ≤ i1 ∧ M.forN (s_.length : Int) _ _ n m i1 s1 = some x1 ∧ L' = [(0, .slice as_ s_.length cs_), (1, .func (.func 41) #[] #[pV bf0]), (7, iV (s_.length : Int)), (8, iV i1)] ∧ Hold h h' []) ((s_.length : Int) - 0 : Int).toNat ⟨0, (), Int.le_refl _, gx1, rfl, H0⟩ ?_
  rintro my1 _ h1 ⟨i1, s1, hloy1', gx1, rfl, H1⟩
  refine Zs ?_
  refine Zq [.bool (decide (i1 < (s_.length : Int)))] [0, 1, 7, 8, 9] [(0, .slice as_ s_.length cs_), (1, .func (.func 41) #[] #[pV bf0]), (7, iV (s_.length : Int)), (8, iV i1), (9, .bool (decide (i1 < (s_.length : Int))))] ?_
  refine Zs ?_
  refine Zc (decide (i1 < (s_.length : Int))) (fun hb1 => ?_) (fun hb1 => ?_)
  ·obtain ⟨my1, y1, rfl, hB1, hgoy1, houty1⟩ := M.for_go gx1 hb1
   have hlty1 := of_decide_eq_true hb1
   refine Run_skip ?_
   refine Zs ?_
   refine Run_block ?_
   refine Zs ?_
   refine Zq [iV i1, iV i1] [0, 1, 5, 7, 8] [(0, .slice as_ s_.length cs_), (1, .func (.func 41) #[] #[pV bf0]), (5, iV i1), (7, iV (s_.length : Int)), (8, iV i1)] ?_
   refine Zs ?_
   obtain ⟨x2, hx1, hB1⟩ := M.bind_some hB1
   obtain ⟨hx1l, hx1u, hx1⟩ := M.idx_some hx1
   obtain ⟨x3, hx2, hB1⟩ := M.bind_some hB1
   refine Run_regC (j := 6) (C := fun x => Hold h x []) (by kernel_rfl) H1 (L' := [(0, .slice as_ s_.length cs_), (1, .func (.func 41) #[] #[pV bf0]), (5, iV i1), (7, iV (s_.length : Int)), (8, iV i1), (16, .bool x3)]) ?_ (fun h3 H3 => ?_)
   ·refine Zb [.func (.func 41) #[] #[pV bf0], .slice as_ s_.length cs_, iV i1] 0 ?_
    refine Zy (.pointer (some (adr as_ (i1.toNat * 4)))) (Y_cls fun hx Hx => (Zi 24 28 4 (as_) (s_.length) (cs_) .i64 (i1) Tryd.underlying24 ((rs_.at H1.ext).cell hx1).1 hx1l hx1u)) ?_
    refine Zy (.agg #[iV x2.From, iV x2.To, iV x2.Delay, iV x2.Tokens]) (Y_cls fun hx Hx => (Y_loadA (t := 28) (n := 4) (p := adr as_ (i1.toNat * 4)) (cs := [iV x2.From, iV x2.To, iV x2.Delay, iV x2.Tokens]) (by kernel_rfl) (fun w => by kernel_rfl) (by kernel_rfl) rfl (cd28_elem (rs_.at Hx.ext) hx1))) ?_
    refine Zy (.bool x3) (Y_call (f := 41) (args := #[.agg #[iV x2.From, iV x2.To, iV x2.Delay, iV x2.Tokens], pV bf0]) (v := .bool x3) (by kernel_rfl) fun hx Hx => (w_impl_IsEventGraph_1 hx x2 f0 af0Places cf0Places (rf0Places.at Hx.ext) bf0 (vf0.at Hx.ext) _ _ hx2).mono fun _ _ ⟨e, H'⟩ => ⟨e, Hx.call H' rfl⟩) ?_
    exact Zd [0, 1, 5, 7, 8, 16]
   have H4 := H3
   refine Zc (x3) (fun hb2 => ?_) (fun hb2 => ?_)
   ·have hB1 := (M.ite_some hB1).1 hb2
    refine Zs ?_
    refine Zq [iV i1, iV i1] [4] [(4, iV i1)] ?_
    have hB1 := M.ret_some hB1
    have gx1 := houty1 _ hB1.symm
    have hF := M.cont_inr' hF gx1
    have hF := M.ret_some hF
    subst hF
    exact Run_ret1 rfl (Zt (iV i1)) ⟨rfl, H4⟩
   ·have hB1 := (M.ite_some hB1).2 hb2
    refine Run_skip ?_
    refine Run_blk ?_
    refine Zg 2 [(0, .slice as_ s_.length cs_), (1, .func (.func 41) #[] #[pV bf0]), (7, iV (s_.length : Int)), (8, iV (i1 + 1))] ?_ ?_
    ·refine Zy (iV (i1 + 1)) (Y_eq (v := iV (w64 (i1 + 1))) (Y_pure (fun w => by kernel_rfl)) (by rw [w64_eq _ (by omega)])) ?_
     refine Zb [iV (i1 + 1)] 1 ?_
     exact Zd [0, 1, 7, 8]
    have hB1 := M.ret_some hB1
    have gx1 := hgoy1 _ hB1.symm
    exact Za [0, 1, 7, 8] my1 ⟨i1 + 1, (), by omega, gx1, rfl, H4⟩
  ·have gx1 := M.for_end gx1 hb1
   subst gx1
   refine Run_exit (k' := _) rfl ?_
   exact Zf [] ⟨(), rfl, rfl, H1⟩

theorem w_slices_ContainsFunc_Place_F_impl_IsEventGraph_1 (h : Heap) (s_ : List TPlace) (as_ : Option Addr) (cs_ : Nat) (rs_ : Rd cd28 h (Lt h) as_ cs_ s_) (f0 : TGraph) (af0Places : Option Addr) (cf0Places : Nat) (rf0Places : Rd cd28 h (Lt h) af0Places cf0Places f0.Places) (bf0 : Nat) (vf0 : VarAt h bf0 26 [iV f0.Events, .slice af0Places f0.Places.length cf0Places]) (n : Nat) (r : Bool) (hF : slices_ContainsFunc_Place_F_impl_IsEventGraph_1 s_ f0 n = some r) :
  Fn Tryd.prog 40 #[.slice as_ s_.length cs_, .func (.func 41) #[] #[pV bf0]] h fun v h' => v = .bool r ∧ Hold h h' [] := by
 unfold slices_ContainsFunc_Place_F_impl_IsEventGraph_1 at hF
 refine Zo [.slice as_ s_.length cs_, .func (.func 41) #[] #[pV bf0]] Tryd.func40 rfl (fun w0 _ => ?_)
 have H0 := Hold.init h
 refine Zs ?_
 refine Zq [.bool false] [0, 1] [(0, .slice as_ s_.length cs_), (1, .func (.func 41) #[] #[pV bf0])] ?_
 refine Zs ?_
 obtain ⟨x1, hx1, hF⟩ := M.bind_some hF
 refine Run_regC (j := 5) (C := fun x => Hold h x []) (by kernel_rfl) H0 (L' := [(4, .bool (decide (0 ≤ x1)))]) ?_ (fun h1 H1 => ?_)
 ·refine Zb [.slice as_ s_.length cs_, .func (.func 41) #[] #[pV bf0]] 0 ?_
  refine Zy (iV x1) (Y_call (f := 54) (args := #[.slice as_ s_.length cs_, .func (.func 41) #[] #[pV bf0]]) (v := iV x1) (by kernel_rfl) fun hx Hx => (w_slices_IndexFunc_Place_F_impl_IsEventGraph_1 hx s_ as_ cs_ (rs_.at Hx.ext) f0 af0Places cf0Places (rf0Places.at Hx.ext) bf0 (vf0.at Hx.ext) _ _ hx1).mono fun _ _ ⟨e, H'⟩ => ⟨e, Hx.call H' rfl⟩) ?_
  refine Zb [.bool (decide (0 ≤ x1)), .bool (decide (0 ≤ x1))] 3 ?_
  exact Zd [4]
 have H2 := H1
 have hF := M.ret_some hF
 subst hF
 exact Run_ret1 rfl (Zt (.bool (decide (0 ≤ x1)))) ⟨rfl, H2⟩

theorem w_impl_IsEventGraph (h : Heap) (g : TGraph) (agPlaces : Option Addr) (cgPlaces : Nat) (rgPlaces : Rd cd28 h (Lt h) agPlaces cgPlaces g.Places) (n : Nat) (r : Bool) (hF : impl_IsEventGraph g n = some r) :
  Fn Tryd.prog 15 #[.agg #[iV g.Events, .slice agPlaces g.Places.length cgPlaces]] h fun v h' => v = .bool r ∧ Hold h h' [] := by
 unfold impl_IsEventGraph at hF
 refine Zo [.agg #[iV g.Events, .slice agPlaces g.Places.length cgPlaces]] Tryd.func15 rfl (fun w0 _ => ?_)
 have H0 := Hold.init h
 refine Zs ?_
 refine Run_ops ?_
 refine Ze ?_
 refine E_box (ty := 26) (cs := [iV g.Events, .slice agPlaces g.Places.length cgPlaces]) H0 (fun w => by kernel_rfl) (fun b1 h1 H1 => ?_)
 refine Zr [.bool false] 1 ?_
 refine Zx ?_
 refine Zk [1] [(1, pV b1)] ?_
 refine Zs ?_
 obtain ⟨x1, hx1, hF⟩ := M.bind_some hF
 obtain ⟨x3, gx3, hF⟩ := M.bind_some hF
 refine Run_regC (j := 17) (C := fun x => Hold h x [box b1 26 [iV g.Events, .slice agPlaces g.Places.length cgPlaces]]) (by kernel_rfl) H1 (L' := [(2, .bool x3)]) ?_ (fun h2 H2 => ?_)
 ·refine Zb [pV b1] 0 ?_
  refine Zy (iV g.Events) (Y_cls fun hx Hx => (Zl 2 (⟨b1, 0, none⟩) (iV g.Events) (Hx.cell 0 rfl rfl))) ?_
  refine Zy (.bool x1) (Y_cls fun hx Hx => (ZQ 39 #[iV g.Events, iV 1, iV 10] (w_impl_within hx g.Events 1 10 _ _ hx1))) ?_
  refine QRun_seq 9 [(1, pV b1), (11, .bool (x1 && (decide ((g.Places.length : Int) ≤ 30))))] ?_ ?_
  ·rcases Bool.eq_false_or_eq_true x1 with hb1 | hb1
   ·refine Zv x1 true hb1 ?_
    refine Zb [.pointer (some ⟨b1, 1, none⟩)] 4 ?_
    refine Zy (.slice agPlaces g.Places.length cgPlaces) (Y_cls fun hx Hx => (Zl 24 (⟨b1, 1, none⟩) (.slice agPlaces g.Places.length cgPlaces) (Hx.cell 0 rfl rfl))) ?_
    refine Zb [iV (g.Places.length : Int), .bool (decide ((g.Places.length : Int) ≤ 30))] 6 ?_
    refine QRun_bool (decide ((g.Places.length : Int) ≤ 30)) (x1 && (decide ((g.Places.length : Int) ≤ 30))) (by kernel_rfl) (fun w => by kernel_rfl) (by rw [hb1]; rfl) ?_
    exact Zd [1, 11]
   ·refine Zv x1 false hb1 ?_
    refine Zn ?_
    refine Zn ?_
    refine Zn ?_
    refine Zn ?_
    refine QRun_bool false (x1 && (decide ((g.Places.length : Int) ≤ 30))) (by kernel_rfl) (fun w => by kernel_rfl) (by rw [hb1]; rfl) ?_
    exact Zd [1, 11]
  refine QRun_seq 16 [(18, .bool x3)] ?_ ?_
  ·rcases Bool.eq_false_or_eq_true (x1 && (decide ((g.Places.length : Int) ≤ 30))) with hb2 | hb2
   ·refine Zv (x1 && (decide ((g.Places.length : Int) ≤ 30))) true hb2 ?_
    have gx3 := (M.ite_some gx3).1 hb2
    obtain ⟨x4, hx2, gx3⟩ := M.bind_some gx3
    have gx3 := M.ret_some gx3
    refine Zb [.pointer (some ⟨b1, 1, none⟩)] 10 ?_
    refine Zy (.slice agPlaces g.Places.length cgPlaces) (Y_cls fun hx Hx => (Zl 24 (⟨b1, 1, none⟩) (.slice agPlaces g.Places.length cgPlaces) (Hx.cell 0 rfl rfl))) ?_
    refine Zb [.func (.func 41) #[] #[pV b1]] 12 ?_
    refine Zy (.bool x4) (Y_call (f := 40) (args := #[.slice agPlaces g.Places.length cgPlaces, .func (.func 41) #[] #[pV b1]]) (v := .bool x4) (by kernel_rfl) fun hx Hx => (w_slices_ContainsFunc_Place_F_impl_IsEventGraph_1 hx g.Places agPlaces cgPlaces (rgPlaces.at Hx.ext) g agPlaces cgPlaces (rgPlaces.at Hx.ext) b1 (Hx.var 0 rfl) _ _ hx2).mono fun _ _ ⟨e, H'⟩ => ⟨e, Hx.call H' rfl⟩) ?_
    refine Zb [.bool (!x4)] 14 ?_
    refine Zv (!x4) x3 gx3 ?_
    exact Zd [18]
   ·refine Zv (x1 && (decide ((g.Places.length : Int) ≤ 30))) false hb2 ?_
    have gx3 := M.ret_some ((M.ite_some gx3).2 hb2)
    refine Zn ?_
    refine Zn ?_
    refine Zn ?_
    refine Zn ?_
    refine Zn ?_
    refine Zv false x3 gx3 ?_
    exact Zd [18]
  refine Zb [.bool x3] 16 ?_
  exact Zd [2]
 have H3 := H2
 have hF := M.ret_some hF
 subst hF
 have H4 : Hold h h2 [] := H3.pk []
 exact Run_ret1 rfl (Zt (.bool x3)) ⟨rfl, H4⟩

theorem w_impl_ReadGraph (h : Heap) (gl : Gl Tryd.prog h) (tb : Tab Tryd.prog h) (s_ : ByteArray) (n : Nat) (r : TGraph × Bool) (hF : impl_ReadGraph s_ n = some r) :
  Fn Tryd.prog 10 #[.string s_] h fun v h' => ∃ (a0 : Option Addr) (c0 : Nat), v = .tuple #[.agg #[iV r.1.Events, .slice a0 r.1.Places.length c0], .bool r.2] ∧ Hold h h' [own cd28 a0 r.1.Places.length c0 r.1.Places] := by
 unfold impl_ReadGraph at hF
 refine Zo [.string s_] Tryd.func10 rfl (fun w0 _ => ?_)
 have H0 := Hold.init h
 refine Zs ?_
 refine Run_ops ?_
 refine Ze ?_
 refine E_box (ty := 26) (cs := [iV 0, .slice none 0 0]) H0 (fun w => by kernel_rfl) (fun b1 h1 H1 => ?_)
 refine Zr [.bool false] 1 ?_
 refine Zx ?_
 refine Zk [0, 2] [(0, .string s_), (2, pV b1)] ?_
 refine Zs ?_
 refine Run_ops ?_
 refine Zr [.string s_] 0 ?_
 obtain ⟨x1, hx1, hF⟩ := M.bind_some hF
 refine Ze ?_
 refine ZC 31 #[.string s_, .string (⟨#[32]⟩ : ByteArray)] (w_strings_Split h1 (gl.at H1.ext) s_ (⟨#[32]⟩ : ByteArray) _ _ hx1) (fun v1 h2 hp1 => ?_)
 obtain ⟨a1, c1, rfl, H2⟩ := hp1
 have H3 : Hold h h2 [own cd9 a1 x1.length c1 x1, box b1 26 [iV 0, .slice none 0 0]] := H1.call H2 rfl
 refine Zr [.slice a1 x1.length c1] 2 ?_
 refine Zx ?_
 refine Zk [2, 4] [(2, pV b1), (4, .slice a1 x1.length c1)] ?_
 refine Zs ?_
 obtain ⟨x2, hx2, hF⟩ := M.bind_some hF
 obtain ⟨hx2l, hx2u, hx2⟩ := M.idx_some hx2
 obtain ⟨x3, hx3, hF⟩ := M.bind_some hF
 refine Run_regC (j := 9) (C := fun x => Hold h x [own cd9 a1 x1.length c1 x1, box b1 26 [iV 0, .slice none 0 0]]) (by kernel_rfl) H3 (L' := [(2, pV b1), (4, .slice a1 x1.length c1), (5, iV x3.1), (6, .bool x3.2)]) ?_ (fun h3 H4 => ?_)
 ·refine Zb [.slice a1 x1.length c1] 0 ?_
  refine Zy (.pointer (some (adr a1 (0 * 1)))) (Y_cls fun hx Hx => (Zi 52 9 1 (a1) (x1.length) (c1) .i64 (0) Tryd.underlying52 ((H3.rd 0 rfl).cell hx2).1 hx2l hx2u)) ?_
  refine Zy (.string x2) (Y_cls fun hx Hx => (Zl 9 (adr a1 (0 * 1)) (.string x2) (cd9_cell (Hx.rd 0 rfl) hx2))) ?_
  refine Zy (.tuple #[iV x3.1, .bool x3.2]) (Y_call (f := 32) (args := #[.string x2]) (v := .tuple #[iV x3.1, .bool x3.2]) (by kernel_rfl) fun hx Hx => (w_impl_readNumber hx (gl.at Hx.ext) (tb.at Hx.ext) x2 _ _ hx3).mono fun _ _ ⟨e, H'⟩ => ⟨e, Hx.call H' rfl⟩) ?_
  refine Zb [.tuple #[iV x3.1, .bool x3.2], iV x3.1, .bool x3.2, iV x3.1, .bool x3.2] 4 ?_
  exact Zd [2, 4, 5, 6]
 have H5 := H4
 refine Zs ?_
 refine Run_ops ?_
 refine Zr [iV x3.1, .agg #[iV x3.1, .slice none 0 0]] 0 ?_
 refine Ze ?_
 refine E_box (ty := 26) (cs := [iV 0, .slice none 0 0]) H5 (fun w => by kernel_rfl) (fun b2 h4 H6 => ?_)
 refine Ze ?_
 refine ZP 26 0 [iV x3.1, .slice none 0 0] (.agg #[iV x3.1, .slice none 0 0]) H6 (fun h5 H7 => ?_)
 refine Zx ?_
 refine Zk [2, 4, 6, 7] [(2, pV b1), (4, .slice a1 x1.length c1), (6, .bool x3.2), (7, pV b2)] ?_
 refine Zs ?_
 refine Zs ?_
 obtain ⟨x4, hx4, hF⟩ := M.bind_some hF
 obtain ⟨hx4a, hx4b, hx4c, hx4d⟩ := M.sub_some hx4
 have hn1 : x4.length = (x1.length : Int).toNat - (1 : Int).toNat := by rw [hx4d, List.length_take, List.length_drop]; omega
 refine Zg 4 [(2, pV b1), (6, .bool x3.2), (7, pV b2), (24, .slice (sliceA a1 c1 1 1) ((x1.length : Int).toNat - (1 : Int).toNat) (c1 - 1)), (25, iV (((x1.length : Int).toNat - (1 : Int).toNat : Nat) : Int)), (26, iV 0)] ?_ ?_
 ·refine Zb [.slice a1 x1.length c1] 0 ?_
  refine Zy (.slice (sliceA a1 c1 1 1) ((x1.length : Int).toNat - (1 : Int).toNat) (c1 - 1)) (Y_slice (t := 52) (e := 9) (sz := 1) (a := a1) (n := x1.length) (cap := c1) (lo := (some (.i64, 1))) (hi := none) (x := 1) (y := (x1.length : Int)) (by kernel_rfl) Tryd.underlying52 (by kernel_rfl) (H7.rd 1 rfl).fits rfl rfl hx4a hx4b hx4c) ?_
  refine Zb [iV (((x1.length : Int).toNat - (1 : Int).toNat : Nat) : Int), iV 0] 2 ?_
  exact Zd [2, 6, 7, 24, 25, 26]
 obtain ⟨x5, gx5, hF⟩ := M.bind_some hF
 obtain ⟨hloy1, hhiy1, gx5⟩ := M.for_start gx5
 refine Run_join (fun L' h' => ∃ (a3 : Option Addr) (c3 : Nat), L' = [(2, pV b1), (6, .bool x5.1), (7, pV b2)] ∧ Hold h h' [box b1 26 [iV 0, .slice none 0 0], box b2 26 [iV x3.1, .slice a3 x5.2.length c3], own cd28 a3 x5.2.length c3 x5.2]) ?_ ?_
 ·rintro _ h7 ⟨a3, c3, rfl, H9⟩
  refine Zs ?_
  refine Zs ?_
  obtain ⟨x9, gx9, hF⟩ := M.bind_some hF
  refine Run_regC (j := 7) (C := fun x => Hold h x [box b1 26 [iV 0, .slice none 0 0], box b2 26 [iV x3.1, .slice a3 x5.2.length c3], own cd28 a3 x5.2.length c3 x5.2]) (by kernel_rfl) H9 (L' := [(2, pV b1), (7, pV b2), (52, .bool x9)]) ?_ (fun h14 H25 => ?_)
  ·refine Zb [.bool x5.1, .bool (!x5.1)] 0 ?_
   refine QRun_seq 7 [(2, pV b1), (7, pV b2), (52, .bool x9)] ?_ ?_
   ·rcases Bool.eq_false_or_eq_true (!x5.1) with hb3 | hb3
    ·refine Zv (!x5.1) true hb3 ?_
     have gx9 := M.ret_some ((M.ite_some gx9).1 hb3)
     refine Zn ?_
     refine Zn ?_
     refine Zn ?_
     refine Zv true x9 gx9 ?_
     exact Zd [2, 7, 52]
    ·refine Zv (!x5.1) false hb3 ?_
     have gx9 := (M.ite_some gx9).2 hb3
     obtain ⟨x10, hx7, gx9⟩ := M.bind_some gx9
     have gx9 := M.ret_some gx9
     refine Zy (.agg #[iV x3.1, .slice a3 x5.2.length c3]) (Y_cls fun hx Hx => (Y_loadA (t := 26) (n := 2) (p := ⟨b2, 0, none⟩) (cs := [iV x3.1, .slice a3 x5.2.length c3]) (by kernel_rfl) (fun w => by kernel_rfl) (by kernel_rfl) rfl (Hx.cells (n := 2) (off := 0) 1 rfl rfl))) ?_
     refine Zy (.bool x10) (Y_call (f := 15) (args := #[.agg #[iV x3.1, .slice a3 x5.2.length c3]]) (v := .bool x10) (by kernel_rfl) fun hx Hx => (w_impl_IsEventGraph hx (⟨x3.1, x5.2⟩ : TGraph) a3 c3 (Hx.rd 2 rfl) _ _ hx7).mono fun _ _ ⟨e, H'⟩ => ⟨e, Hx.call H' rfl⟩) ?_
     refine Zb [.bool (!x10)] 5 ?_
     refine Zv (!x10) x9 gx9 ?_
     exact Zd [2, 7, 52]
   exact Zd [2, 7, 52]
  have H26 := H25
  refine Zc (x9) (fun hb4 => ?_) (fun hb4 => ?_)
  ·have hF := (M.ite_some hF).1 hb4
   refine Zs ?_
   refine Run_ops ?_
   refine Zr [.agg #[iV 0, .slice none 0 0]] 0 ?_
   refine Ze ?_
   refine ZP 26 0 [iV 0, .slice none 0 0] (.agg #[iV 0, .slice none 0 0]) H26 (fun h15 H27 => ?_)
   refine Zr [.bool false] 2 ?_
   refine Zx ?_
   refine Zk [2, 3] [(2, pV b1), (3, .bool false)] ?_
   have hF := M.ret_some hF
   subst hF
   have H28 := H27.empty cd28
   have H29 : Hold h h15 [own cd28 none 0 0 []] := H28.pk [0]
   exact Run_ret2 rfl (ResV_cell (n := 2) (cs := [iV 0, .slice none 0 0]) (by kernel_rfl) (fun w => by kernel_rfl) (by kernel_rfl) rfl (H27.cells (n := 2) (off := 0) 0 rfl rfl)) (Zt (.bool false)) ⟨none, 0, rfl, H29⟩
  ·have hF := (M.ite_some hF).2 hb4
   refine Run_skip ?_
   refine Zs ?_
   refine Run_ops ?_
   refine Zz (.agg #[iV x3.1, .slice a3 x5.2.length c3]) (Y_loadA (t := 26) (n := 2) (p := ⟨b2, 0, none⟩) (cs := [iV x3.1, .slice a3 x5.2.length c3]) (by kernel_rfl) (fun w => by kernel_rfl) (by kernel_rfl) rfl (H26.cells (n := 2) (off := 0) 1 rfl rfl)) ?_
   refine Ze ?_
   refine ZP 26 0 [iV x3.1, .slice a3 x5.2.length c3] (.agg #[iV x3.1, .slice a3 x5.2.length c3]) H26 (fun h16 H30 => ?_)
   refine Zr [.bool true] 2 ?_
   refine Zx ?_
   refine Zk [2, 3] [(2, pV b1), (3, .bool true)] ?_
   have hF := M.ret_some hF
   subst hF
   have H31 : Hold h h16 [own cd28 a3 x5.2.length c3 x5.2, box b1 26 [iV x3.1, .slice a3 x5.2.length c3], box b2 26 [iV x3.1, .slice a3 x5.2.length c3]] := H30.pk [2, 0, 1]
   have H32 : Hold h h16 [own cd28 a3 x5.2.length c3 x5.2] := H31.pk [0]
   exact Run_ret2 rfl (ResV_cell (n := 2) (cs := [iV x3.1, .slice a3 x5.2.length c3]) (by kernel_rfl) (fun w => by kernel_rfl) (by kernel_rfl) rfl (H30.cells (n := 2) (off := 0) 0 rfl rfl)) (Zt (.bool true)) ⟨a3, c3, rfl, H32⟩
 ·refine Run_block ?_
  have H33 := H7.empty cd28
  have H34 : Hold h h5 [box b1 26 [iV 0, .slice none 0 0], box b2 26 [iV x3.1, .slice none 0 0], own cd28 none 0 0 [], own cd9 a1 x1.length c1 x1] := H33.pk [3, 1, 0, 2]
  refine Zk [2, 6, 7, 24, 25, 26] [(2, pV b1), (6, .bool x3.2), (7, pV b2), (24, .slice (sliceA a1 c1 1 1) ((x1.length : Int).toNat - (1 : Int).toNat) (c1 - 1)), (25, iV (((x1.length : Int).toNat - (1 : Int).toNat : Nat) : Int)), (26, iV 0)] ?_
  refine Run_loop (fun m L' h' => ∃ (i1 : Int) (s1 : Bool × (List TPlace)) (a2 : Option Addr) (c2 : Nat), 0 ≤ i1 ∧ M.forN (((x1.length : Int).toNat - (1 : Int).toNat : Nat) : Int) _ _ n m i1 s1 = some x5 ∧ L' = [(2, pV b1), (6, .bool s1.1), (7, pV b2), (24, .slice (sliceA a1 c1 1 1) ((x1.length : Int).toNat - (1 : Int).toNat) (c1 - 1)), (25, iV (((x1.length : Int).toNat - (1 : Int).toNat : Nat) : Int)), (26, iV i1)] ∧ Hold h h' [box b1 26 [iV 0, .slice none 0 0], box b2 26 [iV x3.1, .slice a2 s1.2.length c2], own cd28 a2 s1.2.length c2 s1.2, own cd9 a1 x1.length c1 x1]) ((((x1.length : Int).toNat - (1 : Int).toNat : Nat) : Int) - 0 : Int).toNat ⟨0, (x3.2, []), none, 0, Int.le_refl _, gx5, rfl, H34⟩ ?_
  rintro my1 _ h6 ⟨i1, s1, a2, c2, hloy1', gx5, rfl, H8⟩
  refine Zs ?_
  refine Zq [.bool (decide (i1 < (((x1.length : Int).toNat - (1 : Int).toNat : Nat) : Int)))] [2, 6, 7, 24, 25, 26, 27] [(2, pV b1), (6, .bool s1.1), (7, pV b2), (24, .slice (sliceA a1 c1 1 1) ((x1.length : Int).toNat - (1 : Int).toNat) (c1 - 1)), (25, iV (((x1.length : Int).toNat - (1 : Int).toNat : Nat) : Int)), (26, iV i1), (27, .bool (decide (i1 < (((x1.length : Int).toNat - (1 : Int).toNat : Nat) : Int))))] ?_
  refine Zs ?_
  refine Zc (decide (i1 < (((x1.length : Int).toNat - (1 : Int).toNat : Nat) : Int))) (fun hb1 => ?_) (fun hb1 => ?_)
  ·obtain ⟨my1, y1, rfl, hB1, hgoy1, houty1⟩ := M.for_go gx5 hb1
   have hlty1 := of_decide_eq_true hb1
   refine Run_skip ?_
   refine Zs ?_
   refine Run_block ?_
   refine Zs ?_
   obtain ⟨x6, hx5, hB1⟩ := M.bind_some hB1
   obtain ⟨hx5l, hx5u, hx5⟩ := M.idx_some hx5
   refine Zg 3 [(2, pV b1), (6, .bool s1.1), (7, pV b2), (9, .string x6), (24, .slice (sliceA a1 c1 1 1) ((x1.length : Int).toNat - (1 : Int).toNat) (c1 - 1)), (25, iV (((x1.length : Int).toNat - (1 : Int).toNat : Nat) : Int)), (26, iV i1)] ?_ ?_
   ·refine Zy (.pointer (some (adr (sliceA a1 c1 1 1) (i1.toNat * 1)))) (Zi 52 9 1 (sliceA a1 c1 1 1) ((x1.length : Int).toNat - (1 : Int).toNat) (c1 - 1) .i64 (i1) Tryd.underlying52 ((show Rd _ _ _ _ _ x4 from hx4d ▸ ((H8.rd 3 rfl)).sub (by omega) (by omega)).cell hx5).1 hx5l (by rw [← hn1]; exact hx5u)) ?_
    refine Zy (.string x6) (Zl 9 (adr (sliceA a1 c1 1 1) (i1.toNat * 1)) (.string x6) (cd9_cell (show Rd _ _ _ _ _ x4 from hx4d ▸ ((H8.rd 3 rfl)).sub (by omega) (by omega)) hx5)) ?_
    refine Zb [.string x6] 2 ?_
    exact Zd [2, 6, 7, 9, 24, 25, 26]
   refine Zs ?_
   refine Run_ops ?_
   refine Zr [.string x6] 0 ?_
   obtain ⟨x7, hx6, hB1⟩ := M.bind_some hB1
   refine Ze ?_
   refine ZC 33 #[.string x6] (w_impl_readPlace h6 (gl.at H8.ext) (tb.at H8.ext) x6 _ _ hx6) (fun v2 h8 hp2 => ?_)
   obtain ⟨rfl, H10⟩ := hp2
   have H11 : Hold h h8 [box b1 26 [iV 0, .slice none 0 0], box b2 26 [iV x3.1, .slice a2 s1.2.length c2], own cd28 a2 s1.2.length c2 s1.2, own cd9 a1 x1.length c1 x1] := H8.call H10 rfl
   refine Zr [.tuple #[.agg #[iV x7.1.From, iV x7.1.To, iV x7.1.Delay, iV x7.1.Tokens], .bool x7.2], .agg #[iV x7.1.From, iV x7.1.To, iV x7.1.Delay, iV x7.1.Tokens], .bool x7.2] 2 ?_
   refine Ze ?_
   refine E_box (ty := 28) (cs := [iV 0, iV 0, iV 0, iV 0]) H11 (fun w => by kernel_rfl) (fun b3 h9 H12 => ?_)
   refine Ze ?_
   refine ZP 28 0 [iV x7.1.From, iV x7.1.To, iV x7.1.Delay, iV x7.1.Tokens] (.agg #[iV x7.1.From, iV x7.1.To, iV x7.1.Delay, iV x7.1.Tokens]) H12 (fun h10 H13 => ?_)
   refine Zr [.bool x7.2] 7 ?_
   refine Zx ?_
   refine Zk [2, 6, 7, 10, 11, 24, 25, 26] [(2, pV b1), (6, .bool s1.1), (7, pV b2), (10, pV b3), (11, .bool x7.2), (24, .slice (sliceA a1 c1 1 1) ((x1.length : Int).toNat - (1 : Int).toNat) (c1 - 1)), (25, iV (((x1.length : Int).toNat - (1 : Int).toNat : Nat) : Int)), (26, iV i1)] ?_
   refine Zs ?_
   refine Zg 5 [(2, pV b1), (6, .bool (s1.1 && x7.2)), (7, pV b2), (10, pV b3), (24, .slice (sliceA a1 c1 1 1) ((x1.length : Int).toNat - (1 : Int).toNat) (c1 - 1)), (25, iV (((x1.length : Int).toNat - (1 : Int).toNat : Nat) : Int)), (26, iV i1)] ?_ ?_
   ·refine Zb [.bool s1.1] 0 ?_
    refine QRun_seq 4 [(2, pV b1), (6, .bool s1.1), (7, pV b2), (10, pV b3), (24, .slice (sliceA a1 c1 1 1) ((x1.length : Int).toNat - (1 : Int).toNat) (c1 - 1)), (25, iV (((x1.length : Int).toNat - (1 : Int).toNat : Nat) : Int)), (26, iV i1), (38, .bool (s1.1 && x7.2))] ?_ ?_
    ·rcases Bool.eq_false_or_eq_true s1.1 with hb2 | hb2
     ·refine Zv s1.1 true hb2 ?_
      refine Zb [.bool x7.2] 2 ?_
      refine QRun_bool x7.2 (s1.1 && x7.2) (by kernel_rfl) (fun w => by kernel_rfl) (by rw [hb2]; rfl) ?_
      exact Zd [2, 6, 7, 10, 24, 25, 26, 38]
     ·refine Zv s1.1 false hb2 ?_
      refine Zn ?_
      refine QRun_bool false (s1.1 && x7.2) (by kernel_rfl) (fun w => by kernel_rfl) (by rw [hb2]; rfl) ?_
      exact Zd [2, 6, 7, 10, 24, 25, 26, 38]
    refine Zb [.bool (s1.1 && x7.2)] 4 ?_
    exact Zd [2, 6, 7, 10, 24, 25, 26]
   refine Run_ops ?_
   refine Zr [.pointer (some ⟨b2, 1, none⟩)] 0 ?_
   refine Zz (.slice a2 s1.2.length c2) (Zl 24 (⟨b2, 1, none⟩) (.slice a2 s1.2.length c2) (H13.cell 2 rfl rfl)) ?_
   refine Zz (.agg #[iV x7.1.From, iV x7.1.To, iV x7.1.Delay, iV x7.1.Tokens]) (Y_loadA (t := 28) (n := 4) (p := ⟨b3, 0, none⟩) (cs := [iV x7.1.From, iV x7.1.To, iV x7.1.Delay, iV x7.1.Tokens]) (by kernel_rfl) (fun w => by kernel_rfl) (by kernel_rfl) rfl (H13.cells (n := 4) (off := 0) 0 rfl rfl)) ?_
   refine Ze ?_
   refine E_lit (C := cd28) (n := 1) (l := ([x7.1] : List TPlace)) (cs := [iV x7.1.From, iV x7.1.To, iV x7.1.Delay, iV x7.1.Tokens]) H13 (fun w => by kernel_rfl) (Enc.consE (cd28_own (x7.1 : TPlace) _) (Enc.nil _ _) rfl) rfl (by decide) (fun a4 h11 H14 => ?_)
   obtain ⟨l1, hl1, hB1⟩ := M.bind_some hB1
   have hl1 := M.app_some hl1
   have H15 : Hold h h11 [own cd28 a2 s1.2.length c2 s1.2, own cd28 a4 1 1 ([x7.1] : List TPlace), box b3 28 [iV x7.1.From, iV x7.1.To, iV x7.1.Delay, iV x7.1.Tokens], box b1 26 [iV 0, .slice none 0 0], box b2 26 [iV x3.1, .slice a2 s1.2.length c2], own cd9 a1 x1.length c1 x1] := H14.pk [4, 0, 1, 2, 3, 5]
   have H16 : Hold h h11 [own cd28 a4 1 1 ([x7.1] : List TPlace), own cd28 a2 s1.2.length c2 s1.2, box b3 28 [iV x7.1.From, iV x7.1.To, iV x7.1.Delay, iV x7.1.Tokens], box b1 26 [iV 0, .slice none 0 0], box b2 26 [iV x3.1, .slice a2 s1.2.length c2], own cd9 a1 x1.length c1 x1] := H15.pk [1, 0, 2, 3, 4, 5]
   have H17 : Hold h h11 [own cd28 a2 s1.2.length c2 s1.2, own cd28 a4 1 1 ([x7.1] : List TPlace), box b3 28 [iV x7.1.From, iV x7.1.To, iV x7.1.Delay, iV x7.1.Tokens], box b1 26 [iV 0, .slice none 0 0], box b2 26 [iV x3.1, .slice a2 s1.2.length c2], own cd9 a1 x1.length c1 x1] := H16.pk [1, 0, 2, 3, 4, 5]
   refine Ze ?_
   refine E_app (C := cd28) (t := 24) (ty := 24) (n := s1.2.length) (m := 1) H17 cd28_ti rfl Tryd.underlying24 (by decide) (by kernel_rfl) hl1 (fun a5 c4 h12 H18 => ?_)
   refine Zr [.pointer (some ⟨b2, 1, none⟩)] 5 ?_
   have H20 : Hold h h12 [box b2 26 [iV x3.1, .slice a2 s1.2.length c2], own cd28 a5 l1.length c4 l1, box b3 28 [iV x7.1.From, iV x7.1.To, iV x7.1.Delay, iV x7.1.Tokens], box b1 26 [iV 0, .slice none 0 0], own cd9 a1 x1.length c1 x1] := H18.pk [3, 0, 1, 2, 4]
   refine Ze ?_
   refine ZP 24 1 [iV x3.1, .slice a5 l1.length c4] (.slice a5 l1.length c4) H20 (fun h13 H19 => ?_)
   refine Zx ?_
   refine Zk [2, 6, 7, 24, 25, 26] [(2, pV b1), (6, .bool (s1.1 && x7.2)), (7, pV b2), (24, .slice (sliceA a1 c1 1 1) ((x1.length : Int).toNat - (1 : Int).toNat) (c1 - 1)), (25, iV (((x1.length : Int).toNat - (1 : Int).toNat : Nat) : Int)), (26, iV i1)] ?_
   refine Run_blk ?_
   refine Zg 2 [(2, pV b1), (6, .bool (s1.1 && x7.2)), (7, pV b2), (24, .slice (sliceA a1 c1 1 1) ((x1.length : Int).toNat - (1 : Int).toNat) (c1 - 1)), (25, iV (((x1.length : Int).toNat - (1 : Int).toNat : Nat) : Int)), (26, iV (i1 + 1))] ?_ ?_
   ·refine Zy (iV (i1 + 1)) (Y_eq (v := iV (w64 (i1 + 1))) (Y_pure (fun w => by kernel_rfl)) (by rw [w64_eq _ (by omega)])) ?_
    refine Zb [iV (i1 + 1)] 1 ?_
    exact Zd [2, 6, 7, 24, 25, 26]
   have H21 : Hold h h13 [own cd28 a5 l1.length c4 l1, box b2 26 [iV x3.1, .slice a5 l1.length c4], box b3 28 [iV x7.1.From, iV x7.1.To, iV x7.1.Delay, iV x7.1.Tokens], box b1 26 [iV 0, .slice none 0 0], own cd9 a1 x1.length c1 x1] := H19.pk [1, 0, 2, 3, 4]
   have H22 : Hold h h13 [box b1 26 [iV 0, .slice none 0 0], box b2 26 [iV x3.1, .slice a5 l1.length c4], own cd28 a5 l1.length c4 l1, own cd9 a1 x1.length c1 x1] := H21.pk [3, 1, 0, 4]
   have hB1 := M.ret_some hB1
   have gx5 := hgoy1 _ hB1.symm
   exact Za [2, 6, 7, 24, 25, 26] my1 ⟨i1 + 1, ((s1.1 && x7.2), l1), a5, c4, by omega, gx5, rfl, H22⟩
  ·have gx5 := M.for_end gx5 hb1
   subst gx5
   refine Run_exit (k' := _) rfl ?_
   have H23 : Hold h h6 [own cd28 a2 s1.2.length c2 s1.2, box b1 26 [iV 0, .slice none 0 0], box b2 26 [iV x3.1, .slice a2 s1.2.length c2], own cd9 a1 x1.length c1 x1] := H8.pk [2, 0, 1, 3]
   have H24 : Hold h h6 [box b1 26 [iV 0, .slice none 0 0], box b2 26 [iV x3.1, .slice a2 s1.2.length c2], own cd28 a2 s1.2.length c2 s1.2] := H23.pk [1, 2, 0]
   exact Zf [2, 6, 7] ⟨a2, c2, rfl, H24⟩

theorem w_laws_eqPlace (h : Heap) (a_ : TPlace) (b : TPlace) (n : Nat) (r : Bool) (hF : laws_eqPlace a_ b n = some r) :
  Fn Tryd.prog 55 #[.agg #[iV a_.From, iV a_.To, iV a_.Delay, iV a_.Tokens], .agg #[iV b.From, iV b.To, iV b.Delay, iV b.Tokens]] h fun v h' => v = .bool r ∧ Hold h h' [] := by
 unfold laws_eqPlace at hF
 refine Zo [.agg #[iV a_.From, iV a_.To, iV a_.Delay, iV a_.Tokens], .agg #[iV b.From, iV b.To, iV b.Delay, iV b.Tokens]] Tryd.func55 rfl (fun w0 _ => ?_)
 have H0 := Hold.init h
 refine Zs ?_
 refine Run_ops ?_
 refine Ze ?_
 refine E_box (ty := 28) (cs := [iV a_.From, iV a_.To, iV a_.Delay, iV a_.Tokens]) H0 (fun w => by kernel_rfl) (fun b1 h1 H1 => ?_)
 refine Ze ?_
 refine E_box (ty := 28) (cs := [iV b.From, iV b.To, iV b.Delay, iV b.Tokens]) H1 (fun w => by kernel_rfl) (fun b2 h2 H2 => ?_)
 refine Zr [.bool false] 2 ?_
 refine Zx ?_
 refine Zk [2, 3] [(2, pV b1), (3, pV b2)] ?_
 refine Zs ?_
 refine Zs ?_
 refine Zg 5 [(2, pV b1), (3, pV b2), (9, .bool (a_.From != b.From))] ?_ ?_
 ·refine Zb [pV b1] 0 ?_
  refine Zy (iV a_.From) (Zl 2 (⟨b1, 0, none⟩) (iV a_.From) (H2.cell 1 rfl rfl)) ?_
  refine Zb [pV b2] 2 ?_
  refine Zy (iV b.From) (Zl 2 (⟨b2, 0, none⟩) (iV b.From) (H2.cell 0 rfl rfl)) ?_
  refine Zb [.bool (a_.From != b.From)] 4 ?_
  exact Zd [2, 3, 9]
 refine Zc (a_.From != b.From) (fun hb1 => ?_) (fun hb1 => ?_)
 ·have hF := (M.ite_some hF).1 hb1
  refine Zs ?_
  refine Zq [.bool false] [4] [(4, .bool false)] ?_
  have hF := M.ret_some hF
  subst hF
  have H3 : Hold h h2 [] := H2.pk []
  exact Run_ret1 rfl (Zt (.bool false)) ⟨rfl, H3⟩
 ·have hF := (M.ite_some hF).2 hb1
  refine Run_skip ?_
  refine Zs ?_
  refine Zs ?_
  refine Zg 5 [(2, pV b1), (3, pV b2), (14, .bool (a_.To != b.To))] ?_ ?_
  ·refine Zb [.pointer (some ⟨b1, 1, none⟩)] 0 ?_
   refine Zy (iV a_.To) (Zl 2 (⟨b1, 1, none⟩) (iV a_.To) (H2.cell 1 rfl rfl)) ?_
   refine Zb [.pointer (some ⟨b2, 1, none⟩)] 2 ?_
   refine Zy (iV b.To) (Zl 2 (⟨b2, 1, none⟩) (iV b.To) (H2.cell 0 rfl rfl)) ?_
   refine Zb [.bool (a_.To != b.To)] 4 ?_
   exact Zd [2, 3, 14]
  refine Zc (a_.To != b.To) (fun hb2 => ?_) (fun hb2 => ?_)
  ·have hF := (M.ite_some hF).1 hb2
   refine Zs ?_
   refine Zq [.bool false] [4] [(4, .bool false)] ?_
   have hF := M.ret_some hF
   subst hF
   have H4 : Hold h h2 [] := H2.pk []
   exact Run_ret1 rfl (Zt (.bool false)) ⟨rfl, H4⟩
  ·have hF := (M.ite_some hF).2 hb2
   refine Run_skip ?_
   refine Zs ?_
   refine Zs ?_
   refine Zg 5 [(2, pV b1), (3, pV b2), (19, .bool (a_.Delay != b.Delay))] ?_ ?_
   ·refine Zb [.pointer (some ⟨b1, 2, none⟩)] 0 ?_
    refine Zy (iV a_.Delay) (Zl 2 (⟨b1, 2, none⟩) (iV a_.Delay) (H2.cell 1 rfl rfl)) ?_
    refine Zb [.pointer (some ⟨b2, 2, none⟩)] 2 ?_
    refine Zy (iV b.Delay) (Zl 2 (⟨b2, 2, none⟩) (iV b.Delay) (H2.cell 0 rfl rfl)) ?_
    refine Zb [.bool (a_.Delay != b.Delay)] 4 ?_
    exact Zd [2, 3, 19]
   refine Zc (a_.Delay != b.Delay) (fun hb3 => ?_) (fun hb3 => ?_)
   ·have hF := (M.ite_some hF).1 hb3
    refine Zs ?_
    refine Zq [.bool false] [4] [(4, .bool false)] ?_
    have hF := M.ret_some hF
    subst hF
    have H5 : Hold h h2 [] := H2.pk []
    exact Run_ret1 rfl (Zt (.bool false)) ⟨rfl, H5⟩
   ·have hF := (M.ite_some hF).2 hb3
    refine Run_skip ?_
    refine Zs ?_
    refine Zs ?_
    refine Zg 5 [(24, .bool (a_.Tokens != b.Tokens))] ?_ ?_
    ·refine Zb [.pointer (some ⟨b1, 3, none⟩)] 0 ?_
     refine Zy (iV a_.Tokens) (Zl 2 (⟨b1, 3, none⟩) (iV a_.Tokens) (H2.cell 1 rfl rfl)) ?_
     refine Zb [.pointer (some ⟨b2, 3, none⟩)] 2 ?_
     refine Zy (iV b.Tokens) (Zl 2 (⟨b2, 3, none⟩) (iV b.Tokens) (H2.cell 0 rfl rfl)) ?_
     refine Zb [.bool (a_.Tokens != b.Tokens)] 4 ?_
     exact Zd [24]
    refine Zc (a_.Tokens != b.Tokens) (fun hb4 => ?_) (fun hb4 => ?_)
    ·have hF := (M.ite_some hF).1 hb4
     refine Zs ?_
     refine Zq [.bool false] [4] [(4, .bool false)] ?_
     have hF := M.ret_some hF
     subst hF
     have H6 : Hold h h2 [] := H2.pk []
     exact Run_ret1 rfl (Zt (.bool false)) ⟨rfl, H6⟩
    ·have hF := (M.ite_some hF).2 hb4
     refine Run_skip ?_
     refine Zs ?_
     refine Zq [.bool true] [4] [(4, .bool true)] ?_
     have hF := M.ret_some hF
     subst hF
     have H7 : Hold h h2 [] := H2.pk []
     exact Run_ret1 rfl (Zt (.bool true)) ⟨rfl, H7⟩

theorem w_laws_eqPlaceS (h : Heap) (a_ : List TPlace) (aa_ : Option Addr) (ca_ : Nat) (ra_ : Rd cd28 h (Lt h) aa_ ca_ a_) (b : List TPlace) (ab : Option Addr) (cb : Nat) (rb : Rd cd28 h (Lt h) ab cb b) (n : Nat) (r : Bool) (hF : laws_eqPlaceS a_ b n = some r) :
  Fn Tryd.prog 43 #[.slice aa_ a_.length ca_, .slice ab b.length cb] h fun v h' => v = .bool r ∧ Hold h h' [] := by
 unfold laws_eqPlaceS at hF
 refine Zo [.slice aa_ a_.length ca_, .slice ab b.length cb] Tryd.func43 rfl (fun w0 _ => ?_)
 have H0 := Hold.init h
 refine Zs ?_
 refine Zq [.bool false] [0, 1] [(0, .slice aa_ a_.length ca_), (1, .slice ab b.length cb)] ?_
 refine Zs ?_
 refine Zs ?_
 refine Zq [.slice aa_ a_.length ca_, iV (a_.length : Int), .slice ab b.length cb, iV (b.length : Int), .bool ((a_.length : Int) != (b.length : Int))] [0, 1, 10] [(0, .slice aa_ a_.length ca_), (1, .slice ab b.length cb), (10, .bool ((a_.length : Int) != (b.length : Int)))] ?_
 refine Zc ((a_.length : Int) != (b.length : Int)) (fun hb1 => ?_) (fun hb1 => ?_)
 ·have hF := (M.ite_some hF).1 hb1
  refine Zs ?_
  refine Zq [.bool false] [4] [(4, .bool false)] ?_
  have hF := M.ret_some hF
  subst hF
  exact Run_ret1 rfl (Zt (.bool false)) ⟨rfl, H0⟩
 ·have hF := (M.ite_some hF).2 hb1
  refine Run_skip ?_
  refine Zs ?_
  refine Zs ?_
  refine Zq [iV 0] [0, 1, 5] [(0, .slice aa_ a_.length ca_), (1, .slice ab b.length cb), (5, iV 0)] ?_
  obtain ⟨x1, gx1, hF⟩ := M.bind_some hF
  obtain ⟨hloy1, hhiy1, gx1⟩ := M.for_start gx1
  refine Run_join (fun L' h' => ∃ (s2 : Unit), x1 = .inl s2 ∧ L' = [] ∧ Hold h h' []) ?_ ?_
  ·rintro _ h2 ⟨s2, es2, rfl, H2⟩
   have hF := M.cont_inl' hF es2
   refine Zs ?_
   refine Zq [.bool true] [4] [(4, .bool true)] ?_
   have hF := M.ret_some hF
   subst hF
   exact Run_ret1 rfl (Zt (.bool true)) ⟨rfl, H2⟩
  ·refine Run_block ?_
   refine Zk [0, 1, 5] [(0, .slice aa_ a_.length ca_), (1, .slice ab b.length cb), (5, iV 0)] ?_
   refine Run_loop (fun m L' h' => ∃ (i1 : Int) (s1 : Unit), 0 ≤ i1 ∧ M.forN (a_.length : Int) _ _ n m i1 s1 = some x1 ∧ L' = [(0, .slice aa_ a_.length ca_), (1, .slice ab b.length cb), (5, iV i1)] ∧ Hold h h' []) ((a_.length : Int) - 0 : Int).toNat ⟨0, (), Int.le_refl _, gx1, rfl, H0⟩ ?_
   rintro my1 _ h1 ⟨i1, s1, hloy1', gx1, rfl, H1⟩
   refine Zs ?_
   refine Zs ?_
   refine Zq [iV i1, .slice aa_ a_.length ca_, iV (a_.length : Int), .bool (decide (i1 < (a_.length : Int)))] [0, 1, 5, 14] [(0, .slice aa_ a_.length ca_), (1, .slice ab b.length cb), (5, iV i1), (14, .bool (decide (i1 < (a_.length : Int))))] ?_
   refine Zc (decide (i1 < (a_.length : Int))) (fun hb2 => ?_) (fun hb2 => ?_)
   ·obtain ⟨my1, y1, rfl, hB1, hgoy1, houty1⟩ := M.for_go gx1 hb2
    have hlty1 := of_decide_eq_true hb2
    refine Run_skip ?_
    refine Zs ?_
    refine Run_block ?_
    refine Zs ?_
    obtain ⟨x2, hx1, hB1⟩ := M.bind_some hB1
    obtain ⟨hx1l, hx1u, hx1⟩ := M.idx_some hx1
    obtain ⟨x3, hx2, hB1⟩ := M.bind_some hB1
    obtain ⟨hx2l, hx2u, hx2⟩ := M.idx_some hx2
    obtain ⟨x4, hx3, hB1⟩ := M.bind_some hB1
    refine Run_drawC (j := 10) (C := fun x => Hold h x []) mixed (by kernel_rfl) (by kernel_rfl) H1 (L' := [(0, .slice aa_ a_.length ca_), (1, .slice ab b.length cb), (5, iV i1), (26, .bool (!x4))]) ?_ (fun h3 H3 => ?_)
    ·refine Zb [.slice aa_ a_.length ca_, iV i1] 0 ?_
     refine Zy (.pointer (some (adr aa_ (i1.toNat * 4)))) (Y_cls fun hx Hx => (Zi 24 28 4 (aa_) (a_.length) (ca_) .i64 (i1) Tryd.underlying24 ((ra_.at H1.ext).cell hx1).1 hx1l hx1u)) ?_
     refine Zy (.agg #[iV x2.From, iV x2.To, iV x2.Delay, iV x2.Tokens]) (Y_cls fun hx Hx => (Y_loadA (t := 28) (n := 4) (p := adr aa_ (i1.toNat * 4)) (cs := [iV x2.From, iV x2.To, iV x2.Delay, iV x2.Tokens]) (by kernel_rfl) (fun w => by kernel_rfl) (by kernel_rfl) rfl (cd28_elem (ra_.at Hx.ext) hx1))) ?_
     refine Zb [.slice ab b.length cb, iV i1] 4 ?_
     refine Zy (.pointer (some (adr ab (i1.toNat * 4)))) (Y_cls fun hx Hx => (Zi 24 28 4 (ab) (b.length) (cb) .i64 (i1) Tryd.underlying24 ((rb.at H1.ext).cell hx2).1 hx2l hx2u)) ?_
     refine Zy (.agg #[iV x3.From, iV x3.To, iV x3.Delay, iV x3.Tokens]) (Y_cls fun hx Hx => (Y_loadA (t := 28) (n := 4) (p := adr ab (i1.toNat * 4)) (cs := [iV x3.From, iV x3.To, iV x3.Delay, iV x3.Tokens]) (by kernel_rfl) (fun w => by kernel_rfl) (by kernel_rfl) rfl (cd28_elem (rb.at Hx.ext) hx2))) ?_
     refine Zy (.bool x4) (Y_call (f := 55) (args := #[.agg #[iV x2.From, iV x2.To, iV x2.Delay, iV x2.Tokens], .agg #[iV x3.From, iV x3.To, iV x3.Delay, iV x3.Tokens]]) (v := .bool x4) (by kernel_rfl) fun hx Hx => (w_laws_eqPlace hx x2 x3 _ _ hx3).mono fun _ _ ⟨e, H'⟩ => ⟨e, Hx.call H' rfl⟩) ?_
     refine Zb [.bool (!x4)] 9 ?_
     exact Zd [0, 1, 5, 26]
    have H4 := H3
    refine Zc (!x4) (fun hb3 => ?_) (fun hb3 => ?_)
    ·have hB1 := (M.ite_some hB1).1 hb3
     refine Zs ?_
     refine Zq [.bool false] [4] [(4, .bool false)] ?_
     have hB1 := M.ret_some hB1
     have gx1 := houty1 _ hB1.symm
     have hF := M.cont_inr' hF gx1
     have hF := M.ret_some hF
     subst hF
     exact Run_ret1 rfl (Zt (.bool false)) ⟨rfl, H4⟩
    ·have hB1 := (M.ite_some hB1).2 hb3
     refine Run_skip ?_
     refine Run_blk ?_
     refine Zg 3 [(0, .slice aa_ a_.length ca_), (1, .slice ab b.length cb), (5, iV (i1 + 1))] ?_ ?_
     ·refine Zb [iV i1] 0 ?_
      refine Zy (iV (i1 + 1)) (Y_eq (v := iV (w64 (i1 + 1))) (Y_pure (fun w => by kernel_rfl)) (by rw [w64_eq _ (by omega)])) ?_
      refine Zb [iV (i1 + 1)] 2 ?_
      exact Zd [0, 1, 5]
     have hB1 := M.ret_some hB1
     have gx1 := hgoy1 _ hB1.symm
     exact Za [0, 1, 5] my1 ⟨i1 + 1, (), by omega, gx1, rfl, H4⟩
   ·have gx1 := M.for_end gx1 hb2
    subst gx1
    refine Run_exit (k' := _) rfl ?_
    exact Zf [] ⟨(), rfl, rfl, H1⟩

theorem w_laws_eqEventGraph (h : Heap) (a_ : TGraph) (aa_Places : Option Addr) (ca_Places : Nat) (ra_Places : Rd cd28 h (Lt h) aa_Places ca_Places a_.Places) (b : TGraph) (abPlaces : Option Addr) (cbPlaces : Nat) (rbPlaces : Rd cd28 h (Lt h) abPlaces cbPlaces b.Places) (n : Nat) (r : Bool) (hF : laws_eqEventGraph a_ b n = some r) :
  Fn Tryd.prog 17 #[.agg #[iV a_.Events, .slice aa_Places a_.Places.length ca_Places], .agg #[iV b.Events, .slice abPlaces b.Places.length cbPlaces]] h fun v h' => v = .bool r ∧ Hold h h' [] := by
 unfold laws_eqEventGraph at hF
 refine Zo [.agg #[iV a_.Events, .slice aa_Places a_.Places.length ca_Places], .agg #[iV b.Events, .slice abPlaces b.Places.length cbPlaces]] Tryd.func17 rfl (fun w0 _ => ?_)
 have H0 := Hold.init h
 refine Zs ?_
 refine Run_ops ?_
 refine Ze ?_
 refine E_box (ty := 26) (cs := [iV a_.Events, .slice aa_Places a_.Places.length ca_Places]) H0 (fun w => by kernel_rfl) (fun b1 h1 H1 => ?_)
 refine Ze ?_
 refine E_box (ty := 26) (cs := [iV b.Events, .slice abPlaces b.Places.length cbPlaces]) H1 (fun w => by kernel_rfl) (fun b2 h2 H2 => ?_)
 refine Zr [.bool false] 2 ?_
 refine Zx ?_
 refine Zk [2, 3] [(2, pV b1), (3, pV b2)] ?_
 refine Zs ?_
 refine Zs ?_
 refine Zg 5 [(2, pV b1), (3, pV b2), (9, .bool (a_.Events != b.Events))] ?_ ?_
 ·refine Zb [pV b1] 0 ?_
  refine Zy (iV a_.Events) (Zl 2 (⟨b1, 0, none⟩) (iV a_.Events) (H2.cell 1 rfl rfl)) ?_
  refine Zb [pV b2] 2 ?_
  refine Zy (iV b.Events) (Zl 2 (⟨b2, 0, none⟩) (iV b.Events) (H2.cell 0 rfl rfl)) ?_
  refine Zb [.bool (a_.Events != b.Events)] 4 ?_
  exact Zd [2, 3, 9]
 refine Zc (a_.Events != b.Events) (fun hb1 => ?_) (fun hb1 => ?_)
 ·have hF := (M.ite_some hF).1 hb1
  refine Zs ?_
  refine Zq [.bool false] [4] [(4, .bool false)] ?_
  have hF := M.ret_some hF
  subst hF
  have H3 : Hold h h2 [] := H2.pk []
  exact Run_ret1 rfl (Zt (.bool false)) ⟨rfl, H3⟩
 ·have hF := (M.ite_some hF).2 hb1
  refine Run_skip ?_
  refine Zs ?_
  refine Zs ?_
  obtain ⟨x1, hx1, hF⟩ := M.bind_some hF
  refine Run_regC (j := 6) (C := fun x => Hold h x [box b2 26 [iV b.Events, .slice abPlaces b.Places.length cbPlaces], box b1 26 [iV a_.Events, .slice aa_Places a_.Places.length ca_Places]]) (by kernel_rfl) H2 (L' := [(15, .bool (!x1))]) ?_ (fun h3 H4 => ?_)
  ·refine Zb [.pointer (some ⟨b1, 1, none⟩)] 0 ?_
   refine Zy (.slice aa_Places a_.Places.length ca_Places) (Y_cls fun hx Hx => (Zl 24 (⟨b1, 1, none⟩) (.slice aa_Places a_.Places.length ca_Places) (Hx.cell 1 rfl rfl))) ?_
   refine Zb [.pointer (some ⟨b2, 1, none⟩)] 2 ?_
   refine Zy (.slice abPlaces b.Places.length cbPlaces) (Y_cls fun hx Hx => (Zl 24 (⟨b2, 1, none⟩) (.slice abPlaces b.Places.length cbPlaces) (Hx.cell 0 rfl rfl))) ?_
   refine Zy (.bool x1) (Y_call (f := 43) (args := #[.slice aa_Places a_.Places.length ca_Places, .slice abPlaces b.Places.length cbPlaces]) (v := .bool x1) (by kernel_rfl) fun hx Hx => (w_laws_eqPlaceS hx a_.Places aa_Places ca_Places (ra_Places.at Hx.ext) b.Places abPlaces cbPlaces (rbPlaces.at Hx.ext) _ _ hx1).mono fun _ _ ⟨e, H'⟩ => ⟨e, Hx.call H' rfl⟩) ?_
   refine Zb [.bool (!x1)] 5 ?_
   exact Zd [15]
  have H5 := H4
  refine Zc (!x1) (fun hb2 => ?_) (fun hb2 => ?_)
  ·have hF := (M.ite_some hF).1 hb2
   refine Zs ?_
   refine Zq [.bool false] [4] [(4, .bool false)] ?_
   have hF := M.ret_some hF
   subst hF
   have H6 : Hold h h3 [] := H5.pk []
   exact Run_ret1 rfl (Zt (.bool false)) ⟨rfl, H6⟩
  ·have hF := (M.ite_some hF).2 hb2
   refine Run_skip ?_
   refine Zs ?_
   refine Zq [.bool true] [4] [(4, .bool true)] ?_
   have hF := M.ret_some hF
   subst hF
   have H7 : Hold h h3 [] := H5.pk []
   exact Run_ret1 rfl (Zt (.bool true)) ⟨rfl, H7⟩

theorem w_laws_heldPlaceS (h : Heap) (a_ : List TPlace) {Sa_ : Bs} (aa_ : Option Addr) (ca_ : Nat) (ra_ : Rd cd28 h Sa_ aa_ ca_ a_) (k_ : Int) (n : Nat) (r : Int) (hF : laws_heldPlaceS a_ k_ n = some r) :
  Fn Tryd.prog 45 #[.slice aa_ a_.length ca_, iV k_] h fun v h' => v = iV r ∧ h' = h := by
 unfold laws_heldPlaceS at hF
 refine Zo [.slice aa_ a_.length ca_, iV k_] Tryd.func45 rfl (fun w0 _ => ?_)
 refine Zs ?_
 refine Zq [iV 0] [0, 1] [(0, .slice aa_ a_.length ca_), (1, iV k_)] ?_
 refine Zs ?_
 refine Zs ?_
 refine Zq [iV 0] [0, 1, 5] [(0, .slice aa_ a_.length ca_), (1, iV k_), (5, iV 0)] ?_
 obtain ⟨x1, gx1, hF⟩ := M.bind_some hF
 obtain ⟨hloy1, hhiy1, gx1⟩ := M.for_start gx1
 refine Run_join (fun L' h' => ∃ (s2 : Int), x1 = .inl s2 ∧ L' = [(1, iV s2)] ∧ h = h') ?_ ?_
 ·rintro _ _ ⟨s2, es2, rfl, rfl⟩
  have hF := M.cont_inl' hF es2
  refine Zs ?_
  refine Zq [iV s2, iV s2] [4] [(4, iV s2)] ?_
  have hF := M.ret_some hF
  subst hF
  exact Run_ret1 rfl (Zt (iV s2)) ⟨rfl, rfl⟩
 ·refine Run_block ?_
  refine Zk [0, 1, 5] [(0, .slice aa_ a_.length ca_), (1, iV k_), (5, iV 0)] ?_
  refine Run_loop (fun m L' h' => ∃ (i1 : Int) (s1 : Int), 0 ≤ i1 ∧ M.forN (a_.length : Int) _ _ n m i1 s1 = some x1 ∧ L' = [(0, .slice aa_ a_.length ca_), (1, iV s1), (5, iV i1)] ∧ h = h') ((a_.length : Int) - 0 : Int).toNat ⟨0, k_, Int.le_refl _, gx1, rfl, rfl⟩ ?_
  rintro my1 _ _ ⟨i1, s1, hloy1', gx1, rfl, rfl⟩
  refine Zs ?_
  refine Zs ?_
  refine Zq [iV i1, .slice aa_ a_.length ca_, iV (a_.length : Int), .bool (decide (i1 < (a_.length : Int)))] [0, 1, 5, 9] [(0, .slice aa_ a_.length ca_), (1, iV s1), (5, iV i1), (9, .bool (decide (i1 < (a_.length : Int))))] ?_
  refine Zc (decide (i1 < (a_.length : Int))) (fun hb1 => ?_) (fun hb1 => ?_)
  ·obtain ⟨my1, y1, rfl, hB1, hgoy1, houty1⟩ := M.for_go gx1 hb1
   have hlty1 := of_decide_eq_true hb1
   refine Run_skip ?_
   refine Zs ?_
   refine Run_block ?_
   refine Zs ?_
   refine Zs ?_
   obtain ⟨x2, hx1, hB1⟩ := M.bind_some hB1
   obtain ⟨hx1l, hx1u, hx1⟩ := M.idx_some hx1
   refine Zg 7 [(0, .slice aa_ a_.length ca_), (1, iV s1), (5, iV i1), (18, .bool (x2.From != s1))] ?_ ?_
   ·refine Zb [.slice aa_ a_.length ca_, iV i1] 0 ?_
    refine Zy (.pointer (some (adr aa_ (i1.toNat * 4)))) (Zi 24 28 4 (aa_) (a_.length) (ca_) .i64 (i1) Tryd.underlying24 (ra_.cell hx1).1 hx1l hx1u) ?_
    refine Zb [.pointer (some ((adr aa_ (i1.toNat * 4)).add 0))] 3 ?_
    refine Zy (iV x2.From) (Zl 2 ((adr aa_ (i1.toNat * 4)).add 0) (iV x2.From) (cd28_f0 ra_ hx1)) ?_
    refine Zb [iV s1, .bool (x2.From != s1)] 5 ?_
    exact Zd [0, 1, 5, 18]
   refine Zc (x2.From != s1) (fun hb2 => ?_) (fun hb2 => ?_)
   ·have hB1 := (M.ite_some hB1).1 hb2
    refine Zs ?_
    refine Zq [iV (-1)] [4] [(4, iV (-1))] ?_
    have hB1 := M.ret_some hB1
    have gx1 := houty1 _ hB1.symm
    have hF := M.cont_inr' hF gx1
    have hF := M.ret_some hF
    subst hF
    exact Run_ret1 rfl (Zt (iV (-1))) ⟨rfl, rfl⟩
   ·have hB1 := (M.ite_some hB1).2 hb2
    refine Run_skip ?_
    refine Zs ?_
    refine Zq [iV s1, iV (w64 (s1 + 1)), iV (w64 (s1 + 1))] [0, 1, 5] [(0, .slice aa_ a_.length ca_), (1, iV (w64 (s1 + 1))), (5, iV i1)] ?_
    refine Zs ?_
    refine Zs ?_
    obtain ⟨x3, hx2, hB1⟩ := M.bind_some hB1
    obtain ⟨hx2l, hx2u, hx2⟩ := M.idx_some hx2
    refine Zg 7 [(0, .slice aa_ a_.length ca_), (1, iV (w64 (s1 + 1))), (5, iV i1), (27, .bool (x3.To != (w64 (s1 + 1))))] ?_ ?_
    ·refine Zb [.slice aa_ a_.length ca_, iV i1] 0 ?_
     refine Zy (.pointer (some (adr aa_ (i1.toNat * 4)))) (Zi 24 28 4 (aa_) (a_.length) (ca_) .i64 (i1) Tryd.underlying24 (ra_.cell hx2).1 hx2l hx2u) ?_
     refine Zb [.pointer (some ((adr aa_ (i1.toNat * 4)).add 1))] 3 ?_
     refine Zy (iV x3.To) (Zl 2 ((adr aa_ (i1.toNat * 4)).add 1) (iV x3.To) (cd28_f1 ra_ hx2)) ?_
     refine Zb [iV (w64 (s1 + 1)), .bool (x3.To != (w64 (s1 + 1)))] 5 ?_
     exact Zd [0, 1, 5, 27]
    refine Zc (x3.To != (w64 (s1 + 1))) (fun hb3 => ?_) (fun hb3 => ?_)
    ·have hB1 := (M.ite_some hB1).1 hb3
     refine Zs ?_
     refine Zq [iV (-1)] [4] [(4, iV (-1))] ?_
     have hB1 := M.ret_some hB1
     have gx1 := houty1 _ hB1.symm
     have hF := M.cont_inr' hF gx1
     have hF := M.ret_some hF
     subst hF
     exact Run_ret1 rfl (Zt (iV (-1))) ⟨rfl, rfl⟩
    ·have hB1 := (M.ite_some hB1).2 hb3
     refine Run_skip ?_
     refine Zs ?_
     refine Zq [iV (w64 (s1 + 1)), iV (w64 ((w64 (s1 + 1)) + 1)), iV (w64 ((w64 (s1 + 1)) + 1))] [0, 1, 5] [(0, .slice aa_ a_.length ca_), (1, iV (w64 ((w64 (s1 + 1)) + 1))), (5, iV i1)] ?_
     refine Zs ?_
     refine Zs ?_
     obtain ⟨x4, hx3, hB1⟩ := M.bind_some hB1
     obtain ⟨hx3l, hx3u, hx3⟩ := M.idx_some hx3
     refine Zg 7 [(0, .slice aa_ a_.length ca_), (1, iV (w64 ((w64 (s1 + 1)) + 1))), (5, iV i1), (36, .bool (x4.Delay != (w64 ((w64 (s1 + 1)) + 1))))] ?_ ?_
     ·refine Zb [.slice aa_ a_.length ca_, iV i1] 0 ?_
      refine Zy (.pointer (some (adr aa_ (i1.toNat * 4)))) (Zi 24 28 4 (aa_) (a_.length) (ca_) .i64 (i1) Tryd.underlying24 (ra_.cell hx3).1 hx3l hx3u) ?_
      refine Zb [.pointer (some ((adr aa_ (i1.toNat * 4)).add 2))] 3 ?_
      refine Zy (iV x4.Delay) (Zl 2 ((adr aa_ (i1.toNat * 4)).add 2) (iV x4.Delay) (cd28_f2 ra_ hx3)) ?_
      refine Zb [iV (w64 ((w64 (s1 + 1)) + 1)), .bool (x4.Delay != (w64 ((w64 (s1 + 1)) + 1)))] 5 ?_
      exact Zd [0, 1, 5, 36]
     refine Zc (x4.Delay != (w64 ((w64 (s1 + 1)) + 1))) (fun hb4 => ?_) (fun hb4 => ?_)
     ·have hB1 := (M.ite_some hB1).1 hb4
      refine Zs ?_
      refine Zq [iV (-1)] [4] [(4, iV (-1))] ?_
      have hB1 := M.ret_some hB1
      have gx1 := houty1 _ hB1.symm
      have hF := M.cont_inr' hF gx1
      have hF := M.ret_some hF
      subst hF
      exact Run_ret1 rfl (Zt (iV (-1))) ⟨rfl, rfl⟩
     ·have hB1 := (M.ite_some hB1).2 hb4
      refine Run_skip ?_
      refine Zs ?_
      refine Zq [iV (w64 ((w64 (s1 + 1)) + 1)), iV (w64 ((w64 ((w64 (s1 + 1)) + 1)) + 1)), iV (w64 ((w64 ((w64 (s1 + 1)) + 1)) + 1))] [0, 1, 5] [(0, .slice aa_ a_.length ca_), (1, iV (w64 ((w64 ((w64 (s1 + 1)) + 1)) + 1))), (5, iV i1)] ?_
      refine Zs ?_
      refine Zs ?_
      obtain ⟨x5, hx4, hB1⟩ := M.bind_some hB1
      obtain ⟨hx4l, hx4u, hx4⟩ := M.idx_some hx4
      refine Zg 7 [(0, .slice aa_ a_.length ca_), (1, iV (w64 ((w64 ((w64 (s1 + 1)) + 1)) + 1))), (5, iV i1), (45, .bool (x5.Tokens != (w64 ((w64 ((w64 (s1 + 1)) + 1)) + 1))))] ?_ ?_
      ·refine Zb [.slice aa_ a_.length ca_, iV i1] 0 ?_
       refine Zy (.pointer (some (adr aa_ (i1.toNat * 4)))) (Zi 24 28 4 (aa_) (a_.length) (ca_) .i64 (i1) Tryd.underlying24 (ra_.cell hx4).1 hx4l hx4u) ?_
       refine Zb [.pointer (some ((adr aa_ (i1.toNat * 4)).add 3))] 3 ?_
       refine Zy (iV x5.Tokens) (Zl 2 ((adr aa_ (i1.toNat * 4)).add 3) (iV x5.Tokens) (cd28_f3 ra_ hx4)) ?_
       refine Zb [iV (w64 ((w64 ((w64 (s1 + 1)) + 1)) + 1)), .bool (x5.Tokens != (w64 ((w64 ((w64 (s1 + 1)) + 1)) + 1)))] 5 ?_
       exact Zd [0, 1, 5, 45]
      refine Zc (x5.Tokens != (w64 ((w64 ((w64 (s1 + 1)) + 1)) + 1))) (fun hb5 => ?_) (fun hb5 => ?_)
      ·have hB1 := (M.ite_some hB1).1 hb5
       refine Zs ?_
       refine Zq [iV (-1)] [4] [(4, iV (-1))] ?_
       have hB1 := M.ret_some hB1
       have gx1 := houty1 _ hB1.symm
       have hF := M.cont_inr' hF gx1
       have hF := M.ret_some hF
       subst hF
       exact Run_ret1 rfl (Zt (iV (-1))) ⟨rfl, rfl⟩
      ·have hB1 := (M.ite_some hB1).2 hb5
       refine Run_skip ?_
       refine Zq [iV (w64 ((w64 ((w64 (s1 + 1)) + 1)) + 1)), iV (w64 ((w64 ((w64 ((w64 (s1 + 1)) + 1)) + 1)) + 1)), iV (w64 ((w64 ((w64 ((w64 (s1 + 1)) + 1)) + 1)) + 1))] [0, 1, 5] [(0, .slice aa_ a_.length ca_), (1, iV (w64 ((w64 ((w64 ((w64 (s1 + 1)) + 1)) + 1)) + 1))), (5, iV i1)] ?_
       refine Run_blk ?_
       refine Zg 3 [(0, .slice aa_ a_.length ca_), (1, iV (w64 ((w64 ((w64 ((w64 (s1 + 1)) + 1)) + 1)) + 1))), (5, iV (i1 + 1))] ?_ ?_
       ·refine Zb [iV i1] 0 ?_
        refine Zy (iV (i1 + 1)) (Y_eq (v := iV (w64 (i1 + 1))) (Y_pure (fun w => by kernel_rfl)) (by rw [w64_eq _ (by omega)])) ?_
        refine Zb [iV (i1 + 1)] 2 ?_
        exact Zd [0, 1, 5]
       have hB1 := M.ret_some hB1
       have gx1 := hgoy1 _ hB1.symm
       exact Za [0, 1, 5] my1 ⟨i1 + 1, (w64 ((w64 ((w64 ((w64 (s1 + 1)) + 1)) + 1)) + 1)), by omega, gx1, rfl, rfl⟩
  ·have gx1 := M.for_end gx1 hb1
   subst gx1
   refine Run_exit (k' := _) rfl ?_
   exact Zf [1] ⟨s1, rfl, rfl, rfl⟩

theorem w_laws_heldEventGraph (h : Heap) (a_ : TGraph) (aa_Places : Option Addr) (ca_Places : Nat) (ra_Places : Rd cd28 h (Lt h) aa_Places ca_Places a_.Places) (k_ : Int) (n : Nat) (r : Int) (hF : laws_heldEventGraph a_ k_ n = some r) :
  Fn Tryd.prog 19 #[.agg #[iV a_.Events, .slice aa_Places a_.Places.length ca_Places], iV k_] h fun v h' => v = iV r ∧ Hold h h' [] := by
 unfold laws_heldEventGraph at hF
 refine Zo [.agg #[iV a_.Events, .slice aa_Places a_.Places.length ca_Places], iV k_] Tryd.func19 rfl (fun w0 _ => ?_)
 have H0 := Hold.init h
 refine Zs ?_
 refine Run_ops ?_
 refine Ze ?_
 refine E_box (ty := 26) (cs := [iV a_.Events, .slice aa_Places a_.Places.length ca_Places]) H0 (fun w => by kernel_rfl) (fun b1 h1 H1 => ?_)
 refine Zr [iV 0] 1 ?_
 refine Zx ?_
 refine Zk [1, 2] [(1, iV k_), (2, pV b1)] ?_
 refine Zs ?_
 obtain ⟨x1, hx1, hF⟩ := M.bind_some hF
 refine Zg 5 [(1, iV x1)] ?_ ?_
 ·refine Zb [.pointer (some ⟨b1, 1, none⟩)] 0 ?_
  refine Zy (.slice aa_Places a_.Places.length ca_Places) (Zl 24 (⟨b1, 1, none⟩) (.slice aa_Places a_.Places.length ca_Places) (H1.cell 0 rfl rfl)) ?_
  refine Zb [iV k_] 2 ?_
  refine Zy (iV x1) (ZQ 45 #[.slice aa_Places a_.Places.length ca_Places, iV k_] (w_laws_heldPlaceS h1 a_.Places aa_Places ca_Places (ra_Places.at H1.ext) k_ _ _ hx1)) ?_
  refine Zb [iV x1] 4 ?_
  exact Zd [1]
 refine Zs ?_
 refine Zs ?_
 refine Zq [iV x1, .bool (decide (x1 < 0))] [1, 10] [(1, iV x1), (10, .bool (decide (x1 < 0)))] ?_
 refine Zc (decide (x1 < 0)) (fun hb1 => ?_) (fun hb1 => ?_)
 ·have hF := (M.ite_some hF).1 hb1
  refine Zs ?_
  refine Zq [iV (-1)] [4] [(4, iV (-1))] ?_
  have hF := M.ret_some hF
  subst hF
  have H2 : Hold h h1 [] := H1.pk []
  exact Run_ret1 rfl (Zt (iV (-1))) ⟨rfl, H2⟩
 ·have hF := (M.ite_some hF).2 hb1
  refine Run_skip ?_
  refine Zs ?_
  refine Zq [iV x1, iV x1] [4] [(4, iV x1)] ?_
  have hF := M.ret_some hF
  subst hF
  have H3 : Hold h h1 [] := H1.pk []
  exact Run_ret1 rfl (Zt (iV x1)) ⟨rfl, H3⟩

theorem w_laws_markPlaceS (h hE : Heap) (it : Item) (a_ : List TPlace) (aa_ : Option Addr) (ca_ : Nat) (k_ : Int) (HM : Hold h hE [own cd28 aa_ a_.length ca_ a_, it]) (n : Nat) (r : Int × (List TPlace)) (hF : laws_markPlaceS a_ k_ n = some r) :
  Fn Tryd.prog 44 #[.slice aa_ a_.length ca_, iV k_] hE fun v h' => v = iV r.1 ∧ Hold h h' [own cd28 aa_ a_.length ca_ r.2, it] := by
 unfold laws_markPlaceS at hF
 refine Zo [.slice aa_ a_.length ca_, iV k_] Tryd.func44 rfl (fun w0 _ => ?_)
 refine Zs ?_
 refine Zq [iV 0] [0, 1] [(0, .slice aa_ a_.length ca_), (1, iV k_)] ?_
 refine Zs ?_
 refine Zs ?_
 refine Zq [iV 0] [0, 1, 5] [(0, .slice aa_ a_.length ca_), (1, iV k_), (5, iV 0)] ?_
 obtain ⟨x1, gx1, hF⟩ := M.bind_some hF
 obtain ⟨hloy1, hhiy1, gx1⟩ := M.for_start gx1
 refine Run_join (fun L' h' => L' = [(1, iV x1.2)] ∧ Hold h h' [own cd28 aa_ a_.length ca_ x1.1, it]) ?_ ?_
 ·rintro _ h2 ⟨rfl, H2⟩
  refine Zs ?_
  refine Zq [iV x1.2, iV x1.2] [4] [(4, iV x1.2)] ?_
  have hF := M.ret_some hF
  subst hF
  exact Run_ret1 rfl (Zt (iV x1.2)) ⟨rfl, H2⟩
 ·refine Run_block ?_
  refine Zk [0, 1, 5] [(0, .slice aa_ a_.length ca_), (1, iV k_), (5, iV 0)] ?_
  refine Run_loop (fun m L' h' => ∃ (i1 : Int) (s1 : (List TPlace) × Int), 0 ≤ i1 ∧ M.forN (a_.length : Int) _ _ n m i1 s1 = some x1 ∧ L' = [(0, .slice aa_ a_.length ca_), (1, iV s1.2), (5, iV i1)] ∧ Hold h h' [own cd28 aa_ a_.length ca_ s1.1, it]) ((a_.length : Int) - 0 : Int).toNat ⟨0, (a_, k_), Int.le_refl _, gx1, rfl, HM⟩ ?_
  rintro my1 _ h1 ⟨i1, s1, hloy1', gx1, rfl, H1⟩
  refine Zs ?_
  refine Zs ?_
  refine Zq [iV i1, .slice aa_ a_.length ca_, iV (a_.length : Int), .bool (decide (i1 < (a_.length : Int)))] [0, 1, 5, 9] [(0, .slice aa_ a_.length ca_), (1, iV s1.2), (5, iV i1), (9, .bool (decide (i1 < (a_.length : Int))))] ?_
  refine Zc (decide (i1 < (a_.length : Int))) (fun hb1 => ?_) (fun hb1 => ?_)
  ·obtain ⟨my1, y1, rfl, hB1, hgoy1, houty1⟩ := M.for_go gx1 hb1
   have hlty1 := of_decide_eq_true hb1
   refine Run_skip ?_
   refine Zs ?_
   refine Run_block ?_
   refine Zs ?_
   refine Run_ops ?_
   obtain ⟨x2, hx1, hB1⟩ := M.bind_some hB1
   obtain ⟨hx1l, hx1u, hx1⟩ := M.idx_some hx1
   refine Zr [.slice aa_ a_.length ca_, iV i1, iV s1.2] 0 ?_
   refine Zz (.pointer (some (adr aa_ (i1.toNat * 4)))) (Zi 24 28 4 (aa_) (a_.length) (ca_) .i64 (i1) Tryd.underlying24 ((H1.rd 0 rfl).cell hx1).1 hx1l (by rw [← (H1.len 0 rfl)]; exact hx1u)) ?_
   refine Zr [.pointer (some ((adr aa_ (i1.toNat * 4)).add 0))] 4 ?_
   obtain ⟨l1, hu1, hB1⟩ := M.bind_some hB1
   have hu1 := M.upd_some hu1
   refine Ze ?_
   refine E_putF (C := cd28) (t := 2) (sz := 4) (f := 0) (j := i1) (y := x2) (y' := (⟨s1.2, x2.To, x2.Delay, x2.Tokens⟩ : TPlace)) (v := iV s1.2) H1 (by kernel_rfl) rfl (by kernel_rfl) rfl rfl (fun _ vs G o => by obtain ⟨rfl, rfl⟩ := o; exact ⟨rfl, rfl⟩) (by kernel_rfl) hx1 hu1 (fun h3 H3 => ?_)
   refine Zx ?_
   refine Zk [0, 1, 5] [(0, .slice aa_ a_.length ca_), (1, iV s1.2), (5, iV i1)] ?_
   refine Zs ?_
   refine Zq [iV s1.2, iV (w64 (s1.2 + 1)), iV (w64 (s1.2 + 1))] [0, 1, 5] [(0, .slice aa_ a_.length ca_), (1, iV (w64 (s1.2 + 1))), (5, iV i1)] ?_
   refine Zs ?_
   refine Run_ops ?_
   obtain ⟨x3, hx2, hB1⟩ := M.bind_some hB1
   obtain ⟨hx2l, hx2u, hx2⟩ := M.idx_some hx2
   refine Zr [.slice aa_ a_.length ca_, iV i1, iV (w64 (s1.2 + 1))] 0 ?_
   refine Zz (.pointer (some (adr aa_ (i1.toNat * 4)))) (Zi 24 28 4 (aa_) (a_.length) (ca_) .i64 (i1) Tryd.underlying24 ((H3.rd 0 rfl).cell hx2).1 hx2l (by rw [← (H3.len 0 rfl)]; exact hx2u)) ?_
   refine Zr [.pointer (some ((adr aa_ (i1.toNat * 4)).add 1))] 4 ?_
   obtain ⟨l2, hu2, hB1⟩ := M.bind_some hB1
   have hu2 := M.upd_some hu2
   refine Ze ?_
   refine E_putF (C := cd28) (t := 2) (sz := 4) (f := 1) (j := i1) (y := x3) (y' := (⟨x3.From, (w64 (s1.2 + 1)), x3.Delay, x3.Tokens⟩ : TPlace)) (v := iV (w64 (s1.2 + 1))) H3 (by kernel_rfl) rfl (by kernel_rfl) rfl rfl (fun _ vs G o => by obtain ⟨rfl, rfl⟩ := o; exact ⟨rfl, rfl⟩) (by kernel_rfl) hx2 hu2 (fun h4 H4 => ?_)
   refine Zx ?_
   refine Zk [0, 1, 5] [(0, .slice aa_ a_.length ca_), (1, iV (w64 (s1.2 + 1))), (5, iV i1)] ?_
   refine Zs ?_
   refine Zq [iV (w64 (s1.2 + 1)), iV (w64 ((w64 (s1.2 + 1)) + 1)), iV (w64 ((w64 (s1.2 + 1)) + 1))] [0, 1, 5] [(0, .slice aa_ a_.length ca_), (1, iV (w64 ((w64 (s1.2 + 1)) + 1))), (5, iV i1)] ?_
   refine Zs ?_
   refine Run_ops ?_
   obtain ⟨x4, hx3, hB1⟩ := M.bind_some hB1
   obtain ⟨hx3l, hx3u, hx3⟩ := M.idx_some hx3
   refine Zr [.slice aa_ a_.length ca_, iV i1, iV (w64 ((w64 (s1.2 + 1)) + 1))] 0 ?_
   refine Zz (.pointer (some (adr aa_ (i1.toNat * 4)))) (Zi 24 28 4 (aa_) (a_.length) (ca_) .i64 (i1) Tryd.underlying24 ((H4.rd 0 rfl).cell hx3).1 hx3l (by rw [← (H4.len 0 rfl)]; exact hx3u)) ?_
   refine Zr [.pointer (some ((adr aa_ (i1.toNat * 4)).add 2))] 4 ?_
   obtain ⟨l3, hu3, hB1⟩ := M.bind_some hB1
   have hu3 := M.upd_some hu3
   refine Ze ?_
   refine E_putF (C := cd28) (t := 2) (sz := 4) (f := 2) (j := i1) (y := x4) (y' := (⟨x4.From, x4.To, (w64 ((w64 (s1.2 + 1)) + 1)), x4.Tokens⟩ : TPlace)) (v := iV (w64 ((w64 (s1.2 + 1)) + 1))) H4 (by kernel_rfl) rfl (by kernel_rfl) rfl rfl (fun _ vs G o => by obtain ⟨rfl, rfl⟩ := o; exact ⟨rfl, rfl⟩) (by kernel_rfl) hx3 hu3 (fun h5 H5 => ?_)
   refine Zx ?_
   refine Zk [0, 1, 5] [(0, .slice aa_ a_.length ca_), (1, iV (w64 ((w64 (s1.2 + 1)) + 1))), (5, iV i1)] ?_
   refine Zs ?_
   refine Zq [iV (w64 ((w64 (s1.2 + 1)) + 1)), iV (w64 ((w64 ((w64 (s1.2 + 1)) + 1)) + 1)), iV (w64 ((w64 ((w64 (s1.2 + 1)) + 1)) + 1))] [0, 1, 5] [(0, .slice aa_ a_.length ca_), (1, iV (w64 ((w64 ((w64 (s1.2 + 1)) + 1)) + 1))), (5, iV i1)] ?_
   refine Zs ?_
   refine Run_ops ?_
   obtain ⟨x5, hx4, hB1⟩ := M.bind_some hB1
   obtain ⟨hx4l, hx4u, hx4⟩ := M.idx_some hx4
   refine Zr [.slice aa_ a_.length ca_, iV i1, iV (w64 ((w64 ((w64 (s1.2 + 1)) + 1)) + 1))] 0 ?_
   refine Zz (.pointer (some (adr aa_ (i1.toNat * 4)))) (Zi 24 28 4 (aa_) (a_.length) (ca_) .i64 (i1) Tryd.underlying24 ((H5.rd 0 rfl).cell hx4).1 hx4l (by rw [← (H5.len 0 rfl)]; exact hx4u)) ?_
   refine Zr [.pointer (some ((adr aa_ (i1.toNat * 4)).add 3))] 4 ?_
   obtain ⟨l4, hu4, hB1⟩ := M.bind_some hB1
   have hu4 := M.upd_some hu4
   refine Ze ?_
   refine E_putF (C := cd28) (t := 2) (sz := 4) (f := 3) (j := i1) (y := x5) (y' := (⟨x5.From, x5.To, x5.Delay, (w64 ((w64 ((w64 (s1.2 + 1)) + 1)) + 1))⟩ : TPlace)) (v := iV (w64 ((w64 ((w64 (s1.2 + 1)) + 1)) + 1))) H5 (by kernel_rfl) rfl (by kernel_rfl) rfl rfl (fun _ vs G o => by obtain ⟨rfl, rfl⟩ := o; exact ⟨rfl, rfl⟩) (by kernel_rfl) hx4 hu4 (fun h6 H6 => ?_)
   refine Zx ?_
   refine Zk [0, 1, 5] [(0, .slice aa_ a_.length ca_), (1, iV (w64 ((w64 ((w64 (s1.2 + 1)) + 1)) + 1))), (5, iV i1)] ?_
   refine Zq [iV (w64 ((w64 ((w64 (s1.2 + 1)) + 1)) + 1)), iV (w64 ((w64 ((w64 ((w64 (s1.2 + 1)) + 1)) + 1)) + 1)), iV (w64 ((w64 ((w64 ((w64 (s1.2 + 1)) + 1)) + 1)) + 1))] [0, 1, 5] [(0, .slice aa_ a_.length ca_), (1, iV (w64 ((w64 ((w64 ((w64 (s1.2 + 1)) + 1)) + 1)) + 1))), (5, iV i1)] ?_
   refine Run_blk ?_
   refine Zg 3 [(0, .slice aa_ a_.length ca_), (1, iV (w64 ((w64 ((w64 ((w64 (s1.2 + 1)) + 1)) + 1)) + 1))), (5, iV (i1 + 1))] ?_ ?_
   ·refine Zb [iV i1] 0 ?_
    refine Zy (iV (i1 + 1)) (Y_eq (v := iV (w64 (i1 + 1))) (Y_pure (fun w => by kernel_rfl)) (by rw [w64_eq _ (by omega)])) ?_
    refine Zb [iV (i1 + 1)] 2 ?_
    exact Zd [0, 1, 5]
   have hB1 := M.ret_some hB1
   have gx1 := hgoy1 _ hB1.symm
   exact Za [0, 1, 5] my1 ⟨i1 + 1, (l4, (w64 ((w64 ((w64 ((w64 (s1.2 + 1)) + 1)) + 1)) + 1))), by omega, gx1, rfl, H6⟩
  ·have gx1 := M.for_end gx1 hb1
   subst gx1
   refine Run_exit (k' := _) rfl ?_
   exact Zf [1] ⟨rfl, H1⟩

theorem w_laws_markEventGraph (h hE : Heap) (it : Item) (a_ : TGraph) (aa_Places : Option Addr) (ca_Places : Nat) (k_ : Int) (HM : Hold h hE [own cd28 aa_Places a_.Places.length ca_Places a_.Places, it]) (n : Nat) (r : Int × (List TPlace)) (hF : laws_markEventGraph a_ k_ n = some r) :
  Fn Tryd.prog 18 #[.agg #[iV a_.Events, .slice aa_Places a_.Places.length ca_Places], iV k_] hE fun v h' => v = iV r.1 ∧ Hold h h' [own cd28 aa_Places a_.Places.length ca_Places r.2, it] := by
 unfold laws_markEventGraph at hF
 refine Zo [.agg #[iV a_.Events, .slice aa_Places a_.Places.length ca_Places], iV k_] Tryd.func18 rfl (fun w0 _ => ?_)
 refine Zs ?_
 refine Run_ops ?_
 refine Ze ?_
 refine E_box (ty := 26) (cs := [iV a_.Events, .slice aa_Places a_.Places.length ca_Places]) HM (fun w => by kernel_rfl) (fun b1 h1 H1 => ?_)
 refine Zr [iV 0] 1 ?_
 refine Zx ?_
 refine Zk [1, 2] [(1, iV k_), (2, pV b1)] ?_
 refine Zs ?_
 refine Run_ops ?_
 refine Zr [.pointer (some ⟨b1, 1, none⟩)] 0 ?_
 refine Zz (.slice aa_Places a_.Places.length ca_Places) (Zl 24 (⟨b1, 1, none⟩) (.slice aa_Places a_.Places.length ca_Places) (H1.cell 0 rfl rfl)) ?_
 refine Zr [iV k_] 2 ?_
 obtain ⟨x1, hx1, hF⟩ := M.bind_some hF
 have H2 : Hold h h1 [own cd28 aa_Places a_.Places.length ca_Places a_.Places, box b1 26 [iV a_.Events, .slice aa_Places a_.Places.length ca_Places], it] := H1.pk [1, 0, 2]
 have H3 : Hold h h1 [own cd28 aa_Places a_.Places.length ca_Places a_.Places, bun [box b1 26 [iV a_.Events, .slice aa_Places a_.Places.length ca_Places], it]] := H2.bd 1
 refine Ze ?_
 refine ZC 44 #[.slice aa_Places a_.Places.length ca_Places, iV k_] (w_laws_markPlaceS h h1 _ a_.Places aa_Places ca_Places k_ H3 _ _ hx1) (fun v1 h2 hp1 => ?_)
 obtain ⟨rfl, H4⟩ := hp1
 have H5 : Hold h h2 [own cd28 aa_Places a_.Places.length ca_Places x1.2, box b1 26 [iV a_.Events, .slice aa_Places a_.Places.length ca_Places], it] := H4.ub (js := _) 1 1 H2
 refine Zr [iV x1.1] 4 ?_
 refine Zx ?_
 refine Zk [1] [(1, iV x1.1)] ?_
 refine Zs ?_
 refine Zq [iV x1.1, iV x1.1] [4] [(4, iV x1.1)] ?_
 have hF := M.ret_some hF
 subst hF
 have H6 : Hold h h2 [own cd28 aa_Places a_.Places.length ca_Places x1.2, it] := H5.pk [0, 2]
 exact Run_ret1 rfl (Zt (iV x1.1)) ⟨rfl, H6⟩

end Go.Proofs.YtfhphkiggdepaaaDoor
