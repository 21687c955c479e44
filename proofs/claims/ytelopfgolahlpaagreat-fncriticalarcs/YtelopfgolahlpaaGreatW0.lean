/-
  Walks: each Go function, called with what reads as plain data, returns what its plain program computes.
  Conditions: None beyond the given statement.
-/
import Derived.Test.YtelopfgolahlpaaGreatRows
import Derived.Test.YtelopfgolahlpaaGreatP
import Derived.Test.YtelopfgolahlpaaGreatShort
import Derived.Test.YtelopfgolahlpaaGreatSort
import Derived.Test.YtelopfgolahlpaaGreatLay
namespace Go.Proofs.YtelopfgolahlpaaGreat
open Go
attribute [local irreducible] setL setB opA fineI idleI fineB evB okB markB markBs readyB readyBs chainB lk rho pickL dropSlot tailOK
theorem mixed : Tryz.prog.follows .mixedOrders = true := by kernel_rfl
def cd5 : Cd (Int) := flatCd 5 1 (by decide) (fun x => [.int .u8 x]) (fun _ => rfl) (fun _ => rfl)
theorem cd5_own (x : Int) : ∀ h, cd5.own h x [.int .u8 x] [] := fun _ => ⟨rfl, rfl⟩
theorem cd5_flat : Flat cd5 := fun _ _ _ _ o => o.2
theorem cd5_copies : Copies cd5 := fun _ _ _ _ o => ⟨o, rfl⟩
theorem cd5_zero : ∀ h, cd5.own h 0 [.int .u8 0] [] := fun _ => ⟨rfl, rfl⟩
theorem cd5_ti : TI Tryz.prog 5 (.int .u8 0) 1 1 := by unfold TI; kernel_rfl
theorem cd5_cell {h : Heap} {B : Bs} {a : Option Addr} {c : Nat} {l : List (Int)} {j : Nat} {x : Int} (r : Rd cd5 h B a c l) (hx : l[j]? = some x) : cellH h (adr a (j * 1)) = some (.int .u8 x) := r.cell1 hx (fun vs o => by rw [show vs = _ from o]; rfl)
def cd2 : Cd (Int) := flatCd 2 1 (by decide) (fun x => [.int .i64 x]) (fun _ => rfl) (fun _ => rfl)
theorem cd2_own (x : Int) : ∀ h, cd2.own h x [.int .i64 x] [] := fun _ => ⟨rfl, rfl⟩
theorem cd2_flat : Flat cd2 := fun _ _ _ _ o => o.2
theorem cd2_copies : Copies cd2 := fun _ _ _ _ o => ⟨o, rfl⟩
theorem cd2_zero : ∀ h, cd2.own h 0 [.int .i64 0] [] := fun _ => ⟨rfl, rfl⟩
theorem cd2_ti : TI Tryz.prog 2 (.int .i64 0) 1 8 := by unfold TI; kernel_rfl
theorem cd2_cell {h : Heap} {B : Bs} {a : Option Addr} {c : Nat} {l : List (Int)} {j : Nat} {x : Int} (r : Rd cd2 h B a c l) (hx : l[j]? = some x) : cellH h (adr a (j * 1)) = some (.int .i64 x) := r.cell1 hx (fun vs o => by rw [show vs = _ from o]; rfl)
abbrev cd24 : Cd (List Int) := rowCd cd2 24
theorem cd24_zero : ∀ h, cd24.own h [] [.slice none 0 0] [] := fun h => ⟨none, 0, rfl, Own.nil _ h⟩
theorem cd24_ti : TI Tryz.prog 24 (.slice none 0 0) 1 24 := by unfold TI; kernel_rfl
def cd4 : Cd (Bool) := flatCd 4 1 (by decide) (fun x => [.bool x]) (fun _ => rfl) (fun _ => rfl)
theorem cd4_own (x : Bool) : ∀ h, cd4.own h x [.bool x] [] := fun _ => ⟨rfl, rfl⟩
theorem cd4_flat : Flat cd4 := fun _ _ _ _ o => o.2
theorem cd4_copies : Copies cd4 := fun _ _ _ _ o => ⟨o, rfl⟩
theorem cd4_zero : ∀ h, cd4.own h false [.bool false] [] := fun _ => ⟨rfl, rfl⟩
theorem cd4_ti : TI Tryz.prog 4 (.bool false) 1 1 := by unfold TI; kernel_rfl
theorem cd4_cell {h : Heap} {B : Bs} {a : Option Addr} {c : Nat} {l : List (Bool)} {j : Nat} {x : Bool} (r : Rd cd4 h B a c l) (hx : l[j]? = some x) : cellH h (adr a (j * 1)) = some (.bool x) := r.cell1 hx (fun vs o => by rw [show vs = _ from o]; rfl)
abbrev cd101 : Cd (List Bool) := rowCd cd4 101
theorem cd101_zero : ∀ h, cd101.own h [] [.slice none 0 0] [] := fun h => ⟨none, 0, rfl, Own.nil _ h⟩
theorem cd101_ti : TI Tryz.prog 101 (.slice none 0 0) 1 24 := by unfold TI; kernel_rfl
theorem eqS44 (d : Nat) (x0 : Int) (x1 : Int) (y0 : Int) (y1 : Int) (w : World) : (Op.equalIn (d + 2) 44 (.agg #[.int .i64 x0, .int .i64 x1]) (.agg #[.int .i64 y0, .int .i64 y1])).run Tryz.prog w = .ok ((x0 == y0) && (x1 == y1)) w := by
  have hS : Tryz.prog.underlying 44 = some (.struct (Tryz.prog.fieldsOf 44)) := by kernel_rfl
  have hp : Tryz.prog.stoodInHeld 44 = false := by kernel_rfl
  rw [show d + 2 = (d + 1) + 1 from rfl, run_equalIn_struct w (d + 1) 44 _ _ hS hp]
  simp only [Program.fieldsOf, Tryz.underlying44]
  have u2 := Tryz.underlying2
  have a2 := Tryz.isAgg2
  have z2 := Tryz.sizeOf2
  go_simp
  by_cases h0 : x0 = y0 <;> by_cases h1 : x1 = y1 <;> simp [h0, h1]

set_option maxRecDepth 100000
set_option maxHeartbeats 4000000
theorem w_laws_big (h : Heap) (code : List Int) {Scode : Bs} (acode : Option Addr) (ccode : Nat) (rcode : Rd cd5 h Scode acode ccode code) (n : Nat) (r : Bool) (hF : laws_big code n = some r) :
  Fn Tryz.prog 15 #[.slice acode code.length ccode] h fun v h' => v = .bool r ∧ h' = h := by
 unfold laws_big at hF
 refine Zo [.slice acode code.length ccode] Tryz.func15 rfl (fun w0 _ => ?_)
 refine Zs ?_
 refine Zq [.bool false] [0] [(0, .slice acode code.length ccode)] ?_
 refine Zs ?_
 refine Zq [.slice acode code.length ccode, iV (code.length : Int), .bool (decide (4096 < (code.length : Int))), .bool (decide (4096 < (code.length : Int)))] [2] [(2, .bool (decide (4096 < (code.length : Int))))] ?_
 have hF := M.ret_some hF
 subst hF
 exact Run_ret1 rfl (Zt (.bool (decide (4096 < (code.length : Int))))) ⟨rfl, rfl⟩

theorem w_spec_l01From (h : Heap) (code : List Int) (acode : Option Addr) (ccode : Nat) (rcode : Rd cd5 h (Lt h) acode ccode code) (n : Nat) (r : TL01source) (hF : spec_l01From code n = some r) :
  Fn Tryz.prog 43 #[.slice acode code.length ccode] h fun v h' => ∃ (b0 : Nat), ∃ (a0 : Option Addr) (c0 : Nat), v = pV b0 ∧ Ali a0 acode c0 ccode r.code code ∧ Hold h h' [box b0 83 [.slice a0 r.code.length c0, iV r.at_, iV r.seed]] := by
 unfold spec_l01From at hF
 refine Zo [.slice acode code.length ccode] Tryz.func43 rfl (fun w0 _ => ?_)
 have H0 := Hold.init h
 refine Zs ?_
 refine Zq [.pointer none] [0] [(0, .slice acode code.length ccode)] ?_
 refine Zs ?_
 refine Run_ops ?_
 refine Zr [.slice acode code.length ccode, .agg #[.slice acode code.length ccode, iV 0, iV 61403]] 0 ?_
 refine Ze ?_
 refine E_box (ty := 83) (cs := [.slice acode code.length ccode, iV 0, iV 61403]) H0 (fun w => by kernel_rfl) (fun b1 h1 H1 => ?_)
 refine Zr [pV b1] 3 ?_
 refine Zx ?_
 refine Zk [0, 3] [(0, .slice acode code.length ccode), (3, pV b1)] ?_
 refine Zs ?_
 refine Zs ?_
 refine Zq [iV 0] [0, 3, 4] [(0, .slice acode code.length ccode), (3, pV b1), (4, iV 0)] ?_
 obtain ⟨x1, gx1, hF⟩ := M.bind_some hF
 refine Run_join (fun L' h' => L' = [(3, pV b1)] ∧ Hold h h' [box b1 83 [.slice acode code.length ccode, iV 0, iV x1.1]]) ?_ ?_
 ·rintro _ h3 ⟨rfl, H3⟩
  refine Zs ?_
  refine Zq [pV b1, pV b1] [2] [(2, pV b1)] ?_
  have hF := M.ret_some hF
  subst hF
  exact Run_ret1 rfl (Zt (pV b1)) ⟨b1, acode, ccode, rfl, .inl ⟨rfl, rfl, rfl⟩, H3⟩
 ·refine Run_block ?_
  refine Zk [0, 3, 4] [(0, .slice acode code.length ccode), (3, pV b1), (4, iV 0)] ?_
  refine Run_loop (fun m L' h' => ∃ (s1 : Int × Int), M.loopN _ n m s1 = some x1 ∧ L' = [(0, .slice acode code.length ccode), (3, pV b1), (4, iV s1.2)] ∧ Hold h h' [box b1 83 [.slice acode code.length ccode, iV 0, iV s1.1]]) n ⟨(61403, 0), gx1, rfl, H1⟩ ?_
  rintro my1 _ h2 ⟨s1, gx1, rfl, H2⟩
  obtain ⟨my1, y1, rfl, hB1, hgoy1, houty1⟩ := M.loop_some gx1
  refine Zs ?_
  refine Zs ?_
  refine Zg 8 [(0, .slice acode code.length ccode), (3, pV b1), (4, iV s1.2), (15, .bool ((decide (s1.2 < (code.length : Int))) && (decide (s1.2 < 64))))] ?_ ?_
  ·refine Zb [iV s1.2, .slice acode code.length ccode, iV (code.length : Int), .bool (decide (s1.2 < (code.length : Int)))] 0 ?_
   refine QRun_seq 8 [(0, .slice acode code.length ccode), (3, pV b1), (4, iV s1.2), (15, .bool ((decide (s1.2 < (code.length : Int))) && (decide (s1.2 < 64))))] ?_ ?_
   ·rcases Bool.eq_false_or_eq_true (decide (s1.2 < (code.length : Int))) with hb1 | hb1
    ·refine Zv (decide (s1.2 < (code.length : Int))) true hb1 ?_
     refine Zb [iV s1.2, .bool (decide (s1.2 < 64))] 5 ?_
     refine QRun_bool (decide (s1.2 < 64)) ((decide (s1.2 < (code.length : Int))) && (decide (s1.2 < 64))) (by kernel_rfl) (fun w => by kernel_rfl) (by rw [hb1]; rfl) ?_
     exact Zd [0, 3, 4, 15]
    ·refine Zv (decide (s1.2 < (code.length : Int))) false hb1 ?_
     refine Zn ?_
     refine Zn ?_
     refine QRun_bool false ((decide (s1.2 < (code.length : Int))) && (decide (s1.2 < 64))) (by kernel_rfl) (fun w => by kernel_rfl) (by rw [hb1]; rfl) ?_
     exact Zd [0, 3, 4, 15]
   exact Zd [0, 3, 4, 15]
  refine Zc ((decide (s1.2 < (code.length : Int))) && (decide (s1.2 < 64))) (fun hb2 => ?_) (fun hb2 => ?_)
  ·have hB1 := (M.ite_some hB1).1 hb2
   refine Run_skip ?_
   refine Zs ?_
   refine Run_block ?_
   obtain ⟨x3, hx1, hB1⟩ := M.bind_some hB1
   obtain ⟨hx1l, hx1u, hx1⟩ := M.idx_some hx1
   refine Run_D (fun x => Hold h x [box b1 83 [.slice acode code.length ccode, iV 0, iV s1.1]]) (fun x => Hold h x [box b1 83 [.slice acode code.length ccode, iV 0, iV s1.1]]) mixed (by kernel_rfl) H2 Hold.stable (fun x Hy => (show Hold h x [box b1 83 [.slice acode code.length ccode, iV 0, iV s1.1]] from Hy).pk [0]) ?_
   refine ZB 12 [pV b1, pV b1, pV b1, .pointer (some ⟨b1, 2, none⟩)] 0 ?_
   refine ZY 11 4 (iV s1.1) (fun hx Hx => (YE.of (Zl 2 (⟨b1, 2, none⟩) (iV s1.1) (Hx.cell 0 rfl rfl)))) ?_
   refine ZB 8 [iV (w64 (s1.1 * 67)), .slice acode code.length ccode, iV s1.2] 5 ?_
   refine ZY 7 8 (.pointer (some (adr acode (s1.2.toNat * 1)))) (fun hx Hx => (YE.of (Zi 32 5 1 (acode) (code.length) (ccode) .i64 (s1.2) Tryz.underlying32 ((rcode.at H2.ext).cell hx1).1 hx1l hx1u))) ?_
   refine ZY 6 9 (.int .u8 x3) (fun hx Hx => (YE.of (Zl 5 (adr acode (s1.2.toNat * 1)) (.int .u8 x3) (cd5_cell (rcode.at Hx.ext) hx1)))) ?_
   refine ZB 1 [iV (w64 (x3)), iV (w64 ((w64 (s1.1 * 67)) + (w64 (x3)))), iV ((w64 ((w64 (s1.1 * 67)) + (w64 (x3)))).tmod 2147483647), pV b1, .pointer (some ⟨b1, 2, none⟩)] 10 ?_
   refine ZT 15 (fun h4 H4 => ?_)
   have H5 : Hold h h4 [box b1 83 [.slice acode code.length ccode, iV 0, iV s1.1]] := H4
   refine Ze ?_
   refine ZP 2 2 [.slice acode code.length ccode, iV 0, iV ((w64 ((w64 (s1.1 * 67)) + (w64 (x3)))).tmod 2147483647)] (iV ((w64 ((w64 (s1.1 * 67)) + (w64 (x3)))).tmod 2147483647)) H5 (fun h5 H6 => ?_)
   refine Zx ?_
   refine Zk [0, 3, 4] [(0, .slice acode code.length ccode), (3, pV b1), (4, iV s1.2)] ?_
   refine Run_blk ?_
   refine Zq [iV s1.2, iV (w64 (s1.2 + 1)), iV (w64 (s1.2 + 1))] [0, 3, 4] [(0, .slice acode code.length ccode), (3, pV b1), (4, iV (w64 (s1.2 + 1)))] ?_
   have hB1 := M.ret_some hB1
   have gx1 := hgoy1 _ hB1.symm
   exact Za [0, 3, 4] my1 ⟨(((w64 ((w64 (s1.1 * 67)) + (w64 (x3)))).tmod 2147483647), (w64 (s1.2 + 1))), gx1, rfl, H6⟩
  ·have hB1 := (M.ite_some hB1).2 hb2
   refine Run_exit (k' := _) rfl ?_
   have hB1 := M.ret_some hB1
   have gx1 := houty1 _ hB1.symm
   subst gx1
   exact Zf [3] ⟨rfl, H2⟩

theorem w_spec_l02Bottom (h : Heap) (m_ : Int) (n_ : Int) (n : Nat) (r : (List (List Int))) (hF : spec_l02Bottom m_ n_ n = some r) :
  Fn Tryz.prog 81 #[iV m_, iV n_] h fun v h' => ∃ (a0 : Option Addr) (c0 : Nat), v = .slice a0 r.length c0 ∧ Hold h h' [own cd24 a0 r.length c0 r] := by
 unfold spec_l02Bottom at hF
 refine Zo [iV m_, iV n_] Tryz.func81 rfl (fun w0 _ => ?_)
 have H0 := Hold.init h
 refine Zs ?_
 refine Zq [.slice none 0 0] [0, 1] [(0, iV m_), (1, iV n_)] ?_
 refine Zs ?_
 refine Run_ops ?_
 refine Ze ?_
 refine E_lit (C := cd24) (n := 0) (l := []) (cs := []) H0 (fun w => by kernel_rfl) (Enc.nil _ _) rfl (by decide) (fun a1 h1 H1 => ?_)
 refine Zr [.slice a1 0 0] 1 ?_
 refine Zx ?_
 refine Zk [0, 1, 5] [(0, iV m_), (1, iV n_), (5, .slice a1 0 0)] ?_
 refine Zs ?_
 refine Zs ?_
 refine Zq [iV 0] [0, 1, 5, 6] [(0, iV m_), (1, iV n_), (5, .slice a1 0 0), (6, iV 0)] ?_
 obtain ⟨x1, gx1, hF⟩ := M.bind_some hF
 obtain ⟨hloy1, hhiy1, gx1⟩ := M.for_start gx1
 refine Run_join (fun L' h' => ∃ (a3 : Option Addr) (c2 : Nat), L' = [(5, .slice a3 x1.length c2)] ∧ Hold h h' [own cd24 a3 x1.length c2 x1]) ?_ ?_
 ·rintro _ h3 ⟨a3, c2, rfl, H3⟩
  refine Zs ?_
  refine Zq [.slice a3 x1.length c2, .slice a3 x1.length c2] [4] [(4, .slice a3 x1.length c2)] ?_
  have hF := M.ret_some hF
  subst hF
  exact Run_ret1 rfl (Zt (.slice a3 x1.length c2)) ⟨a3, c2, rfl, H3⟩
 ·refine Run_block ?_
  have hn2 := (H1.len 0 rfl)
  have H23 : Hold h h1 [own cd24 a1 (([] : List (List Int)).length) 0 ([] : List (List Int))] := by rw [hn2]; exact H1
  refine Run_keep [0, 1, 5, 6] (L' := [(0, iV m_), (1, iV n_), (5, .slice a1 (([] : List (List Int)).length) 0), (6, iV 0)]) (by first | (rw [hn2]; kernel_rfl) | (simp only [hn2]; kernel_rfl) | kernel_rfl) ?_
  refine Run_loop (fun m L' h' => ∃ (i1 : Int) (s1 : (List (List Int))) (a2 : Option Addr) (c1 : Nat), 0 ≤ i1 ∧ M.forN m_ _ _ n m i1 s1 = some x1 ∧ L' = [(0, iV m_), (1, iV n_), (5, .slice a2 s1.length c1), (6, iV i1)] ∧ Hold h h' [own cd24 a2 s1.length c1 s1]) (m_ - 0 : Int).toNat ⟨0, ([] : List (List Int)), a1, 0, Int.le_refl _, gx1, rfl, H23⟩ ?_
  rintro my1 _ h2 ⟨i1, s1, a2, c1, hloy1', gx1, rfl, H2⟩
  refine Zs ?_
  refine Zs ?_
  refine Zq [iV i1, iV m_, .bool (decide (i1 < m_))] [0, 1, 5, 6, 12] [(0, iV m_), (1, iV n_), (5, .slice a2 s1.length c1), (6, iV i1), (12, .bool (decide (i1 < m_)))] ?_
  refine Zc (decide (i1 < m_)) (fun hb1 => ?_) (fun hb1 => ?_)
  ·obtain ⟨my1, y1, rfl, hB1, hgoy1, houty1⟩ := M.for_go gx1 hb1
   have hlty1 := of_decide_eq_true hb1
   refine Run_skip ?_
   refine Zs ?_
   refine Run_block ?_
   refine Zs ?_
   refine Run_ops ?_
   refine Ze ?_
   refine E_lit (C := cd2) (n := 0) (l := ([] : List Int)) (cs := []) H2 (fun w => by kernel_rfl) (Enc.nil _ _) rfl (by decide) (fun a4 h4 H4 => ?_)
   refine Zr [.slice a4 0 0] 1 ?_
   refine Zx ?_
   refine Zk [0, 1, 5, 6, 7] [(0, iV m_), (1, iV n_), (5, .slice a2 s1.length c1), (6, iV i1), (7, .slice a4 0 0)] ?_
   refine Zs ?_
   refine Zs ?_
   refine Zq [iV 0] [0, 1, 5, 6, 7, 8] [(0, iV m_), (1, iV n_), (5, .slice a2 s1.length c1), (6, iV i1), (7, .slice a4 0 0), (8, iV 0)] ?_
   obtain ⟨x2, gx2, hB1⟩ := M.bind_some hB1
   obtain ⟨hloy2, hhiy2, gx2⟩ := M.for_start gx2
   refine Run_join (fun L' h' => ∃ (a6 : Option Addr) (c4 : Nat), L' = [(0, iV m_), (1, iV n_), (5, .slice a2 s1.length c1), (6, iV i1), (7, .slice a6 x2.length c4)] ∧ Hold h h' [own cd24 a2 s1.length c1 s1, own cd2 a6 x2.length c4 x2]) ?_ ?_
   ·rintro _ h6 ⟨a6, c4, rfl, H6⟩
    refine Run_ops ?_
    refine Zr [.slice a2 s1.length c1, .slice a6 x2.length c4] 0 ?_
    have H16 : Hold h h6 [own cd2 a6 x2.length c4 x2, own cd24 a2 s1.length c1 s1] := H6.pk [1, 0]
    refine Ze ?_
    refine E_lit1 (ey := 24) (n := x2.length) H16 (fun w => by kernel_rfl) rfl (fun a9 h9 H15 => ?_)
    obtain ⟨l2, hl2, hB1⟩ := M.bind_some hB1
    have hl2 := M.app_some hl2
    have H17 : Hold h h9 [own cd24 a2 s1.length c1 s1, own cd24 a9 1 1 [x2]] := H15.pk [1, 0]
    have H18 : Hold h h9 [own cd24 a9 1 1 [x2], own cd24 a2 s1.length c1 s1] := H17.pk [1, 0]
    have H19 : Hold h h9 [own cd24 a2 s1.length c1 s1, own cd24 a9 1 1 [x2]] := H18.pk [1, 0]
    refine Ze ?_
    refine E_app (C := cd24) (t := 22) (ty := 22) (n := s1.length) (m := 1) H19 cd24_ti rfl Tryz.underlying22 (by decide) (by kernel_rfl) hl2 (fun a10 c6 h10 H20 => ?_)
    refine Zr [.slice a10 l2.length c6] 4 ?_
    refine Zx ?_
    refine Zk [0, 1, 5, 6] [(0, iV m_), (1, iV n_), (5, .slice a10 l2.length c6), (6, iV i1)] ?_
    refine Run_blk ?_
    refine Zg 3 [(0, iV m_), (1, iV n_), (5, .slice a10 l2.length c6), (6, iV (i1 + 1))] ?_ ?_
    ·refine Zb [iV i1] 0 ?_
     refine Zy (iV (i1 + 1)) (Y_eq (v := iV (w64 (i1 + 1))) (Y_pure (fun w => by kernel_rfl)) (by rw [w64_eq _ (by omega)])) ?_
     refine Zb [iV (i1 + 1)] 2 ?_
     exact Zd [0, 1, 5, 6]
    have hB1 := M.ret_some hB1
    have gx1 := hgoy1 _ hB1.symm
    exact Za [0, 1, 5, 6] my1 ⟨i1 + 1, l2, a10, c6, by omega, gx1, rfl, H20⟩
   ·refine Run_block ?_
    have hn1 := (H4.len 0 rfl)
    have H21 : Hold h h4 [own cd2 a4 (([] : List Int).length) 0 ([] : List Int), own cd24 a2 s1.length c1 s1] := by rw [hn1]; exact H4
    have H22 : Hold h h4 [own cd24 a2 s1.length c1 s1, own cd2 a4 (([] : List Int).length) 0 ([] : List Int)] := H21.pk [1, 0]
    refine Run_keep [0, 1, 5, 6, 7, 8] (L' := [(0, iV m_), (1, iV n_), (5, .slice a2 s1.length c1), (6, iV i1), (7, .slice a4 (([] : List Int).length) 0), (8, iV 0)]) (by first | (rw [hn1]; kernel_rfl) | (simp only [hn1]; kernel_rfl) | kernel_rfl) ?_
    refine Run_loop (fun m L' h' => ∃ (i2 : Int) (s2 : (List Int)) (a5 : Option Addr) (c3 : Nat), 0 ≤ i2 ∧ M.forN n_ _ _ n m i2 s2 = some x2 ∧ L' = [(0, iV m_), (1, iV n_), (5, .slice a2 s1.length c1), (6, iV i1), (7, .slice a5 s2.length c3), (8, iV i2)] ∧ Hold h h' [own cd24 a2 s1.length c1 s1, own cd2 a5 s2.length c3 s2]) (n_ - 0 : Int).toNat ⟨0, ([] : List Int), a4, 0, Int.le_refl _, gx2, rfl, H22⟩ ?_
    rintro my2 _ h5 ⟨i2, s2, a5, c3, hloy2', gx2, rfl, H5⟩
    refine Zs ?_
    refine Zs ?_
    refine Zq [iV i2, iV n_, .bool (decide (i2 < n_))] [0, 1, 5, 6, 7, 8, 18] [(0, iV m_), (1, iV n_), (5, .slice a2 s1.length c1), (6, iV i1), (7, .slice a5 s2.length c3), (8, iV i2), (18, .bool (decide (i2 < n_)))] ?_
    refine Zc (decide (i2 < n_)) (fun hb2 => ?_) (fun hb2 => ?_)
    ·obtain ⟨my2, y2, rfl, hB2, hgoy2, houty2⟩ := M.for_go gx2 hb2
     have hlty2 := of_decide_eq_true hb2
     refine Run_skip ?_
     refine Zs ?_
     refine Run_block ?_
     refine Run_ops ?_
     refine Zr [.slice a5 s2.length c3] 0 ?_
     refine Ze ?_
     refine E_lit (C := cd2) (n := 1) (l := ([(-1000000000000000)] : List Int)) (cs := [iV (-1000000000000000)]) H5 (fun w => by kernel_rfl) (Enc.consE (cd2_own (-1000000000000000) _) (Enc.nil _ _) rfl) rfl (by decide) (fun a7 h7 H7 => ?_)
     obtain ⟨l1, hl1, hB2⟩ := M.bind_some hB2
     have hl1 := M.app_some hl1
     have H8 : Hold h h7 [own cd2 a5 s2.length c3 s2, own cd2 a7 1 1 ([(-1000000000000000)] : List Int), own cd24 a2 s1.length c1 s1] := H7.pk [2, 0, 1]
     have H9 : Hold h h7 [own cd2 a7 1 1 ([(-1000000000000000)] : List Int), own cd2 a5 s2.length c3 s2, own cd24 a2 s1.length c1 s1] := H8.pk [1, 0, 2]
     have H10 : Hold h h7 [own cd2 a5 s2.length c3 s2, own cd2 a7 1 1 ([(-1000000000000000)] : List Int), own cd24 a2 s1.length c1 s1] := H9.pk [1, 0, 2]
     refine Ze ?_
     refine E_app (C := cd2) (t := 24) (ty := 24) (n := s2.length) (m := 1) H10 cd2_ti rfl Tryz.underlying24 (by decide) (by kernel_rfl) hl1 (fun a8 c5 h8 H11 => ?_)
     refine Zr [.slice a8 l1.length c5] 3 ?_
     refine Zx ?_
     refine Zk [0, 1, 5, 6, 7, 8] [(0, iV m_), (1, iV n_), (5, .slice a2 s1.length c1), (6, iV i1), (7, .slice a8 l1.length c5), (8, iV i2)] ?_
     refine Run_blk ?_
     refine Zg 3 [(0, iV m_), (1, iV n_), (5, .slice a2 s1.length c1), (6, iV i1), (7, .slice a8 l1.length c5), (8, iV (i2 + 1))] ?_ ?_
     ·refine Zb [iV i2] 0 ?_
      refine Zy (iV (i2 + 1)) (Y_eq (v := iV (w64 (i2 + 1))) (Y_pure (fun w => by kernel_rfl)) (by rw [w64_eq _ (by omega)])) ?_
      refine Zb [iV (i2 + 1)] 2 ?_
      exact Zd [0, 1, 5, 6, 7, 8]
     have H12 : Hold h h8 [own cd24 a2 s1.length c1 s1, own cd2 a8 l1.length c5 l1] := H11.pk [1, 0]
     have hB2 := M.ret_some hB2
     have gx2 := hgoy2 _ hB2.symm
     exact Za [0, 1, 5, 6, 7, 8] my2 ⟨i2 + 1, l1, a8, c5, by omega, gx2, rfl, H12⟩
    ·have gx2 := M.for_end gx2 hb2
     subst gx2
     refine Run_exit (k' := _) rfl ?_
     have H13 : Hold h h5 [own cd2 a5 s2.length c3 s2, own cd24 a2 s1.length c1 s1] := H5.pk [1, 0]
     have H14 : Hold h h5 [own cd24 a2 s1.length c1 s1, own cd2 a5 s2.length c3 s2] := H13.pk [1, 0]
     exact Zf [0, 1, 5, 6, 7] ⟨a5, c3, rfl, H14⟩
  ·have gx1 := M.for_end gx1 hb1
   subst gx1
   refine Run_exit (k' := _) rfl ?_
   exact Zf [5] ⟨a2, c1, rfl, H2⟩

theorem w_spec_l01In (h : Heap) (n_ : Int) (low : Int) (high : Int) (n : Nat) (r : Bool) (hF : spec_l01In n_ low high n = some r) :
  Fn Tryz.prog 79 #[iV n_, iV low, iV high] h fun v h' => v = .bool r ∧ h' = h := by
 unfold spec_l01In at hF
 refine Zo [iV n_, iV low, iV high] Tryz.func79 rfl (fun w0 _ => ?_)
 refine Zs ?_
 refine Zq [.bool false] [0, 1, 2] [(0, iV n_), (1, iV low), (2, iV high)] ?_
 refine Zs ?_
 refine Zg 9 [(6, .bool ((decide (low ≤ n_)) && (decide (n_ ≤ high))))] ?_ ?_
 ·refine Zb [iV n_, iV low, .bool (decide (low ≤ n_))] 0 ?_
  refine QRun_seq 8 [(14, .bool ((decide (low ≤ n_)) && (decide (n_ ≤ high))))] ?_ ?_
  ·rcases Bool.eq_false_or_eq_true (decide (low ≤ n_)) with hb1 | hb1
   ·refine Zv (decide (low ≤ n_)) true hb1 ?_
    refine Zb [iV n_, iV high, .bool (decide (n_ ≤ high))] 4 ?_
    refine QRun_bool (decide (n_ ≤ high)) ((decide (low ≤ n_)) && (decide (n_ ≤ high))) (by kernel_rfl) (fun w => by kernel_rfl) (by rw [hb1]; rfl) ?_
    exact Zd [14]
   ·refine Zv (decide (low ≤ n_)) false hb1 ?_
    refine Zn ?_
    refine Zn ?_
    refine Zn ?_
    refine QRun_bool false ((decide (low ≤ n_)) && (decide (n_ ≤ high))) (by kernel_rfl) (fun w => by kernel_rfl) (by rw [hb1]; rfl) ?_
    exact Zd [14]
  refine Zb [.bool ((decide (low ≤ n_)) && (decide (n_ ≤ high)))] 8 ?_
  exact Zd [6]
 have hF := M.ret_some hF
 subst hF
 exact Run_ret1 rfl (Zt (.bool ((decide (low ≤ n_)) && (decide (n_ ≤ high))))) ⟨rfl, rfl⟩

theorem w_spec_l01Finite (h : Heap) (a_ : Int) (n : Nat) (r : Bool) (hF : spec_l01Finite a_ n = some r) :
  Fn Tryz.prog 78 #[iV a_] h fun v h' => v = .bool r ∧ h' = h := by
 unfold spec_l01Finite at hF
 refine Zo [iV a_] Tryz.func78 rfl (fun w0 _ => ?_)
 refine Zs ?_
 refine Zq [.bool false] [0] [(0, iV a_)] ?_
 refine Zs ?_
 obtain ⟨x1, hx1, hF⟩ := M.bind_some hF
 refine Zg 3 [(2, .bool x1)] ?_ ?_
 ·refine Zb [iV a_] 0 ?_
  refine Zy (.bool x1) (ZQ 79 #[iV a_, iV (-1000000), iV 1000000] (w_spec_l01In h a_ (-1000000) 1000000 _ _ hx1)) ?_
  refine Zb [.bool x1] 2 ?_
  exact Zd [2]
 have hF := M.ret_some hF
 subst hF
 exact Run_ret1 rfl (Zt (.bool x1)) ⟨rfl, rfl⟩

theorem w_spec_IsValue (h : Heap) (a_ : Int) (n : Nat) (r : Bool) (hF : spec_IsValue a_ n = some r) :
  Fn Tryz.prog 144 #[iV a_] h fun v h' => v = .bool r ∧ h' = h := by
 unfold spec_IsValue at hF
 refine Zo [iV a_] Tryz.func144 rfl (fun w0 _ => ?_)
 refine Zs ?_
 refine Zq [.bool false] [0] [(0, iV a_)] ?_
 refine Zs ?_
 obtain ⟨x1, gx1, hF⟩ := M.bind_some hF
 refine Zg 7 [(2, .bool x1)] ?_ ?_
 ·refine Zb [iV a_, .bool (a_ == (-1000000000000000))] 0 ?_
  refine QRun_seq 6 [(8, .bool x1)] ?_ ?_
  ·rcases Bool.eq_false_or_eq_true (a_ == (-1000000000000000)) with hb1 | hb1
   ·refine Zv (a_ == (-1000000000000000)) true hb1 ?_
    have gx1 := M.ret_some ((M.ite_some gx1).1 hb1)
    refine Zn ?_
    refine Zn ?_
    refine Zv true x1 gx1 ?_
    exact Zd [8]
   ·refine Zv (a_ == (-1000000000000000)) false hb1 ?_
    have gx1 := (M.ite_some gx1).2 hb1
    obtain ⟨x2, hx1, gx1⟩ := M.bind_some gx1
    have gx1 := M.ret_some gx1
    refine Zb [iV a_] 3 ?_
    refine Zy (.bool x2) (ZQ 78 #[iV a_] (w_spec_l01Finite h a_ _ _ hx1)) ?_
    refine Zv x2 x1 gx1 ?_
    exact Zd [8]
  refine Zb [.bool x1] 6 ?_
  exact Zd [2]
 have hF := M.ret_some hF
 subst hF
 exact Run_ret1 rfl (Zt (.bool x1)) ⟨rfl, rfl⟩

theorem w_spec_l01All (h : Heap) (list : List Int) {Slist : Bs} (alist : Option Addr) (clist : Nat) (rlist : Rd cd2 h Slist alist clist list) (finite : Bool) (n : Nat) (r : Bool) (hF : spec_l01All list finite n = some r) :
  Fn Tryz.prog 105 #[.slice alist list.length clist, .bool finite] h fun v h' => v = .bool r ∧ h' = h := by
 unfold spec_l01All at hF
 refine Zo [.slice alist list.length clist, .bool finite] Tryz.func105 rfl (fun w0 _ => ?_)
 refine Zs ?_
 refine Zq [.bool false] [0, 1] [(0, .slice alist list.length clist), (1, .bool finite)] ?_
 refine Zs ?_
 refine Zs ?_
 refine Zq [iV 0] [0, 1, 5] [(0, .slice alist list.length clist), (1, .bool finite), (5, iV 0)] ?_
 obtain ⟨x1, gx1, hF⟩ := M.bind_some hF
 obtain ⟨hloy1, hhiy1, gx1⟩ := M.for_start gx1
 refine Run_join (fun L' h' => ∃ (s2 : Unit), x1 = .inl s2 ∧ L' = [] ∧ h = h') ?_ ?_
 ·rintro _ _ ⟨s2, es2, rfl, rfl⟩
  have hF := M.cont_inl' hF es2
  refine Zs ?_
  refine Zq [.bool true] [4] [(4, .bool true)] ?_
  have hF := M.ret_some hF
  subst hF
  exact Run_ret1 rfl (Zt (.bool true)) ⟨rfl, rfl⟩
 ·refine Run_block ?_
  refine Zk [0, 1, 5] [(0, .slice alist list.length clist), (1, .bool finite), (5, iV 0)] ?_
  refine Run_loop (fun m L' h' => ∃ (i1 : Int) (s1 : Unit), 0 ≤ i1 ∧ M.forN (list.length : Int) _ _ n m i1 s1 = some x1 ∧ L' = [(0, .slice alist list.length clist), (1, .bool finite), (5, iV i1)] ∧ h = h') ((list.length : Int) - 0 : Int).toNat ⟨0, (), Int.le_refl _, gx1, rfl, rfl⟩ ?_
  rintro my1 _ _ ⟨i1, s1, hloy1', gx1, rfl, rfl⟩
  refine Zs ?_
  refine Zs ?_
  refine Zq [iV i1, .slice alist list.length clist, iV (list.length : Int), .bool (decide (i1 < (list.length : Int)))] [0, 1, 5, 9] [(0, .slice alist list.length clist), (1, .bool finite), (5, iV i1), (9, .bool (decide (i1 < (list.length : Int))))] ?_
  refine Zc (decide (i1 < (list.length : Int))) (fun hb1 => ?_) (fun hb1 => ?_)
  ·obtain ⟨my1, y1, rfl, hB1, hgoy1, houty1⟩ := M.for_go gx1 hb1
   have hlty1 := of_decide_eq_true hb1
   refine Run_skip ?_
   refine Zs ?_
   refine Run_block ?_
   refine Zs ?_
   obtain ⟨x2, hx1, hB1⟩ := M.bind_some hB1
   obtain ⟨hx1l, hx1u, hx1⟩ := M.idx_some hx1
   obtain ⟨x3, hx2, hB1⟩ := M.bind_some hB1
   obtain ⟨x4, gx4, hB1⟩ := M.bind_some hB1
   refine Zg 16 [(0, .slice alist list.length clist), (1, .bool finite), (5, iV i1), (27, .bool x4)] ?_ ?_
   ·refine Zb [.slice alist list.length clist, iV i1] 0 ?_
    refine Zy (.pointer (some (adr alist (i1.toNat * 1)))) (Zi 24 2 1 (alist) (list.length) (clist) .i64 (i1) Tryz.underlying24 (rlist.cell hx1).1 hx1l hx1u) ?_
    refine Zy (iV x2) (Zl 2 (adr alist (i1.toNat * 1)) (iV x2) (cd2_cell rlist hx1)) ?_
    refine Zy (.bool x3) (ZQ 144 #[iV x2] (w_spec_IsValue h x2 _ _ hx2)) ?_
    refine Zb [.bool (!x3)] 5 ?_
    refine QRun_seq 16 [(0, .slice alist list.length clist), (1, .bool finite), (5, iV i1), (27, .bool x4)] ?_ ?_
    ·rcases Bool.eq_false_or_eq_true (!x3) with hb2 | hb2
     ·refine Zv (!x3) true hb2 ?_
      have gx4 := M.ret_some ((M.ite_some gx4).1 hb2)
      refine Zn ?_
      refine Zn ?_
      refine Zn ?_
      refine Zn ?_
      refine Zn ?_
      refine Zn ?_
      refine Zn ?_
      refine Zn ?_
      refine Zv true x4 gx4 ?_
      exact Zd [0, 1, 5, 27]
     ·refine Zv (!x3) false hb2 ?_
      have gx4 := (M.ite_some gx4).2 hb2
      obtain ⟨x5, gx5, gx4⟩ := M.bind_some gx4
      have gx4 := M.ret_some gx4
      refine Zb [.bool finite] 7 ?_
      refine QRun_seq 15 [(0, .slice alist list.length clist), (1, .bool finite), (5, iV i1), (18, .bool false), (26, .bool x5)] ?_ ?_
      ·rcases Bool.eq_false_or_eq_true finite with hb3 | hb3
       ·refine Zv finite true hb3 ?_
        have gx5 := (M.ite_some gx5).1 hb3
        obtain ⟨x6, hx3, gx5⟩ := M.bind_some gx5
        obtain ⟨hx3l, hx3u, hx3⟩ := M.idx_some hx3
        have gx5 := M.ret_some gx5
        refine Zb [.slice alist list.length clist, iV i1] 9 ?_
        refine Zy (.pointer (some (adr alist (i1.toNat * 1)))) (Zi 24 2 1 (alist) (list.length) (clist) .i64 (i1) Tryz.underlying24 (rlist.cell hx3).1 hx3l hx3u) ?_
        refine Zy (iV x6) (Zl 2 (adr alist (i1.toNat * 1)) (iV x6) (cd2_cell rlist hx3)) ?_
        refine Zb [.bool (x6 == (-1000000000000000))] 13 ?_
        refine Zv (x6 == (-1000000000000000)) x5 gx5 ?_
        exact Zd [0, 1, 5, 18, 26]
       ·refine Zv finite false hb3 ?_
        have gx5 := M.ret_some ((M.ite_some gx5).2 hb3)
        refine Zn ?_
        refine Zn ?_
        refine Zn ?_
        refine Zn ?_
        refine Zn ?_
        refine Zv false x5 gx5 ?_
        exact Zd [0, 1, 5, 18, 26]
      refine Zv x5 x4 gx4 ?_
      exact Zd [0, 1, 5, 27]
    exact Zd [0, 1, 5, 27]
   refine Zc (x4) (fun hb4 => ?_) (fun hb4 => ?_)
   ·have hB1 := (M.ite_some hB1).1 hb4
    refine Zs ?_
    refine Zq [.bool false] [4] [(4, .bool false)] ?_
    have hB1 := M.ret_some hB1
    have gx1 := houty1 _ hB1.symm
    have hF := M.cont_inr' hF gx1
    have hF := M.ret_some hF
    subst hF
    exact Run_ret1 rfl (Zt (.bool false)) ⟨rfl, rfl⟩
   ·have hB1 := (M.ite_some hB1).2 hb4
    refine Run_skip ?_
    refine Run_blk ?_
    refine Zg 3 [(0, .slice alist list.length clist), (1, .bool finite), (5, iV (i1 + 1))] ?_ ?_
    ·refine Zb [iV i1] 0 ?_
     refine Zy (iV (i1 + 1)) (Y_eq (v := iV (w64 (i1 + 1))) (Y_pure (fun w => by kernel_rfl)) (by rw [w64_eq _ (by omega)])) ?_
     refine Zb [iV (i1 + 1)] 2 ?_
     exact Zd [0, 1, 5]
    have hB1 := M.ret_some hB1
    have gx1 := hgoy1 _ hB1.symm
    exact Za [0, 1, 5] my1 ⟨i1 + 1, (), by omega, gx1, rfl, rfl⟩
  ·have gx1 := M.for_end gx1 hb1
   subst gx1
   refine Run_exit (k' := _) rfl ?_
   exact Zf [] ⟨(), rfl, rfl, rfl⟩

theorem w_spec_l02Vector (h : Heap) (x_ : List Int) {Sx_ : Bs} (ax_ : Option Addr) (cx_ : Nat) (rx_ : Rd cd2 h Sx_ ax_ cx_ x_) (n : Nat) (r : Bool) (hF : spec_l02Vector x_ n = some r) :
  Fn Tryz.prog 62 #[.slice ax_ x_.length cx_] h fun v h' => v = .bool r ∧ h' = h := by
 unfold spec_l02Vector at hF
 refine Zo [.slice ax_ x_.length cx_] Tryz.func62 rfl (fun w0 _ => ?_)
 refine Zs ?_
 refine Zq [.bool false] [0] [(0, .slice ax_ x_.length cx_)] ?_
 refine Zs ?_
 obtain ⟨x1, hx1, hF⟩ := M.bind_some hF
 obtain ⟨x2, gx2, hF⟩ := M.bind_some hF
 refine Zg 8 [(2, .bool x2)] ?_ ?_
 ·refine Zb [.slice ax_ x_.length cx_, iV (x_.length : Int)] 0 ?_
  refine Zy (.bool x1) (ZQ 79 #[iV (x_.length : Int), iV 1, iV 10] (w_spec_l01In h (x_.length : Int) 1 10 _ _ hx1)) ?_
  refine QRun_seq 7 [(9, .bool x2)] ?_ ?_
  ·rcases Bool.eq_false_or_eq_true x1 with hb1 | hb1
   ·refine Zv x1 true hb1 ?_
    have gx2 := (M.ite_some gx2).1 hb1
    obtain ⟨x3, hx2, gx2⟩ := M.bind_some gx2
    have gx2 := M.ret_some gx2
    refine Zb [.slice ax_ x_.length cx_] 4 ?_
    refine Zy (.bool x3) (ZQ 105 #[.slice ax_ x_.length cx_, .bool false] (w_spec_l01All h x_ ax_ cx_ rx_ false _ _ hx2)) ?_
    refine Zv x3 x2 gx2 ?_
    exact Zd [9]
   ·refine Zv x1 false hb1 ?_
    have gx2 := M.ret_some ((M.ite_some gx2).2 hb1)
    refine Zn ?_
    refine Zn ?_
    refine Zv false x2 gx2 ?_
    exact Zd [9]
  refine Zb [.bool x2] 7 ?_
  exact Zd [2]
 have hF := M.ret_some hF
 subst hF
 exact Run_ret1 rfl (Zt (.bool x2)) ⟨rfl, rfl⟩

theorem w_spec_IsMatrix (h : Heap) (a_ : List (List Int)) {Sa_ : Bs} (aa_ : Option Addr) (ca_ : Nat) (ra_ : Rd cd24 h Sa_ aa_ ca_ a_) (n : Nat) (r : Bool) (hF : spec_IsMatrix a_ n = some r) :
  Fn Tryz.prog 111 #[.slice aa_ a_.length ca_] h fun v h' => v = .bool r ∧ h' = h := by
 unfold spec_IsMatrix at hF
 refine Zo [.slice aa_ a_.length ca_] Tryz.func111 rfl (fun w0 _ => ?_)
 refine Zs ?_
 refine Zq [.bool false] [0] [(0, .slice aa_ a_.length ca_)] ?_
 refine Zs ?_
 refine Zs ?_
 refine Zg 8 [(0, .slice aa_ a_.length ca_), (11, .bool ((decide ((a_.length : Int) < 1)) || (decide (10 < (a_.length : Int)))))] ?_ ?_
 ·refine Zb [.slice aa_ a_.length ca_, iV (a_.length : Int), .bool (decide ((a_.length : Int) < 1))] 0 ?_
  refine QRun_seq 8 [(0, .slice aa_ a_.length ca_), (11, .bool ((decide ((a_.length : Int) < 1)) || (decide (10 < (a_.length : Int)))))] ?_ ?_
  ·rcases Bool.eq_false_or_eq_true (decide ((a_.length : Int) < 1)) with hb1 | hb1
   ·refine Zv (decide ((a_.length : Int) < 1)) true hb1 ?_
    refine Zn ?_
    refine Zn ?_
    refine Zn ?_
    refine QRun_bool true ((decide ((a_.length : Int) < 1)) || (decide (10 < (a_.length : Int)))) (by kernel_rfl) (fun w => by kernel_rfl) (by rw [hb1]; rfl) ?_
    exact Zd [0, 11]
   ·refine Zv (decide ((a_.length : Int) < 1)) false hb1 ?_
    refine Zb [.slice aa_ a_.length ca_, iV (a_.length : Int), .bool (decide (10 < (a_.length : Int)))] 4 ?_
    refine QRun_bool (decide (10 < (a_.length : Int))) ((decide ((a_.length : Int) < 1)) || (decide (10 < (a_.length : Int)))) (by kernel_rfl) (fun w => by kernel_rfl) (by rw [hb1]; rfl) ?_
    exact Zd [0, 11]
  exact Zd [0, 11]
 refine Zc ((decide ((a_.length : Int) < 1)) || (decide (10 < (a_.length : Int)))) (fun hb2 => ?_) (fun hb2 => ?_)
 ·have hF := (M.ite_some hF).1 hb2
  refine Zs ?_
  refine Zq [.bool false] [2] [(2, .bool false)] ?_
  have hF := M.ret_some hF
  subst hF
  exact Run_ret1 rfl (Zt (.bool false)) ⟨rfl, rfl⟩
 ·have hF := (M.ite_some hF).2 hb2
  refine Run_skip ?_
  refine Zs ?_
  refine Zs ?_
  refine Zq [iV 0] [0, 3] [(0, .slice aa_ a_.length ca_), (3, iV 0)] ?_
  obtain ⟨x2, gx2, hF⟩ := M.bind_some hF
  obtain ⟨hloy1, hhiy1, gx2⟩ := M.for_start gx2
  refine Run_join (fun L' h' => ∃ (s2 : Unit), x2 = .inl s2 ∧ L' = [] ∧ h = h') ?_ ?_
  ·rintro _ _ ⟨s2, es2, rfl, rfl⟩
   have hF := M.cont_inl' hF es2
   refine Zs ?_
   refine Zq [.bool true] [2] [(2, .bool true)] ?_
   have hF := M.ret_some hF
   subst hF
   exact Run_ret1 rfl (Zt (.bool true)) ⟨rfl, rfl⟩
  ·refine Run_block ?_
   refine Zk [0, 3] [(0, .slice aa_ a_.length ca_), (3, iV 0)] ?_
   refine Run_loop (fun m L' h' => ∃ (i1 : Int) (s1 : Unit), 0 ≤ i1 ∧ M.forN (a_.length : Int) _ _ n m i1 s1 = some x2 ∧ L' = [(0, .slice aa_ a_.length ca_), (3, iV i1)] ∧ h = h') ((a_.length : Int) - 0 : Int).toNat ⟨0, (), Int.le_refl _, gx2, rfl, rfl⟩ ?_
   rintro my1 _ _ ⟨i1, s1, hloy1', gx2, rfl, rfl⟩
   refine Zs ?_
   refine Zs ?_
   refine Zq [iV i1, .slice aa_ a_.length ca_, iV (a_.length : Int), .bool (decide (i1 < (a_.length : Int)))] [0, 3, 15] [(0, .slice aa_ a_.length ca_), (3, iV i1), (15, .bool (decide (i1 < (a_.length : Int))))] ?_
   refine Zc (decide (i1 < (a_.length : Int))) (fun hb3 => ?_) (fun hb3 => ?_)
   ·obtain ⟨my1, y1, rfl, hB1, hgoy1, houty1⟩ := M.for_go gx2 hb3
    have hlty1 := of_decide_eq_true hb3
    refine Run_skip ?_
    refine Zs ?_
    refine Run_block ?_
    refine Zs ?_
    obtain ⟨x3, hx1, hB1⟩ := M.bind_some hB1
    obtain ⟨hx1l, hx1u, hx1⟩ := M.idx_some hx1
    obtain ⟨a1, c1, hc1, r1⟩ := ra_.row hx1
    obtain ⟨x4, hx2, hB1⟩ := M.bind_some hB1
    obtain ⟨x5, gx5, hB1⟩ := M.bind_some hB1
    refine Run_draw 18 mixed (by kernel_rfl) (by kernel_rfl) (L' := [(0, .slice aa_ a_.length ca_), (3, iV i1), (35, .bool x5)]) ?_ ?_
    ·refine Zb [.slice aa_ a_.length ca_, iV i1] 0 ?_
     refine Zy (.pointer (some (adr aa_ (i1.toNat * 1)))) (Zi 22 24 1 (aa_) (a_.length) (ca_) .i64 (i1) Tryz.underlying22 (ra_.cell hx1).1 hx1l hx1u) ?_
     refine Zy (.slice a1 x3.length c1) (Zl 24 (adr aa_ (i1.toNat * 1)) (.slice a1 x3.length c1) hc1) ?_
     refine Zy (.bool x4) (ZQ 62 #[.slice a1 x3.length c1] (w_spec_l02Vector h x3 a1 c1 r1 _ _ hx2)) ?_
     refine Zb [.bool (!x4)] 5 ?_
     refine QRun_seq 18 [(0, .slice aa_ a_.length ca_), (3, iV i1), (35, .bool x5)] ?_ ?_
     ·rcases Bool.eq_false_or_eq_true (!x4) with hb4 | hb4
      ·refine Zv (!x4) true hb4 ?_
       have gx5 := M.ret_some ((M.ite_some gx5).1 hb4)
       refine Zn ?_
       refine Zn ?_
       refine Zn ?_
       refine Zn ?_
       refine Zn ?_
       refine Zn ?_
       refine Zn ?_
       refine Zn ?_
       refine Zn ?_
       refine Zn ?_
       refine Zv true x5 gx5 ?_
       exact Zd [0, 3, 35]
      ·refine Zv (!x4) false hb4 ?_
       have gx5 := (M.ite_some gx5).2 hb4
       obtain ⟨x6, hx3, gx5⟩ := M.bind_some gx5
       obtain ⟨hx3l, hx3u, hx3⟩ := M.idx_some hx3
       obtain ⟨a2, c2, hc2, r2⟩ := ra_.row hx3
       obtain ⟨x7, hx4, gx5⟩ := M.bind_some gx5
       obtain ⟨hx4l, hx4u, hx4⟩ := M.idx_some hx4
       obtain ⟨a3, c3, hc3, r3⟩ := ra_.row hx4
       have gx5 := M.ret_some gx5
       refine Zb [.slice aa_ a_.length ca_, iV i1] 7 ?_
       refine Zy (.pointer (some (adr aa_ (i1.toNat * 1)))) (Zi 22 24 1 (aa_) (a_.length) (ca_) .i64 (i1) Tryz.underlying22 (ra_.cell hx3).1 hx3l hx3u) ?_
       refine Zy (.slice a2 x6.length c2) (Zl 24 (adr aa_ (i1.toNat * 1)) (.slice a2 x6.length c2) hc2) ?_
       refine Zb [iV (x6.length : Int), .slice aa_ a_.length ca_] 11 ?_
       refine Zy (.pointer (some (adr aa_ (0 * 1)))) (Zi 22 24 1 (aa_) (a_.length) (ca_) .i64 (0) Tryz.underlying22 (ra_.cell hx4).1 hx4l hx4u) ?_
       refine Zy (.slice a3 x7.length c3) (Zl 24 (adr aa_ (0 * 1)) (.slice a3 x7.length c3) hc3) ?_
       refine Zb [iV (x7.length : Int), .bool ((x6.length : Int) != (x7.length : Int))] 15 ?_
       refine Zv ((x6.length : Int) != (x7.length : Int)) x5 gx5 ?_
       exact Zd [0, 3, 35]
     exact Zd [0, 3, 35]
    refine Zc (x5) (fun hb5 => ?_) (fun hb5 => ?_)
    ·have hB1 := (M.ite_some hB1).1 hb5
     refine Zs ?_
     refine Zq [.bool false] [2] [(2, .bool false)] ?_
     have hB1 := M.ret_some hB1
     have gx2 := houty1 _ hB1.symm
     have hF := M.cont_inr' hF gx2
     have hF := M.ret_some hF
     subst hF
     exact Run_ret1 rfl (Zt (.bool false)) ⟨rfl, rfl⟩
    ·have hB1 := (M.ite_some hB1).2 hb5
     refine Run_skip ?_
     refine Run_blk ?_
     refine Zg 3 [(0, .slice aa_ a_.length ca_), (3, iV (i1 + 1))] ?_ ?_
     ·refine Zb [iV i1] 0 ?_
      refine Zy (iV (i1 + 1)) (Y_eq (v := iV (w64 (i1 + 1))) (Y_pure (fun w => by kernel_rfl)) (by rw [w64_eq _ (by omega)])) ?_
      refine Zb [iV (i1 + 1)] 2 ?_
      exact Zd [0, 3]
     have hB1 := M.ret_some hB1
     have gx2 := hgoy1 _ hB1.symm
     exact Za [0, 3] my1 ⟨i1 + 1, (), by omega, gx2, rfl, rfl⟩
   ·have gx2 := M.for_end gx2 hb3
    subst gx2
    refine Run_exit (k' := _) rfl ?_
    exact Zf [] ⟨(), rfl, rfl, rfl⟩

theorem w_spec_l02Square (h : Heap) (a_ : List (List Int)) {Sa_ : Bs} (aa_ : Option Addr) (ca_ : Nat) (ra_ : Rd cd24 h Sa_ aa_ ca_ a_) (n : Nat) (r : Bool) (hF : spec_l02Square a_ n = some r) :
  Fn Tryz.prog 68 #[.slice aa_ a_.length ca_] h fun v h' => v = .bool r ∧ h' = h := by
 unfold spec_l02Square at hF
 refine Zo [.slice aa_ a_.length ca_] Tryz.func68 rfl (fun w0 _ => ?_)
 refine Zs ?_
 refine Zq [.bool false] [0] [(0, .slice aa_ a_.length ca_)] ?_
 refine Zs ?_
 obtain ⟨x1, hx1, hF⟩ := M.bind_some hF
 obtain ⟨x2, gx2, hF⟩ := M.bind_some hF
 refine Zg 12 [(2, .bool x2)] ?_ ?_
 ·refine Zb [.slice aa_ a_.length ca_] 0 ?_
  refine Zy (.bool x1) (ZQ 111 #[.slice aa_ a_.length ca_] (w_spec_IsMatrix h a_ aa_ ca_ ra_ _ _ hx1)) ?_
  refine QRun_seq 11 [(13, .bool x2)] ?_ ?_
  ·rcases Bool.eq_false_or_eq_true x1 with hb1 | hb1
   ·refine Zv x1 true hb1 ?_
    have gx2 := (M.ite_some gx2).1 hb1
    obtain ⟨x3, hx2, gx2⟩ := M.bind_some gx2
    obtain ⟨hx2l, hx2u, hx2⟩ := M.idx_some hx2
    obtain ⟨a1, c1, hc1, r1⟩ := ra_.row hx2
    have gx2 := M.ret_some gx2
    refine Zb [.slice aa_ a_.length ca_, iV (a_.length : Int), .slice aa_ a_.length ca_] 3 ?_
    refine Zy (.pointer (some (adr aa_ (0 * 1)))) (Zi 22 24 1 (aa_) (a_.length) (ca_) .i64 (0) Tryz.underlying22 (ra_.cell hx2).1 hx2l hx2u) ?_
    refine Zy (.slice a1 x3.length c1) (Zl 24 (adr aa_ (0 * 1)) (.slice a1 x3.length c1) hc1) ?_
    refine Zb [iV (x3.length : Int), .bool ((a_.length : Int) == (x3.length : Int))] 8 ?_
    refine Zv ((a_.length : Int) == (x3.length : Int)) x2 gx2 ?_
    exact Zd [13]
   ·refine Zv x1 false hb1 ?_
    have gx2 := M.ret_some ((M.ite_some gx2).2 hb1)
    refine Zn ?_
    refine Zn ?_
    refine Zn ?_
    refine Zn ?_
    refine Zn ?_
    refine Zn ?_
    refine Zn ?_
    refine Zv false x2 gx2 ?_
    exact Zd [13]
  refine Zb [.bool x2] 11 ?_
  exact Zd [2]
 have hF := M.ret_some hF
 subst hF
 exact Run_ret1 rfl (Zt (.bool x2)) ⟨rfl, rfl⟩

theorem w_spec_l01Next (h hE : Heap) (it : Item) (s_ : TL01source) (bs_ : Nat) (as_code : Option Addr) (cs_code : Nat) (rs_code : Rd cd5 h (Lt h) as_code cs_code s_.code) (n_ : Int) (HM : Hold h hE [box bs_ 83 [.slice as_code s_.code.length cs_code, iV s_.at_, iV s_.seed], it]) (n : Nat) (r : Int × TL01source) (hF : spec_l01Next s_ n_ n = some r) :
  Fn Tryz.prog 47 #[pV bs_, iV n_] hE fun v h' => v = iV r.1 ∧ Hold h h' [box bs_ 83 [.slice as_code s_.code.length cs_code, iV r.2.at_, iV r.2.seed], it] := by
 unfold spec_l01Next at hF
 refine Zo [pV bs_, iV n_] Tryz.func47 rfl (fun w0 _ => ?_)
 refine Zs ?_
 refine Zq [iV 0] [0, 1] [(0, pV bs_), (1, iV n_)] ?_
 refine Zs ?_
 refine Zs ?_
 refine Zq [iV n_, .bool (decide (n_ ≤ 1))] [0, 1, 7] [(0, pV bs_), (1, iV n_), (7, .bool (decide (n_ ≤ 1)))] ?_
 refine Zc (decide (n_ ≤ 1)) (fun hb1 => ?_) (fun hb1 => ?_)
 ·have hF := (M.ite_some hF).1 hb1
  refine Zs ?_
  refine Zq [iV 0] [4] [(4, iV 0)] ?_
  have hF := M.ret_some hF
  subst hF
  exact Run_ret1 rfl (Zt (iV 0)) ⟨rfl, HM⟩
 ·have hF := (M.ite_some hF).2 hb1
  refine Run_skip ?_
  refine Zs ?_
  refine Run_ops ?_
  refine Zr [pV bs_, pV bs_, pV bs_, .pointer (some ⟨bs_, 2, none⟩)] 0 ?_
  refine Zz (iV s_.seed) (Zl 2 (⟨bs_, 2, none⟩) (iV s_.seed) (HM.cell 0 rfl rfl)) ?_
  refine Zr [iV (w64 (s_.seed * 48271)), iV (w64 ((w64 (s_.seed * 48271)) + 59)), iV ((w64 ((w64 (s_.seed * 48271)) + 59)).tmod 2147483647), pV bs_, .pointer (some ⟨bs_, 2, none⟩)] 5 ?_
  refine Ze ?_
  refine ZP 2 2 [.slice as_code s_.code.length cs_code, iV s_.at_, iV ((w64 ((w64 (s_.seed * 48271)) + 59)).tmod 2147483647)] (iV ((w64 ((w64 (s_.seed * 48271)) + 59)).tmod 2147483647)) HM (fun h1 H1 => ?_)
  refine Zx ?_
  refine Zk [0, 1] [(0, pV bs_), (1, iV n_)] ?_
  refine Zs ?_
  refine Zg 6 [(0, pV bs_), (1, iV n_), (5, iV (w64 (((w64 ((w64 (s_.seed * 48271)) + 59)).tmod 2147483647).tdiv 31)))] ?_ ?_
  ·refine Zb [pV bs_, pV bs_, .pointer (some ⟨bs_, 2, none⟩)] 0 ?_
   refine Zy (iV ((w64 ((w64 (s_.seed * 48271)) + 59)).tmod 2147483647)) (Zl 2 (⟨bs_, 2, none⟩) (iV ((w64 ((w64 (s_.seed * 48271)) + 59)).tmod 2147483647)) (H1.cell 0 rfl rfl)) ?_
   refine Zb [iV (w64 (((w64 ((w64 (s_.seed * 48271)) + 59)).tmod 2147483647).tdiv 31)), iV (w64 (((w64 ((w64 (s_.seed * 48271)) + 59)).tmod 2147483647).tdiv 31))] 4 ?_
   exact Zd [0, 1, 5]
  refine Zs ?_
  refine Zs ?_
  refine Run_draw 10 mixed (by kernel_rfl) (by kernel_rfl) (L' := [(0, pV bs_), (1, iV n_), (5, iV (w64 (((w64 ((w64 (s_.seed * 48271)) + 59)).tmod 2147483647).tdiv 31))), (32, .bool (decide (s_.at_ < (s_.code.length : Int))))]) ?_ ?_
  ·refine Zb [pV bs_, pV bs_, .pointer (some ⟨bs_, 1, none⟩)] 0 ?_
   refine Zy (iV s_.at_) (Zl 3 (⟨bs_, 1, none⟩) (iV s_.at_) (H1.cell 0 rfl rfl)) ?_
   refine Zb [pV bs_, pV bs_, pV bs_] 4 ?_
   refine Zy (.slice as_code s_.code.length cs_code) (Zl 32 (⟨bs_, 0, none⟩) (.slice as_code s_.code.length cs_code) (H1.cell 0 rfl rfl)) ?_
   refine Zb [iV (s_.code.length : Int), .bool (decide (s_.at_ < (s_.code.length : Int)))] 8 ?_
   exact Zd [0, 1, 5, 32]
  obtain ⟨s1, gs1, hF⟩ := M.bind_some hF
  refine Run_join (fun L' h' => L' = [(1, iV n_), (5, iV s1.1)] ∧ Hold h h' [box bs_ 83 [.slice as_code s_.code.length cs_code, iV s1.2, iV ((w64 ((w64 (s_.seed * 48271)) + 59)).tmod 2147483647)], it]) ?_ ?_
  ·rintro _ h3 ⟨rfl, H3⟩
   refine Zs ?_
   obtain ⟨u1, hz1, hF⟩ := M.bind_some hF
   have hz1 := M.guard_some hz1
   refine Zg 4 [(4, iV (s1.1.tmod n_))] ?_ ?_
   ·refine Zb [iV s1.1, iV n_] 0 ?_
    refine Zy (iV (s1.1.tmod n_)) (Y_rem (op := .rem) (k := .i64) (x := s1.1) (y := n_) (by kernel_rfl) hz1) ?_
    refine Zb [iV (s1.1.tmod n_)] 3 ?_
    exact Zd [4]
   have hF := M.ret_some hF
   subst hF
   exact Run_ret1 rfl (Zt (iV (s1.1.tmod n_))) ⟨rfl, H3⟩
  ·refine Zc (decide (s_.at_ < (s_.code.length : Int))) (fun hb2 => ?_) (fun hb2 => ?_)
   ·have gs1 := (M.ite_some gs1).1 hb2
    refine Zs ?_
    obtain ⟨x1, hx1, gs1⟩ := M.bind_some gs1
    obtain ⟨hx1l, hx1u, hx1⟩ := M.idx_some hx1
    refine Run_draw 14 mixed (by kernel_rfl) (by kernel_rfl) (L' := [(0, pV bs_), (1, iV n_), (5, iV (w64 ((w64 (((w64 ((w64 (s_.seed * 48271)) + 59)).tmod 2147483647).tdiv 31)) + (w64 (x1)))))]) ?_ ?_
    ·refine Zb [iV (w64 (((w64 ((w64 (s_.seed * 48271)) + 59)).tmod 2147483647).tdiv 31)), pV bs_, pV bs_, pV bs_] 0 ?_
     refine Zy (.slice as_code s_.code.length cs_code) (Zl 32 (⟨bs_, 0, none⟩) (.slice as_code s_.code.length cs_code) (H1.cell 0 rfl rfl)) ?_
     refine Zb [pV bs_, pV bs_, .pointer (some ⟨bs_, 1, none⟩)] 5 ?_
     refine Zy (iV s_.at_) (Zl 3 (⟨bs_, 1, none⟩) (iV s_.at_) (H1.cell 0 rfl rfl)) ?_
     refine Zy (.pointer (some (adr as_code (s_.at_.toNat * 1)))) (Zi 32 5 1 (as_code) (s_.code.length) (cs_code) .i64 (s_.at_) Tryz.underlying32 ((rs_code.at H1.ext).cell hx1).1 hx1l hx1u) ?_
     refine Zy (.int .u8 x1) (Zl 5 (adr as_code (s_.at_.toNat * 1)) (.int .u8 x1) (cd5_cell (rs_code.at H1.ext) hx1)) ?_
     refine Zb [iV (w64 (x1)), iV (w64 ((w64 (((w64 ((w64 (s_.seed * 48271)) + 59)).tmod 2147483647).tdiv 31)) + (w64 (x1)))), iV (w64 ((w64 (((w64 ((w64 (s_.seed * 48271)) + 59)).tmod 2147483647).tdiv 31)) + (w64 (x1))))] 11 ?_
     exact Zd [0, 1, 5]
    refine Zs ?_
    refine Run_ops ?_
    refine Zr [pV bs_, pV bs_, .pointer (some ⟨bs_, 1, none⟩)] 0 ?_
    refine Zz (iV s_.at_) (Zl 3 (⟨bs_, 1, none⟩) (iV s_.at_) (H1.cell 0 rfl rfl)) ?_
    refine Zr [iV (w64 (s_.at_ + 1)), pV bs_, .pointer (some ⟨bs_, 1, none⟩)] 4 ?_
    refine Ze ?_
    refine ZP 3 1 [.slice as_code s_.code.length cs_code, iV (w64 (s_.at_ + 1)), iV ((w64 ((w64 (s_.seed * 48271)) + 59)).tmod 2147483647)] (iV (w64 (s_.at_ + 1))) H1 (fun h2 H2 => ?_)
    refine Zx ?_
    refine Zk [0, 1, 5] [(0, pV bs_), (1, iV n_), (5, iV (w64 ((w64 (((w64 ((w64 (s_.seed * 48271)) + 59)).tmod 2147483647).tdiv 31)) + (w64 (x1)))))] ?_
    refine Zs ?_
    refine Zg 10 [(0, pV bs_), (1, iV n_), (5, iV (w64 ((w64 (((w64 ((w64 (s_.seed * 48271)) + 59)).tmod 2147483647).tdiv 31)) + (w64 (x1))))), (62, .bool ((decide (n_ ≤ 256)) && (((w64 (s_.at_ + 1)).tmod 2) == 0)))] ?_ ?_
    ·refine Zb [iV n_, .bool (decide (n_ ≤ 256))] 0 ?_
     refine QRun_seq 10 [(0, pV bs_), (1, iV n_), (5, iV (w64 ((w64 (((w64 ((w64 (s_.seed * 48271)) + 59)).tmod 2147483647).tdiv 31)) + (w64 (x1))))), (62, .bool ((decide (n_ ≤ 256)) && (((w64 (s_.at_ + 1)).tmod 2) == 0)))] ?_ ?_
     ·rcases Bool.eq_false_or_eq_true (decide (n_ ≤ 256)) with hb3 | hb3
      ·refine Zv (decide (n_ ≤ 256)) true hb3 ?_
       refine Zb [pV bs_, pV bs_, .pointer (some ⟨bs_, 1, none⟩)] 3 ?_
       refine Zy (iV (w64 (s_.at_ + 1))) (Zl 3 (⟨bs_, 1, none⟩) (iV (w64 (s_.at_ + 1))) (H2.cell 0 rfl rfl)) ?_
       refine Zb [iV ((w64 (s_.at_ + 1)).tmod 2), .bool (((w64 (s_.at_ + 1)).tmod 2) == 0)] 7 ?_
       refine QRun_bool (((w64 (s_.at_ + 1)).tmod 2) == 0) ((decide (n_ ≤ 256)) && (((w64 (s_.at_ + 1)).tmod 2) == 0)) (by kernel_rfl) (fun w => by kernel_rfl) (by rw [hb3]; rfl) ?_
       exact Zd [0, 1, 5, 62]
      ·refine Zv (decide (n_ ≤ 256)) false hb3 ?_
       refine Zn ?_
       refine Zn ?_
       refine Zn ?_
       refine Zn ?_
       refine Zn ?_
       refine Zn ?_
       refine QRun_bool false ((decide (n_ ≤ 256)) && (((w64 (s_.at_ + 1)).tmod 2) == 0)) (by kernel_rfl) (fun w => by kernel_rfl) (by rw [hb3]; rfl) ?_
       exact Zd [0, 1, 5, 62]
     exact Zd [0, 1, 5, 62]
    refine Zc ((decide (n_ ≤ 256)) && (((w64 (s_.at_ + 1)).tmod 2) == 0)) (fun hb4 => ?_) (fun hb4 => ?_)
    ·have gs1 := (M.ite_some gs1).1 hb4
     obtain ⟨x3, hx2, gs1⟩ := M.bind_some gs1
     obtain ⟨hx2l, hx2u, hx2⟩ := M.idx_some hx2
     refine Run_draw 13 mixed (by kernel_rfl) (by kernel_rfl) (L' := [(1, iV n_), (5, iV (w64 (x3)))]) ?_ ?_
     ·refine Zb [pV bs_, pV bs_, pV bs_] 0 ?_
      refine Zy (.slice as_code s_.code.length cs_code) (Zl 32 (⟨bs_, 0, none⟩) (.slice as_code s_.code.length cs_code) (H2.cell 0 rfl rfl)) ?_
      refine Zb [pV bs_, pV bs_, .pointer (some ⟨bs_, 1, none⟩)] 4 ?_
      refine Zy (iV (w64 (s_.at_ + 1))) (Zl 3 (⟨bs_, 1, none⟩) (iV (w64 (s_.at_ + 1))) (H2.cell 0 rfl rfl)) ?_
      refine Zb [iV (w64 ((w64 (s_.at_ + 1)) - 1))] 8 ?_
      refine Zy (.pointer (some (adr as_code ((w64 ((w64 (s_.at_ + 1)) - 1)).toNat * 1)))) (Zi 32 5 1 (as_code) (s_.code.length) (cs_code) .i64 (w64 ((w64 (s_.at_ + 1)) - 1)) Tryz.underlying32 ((rs_code.at H2.ext).cell hx2).1 hx2l hx2u) ?_
      refine Zy (.int .u8 x3) (Zl 5 (adr as_code ((w64 ((w64 (s_.at_ + 1)) - 1)).toNat * 1)) (.int .u8 x3) (cd5_cell (rs_code.at H2.ext) hx2)) ?_
      refine Zb [iV (w64 (x3)), iV (w64 (x3))] 11 ?_
      exact Zd [1, 5]
     have gs1 := M.ret_some gs1
     subst gs1
     exact Zf [1, 5] ⟨rfl, H2⟩
    ·have gs1 := (M.ite_some gs1).2 hb4
     refine Run_skip ?_
     have gs1 := M.ret_some gs1
     subst gs1
     exact Zf [1, 5] ⟨rfl, H2⟩
   ·have gs1 := (M.ite_some gs1).2 hb2
    refine Run_skip ?_
    have gs1 := M.ret_some gs1
    subst gs1
    exact Zf [1, 5] ⟨rfl, H1⟩

theorem w_spec_l01Pick (h hE : Heap) (it : Item) (s_ : TL01source) (bs_ : Nat) (as_code : Option Addr) (cs_code : Nat) (rs_code : Rd cd5 h (Lt h) as_code cs_code s_.code) (list : List Int) (alist : Option Addr) (clist : Nat) (HM : Hold h hE [box bs_ 83 [.slice as_code s_.code.length cs_code, iV s_.at_, iV s_.seed], own cd2 alist list.length clist list, it]) (n : Nat) (r : Int × TL01source × (List Int)) (hF : spec_l01Pick s_ list n = some r) :
  Fn Tryz.prog 83 #[pV bs_, .slice alist list.length clist] hE fun v h' => v = iV r.1 ∧ Hold h h' [box bs_ 83 [.slice as_code s_.code.length cs_code, iV r.2.1.at_, iV r.2.1.seed], own cd2 alist list.length clist r.2.2, it] := by
 unfold spec_l01Pick at hF
 refine Zo [pV bs_, .slice alist list.length clist] Tryz.func83 rfl (fun w0 _ => ?_)
 refine Zs ?_
 refine Zq [iV 0] [0, 1] [(0, pV bs_), (1, .slice alist list.length clist)] ?_
 refine Zs ?_
 refine Run_ops ?_
 refine Zr [.slice alist list.length clist, pV bs_, .slice alist list.length clist, iV (list.length : Int)] 0 ?_
 obtain ⟨x1, hx1, hF⟩ := M.bind_some hF
 have H1 : Hold h hE [box bs_ 83 [.slice as_code s_.code.length cs_code, iV s_.at_, iV s_.seed], bun [own cd2 alist list.length clist list, it]] := Hold.bundle (S := [box bs_ 83 [.slice as_code s_.code.length cs_code, iV s_.at_, iV s_.seed]]) (R := [own cd2 alist list.length clist list, it]) HM
 refine Ze ?_
 refine ZC 47 #[pV bs_, iV (list.length : Int)] (w_spec_l01Next h hE _ s_ bs_ as_code cs_code rs_code (list.length : Int) H1 _ _ hx1) (fun v1 h1 hp1 => ?_)
 obtain ⟨rfl, H2⟩ := hp1
 have H3 : Hold h h1 [box bs_ 83 [.slice as_code s_.code.length cs_code, iV x1.2.at_, iV x1.2.seed], own cd2 alist list.length clist list, it] := Hold.unbundle (S := [box bs_ 83 [.slice as_code s_.code.length cs_code, iV x1.2.at_, iV x1.2.seed]]) (R := [own cd2 alist list.length clist list, it]) H2 (Hold.tailBase (S := [box bs_ 83 [.slice as_code s_.code.length cs_code, iV s_.at_, iV s_.seed]]) (R := [own cd2 alist list.length clist list, it]) HM)
 obtain ⟨x2, hx2, hF⟩ := M.bind_some hF
 obtain ⟨hx2l, hx2u, hx2⟩ := M.idx_some hx2
 refine Zz (.pointer (some (adr alist (x1.1.toNat * 1)))) (Zi 24 2 1 (alist) (list.length) (clist) .i64 (x1.1) Tryz.underlying24 ((H3.rd 1 rfl).cell hx2).1 hx2l hx2u) ?_
 refine Zz (iV x2) (Zl 2 (adr alist (x1.1.toNat * 1)) (iV x2) (cd2_cell (H3.rd 1 rfl) hx2)) ?_
 refine Zr [iV x2] 7 ?_
 refine Zx ?_
 refine Zk [4] [(4, iV x2)] ?_
 have hF := M.ret_some hF
 subst hF
 have H4 : Hold h h1 [own cd2 alist list.length clist list, box bs_ 83 [.slice as_code s_.code.length cs_code, iV x1.2.at_, iV x1.2.seed], it] := H3.pk [1, 0, 2]
 have H5 : Hold h h1 [box bs_ 83 [.slice as_code s_.code.length cs_code, iV x1.2.at_, iV x1.2.seed], own cd2 alist list.length clist list, it] := H4.pk [1, 0, 2]
 exact Run_ret1 rfl (Zt (iV x2)) ⟨rfl, H5⟩

theorem w_spec_l01DrawValue (h hE : Heap) (it : Item) (s_ : TL01source) (bs_ : Nat) (as_code : Option Addr) (cs_code : Nat) (rs_code : Rd cd5 h (Lt h) as_code cs_code s_.code) (HM : Hold h hE [box bs_ 83 [.slice as_code s_.code.length cs_code, iV s_.at_, iV s_.seed], it]) (n : Nat) (r : Int × TL01source) (hF : spec_l01DrawValue s_ n = some r) :
  Fn Tryz.prog 158 #[pV bs_] hE fun v h' => v = iV r.1 ∧ Hold h h' [box bs_ 83 [.slice as_code s_.code.length cs_code, iV r.2.at_, iV r.2.seed], it] := by
 unfold spec_l01DrawValue at hF
 refine Zo [pV bs_] Tryz.func158 rfl (fun w0 _ => ?_)
 refine Zs ?_
 refine Zq [iV 0] [0] [(0, pV bs_)] ?_
 refine Zs ?_
 refine Zs ?_
 refine Run_ops ?_
 refine Zr [pV bs_] 0 ?_
 obtain ⟨x1, hx1, hF⟩ := M.bind_some hF
 have H1 : Hold h hE [box bs_ 83 [.slice as_code s_.code.length cs_code, iV s_.at_, iV s_.seed], bun [it]] := Hold.bundle (S := [box bs_ 83 [.slice as_code s_.code.length cs_code, iV s_.at_, iV s_.seed]]) (R := [it]) HM
 refine Ze ?_
 refine ZC 47 #[pV bs_, iV 24] (w_spec_l01Next h hE _ s_ bs_ as_code cs_code rs_code 24 H1 _ _ hx1) (fun v1 h1 hp1 => ?_)
 obtain ⟨rfl, H2⟩ := hp1
 have H3 : Hold h h1 [box bs_ 83 [.slice as_code s_.code.length cs_code, iV x1.2.at_, iV x1.2.seed], it] := Hold.unbundle (S := [box bs_ 83 [.slice as_code s_.code.length cs_code, iV x1.2.at_, iV x1.2.seed]]) (R := [it]) H2 (Hold.tailBase (S := [box bs_ 83 [.slice as_code s_.code.length cs_code, iV s_.at_, iV s_.seed]]) (R := [it]) HM)
 refine Zx ?_
 refine Zk [0, 4] [(0, pV bs_), (4, iV x1.1)] ?_
 refine Run_block ?_
 refine Zs ?_
 refine Zs ?_
 refine Zq [.bool (x1.1 == 0), .bool (x1.1 == 0)] [0, 4, 5] [(0, pV bs_), (4, iV x1.1), (5, .bool (x1.1 == 0))] ?_
 obtain ⟨s1, gs1, hF⟩ := M.bind_some hF
 refine Run_join (fun L' h' => L' = [(0, pV bs_), (4, iV x1.1), (5, .bool s1)] ∧ Hold h h' [box bs_ 83 [.slice as_code s_.code.length cs_code, iV x1.2.at_, iV x1.2.seed], it]) ?_ ?_
 ·rintro _ h2 ⟨rfl, H4⟩
  refine Zc (s1) (fun hb3 => ?_) (fun hb3 => ?_)
  ·have hF := (M.ite_some hF).1 hb3
   refine Zs ?_
   refine Zq [iV (-1000000000000000)] [2] [(2, iV (-1000000000000000))] ?_
   have hF := M.ret_some hF
   subst hF
   exact Run_ret1 rfl (Zt (iV (-1000000000000000))) ⟨rfl, H4⟩
  ·have hF := (M.ite_some hF).2 hb3
   refine Zs ?_
   refine Zq [.bool (x1.1 == 3), .bool (x1.1 == 3)] [0, 4, 9] [(0, pV bs_), (4, iV x1.1), (9, .bool (x1.1 == 3))] ?_
   refine Zc (x1.1 == 3) (fun hb4 => ?_) (fun hb4 => ?_)
   ·have hF := (M.ite_some hF).1 hb4
    refine Zs ?_
    refine Run_ops ?_
    refine Zr [pV bs_] 0 ?_
    refine Ze ?_
    refine E_lit (C := cd2) (n := 7) (l := ([1000000, 1000001, (-1000000), (-1000001), (-999999999999999), (-1000000000000001), 9223372036854775807] : List Int)) (cs := [iV 1000000, iV 1000001, iV (-1000000), iV (-1000001), iV (-999999999999999), iV (-1000000000000001), iV 9223372036854775807]) H4 (fun w => by kernel_rfl) (Enc.consE (cd2_own 1000000 _) (Enc.consE (cd2_own 1000001 _) (Enc.consE (cd2_own (-1000000) _) (Enc.consE (cd2_own (-1000001) _) (Enc.consE (cd2_own (-999999999999999) _) (Enc.consE (cd2_own (-1000000000000001) _) (Enc.consE (cd2_own 9223372036854775807 _) (Enc.nil _ _) rfl) rfl) rfl) rfl) rfl) rfl) rfl) rfl (by decide) (fun a1 h3 H5 => ?_)
    obtain ⟨x2, hx2, hF⟩ := M.bind_some hF
    have hn1 := (H5.len 0 rfl)
    have H6 : Hold h h3 [own cd2 a1 (([1000000, 1000001, (-1000000), (-1000001), (-999999999999999), (-1000000000000001), 9223372036854775807] : List Int).length) 7 ([1000000, 1000001, (-1000000), (-1000001), (-999999999999999), (-1000000000000001), 9223372036854775807] : List Int), box bs_ 83 [.slice as_code s_.code.length cs_code, iV x1.2.at_, iV x1.2.seed], it] := by rw [hn1]; exact H5
    have H7 : Hold h h3 [box bs_ 83 [.slice as_code s_.code.length cs_code, iV x1.2.at_, iV x1.2.seed], own cd2 a1 (([1000000, 1000001, (-1000000), (-1000001), (-999999999999999), (-1000000000000001), 9223372036854775807] : List Int).length) 7 ([1000000, 1000001, (-1000000), (-1000001), (-999999999999999), (-1000000000000001), 9223372036854775807] : List Int), it] := H6.pk [1, 0, 2]
    have H8 : Hold h h3 [box bs_ 83 [.slice as_code s_.code.length cs_code, iV x1.2.at_, iV x1.2.seed], own cd2 a1 (([1000000, 1000001, (-1000000), (-1000001), (-999999999999999), (-1000000000000001), 9223372036854775807] : List Int).length) 7 ([1000000, 1000001, (-1000000), (-1000001), (-999999999999999), (-1000000000000001), 9223372036854775807] : List Int), bun [it]] := Hold.bundle (S := [box bs_ 83 [.slice as_code s_.code.length cs_code, iV x1.2.at_, iV x1.2.seed], own cd2 a1 (([1000000, 1000001, (-1000000), (-1000001), (-999999999999999), (-1000000000000001), 9223372036854775807] : List Int).length) 7 ([1000000, 1000001, (-1000000), (-1000001), (-999999999999999), (-1000000000000001), 9223372036854775807] : List Int)]) (R := [it]) H7
    refine Ze ?_
    refine ZC 83 #[pV bs_, .slice a1 7 7] (Fn.arg (w_spec_l01Pick h h3 _ (⟨s_.code, x1.2.at_, x1.2.seed⟩ : TL01source) bs_ as_code cs_code rs_code ([1000000, 1000001, (-1000000), (-1000001), (-999999999999999), (-1000000000000001), 9223372036854775807] : List Int) a1 7 H8 _ _ hx2) (by simp only [hn1])) (fun v2 h4 hp2 => ?_)
    obtain ⟨rfl, H9⟩ := hp2
    have H10 : Hold h h4 [box bs_ 83 [.slice as_code s_.code.length cs_code, iV x2.2.1.at_, iV x2.2.1.seed], own cd2 a1 (([1000000, 1000001, (-1000000), (-1000001), (-999999999999999), (-1000000000000001), 9223372036854775807] : List Int).length) 7 x2.2.2, it] := Hold.unbundle (S := [box bs_ 83 [.slice as_code s_.code.length cs_code, iV x2.2.1.at_, iV x2.2.1.seed], own cd2 a1 (([1000000, 1000001, (-1000000), (-1000001), (-999999999999999), (-1000000000000001), 9223372036854775807] : List Int).length) 7 x2.2.2]) (R := [it]) H9 (Hold.tailBase (S := [box bs_ 83 [.slice as_code s_.code.length cs_code, iV x1.2.at_, iV x1.2.seed], own cd2 a1 (([1000000, 1000001, (-1000000), (-1000001), (-999999999999999), (-1000000000000001), 9223372036854775807] : List Int).length) 7 ([1000000, 1000001, (-1000000), (-1000001), (-999999999999999), (-1000000000000001), 9223372036854775807] : List Int)]) (R := [it]) H7)
    refine Zr [iV x2.1] 3 ?_
    refine Zx ?_
    refine Zk [2] [(2, iV x2.1)] ?_
    have hF := M.ret_some hF
    subst hF
    have H11 : Hold h h4 [box bs_ 83 [.slice as_code s_.code.length cs_code, iV x2.2.1.at_, iV x2.2.1.seed], it] := H10.pk [0, 2]
    exact Run_ret1 rfl (Zt (iV x2.1)) ⟨rfl, H11⟩
   ·have hF := (M.ite_some hF).2 hb4
    refine Zs ?_
    refine Zq [.bool (x1.1 == 4), .bool (x1.1 == 4)] [0, 14] [(0, pV bs_), (14, .bool (x1.1 == 4))] ?_
    refine Zc (x1.1 == 4) (fun hb5 => ?_) (fun hb5 => ?_)
    ·have hF := (M.ite_some hF).1 hb5
     refine Zs ?_
     refine Run_ops ?_
     refine Zr [pV bs_] 0 ?_
     obtain ⟨x3, hx3, hF⟩ := M.bind_some hF
     have H12 : Hold h h2 [box bs_ 83 [.slice as_code s_.code.length cs_code, iV x1.2.at_, iV x1.2.seed], bun [it]] := Hold.bundle (S := [box bs_ 83 [.slice as_code s_.code.length cs_code, iV x1.2.at_, iV x1.2.seed]]) (R := [it]) H4
     refine Ze ?_
     refine ZC 47 #[pV bs_, iV 2000] (w_spec_l01Next h h2 _ (⟨s_.code, x1.2.at_, x1.2.seed⟩ : TL01source) bs_ as_code cs_code rs_code 2000 H12 _ _ hx3) (fun v3 h5 hp3 => ?_)
     obtain ⟨rfl, H13⟩ := hp3
     have H14 : Hold h h5 [box bs_ 83 [.slice as_code s_.code.length cs_code, iV x3.2.at_, iV x3.2.seed], it] := Hold.unbundle (S := [box bs_ 83 [.slice as_code s_.code.length cs_code, iV x3.2.at_, iV x3.2.seed]]) (R := [it]) H13 (Hold.tailBase (S := [box bs_ 83 [.slice as_code s_.code.length cs_code, iV x1.2.at_, iV x1.2.seed]]) (R := [it]) H4)
     refine Zr [iV (w64 (x3.1 - 1000)), iV (w64 ((w64 (x3.1 - 1000)) * 701)), iV (w64 ((w64 (x3.1 - 1000)) * 701))] 2 ?_
     refine Zx ?_
     refine Zk [2] [(2, iV (w64 ((w64 (x3.1 - 1000)) * 701)))] ?_
     have hF := M.ret_some hF
     subst hF
     exact Run_ret1 rfl (Zt (iV (w64 ((w64 (x3.1 - 1000)) * 701)))) ⟨rfl, H14⟩
    ·have hF := (M.ite_some hF).2 hb5
     refine Run_skip ?_
     refine Run_blk ?_
     refine Zs ?_
     refine Run_ops ?_
     refine Zr [pV bs_] 0 ?_
     obtain ⟨x4, hx4, hF⟩ := M.bind_some hF
     have H15 : Hold h h2 [box bs_ 83 [.slice as_code s_.code.length cs_code, iV x1.2.at_, iV x1.2.seed], bun [it]] := Hold.bundle (S := [box bs_ 83 [.slice as_code s_.code.length cs_code, iV x1.2.at_, iV x1.2.seed]]) (R := [it]) H4
     refine Ze ?_
     refine ZC 47 #[pV bs_, iV 41] (w_spec_l01Next h h2 _ (⟨s_.code, x1.2.at_, x1.2.seed⟩ : TL01source) bs_ as_code cs_code rs_code 41 H15 _ _ hx4) (fun v4 h6 hp4 => ?_)
     obtain ⟨rfl, H16⟩ := hp4
     have H17 : Hold h h6 [box bs_ 83 [.slice as_code s_.code.length cs_code, iV x4.2.at_, iV x4.2.seed], it] := Hold.unbundle (S := [box bs_ 83 [.slice as_code s_.code.length cs_code, iV x4.2.at_, iV x4.2.seed]]) (R := [it]) H16 (Hold.tailBase (S := [box bs_ 83 [.slice as_code s_.code.length cs_code, iV x1.2.at_, iV x1.2.seed]]) (R := [it]) H4)
     refine Zr [iV (w64 (x4.1 - 20)), iV (w64 (x4.1 - 20))] 2 ?_
     refine Zx ?_
     refine Zk [2] [(2, iV (w64 (x4.1 - 20)))] ?_
     have hF := M.ret_some hF
     subst hF
     exact Run_ret1 rfl (Zt (iV (w64 (x4.1 - 20)))) ⟨rfl, H17⟩
 ·refine Zc (x1.1 == 0) (fun hb1 => ?_) (fun hb1 => ?_)
  ·have gs1 := (M.ite_some gs1).1 hb1
   refine Run_skip ?_
   have gs1 := M.ret_some gs1
   subst gs1
   exact Zf [0, 4, 5] ⟨rfl, H3⟩
  ·have gs1 := (M.ite_some gs1).2 hb1
   refine Zs ?_
   refine Zq [.bool (x1.1 == 1), .bool (x1.1 == 1)] [0, 4, 5] [(0, pV bs_), (4, iV x1.1), (5, .bool (x1.1 == 1))] ?_
   refine Zc (x1.1 == 1) (fun hb2 => ?_) (fun hb2 => ?_)
   ·have gs1 := (M.ite_some gs1).1 hb2
    refine Run_skip ?_
    have gs1 := M.ret_some gs1
    subst gs1
    exact Zf [0, 4, 5] ⟨rfl, H3⟩
   ·have gs1 := (M.ite_some gs1).2 hb2
    refine Zq [.bool (x1.1 == 2), .bool (x1.1 == 2)] [0, 4, 5] [(0, pV bs_), (4, iV x1.1), (5, .bool (x1.1 == 2))] ?_
    have gs1 := M.ret_some gs1
    subst gs1
    exact Zf [0, 4, 5] ⟨rfl, H3⟩

theorem w_spec_l02DrawSize (h hE : Heap) (it : Item) (s_ : TL01source) (bs_ : Nat) (as_code : Option Addr) (cs_code : Nat) (rs_code : Rd cd5 h (Lt h) as_code cs_code s_.code) (m_ : Int) (n_ : Int) (HM : Hold h hE [box bs_ 83 [.slice as_code s_.code.length cs_code, iV s_.at_, iV s_.seed], it]) (n : Nat) (r : (List (List Int)) × TL01source) (hF : spec_l02DrawSize s_ m_ n_ n = some r) :
  Fn Tryz.prog 152 #[pV bs_, iV m_, iV n_] hE fun v h' => ∃ (a0 : Option Addr) (c0 : Nat), v = .slice a0 r.1.length c0 ∧ Hold h h' [own cd24 a0 r.1.length c0 r.1, box bs_ 83 [.slice as_code s_.code.length cs_code, iV r.2.at_, iV r.2.seed], it] := by
 unfold spec_l02DrawSize at hF
 refine Zo [pV bs_, iV m_, iV n_] Tryz.func152 rfl (fun w0 _ => ?_)
 refine Zs ?_
 refine Zq [.slice none 0 0] [0, 1, 2] [(0, pV bs_), (1, iV m_), (2, iV n_)] ?_
 refine Zs ?_
 refine Run_ops ?_
 refine Zr [iV m_, iV n_] 0 ?_
 obtain ⟨x1, hx1, hF⟩ := M.bind_some hF
 refine Ze ?_
 refine ZC 81 #[iV m_, iV n_] (w_spec_l02Bottom hE m_ n_ _ _ hx1) (fun v1 h1 hp1 => ?_)
 obtain ⟨a1, c1, rfl, H1⟩ := hp1
 have H2 : Hold h h1 [own cd24 a1 x1.length c1 x1, box bs_ 83 [.slice as_code s_.code.length cs_code, iV s_.at_, iV s_.seed], it] := HM.call H1 rfl
 refine Zr [.slice a1 x1.length c1] 3 ?_
 refine Zx ?_
 refine Zk [0, 1, 2, 7] [(0, pV bs_), (1, iV m_), (2, iV n_), (7, .slice a1 x1.length c1)] ?_
 refine Zs ?_
 refine Run_ops ?_
 refine Zr [pV bs_] 0 ?_
 refine Ze ?_
 refine E_lit (C := cd2) (n := 3) (l := ([2, 3, 5] : List Int)) (cs := [iV 2, iV 3, iV 5]) H2 (fun w => by kernel_rfl) (Enc.consE (cd2_own 2 _) (Enc.consE (cd2_own 3 _) (Enc.consE (cd2_own 5 _) (Enc.nil _ _) rfl) rfl) rfl) rfl (by decide) (fun a2 h2 H3 => ?_)
 obtain ⟨x2, hx2, hF⟩ := M.bind_some hF
 have hn1 := (H3.len 0 rfl)
 have H4 : Hold h h2 [own cd2 a2 (([2, 3, 5] : List Int).length) 3 ([2, 3, 5] : List Int), own cd24 a1 x1.length c1 x1, box bs_ 83 [.slice as_code s_.code.length cs_code, iV s_.at_, iV s_.seed], it] := by rw [hn1]; exact H3
 have H5 : Hold h h2 [box bs_ 83 [.slice as_code s_.code.length cs_code, iV s_.at_, iV s_.seed], own cd2 a2 (([2, 3, 5] : List Int).length) 3 ([2, 3, 5] : List Int), own cd24 a1 x1.length c1 x1, it] := H4.pk [2, 0, 1, 3]
 have H6 : Hold h h2 [box bs_ 83 [.slice as_code s_.code.length cs_code, iV s_.at_, iV s_.seed], own cd2 a2 (([2, 3, 5] : List Int).length) 3 ([2, 3, 5] : List Int), bun [own cd24 a1 x1.length c1 x1, it]] := Hold.bundle (S := [box bs_ 83 [.slice as_code s_.code.length cs_code, iV s_.at_, iV s_.seed], own cd2 a2 (([2, 3, 5] : List Int).length) 3 ([2, 3, 5] : List Int)]) (R := [own cd24 a1 x1.length c1 x1, it]) H5
 refine Ze ?_
 refine ZC 83 #[pV bs_, .slice a2 3 3] (Fn.arg (w_spec_l01Pick h h2 _ s_ bs_ as_code cs_code rs_code ([2, 3, 5] : List Int) a2 3 H6 _ _ hx2) (by simp only [hn1])) (fun v2 h3 hp2 => ?_)
 obtain ⟨rfl, H7⟩ := hp2
 have H8 : Hold h h3 [box bs_ 83 [.slice as_code s_.code.length cs_code, iV x2.2.1.at_, iV x2.2.1.seed], own cd2 a2 (([2, 3, 5] : List Int).length) 3 x2.2.2, own cd24 a1 x1.length c1 x1, it] := Hold.unbundle (S := [box bs_ 83 [.slice as_code s_.code.length cs_code, iV x2.2.1.at_, iV x2.2.1.seed], own cd2 a2 (([2, 3, 5] : List Int).length) 3 x2.2.2]) (R := [own cd24 a1 x1.length c1 x1, it]) H7 (Hold.tailBase (S := [box bs_ 83 [.slice as_code s_.code.length cs_code, iV s_.at_, iV s_.seed], own cd2 a2 (([2, 3, 5] : List Int).length) 3 ([2, 3, 5] : List Int)]) (R := [own cd24 a1 x1.length c1 x1, it]) H5)
 refine Zr [iV x2.1] 3 ?_
 refine Zx ?_
 refine Zk [0, 1, 2, 7, 8] [(0, pV bs_), (1, iV m_), (2, iV n_), (7, .slice a1 x1.length c1), (8, iV x2.1)] ?_
 refine Zs ?_
 refine Zs ?_
 refine Zq [iV 0] [0, 1, 2, 7, 8, 9] [(0, pV bs_), (1, iV m_), (2, iV n_), (7, .slice a1 x1.length c1), (8, iV x2.1), (9, iV 0)] ?_
 obtain ⟨x3, gx3, hF⟩ := M.bind_some hF
 obtain ⟨hloy1, hhiy1, gx3⟩ := M.for_start gx3
 refine Run_join (fun L' h' => L' = [(0, pV bs_), (7, .slice a1 x1.length c1)] ∧ Hold h h' [box bs_ 83 [.slice as_code s_.code.length cs_code, iV x3.1, iV x3.2.1], own cd24 a1 x1.length c1 x3.2.2, it]) ?_ ?_
 ·rintro _ h5 ⟨rfl, H10⟩
  refine Zs ?_
  refine Zs ?_
  refine Run_ops ?_
  refine Zr [pV bs_] 0 ?_
  obtain ⟨x9, hx7, hF⟩ := M.bind_some hF
  have H32 : Hold h h5 [box bs_ 83 [.slice as_code s_.code.length cs_code, iV x3.1, iV x3.2.1], bun [own cd24 a1 x1.length c1 x3.2.2, it]] := Hold.bundle (S := [box bs_ 83 [.slice as_code s_.code.length cs_code, iV x3.1, iV x3.2.1]]) (R := [own cd24 a1 x1.length c1 x3.2.2, it]) H10
  refine Ze ?_
  refine ZC 47 #[pV bs_, iV 60] (w_spec_l01Next h h5 _ (⟨s_.code, x3.1, x3.2.1⟩ : TL01source) bs_ as_code cs_code rs_code 60 H32 _ _ hx7) (fun v5 h14 hp5 => ?_)
  obtain ⟨rfl, H33⟩ := hp5
  have H34 : Hold h h14 [box bs_ 83 [.slice as_code s_.code.length cs_code, iV x9.2.at_, iV x9.2.seed], own cd24 a1 x1.length c1 x3.2.2, it] := Hold.unbundle (S := [box bs_ 83 [.slice as_code s_.code.length cs_code, iV x9.2.at_, iV x9.2.seed]]) (R := [own cd24 a1 x1.length c1 x3.2.2, it]) H33 (Hold.tailBase (S := [box bs_ 83 [.slice as_code s_.code.length cs_code, iV x3.1, iV x3.2.1]]) (R := [own cd24 a1 x1.length c1 x3.2.2, it]) H10)
  refine Zx ?_
  refine Zk [0, 7, 41] [(0, pV bs_), (7, .slice a1 x1.length c1), (41, iV x9.1)] ?_
  refine Run_block ?_
  refine Zs ?_
  refine Zq [.bool (x9.1 == 0), .bool (x9.1 == 0)] [0, 7, 41, 42] [(0, pV bs_), (7, .slice a1 x1.length c1), (41, iV x9.1), (42, .bool (x9.1 == 0))] ?_
  refine Zc (x9.1 == 0) (fun hb4 => ?_) (fun hb4 => ?_)
  ·have hF := (M.ite_some hF).1 hb4
   obtain ⟨x10, hx8, hF⟩ := M.bind_some hF
   obtain ⟨hx8l, hx8u, hx8⟩ := M.idx_some hx8
   have H35 : Hold h h14 [own cd24 a1 x1.length c1 x3.2.2, box bs_ 83 [.slice as_code s_.code.length cs_code, iV x9.2.at_, iV x9.2.seed], it] := H34.pk [1, 0, 2]
   have H36 := H35.toRows
   obtain ⟨a4, c3, H37⟩ := H36.pinRow hx8
   have H38 : Hold h h14 [box bs_ 83 [.slice as_code s_.code.length cs_code, iV x9.2.at_, iV x9.2.seed], rowsP cd2 24 a1 x1.length c1 x3.2.2 [(0, a4, x10.length, c3, x10)], it] := H37.pk [1, 0, 2]
   refine Run_D (fun x => Hold h x [rowsP cd2 24 a1 x1.length c1 x3.2.2 [(0, a4, x10.length, c3, x10)], it]) (fun x => Hold h x [box bs_ 83 [.slice as_code s_.code.length cs_code, iV x9.2.at_, iV x9.2.seed], rowsP cd2 24 a1 x1.length c1 x3.2.2 [(0, a4, x10.length, c3, x10)], it]) mixed (by kernel_rfl) H38 Hold.stable (fun x Hy => (show Hold h x [box bs_ 83 [.slice as_code s_.code.length cs_code, iV x9.2.at_, iV x9.2.seed], rowsP cd2 24 a1 x1.length c1 x3.2.2 [(0, a4, x10.length, c3, x10)], it] from Hy).pk [1, 2]) ?_
   refine ZB 6 [.slice a1 x1.length c1] 0 ?_
   refine ZY 5 1 (.pointer (some (adr a1 (0 * 1)))) (fun hx Hx => (YE.of (Zi 22 24 1 (a1) (x1.length) (c1) .i64 (0) Tryz.underlying22 ((H34.rd 1 rfl).cell hx8).1 hx8l (by rw [← (H34.len 1 rfl)]; exact hx8u)))) ?_
   refine ZY 4 2 (.slice a4 x10.length c3) (fun hx Hx => (YE.of (Zl 24 (adr a1 (0 * 1)) (.slice a4 x10.length c3) (Hx.cellPin 0 rfl 0 rfl)))) ?_
   refine ZB 3 [pV bs_] 3 ?_
   refine ZE 2 4 (fun h15 H39 => ?_)
   have H40 : Hold h h15 [box bs_ 83 [.slice as_code s_.code.length cs_code, iV x9.2.at_, iV x9.2.seed], rowsP cd2 24 a1 x1.length c1 x3.2.2 [(0, a4, x10.length, c3, x10)], it] := H39
   obtain ⟨x11, hx9, hF⟩ := M.bind_some hF
   have H41 : Hold h h15 [box bs_ 83 [.slice as_code s_.code.length cs_code, iV x9.2.at_, iV x9.2.seed], bun [rowsP cd2 24 a1 x1.length c1 x3.2.2 [(0, a4, x10.length, c3, x10)], it]] := Hold.bundle (S := [box bs_ 83 [.slice as_code s_.code.length cs_code, iV x9.2.at_, iV x9.2.seed]]) (R := [rowsP cd2 24 a1 x1.length c1 x3.2.2 [(0, a4, x10.length, c3, x10)], it]) H40
   refine ZC 158 #[pV bs_] (w_spec_l01DrawValue h h15 _ (⟨s_.code, x9.2.at_, x9.2.seed⟩ : TL01source) bs_ as_code cs_code rs_code H41 _ _ hx9) (fun v6 h16 hp6 => ?_)
   obtain ⟨rfl, H42⟩ := hp6
   have H43 : Hold h h16 [box bs_ 83 [.slice as_code s_.code.length cs_code, iV x11.2.at_, iV x11.2.seed], rowsP cd2 24 a1 x1.length c1 x3.2.2 [(0, a4, x10.length, c3, x10)], it] := Hold.unbundle (S := [box bs_ 83 [.slice as_code s_.code.length cs_code, iV x11.2.at_, iV x11.2.seed]]) (R := [rowsP cd2 24 a1 x1.length c1 x3.2.2 [(0, a4, x10.length, c3, x10)], it]) H42 (Hold.tailBase (S := [box bs_ 83 [.slice as_code s_.code.length cs_code, iV x9.2.at_, iV x9.2.seed]]) (R := [rowsP cd2 24 a1 x1.length c1 x3.2.2 [(0, a4, x10.length, c3, x10)], it]) H40)
   refine ⟨fun x => Hold h x [rowsP cd2 24 a1 x1.length c1 x3.2.2 [(0, a4, x10.length, c3, x10)], it], fun x => Hold h x [box bs_ 83 [.slice as_code s_.code.length cs_code, iV x11.2.at_, iV x11.2.seed], rowsP cd2 24 a1 x1.length c1 x3.2.2 [(0, a4, x10.length, c3, x10)], it], H43, Hold.stable, fun x Hy => (show Hold h x [box bs_ 83 [.slice as_code s_.code.length cs_code, iV x11.2.at_, iV x11.2.seed], rowsP cd2 24 a1 x1.length c1 x3.2.2 [(0, a4, x10.length, c3, x10)], it] from Hy).pk [1, 2], fun x Hy => (show Hold h x [rowsP cd2 24 a1 x1.length c1 x3.2.2 [(0, a4, x10.length, c3, x10)], it] from Hy).pk [0, 1], ?_⟩
   obtain ⟨x12, hx10, hF⟩ := M.bind_some hF
   obtain ⟨hx10l, hx10u, hx10⟩ := M.idx_some hx10
   refine ZY 1 5 (.pointer (some (adr a4 (0 * 1)))) (fun hx Hx => (YE.of (Zi 24 2 1 (a4) (x10.length) (c3) .i64 (0) Tryz.underlying24 ((H43.rdPin 1 rfl 0 rfl).cell hx10).1 hx10l hx10u))) ?_
   refine ZT 6 (fun h17 H44 => ?_)
   have H45 : Hold h h17 [box bs_ 83 [.slice as_code s_.code.length cs_code, iV x11.2.at_, iV x11.2.seed], rowsP cd2 24 a1 x1.length c1 x3.2.2 [(0, a4, x10.length, c3, x10)], it] := H44
   obtain ⟨l2, hu2, hF⟩ := M.bind_some hF
   have hu2 := M.upd_some hu2
   have H47 : Hold h h17 [rowsP cd2 24 a1 x1.length c1 x3.2.2 [(0, a4, x10.length, c3, x10)], box bs_ 83 [.slice as_code s_.code.length cs_code, iV x11.2.at_, iV x11.2.seed], it] := H45.pk [1, 0, 2]
   refine Ze ?_
   refine E_put2 (C := cd2) (t := 2) (sz := 1) (j := 0) (x := x11.1) (v := iV x11.1) (m2 := x3.2.2.set 0 l2) H47 cd2_flat 0 rfl (by kernel_rfl) rfl (cd2_own _) (by kernel_rfl) hu2 rfl (fun h18 H46 => ?_)
   refine Zx ?_
   refine Zk [7] [(7, .slice a1 x1.length c1)] ?_
   refine Run_blk ?_
   refine Zs ?_
   refine Zq [.slice a1 x1.length c1, .slice a1 x1.length c1] [6] [(6, .slice a1 x1.length c1)] ?_
   have hF := M.ret_some hF
   subst hF
   have H48 := H46.ofRows
   have H49 := H48.norm
   exact Run_ret1 rfl (Zt (.slice a1 x1.length c1)) ⟨a1, c1, (by simp only [(H48.len 0 rfl)]), H49⟩
  ·have hF := (M.ite_some hF).2 hb4
   refine Zs ?_
   refine Zq [.bool (x9.1 == 1), .bool (x9.1 == 1)] [7, 41, 50] [(7, .slice a1 x1.length c1), (41, iV x9.1), (50, .bool (x9.1 == 1))] ?_
   refine Zc (x9.1 == 1) (fun hb5 => ?_) (fun hb5 => ?_)
   ·have hF := (M.ite_some hF).1 hb5
    refine Zs ?_
    refine Run_ops ?_
    refine Zr [.slice a1 x1.length c1] 0 ?_
    refine Ze ?_
    refine E_lit (C := cd2) (n := 0) (l := ([] : List Int)) (cs := []) H34 (fun w => by kernel_rfl) (Enc.nil _ _) rfl (by decide) (fun a5 h19 H50 => ?_)
    refine Ze ?_
    refine E_lit1 (ey := 24) (n := 0) H50 (fun w => by kernel_rfl) rfl (fun a6 h20 H51 => ?_)
    obtain ⟨l3, hl1, hF⟩ := M.bind_some hF
    have hl1 := M.app_some hl1
    have H52 : Hold h h20 [own cd24 a1 x1.length c1 x3.2.2, own cd24 a6 1 1 [([] : List Int)], box bs_ 83 [.slice as_code s_.code.length cs_code, iV x9.2.at_, iV x9.2.seed], it] := H51.pk [2, 0, 1, 3]
    have H53 : Hold h h20 [own cd24 a6 1 1 [([] : List Int)], own cd24 a1 x1.length c1 x3.2.2, box bs_ 83 [.slice as_code s_.code.length cs_code, iV x9.2.at_, iV x9.2.seed], it] := H52.pk [1, 0, 2, 3]
    have H54 : Hold h h20 [own cd24 a1 x1.length c1 x3.2.2, own cd24 a6 1 1 [([] : List Int)], box bs_ 83 [.slice as_code s_.code.length cs_code, iV x9.2.at_, iV x9.2.seed], it] := H53.pk [1, 0, 2, 3]
    refine Ze ?_
    refine E_app (C := cd24) (t := 22) (ty := 22) (n := x1.length) (m := 1) H54 cd24_ti rfl Tryz.underlying22 (by decide) (by kernel_rfl) hl1 (fun a7 c4 h21 H55 => ?_)
    refine Zr [.slice a7 l3.length c4] 4 ?_
    refine Zx ?_
    refine Zk [6] [(6, .slice a7 l3.length c4)] ?_
    have hF := M.ret_some hF
    subst hF
    exact Run_ret1 rfl (Zt (.slice a7 l3.length c4)) ⟨a7, c4, rfl, H55⟩
   ·have hF := (M.ite_some hF).2 hb5
    refine Zs ?_
    refine Zq [.bool (x9.1 == 2), .bool (x9.1 == 2)] [7, 56] [(7, .slice a1 x1.length c1), (56, .bool (x9.1 == 2))] ?_
    refine Zc (x9.1 == 2) (fun hb6 => ?_) (fun hb6 => ?_)
    ·have hF := (M.ite_some hF).1 hb6
     refine Zs ?_
     refine Zq [.slice none 0 0] [6] [(6, .slice none 0 0)] ?_
     have hF := M.ret_some hF
     subst hF
     have H56 := H34.empty cd24
     have H57 : Hold h h14 [own cd24 none 0 0 [], box bs_ 83 [.slice as_code s_.code.length cs_code, iV x9.2.at_, iV x9.2.seed], it] := H56.pk [0, 1, 3]
     exact Run_ret1 rfl (Zt (.slice none 0 0)) ⟨none, 0, rfl, H57⟩
    ·have hF := (M.ite_some hF).2 hb6
     refine Run_skip ?_
     refine Run_blk ?_
     refine Zs ?_
     refine Zq [.slice a1 x1.length c1, .slice a1 x1.length c1] [6] [(6, .slice a1 x1.length c1)] ?_
     have hF := M.ret_some hF
     subst hF
     have H58 : Hold h h14 [own cd24 a1 x1.length c1 x3.2.2, box bs_ 83 [.slice as_code s_.code.length cs_code, iV x9.2.at_, iV x9.2.seed], it] := H34.pk [1, 0, 2]
     have H59 := H58.norm
     exact Run_ret1 rfl (Zt (.slice a1 x1.length c1)) ⟨a1, c1, (by simp only [(H58.len 0 rfl)]), H59⟩
 ·refine Run_block ?_
  have H60 : Hold h h3 [box bs_ 83 [.slice as_code s_.code.length cs_code, iV x2.2.1.at_, iV x2.2.1.seed], own cd24 a1 x1.length c1 x1, it] := H8.pk [0, 2, 3]
  refine Zk [0, 1, 2, 7, 8, 9] [(0, pV bs_), (1, iV m_), (2, iV n_), (7, .slice a1 x1.length c1), (8, iV x2.1), (9, iV 0)] ?_
  refine Run_loop (fun m L' h' => ∃ (i1 : Int) (s1 : Int × Int × (List (List Int))), 0 ≤ i1 ∧ M.forN m_ _ _ n m i1 s1 = some x3 ∧ L' = [(0, pV bs_), (1, iV m_), (2, iV n_), (7, .slice a1 x1.length c1), (8, iV x2.1), (9, iV i1)] ∧ Hold h h' [box bs_ 83 [.slice as_code s_.code.length cs_code, iV s1.1, iV s1.2.1], own cd24 a1 x1.length c1 s1.2.2, it]) (m_ - 0 : Int).toNat ⟨0, (x2.2.1.at_, x2.2.1.seed, x1), Int.le_refl _, gx3, rfl, H60⟩ ?_
  rintro my1 _ h4 ⟨i1, s1, hloy1', gx3, rfl, H9⟩
  refine Zs ?_
  refine Zs ?_
  refine Zq [iV i1, iV m_, .bool (decide (i1 < m_))] [0, 1, 2, 7, 8, 9, 19] [(0, pV bs_), (1, iV m_), (2, iV n_), (7, .slice a1 x1.length c1), (8, iV x2.1), (9, iV i1), (19, .bool (decide (i1 < m_)))] ?_
  refine Zc (decide (i1 < m_)) (fun hb1 => ?_) (fun hb1 => ?_)
  ·obtain ⟨my1, y1, rfl, hB1, hgoy1, houty1⟩ := M.for_go gx3 hb1
   have hlty1 := of_decide_eq_true hb1
   refine Run_skip ?_
   refine Zs ?_
   refine Run_block ?_
   refine Zs ?_
   refine Zq [iV 0] [0, 1, 2, 7, 8, 9, 10] [(0, pV bs_), (1, iV m_), (2, iV n_), (7, .slice a1 x1.length c1), (8, iV x2.1), (9, iV i1), (10, iV 0)] ?_
   obtain ⟨x4, gx4, hB1⟩ := M.bind_some hB1
   obtain ⟨hloy2, hhiy2, gx4⟩ := M.for_start gx4
   refine Run_join (fun L' h' => L' = [(0, pV bs_), (1, iV m_), (2, iV n_), (7, .slice a1 x1.length c1), (8, iV x2.1), (9, iV i1)] ∧ Hold h h' [box bs_ 83 [.slice as_code s_.code.length cs_code, iV x4.1, iV x4.2.1], own cd24 a1 x1.length c1 x4.2.2, it]) ?_ ?_
   ·rintro _ h7 ⟨rfl, H12⟩
    refine Run_blk ?_
    refine Zg 3 [(0, pV bs_), (1, iV m_), (2, iV n_), (7, .slice a1 x1.length c1), (8, iV x2.1), (9, iV (i1 + 1))] ?_ ?_
    ·refine Zb [iV i1] 0 ?_
     refine Zy (iV (i1 + 1)) (Y_eq (v := iV (w64 (i1 + 1))) (Y_pure (fun w => by kernel_rfl)) (by rw [w64_eq _ (by omega)])) ?_
     refine Zb [iV (i1 + 1)] 2 ?_
     exact Zd [0, 1, 2, 7, 8, 9]
    have hB1 := M.ret_some hB1
    have gx3 := hgoy1 _ hB1.symm
    exact Za [0, 1, 2, 7, 8, 9] my1 ⟨i1 + 1, (x4.1, x4.2.1, x4.2.2), by omega, gx3, rfl, H12⟩
   ·refine Run_block ?_
    refine Zk [0, 1, 2, 7, 8, 9, 10] [(0, pV bs_), (1, iV m_), (2, iV n_), (7, .slice a1 x1.length c1), (8, iV x2.1), (9, iV i1), (10, iV 0)] ?_
    refine Run_loop (fun m L' h' => ∃ (i2 : Int) (s2 : Int × Int × (List (List Int))), 0 ≤ i2 ∧ M.forN n_ _ _ n m i2 s2 = some x4 ∧ L' = [(0, pV bs_), (1, iV m_), (2, iV n_), (7, .slice a1 x1.length c1), (8, iV x2.1), (9, iV i1), (10, iV i2)] ∧ Hold h h' [box bs_ 83 [.slice as_code s_.code.length cs_code, iV s2.1, iV s2.2.1], own cd24 a1 x1.length c1 s2.2.2, it]) (n_ - 0 : Int).toNat ⟨0, (s1.1, s1.2.1, s1.2.2), Int.le_refl _, gx4, rfl, H9⟩ ?_
    rintro my2 _ h6 ⟨i2, s2, hloy2', gx4, rfl, H11⟩
    refine Zs ?_
    refine Zs ?_
    refine Zq [iV i2, iV n_, .bool (decide (i2 < n_))] [0, 1, 2, 7, 8, 9, 10, 24] [(0, pV bs_), (1, iV m_), (2, iV n_), (7, .slice a1 x1.length c1), (8, iV x2.1), (9, iV i1), (10, iV i2), (24, .bool (decide (i2 < n_)))] ?_
    refine Zc (decide (i2 < n_)) (fun hb2 => ?_) (fun hb2 => ?_)
    ·obtain ⟨my2, y2, rfl, hB2, hgoy2, houty2⟩ := M.for_go gx4 hb2
     have hlty2 := of_decide_eq_true hb2
     refine Run_skip ?_
     refine Zs ?_
     refine Run_block ?_
     refine Zs ?_
     refine Run_ops ?_
     refine Zr [pV bs_, iV x2.1] 0 ?_
     obtain ⟨x5, hx3, hB2⟩ := M.bind_some hB2
     have H13 : Hold h h6 [box bs_ 83 [.slice as_code s_.code.length cs_code, iV s2.1, iV s2.2.1], bun [own cd24 a1 x1.length c1 s2.2.2, it]] := Hold.bundle (S := [box bs_ 83 [.slice as_code s_.code.length cs_code, iV s2.1, iV s2.2.1]]) (R := [own cd24 a1 x1.length c1 s2.2.2, it]) H11
     refine Ze ?_
     refine ZC 47 #[pV bs_, iV x2.1] (w_spec_l01Next h h6 _ (⟨s_.code, s2.1, s2.2.1⟩ : TL01source) bs_ as_code cs_code rs_code x2.1 H13 _ _ hx3) (fun v3 h8 hp3 => ?_)
     obtain ⟨rfl, H14⟩ := hp3
     have H15 : Hold h h8 [box bs_ 83 [.slice as_code s_.code.length cs_code, iV x5.2.at_, iV x5.2.seed], own cd24 a1 x1.length c1 s2.2.2, it] := Hold.unbundle (S := [box bs_ 83 [.slice as_code s_.code.length cs_code, iV x5.2.at_, iV x5.2.seed]]) (R := [own cd24 a1 x1.length c1 s2.2.2, it]) H14 (Hold.tailBase (S := [box bs_ 83 [.slice as_code s_.code.length cs_code, iV s2.1, iV s2.2.1]]) (R := [own cd24 a1 x1.length c1 s2.2.2, it]) H11)
     refine Zr [.bool (decide (0 < x5.1))] 3 ?_
     refine Zx ?_
     refine Zk [0, 1, 2, 7, 8, 9, 10, 30] [(0, pV bs_), (1, iV m_), (2, iV n_), (7, .slice a1 x1.length c1), (8, iV x2.1), (9, iV i1), (10, iV i2), (30, .bool (decide (0 < x5.1)))] ?_
     obtain ⟨s3, gs3, hB2⟩ := M.bind_some hB2
     refine Run_join (fun L' h' => L' = [(0, pV bs_), (1, iV m_), (2, iV n_), (7, .slice a1 x1.length c1), (8, iV x2.1), (9, iV i1), (10, iV i2)] ∧ Hold h h' [box bs_ 83 [.slice as_code s_.code.length cs_code, iV s3.1, iV s3.2.1], own cd24 a1 x1.length c1 s3.2.2, it]) ?_ ?_
     ·rintro _ h13 ⟨rfl, H29⟩
      refine Run_blk ?_
      refine Zg 3 [(0, pV bs_), (1, iV m_), (2, iV n_), (7, .slice a1 x1.length c1), (8, iV x2.1), (9, iV i1), (10, iV (i2 + 1))] ?_ ?_
      ·refine Zb [iV i2] 0 ?_
       refine Zy (iV (i2 + 1)) (Y_eq (v := iV (w64 (i2 + 1))) (Y_pure (fun w => by kernel_rfl)) (by rw [w64_eq _ (by omega)])) ?_
       refine Zb [iV (i2 + 1)] 2 ?_
       exact Zd [0, 1, 2, 7, 8, 9, 10]
      have hB2 := M.ret_some hB2
      have gx4 := hgoy2 _ hB2.symm
      exact Za [0, 1, 2, 7, 8, 9, 10] my2 ⟨i2 + 1, (s3.1, s3.2.1, s3.2.2), by omega, gx4, rfl, H29⟩
     ·refine Zc (decide (0 < x5.1)) (fun hb3 => ?_) (fun hb3 => ?_)
      ·have gs3 := (M.ite_some gs3).1 hb3
       obtain ⟨x6, hx4, gs3⟩ := M.bind_some gs3
       obtain ⟨hx4l, hx4u, hx4⟩ := M.idx_some hx4
       have H16 : Hold h h8 [own cd24 a1 x1.length c1 s2.2.2, box bs_ 83 [.slice as_code s_.code.length cs_code, iV x5.2.at_, iV x5.2.seed], it] := H15.pk [1, 0, 2]
       have H17 := H16.toRows
       obtain ⟨a3, c2, H18⟩ := H17.pinRow hx4
       have H19 : Hold h h8 [box bs_ 83 [.slice as_code s_.code.length cs_code, iV x5.2.at_, iV x5.2.seed], rowsP cd2 24 a1 x1.length c1 s2.2.2 [(i1.toNat, a3, x6.length, c2, x6)], it] := H18.pk [1, 0, 2]
       refine Run_D (fun x => Hold h x [rowsP cd2 24 a1 x1.length c1 s2.2.2 [(i1.toNat, a3, x6.length, c2, x6)], it]) (fun x => Hold h x [box bs_ 83 [.slice as_code s_.code.length cs_code, iV x5.2.at_, iV x5.2.seed], rowsP cd2 24 a1 x1.length c1 s2.2.2 [(i1.toNat, a3, x6.length, c2, x6)], it]) mixed (by kernel_rfl) H19 Hold.stable (fun x Hy => (show Hold h x [box bs_ 83 [.slice as_code s_.code.length cs_code, iV x5.2.at_, iV x5.2.seed], rowsP cd2 24 a1 x1.length c1 s2.2.2 [(i1.toNat, a3, x6.length, c2, x6)], it] from Hy).pk [1, 2]) ?_
       refine ZB 8 [.slice a1 x1.length c1, iV i1] 0 ?_
       refine ZY 7 2 (.pointer (some (adr a1 (i1.toNat * 1)))) (fun hx Hx => (YE.of (Zi 22 24 1 (a1) (x1.length) (c1) .i64 (i1) Tryz.underlying22 ((H15.rd 1 rfl).cell hx4).1 hx4l (by rw [← (H15.len 1 rfl)]; exact hx4u)))) ?_
       refine ZY 6 3 (.slice a3 x6.length c2) (fun hx Hx => (YE.of (Zl 24 (adr a1 (i1.toNat * 1)) (.slice a3 x6.length c2) (Hx.cellPin 0 rfl 0 rfl)))) ?_
       refine ZB 4 [iV i2, pV bs_] 4 ?_
       refine ZE 3 6 (fun h9 H20 => ?_)
       have H21 : Hold h h9 [box bs_ 83 [.slice as_code s_.code.length cs_code, iV x5.2.at_, iV x5.2.seed], rowsP cd2 24 a1 x1.length c1 s2.2.2 [(i1.toNat, a3, x6.length, c2, x6)], it] := H20
       obtain ⟨x7, hx5, gs3⟩ := M.bind_some gs3
       have H22 : Hold h h9 [box bs_ 83 [.slice as_code s_.code.length cs_code, iV x5.2.at_, iV x5.2.seed], bun [rowsP cd2 24 a1 x1.length c1 s2.2.2 [(i1.toNat, a3, x6.length, c2, x6)], it]] := Hold.bundle (S := [box bs_ 83 [.slice as_code s_.code.length cs_code, iV x5.2.at_, iV x5.2.seed]]) (R := [rowsP cd2 24 a1 x1.length c1 s2.2.2 [(i1.toNat, a3, x6.length, c2, x6)], it]) H21
       refine ZC 47 #[pV bs_, iV 26] (w_spec_l01Next h h9 _ (⟨s_.code, x5.2.at_, x5.2.seed⟩ : TL01source) bs_ as_code cs_code rs_code 26 H22 _ _ hx5) (fun v4 h10 hp4 => ?_)
       obtain ⟨rfl, H23⟩ := hp4
       have H24 : Hold h h10 [box bs_ 83 [.slice as_code s_.code.length cs_code, iV x7.2.at_, iV x7.2.seed], rowsP cd2 24 a1 x1.length c1 s2.2.2 [(i1.toNat, a3, x6.length, c2, x6)], it] := Hold.unbundle (S := [box bs_ 83 [.slice as_code s_.code.length cs_code, iV x7.2.at_, iV x7.2.seed]]) (R := [rowsP cd2 24 a1 x1.length c1 s2.2.2 [(i1.toNat, a3, x6.length, c2, x6)], it]) H23 (Hold.tailBase (S := [box bs_ 83 [.slice as_code s_.code.length cs_code, iV x5.2.at_, iV x5.2.seed]]) (R := [rowsP cd2 24 a1 x1.length c1 s2.2.2 [(i1.toNat, a3, x6.length, c2, x6)], it]) H21)
       refine ⟨fun x => Hold h x [rowsP cd2 24 a1 x1.length c1 s2.2.2 [(i1.toNat, a3, x6.length, c2, x6)], it], fun x => Hold h x [box bs_ 83 [.slice as_code s_.code.length cs_code, iV x7.2.at_, iV x7.2.seed], rowsP cd2 24 a1 x1.length c1 s2.2.2 [(i1.toNat, a3, x6.length, c2, x6)], it], H24, Hold.stable, fun x Hy => (show Hold h x [box bs_ 83 [.slice as_code s_.code.length cs_code, iV x7.2.at_, iV x7.2.seed], rowsP cd2 24 a1 x1.length c1 s2.2.2 [(i1.toNat, a3, x6.length, c2, x6)], it] from Hy).pk [1, 2], fun x Hy => (show Hold h x [rowsP cd2 24 a1 x1.length c1 s2.2.2 [(i1.toNat, a3, x6.length, c2, x6)], it] from Hy).pk [0, 1], ?_⟩
       obtain ⟨x8, hx6, gs3⟩ := M.bind_some gs3
       obtain ⟨hx6l, hx6u, hx6⟩ := M.idx_some hx6
       refine ZB 2 [iV (w64 (x7.1 - 10))] 7 ?_
       refine ZY 1 8 (.pointer (some (adr a3 (i2.toNat * 1)))) (fun hx Hx => (YE.of (Zi 24 2 1 (a3) (x6.length) (c2) .i64 (i2) Tryz.underlying24 ((H24.rdPin 1 rfl 0 rfl).cell hx6).1 hx6l hx6u))) ?_
       refine ZT 9 (fun h11 H25 => ?_)
       have H26 : Hold h h11 [box bs_ 83 [.slice as_code s_.code.length cs_code, iV x7.2.at_, iV x7.2.seed], rowsP cd2 24 a1 x1.length c1 s2.2.2 [(i1.toNat, a3, x6.length, c2, x6)], it] := H25
       obtain ⟨l1, hu1, gs3⟩ := M.bind_some gs3
       have hu1 := M.upd_some hu1
       have H28 : Hold h h11 [rowsP cd2 24 a1 x1.length c1 s2.2.2 [(i1.toNat, a3, x6.length, c2, x6)], box bs_ 83 [.slice as_code s_.code.length cs_code, iV x7.2.at_, iV x7.2.seed], it] := H26.pk [1, 0, 2]
       refine Ze ?_
       refine E_put2 (C := cd2) (t := 2) (sz := 1) (j := i2) (x := (w64 (x7.1 - 10))) (v := iV (w64 (x7.1 - 10))) (m2 := s2.2.2.set i1.toNat l1) H28 cd2_flat 0 rfl (by kernel_rfl) rfl (cd2_own _) (by kernel_rfl) hu1 rfl (fun h12 H27 => ?_)
       refine Zx ?_
       refine Zk [0, 1, 2, 7, 8, 9, 10] [(0, pV bs_), (1, iV m_), (2, iV n_), (7, .slice a1 x1.length c1), (8, iV x2.1), (9, iV i1), (10, iV i2)] ?_
       have H30 := H27.ofRows
       have H31 : Hold h h12 [box bs_ 83 [.slice as_code s_.code.length cs_code, iV x7.2.at_, iV x7.2.seed], own cd24 a1 x1.length c1 (s2.2.2.set i1.toNat l1), it] := H30.pk [1, 0, 2]
       have gs3 := M.ret_some gs3
       subst gs3
       exact Zf [0, 1, 2, 7, 8, 9, 10] ⟨rfl, H31⟩
      ·have gs3 := (M.ite_some gs3).2 hb3
       refine Run_skip ?_
       have gs3 := M.ret_some gs3
       subst gs3
       exact Zf [0, 1, 2, 7, 8, 9, 10] ⟨rfl, H15⟩
    ·have gx4 := M.for_end gx4 hb2
     subst gx4
     refine Run_exit (k' := _) rfl ?_
     exact Zf [0, 1, 2, 7, 8, 9] ⟨rfl, H11⟩
  ·have gx3 := M.for_end gx3 hb1
   subst gx3
   refine Run_exit (k' := _) rfl ?_
   exact Zf [0, 7] ⟨rfl, H9⟩

theorem w_spec_l02DrawSquare (h hE : Heap) (it : Item) (s_ : TL01source) (bs_ : Nat) (as_code : Option Addr) (cs_code : Nat) (rs_code : Rd cd5 h (Lt h) as_code cs_code s_.code) (HM : Hold h hE [box bs_ 83 [.slice as_code s_.code.length cs_code, iV s_.at_, iV s_.seed], it]) (n : Nat) (r : (List (List Int)) × TL01source) (hF : spec_l02DrawSquare s_ n = some r) :
  Fn Tryz.prog 126 #[pV bs_] hE fun v h' => ∃ (a0 : Option Addr) (c0 : Nat), v = .slice a0 r.1.length c0 ∧ Hold h h' [own cd24 a0 r.1.length c0 r.1, box bs_ 83 [.slice as_code s_.code.length cs_code, iV r.2.at_, iV r.2.seed], it] := by
 unfold spec_l02DrawSquare at hF
 refine Zo [pV bs_] Tryz.func126 rfl (fun w0 _ => ?_)
 refine Zs ?_
 refine Zq [.slice none 0 0] [0] [(0, pV bs_)] ?_
 refine Zs ?_
 refine Run_ops ?_
 refine Zr [pV bs_] 0 ?_
 obtain ⟨x1, hx1, hF⟩ := M.bind_some hF
 have H1 : Hold h hE [box bs_ 83 [.slice as_code s_.code.length cs_code, iV s_.at_, iV s_.seed], bun [it]] := Hold.bundle (S := [box bs_ 83 [.slice as_code s_.code.length cs_code, iV s_.at_, iV s_.seed]]) (R := [it]) HM
 refine Ze ?_
 refine ZC 47 #[pV bs_, iV 5] (w_spec_l01Next h hE _ s_ bs_ as_code cs_code rs_code 5 H1 _ _ hx1) (fun v1 h1 hp1 => ?_)
 obtain ⟨rfl, H2⟩ := hp1
 have H3 : Hold h h1 [box bs_ 83 [.slice as_code s_.code.length cs_code, iV x1.2.at_, iV x1.2.seed], it] := Hold.unbundle (S := [box bs_ 83 [.slice as_code s_.code.length cs_code, iV x1.2.at_, iV x1.2.seed]]) (R := [it]) H2 (Hold.tailBase (S := [box bs_ 83 [.slice as_code s_.code.length cs_code, iV s_.at_, iV s_.seed]]) (R := [it]) HM)
 refine Zr [iV (w64 (1 + x1.1)), iV (w64 (1 + x1.1))] 2 ?_
 refine Zx ?_
 refine Zk [0, 3] [(0, pV bs_), (3, iV (w64 (1 + x1.1)))] ?_
 refine Zs ?_
 refine Run_ops ?_
 refine Zr [pV bs_, iV (w64 (1 + x1.1)), iV (w64 (1 + x1.1))] 0 ?_
 obtain ⟨x2, hx2, hF⟩ := M.bind_some hF
 have H4 : Hold h h1 [box bs_ 83 [.slice as_code s_.code.length cs_code, iV x1.2.at_, iV x1.2.seed], bun [it]] := Hold.bundle (S := [box bs_ 83 [.slice as_code s_.code.length cs_code, iV x1.2.at_, iV x1.2.seed]]) (R := [it]) H3
 refine Ze ?_
 refine ZC 152 #[pV bs_, iV (w64 (1 + x1.1)), iV (w64 (1 + x1.1))] (w_spec_l02DrawSize h h1 _ (⟨s_.code, x1.2.at_, x1.2.seed⟩ : TL01source) bs_ as_code cs_code rs_code (w64 (1 + x1.1)) (w64 (1 + x1.1)) H4 _ _ hx2) (fun v2 h2 hp2 => ?_)
 obtain ⟨a1, c1, rfl, H5⟩ := hp2
 have H6 : Hold h h2 [own cd24 a1 x2.1.length c1 x2.1, box bs_ 83 [.slice as_code s_.code.length cs_code, iV x2.2.at_, iV x2.2.seed], it] := Hold.unbundle (S := [own cd24 a1 x2.1.length c1 x2.1, box bs_ 83 [.slice as_code s_.code.length cs_code, iV x2.2.at_, iV x2.2.seed]]) (R := [it]) H5 (Hold.tailBase (S := [box bs_ 83 [.slice as_code s_.code.length cs_code, iV x1.2.at_, iV x1.2.seed]]) (R := [it]) H3)
 refine Zr [.slice a1 x2.1.length c1] 4 ?_
 refine Zx ?_
 refine Zk [2] [(2, .slice a1 x2.1.length c1)] ?_
 have hF := M.ret_some hF
 subst hF
 exact Run_ret1 rfl (Zt (.slice a1 x2.1.length c1)) ⟨a1, c1, rfl, H6⟩

theorem w_spec_l04Draw (h hE : Heap) (it : Item) (s_ : TL01source) (bs_ : Nat) (as_code : Option Addr) (cs_code : Nat) (rs_code : Rd cd5 h (Lt h) as_code cs_code s_.code) (HM : Hold h hE [box bs_ 83 [.slice as_code s_.code.length cs_code, iV s_.at_, iV s_.seed], it]) (n : Nat) (r : (List (List Int)) × TL01source) (hF : spec_l04Draw s_ n = some r) :
  Fn Tryz.prog 77 #[pV bs_] hE fun v h' => ∃ (a0 : Option Addr) (c0 : Nat), v = .slice a0 r.1.length c0 ∧ Hold h h' [own cd24 a0 r.1.length c0 r.1, box bs_ 83 [.slice as_code s_.code.length cs_code, iV r.2.at_, iV r.2.seed], it] := by
 unfold spec_l04Draw at hF
 refine Zo [pV bs_] Tryz.func77 rfl (fun w0 _ => ?_)
 refine Zs ?_
 refine Zq [.slice none 0 0] [0] [(0, pV bs_)] ?_
 refine Zs ?_
 refine Run_ops ?_
 refine Zr [pV bs_] 0 ?_
 obtain ⟨x1, hx1, hF⟩ := M.bind_some hF
 have H1 : Hold h hE [box bs_ 83 [.slice as_code s_.code.length cs_code, iV s_.at_, iV s_.seed], bun [it]] := Hold.bundle (S := [box bs_ 83 [.slice as_code s_.code.length cs_code, iV s_.at_, iV s_.seed]]) (R := [it]) HM
 refine Ze ?_
 refine ZC 126 #[pV bs_] (w_spec_l02DrawSquare h hE _ s_ bs_ as_code cs_code rs_code H1 _ _ hx1) (fun v1 h1 hp1 => ?_)
 obtain ⟨a1, c1, rfl, H2⟩ := hp1
 have H3 : Hold h h1 [own cd24 a1 x1.1.length c1 x1.1, box bs_ 83 [.slice as_code s_.code.length cs_code, iV x1.2.at_, iV x1.2.seed], it] := Hold.unbundle (S := [own cd24 a1 x1.1.length c1 x1.1, box bs_ 83 [.slice as_code s_.code.length cs_code, iV x1.2.at_, iV x1.2.seed]]) (R := [it]) H2 (Hold.tailBase (S := [box bs_ 83 [.slice as_code s_.code.length cs_code, iV s_.at_, iV s_.seed]]) (R := [it]) HM)
 refine Zr [.slice a1 x1.1.length c1] 2 ?_
 refine Zx ?_
 refine Zk [0, 3] [(0, pV bs_), (3, .slice a1 x1.1.length c1)] ?_
 refine Zs ?_
 refine Zs ?_
 refine Run_ops ?_
 refine Zr [pV bs_] 0 ?_
 obtain ⟨x2, hx2, hF⟩ := M.bind_some hF
 have H4 : Hold h h1 [box bs_ 83 [.slice as_code s_.code.length cs_code, iV x1.2.at_, iV x1.2.seed], own cd24 a1 x1.1.length c1 x1.1, it] := H3.pk [1, 0, 2]
 have H5 : Hold h h1 [box bs_ 83 [.slice as_code s_.code.length cs_code, iV x1.2.at_, iV x1.2.seed], bun [own cd24 a1 x1.1.length c1 x1.1, it]] := Hold.bundle (S := [box bs_ 83 [.slice as_code s_.code.length cs_code, iV x1.2.at_, iV x1.2.seed]]) (R := [own cd24 a1 x1.1.length c1 x1.1, it]) H4
 refine Ze ?_
 refine ZC 47 #[pV bs_, iV 30] (w_spec_l01Next h h1 _ (⟨s_.code, x1.2.at_, x1.2.seed⟩ : TL01source) bs_ as_code cs_code rs_code 30 H5 _ _ hx2) (fun v2 h2 hp2 => ?_)
 obtain ⟨rfl, H6⟩ := hp2
 have H7 : Hold h h2 [box bs_ 83 [.slice as_code s_.code.length cs_code, iV x2.2.at_, iV x2.2.seed], own cd24 a1 x1.1.length c1 x1.1, it] := Hold.unbundle (S := [box bs_ 83 [.slice as_code s_.code.length cs_code, iV x2.2.at_, iV x2.2.seed]]) (R := [own cd24 a1 x1.1.length c1 x1.1, it]) H6 (Hold.tailBase (S := [box bs_ 83 [.slice as_code s_.code.length cs_code, iV x1.2.at_, iV x1.2.seed]]) (R := [own cd24 a1 x1.1.length c1 x1.1, it]) H4)
 refine Zr [.bool (x2.1 == 0)] 2 ?_
 refine Zx ?_
 refine Zk [0, 3, 8] [(0, pV bs_), (3, .slice a1 x1.1.length c1), (8, .bool (x2.1 == 0))] ?_
 refine Zc (x2.1 == 0) (fun hb1 => ?_) (fun hb1 => ?_)
 ·have hF := (M.ite_some hF).1 hb1
  refine Zs ?_
  refine Run_ops ?_
  refine Zr [pV bs_] 0 ?_
  refine Ze ?_
  refine E_lit (C := cd2) (n := 2) (l := ([1000000, 999983] : List Int)) (cs := [iV 1000000, iV 999983]) H7 (fun w => by kernel_rfl) (Enc.consE (cd2_own 1000000 _) (Enc.consE (cd2_own 999983 _) (Enc.nil _ _) rfl) rfl) rfl (by decide) (fun a2 h3 H8 => ?_)
  obtain ⟨x3, hx3, hF⟩ := M.bind_some hF
  have hn1 := (H8.len 0 rfl)
  have H9 : Hold h h3 [own cd2 a2 (([1000000, 999983] : List Int).length) 2 ([1000000, 999983] : List Int), box bs_ 83 [.slice as_code s_.code.length cs_code, iV x2.2.at_, iV x2.2.seed], own cd24 a1 x1.1.length c1 x1.1, it] := by rw [hn1]; exact H8
  have H10 : Hold h h3 [box bs_ 83 [.slice as_code s_.code.length cs_code, iV x2.2.at_, iV x2.2.seed], own cd2 a2 (([1000000, 999983] : List Int).length) 2 ([1000000, 999983] : List Int), own cd24 a1 x1.1.length c1 x1.1, it] := H9.pk [1, 0, 2, 3]
  have H11 : Hold h h3 [box bs_ 83 [.slice as_code s_.code.length cs_code, iV x2.2.at_, iV x2.2.seed], own cd2 a2 (([1000000, 999983] : List Int).length) 2 ([1000000, 999983] : List Int), bun [own cd24 a1 x1.1.length c1 x1.1, it]] := Hold.bundle (S := [box bs_ 83 [.slice as_code s_.code.length cs_code, iV x2.2.at_, iV x2.2.seed], own cd2 a2 (([1000000, 999983] : List Int).length) 2 ([1000000, 999983] : List Int)]) (R := [own cd24 a1 x1.1.length c1 x1.1, it]) H10
  refine Ze ?_
  refine ZC 83 #[pV bs_, .slice a2 2 2] (Fn.arg (w_spec_l01Pick h h3 _ (⟨s_.code, x2.2.at_, x2.2.seed⟩ : TL01source) bs_ as_code cs_code rs_code ([1000000, 999983] : List Int) a2 2 H11 _ _ hx3) (by simp only [hn1])) (fun v3 h4 hp3 => ?_)
  obtain ⟨rfl, H12⟩ := hp3
  have H13 : Hold h h4 [box bs_ 83 [.slice as_code s_.code.length cs_code, iV x3.2.1.at_, iV x3.2.1.seed], own cd2 a2 (([1000000, 999983] : List Int).length) 2 x3.2.2, own cd24 a1 x1.1.length c1 x1.1, it] := Hold.unbundle (S := [box bs_ 83 [.slice as_code s_.code.length cs_code, iV x3.2.1.at_, iV x3.2.1.seed], own cd2 a2 (([1000000, 999983] : List Int).length) 2 x3.2.2]) (R := [own cd24 a1 x1.1.length c1 x1.1, it]) H12 (Hold.tailBase (S := [box bs_ 83 [.slice as_code s_.code.length cs_code, iV x2.2.at_, iV x2.2.seed], own cd2 a2 (([1000000, 999983] : List Int).length) 2 ([1000000, 999983] : List Int)]) (R := [own cd24 a1 x1.1.length c1 x1.1, it]) H10)
  refine Ze ?_
  refine E_lit (C := cd2) (n := 2) (l := ([(-1000000000000000), x3.1] : List Int)) (cs := [iV (-1000000000000000), iV x3.1]) H13 (fun w => by kernel_rfl) (Enc.consE (cd2_own (-1000000000000000) _) (Enc.consE (cd2_own x3.1 _) (Enc.nil _ _) rfl) rfl) rfl (by decide) (fun a3 h5 H14 => ?_)
  refine Zr [pV bs_] 4 ?_
  refine Ze ?_
  refine E_lit (C := cd2) (n := 2) (l := ([1000000, (-7)] : List Int)) (cs := [iV 1000000, iV (-7)]) H14 (fun w => by kernel_rfl) (Enc.consE (cd2_own 1000000 _) (Enc.consE (cd2_own (-7) _) (Enc.nil _ _) rfl) rfl) rfl (by decide) (fun a4 h6 H15 => ?_)
  obtain ⟨x4, hx4, hF⟩ := M.bind_some hF
  have hn2 := (H15.len 0 rfl)
  have H16 : Hold h h6 [own cd2 a4 (([1000000, (-7)] : List Int).length) 2 ([1000000, (-7)] : List Int), own cd2 a3 2 2 ([(-1000000000000000), x3.1] : List Int), box bs_ 83 [.slice as_code s_.code.length cs_code, iV x3.2.1.at_, iV x3.2.1.seed], own cd2 a2 (([1000000, 999983] : List Int).length) 2 x3.2.2, own cd24 a1 x1.1.length c1 x1.1, it] := by rw [hn2]; exact H15
  have H17 : Hold h h6 [box bs_ 83 [.slice as_code s_.code.length cs_code, iV x3.2.1.at_, iV x3.2.1.seed], own cd2 a4 (([1000000, (-7)] : List Int).length) 2 ([1000000, (-7)] : List Int), own cd2 a3 2 2 ([(-1000000000000000), x3.1] : List Int), own cd2 a2 (([1000000, 999983] : List Int).length) 2 x3.2.2, own cd24 a1 x1.1.length c1 x1.1, it] := H16.pk [2, 0, 1, 3, 4, 5]
  have H18 : Hold h h6 [box bs_ 83 [.slice as_code s_.code.length cs_code, iV x3.2.1.at_, iV x3.2.1.seed], own cd2 a4 (([1000000, (-7)] : List Int).length) 2 ([1000000, (-7)] : List Int), bun [own cd2 a3 2 2 ([(-1000000000000000), x3.1] : List Int), own cd2 a2 (([1000000, 999983] : List Int).length) 2 x3.2.2, own cd24 a1 x1.1.length c1 x1.1, it]] := Hold.bundle (S := [box bs_ 83 [.slice as_code s_.code.length cs_code, iV x3.2.1.at_, iV x3.2.1.seed], own cd2 a4 (([1000000, (-7)] : List Int).length) 2 ([1000000, (-7)] : List Int)]) (R := [own cd2 a3 2 2 ([(-1000000000000000), x3.1] : List Int), own cd2 a2 (([1000000, 999983] : List Int).length) 2 x3.2.2, own cd24 a1 x1.1.length c1 x1.1, it]) H17
  refine Ze ?_
  refine ZC 83 #[pV bs_, .slice a4 2 2] (Fn.arg (w_spec_l01Pick h h6 _ (⟨s_.code, x3.2.1.at_, x3.2.1.seed⟩ : TL01source) bs_ as_code cs_code rs_code ([1000000, (-7)] : List Int) a4 2 H18 _ _ hx4) (by simp only [hn2])) (fun v4 h7 hp4 => ?_)
  obtain ⟨rfl, H19⟩ := hp4
  have H20 : Hold h h7 [box bs_ 83 [.slice as_code s_.code.length cs_code, iV x4.2.1.at_, iV x4.2.1.seed], own cd2 a4 (([1000000, (-7)] : List Int).length) 2 x4.2.2, own cd2 a3 2 2 ([(-1000000000000000), x3.1] : List Int), own cd2 a2 (([1000000, 999983] : List Int).length) 2 x3.2.2, own cd24 a1 x1.1.length c1 x1.1, it] := Hold.unbundle (S := [box bs_ 83 [.slice as_code s_.code.length cs_code, iV x4.2.1.at_, iV x4.2.1.seed], own cd2 a4 (([1000000, (-7)] : List Int).length) 2 x4.2.2]) (R := [own cd2 a3 2 2 ([(-1000000000000000), x3.1] : List Int), own cd2 a2 (([1000000, 999983] : List Int).length) 2 x3.2.2, own cd24 a1 x1.1.length c1 x1.1, it]) H19 (Hold.tailBase (S := [box bs_ 83 [.slice as_code s_.code.length cs_code, iV x3.2.1.at_, iV x3.2.1.seed], own cd2 a4 (([1000000, (-7)] : List Int).length) 2 ([1000000, (-7)] : List Int)]) (R := [own cd2 a3 2 2 ([(-1000000000000000), x3.1] : List Int), own cd2 a2 (([1000000, 999983] : List Int).length) 2 x3.2.2, own cd24 a1 x1.1.length c1 x1.1, it]) H17)
  refine Ze ?_
  refine E_lit (C := cd2) (n := 2) (l := ([x4.1, (-1000000000000000)] : List Int)) (cs := [iV x4.1, iV (-1000000000000000)]) H20 (fun w => by kernel_rfl) (Enc.consE (cd2_own x4.1 _) (Enc.consE (cd2_own (-1000000000000000) _) (Enc.nil _ _) rfl) rfl) rfl (by decide) (fun a5 h8 H21 => ?_)
  have H23 : Hold h h8 [own cd2 a3 2 2 ([(-1000000000000000), x3.1] : List Int), own cd2 a5 2 2 ([x4.1, (-1000000000000000)] : List Int), box bs_ 83 [.slice as_code s_.code.length cs_code, iV x4.2.1.at_, iV x4.2.1.seed], own cd2 a4 (([1000000, (-7)] : List Int).length) 2 x4.2.2, own cd2 a2 (([1000000, 999983] : List Int).length) 2 x3.2.2, own cd24 a1 x1.1.length c1 x1.1, it] := H21.pk [3, 0, 1, 2, 4, 5, 6]
  have H24 : Hold h h8 [own cd2 a5 2 2 ([x4.1, (-1000000000000000)] : List Int), own cd2 a3 2 2 ([(-1000000000000000), x3.1] : List Int), box bs_ 83 [.slice as_code s_.code.length cs_code, iV x4.2.1.at_, iV x4.2.1.seed], own cd2 a4 (([1000000, (-7)] : List Int).length) 2 x4.2.2, own cd2 a2 (([1000000, 999983] : List Int).length) 2 x3.2.2, own cd24 a1 x1.1.length c1 x1.1, it] := H23.pk [1, 0, 2, 3, 4, 5, 6]
  have H25 : Hold h h8 [own cd2 a3 2 2 ([(-1000000000000000), x3.1] : List Int), own cd2 a5 2 2 ([x4.1, (-1000000000000000)] : List Int), box bs_ 83 [.slice as_code s_.code.length cs_code, iV x4.2.1.at_, iV x4.2.1.seed], own cd2 a4 (([1000000, (-7)] : List Int).length) 2 x4.2.2, own cd2 a2 (([1000000, 999983] : List Int).length) 2 x3.2.2, own cd24 a1 x1.1.length c1 x1.1, it] := H24.pk [1, 0, 2, 3, 4, 5, 6]
  refine Ze ?_
  refine E_lit2 (ey := 24) (n1 := 2) (n2 := 2) H25 (fun w => by kernel_rfl) rfl (fun a6 h9 H22 => ?_)
  refine Zr [.slice a6 2 2] 9 ?_
  refine Zx ?_
  refine Zk [2] [(2, .slice a6 2 2)] ?_
  have hF := M.ret_some hF
  subst hF
  have H26 := H22.norm
  have H27 : Hold h h9 [own cd24 a6 ([([(-1000000000000000), x3.1] : List Int), ([x4.1, (-1000000000000000)] : List Int)].length) 2 [([(-1000000000000000), x3.1] : List Int), ([x4.1, (-1000000000000000)] : List Int)], box bs_ 83 [.slice as_code s_.code.length cs_code, iV x4.2.1.at_, iV x4.2.1.seed], it] := H26.pk [0, 1, 5]
  exact Run_ret1 rfl (Zt (.slice a6 2 2)) ⟨a6, 2, (by simp only [(H22.len 0 rfl)]), H27⟩
 ·have hF := (M.ite_some hF).2 hb1
  refine Run_skip ?_
  refine Zs ?_
  refine Zq [.slice a1 x1.1.length c1, .slice a1 x1.1.length c1] [2] [(2, .slice a1 x1.1.length c1)] ?_
  have hF := M.ret_some hF
  subst hF
  have H28 : Hold h h2 [own cd24 a1 x1.1.length c1 x1.1, box bs_ 83 [.slice as_code s_.code.length cs_code, iV x2.2.at_, iV x2.2.seed], it] := H7.pk [1, 0, 2]
  exact Run_ret1 rfl (Zt (.slice a1 x1.1.length c1)) ⟨a1, c1, rfl, H28⟩

theorem w_spec_l06Draw (h hE : Heap) (it : Item) (s_ : TL01source) (bs_ : Nat) (as_code : Option Addr) (cs_code : Nat) (rs_code : Rd cd5 h (Lt h) as_code cs_code s_.code) (HM : Hold h hE [box bs_ 83 [.slice as_code s_.code.length cs_code, iV s_.at_, iV s_.seed], it]) (n : Nat) (r : (List (List Int)) × TL01source) (hF : spec_l06Draw s_ n = some r) :
  Fn Tryz.prog 42 #[pV bs_] hE fun v h' => ∃ (a0 : Option Addr) (c0 : Nat), v = .slice a0 r.1.length c0 ∧ Hold h h' [own cd24 a0 r.1.length c0 r.1, box bs_ 83 [.slice as_code s_.code.length cs_code, iV r.2.at_, iV r.2.seed], it] := by
 unfold spec_l06Draw at hF
 refine Zo [pV bs_] Tryz.func42 rfl (fun w0 _ => ?_)
 refine Zs ?_
 refine Zq [.slice none 0 0] [0] [(0, pV bs_)] ?_
 refine Zs ?_
 refine Run_ops ?_
 refine Zr [pV bs_] 0 ?_
 obtain ⟨x1, hx1, hF⟩ := M.bind_some hF
 have H1 : Hold h hE [box bs_ 83 [.slice as_code s_.code.length cs_code, iV s_.at_, iV s_.seed], bun [it]] := Hold.bundle (S := [box bs_ 83 [.slice as_code s_.code.length cs_code, iV s_.at_, iV s_.seed]]) (R := [it]) HM
 refine Ze ?_
 refine ZC 77 #[pV bs_] (w_spec_l04Draw h hE _ s_ bs_ as_code cs_code rs_code H1 _ _ hx1) (fun v1 h1 hp1 => ?_)
 obtain ⟨a1, c1, rfl, H2⟩ := hp1
 have H3 : Hold h h1 [own cd24 a1 x1.1.length c1 x1.1, box bs_ 83 [.slice as_code s_.code.length cs_code, iV x1.2.at_, iV x1.2.seed], it] := Hold.unbundle (S := [own cd24 a1 x1.1.length c1 x1.1, box bs_ 83 [.slice as_code s_.code.length cs_code, iV x1.2.at_, iV x1.2.seed]]) (R := [it]) H2 (Hold.tailBase (S := [box bs_ 83 [.slice as_code s_.code.length cs_code, iV s_.at_, iV s_.seed]]) (R := [it]) HM)
 refine Zr [.slice a1 x1.1.length c1] 2 ?_
 refine Zx ?_
 refine Zk [0, 3] [(0, pV bs_), (3, .slice a1 x1.1.length c1)] ?_
 refine Zs ?_
 refine Zs ?_
 obtain ⟨s1, gs1, hF⟩ := M.bind_some hF
 refine Run_join (fun L' h' => L' = [(0, pV bs_), (3, .slice a1 x1.1.length c1), (18, .bool s1.2.2)] ∧ Hold h h' [box bs_ 83 [.slice as_code s_.code.length cs_code, iV s1.1, iV s1.2.1], own cd24 a1 x1.1.length c1 x1.1, it]) ?_ ?_
 ·rintro _ h3 ⟨rfl, H8⟩
  refine Zc (s1.2.2) (fun hb2 => ?_) (fun hb2 => ?_)
  ·have hF := (M.ite_some hF).1 hb2
   refine Zs ?_
   refine Zq [.slice a1 x1.1.length c1, .slice a1 x1.1.length c1] [2] [(2, .slice a1 x1.1.length c1)] ?_
   have hF := M.ret_some hF
   subst hF
   have H10 : Hold h h3 [own cd24 a1 x1.1.length c1 x1.1, box bs_ 83 [.slice as_code s_.code.length cs_code, iV s1.1, iV s1.2.1], it] := H8.pk [1, 0, 2]
   exact Run_ret1 rfl (Zt (.slice a1 x1.1.length c1)) ⟨a1, c1, rfl, H10⟩
  ·have hF := (M.ite_some hF).2 hb2
   refine Run_skip ?_
   refine Zs ?_
   refine Run_ops ?_
   refine Ze ?_
   refine E_lit (C := cd2) (n := 0) (l := ([] : List Int)) (cs := []) H8 (fun w => by kernel_rfl) (Enc.nil _ _) rfl (by decide) (fun a2 h4 H11 => ?_)
   refine Zr [.slice a2 0 0] 1 ?_
   refine Zx ?_
   refine Zk [0, 3, 4] [(0, pV bs_), (3, .slice a1 x1.1.length c1), (4, .slice a2 0 0)] ?_
   refine Zs ?_
   refine Zs ?_
   refine Zq [iV 0] [0, 3, 4, 5] [(0, pV bs_), (3, .slice a1 x1.1.length c1), (4, .slice a2 0 0), (5, iV 0)] ?_
   obtain ⟨x4, gx4, hF⟩ := M.bind_some hF
   obtain ⟨hloy1, hhiy1, gx4⟩ := M.for_start gx4
   refine Run_join (fun L' h' => ∃ (a4 : Option Addr) (c3 : Nat), L' = [(0, pV bs_), (3, .slice a1 x1.1.length c1), (4, .slice a4 x4.2.2.length c3)] ∧ Hold h h' [box bs_ 83 [.slice as_code s_.code.length cs_code, iV x4.1, iV x4.2.1], own cd24 a1 x1.1.length c1 x1.1, own cd2 a4 x4.2.2.length c3 x4.2.2, it]) ?_ ?_
   ·rintro _ h6 ⟨a4, c3, rfl, H13⟩
    refine Zs ?_
    refine Run_ops ?_
    refine Zr [pV bs_] 0 ?_
    obtain ⟨x6, hx5, hF⟩ := M.bind_some hF
    have H25 : Hold h h6 [box bs_ 83 [.slice as_code s_.code.length cs_code, iV x4.1, iV x4.2.1], bun [own cd24 a1 x1.1.length c1 x1.1, own cd2 a4 x4.2.2.length c3 x4.2.2, it]] := Hold.bundle (S := [box bs_ 83 [.slice as_code s_.code.length cs_code, iV x4.1, iV x4.2.1]]) (R := [own cd24 a1 x1.1.length c1 x1.1, own cd2 a4 x4.2.2.length c3 x4.2.2, it]) H13
    refine Ze ?_
    refine ZC 47 #[pV bs_, iV 7] (w_spec_l01Next h h6 _ (⟨s_.code, x4.1, x4.2.1⟩ : TL01source) bs_ as_code cs_code rs_code 7 H25 _ _ hx5) (fun v4 h10 hp4 => ?_)
    obtain ⟨rfl, H26⟩ := hp4
    have H27 : Hold h h10 [box bs_ 83 [.slice as_code s_.code.length cs_code, iV x6.2.at_, iV x6.2.seed], own cd24 a1 x1.1.length c1 x1.1, own cd2 a4 x4.2.2.length c3 x4.2.2, it] := Hold.unbundle (S := [box bs_ 83 [.slice as_code s_.code.length cs_code, iV x6.2.at_, iV x6.2.seed]]) (R := [own cd24 a1 x1.1.length c1 x1.1, own cd2 a4 x4.2.2.length c3 x4.2.2, it]) H26 (Hold.tailBase (S := [box bs_ 83 [.slice as_code s_.code.length cs_code, iV x4.1, iV x4.2.1]]) (R := [own cd24 a1 x1.1.length c1 x1.1, own cd2 a4 x4.2.2.length c3 x4.2.2, it]) H13)
    refine Zr [iV (w64 (x6.1 - 2)), iV (w64 (x6.1 - 2))] 2 ?_
    refine Zx ?_
    refine Zk [0, 3, 4, 6] [(0, pV bs_), (3, .slice a1 x1.1.length c1), (4, .slice a4 x4.2.2.length c3), (6, iV (w64 (x6.1 - 2)))] ?_
    refine Zs ?_
    refine Zs ?_
    refine Zq [iV 0] [0, 3, 4, 6, 7] [(0, pV bs_), (3, .slice a1 x1.1.length c1), (4, .slice a4 x4.2.2.length c3), (6, iV (w64 (x6.1 - 2))), (7, iV 0)] ?_
    obtain ⟨x7, gx7, hF⟩ := M.bind_some hF
    obtain ⟨hloy2, hhiy2, gx7⟩ := M.for_start gx7
    refine Run_join (fun L' h' => L' = [(3, .slice a1 x1.1.length c1)] ∧ Hold h h' [box bs_ 83 [.slice as_code s_.code.length cs_code, iV x7.1, iV x7.2.1], own cd24 a1 x1.1.length c1 x7.2.2, it]) ?_ ?_
    ·rintro _ h12 ⟨rfl, H29⟩
     refine Zs ?_
     refine Zq [.slice a1 x1.1.length c1, .slice a1 x1.1.length c1] [2] [(2, .slice a1 x1.1.length c1)] ?_
     have hF := M.ret_some hF
     subst hF
     have H58 : Hold h h12 [own cd24 a1 x1.1.length c1 x7.2.2, box bs_ 83 [.slice as_code s_.code.length cs_code, iV x7.1, iV x7.2.1], it] := H29.pk [1, 0, 2]
     have H59 := H58.norm
     exact Run_ret1 rfl (Zt (.slice a1 x1.1.length c1)) ⟨a1, c1, (by simp only [(H58.len 0 rfl)]), H59⟩
    ·refine Run_block ?_
     refine Zk [0, 3, 4, 6, 7] [(0, pV bs_), (3, .slice a1 x1.1.length c1), (4, .slice a4 x4.2.2.length c3), (6, iV (w64 (x6.1 - 2))), (7, iV 0)] ?_
     refine Run_loop (fun m L' h' => ∃ (i2 : Int) (s3 : Int × Int × (List (List Int))), 0 ≤ i2 ∧ M.forN (x1.1.length : Int) _ _ n m i2 s3 = some x7 ∧ L' = [(0, pV bs_), (3, .slice a1 x1.1.length c1), (4, .slice a4 x4.2.2.length c3), (6, iV (w64 (x6.1 - 2))), (7, iV i2)] ∧ Hold h h' [box bs_ 83 [.slice as_code s_.code.length cs_code, iV s3.1, iV s3.2.1], own cd24 a1 x1.1.length c1 s3.2.2, own cd2 a4 x4.2.2.length c3 x4.2.2, it]) ((x1.1.length : Int) - 0 : Int).toNat ⟨0, (x6.2.at_, x6.2.seed, x1.1), Int.le_refl _, gx7, rfl, H27⟩ ?_
     rintro my2 _ h11 ⟨i2, s3, hloy2', gx7, rfl, H28⟩
     refine Zs ?_
     refine Zs ?_
     refine Zq [iV i2, .slice a1 x1.1.length c1, iV (x1.1.length : Int), .bool (decide (i2 < (x1.1.length : Int)))] [0, 3, 4, 6, 7, 38] [(0, pV bs_), (3, .slice a1 x1.1.length c1), (4, .slice a4 x4.2.2.length c3), (6, iV (w64 (x6.1 - 2))), (7, iV i2), (38, .bool (decide (i2 < (x1.1.length : Int))))] ?_
     refine Zc (decide (i2 < (x1.1.length : Int))) (fun hb4 => ?_) (fun hb4 => ?_)
     ·obtain ⟨my2, y2, rfl, hB2, hgoy2, houty2⟩ := M.for_go gx7 hb4
      have hlty2 := of_decide_eq_true hb4
      refine Run_skip ?_
      refine Zs ?_
      refine Run_block ?_
      refine Zs ?_
      refine Zq [iV 0] [0, 3, 4, 6, 7, 8] [(0, pV bs_), (3, .slice a1 x1.1.length c1), (4, .slice a4 x4.2.2.length c3), (6, iV (w64 (x6.1 - 2))), (7, iV i2), (8, iV 0)] ?_
      obtain ⟨x8, gx8, hB2⟩ := M.bind_some hB2
      obtain ⟨hloy3, hhiy3, gx8⟩ := M.for_start gx8
      refine Run_join (fun L' h' => L' = [(0, pV bs_), (3, .slice a1 x1.1.length c1), (4, .slice a4 x4.2.2.length c3), (6, iV (w64 (x6.1 - 2))), (7, iV i2)] ∧ Hold h h' [box bs_ 83 [.slice as_code s_.code.length cs_code, iV x8.1, iV x8.2.1], own cd24 a1 x1.1.length c1 x8.2.2, own cd2 a4 x4.2.2.length c3 x4.2.2, it]) ?_ ?_
      ·rintro _ h14 ⟨rfl, H31⟩
       refine Run_blk ?_
       refine Zg 3 [(0, pV bs_), (3, .slice a1 x1.1.length c1), (4, .slice a4 x4.2.2.length c3), (6, iV (w64 (x6.1 - 2))), (7, iV (i2 + 1))] ?_ ?_
       ·refine Zb [iV i2] 0 ?_
        refine Zy (iV (i2 + 1)) (Y_eq (v := iV (w64 (i2 + 1))) (Y_pure (fun w => by kernel_rfl)) (by rw [w64_eq _ (by omega)])) ?_
        refine Zb [iV (i2 + 1)] 2 ?_
        exact Zd [0, 3, 4, 6, 7]
       have hB2 := M.ret_some hB2
       have gx7 := hgoy2 _ hB2.symm
       exact Za [0, 3, 4, 6, 7] my2 ⟨i2 + 1, (x8.1, x8.2.1, x8.2.2), by omega, gx7, rfl, H31⟩
      ·refine Run_block ?_
       refine Zk [0, 3, 4, 6, 7, 8] [(0, pV bs_), (3, .slice a1 x1.1.length c1), (4, .slice a4 x4.2.2.length c3), (6, iV (w64 (x6.1 - 2))), (7, iV i2), (8, iV 0)] ?_
       refine Run_loop (fun m L' h' => ∃ (i3 : Int) (s4 : Int × Int × (List (List Int))), 0 ≤ i3 ∧ M.forN (x1.1.length : Int) _ _ n m i3 s4 = some x8 ∧ L' = [(0, pV bs_), (3, .slice a1 x1.1.length c1), (4, .slice a4 x4.2.2.length c3), (6, iV (w64 (x6.1 - 2))), (7, iV i2), (8, iV i3)] ∧ Hold h h' [box bs_ 83 [.slice as_code s_.code.length cs_code, iV s4.1, iV s4.2.1], own cd24 a1 x1.1.length c1 s4.2.2, own cd2 a4 x4.2.2.length c3 x4.2.2, it]) ((x1.1.length : Int) - 0 : Int).toNat ⟨0, (s3.1, s3.2.1, s3.2.2), Int.le_refl _, gx8, rfl, H28⟩ ?_
       rintro my3 _ h13 ⟨i3, s4, hloy3', gx8, rfl, H30⟩
       refine Zs ?_
       refine Zs ?_
       refine Zq [iV i3, .slice a1 x1.1.length c1, iV (x1.1.length : Int), .bool (decide (i3 < (x1.1.length : Int)))] [0, 3, 4, 6, 7, 8, 44] [(0, pV bs_), (3, .slice a1 x1.1.length c1), (4, .slice a4 x4.2.2.length c3), (6, iV (w64 (x6.1 - 2))), (7, iV i2), (8, iV i3), (44, .bool (decide (i3 < (x1.1.length : Int))))] ?_
       refine Zc (decide (i3 < (x1.1.length : Int))) (fun hb5 => ?_) (fun hb5 => ?_)
       ·obtain ⟨my3, y3, rfl, hB3, hgoy3, houty3⟩ := M.for_go gx8 hb5
        have hlty3 := of_decide_eq_true hb5
        refine Run_skip ?_
        refine Zs ?_
        refine Run_block ?_
        refine Zs ?_
        obtain ⟨x9, hx6, hB3⟩ := M.bind_some hB3
        obtain ⟨hx6l, hx6u, hx6⟩ := M.idx_some hx6
        have H32 : Hold h h13 [own cd24 a1 x1.1.length c1 s4.2.2, box bs_ 83 [.slice as_code s_.code.length cs_code, iV s4.1, iV s4.2.1], own cd2 a4 x4.2.2.length c3 x4.2.2, it] := H30.pk [1, 0, 2, 3]
        have H33 := H32.toRows
        obtain ⟨a7, c5, H34⟩ := H33.pinRow hx6
        have H35 : Hold h h13 [box bs_ 83 [.slice as_code s_.code.length cs_code, iV s4.1, iV s4.2.1], rowsP cd2 24 a1 x1.1.length c1 s4.2.2 [(i2.toNat, a7, x9.length, c5, x9)], own cd2 a4 x4.2.2.length c3 x4.2.2, it] := H34.pk [1, 0, 2, 3]
        obtain ⟨x10, hx7, hB3⟩ := M.bind_some hB3
        obtain ⟨hx7l, hx7u, hx7⟩ := M.idx_some hx7
        obtain ⟨x11, hx8, hB3⟩ := M.bind_some hB3
        obtain ⟨x12, gx12, hB3⟩ := M.bind_some hB3
        refine Zg 18 [(0, pV bs_), (3, .slice a1 x1.1.length c1), (4, .slice a4 x4.2.2.length c3), (6, iV (w64 (x6.1 - 2))), (7, iV i2), (8, iV i3), (64, .bool x12)] ?_ ?_
        ·refine Zb [.slice a1 x1.1.length c1, iV i2] 0 ?_
         refine Zy (.pointer (some (adr a1 (i2.toNat * 1)))) (Zi 22 24 1 (a1) (x1.1.length) (c1) .i64 (i2) Tryz.underlying22 ((H30.rd 1 rfl).cell hx6).1 hx6l (by rw [← (H30.len 1 rfl)]; exact hx6u)) ?_
         refine Zy (.slice a7 x9.length c5) (Zl 24 (adr a1 (i2.toNat * 1)) (.slice a7 x9.length c5) (H35.cellPin 1 rfl 0 rfl)) ?_
         refine Zb [iV i3] 4 ?_
         refine Zy (.pointer (some (adr a7 (i3.toNat * 1)))) (Zi 24 2 1 (a7) (x9.length) (c5) .i64 (i3) Tryz.underlying24 ((H35.rdPin 1 rfl 0 rfl).cell hx7).1 hx7l hx7u) ?_
         refine Zy (iV x10) (Zl 2 (adr a7 (i3.toNat * 1)) (iV x10) (cd2_cell (H35.rdPin 1 rfl 0 rfl) hx7)) ?_
         refine Zy (.bool x11) (ZQ 78 #[iV x10] (w_spec_l01Finite h13 x10 _ _ hx8)) ?_
         refine QRun_seq 18 [(0, pV bs_), (3, .slice a1 x1.1.length c1), (4, .slice a4 x4.2.2.length c3), (6, iV (w64 (x6.1 - 2))), (7, iV i2), (8, iV i3), (64, .bool x12)] ?_ ?_
         ·rcases Bool.eq_false_or_eq_true x11 with hb6 | hb6
          ·refine Zv x11 true hb6 ?_
           have gx12 := (M.ite_some gx12).1 hb6
           obtain ⟨x13, hx9, gx12⟩ := M.bind_some gx12
           obtain ⟨hx9l, hx9u, hx9⟩ := M.idx_some hx9
           have H36 : Hold h h13 [rowsP cd2 24 a1 x1.1.length c1 s4.2.2 [(i2.toNat, a7, x9.length, c5, x9)], box bs_ 83 [.slice as_code s_.code.length cs_code, iV s4.1, iV s4.2.1], own cd2 a4 x4.2.2.length c3 x4.2.2, it] := H35.pk [1, 0, 2, 3]
           obtain ⟨a8, c6, H37⟩ := H36.pinRow hx9
           have H38 : Hold h h13 [box bs_ 83 [.slice as_code s_.code.length cs_code, iV s4.1, iV s4.2.1], rowsP cd2 24 a1 x1.1.length c1 s4.2.2 [(i2.toNat, a8, x13.length, c6, x13), (i2.toNat, a7, x9.length, c5, x9)], own cd2 a4 x4.2.2.length c3 x4.2.2, it] := H37.pk [1, 0, 2, 3]
           obtain ⟨x14, hx10, gx12⟩ := M.bind_some gx12
           obtain ⟨hx10l, hx10u, hx10⟩ := M.idx_some hx10
           obtain ⟨x15, hx11, gx12⟩ := M.bind_some gx12
           have gx12 := M.ret_some gx12
           refine Zb [.slice a1 x1.1.length c1, iV i2] 9 ?_
           refine Zy (.pointer (some (adr a1 (i2.toNat * 1)))) (Zi 22 24 1 (a1) (x1.1.length) (c1) .i64 (i2) Tryz.underlying22 ((H35.rdRows 1 rfl).cell hx9).1 hx9l (by rw [← (H35.lenRows 1 rfl)]; exact hx9u)) ?_
           refine Zy (.slice a8 x13.length c6) (Zl 24 (adr a1 (i2.toNat * 1)) (.slice a8 x13.length c6) (H38.cellPin 1 rfl 0 rfl)) ?_
           refine Zb [iV i3] 13 ?_
           refine Zy (.pointer (some (adr a8 (i3.toNat * 1)))) (Zi 24 2 1 (a8) (x13.length) (c6) .i64 (i3) Tryz.underlying24 ((H38.rdPin 1 rfl 0 rfl).cell hx10).1 hx10l hx10u) ?_
           refine Zy (iV x14) (Zl 2 (adr a8 (i3.toNat * 1)) (iV x14) (cd2_cell (H38.rdPin 1 rfl 0 rfl) hx10)) ?_
           refine Zy (.bool x15) (ZQ 79 #[iV x14, iV (-100), iV 100] (w_spec_l01In h13 x14 (-100) 100 _ _ hx11)) ?_
           refine Zv x15 x12 gx12 ?_
           exact Zd [0, 3, 4, 6, 7, 8, 64]
          ·refine Zv x11 false hb6 ?_
           have gx12 := M.ret_some ((M.ite_some gx12).2 hb6)
           refine Zn ?_
           refine Zn ?_
           refine Zn ?_
           refine Zn ?_
           refine Zn ?_
           refine Zn ?_
           refine Zn ?_
           refine Zn ?_
           refine Zv false x12 gx12 ?_
           exact Zd [0, 3, 4, 6, 7, 8, 64]
         exact Zd [0, 3, 4, 6, 7, 8, 64]
        obtain ⟨s5, gs5, hB3⟩ := M.bind_some hB3
        refine Run_join (fun L' h' => L' = [(0, pV bs_), (3, .slice a1 x1.1.length c1), (4, .slice a4 x4.2.2.length c3), (6, iV (w64 (x6.1 - 2))), (7, iV i2), (8, iV i3)] ∧ Hold h h' [box bs_ 83 [.slice as_code s_.code.length cs_code, iV s5.1, iV s5.2.1], own cd24 a1 x1.1.length c1 s5.2.2, own cd2 a4 x4.2.2.length c3 x4.2.2, it]) ?_ ?_
        ·rintro _ h19 ⟨rfl, H51⟩
         refine Run_blk ?_
         refine Zg 3 [(0, pV bs_), (3, .slice a1 x1.1.length c1), (4, .slice a4 x4.2.2.length c3), (6, iV (w64 (x6.1 - 2))), (7, iV i2), (8, iV (i3 + 1))] ?_ ?_
         ·refine Zb [iV i3] 0 ?_
          refine Zy (iV (i3 + 1)) (Y_eq (v := iV (w64 (i3 + 1))) (Y_pure (fun w => by kernel_rfl)) (by rw [w64_eq _ (by omega)])) ?_
          refine Zb [iV (i3 + 1)] 2 ?_
          exact Zd [0, 3, 4, 6, 7, 8]
         have hB3 := M.ret_some hB3
         have gx8 := hgoy3 _ hB3.symm
         exact Za [0, 3, 4, 6, 7, 8] my3 ⟨i3 + 1, (s5.1, s5.2.1, s5.2.2), by omega, gx8, rfl, H51⟩
        ·refine Zc (x12) (fun hb7 => ?_) (fun hb7 => ?_)
         ·have gs5 := (M.ite_some gs5).1 hb7
          obtain ⟨x16, hx12, gs5⟩ := M.bind_some gs5
          obtain ⟨hx12l, hx12u, hx12⟩ := M.idx_some hx12
          have H39 : Hold h h13 [rowsP cd2 24 a1 x1.1.length c1 s4.2.2 [(i2.toNat, a7, x9.length, c5, x9)], box bs_ 83 [.slice as_code s_.code.length cs_code, iV s4.1, iV s4.2.1], own cd2 a4 x4.2.2.length c3 x4.2.2, it] := H35.pk [1, 0, 2, 3]
          obtain ⟨a9, c7, H40⟩ := H39.pinRow hx12
          have H41 : Hold h h13 [box bs_ 83 [.slice as_code s_.code.length cs_code, iV s4.1, iV s4.2.1], rowsP cd2 24 a1 x1.1.length c1 s4.2.2 [(i2.toNat, a9, x16.length, c7, x16), (i2.toNat, a7, x9.length, c5, x9)], own cd2 a4 x4.2.2.length c3 x4.2.2, it] := H40.pk [1, 0, 2, 3]
          obtain ⟨x17, hx13, gs5⟩ := M.bind_some gs5
          obtain ⟨hx13l, hx13u, hx13⟩ := M.idx_some hx13
          obtain ⟨x18, hx14, gs5⟩ := M.bind_some gs5
          obtain ⟨hx14l, hx14u, hx14⟩ := M.idx_some hx14
          refine Run_D (fun x => Hold h x [rowsP cd2 24 a1 x1.1.length c1 s4.2.2 [(i2.toNat, a9, x16.length, c7, x16), (i2.toNat, a7, x9.length, c5, x9)], own cd2 a4 x4.2.2.length c3 x4.2.2, it]) (fun x => Hold h x [box bs_ 83 [.slice as_code s_.code.length cs_code, iV s4.1, iV s4.2.1], rowsP cd2 24 a1 x1.1.length c1 s4.2.2 [(i2.toNat, a9, x16.length, c7, x16), (i2.toNat, a7, x9.length, c5, x9)], own cd2 a4 x4.2.2.length c3 x4.2.2, it]) mixed (by kernel_rfl) H41 Hold.stable (fun x Hy => (show Hold h x [box bs_ 83 [.slice as_code s_.code.length cs_code, iV s4.1, iV s4.2.1], rowsP cd2 24 a1 x1.1.length c1 s4.2.2 [(i2.toNat, a9, x16.length, c7, x16), (i2.toNat, a7, x9.length, c5, x9)], own cd2 a4 x4.2.2.length c3 x4.2.2, it] from Hy).pk [1, 2, 3]) ?_
          refine ZB 21 [.slice a1 x1.1.length c1, iV i2] 0 ?_
          refine ZY 20 2 (.pointer (some (adr a1 (i2.toNat * 1)))) (fun hx Hx => (YE.of (Zi 22 24 1 (a1) (x1.1.length) (c1) .i64 (i2) Tryz.underlying22 ((H35.rdRows 1 rfl).cell hx12).1 hx12l (by rw [← (H35.lenRows 1 rfl)]; exact hx12u)))) ?_
          refine ZY 19 3 (.slice a9 x16.length c7) (fun hx Hx => (YE.of (Zl 24 (adr a1 (i2.toNat * 1)) (.slice a9 x16.length c7) (Hx.cellPin 0 rfl 0 rfl)))) ?_
          refine ZB 16 [iV i3, .slice a4 x4.2.2.length c3, iV i2] 4 ?_
          refine ZY 15 7 (.pointer (some (adr a4 (i2.toNat * 1)))) (fun hx Hx => (YE.of (Zi 24 2 1 (a4) (x4.2.2.length) (c3) .i64 (i2) Tryz.underlying24 ((H41.rd 2 rfl).cell hx13).1 hx13l hx13u))) ?_
          refine ZY 14 8 (iV x17) (fun hx Hx => (YE.of (Zl 2 (adr a4 (i2.toNat * 1)) (iV x17) (cd2_cell (Hx.rd 1 rfl) hx13)))) ?_
          refine ZB 12 [.slice a4 x4.2.2.length c3, iV i3] 9 ?_
          refine ZY 11 11 (.pointer (some (adr a4 (i3.toNat * 1)))) (fun hx Hx => (YE.of (Zi 24 2 1 (a4) (x4.2.2.length) (c3) .i64 (i3) Tryz.underlying24 ((H41.rd 2 rfl).cell hx14).1 hx14l hx14u))) ?_
          refine ZY 10 12 (iV x18) (fun hx Hx => (YE.of (Zl 2 (adr a4 (i3.toNat * 1)) (iV x18) (cd2_cell (Hx.rd 1 rfl) hx14)))) ?_
          refine ZB 6 [iV (w64 (x17 - x18)), iV (w64 (x6.1 - 2)), iV (w64 ((w64 (x17 - x18)) + (w64 (x6.1 - 2)))), pV bs_] 13 ?_
          refine ZE 5 17 (fun h15 H42 => ?_)
          have H43 : Hold h h15 [box bs_ 83 [.slice as_code s_.code.length cs_code, iV s4.1, iV s4.2.1], rowsP cd2 24 a1 x1.1.length c1 s4.2.2 [(i2.toNat, a9, x16.length, c7, x16), (i2.toNat, a7, x9.length, c5, x9)], own cd2 a4 x4.2.2.length c3 x4.2.2, it] := H42
          obtain ⟨x19, hx15, gs5⟩ := M.bind_some gs5
          have H44 : Hold h h15 [box bs_ 83 [.slice as_code s_.code.length cs_code, iV s4.1, iV s4.2.1], bun [rowsP cd2 24 a1 x1.1.length c1 s4.2.2 [(i2.toNat, a9, x16.length, c7, x16), (i2.toNat, a7, x9.length, c5, x9)], own cd2 a4 x4.2.2.length c3 x4.2.2, it]] := Hold.bundle (S := [box bs_ 83 [.slice as_code s_.code.length cs_code, iV s4.1, iV s4.2.1]]) (R := [rowsP cd2 24 a1 x1.1.length c1 s4.2.2 [(i2.toNat, a9, x16.length, c7, x16), (i2.toNat, a7, x9.length, c5, x9)], own cd2 a4 x4.2.2.length c3 x4.2.2, it]) H43
          refine ZC 47 #[pV bs_, iV 5] (w_spec_l01Next h h15 _ (⟨s_.code, s4.1, s4.2.1⟩ : TL01source) bs_ as_code cs_code rs_code 5 H44 _ _ hx15) (fun v5 h16 hp5 => ?_)
          obtain ⟨rfl, H45⟩ := hp5
          have H46 : Hold h h16 [box bs_ 83 [.slice as_code s_.code.length cs_code, iV x19.2.at_, iV x19.2.seed], rowsP cd2 24 a1 x1.1.length c1 s4.2.2 [(i2.toNat, a9, x16.length, c7, x16), (i2.toNat, a7, x9.length, c5, x9)], own cd2 a4 x4.2.2.length c3 x4.2.2, it] := Hold.unbundle (S := [box bs_ 83 [.slice as_code s_.code.length cs_code, iV x19.2.at_, iV x19.2.seed]]) (R := [rowsP cd2 24 a1 x1.1.length c1 s4.2.2 [(i2.toNat, a9, x16.length, c7, x16), (i2.toNat, a7, x9.length, c5, x9)], own cd2 a4 x4.2.2.length c3 x4.2.2, it]) H45 (Hold.tailBase (S := [box bs_ 83 [.slice as_code s_.code.length cs_code, iV s4.1, iV s4.2.1]]) (R := [rowsP cd2 24 a1 x1.1.length c1 s4.2.2 [(i2.toNat, a9, x16.length, c7, x16), (i2.toNat, a7, x9.length, c5, x9)], own cd2 a4 x4.2.2.length c3 x4.2.2, it]) H43)
          refine ⟨fun x => Hold h x [rowsP cd2 24 a1 x1.1.length c1 s4.2.2 [(i2.toNat, a9, x16.length, c7, x16), (i2.toNat, a7, x9.length, c5, x9)], own cd2 a4 x4.2.2.length c3 x4.2.2, it], fun x => Hold h x [box bs_ 83 [.slice as_code s_.code.length cs_code, iV x19.2.at_, iV x19.2.seed], rowsP cd2 24 a1 x1.1.length c1 s4.2.2 [(i2.toNat, a9, x16.length, c7, x16), (i2.toNat, a7, x9.length, c5, x9)], own cd2 a4 x4.2.2.length c3 x4.2.2, it], H46, Hold.stable, fun x Hy => (show Hold h x [box bs_ 83 [.slice as_code s_.code.length cs_code, iV x19.2.at_, iV x19.2.seed], rowsP cd2 24 a1 x1.1.length c1 s4.2.2 [(i2.toNat, a9, x16.length, c7, x16), (i2.toNat, a7, x9.length, c5, x9)], own cd2 a4 x4.2.2.length c3 x4.2.2, it] from Hy).pk [1, 2, 3], fun x Hy => (show Hold h x [rowsP cd2 24 a1 x1.1.length c1 s4.2.2 [(i2.toNat, a9, x16.length, c7, x16), (i2.toNat, a7, x9.length, c5, x9)], own cd2 a4 x4.2.2.length c3 x4.2.2, it] from Hy).pk [0, 1, 2], ?_⟩
          obtain ⟨x20, hx16, gs5⟩ := M.bind_some gs5
          obtain ⟨hx16l, hx16u, hx16⟩ := M.idx_some hx16
          refine ZB 2 [iV (w64 (x19.1 - 2)), iV (mx 0 (w64 (x19.1 - 2))), iV (w64 ((w64 ((w64 (x17 - x18)) + (w64 (x6.1 - 2)))) - (mx 0 (w64 (x19.1 - 2)))))] 18 ?_
          refine ZY 1 21 (.pointer (some (adr a9 (i3.toNat * 1)))) (fun hx Hx => (YE.of (Zi 24 2 1 (a9) (x16.length) (c7) .i64 (i3) Tryz.underlying24 ((H46.rdPin 1 rfl 0 rfl).cell hx16).1 hx16l hx16u))) ?_
          refine ZT 22 (fun h17 H47 => ?_)
          have H48 : Hold h h17 [box bs_ 83 [.slice as_code s_.code.length cs_code, iV x19.2.at_, iV x19.2.seed], rowsP cd2 24 a1 x1.1.length c1 s4.2.2 [(i2.toNat, a9, x16.length, c7, x16), (i2.toNat, a7, x9.length, c5, x9)], own cd2 a4 x4.2.2.length c3 x4.2.2, it] := H47
          obtain ⟨l2, hu1, gs5⟩ := M.bind_some gs5
          have hu1 := M.upd_some hu1
          have H50 : Hold h h17 [rowsP cd2 24 a1 x1.1.length c1 s4.2.2 [(i2.toNat, a9, x16.length, c7, x16), (i2.toNat, a7, x9.length, c5, x9)], box bs_ 83 [.slice as_code s_.code.length cs_code, iV x19.2.at_, iV x19.2.seed], own cd2 a4 x4.2.2.length c3 x4.2.2, it] := H48.pk [1, 0, 2, 3]
          refine Ze ?_
          refine E_put2 (C := cd2) (t := 2) (sz := 1) (j := i3) (x := (w64 ((w64 ((w64 (x17 - x18)) + (w64 (x6.1 - 2)))) - (mx 0 (w64 (x19.1 - 2)))))) (v := iV (w64 ((w64 ((w64 (x17 - x18)) + (w64 (x6.1 - 2)))) - (mx 0 (w64 (x19.1 - 2)))))) (m2 := s4.2.2.set i2.toNat l2) H50 cd2_flat 0 rfl (by kernel_rfl) rfl (cd2_own _) (by kernel_rfl) hu1 rfl (fun h18 H49 => ?_)
          refine Zx ?_
          refine Zk [0, 3, 4, 6, 7, 8] [(0, pV bs_), (3, .slice a1 x1.1.length c1), (4, .slice a4 x4.2.2.length c3), (6, iV (w64 (x6.1 - 2))), (7, iV i2), (8, iV i3)] ?_
          have H52 := H49.ofRows
          have H53 : Hold h h18 [box bs_ 83 [.slice as_code s_.code.length cs_code, iV x19.2.at_, iV x19.2.seed], own cd24 a1 x1.1.length c1 (s4.2.2.set i2.toNat l2), own cd2 a4 x4.2.2.length c3 x4.2.2, it] := H52.pk [1, 0, 2, 3]
          have gs5 := M.ret_some gs5
          subst gs5
          exact Zf [0, 3, 4, 6, 7, 8] ⟨rfl, H53⟩
         ·have gs5 := (M.ite_some gs5).2 hb7
          refine Run_skip ?_
          have H54 : Hold h h13 [rowsP cd2 24 a1 x1.1.length c1 s4.2.2 [(i2.toNat, a7, x9.length, c5, x9)], box bs_ 83 [.slice as_code s_.code.length cs_code, iV s4.1, iV s4.2.1], own cd2 a4 x4.2.2.length c3 x4.2.2, it] := H35.pk [1, 0, 2, 3]
          have H55 := H54.ofRows
          have H56 : Hold h h13 [box bs_ 83 [.slice as_code s_.code.length cs_code, iV s4.1, iV s4.2.1], own cd24 a1 x1.1.length c1 s4.2.2, own cd2 a4 x4.2.2.length c3 x4.2.2, it] := H55.pk [1, 0, 2, 3]
          have gs5 := M.ret_some gs5
          subst gs5
          exact Zf [0, 3, 4, 6, 7, 8] ⟨rfl, H56⟩
       ·have gx8 := M.for_end gx8 hb5
        subst gx8
        refine Run_exit (k' := _) rfl ?_
        exact Zf [0, 3, 4, 6, 7] ⟨rfl, H30⟩
     ·have gx7 := M.for_end gx7 hb4
      subst gx7
      refine Run_exit (k' := _) rfl ?_
      have H57 : Hold h h11 [box bs_ 83 [.slice as_code s_.code.length cs_code, iV s3.1, iV s3.2.1], own cd24 a1 x1.1.length c1 s3.2.2, it] := H28.pk [0, 1, 3]
      exact Zf [3] ⟨rfl, H57⟩
   ·refine Run_block ?_
    have hn1 := (H11.len 0 rfl)
    have H60 : Hold h h4 [own cd2 a2 (([] : List Int).length) 0 ([] : List Int), box bs_ 83 [.slice as_code s_.code.length cs_code, iV s1.1, iV s1.2.1], own cd24 a1 x1.1.length c1 x1.1, it] := by rw [hn1]; exact H11
    have H61 : Hold h h4 [box bs_ 83 [.slice as_code s_.code.length cs_code, iV s1.1, iV s1.2.1], own cd24 a1 x1.1.length c1 x1.1, own cd2 a2 (([] : List Int).length) 0 ([] : List Int), it] := H60.pk [1, 2, 0, 3]
    refine Run_keep [0, 3, 4, 5] (L' := [(0, pV bs_), (3, .slice a1 x1.1.length c1), (4, .slice a2 (([] : List Int).length) 0), (5, iV 0)]) (by first | (rw [hn1]; kernel_rfl) | (simp only [hn1]; kernel_rfl) | kernel_rfl) ?_
    refine Run_loop (fun m L' h' => ∃ (i1 : Int) (s2 : Int × Int × (List Int)) (a3 : Option Addr) (c2 : Nat), 0 ≤ i1 ∧ M.forN (x1.1.length : Int) _ _ n m i1 s2 = some x4 ∧ L' = [(0, pV bs_), (3, .slice a1 x1.1.length c1), (4, .slice a3 s2.2.2.length c2), (5, iV i1)] ∧ Hold h h' [box bs_ 83 [.slice as_code s_.code.length cs_code, iV s2.1, iV s2.2.1], own cd24 a1 x1.1.length c1 x1.1, own cd2 a3 s2.2.2.length c2 s2.2.2, it]) ((x1.1.length : Int) - 0 : Int).toNat ⟨0, (s1.1, s1.2.1, ([] : List Int)), a2, 0, Int.le_refl _, gx4, rfl, H61⟩ ?_
    rintro my1 _ h5 ⟨i1, s2, a3, c2, hloy1', gx4, rfl, H12⟩
    refine Zs ?_
    refine Zs ?_
    refine Zq [iV i1, .slice a1 x1.1.length c1, iV (x1.1.length : Int), .bool (decide (i1 < (x1.1.length : Int)))] [0, 3, 4, 5, 24] [(0, pV bs_), (3, .slice a1 x1.1.length c1), (4, .slice a3 s2.2.2.length c2), (5, iV i1), (24, .bool (decide (i1 < (x1.1.length : Int))))] ?_
    refine Zc (decide (i1 < (x1.1.length : Int))) (fun hb3 => ?_) (fun hb3 => ?_)
    ·obtain ⟨my1, y1, rfl, hB1, hgoy1, houty1⟩ := M.for_go gx4 hb3
     have hlty1 := of_decide_eq_true hb3
     refine Run_skip ?_
     refine Zs ?_
     refine Run_block ?_
     refine Run_ops ?_
     refine Zr [.slice a3 s2.2.2.length c2, pV bs_] 0 ?_
     obtain ⟨x5, hx4, hB1⟩ := M.bind_some hB1
     have H14 : Hold h h5 [box bs_ 83 [.slice as_code s_.code.length cs_code, iV s2.1, iV s2.2.1], bun [own cd24 a1 x1.1.length c1 x1.1, own cd2 a3 s2.2.2.length c2 s2.2.2, it]] := Hold.bundle (S := [box bs_ 83 [.slice as_code s_.code.length cs_code, iV s2.1, iV s2.2.1]]) (R := [own cd24 a1 x1.1.length c1 x1.1, own cd2 a3 s2.2.2.length c2 s2.2.2, it]) H12
     refine Ze ?_
     refine ZC 47 #[pV bs_, iV 6] (w_spec_l01Next h h5 _ (⟨s_.code, s2.1, s2.2.1⟩ : TL01source) bs_ as_code cs_code rs_code 6 H14 _ _ hx4) (fun v3 h7 hp3 => ?_)
     obtain ⟨rfl, H15⟩ := hp3
     have H16 : Hold h h7 [box bs_ 83 [.slice as_code s_.code.length cs_code, iV x5.2.at_, iV x5.2.seed], own cd24 a1 x1.1.length c1 x1.1, own cd2 a3 s2.2.2.length c2 s2.2.2, it] := Hold.unbundle (S := [box bs_ 83 [.slice as_code s_.code.length cs_code, iV x5.2.at_, iV x5.2.seed]]) (R := [own cd24 a1 x1.1.length c1 x1.1, own cd2 a3 s2.2.2.length c2 s2.2.2, it]) H15 (Hold.tailBase (S := [box bs_ 83 [.slice as_code s_.code.length cs_code, iV s2.1, iV s2.2.1]]) (R := [own cd24 a1 x1.1.length c1 x1.1, own cd2 a3 s2.2.2.length c2 s2.2.2, it]) H12)
     refine Ze ?_
     refine E_lit (C := cd2) (n := 1) (l := ([x5.1] : List Int)) (cs := [iV x5.1]) H16 (fun w => by kernel_rfl) (Enc.consE (cd2_own x5.1 _) (Enc.nil _ _) rfl) rfl (by decide) (fun a5 h8 H17 => ?_)
     obtain ⟨l1, hl1, hB1⟩ := M.bind_some hB1
     have hl1 := M.app_some hl1
     have H18 : Hold h h8 [own cd2 a3 s2.2.2.length c2 s2.2.2, own cd2 a5 1 1 ([x5.1] : List Int), box bs_ 83 [.slice as_code s_.code.length cs_code, iV x5.2.at_, iV x5.2.seed], own cd24 a1 x1.1.length c1 x1.1, it] := H17.pk [3, 0, 1, 2, 4]
     have H19 : Hold h h8 [own cd2 a5 1 1 ([x5.1] : List Int), own cd2 a3 s2.2.2.length c2 s2.2.2, box bs_ 83 [.slice as_code s_.code.length cs_code, iV x5.2.at_, iV x5.2.seed], own cd24 a1 x1.1.length c1 x1.1, it] := H18.pk [1, 0, 2, 3, 4]
     have H20 : Hold h h8 [own cd2 a3 s2.2.2.length c2 s2.2.2, own cd2 a5 1 1 ([x5.1] : List Int), box bs_ 83 [.slice as_code s_.code.length cs_code, iV x5.2.at_, iV x5.2.seed], own cd24 a1 x1.1.length c1 x1.1, it] := H19.pk [1, 0, 2, 3, 4]
     refine Ze ?_
     refine E_app (C := cd2) (t := 24) (ty := 24) (n := s2.2.2.length) (m := 1) H20 cd2_ti rfl Tryz.underlying24 (by decide) (by kernel_rfl) hl1 (fun a6 c4 h9 H21 => ?_)
     refine Zr [.slice a6 l1.length c4] 5 ?_
     refine Zx ?_
     refine Zk [0, 3, 4, 5] [(0, pV bs_), (3, .slice a1 x1.1.length c1), (4, .slice a6 l1.length c4), (5, iV i1)] ?_
     refine Run_blk ?_
     refine Zg 3 [(0, pV bs_), (3, .slice a1 x1.1.length c1), (4, .slice a6 l1.length c4), (5, iV (i1 + 1))] ?_ ?_
     ·refine Zb [iV i1] 0 ?_
      refine Zy (iV (i1 + 1)) (Y_eq (v := iV (w64 (i1 + 1))) (Y_pure (fun w => by kernel_rfl)) (by rw [w64_eq _ (by omega)])) ?_
      refine Zb [iV (i1 + 1)] 2 ?_
      exact Zd [0, 3, 4, 5]
     have H22 : Hold h h9 [box bs_ 83 [.slice as_code s_.code.length cs_code, iV x5.2.at_, iV x5.2.seed], own cd24 a1 x1.1.length c1 x1.1, own cd2 a6 l1.length c4 l1, it] := H21.pk [1, 2, 0, 3]
     have hB1 := M.ret_some hB1
     have gx4 := hgoy1 _ hB1.symm
     exact Za [0, 3, 4, 5] my1 ⟨i1 + 1, (x5.2.at_, x5.2.seed, l1), a6, c4, by omega, gx4, rfl, H22⟩
    ·have gx4 := M.for_end gx4 hb3
     subst gx4
     refine Run_exit (k' := _) rfl ?_
     have H23 : Hold h h5 [own cd2 a3 s2.2.2.length c2 s2.2.2, box bs_ 83 [.slice as_code s_.code.length cs_code, iV s2.1, iV s2.2.1], own cd24 a1 x1.1.length c1 x1.1, it] := H12.pk [2, 0, 1, 3]
     have H24 : Hold h h5 [box bs_ 83 [.slice as_code s_.code.length cs_code, iV s2.1, iV s2.2.1], own cd24 a1 x1.1.length c1 x1.1, own cd2 a3 s2.2.2.length c2 s2.2.2, it] := H23.pk [1, 2, 0, 3]
     exact Zf [0, 3, 4] ⟨a3, c2, rfl, H24⟩
 ·refine Run_ops ?_
  obtain ⟨x2, hx2, gs1⟩ := M.bind_some gs1
  refine Zr [.slice a1 x1.1.length c1] 0 ?_
  refine Zz (.bool x2) (ZQ 68 #[.slice a1 x1.1.length c1] (w_spec_l02Square h1 x1.1 a1 c1 (H3.rd 0 rfl) _ _ hx2)) ?_
  refine Zr [.bool (!x2)] 2 ?_
  rcases Bool.eq_false_or_eq_true (!x2) with hb1 | hb1
  ·have gs1 := (M.ite_some gs1).1 hb1
   refine Run_q1 8 (L' := [(0, pV bs_), (3, .slice a1 x1.1.length c1), (18, .bool true)]) ?_ ?_
   ·refine Zv (!x2) true hb1 ?_
    refine Zn ?_
    refine Zn ?_
    refine Zn ?_
    refine Zv true true rfl ?_
    exact Zd [0, 3, 18]
   refine Zx ?_
   refine Zk [0, 3, 18] [(0, pV bs_), (3, .slice a1 x1.1.length c1), (18, .bool true)] ?_
   have H9 : Hold h h1 [box bs_ 83 [.slice as_code s_.code.length cs_code, iV x1.2.at_, iV x1.2.seed], own cd24 a1 x1.1.length c1 x1.1, it] := H3.pk [1, 0, 2]
   have gs1 := M.ret_some gs1
   subst gs1
   exact Zf [0, 3, 18] ⟨rfl, H9⟩
  ·have gs1 := (M.ite_some gs1).2 hb1
   refine Run_q1 4 (L' := [(0, pV bs_), (3, .slice a1 x1.1.length c1), (11, .slice a1 x1.1.length c1), (12, .bool x2), (13, .bool (!x2)), (14, .bool false)]) ?_ ?_
   ·refine Zv (!x2) false hb1 ?_
    exact Zd [0, 3, 11, 12, 13, 14]
   refine Zr [pV bs_] 4 ?_
   obtain ⟨x3, hx3, gs1⟩ := M.bind_some gs1
   have H4 : Hold h h1 [box bs_ 83 [.slice as_code s_.code.length cs_code, iV x1.2.at_, iV x1.2.seed], own cd24 a1 x1.1.length c1 x1.1, it] := H3.pk [1, 0, 2]
   have H5 : Hold h h1 [box bs_ 83 [.slice as_code s_.code.length cs_code, iV x1.2.at_, iV x1.2.seed], bun [own cd24 a1 x1.1.length c1 x1.1, it]] := Hold.bundle (S := [box bs_ 83 [.slice as_code s_.code.length cs_code, iV x1.2.at_, iV x1.2.seed]]) (R := [own cd24 a1 x1.1.length c1 x1.1, it]) H4
   refine Ze ?_
   refine ZC 47 #[pV bs_, iV 3] (w_spec_l01Next h h1 _ (⟨s_.code, x1.2.at_, x1.2.seed⟩ : TL01source) bs_ as_code cs_code rs_code 3 H5 _ _ hx3) (fun v2 h2 hp2 => ?_)
   obtain ⟨rfl, H6⟩ := hp2
   have H7 : Hold h h2 [box bs_ 83 [.slice as_code s_.code.length cs_code, iV x3.2.at_, iV x3.2.seed], own cd24 a1 x1.1.length c1 x1.1, it] := Hold.unbundle (S := [box bs_ 83 [.slice as_code s_.code.length cs_code, iV x3.2.at_, iV x3.2.seed]]) (R := [own cd24 a1 x1.1.length c1 x1.1, it]) H6 (Hold.tailBase (S := [box bs_ 83 [.slice as_code s_.code.length cs_code, iV x1.2.at_, iV x1.2.seed]]) (R := [own cd24 a1 x1.1.length c1 x1.1, it]) H4)
   refine Zr [.bool (x3.1 == 0)] 6 ?_
   refine Zr [.bool (x3.1 == 0)] 7 ?_
   refine Zx ?_
   refine Zk [0, 3, 18] [(0, pV bs_), (3, .slice a1 x1.1.length c1), (18, .bool (x3.1 == 0))] ?_
   have gs1 := M.ret_some gs1
   subst gs1
   exact Zf [0, 3, 18] ⟨rfl, H7⟩

theorem w_spec_DrawCriticalArcs (h : Heap) (code : List Int) (acode : Option Addr) (ccode : Nat) (rcode : Rd cd5 h (Lt h) acode ccode code) (n : Nat) (r : (List (List Int))) (hF : spec_DrawCriticalArcs code n = some r) :
  Fn Tryz.prog 16 #[.slice acode code.length ccode] h fun v h' => ∃ (a0 : Option Addr) (c0 : Nat), v = .slice a0 r.length c0 ∧ Hold h h' [own cd24 a0 r.length c0 r] := by
 unfold spec_DrawCriticalArcs at hF
 refine Zo [.slice acode code.length ccode] Tryz.func16 rfl (fun w0 _ => ?_)
 have H0 := Hold.init h
 refine Zs ?_
 refine Zq [.slice none 0 0] [0] [(0, .slice acode code.length ccode)] ?_
 refine Zs ?_
 refine Run_ops ?_
 refine Zr [.slice acode code.length ccode] 0 ?_
 obtain ⟨x1, hx1, hF⟩ := M.bind_some hF
 refine Ze ?_
 refine ZC 43 #[.slice acode code.length ccode] (w_spec_l01From h code acode ccode rcode _ _ hx1) (fun v1 h1 hp1 => ?_)
 obtain ⟨b1, a1, c1, rfl, hd1, H1⟩ := hp1
 have H2 : Hold h h1 [box b1 83 [.slice a1 x1.code.length c1, iV x1.at_, iV x1.seed]] := H0.call H1 rfl
 have r1 := rcode.alias hd1
 obtain ⟨x2, hx2, hF⟩ := M.bind_some hF
 have H3 : Hold h h1 [box b1 83 [.slice a1 x1.code.length c1, iV x1.at_, iV x1.seed], bun []] := Hold.bundle (S := [box b1 83 [.slice a1 x1.code.length c1, iV x1.at_, iV x1.seed]]) (R := []) H2
 refine Ze ?_
 refine ZC 42 #[pV b1] (w_spec_l06Draw h h1 _ x1 b1 a1 c1 r1 H3 _ _ hx2) (fun v2 h2 hp2 => ?_)
 obtain ⟨a2, c2, rfl, H4⟩ := hp2
 have H5 : Hold h h2 [own cd24 a2 x2.1.length c2 x2.1, box b1 83 [.slice a1 x1.code.length c1, iV x2.2.at_, iV x2.2.seed]] := Hold.unbundle (S := [own cd24 a2 x2.1.length c2 x2.1, box b1 83 [.slice a1 x1.code.length c1, iV x2.2.at_, iV x2.2.seed]]) (R := []) H4 (Hold.tailBase (S := [box b1 83 [.slice a1 x1.code.length c1, iV x1.at_, iV x1.seed]]) (R := []) H2)
 refine Zr [.slice a2 x2.1.length c2] 3 ?_
 refine Zx ?_
 refine Zk [2] [(2, .slice a2 x2.1.length c2)] ?_
 have hF := M.ret_some hF
 subst hF
 have H6 : Hold h h2 [own cd24 a2 x2.1.length c2 x2.1] := H5.pk [0]
 exact Run_ret1 rfl (Zt (.slice a2 x2.1.length c2)) ⟨a2, c2, rfl, H6⟩

theorem w_impl_within (h : Heap) (n_ : Int) (low : Int) (high : Int) (n : Nat) (r : Bool) (hF : impl_within n_ low high n = some r) :
  Fn Tryz.prog 128 #[iV n_, iV low, iV high] h fun v h' => v = .bool r ∧ h' = h := by
 unfold impl_within at hF
 refine Zo [iV n_, iV low, iV high] Tryz.func128 rfl (fun w0 _ => ?_)
 refine Zs ?_
 refine Zq [.bool false] [0, 1, 2] [(0, iV n_), (1, iV low), (2, iV high)] ?_
 refine Zs ?_
 refine Zg 9 [(6, .bool ((decide (low ≤ n_)) && (decide (n_ ≤ high))))] ?_ ?_
 ·refine Zb [iV n_, iV low, .bool (decide (low ≤ n_))] 0 ?_
  refine QRun_seq 8 [(14, .bool ((decide (low ≤ n_)) && (decide (n_ ≤ high))))] ?_ ?_
  ·rcases Bool.eq_false_or_eq_true (decide (low ≤ n_)) with hb1 | hb1
   ·refine Zv (decide (low ≤ n_)) true hb1 ?_
    refine Zb [iV n_, iV high, .bool (decide (n_ ≤ high))] 4 ?_
    refine QRun_bool (decide (n_ ≤ high)) ((decide (low ≤ n_)) && (decide (n_ ≤ high))) (by kernel_rfl) (fun w => by kernel_rfl) (by rw [hb1]; rfl) ?_
    exact Zd [14]
   ·refine Zv (decide (low ≤ n_)) false hb1 ?_
    refine Zn ?_
    refine Zn ?_
    refine Zn ?_
    refine QRun_bool false ((decide (low ≤ n_)) && (decide (n_ ≤ high))) (by kernel_rfl) (fun w => by kernel_rfl) (by rw [hb1]; rfl) ?_
    exact Zd [14]
  refine Zb [.bool ((decide (low ≤ n_)) && (decide (n_ ≤ high)))] 8 ?_
  exact Zd [6]
 have hF := M.ret_some hF
 subst hF
 exact Run_ret1 rfl (Zt (.bool ((decide (low ≤ n_)) && (decide (n_ ≤ high))))) ⟨rfl, rfl⟩

theorem w_impl_isFinite (h : Heap) (n_ : Int) (n : Nat) (r : Bool) (hF : impl_isFinite n_ n = some r) :
  Fn Tryz.prog 145 #[iV n_] h fun v h' => v = .bool r ∧ h' = h := by
 unfold impl_isFinite at hF
 refine Zo [iV n_] Tryz.func145 rfl (fun w0 _ => ?_)
 refine Zs ?_
 refine Zq [.bool false] [0] [(0, iV n_)] ?_
 refine Zs ?_
 obtain ⟨x1, hx1, hF⟩ := M.bind_some hF
 refine Zg 3 [(2, .bool x1)] ?_ ?_
 ·refine Zb [iV n_] 0 ?_
  refine Zy (.bool x1) (ZQ 128 #[iV n_, iV (-1000000), iV 1000000] (w_impl_within h n_ (-1000000) 1000000 _ _ hx1)) ?_
  refine Zb [.bool x1] 2 ?_
  exact Zd [2]
 have hF := M.ret_some hF
 subst hF
 exact Run_ret1 rfl (Zt (.bool x1)) ⟨rfl, rfl⟩

theorem w_impl_IsValue (h : Heap) (a_ : Int) (n : Nat) (r : Bool) (hF : impl_IsValue a_ n = some r) :
  Fn Tryz.prog 141 #[iV a_] h fun v h' => v = .bool r ∧ h' = h := by
 unfold impl_IsValue at hF
 refine Zo [iV a_] Tryz.func141 rfl (fun w0 _ => ?_)
 refine Zs ?_
 refine Zq [.bool false] [0] [(0, iV a_)] ?_
 refine Zs ?_
 obtain ⟨x1, gx1, hF⟩ := M.bind_some hF
 refine Zg 7 [(2, .bool x1)] ?_ ?_
 ·refine Zb [iV a_, .bool (a_ == (-1000000000000000))] 0 ?_
  refine QRun_seq 6 [(8, .bool x1)] ?_ ?_
  ·rcases Bool.eq_false_or_eq_true (a_ == (-1000000000000000)) with hb1 | hb1
   ·refine Zv (a_ == (-1000000000000000)) true hb1 ?_
    have gx1 := M.ret_some ((M.ite_some gx1).1 hb1)
    refine Zn ?_
    refine Zn ?_
    refine Zv true x1 gx1 ?_
    exact Zd [8]
   ·refine Zv (a_ == (-1000000000000000)) false hb1 ?_
    have gx1 := (M.ite_some gx1).2 hb1
    obtain ⟨x2, hx1, gx1⟩ := M.bind_some gx1
    have gx1 := M.ret_some gx1
    refine Zb [iV a_] 3 ?_
    refine Zy (.bool x2) (ZQ 145 #[iV a_] (w_impl_isFinite h a_ _ _ hx1)) ?_
    refine Zv x2 x1 gx1 ?_
    exact Zd [8]
  refine Zb [.bool x1] 6 ?_
  exact Zd [2]
 have hF := M.ret_some hF
 subst hF
 exact Run_ret1 rfl (Zt (.bool x1)) ⟨rfl, rfl⟩

theorem w_impl_areValues_1 (h : Heap) (n_ : Int) (n : Nat) (r : Bool) (hF : impl_areValues_1 n_ n = some r) :
  Fn Tryz.prog 140 #[iV n_] h fun v h' => v = .bool r ∧ h' = h := by
 unfold impl_areValues_1 at hF
 refine Zo [iV n_] Tryz.func140 rfl (fun w0 _ => ?_)
 refine Zs ?_
 refine Zq [.bool false] [0] [(0, iV n_)] ?_
 refine Zs ?_
 obtain ⟨x1, hx1, hF⟩ := M.bind_some hF
 refine Zg 4 [(2, .bool (!x1))] ?_ ?_
 ·refine Zb [iV n_] 0 ?_
  refine Zy (.bool x1) (ZQ 141 #[iV n_] (w_impl_IsValue h n_ _ _ hx1)) ?_
  refine Zb [.bool (!x1), .bool (!x1)] 2 ?_
  exact Zd [2]
 have hF := M.ret_some hF
 subst hF
 exact Run_ret1 rfl (Zt (.bool (!x1))) ⟨rfl, rfl⟩

theorem w_slices_IndexFunc_int_F_impl_areValues_1 (h : Heap) (s_ : List Int) {Ss_ : Bs} (as_ : Option Addr) (cs_ : Nat) (rs_ : Rd cd2 h Ss_ as_ cs_ s_) (n : Nat) (r : Int) (hF : slices_IndexFunc_int_F_impl_areValues_1 s_ n = some r) :
  Fn Tryz.prog 156 #[.slice as_ s_.length cs_, .func (.func 140) #[] #[]] h fun v h' => v = iV r ∧ h' = h := by
 unfold slices_IndexFunc_int_F_impl_areValues_1 at hF
 refine Zo [.slice as_ s_.length cs_, .func (.func 140) #[] #[]] Tryz.func156 rfl (fun w0 _ => ?_)
 refine Zs ?_
 refine Zq [iV 0] [0, 1] [(0, .slice as_ s_.length cs_), (1, .func (.func 140) #[] #[])] ?_
 refine Zs ?_
 refine Zs ?_
 refine Zq [.slice as_ s_.length cs_, iV (s_.length : Int), iV 0] [0, 1, 7, 8] [(0, .slice as_ s_.length cs_), (1, .func (.func 140) #[] #[]), (7, iV (s_.length : Int)), (8, iV 0)] ?_
 obtain ⟨x1, gx1, hF⟩ := M.bind_some hF
 obtain ⟨hloy1, hhiy1, gx1⟩ := M.for_start gx1
 refine Run_join (fun L' h' => ∃ (s2 : Unit), x1 = .inl s2 ∧ L' = [] ∧ h = h') ?_ ?_
 ·rintro _ _ ⟨s2, es2, rfl, rfl⟩
  have hF := M.cont_inl' hF es2
  refine Zs ?_
  refine Zq [iV (-1)] [4] [(4, iV (-1))] ?_
  have hF := M.ret_some hF
  subst hF
  exact Run_ret1 rfl (Zt (iV (-1))) ⟨rfl, rfl⟩
 ·refine Run_block ?_
  refine Zk [0, 1, 7, 8] [(0, .slice as_ s_.length cs_), (1, .func (.func 140) #[] #[]), (7, iV (s_.length : Int)), (8, iV 0)] ?_
  refine Run_loop (fun m L' h' => ∃ (i1 : Int) (s1 : Unit), 0 ≤ i1 ∧ M.forN (s_.length : Int) _ _ n m i1 s1 = some x1 ∧ L' = [(0, .slice as_ s_.length cs_), (1, .func (.func 140) #[] #[]), (7, iV (s_.length : Int)), (8, iV i1)] ∧ h = h') ((s_.length : Int) - 0 : Int).toNat ⟨0, (), Int.le_refl _, gx1, rfl, rfl⟩ ?_
  rintro my1 _ _ ⟨i1, s1, hloy1', gx1, rfl, rfl⟩
  refine Zs ?_
  refine Zq [.bool (decide (i1 < (s_.length : Int)))] [0, 1, 7, 8, 9] [(0, .slice as_ s_.length cs_), (1, .func (.func 140) #[] #[]), (7, iV (s_.length : Int)), (8, iV i1), (9, .bool (decide (i1 < (s_.length : Int))))] ?_
  refine Zs ?_
  refine Zc (decide (i1 < (s_.length : Int))) (fun hb1 => ?_) (fun hb1 => ?_)
  ·obtain ⟨my1, y1, rfl, hB1, hgoy1, houty1⟩ := M.for_go gx1 hb1
   have hlty1 := of_decide_eq_true hb1
   refine Run_skip ?_
   refine Zs ?_
   refine Run_block ?_
   refine Zs ?_
   refine Zq [iV i1, iV i1] [0, 1, 5, 7, 8] [(0, .slice as_ s_.length cs_), (1, .func (.func 140) #[] #[]), (5, iV i1), (7, iV (s_.length : Int)), (8, iV i1)] ?_
   refine Zs ?_
   obtain ⟨x2, hx1, hB1⟩ := M.bind_some hB1
   obtain ⟨hx1l, hx1u, hx1⟩ := M.idx_some hx1
   obtain ⟨x3, hx2, hB1⟩ := M.bind_some hB1
   refine Zg 6 [(0, .slice as_ s_.length cs_), (1, .func (.func 140) #[] #[]), (5, iV i1), (7, iV (s_.length : Int)), (8, iV i1), (16, .bool x3)] ?_ ?_
   ·refine Zb [.func (.func 140) #[] #[], .slice as_ s_.length cs_, iV i1] 0 ?_
    refine Zy (.pointer (some (adr as_ (i1.toNat * 1)))) (Zi 24 2 1 (as_) (s_.length) (cs_) .i64 (i1) Tryz.underlying24 (rs_.cell hx1).1 hx1l hx1u) ?_
    refine Zy (iV x2) (Zl 2 (adr as_ (i1.toNat * 1)) (iV x2) (cd2_cell rs_ hx1)) ?_
    refine Zy (.bool x3) (ZQ 140 #[iV x2] (w_impl_areValues_1 h x2 _ _ hx2)) ?_
    exact Zd [0, 1, 5, 7, 8, 16]
   refine Zc (x3) (fun hb2 => ?_) (fun hb2 => ?_)
   ·have hB1 := (M.ite_some hB1).1 hb2
    refine Zs ?_
    refine Zq [iV i1, iV i1] [4] [(4, iV i1)] ?_
    have hB1 := M.ret_some hB1
    have gx1 := houty1 _ hB1.symm
    have hF := M.cont_inr' hF gx1
    have hF := M.ret_some hF
    subst hF
    exact Run_ret1 rfl (Zt (iV i1)) ⟨rfl, rfl⟩
   ·have hB1 := (M.ite_some hB1).2 hb2
    refine Run_skip ?_
    refine Run_blk ?_
    refine Zg 2 [(0, .slice as_ s_.length cs_), (1, .func (.func 140) #[] #[]), (7, iV (s_.length : Int)), (8, iV (i1 + 1))] ?_ ?_
    ·refine Zy (iV (i1 + 1)) (Y_eq (v := iV (w64 (i1 + 1))) (Y_pure (fun w => by kernel_rfl)) (by rw [w64_eq _ (by omega)])) ?_
     refine Zb [iV (i1 + 1)] 1 ?_
     exact Zd [0, 1, 7, 8]
    have hB1 := M.ret_some hB1
    have gx1 := hgoy1 _ hB1.symm
    exact Za [0, 1, 7, 8] my1 ⟨i1 + 1, (), by omega, gx1, rfl, rfl⟩
  ·have gx1 := M.for_end gx1 hb1
   subst gx1
   refine Run_exit (k' := _) rfl ?_
   exact Zf [] ⟨(), rfl, rfl, rfl⟩

theorem w_slices_ContainsFunc_int_F_impl_areValues_1 (h : Heap) (s_ : List Int) {Ss_ : Bs} (as_ : Option Addr) (cs_ : Nat) (rs_ : Rd cd2 h Ss_ as_ cs_ s_) (n : Nat) (r : Bool) (hF : slices_ContainsFunc_int_F_impl_areValues_1 s_ n = some r) :
  Fn Tryz.prog 139 #[.slice as_ s_.length cs_, .func (.func 140) #[] #[]] h fun v h' => v = .bool r ∧ h' = h := by
 unfold slices_ContainsFunc_int_F_impl_areValues_1 at hF
 refine Zo [.slice as_ s_.length cs_, .func (.func 140) #[] #[]] Tryz.func139 rfl (fun w0 _ => ?_)
 refine Zs ?_
 refine Zq [.bool false] [0, 1] [(0, .slice as_ s_.length cs_), (1, .func (.func 140) #[] #[])] ?_
 refine Zs ?_
 obtain ⟨x1, hx1, hF⟩ := M.bind_some hF
 refine Zg 5 [(4, .bool (decide (0 ≤ x1)))] ?_ ?_
 ·refine Zb [.slice as_ s_.length cs_, .func (.func 140) #[] #[]] 0 ?_
  refine Zy (iV x1) (ZQ 156 #[.slice as_ s_.length cs_, .func (.func 140) #[] #[]] (w_slices_IndexFunc_int_F_impl_areValues_1 h s_ as_ cs_ rs_ _ _ hx1)) ?_
  refine Zb [.bool (decide (0 ≤ x1)), .bool (decide (0 ≤ x1))] 3 ?_
  exact Zd [4]
 have hF := M.ret_some hF
 subst hF
 exact Run_ret1 rfl (Zt (.bool (decide (0 ≤ x1)))) ⟨rfl, rfl⟩

theorem w_impl_areValues (h : Heap) (list : List Int) {Slist : Bs} (alist : Option Addr) (clist : Nat) (rlist : Rd cd2 h Slist alist clist list) (n : Nat) (r : Bool) (hF : impl_areValues list n = some r) :
  Fn Tryz.prog 98 #[.slice alist list.length clist] h fun v h' => v = .bool r ∧ h' = h := by
 unfold impl_areValues at hF
 refine Zo [.slice alist list.length clist] Tryz.func98 rfl (fun w0 _ => ?_)
 refine Zs ?_
 refine Zq [.bool false] [0] [(0, .slice alist list.length clist)] ?_
 refine Zs ?_
 obtain ⟨x1, hx1, hF⟩ := M.bind_some hF
 refine Zg 4 [(2, .bool (!x1))] ?_ ?_
 ·refine Zb [.slice alist list.length clist] 0 ?_
  refine Zy (.bool x1) (ZQ 139 #[.slice alist list.length clist, .func (.func 140) #[] #[]] (w_slices_ContainsFunc_int_F_impl_areValues_1 h list alist clist rlist _ _ hx1)) ?_
  refine Zb [.bool (!x1), .bool (!x1)] 2 ?_
  exact Zd [2]
 have hF := M.ret_some hF
 subst hF
 exact Run_ret1 rfl (Zt (.bool (!x1))) ⟨rfl, rfl⟩

theorem w_impl_IsMatrix_1 (h : Heap) (row : List Int) {Srow : Bs} (arow : Option Addr) (crow : Nat) (rrow : Rd cd2 h Srow arow crow row) (z0 : List (List Int)) {Sz0 : Bs} (az0 : Option Addr) (cz0 : Nat) (rz0 : Rd cd24 h Sz0 az0 cz0 z0) (bz0 : Nat) (vz0 : VarAt h bz0 22 [.slice az0 z0.length cz0]) (n : Nat) (r : Bool) (hF : impl_IsMatrix_1 row z0 n = some r) :
  Fn Tryz.prog 129 #[.slice arow row.length crow, pV bz0] h fun v h' => v = .bool r ∧ h' = h := by
 unfold impl_IsMatrix_1 at hF
 refine Zo [.slice arow row.length crow, pV bz0] Tryz.func129 rfl (fun w0 _ => ?_)
 refine Zs ?_
 refine Zq [.bool false] [0, 1] [(0, .slice arow row.length crow), (1, pV bz0)] ?_
 refine Zs ?_
 obtain ⟨x1, hx1, hF⟩ := M.bind_some hF
 obtain ⟨hx1l, hx1u, hx1⟩ := M.idx_some hx1
 obtain ⟨a1, c1, hc1, r1⟩ := rz0.row hx1
 obtain ⟨x2, gx2, hF⟩ := M.bind_some hF
 refine Zg 13 [(3, .bool x2)] ?_ ?_
 ·refine Zb [.slice arow row.length crow, iV (row.length : Int)] 0 ?_
  refine Zy (.slice az0 z0.length cz0) (Zl 22 (⟨bz0, 0, none⟩) (.slice az0 z0.length cz0) (VarAt.cell vz0 rfl)) ?_
  refine Zy (.pointer (some (adr az0 (0 * 1)))) (Zi 22 24 1 (az0) (z0.length) (cz0) .i64 (0) Tryz.underlying22 (rz0.cell hx1).1 hx1l hx1u) ?_
  refine Zy (.slice a1 x1.length c1) (Zl 24 (adr az0 (0 * 1)) (.slice a1 x1.length c1) hc1) ?_
  refine Zb [iV (x1.length : Int), .bool ((row.length : Int) != (x1.length : Int))] 5 ?_
  refine QRun_seq 12 [(15, .bool x2)] ?_ ?_
  ·rcases Bool.eq_false_or_eq_true ((row.length : Int) != (x1.length : Int)) with hb1 | hb1
   ·refine Zv ((row.length : Int) != (x1.length : Int)) true hb1 ?_
    have gx2 := M.ret_some ((M.ite_some gx2).1 hb1)
    refine Zn ?_
    refine Zn ?_
    refine Zn ?_
    refine Zv true x2 gx2 ?_
    exact Zd [15]
   ·refine Zv ((row.length : Int) != (x1.length : Int)) false hb1 ?_
    have gx2 := (M.ite_some gx2).2 hb1
    obtain ⟨x3, hx2, gx2⟩ := M.bind_some gx2
    have gx2 := M.ret_some gx2
    refine Zb [.slice arow row.length crow] 8 ?_
    refine Zy (.bool x3) (ZQ 98 #[.slice arow row.length crow] (w_impl_areValues h row arow crow rrow _ _ hx2)) ?_
    refine Zb [.bool (!x3)] 10 ?_
    refine Zv (!x3) x2 gx2 ?_
    exact Zd [15]
  refine Zb [.bool x2] 12 ?_
  exact Zd [3]
 have hF := M.ret_some hF
 subst hF
 exact Run_ret1 rfl (Zt (.bool x2)) ⟨rfl, rfl⟩

theorem w_slices_IndexFunc_row_F_impl_IsMatrix_1 (h : Heap) (s_ : List (List Int)) {Ss_ : Bs} (as_ : Option Addr) (cs_ : Nat) (rs_ : Rd cd24 h Ss_ as_ cs_ s_) (f0 : List (List Int)) {Sf0 : Bs} (af0 : Option Addr) (cf0 : Nat) (rf0 : Rd cd24 h Sf0 af0 cf0 f0) (bf0 : Nat) (vf0 : VarAt h bf0 22 [.slice af0 f0.length cf0]) (n : Nat) (r : Int) (hF : slices_IndexFunc_row_F_impl_IsMatrix_1 s_ f0 n = some r) :
  Fn Tryz.prog 113 #[.slice as_ s_.length cs_, .func (.func 129) #[] #[pV bf0]] h fun v h' => v = iV r ∧ h' = h := by
 unfold slices_IndexFunc_row_F_impl_IsMatrix_1 at hF
 refine Zo [.slice as_ s_.length cs_, .func (.func 129) #[] #[pV bf0]] Tryz.func113 rfl (fun w0 _ => ?_)
 refine Zs ?_
 refine Zq [iV 0] [0, 1] [(0, .slice as_ s_.length cs_), (1, .func (.func 129) #[] #[pV bf0])] ?_
 refine Zs ?_
 refine Zs ?_
 refine Zq [.slice as_ s_.length cs_, iV (s_.length : Int), iV 0] [0, 1, 7, 8] [(0, .slice as_ s_.length cs_), (1, .func (.func 129) #[] #[pV bf0]), (7, iV (s_.length : Int)), (8, iV 0)] ?_
 obtain ⟨x1, gx1, hF⟩ := M.bind_some hF
 obtain ⟨hloy1, hhiy1, gx1⟩ := M.for_start gx1
 refine Run_join (fun L' h' => ∃ (s2 : Unit), x1 = .inl s2 ∧ L' = [] ∧ h = h') ?_ ?_
 ·rintro _ _ ⟨s2, es2, rfl, rfl⟩
  have hF := M.cont_inl' hF es2
  refine Zs ?_
  refine Zq [iV (-1)] [4] [(4, iV (-1))] ?_
  have hF := M.ret_some hF
  subst hF
  exact Run_ret1 rfl (Zt (iV (-1))) ⟨rfl, rfl⟩
 ·refine Run_block ?_
  refine Zk [0, 1, 7, 8] [(0, .slice as_ s_.length cs_), (1, .func (.func 129) #[] #[pV bf0]), (7, iV (s_.length : Int)), (8, iV 0)] ?_
  refine Run_loop (fun m L' h' => ∃ (i1 : Int) (s1 : Unit), 0 ≤ i1 ∧ M.forN (s_.length : Int) _ _ n m i1 s1 = some x1 ∧ L' = [(0, .slice as_ s_.length cs_), (1, .func (.func 129) #[] #[pV bf0]), (7, iV (s_.length : Int)), (8, iV i1)] ∧ h = h') ((s_.length : Int) - 0 : Int).toNat ⟨0, (), Int.le_refl _, gx1, rfl, rfl⟩ ?_
  rintro my1 _ _ ⟨i1, s1, hloy1', gx1, rfl, rfl⟩
  refine Zs ?_
  refine Zq [.bool (decide (i1 < (s_.length : Int)))] [0, 1, 7, 8, 9] [(0, .slice as_ s_.length cs_), (1, .func (.func 129) #[] #[pV bf0]), (7, iV (s_.length : Int)), (8, iV i1), (9, .bool (decide (i1 < (s_.length : Int))))] ?_
  refine Zs ?_
  refine Zc (decide (i1 < (s_.length : Int))) (fun hb1 => ?_) (fun hb1 => ?_)
  ·obtain ⟨my1, y1, rfl, hB1, hgoy1, houty1⟩ := M.for_go gx1 hb1
   have hlty1 := of_decide_eq_true hb1
   refine Run_skip ?_
   refine Zs ?_
   refine Run_block ?_
   refine Zs ?_
   refine Zq [iV i1, iV i1] [0, 1, 5, 7, 8] [(0, .slice as_ s_.length cs_), (1, .func (.func 129) #[] #[pV bf0]), (5, iV i1), (7, iV (s_.length : Int)), (8, iV i1)] ?_
   refine Zs ?_
   obtain ⟨x2, hx1, hB1⟩ := M.bind_some hB1
   obtain ⟨hx1l, hx1u, hx1⟩ := M.idx_some hx1
   obtain ⟨a1, c1, hc1, r1⟩ := rs_.row hx1
   obtain ⟨x3, hx2, hB1⟩ := M.bind_some hB1
   refine Zg 6 [(0, .slice as_ s_.length cs_), (1, .func (.func 129) #[] #[pV bf0]), (5, iV i1), (7, iV (s_.length : Int)), (8, iV i1), (16, .bool x3)] ?_ ?_
   ·refine Zb [.func (.func 129) #[] #[pV bf0], .slice as_ s_.length cs_, iV i1] 0 ?_
    refine Zy (.pointer (some (adr as_ (i1.toNat * 1)))) (Zi 22 24 1 (as_) (s_.length) (cs_) .i64 (i1) Tryz.underlying22 (rs_.cell hx1).1 hx1l hx1u) ?_
    refine Zy (.slice a1 x2.length c1) (Zl 24 (adr as_ (i1.toNat * 1)) (.slice a1 x2.length c1) hc1) ?_
    refine Zy (.bool x3) (ZQ 129 #[.slice a1 x2.length c1, pV bf0] (w_impl_IsMatrix_1 h x2 a1 c1 r1 f0 af0 cf0 rf0 bf0 vf0 _ _ hx2)) ?_
    exact Zd [0, 1, 5, 7, 8, 16]
   refine Zc (x3) (fun hb2 => ?_) (fun hb2 => ?_)
   ·have hB1 := (M.ite_some hB1).1 hb2
    refine Zs ?_
    refine Zq [iV i1, iV i1] [4] [(4, iV i1)] ?_
    have hB1 := M.ret_some hB1
    have gx1 := houty1 _ hB1.symm
    have hF := M.cont_inr' hF gx1
    have hF := M.ret_some hF
    subst hF
    exact Run_ret1 rfl (Zt (iV i1)) ⟨rfl, rfl⟩
   ·have hB1 := (M.ite_some hB1).2 hb2
    refine Run_skip ?_
    refine Run_blk ?_
    refine Zg 2 [(0, .slice as_ s_.length cs_), (1, .func (.func 129) #[] #[pV bf0]), (7, iV (s_.length : Int)), (8, iV (i1 + 1))] ?_ ?_
    ·refine Zy (iV (i1 + 1)) (Y_eq (v := iV (w64 (i1 + 1))) (Y_pure (fun w => by kernel_rfl)) (by rw [w64_eq _ (by omega)])) ?_
     refine Zb [iV (i1 + 1)] 1 ?_
     exact Zd [0, 1, 7, 8]
    have hB1 := M.ret_some hB1
    have gx1 := hgoy1 _ hB1.symm
    exact Za [0, 1, 7, 8] my1 ⟨i1 + 1, (), by omega, gx1, rfl, rfl⟩
  ·have gx1 := M.for_end gx1 hb1
   subst gx1
   refine Run_exit (k' := _) rfl ?_
   exact Zf [] ⟨(), rfl, rfl, rfl⟩

theorem w_slices_ContainsFunc_row_F_impl_IsMatrix_1 (h : Heap) (s_ : List (List Int)) {Ss_ : Bs} (as_ : Option Addr) (cs_ : Nat) (rs_ : Rd cd24 h Ss_ as_ cs_ s_) (f0 : List (List Int)) {Sf0 : Bs} (af0 : Option Addr) (cf0 : Nat) (rf0 : Rd cd24 h Sf0 af0 cf0 f0) (bf0 : Nat) (vf0 : VarAt h bf0 22 [.slice af0 f0.length cf0]) (n : Nat) (r : Bool) (hF : slices_ContainsFunc_row_F_impl_IsMatrix_1 s_ f0 n = some r) :
  Fn Tryz.prog 96 #[.slice as_ s_.length cs_, .func (.func 129) #[] #[pV bf0]] h fun v h' => v = .bool r ∧ h' = h := by
 unfold slices_ContainsFunc_row_F_impl_IsMatrix_1 at hF
 refine Zo [.slice as_ s_.length cs_, .func (.func 129) #[] #[pV bf0]] Tryz.func96 rfl (fun w0 _ => ?_)
 refine Zs ?_
 refine Zq [.bool false] [0, 1] [(0, .slice as_ s_.length cs_), (1, .func (.func 129) #[] #[pV bf0])] ?_
 refine Zs ?_
 obtain ⟨x1, hx1, hF⟩ := M.bind_some hF
 refine Zg 5 [(4, .bool (decide (0 ≤ x1)))] ?_ ?_
 ·refine Zb [.slice as_ s_.length cs_, .func (.func 129) #[] #[pV bf0]] 0 ?_
  refine Zy (iV x1) (ZQ 113 #[.slice as_ s_.length cs_, .func (.func 129) #[] #[pV bf0]] (w_slices_IndexFunc_row_F_impl_IsMatrix_1 h s_ as_ cs_ rs_ f0 af0 cf0 rf0 bf0 vf0 _ _ hx1)) ?_
  refine Zb [.bool (decide (0 ≤ x1)), .bool (decide (0 ≤ x1))] 3 ?_
  exact Zd [4]
 have hF := M.ret_some hF
 subst hF
 exact Run_ret1 rfl (Zt (.bool (decide (0 ≤ x1)))) ⟨rfl, rfl⟩

theorem w_impl_IsMatrix (h : Heap) (a_ : List (List Int)) (aa_ : Option Addr) (ca_ : Nat) (ra_ : Rd cd24 h (Lt h) aa_ ca_ a_) (n : Nat) (r : Bool) (hF : impl_IsMatrix a_ n = some r) :
  Fn Tryz.prog 85 #[.slice aa_ a_.length ca_] h fun v h' => v = .bool r ∧ Hold h h' [] := by
 unfold impl_IsMatrix at hF
 refine Zo [.slice aa_ a_.length ca_] Tryz.func85 rfl (fun w0 _ => ?_)
 have H0 := Hold.init h
 refine Zs ?_
 refine Run_ops ?_
 refine Ze ?_
 refine E_box (ty := 22) (cs := [.slice aa_ a_.length ca_]) H0 (fun w => by kernel_rfl) (fun b1 h1 H1 => ?_)
 refine Zr [.bool false] 1 ?_
 refine Zx ?_
 refine Zk [1] [(1, pV b1)] ?_
 refine Zs ?_
 refine Zs ?_
 obtain ⟨x1, hx1, hF⟩ := M.bind_some hF
 obtain ⟨x2, gx2, hF⟩ := M.bind_some hF
 refine Zg 12 [(1, pV b1), (14, .bool x2)] ?_ ?_
 ·refine Zy (.slice aa_ a_.length ca_) (Zl 22 (⟨b1, 0, none⟩) (.slice aa_ a_.length ca_) (H1.cell 0 rfl rfl)) ?_
  refine Zb [iV (a_.length : Int)] 1 ?_
  refine Zy (.bool x1) (ZQ 128 #[iV (a_.length : Int), iV 1, iV 10] (w_impl_within h1 (a_.length : Int) 1 10 _ _ hx1)) ?_
  refine Zb [.bool (!x1)] 3 ?_
  refine QRun_seq 12 [(1, pV b1), (14, .bool x2)] ?_ ?_
  ·rcases Bool.eq_false_or_eq_true (!x1) with hb1 | hb1
   ·refine Zv (!x1) true hb1 ?_
    have gx2 := M.ret_some ((M.ite_some gx2).1 hb1)
    refine Zn ?_
    refine Zn ?_
    refine Zn ?_
    refine Zn ?_
    refine Zn ?_
    refine Zn ?_
    refine Zv true x2 gx2 ?_
    exact Zd [1, 14]
   ·refine Zv (!x1) false hb1 ?_
    have gx2 := (M.ite_some gx2).2 hb1
    obtain ⟨x3, hx2, gx2⟩ := M.bind_some gx2
    obtain ⟨hx2l, hx2u, hx2⟩ := M.idx_some hx2
    obtain ⟨a1, c1, hc1, r1⟩ := ra_.row hx2
    obtain ⟨x4, hx3, gx2⟩ := M.bind_some gx2
    have gx2 := M.ret_some gx2
    refine Zy (.slice aa_ a_.length ca_) (Zl 22 (⟨b1, 0, none⟩) (.slice aa_ a_.length ca_) (H1.cell 0 rfl rfl)) ?_
    refine Zy (.pointer (some (adr aa_ (0 * 1)))) (Zi 22 24 1 (aa_) (a_.length) (ca_) .i64 (0) Tryz.underlying22 ((ra_.at H1.ext).cell hx2).1 hx2l hx2u) ?_
    refine Zy (.slice a1 x3.length c1) (Zl 24 (adr aa_ (0 * 1)) (.slice a1 x3.length c1) (cell_at H1.ext hc1)) ?_
    refine Zb [iV (x3.length : Int)] 8 ?_
    refine Zy (.bool x4) (ZQ 128 #[iV (x3.length : Int), iV 1, iV 10] (w_impl_within h1 (x3.length : Int) 1 10 _ _ hx3)) ?_
    refine Zb [.bool (!x4)] 10 ?_
    refine Zv (!x4) x2 gx2 ?_
    exact Zd [1, 14]
  exact Zd [1, 14]
 refine Zc (x2) (fun hb2 => ?_) (fun hb2 => ?_)
 ·have hF := (M.ite_some hF).1 hb2
  refine Zs ?_
  refine Zq [.bool false] [2] [(2, .bool false)] ?_
  have hF := M.ret_some hF
  subst hF
  have H2 : Hold h h1 [] := H1.pk []
  exact Run_ret1 rfl (Zt (.bool false)) ⟨rfl, H2⟩
 ·have hF := (M.ite_some hF).2 hb2
  refine Run_skip ?_
  refine Zs ?_
  obtain ⟨x5, hx4, hF⟩ := M.bind_some hF
  refine Zg 5 [(2, .bool (!x5))] ?_ ?_
  ·refine Zy (.slice aa_ a_.length ca_) (Zl 22 (⟨b1, 0, none⟩) (.slice aa_ a_.length ca_) (H1.cell 0 rfl rfl)) ?_
   refine Zb [.func (.func 129) #[] #[pV b1]] 1 ?_
   refine Zy (.bool x5) (ZQ 96 #[.slice aa_ a_.length ca_, .func (.func 129) #[] #[pV b1]] (w_slices_ContainsFunc_row_F_impl_IsMatrix_1 h1 a_ aa_ ca_ (ra_.at H1.ext) a_ aa_ ca_ (ra_.at H1.ext) b1 (H1.var 0 rfl) _ _ hx4)) ?_
   refine Zb [.bool (!x5), .bool (!x5)] 3 ?_
   exact Zd [2]
  have hF := M.ret_some hF
  subst hF
  have H3 : Hold h h1 [] := H1.pk []
  exact Run_ret1 rfl (Zt (.bool (!x5))) ⟨rfl, H3⟩

theorem w_impl_isSquare (h : Heap) (a_ : List (List Int)) (aa_ : Option Addr) (ca_ : Nat) (ra_ : Rd cd24 h (Lt h) aa_ ca_ a_) (n : Nat) (r : Bool) (hF : impl_isSquare a_ n = some r) :
  Fn Tryz.prog 50 #[.slice aa_ a_.length ca_] h fun v h' => v = .bool r ∧ Hold h h' [] := by
 unfold impl_isSquare at hF
 refine Zo [.slice aa_ a_.length ca_] Tryz.func50 rfl (fun w0 _ => ?_)
 have H0 := Hold.init h
 refine Zs ?_
 refine Zq [.bool false] [0] [(0, .slice aa_ a_.length ca_)] ?_
 refine Zs ?_
 obtain ⟨x1, hx1, hF⟩ := M.bind_some hF
 obtain ⟨x2, gx2, hF⟩ := M.bind_some hF
 refine Run_regC (j := 12) (C := fun x => Hold h x []) (by kernel_rfl) H0 (L' := [(2, .bool x2)]) ?_ (fun h1 H1 => ?_)
 ·refine Zb [.slice aa_ a_.length ca_] 0 ?_
  refine Zy (.bool x1) (Y_call (f := 85) (args := #[.slice aa_ a_.length ca_]) (v := .bool x1) (by kernel_rfl) fun hx Hx => (w_impl_IsMatrix hx a_ aa_ ca_ (ra_.at Hx.ext) _ _ hx1).mono fun _ _ ⟨e, H'⟩ => ⟨e, Hx.call H' rfl⟩) ?_
  refine QRun_seq 11 [(13, .bool x2)] ?_ ?_
  ·rcases Bool.eq_false_or_eq_true x1 with hb1 | hb1
   ·refine Zv x1 true hb1 ?_
    have gx2 := (M.ite_some gx2).1 hb1
    obtain ⟨x3, hx2, gx2⟩ := M.bind_some gx2
    obtain ⟨hx2l, hx2u, hx2⟩ := M.idx_some hx2
    obtain ⟨a1, c1, hc1, r1⟩ := ra_.row hx2
    have gx2 := M.ret_some gx2
    refine Zb [.slice aa_ a_.length ca_, iV (a_.length : Int), .slice aa_ a_.length ca_] 3 ?_
    refine Zy (.pointer (some (adr aa_ (0 * 1)))) (Y_cls fun hx Hx => (Zi 22 24 1 (aa_) (a_.length) (ca_) .i64 (0) Tryz.underlying22 (ra_.cell hx2).1 hx2l hx2u)) ?_
    refine Zy (.slice a1 x3.length c1) (Y_cls fun hx Hx => (Zl 24 (adr aa_ (0 * 1)) (.slice a1 x3.length c1) (cell_at Hx.ext hc1))) ?_
    refine Zb [iV (x3.length : Int), .bool ((a_.length : Int) == (x3.length : Int))] 8 ?_
    refine Zv ((a_.length : Int) == (x3.length : Int)) x2 gx2 ?_
    exact Zd [13]
   ·refine Zv x1 false hb1 ?_
    have gx2 := M.ret_some ((M.ite_some gx2).2 hb1)
    refine Zn ?_
    refine Zn ?_
    refine Zn ?_
    refine Zn ?_
    refine Zn ?_
    refine Zn ?_
    refine Zn ?_
    refine Zv false x2 gx2 ?_
    exact Zd [13]
  refine Zb [.bool x2] 11 ?_
  exact Zd [2]
 have H2 : Hold h h1 [] := H1
 have hF := M.ret_some hF
 subst hF
 exact Run_ret1 rfl (Zt (.bool x2)) ⟨rfl, H2⟩

theorem w_impl_times (h : Heap) (a_ : Int) (b : Int) (n : Nat) (r : Int) (hF : impl_times a_ b n = some r) :
  Fn Tryz.prog 67 #[iV a_, iV b] h fun v h' => v = iV r ∧ h' = h := by
 unfold impl_times at hF
 refine Zo [iV a_, iV b] Tryz.func67 rfl (fun w0 _ => ?_)
 refine Zs ?_
 refine Zq [iV 0] [0, 1] [(0, iV a_), (1, iV b)] ?_
 refine Zs ?_
 refine Zs ?_
 refine Zg 6 [(0, iV a_), (1, iV b), (10, .bool ((a_ == (-1000000000000000)) || (b == (-1000000000000000))))] ?_ ?_
 ·refine Zb [iV a_, .bool (a_ == (-1000000000000000))] 0 ?_
  refine QRun_seq 6 [(0, iV a_), (1, iV b), (10, .bool ((a_ == (-1000000000000000)) || (b == (-1000000000000000))))] ?_ ?_
  ·rcases Bool.eq_false_or_eq_true (a_ == (-1000000000000000)) with hb1 | hb1
   ·refine Zv (a_ == (-1000000000000000)) true hb1 ?_
    refine Zn ?_
    refine Zn ?_
    refine QRun_bool true ((a_ == (-1000000000000000)) || (b == (-1000000000000000))) (by kernel_rfl) (fun w => by kernel_rfl) (by rw [hb1]; rfl) ?_
    exact Zd [0, 1, 10]
   ·refine Zv (a_ == (-1000000000000000)) false hb1 ?_
    refine Zb [iV b, .bool (b == (-1000000000000000))] 3 ?_
    refine QRun_bool (b == (-1000000000000000)) ((a_ == (-1000000000000000)) || (b == (-1000000000000000))) (by kernel_rfl) (fun w => by kernel_rfl) (by rw [hb1]; rfl) ?_
    exact Zd [0, 1, 10]
  exact Zd [0, 1, 10]
 refine Zc ((a_ == (-1000000000000000)) || (b == (-1000000000000000))) (fun hb2 => ?_) (fun hb2 => ?_)
 ·have hF := (M.ite_some hF).1 hb2
  refine Zs ?_
  refine Zq [iV (-1000000000000000)] [4] [(4, iV (-1000000000000000))] ?_
  have hF := M.ret_some hF
  subst hF
  exact Run_ret1 rfl (Zt (iV (-1000000000000000))) ⟨rfl, rfl⟩
 ·have hF := (M.ite_some hF).2 hb2
  refine Run_skip ?_
  refine Zs ?_
  refine Zq [iV a_, iV b, iV (w64 (a_ + b)), iV (w64 (a_ + b))] [4] [(4, iV (w64 (a_ + b)))] ?_
  have hF := M.ret_some hF
  subst hF
  exact Run_ret1 rfl (Zt (iV (w64 (a_ + b)))) ⟨rfl, rfl⟩

theorem w_impl_timesVector (h : Heap) (a_ : List (List Int)) (aa_ : Option Addr) (ca_ : Nat) (ra_ : Rd cd24 h (Lt h) aa_ ca_ a_) (x_ : List Int) (ax_ : Option Addr) (cx_ : Nat) (rx_ : Rd cd2 h (Lt h) ax_ cx_ x_) (n : Nat) (r : (List Int)) (hF : impl_timesVector a_ x_ n = some r) :
  Fn Tryz.prog 65 #[.slice aa_ a_.length ca_, .slice ax_ x_.length cx_] h fun v h' => ∃ (a0 : Option Addr) (c0 : Nat), v = .slice a0 r.length c0 ∧ Hold h h' [own cd2 a0 r.length c0 r] := by
 unfold impl_timesVector at hF
 refine Zo [.slice aa_ a_.length ca_, .slice ax_ x_.length cx_] Tryz.func65 rfl (fun w0 _ => ?_)
 have H0 := Hold.init h
 refine Zs ?_
 refine Zq [.slice none 0 0] [0, 1] [(0, .slice aa_ a_.length ca_), (1, .slice ax_ x_.length cx_)] ?_
 refine Zs ?_
 refine Run_ops ?_
 refine Zr [.slice aa_ a_.length ca_, iV (a_.length : Int)] 0 ?_
 obtain ⟨l1, hl1, hF⟩ := M.bind_some hF
 have hl1 := M.make_some hl1
 refine Ze ?_
 refine E_make cd2 0 (kl := .i64) (kc := .i64) H0 cd2_ti Tryz.underlying24 (by decide) cd2_zero (by kernel_rfl) hl1 (fun a1 h1 H1 => ?_)
 refine Zr [.slice a1 l1.length l1.length] 3 ?_
 refine Zx ?_
 refine Zk [0, 1, 5] [(0, .slice aa_ a_.length ca_), (1, .slice ax_ x_.length cx_), (5, .slice a1 l1.length l1.length)] ?_
 refine Zs ?_
 refine Zs ?_
 refine Zq [.slice aa_ a_.length ca_, iV (a_.length : Int), iV 0] [1, 5, 13, 14, 15] [(1, .slice ax_ x_.length cx_), (5, .slice a1 l1.length l1.length), (13, .slice aa_ a_.length ca_), (14, iV (a_.length : Int)), (15, iV 0)] ?_
 obtain ⟨x1, gx1, hF⟩ := M.bind_some hF
 obtain ⟨hloy1, hhiy1, gx1⟩ := M.for_start gx1
 refine Run_join (fun L' h' => L' = [(5, .slice a1 l1.length l1.length)] ∧ Hold h h' [own cd2 a1 l1.length l1.length x1]) ?_ ?_
 ·rintro _ h3 ⟨rfl, H3⟩
  refine Zs ?_
  refine Zq [.slice a1 l1.length l1.length, .slice a1 l1.length l1.length] [4] [(4, .slice a1 l1.length l1.length)] ?_
  have hF := M.ret_some hF
  subst hF
  have H10 := H3.norm
  exact Run_ret1 rfl (Zt (.slice a1 l1.length l1.length)) ⟨a1, l1.length, (by simp only [(H3.len 0 rfl)]), H10⟩
 ·refine Run_block ?_
  refine Zk [1, 5, 13, 14, 15] [(1, .slice ax_ x_.length cx_), (5, .slice a1 l1.length l1.length), (13, .slice aa_ a_.length ca_), (14, iV (a_.length : Int)), (15, iV 0)] ?_
  refine Run_loop (fun m L' h' => ∃ (i1 : Int) (s1 : (List Int)), 0 ≤ i1 ∧ M.forN (a_.length : Int) _ _ n m i1 s1 = some x1 ∧ L' = [(1, .slice ax_ x_.length cx_), (5, .slice a1 l1.length l1.length), (13, .slice aa_ a_.length ca_), (14, iV (a_.length : Int)), (15, iV i1)] ∧ Hold h h' [own cd2 a1 l1.length l1.length s1]) ((a_.length : Int) - 0 : Int).toNat ⟨0, l1, Int.le_refl _, gx1, rfl, H1⟩ ?_
  rintro my1 _ h2 ⟨i1, s1, hloy1', gx1, rfl, H2⟩
  refine Zs ?_
  refine Zq [.bool (decide (i1 < (a_.length : Int)))] [1, 5, 13, 14, 15, 16] [(1, .slice ax_ x_.length cx_), (5, .slice a1 l1.length l1.length), (13, .slice aa_ a_.length ca_), (14, iV (a_.length : Int)), (15, iV i1), (16, .bool (decide (i1 < (a_.length : Int))))] ?_
  refine Zs ?_
  refine Zc (decide (i1 < (a_.length : Int))) (fun hb1 => ?_) (fun hb1 => ?_)
  ·obtain ⟨my1, y1, rfl, hB1, hgoy1, houty1⟩ := M.for_go gx1 hb1
   have hlty1 := of_decide_eq_true hb1
   refine Run_skip ?_
   refine Zs ?_
   refine Run_block ?_
   refine Zs ?_
   obtain ⟨x2, hx1, hB1⟩ := M.bind_some hB1
   obtain ⟨hx1l, hx1u, hx1⟩ := M.idx_some hx1
   obtain ⟨a2, c1, hc1, r1⟩ := ra_.row hx1
   refine Zg 5 [(1, .slice ax_ x_.length cx_), (5, .slice a1 l1.length l1.length), (6, iV i1), (7, .slice a2 x2.length c1), (13, .slice aa_ a_.length ca_), (14, iV (a_.length : Int)), (15, iV i1)] ?_ ?_
   ·refine Zb [iV i1] 0 ?_
    refine Zy (.pointer (some (adr aa_ (i1.toNat * 1)))) (Zi 22 24 1 (aa_) (a_.length) (ca_) .i64 (i1) Tryz.underlying22 ((ra_.at H2.ext).cell hx1).1 hx1l hx1u) ?_
    refine Zy (.slice a2 x2.length c1) (Zl 24 (adr aa_ (i1.toNat * 1)) (.slice a2 x2.length c1) (cell_at H2.ext hc1)) ?_
    refine Zb [iV i1, .slice a2 x2.length c1] 3 ?_
    exact Zd [1, 5, 6, 7, 13, 14, 15]
   refine Zs ?_
   refine Run_ops ?_
   obtain ⟨x3, hx2, hB1⟩ := M.bind_some hB1
   obtain ⟨hx2l, hx2u, hx2⟩ := M.idx_some hx2
   refine Zr [.slice a1 l1.length l1.length, iV i1] 0 ?_
   refine Zz (.pointer (some (adr a1 (i1.toNat * 1)))) (Zi 24 2 1 (a1) (l1.length) (l1.length) .i64 (i1) Tryz.underlying24 ((H2.rd 0 rfl).cell hx2).1 hx2l (by rw [← (H2.len 0 rfl)]; exact hx2u)) ?_
   obtain ⟨l2, hu1, hB1⟩ := M.bind_some hB1
   have hu1 := M.upd_some hu1
   refine Ze ?_
   refine E_put (C := cd2) (t := 2) (sz := 1) (j := i1) (x := (-1000000000000000)) (v := iV (-1000000000000000)) H2 cd2_flat (by kernel_rfl) rfl (cd2_own _) (by kernel_rfl) hu1 (fun h4 H4 => ?_)
   refine Zx ?_
   refine Zk [1, 5, 6, 7, 13, 14, 15] [(1, .slice ax_ x_.length cx_), (5, .slice a1 l1.length l1.length), (6, iV i1), (7, .slice a2 x2.length c1), (13, .slice aa_ a_.length ca_), (14, iV (a_.length : Int)), (15, iV i1)] ?_
   refine Zs ?_
   refine Zq [.slice a2 x2.length c1, iV (x2.length : Int), iV 0] [1, 5, 6, 13, 14, 15, 23, 24, 25] [(1, .slice ax_ x_.length cx_), (5, .slice a1 l1.length l1.length), (6, iV i1), (13, .slice aa_ a_.length ca_), (14, iV (a_.length : Int)), (15, iV i1), (23, .slice a2 x2.length c1), (24, iV (x2.length : Int)), (25, iV 0)] ?_
   obtain ⟨x4, gx4, hB1⟩ := M.bind_some hB1
   obtain ⟨hloy2, hhiy2, gx4⟩ := M.for_start gx4
   refine Run_join (fun L' h' => L' = [(1, .slice ax_ x_.length cx_), (5, .slice a1 l1.length l1.length), (13, .slice aa_ a_.length ca_), (14, iV (a_.length : Int)), (15, iV i1)] ∧ Hold h h' [own cd2 a1 l1.length l1.length x4]) ?_ ?_
   ·rintro _ h6 ⟨rfl, H6⟩
    refine Run_blk ?_
    refine Zg 2 [(1, .slice ax_ x_.length cx_), (5, .slice a1 l1.length l1.length), (13, .slice aa_ a_.length ca_), (14, iV (a_.length : Int)), (15, iV (i1 + 1))] ?_ ?_
    ·refine Zy (iV (i1 + 1)) (Y_eq (v := iV (w64 (i1 + 1))) (Y_pure (fun w => by kernel_rfl)) (by rw [w64_eq _ (by omega)])) ?_
     refine Zb [iV (i1 + 1)] 1 ?_
     exact Zd [1, 5, 13, 14, 15]
    have hB1 := M.ret_some hB1
    have gx1 := hgoy1 _ hB1.symm
    exact Za [1, 5, 13, 14, 15] my1 ⟨i1 + 1, x4, by omega, gx1, rfl, H6⟩
   ·refine Run_block ?_
    refine Zk [1, 5, 6, 13, 14, 15, 23, 24, 25] [(1, .slice ax_ x_.length cx_), (5, .slice a1 l1.length l1.length), (6, iV i1), (13, .slice aa_ a_.length ca_), (14, iV (a_.length : Int)), (15, iV i1), (23, .slice a2 x2.length c1), (24, iV (x2.length : Int)), (25, iV 0)] ?_
    refine Run_loop (fun m L' h' => ∃ (i2 : Int) (s2 : (List Int)), 0 ≤ i2 ∧ M.forN (x2.length : Int) _ _ n m i2 s2 = some x4 ∧ L' = [(1, .slice ax_ x_.length cx_), (5, .slice a1 l1.length l1.length), (6, iV i1), (13, .slice aa_ a_.length ca_), (14, iV (a_.length : Int)), (15, iV i1), (23, .slice a2 x2.length c1), (24, iV (x2.length : Int)), (25, iV i2)] ∧ Hold h h' [own cd2 a1 l1.length l1.length s2]) ((x2.length : Int) - 0 : Int).toNat ⟨0, l2, Int.le_refl _, gx4, rfl, H4⟩ ?_
    rintro my2 _ h5 ⟨i2, s2, hloy2', gx4, rfl, H5⟩
    refine Zs ?_
    refine Zq [.bool (decide (i2 < (x2.length : Int)))] [1, 5, 6, 13, 14, 15, 23, 24, 25, 26] [(1, .slice ax_ x_.length cx_), (5, .slice a1 l1.length l1.length), (6, iV i1), (13, .slice aa_ a_.length ca_), (14, iV (a_.length : Int)), (15, iV i1), (23, .slice a2 x2.length c1), (24, iV (x2.length : Int)), (25, iV i2), (26, .bool (decide (i2 < (x2.length : Int))))] ?_
    refine Zs ?_
    refine Zc (decide (i2 < (x2.length : Int))) (fun hb2 => ?_) (fun hb2 => ?_)
    ·obtain ⟨my2, y2, rfl, hB2, hgoy2, houty2⟩ := M.for_go gx4 hb2
     have hlty2 := of_decide_eq_true hb2
     refine Run_skip ?_
     refine Zs ?_
     refine Run_block ?_
     refine Zs ?_
     obtain ⟨x5, hx3, hB2⟩ := M.bind_some hB2
     obtain ⟨hx3l, hx3u, hx3⟩ := M.idx_some hx3
     refine Zg 5 [(1, .slice ax_ x_.length cx_), (5, .slice a1 l1.length l1.length), (6, iV i1), (8, iV i2), (9, iV x5), (13, .slice aa_ a_.length ca_), (14, iV (a_.length : Int)), (15, iV i1), (23, .slice a2 x2.length c1), (24, iV (x2.length : Int)), (25, iV i2)] ?_ ?_
     ·refine Zb [iV i2] 0 ?_
      refine Zy (.pointer (some (adr a2 (i2.toNat * 1)))) (Zi 24 2 1 (a2) (x2.length) (c1) .i64 (i2) Tryz.underlying24 ((r1.at H5.ext).cell hx3).1 hx3l hx3u) ?_
      refine Zy (iV x5) (Zl 2 (adr a2 (i2.toNat * 1)) (iV x5) (cd2_cell (r1.at H5.ext) hx3)) ?_
      refine Zb [iV i2, iV x5] 3 ?_
      exact Zd [1, 5, 6, 8, 9, 13, 14, 15, 23, 24, 25]
     obtain ⟨x6, hx4, hB2⟩ := M.bind_some hB2
     obtain ⟨hx4l, hx4u, hx4⟩ := M.idx_some hx4
     obtain ⟨x7, hx5, hB2⟩ := M.bind_some hB2
     obtain ⟨hx5l, hx5u, hx5⟩ := M.idx_some hx5
     obtain ⟨x8, hx6, hB2⟩ := M.bind_some hB2
     obtain ⟨x9, hx7, hB2⟩ := M.bind_some hB2
     obtain ⟨hx7l, hx7u, hx7⟩ := M.idx_some hx7
     refine Run_D (fun x => Hold h x [own cd2 a1 l1.length l1.length s2]) (fun x => Hold h x [own cd2 a1 l1.length l1.length s2]) mixed (by kernel_rfl) H5 Hold.stable (fun x Hy => (show Hold h x [own cd2 a1 l1.length l1.length s2] from Hy).pk [0]) ?_
     refine ZB 11 [.slice a1 l1.length l1.length, iV i1, .slice a1 l1.length l1.length, iV i1] 0 ?_
     refine ZY 10 4 (.pointer (some (adr a1 (i1.toNat * 1)))) (fun hx Hx => (YE.of (Zi 24 2 1 (a1) (l1.length) (l1.length) .i64 (i1) Tryz.underlying24 ((H5.rd 0 rfl).cell hx4).1 hx4l (by rw [← (H5.len 0 rfl)]; exact hx4u)))) ?_
     refine ZY 9 5 (iV x6) (fun hx Hx => (YE.of (Zl 2 (adr a1 (i1.toNat * 1)) (iV x6) (cd2_cell (Hx.rd 0 rfl) hx4)))) ?_
     refine ZB 6 [iV x5, .slice ax_ x_.length cx_, iV i2] 6 ?_
     refine ZY 5 9 (.pointer (some (adr ax_ (i2.toNat * 1)))) (fun hx Hx => (YE.of (Zi 24 2 1 (ax_) (x_.length) (cx_) .i64 (i2) Tryz.underlying24 ((rx_.at H5.ext).cell hx5).1 hx5l hx5u))) ?_
     refine ZY 4 10 (iV x7) (fun hx Hx => (YE.of (Zl 2 (adr ax_ (i2.toNat * 1)) (iV x7) (cd2_cell (rx_.at Hx.ext) hx5)))) ?_
     refine ZY 3 11 (iV x8) (fun hx Hx => (YE.of (ZQ 67 #[iV x5, iV x7] (w_impl_times hx x5 x7 _ _ hx6)))) ?_
     refine ZB 2 [iV (mx x6 x8)] 12 ?_
     refine ZY 1 13 (.pointer (some (adr a1 (i1.toNat * 1)))) (fun hx Hx => (YE.of (Zi 24 2 1 (a1) (l1.length) (l1.length) .i64 (i1) Tryz.underlying24 ((H5.rd 0 rfl).cell hx7).1 hx7l (by rw [← (H5.len 0 rfl)]; exact hx7u)))) ?_
     refine ZT 14 (fun h7 H7 => ?_)
     have H8 : Hold h h7 [own cd2 a1 l1.length l1.length s2] := H7
     obtain ⟨l3, hu2, hB2⟩ := M.bind_some hB2
     have hu2 := M.upd_some hu2
     refine Ze ?_
     refine E_put (C := cd2) (t := 2) (sz := 1) (j := i1) (x := (mx x6 x8)) (v := iV (mx x6 x8)) H8 cd2_flat (by kernel_rfl) rfl (cd2_own _) (by kernel_rfl) hu2 (fun h8 H9 => ?_)
     refine Zx ?_
     refine Zk [1, 5, 6, 13, 14, 15, 23, 24, 25] [(1, .slice ax_ x_.length cx_), (5, .slice a1 l1.length l1.length), (6, iV i1), (13, .slice aa_ a_.length ca_), (14, iV (a_.length : Int)), (15, iV i1), (23, .slice a2 x2.length c1), (24, iV (x2.length : Int)), (25, iV i2)] ?_
     refine Run_blk ?_
     refine Zg 2 [(1, .slice ax_ x_.length cx_), (5, .slice a1 l1.length l1.length), (6, iV i1), (13, .slice aa_ a_.length ca_), (14, iV (a_.length : Int)), (15, iV i1), (23, .slice a2 x2.length c1), (24, iV (x2.length : Int)), (25, iV (i2 + 1))] ?_ ?_
     ·refine Zy (iV (i2 + 1)) (Y_eq (v := iV (w64 (i2 + 1))) (Y_pure (fun w => by kernel_rfl)) (by rw [w64_eq _ (by omega)])) ?_
      refine Zb [iV (i2 + 1)] 1 ?_
      exact Zd [1, 5, 6, 13, 14, 15, 23, 24, 25]
     have hB2 := M.ret_some hB2
     have gx4 := hgoy2 _ hB2.symm
     exact Za [1, 5, 6, 13, 14, 15, 23, 24, 25] my2 ⟨i2 + 1, l3, by omega, gx4, rfl, H9⟩
    ·have gx4 := M.for_end gx4 hb2
     subst gx4
     refine Run_exit (k' := _) rfl ?_
     exact Zf [1, 5, 13, 14, 15] ⟨rfl, H5⟩
  ·have gx1 := M.for_end gx1 hb1
   subst gx1
   refine Run_exit (k' := _) rfl ?_
   exact Zf [5] ⟨rfl, H2⟩

theorem w_impl_absOf (h : Heap) (n_ : Int) (n : Nat) (r : Int) (hF : impl_absOf n_ n = some r) :
  Fn Tryz.prog 90 #[iV n_] h fun v h' => v = iV r ∧ h' = h := by
 unfold impl_absOf at hF
 refine Zo [iV n_] Tryz.func90 rfl (fun w0 _ => ?_)
 refine Zs ?_
 refine Zq [iV 0] [0] [(0, iV n_)] ?_
 refine Zs ?_
 refine Zs ?_
 refine Zq [iV n_, .bool (decide (n_ < 0))] [0, 4] [(0, iV n_), (4, .bool (decide (n_ < 0)))] ?_
 refine Zc (decide (n_ < 0)) (fun hb1 => ?_) (fun hb1 => ?_)
 ·have hF := (M.ite_some hF).1 hb1
  refine Zs ?_
  refine Zq [iV n_, iV (w64 (0 - n_)), iV (w64 (0 - n_))] [2] [(2, iV (w64 (0 - n_)))] ?_
  have hF := M.ret_some hF
  subst hF
  exact Run_ret1 rfl (Zt (iV (w64 (0 - n_)))) ⟨rfl, rfl⟩
 ·have hF := (M.ite_some hF).2 hb1
  refine Run_skip ?_
  refine Zs ?_
  refine Zq [iV n_, iV n_] [2] [(2, iV n_)] ?_
  have hF := M.ret_some hF
  subst hF
  exact Run_ret1 rfl (Zt (iV n_)) ⟨rfl, rfl⟩

theorem w_impl_divisorOf (h : Heap) (a_ : Int) (b : Int) (n : Nat) (r : Int) (hF : impl_divisorOf a_ b n = some r) :
  Fn Tryz.prog 89 #[iV a_, iV b] h fun v h' => v = iV r ∧ h' = h := by
 unfold impl_divisorOf at hF
 refine Zo [iV a_, iV b] Tryz.func89 rfl (fun w0 _ => ?_)
 refine Zs ?_
 refine Zq [iV 0] [0, 1] [(0, iV a_), (1, iV b)] ?_
 refine Zs ?_
 obtain ⟨x1, gx1, hF⟩ := M.bind_some hF
 refine Run_join (fun L' h' => L' = [(0, iV x1.1)] ∧ h = h') ?_ ?_
 ·rintro _ _ ⟨rfl, rfl⟩
  refine Zs ?_
  refine Zq [iV x1.1, iV x1.1] [4] [(4, iV x1.1)] ?_
  have hF := M.ret_some hF
  subst hF
  exact Run_ret1 rfl (Zt (iV x1.1)) ⟨rfl, rfl⟩
 ·refine Run_block ?_
  refine Zk [0, 1] [(0, iV a_), (1, iV b)] ?_
  refine Run_loop (fun m L' h' => ∃ (s1 : Int × Int), M.loopN _ n m s1 = some x1 ∧ L' = [(0, iV s1.1), (1, iV s1.2)] ∧ h = h') n ⟨(a_, b), gx1, rfl, rfl⟩ ?_
  rintro my1 _ _ ⟨s1, gx1, rfl, rfl⟩
  obtain ⟨my1, y1, rfl, hB1, hgoy1, houty1⟩ := M.loop_some gx1
  refine Zs ?_
  refine Zs ?_
  refine Zq [iV s1.2, .bool (decide (0 < s1.2))] [0, 1, 6] [(0, iV s1.1), (1, iV s1.2), (6, .bool (decide (0 < s1.2)))] ?_
  refine Zc (decide (0 < s1.2)) (fun hb1 => ?_) (fun hb1 => ?_)
  ·have hB1 := (M.ite_some hB1).1 hb1
   refine Run_skip ?_
   refine Run_block ?_
   obtain ⟨u1, hz1, hB1⟩ := M.bind_some hB1
   have hz1 := M.guard_some hz1
   refine Run_draw 6 mixed (by kernel_rfl) (by kernel_rfl) (L' := [(0, iV s1.2), (1, iV (s1.1.tmod s1.2))]) ?_ ?_
   ·refine Zb [iV s1.2, iV s1.1, iV s1.2] 0 ?_
    refine Zy (iV (s1.1.tmod s1.2)) (Y_rem (op := .rem) (k := .i64) (x := s1.1) (y := s1.2) (by kernel_rfl) hz1) ?_
    refine Zb [iV s1.2, iV (s1.1.tmod s1.2)] 4 ?_
    exact Zd [0, 1]
   refine Run_blk ?_
   have hB1 := M.ret_some hB1
   have gx1 := hgoy1 _ hB1.symm
   exact Za [0, 1] my1 ⟨(s1.2, (s1.1.tmod s1.2)), gx1, rfl, rfl⟩
  ·have hB1 := (M.ite_some hB1).2 hb1
   refine Run_exit (k' := _) rfl ?_
   have hB1 := M.ret_some hB1
   have gx1 := houty1 _ hB1.symm
   subst gx1
   exact Zf [0] ⟨rfl, rfl⟩

theorem w_impl_ratioOf (h : Heap) (num : Int) (den : Int) (n : Nat) (r : TRatio) (hF : impl_ratioOf num den n = some r) :
  Fn Tryz.prog 53 #[iV num, iV den] h fun v h' => v = .agg #[iV r.Num, iV r.Den] ∧ Hold h h' [] := by
 unfold impl_ratioOf at hF
 refine Zo [iV num, iV den] Tryz.func53 rfl (fun w0 _ => ?_)
 have H0 := Hold.init h
 refine Zs ?_
 refine Run_ops ?_
 refine Ze ?_
 refine E_box (ty := 44) (cs := [iV 0, iV 0]) H0 (fun w => by kernel_rfl) (fun b1 h1 H1 => ?_)
 refine Zx ?_
 refine Zk [0, 1, 4] [(0, iV num), (1, iV den), (4, pV b1)] ?_
 refine Zs ?_
 refine Zs ?_
 refine Zq [iV den, .bool (decide (den < 0))] [0, 1, 4, 7] [(0, iV num), (1, iV den), (4, pV b1), (7, .bool (decide (den < 0)))] ?_
 obtain ⟨s1, gs1, hF⟩ := M.bind_some hF
 refine Run_join (fun L' h' => L' = [(0, iV s1.1), (1, iV s1.2), (4, pV b1)] ∧ Hold h h' [box b1 44 [iV 0, iV 0]]) ?_ ?_
 ·rintro _ h2 ⟨rfl, H2⟩
  refine Zs ?_
  obtain ⟨x1, hx1, hF⟩ := M.bind_some hF
  obtain ⟨x2, hx2, hF⟩ := M.bind_some hF
  refine Zg 5 [(0, iV s1.1), (1, iV s1.2), (4, pV b1), (5, iV x2)] ?_ ?_
  ·refine Zb [iV s1.1] 0 ?_
   refine Zy (iV x1) (ZQ 90 #[iV s1.1] (w_impl_absOf h2 s1.1 _ _ hx1)) ?_
   refine Zb [iV s1.2] 2 ?_
   refine Zy (iV x2) (ZQ 89 #[iV x1, iV s1.2] (w_impl_divisorOf h2 x1 s1.2 _ _ hx2)) ?_
   refine Zb [iV x2] 4 ?_
   exact Zd [0, 1, 4, 5]
  refine Zs ?_
  obtain ⟨u1, hz1, hF⟩ := M.bind_some hF
  have hz1 := M.guard_some hz1
  obtain ⟨u2, hz2, hF⟩ := M.bind_some hF
  have hz2 := M.guard_some hz2
  refine Run_D (fun x => Hold h x [box b1 44 [iV 0, iV 0]]) (fun x => Hold h x [box b1 44 [iV 0, iV 0]]) mixed (by kernel_rfl) H2 Hold.stable (fun x Hy => (show Hold h x [box b1 44 [iV 0, iV 0]] from Hy).pk [0]) ?_
  refine ZB 6 [iV s1.1, iV x2] 0 ?_
  refine ZY 5 2 (iV (w64 (s1.1.tdiv x2))) (fun hx Hx => (YE.of (Y_quo (op := .quo) (k := .i64) (x := s1.1) (y := x2) (by kernel_rfl) hz1))) ?_
  refine ZB 3 [iV s1.2, iV x2] 3 ?_
  refine ZY 2 5 (iV (w64 (s1.2.tdiv x2))) (fun hx Hx => (YE.of (Y_quo (op := .quo) (k := .i64) (x := s1.2) (y := x2) (by kernel_rfl) hz2))) ?_
  refine ZB 1 [.agg #[iV (w64 (s1.1.tdiv x2)), iV (w64 (s1.2.tdiv x2))]] 6 ?_
  refine ZT 7 (fun h3 H3 => ?_)
  have H4 : Hold h h3 [box b1 44 [iV 0, iV 0]] := H3
  refine Ze ?_
  refine ZP 44 0 [iV (w64 (s1.1.tdiv x2)), iV (w64 (s1.2.tdiv x2))] (.agg #[iV (w64 (s1.1.tdiv x2)), iV (w64 (s1.2.tdiv x2))]) H4 (fun h4 H5 => ?_)
  refine Zx ?_
  refine Zk [4] [(4, pV b1)] ?_
  have hF := M.ret_some hF
  subst hF
  have H6 : Hold h h4 [] := H5.pk []
  exact Run_ret1 rfl (ResV_cell (n := 2) (cs := [iV (w64 (s1.1.tdiv x2)), iV (w64 (s1.2.tdiv x2))]) (by kernel_rfl) (fun w => by kernel_rfl) (by kernel_rfl) rfl (H5.cells (n := 2) (off := 0) 0 rfl rfl)) ⟨rfl, H6⟩
 ·refine Zc (decide (den < 0)) (fun hb1 => ?_) (fun hb1 => ?_)
  ·have gs1 := (M.ite_some gs1).1 hb1
   refine Zq [iV num, iV (w64 (0 - num)), iV den, iV (w64 (0 - den)), iV (w64 (0 - num)), iV (w64 (0 - den))] [0, 1, 4] [(0, iV (w64 (0 - num))), (1, iV (w64 (0 - den))), (4, pV b1)] ?_
   have gs1 := M.ret_some gs1
   subst gs1
   exact Zf [0, 1, 4] ⟨rfl, H1⟩
  ·have gs1 := (M.ite_some gs1).2 hb1
   refine Run_skip ?_
   have gs1 := M.ret_some gs1
   subst gs1
   exact Zf [0, 1, 4] ⟨rfl, H1⟩

theorem w_cmp_isNaN_i (h : Heap) (x_ : Int) (n : Nat) (r : Bool) (hF : cmp_isNaN_i x_ n = some r) :
  Fn Tryz.prog 151 #[iV x_] h fun v h' => v = .bool r ∧ h' = h := by
 unfold cmp_isNaN_i at hF
 refine Zo [iV x_] Tryz.func151 rfl (fun w0 _ => ?_)
 refine Zs ?_
 refine Zq [.bool false] [0] [(0, iV x_)] ?_
 refine Zs ?_
 refine Zq [iV x_, iV x_, .bool (x_ != x_), .bool (x_ != x_)] [2] [(2, .bool (x_ != x_))] ?_
 have hF := M.ret_some hF
 subst hF
 exact Run_ret1 rfl (Zt (.bool (x_ != x_))) ⟨rfl, rfl⟩

theorem w_cmp_Compare_i (h : Heap) (x_ : Int) (y_ : Int) (n : Nat) (r : Int) (hF : cmp_Compare_i x_ y_ n = some r) :
  Fn Tryz.prog 130 #[iV x_, iV y_] h fun v h' => v = iV r ∧ h' = h := by
 unfold cmp_Compare_i at hF
 refine Zo [iV x_, iV y_] Tryz.func130 rfl (fun w0 _ => ?_)
 refine Zs ?_
 refine Zq [iV 0] [0, 1] [(0, iV x_), (1, iV y_)] ?_
 refine Zs ?_
 obtain ⟨x1, hx1, hF⟩ := M.bind_some hF
 refine Zg 3 [(0, iV x_), (1, iV y_), (5, .bool x1)] ?_ ?_
 ·refine Zb [iV x_] 0 ?_
  refine Zy (.bool x1) (ZQ 151 #[iV x_] (w_cmp_isNaN_i h x_ _ _ hx1)) ?_
  refine Zb [.bool x1] 2 ?_
  exact Zd [0, 1, 5]
 refine Zs ?_
 obtain ⟨x2, hx2, hF⟩ := M.bind_some hF
 refine Zg 3 [(0, iV x_), (1, iV y_), (5, .bool x1), (6, .bool x2)] ?_ ?_
 ·refine Zb [iV y_] 0 ?_
  refine Zy (.bool x2) (ZQ 151 #[iV y_] (w_cmp_isNaN_i h y_ _ _ hx2)) ?_
  refine Zb [.bool x2] 2 ?_
  exact Zd [0, 1, 5, 6]
 refine Zs ?_
 refine Zs ?_
 refine Zq [.bool x1] [0, 1, 6, 11] [(0, iV x_), (1, iV y_), (6, .bool x2), (11, .bool x1)] ?_
 refine Zc (x1) (fun hb1 => ?_) (fun hb1 => ?_)
 ·have hF := (M.ite_some hF).1 hb1
  refine Zs ?_
  refine Zs ?_
  refine Zq [.bool x2] [12] [(12, .bool x2)] ?_
  refine Zc (x2) (fun hb2 => ?_) (fun hb2 => ?_)
  ·have hF := (M.ite_some hF).1 hb2
   refine Zs ?_
   refine Zq [iV 0] [4] [(4, iV 0)] ?_
   have hF := M.ret_some hF
   subst hF
   exact Run_ret1 rfl (Zt (iV 0)) ⟨rfl, rfl⟩
  ·have hF := (M.ite_some hF).2 hb2
   refine Run_skip ?_
   refine Zs ?_
   refine Zq [iV (-1)] [4] [(4, iV (-1))] ?_
   have hF := M.ret_some hF
   subst hF
   exact Run_ret1 rfl (Zt (iV (-1))) ⟨rfl, rfl⟩
 ·have hF := (M.ite_some hF).2 hb1
  refine Run_skip ?_
  refine Zs ?_
  refine Zs ?_
  refine Zq [.bool x2] [0, 1, 13] [(0, iV x_), (1, iV y_), (13, .bool x2)] ?_
  refine Zc (x2) (fun hb3 => ?_) (fun hb3 => ?_)
  ·have hF := (M.ite_some hF).1 hb3
   refine Zs ?_
   refine Zq [iV 1] [4] [(4, iV 1)] ?_
   have hF := M.ret_some hF
   subst hF
   exact Run_ret1 rfl (Zt (iV 1)) ⟨rfl, rfl⟩
  ·have hF := (M.ite_some hF).2 hb3
   refine Run_skip ?_
   refine Zs ?_
   refine Zs ?_
   refine Zq [iV x_, iV y_, .bool (decide (x_ < y_))] [0, 1, 16] [(0, iV x_), (1, iV y_), (16, .bool (decide (x_ < y_)))] ?_
   refine Zc (decide (x_ < y_)) (fun hb4 => ?_) (fun hb4 => ?_)
   ·have hF := (M.ite_some hF).1 hb4
    refine Zs ?_
    refine Zq [iV (-1)] [4] [(4, iV (-1))] ?_
    have hF := M.ret_some hF
    subst hF
    exact Run_ret1 rfl (Zt (iV (-1))) ⟨rfl, rfl⟩
   ·have hF := (M.ite_some hF).2 hb4
    refine Run_skip ?_
    refine Zs ?_
    refine Zs ?_
    refine Zq [iV x_, iV y_, .bool (decide (y_ < x_))] [19] [(19, .bool (decide (y_ < x_)))] ?_
    refine Zc (decide (y_ < x_)) (fun hb5 => ?_) (fun hb5 => ?_)
    ·have hF := (M.ite_some hF).1 hb5
     refine Zs ?_
     refine Zq [iV 1] [4] [(4, iV 1)] ?_
     have hF := M.ret_some hF
     subst hF
     exact Run_ret1 rfl (Zt (iV 1)) ⟨rfl, rfl⟩
    ·have hF := (M.ite_some hF).2 hb5
     refine Run_skip ?_
     refine Zs ?_
     refine Zq [iV 0] [4] [(4, iV 0)] ?_
     have hF := M.ret_some hF
     subst hF
     exact Run_ret1 rfl (Zt (iV 0)) ⟨rfl, rfl⟩

theorem w_impl_compareRatios (h : Heap) (a_ : TRatio) (b : TRatio) (n : Nat) (r : Int) (hF : impl_compareRatios a_ b n = some r) :
  Fn Tryz.prog 86 #[.agg #[iV a_.Num, iV a_.Den], .agg #[iV b.Num, iV b.Den]] h fun v h' => v = iV r ∧ Hold h h' [] := by
 unfold impl_compareRatios at hF
 refine Zo [.agg #[iV a_.Num, iV a_.Den], .agg #[iV b.Num, iV b.Den]] Tryz.func86 rfl (fun w0 _ => ?_)
 have H0 := Hold.init h
 refine Zs ?_
 refine Run_ops ?_
 refine Ze ?_
 refine E_box (ty := 44) (cs := [iV a_.Num, iV a_.Den]) H0 (fun w => by kernel_rfl) (fun b1 h1 H1 => ?_)
 refine Ze ?_
 refine E_box (ty := 44) (cs := [iV b.Num, iV b.Den]) H1 (fun w => by kernel_rfl) (fun b2 h2 H2 => ?_)
 refine Zr [iV 0] 2 ?_
 refine Zx ?_
 refine Zk [2, 3] [(2, pV b1), (3, pV b2)] ?_
 refine Zs ?_
 obtain ⟨x1, hx1, hF⟩ := M.bind_some hF
 refine Zg 12 [(4, iV x1)] ?_ ?_
 ·refine Zb [pV b1] 0 ?_
  refine Zy (iV a_.Num) (Zl 2 (⟨b1, 0, none⟩) (iV a_.Num) (H2.cell 1 rfl rfl)) ?_
  refine Zb [.pointer (some ⟨b2, 1, none⟩)] 2 ?_
  refine Zy (iV b.Den) (Zl 2 (⟨b2, 1, none⟩) (iV b.Den) (H2.cell 0 rfl rfl)) ?_
  refine Zb [iV (w64 (a_.Num * b.Den)), pV b2] 4 ?_
  refine Zy (iV b.Num) (Zl 2 (⟨b2, 0, none⟩) (iV b.Num) (H2.cell 0 rfl rfl)) ?_
  refine Zb [.pointer (some ⟨b1, 1, none⟩)] 7 ?_
  refine Zy (iV a_.Den) (Zl 2 (⟨b1, 1, none⟩) (iV a_.Den) (H2.cell 1 rfl rfl)) ?_
  refine Zb [iV (w64 (b.Num * a_.Den))] 9 ?_
  refine Zy (iV x1) (ZQ 130 #[iV (w64 (a_.Num * b.Den)), iV (w64 (b.Num * a_.Den))] (w_cmp_Compare_i h2 (w64 (a_.Num * b.Den)) (w64 (b.Num * a_.Den)) _ _ hx1)) ?_
  refine Zb [iV x1] 11 ?_
  exact Zd [4]
 have hF := M.ret_some hF
 subst hF
 have H3 : Hold h h2 [] := H2.pk []
 exact Run_ret1 rfl (Zt (iV x1)) ⟨rfl, H3⟩

theorem w_impl_cycleMean (h : Heap) (a_ : List (List Int)) (aa_ : Option Addr) (ca_ : Nat) (ra_ : Rd cd24 h (Lt h) aa_ ca_ a_) (n : Nat) (r : TRatio × Bool) (hF : impl_cycleMean a_ n = some r) :
  Fn Tryz.prog 51 #[.slice aa_ a_.length ca_] h fun v h' => v = .tuple #[.agg #[iV r.1.Num, iV r.1.Den], .bool r.2] ∧ Hold h h' [] := by
 unfold impl_cycleMean at hF
 refine Zo [.slice aa_ a_.length ca_] Tryz.func51 rfl (fun w0 _ => ?_)
 have H0 := Hold.init h
 refine Zs ?_
 refine Run_ops ?_
 refine Ze ?_
 refine E_box (ty := 44) (cs := [iV 0, iV 0]) H0 (fun w => by kernel_rfl) (fun b1 h1 H1 => ?_)
 refine Zr [.bool false] 1 ?_
 refine Zx ?_
 refine Zk [0, 2] [(0, .slice aa_ a_.length ca_), (2, pV b1)] ?_
 refine Zs ?_
 refine Zq [.slice aa_ a_.length ca_, iV (a_.length : Int), iV (a_.length : Int)] [0, 2, 4] [(0, .slice aa_ a_.length ca_), (2, pV b1), (4, iV (a_.length : Int))] ?_
 refine Zs ?_
 refine Run_ops ?_
 refine Zr [iV (a_.length : Int)] 0 ?_
 obtain ⟨l1, hl1, hF⟩ := M.bind_some hF
 have hl1 := M.make_some hl1
 refine Ze ?_
 refine E_make cd2 0 (kl := .i64) (kc := .i64) H1 cd2_ti Tryz.underlying24 (by decide) cd2_zero (by kernel_rfl) hl1 (fun a1 h2 H2 => ?_)
 refine Ze ?_
 refine E_lit1 (ey := 24) (n := l1.length) H2 (fun w => by kernel_rfl) rfl (fun a2 h3 H3 => ?_)
 refine Zr [.slice a2 1 1] 3 ?_
 refine Zx ?_
 refine Zk [0, 2, 4, 5] [(0, .slice aa_ a_.length ca_), (2, pV b1), (4, iV (a_.length : Int)), (5, .slice a2 1 1)] ?_
 refine Zs ?_
 refine Zs ?_
 refine Zq [iV (a_.length : Int), iV 0] [0, 2, 4, 5, 19, 20] [(0, .slice aa_ a_.length ca_), (2, pV b1), (4, iV (a_.length : Int)), (5, .slice a2 1 1), (19, iV (a_.length : Int)), (20, iV 0)] ?_
 obtain ⟨x1, gx1, hF⟩ := M.bind_some hF
 obtain ⟨hloy1, hhiy1, gx1⟩ := M.for_start gx1
 refine Run_join (fun L' h' => ∃ (a4 : Option Addr) (c2 : Nat), L' = [(2, pV b1), (4, iV (a_.length : Int)), (5, .slice a4 x1.length c2)] ∧ Hold h h' [box b1 44 [iV 0, iV 0], own cd24 a4 x1.length c2 x1]) ?_ ?_
 ·rintro _ h5 ⟨a4, c2, rfl, H5⟩
  refine Zs ?_
  refine Run_ops ?_
  refine Ze ?_
  refine E_box (ty := 44) (cs := [iV 0, iV 0]) H5 (fun w => by kernel_rfl) (fun b2 h9 H21 => ?_)
  refine Zx ?_
  refine Zk [2, 4, 5, 7] [(2, pV b1), (4, iV (a_.length : Int)), (5, .slice a4 x1.length c2), (7, pV b2)] ?_
  refine Zs ?_
  refine Zq [.bool false] [2, 4, 5, 7, 8] [(2, pV b1), (4, iV (a_.length : Int)), (5, .slice a4 x1.length c2), (7, pV b2), (8, .bool false)] ?_
  refine Zs ?_
  refine Zs ?_
  refine Zq [iV (a_.length : Int), iV 0] [2, 4, 5, 7, 8, 33, 34] [(2, pV b1), (4, iV (a_.length : Int)), (5, .slice a4 x1.length c2), (7, pV b2), (8, .bool false), (33, iV (a_.length : Int)), (34, iV 0)] ?_
  obtain ⟨x4, gx4, hF⟩ := M.bind_some hF
  obtain ⟨hloy2, hhiy2, gx4⟩ := M.for_start gx4
  refine Run_join (fun L' h' => L' = [(2, pV b1), (7, pV b2), (8, .bool x4.2)] ∧ Hold h h' [box b1 44 [iV 0, iV 0], box b2 44 [iV x4.1.Num, iV x4.1.Den]]) ?_ ?_
  ·rintro _ h11 ⟨rfl, H23⟩
   refine Zs ?_
   refine Run_ops ?_
   refine Zz (.agg #[iV x4.1.Num, iV x4.1.Den]) (Y_loadA (t := 44) (n := 2) (p := ⟨b2, 0, none⟩) (cs := [iV x4.1.Num, iV x4.1.Den]) (by kernel_rfl) (fun w => by kernel_rfl) (by kernel_rfl) rfl (H23.cells (n := 2) (off := 0) 1 rfl rfl)) ?_
   refine Zr [.bool x4.2] 1 ?_
   refine Ze ?_
   refine ZP 44 0 [iV x4.1.Num, iV x4.1.Den] (.agg #[iV x4.1.Num, iV x4.1.Den]) H23 (fun h26 H76 => ?_)
   refine Zr [.bool x4.2] 3 ?_
   refine Zx ?_
   refine Zk [2, 3] [(2, pV b1), (3, .bool x4.2)] ?_
   have hF := M.ret_some hF
   subst hF
   have H77 : Hold h h26 [] := H76.pk []
   exact Run_ret2 rfl (ResV_cell (n := 2) (cs := [iV x4.1.Num, iV x4.1.Den]) (by kernel_rfl) (fun w => by kernel_rfl) (by kernel_rfl) rfl (H76.cells (n := 2) (off := 0) 0 rfl rfl)) (Zt (.bool x4.2)) ⟨rfl, H77⟩
  ·refine Run_block ?_
   have H78 : Hold h h9 [box b1 44 [iV 0, iV 0], own cd24 a4 x1.length c2 x1, box b2 44 [iV 0, iV 0]] := H21.pk [1, 2, 0]
   refine Zk [2, 4, 5, 7, 8, 33, 34] [(2, pV b1), (4, iV (a_.length : Int)), (5, .slice a4 x1.length c2), (7, pV b2), (8, .bool false), (33, iV (a_.length : Int)), (34, iV 0)] ?_
   refine Run_loop (fun m L' h' => ∃ (i2 : Int) (s2 : TRatio × Bool), 0 ≤ i2 ∧ M.forN (a_.length : Int) _ _ n m i2 s2 = some x4 ∧ L' = [(2, pV b1), (4, iV (a_.length : Int)), (5, .slice a4 x1.length c2), (7, pV b2), (8, .bool s2.2), (33, iV (a_.length : Int)), (34, iV i2)] ∧ Hold h h' [box b1 44 [iV 0, iV 0], own cd24 a4 x1.length c2 x1, box b2 44 [iV s2.1.Num, iV s2.1.Den]]) ((a_.length : Int) - 0 : Int).toNat ⟨0, ((⟨0, 0⟩ : TRatio), false), Int.le_refl _, gx4, rfl, H78⟩ ?_
   rintro my2 _ h10 ⟨i2, s2, hloy2', gx4, rfl, H22⟩
   refine Zs ?_
   refine Zq [.bool (decide (i2 < (a_.length : Int)))] [2, 4, 5, 7, 8, 33, 34, 35] [(2, pV b1), (4, iV (a_.length : Int)), (5, .slice a4 x1.length c2), (7, pV b2), (8, .bool s2.2), (33, iV (a_.length : Int)), (34, iV i2), (35, .bool (decide (i2 < (a_.length : Int))))] ?_
   refine Zs ?_
   refine Zc (decide (i2 < (a_.length : Int))) (fun hb2 => ?_) (fun hb2 => ?_)
   ·obtain ⟨my2, y2, rfl, hB2, hgoy2, houty2⟩ := M.for_go gx4 hb2
    have hlty2 := of_decide_eq_true hb2
    refine Run_skip ?_
    refine Zs ?_
    obtain ⟨s3, gs3, hB2⟩ := M.bind_some hB2
    refine Run_join (fun L' h' => L' = [(2, pV b1), (4, iV (a_.length : Int)), (5, .slice a4 x1.length c2), (7, pV b2), (8, .bool s3.2), (33, iV (a_.length : Int)), (34, iV i2)] ∧ Hold h h' [box b1 44 [iV 0, iV 0], own cd24 a4 x1.length c2 x1, box b2 44 [iV s3.1.Num, iV s3.1.Den]]) ?_ ?_
    ·rintro _ h25 ⟨rfl, H69⟩
     refine Zg 2 [(2, pV b1), (4, iV (a_.length : Int)), (5, .slice a4 x1.length c2), (7, pV b2), (8, .bool s3.2), (33, iV (a_.length : Int)), (34, iV (i2 + 1))] ?_ ?_
     ·refine Zy (iV (i2 + 1)) (Y_eq (v := iV (w64 (i2 + 1))) (Y_pure (fun w => by kernel_rfl)) (by rw [w64_eq _ (by omega)])) ?_
      refine Zb [iV (i2 + 1)] 1 ?_
      exact Zd [2, 4, 5, 7, 8, 33, 34]
     have hB2 := M.ret_some hB2
     have gx4 := hgoy2 _ hB2.symm
     exact Za [2, 4, 5, 7, 8, 33, 34] my2 ⟨i2 + 1, (s3.1, s3.2), by omega, gx4, rfl, H69⟩
    ·refine Run_block ?_
     refine Zs ?_
     refine Zq [iV i2, iV i2] [2, 4, 5, 7, 8, 9, 33, 34] [(2, pV b1), (4, iV (a_.length : Int)), (5, .slice a4 x1.length c2), (7, pV b2), (8, .bool s2.2), (9, iV i2), (33, iV (a_.length : Int)), (34, iV i2)] ?_
     refine Zs ?_
     refine Zs ?_
     obtain ⟨x5, hx3, gs3⟩ := M.bind_some gs3
     obtain ⟨hx3l, hx3u, hx3⟩ := M.idx_some hx3
     have H24 : Hold h h10 [own cd24 a4 x1.length c2 x1, box b1 44 [iV 0, iV 0], box b2 44 [iV s2.1.Num, iV s2.1.Den]] := H22.pk [1, 0, 2]
     have H25 := H24.toRows
     obtain ⟨a9, c6, H26⟩ := H25.pinRow hx3
     have H27 : Hold h h10 [box b1 44 [iV 0, iV 0], rowsP cd2 24 a4 x1.length c2 x1 [((a_.length : Int).toNat, a9, x5.length, c6, x5)], box b2 44 [iV s2.1.Num, iV s2.1.Den]] := H26.pk [1, 0, 2]
     obtain ⟨x6, hx4, gs3⟩ := M.bind_some gs3
     obtain ⟨hx4l, hx4u, hx4⟩ := M.idx_some hx4
     refine Zg 8 [(2, pV b1), (4, iV (a_.length : Int)), (5, .slice a4 x1.length c2), (7, pV b2), (8, .bool s2.2), (9, iV i2), (33, iV (a_.length : Int)), (34, iV i2), (44, .bool (x6 == (-1000000000000000)))] ?_ ?_
     ·refine Zb [.slice a4 x1.length c2, iV (a_.length : Int)] 0 ?_
      refine Zy (.pointer (some (adr a4 ((a_.length : Int).toNat * 1)))) (Zi 22 24 1 (a4) (x1.length) (c2) .i64 ((a_.length : Int)) Tryz.underlying22 ((H22.rd 1 rfl).cell hx3).1 hx3l hx3u) ?_
      refine Zy (.slice a9 x5.length c6) (Zl 24 (adr a4 ((a_.length : Int).toNat * 1)) (.slice a9 x5.length c6) (H27.cellPin 1 rfl 0 rfl)) ?_
      refine Zb [iV i2] 4 ?_
      refine Zy (.pointer (some (adr a9 (i2.toNat * 1)))) (Zi 24 2 1 (a9) (x5.length) (c6) .i64 (i2) Tryz.underlying24 ((H27.rdPin 1 rfl 0 rfl).cell hx4).1 hx4l hx4u) ?_
      refine Zy (iV x6) (Zl 2 (adr a9 (i2.toNat * 1)) (iV x6) (cd2_cell (H27.rdPin 1 rfl 0 rfl) hx4)) ?_
      refine Zb [.bool (x6 == (-1000000000000000))] 7 ?_
      exact Zd [2, 4, 5, 7, 8, 9, 33, 34, 44]
     refine Zc (x6 == (-1000000000000000)) (fun hb3 => ?_) (fun hb3 => ?_)
     ·have gs3 := (M.ite_some gs3).1 hb3
      refine Run_exit (k' := _) rfl ?_
      have H70 : Hold h h10 [rowsP cd2 24 a4 x1.length c2 x1 [((a_.length : Int).toNat, a9, x5.length, c6, x5)], box b1 44 [iV 0, iV 0], box b2 44 [iV s2.1.Num, iV s2.1.Den]] := H27.pk [1, 0, 2]
      have H71 := H70.ofRows
      have H72 : Hold h h10 [box b1 44 [iV 0, iV 0], own cd24 a4 x1.length c2 x1, box b2 44 [iV s2.1.Num, iV s2.1.Den]] := H71.pk [1, 0, 2]
      have gs3 := M.ret_some gs3
      subst gs3
      exact Zf [2, 4, 5, 7, 8, 33, 34] ⟨rfl, H72⟩
     ·have gs3 := (M.ite_some gs3).2 hb3
      refine Run_skip ?_
      refine Zs ?_
      refine Run_ops ?_
      refine Zr [.agg #[iV 0, iV 0]] 0 ?_
      refine Ze ?_
      refine E_box (ty := 44) (cs := [iV 0, iV 0]) H27 (fun w => by kernel_rfl) (fun b3 h12 H28 => ?_)
      refine Ze ?_
      refine ZP 44 0 [iV 0, iV 0] (.agg #[iV 0, iV 0]) H28 (fun h13 H29 => ?_)
      refine Zr [.bool false] 3 ?_
      refine Zx ?_
      refine Zk [2, 4, 5, 7, 8, 9, 10, 11, 33, 34] [(2, pV b1), (4, iV (a_.length : Int)), (5, .slice a4 x1.length c2), (7, pV b2), (8, .bool s2.2), (9, iV i2), (10, pV b3), (11, .bool false), (33, iV (a_.length : Int)), (34, iV i2)] ?_
      refine Zs ?_
      refine Zs ?_
      refine Zq [iV (a_.length : Int), iV 0] [2, 4, 5, 7, 8, 9, 10, 11, 33, 34, 46, 47] [(2, pV b1), (4, iV (a_.length : Int)), (5, .slice a4 x1.length c2), (7, pV b2), (8, .bool s2.2), (9, iV i2), (10, pV b3), (11, .bool false), (33, iV (a_.length : Int)), (34, iV i2), (46, iV (a_.length : Int)), (47, iV 0)] ?_
      obtain ⟨x7, gx7, gs3⟩ := M.bind_some gs3
      obtain ⟨hloy3, hhiy3, gx7⟩ := M.for_start gx7
      refine Run_join (fun L' h' => L' = [(2, pV b1), (4, iV (a_.length : Int)), (5, .slice a4 x1.length c2), (7, pV b2), (8, .bool s2.2), (10, pV b3), (33, iV (a_.length : Int)), (34, iV i2)] ∧ Hold h h' [box b1 44 [iV 0, iV 0], own cd24 a4 x1.length c2 x1, box b2 44 [iV s2.1.Num, iV s2.1.Den], box b3 44 [iV x7.1.Num, iV x7.1.Den]]) ?_ ?_
      ·rintro _ h15 ⟨rfl, H31⟩
       refine Zs ?_
       obtain ⟨x17, gx17, gs3⟩ := M.bind_some gs3
       refine Run_regC (j := 8) (C := fun x => Hold h x [box b1 44 [iV 0, iV 0], own cd24 a4 x1.length c2 x1, box b2 44 [iV s2.1.Num, iV s2.1.Den], box b3 44 [iV x7.1.Num, iV x7.1.Den]]) (by kernel_rfl) H31 (L' := [(2, pV b1), (4, iV (a_.length : Int)), (5, .slice a4 x1.length c2), (7, pV b2), (8, .bool s2.2), (10, pV b3), (33, iV (a_.length : Int)), (34, iV i2), (94, .bool x17)]) ?_ (fun h23 H62 => ?_)
       ·refine Zb [.bool s2.2, .bool (!s2.2)] 0 ?_
        refine QRun_seq 8 [(2, pV b1), (4, iV (a_.length : Int)), (5, .slice a4 x1.length c2), (7, pV b2), (8, .bool s2.2), (10, pV b3), (33, iV (a_.length : Int)), (34, iV i2), (94, .bool x17)] ?_ ?_
        ·rcases Bool.eq_false_or_eq_true (!s2.2) with hb8 | hb8
         ·refine Zv (!s2.2) true hb8 ?_
          have gx17 := M.ret_some ((M.ite_some gx17).1 hb8)
          refine Zn ?_
          refine Zn ?_
          refine Zn ?_
          refine Zn ?_
          refine Zv true x17 gx17 ?_
          exact Zd [2, 4, 5, 7, 8, 10, 33, 34, 94]
         ·refine Zv (!s2.2) false hb8 ?_
          have gx17 := (M.ite_some gx17).2 hb8
          obtain ⟨x18, hx13, gx17⟩ := M.bind_some gx17
          have gx17 := M.ret_some gx17
          refine Zy (.agg #[iV x7.1.Num, iV x7.1.Den]) (Y_cls fun hx Hx => (Y_loadA (t := 44) (n := 2) (p := ⟨b3, 0, none⟩) (cs := [iV x7.1.Num, iV x7.1.Den]) (by kernel_rfl) (fun w => by kernel_rfl) (by kernel_rfl) rfl (Hx.cells (n := 2) (off := 0) 3 rfl rfl))) ?_
          refine Zy (.agg #[iV s2.1.Num, iV s2.1.Den]) (Y_cls fun hx Hx => (Y_loadA (t := 44) (n := 2) (p := ⟨b2, 0, none⟩) (cs := [iV s2.1.Num, iV s2.1.Den]) (by kernel_rfl) (fun w => by kernel_rfl) (by kernel_rfl) rfl (Hx.cells (n := 2) (off := 0) 2 rfl rfl))) ?_
          refine Zy (iV x18) (Y_call (f := 86) (args := #[.agg #[iV x7.1.Num, iV x7.1.Den], .agg #[iV s2.1.Num, iV s2.1.Den]]) (v := iV x18) (by kernel_rfl) fun hx Hx => (w_impl_compareRatios hx x7.1 s2.1 _ _ hx13).mono fun _ _ ⟨e, H'⟩ => ⟨e, Hx.call H' rfl⟩) ?_
          refine Zb [.bool (decide (0 < x18))] 6 ?_
          refine Zv (decide (0 < x18)) x17 gx17 ?_
          exact Zd [2, 4, 5, 7, 8, 10, 33, 34, 94]
        exact Zd [2, 4, 5, 7, 8, 10, 33, 34, 94]
       have H63 : Hold h h23 [box b1 44 [iV 0, iV 0], own cd24 a4 x1.length c2 x1, box b2 44 [iV s2.1.Num, iV s2.1.Den], box b3 44 [iV x7.1.Num, iV x7.1.Den]] := H62
       refine Zc (x17) (fun hb9 => ?_) (fun hb9 => ?_)
       ·have gs3 := (M.ite_some gs3).1 hb9
        refine Run_ops ?_
        refine Zz (.agg #[iV x7.1.Num, iV x7.1.Den]) (Y_loadA (t := 44) (n := 2) (p := ⟨b3, 0, none⟩) (cs := [iV x7.1.Num, iV x7.1.Den]) (by kernel_rfl) (fun w => by kernel_rfl) (by kernel_rfl) rfl (H63.cells (n := 2) (off := 0) 3 rfl rfl)) ?_
        have H65 : Hold h h23 [box b2 44 [iV s2.1.Num, iV s2.1.Den], box b1 44 [iV 0, iV 0], own cd24 a4 x1.length c2 x1, box b3 44 [iV x7.1.Num, iV x7.1.Den]] := H63.pk [2, 0, 1, 3]
        refine Ze ?_
        refine ZP 44 0 [iV x7.1.Num, iV x7.1.Den] (.agg #[iV x7.1.Num, iV x7.1.Den]) H65 (fun h24 H64 => ?_)
        refine Zr [.bool true] 2 ?_
        refine Zx ?_
        refine Zk [2, 4, 5, 7, 8, 33, 34] [(2, pV b1), (4, iV (a_.length : Int)), (5, .slice a4 x1.length c2), (7, pV b2), (8, .bool true), (33, iV (a_.length : Int)), (34, iV i2)] ?_
        refine Run_blk ?_
        have H73 : Hold h h24 [box b1 44 [iV 0, iV 0], own cd24 a4 x1.length c2 x1, box b2 44 [iV x7.1.Num, iV x7.1.Den]] := H64.pk [1, 2, 0]
        have gs3 := M.ret_some gs3
        subst gs3
        exact Zf [2, 4, 5, 7, 8, 33, 34] ⟨rfl, H73⟩
       ·have gs3 := (M.ite_some gs3).2 hb9
        refine Run_skip ?_
        refine Run_blk ?_
        have H74 : Hold h h23 [box b1 44 [iV 0, iV 0], own cd24 a4 x1.length c2 x1, box b2 44 [iV s2.1.Num, iV s2.1.Den]] := H63.pk [0, 1, 2]
        have gs3 := M.ret_some gs3
        subst gs3
        exact Zf [2, 4, 5, 7, 8, 33, 34] ⟨rfl, H74⟩
      ·refine Run_block ?_
       have H66 : Hold h h13 [rowsP cd2 24 a4 x1.length c2 x1 [((a_.length : Int).toNat, a9, x5.length, c6, x5)], box b3 44 [iV 0, iV 0], box b1 44 [iV 0, iV 0], box b2 44 [iV s2.1.Num, iV s2.1.Den]] := H29.pk [2, 0, 1, 3]
       have H67 := H66.ofRows
       have H68 : Hold h h13 [box b1 44 [iV 0, iV 0], own cd24 a4 x1.length c2 x1, box b2 44 [iV s2.1.Num, iV s2.1.Den], box b3 44 [iV 0, iV 0]] := H67.pk [2, 0, 3, 1]
       refine Zk [2, 4, 5, 7, 8, 9, 10, 11, 33, 34, 46, 47] [(2, pV b1), (4, iV (a_.length : Int)), (5, .slice a4 x1.length c2), (7, pV b2), (8, .bool s2.2), (9, iV i2), (10, pV b3), (11, .bool false), (33, iV (a_.length : Int)), (34, iV i2), (46, iV (a_.length : Int)), (47, iV 0)] ?_
       refine Run_loop (fun m L' h' => ∃ (i3 : Int) (s4 : TRatio × Bool), 0 ≤ i3 ∧ M.forN (a_.length : Int) _ _ n m i3 s4 = some x7 ∧ L' = [(2, pV b1), (4, iV (a_.length : Int)), (5, .slice a4 x1.length c2), (7, pV b2), (8, .bool s2.2), (9, iV i2), (10, pV b3), (11, .bool s4.2), (33, iV (a_.length : Int)), (34, iV i2), (46, iV (a_.length : Int)), (47, iV i3)] ∧ Hold h h' [box b1 44 [iV 0, iV 0], own cd24 a4 x1.length c2 x1, box b2 44 [iV s2.1.Num, iV s2.1.Den], box b3 44 [iV s4.1.Num, iV s4.1.Den]]) ((a_.length : Int) - 0 : Int).toNat ⟨0, ((⟨0, 0⟩ : TRatio), false), Int.le_refl _, gx7, rfl, H68⟩ ?_
       rintro my3 _ h14 ⟨i3, s4, hloy3', gx7, rfl, H30⟩
       refine Zs ?_
       refine Zq [.bool (decide (i3 < (a_.length : Int)))] [2, 4, 5, 7, 8, 9, 10, 11, 33, 34, 46, 47, 48] [(2, pV b1), (4, iV (a_.length : Int)), (5, .slice a4 x1.length c2), (7, pV b2), (8, .bool s2.2), (9, iV i2), (10, pV b3), (11, .bool s4.2), (33, iV (a_.length : Int)), (34, iV i2), (46, iV (a_.length : Int)), (47, iV i3), (48, .bool (decide (i3 < (a_.length : Int))))] ?_
       refine Zs ?_
       refine Zc (decide (i3 < (a_.length : Int))) (fun hb4 => ?_) (fun hb4 => ?_)
       ·obtain ⟨my3, y3, rfl, hB3, hgoy3, houty3⟩ := M.for_go gx7 hb4
        have hlty3 := of_decide_eq_true hb4
        refine Run_skip ?_
        refine Zs ?_
        obtain ⟨s5, gs5, hB3⟩ := M.bind_some hB3
        refine Run_join (fun L' h' => L' = [(2, pV b1), (4, iV (a_.length : Int)), (5, .slice a4 x1.length c2), (7, pV b2), (8, .bool s2.2), (9, iV i2), (10, pV b3), (11, .bool s5.2), (33, iV (a_.length : Int)), (34, iV i2), (46, iV (a_.length : Int)), (47, iV i3)] ∧ Hold h h' [box b1 44 [iV 0, iV 0], own cd24 a4 x1.length c2 x1, box b2 44 [iV s2.1.Num, iV s2.1.Den], box b3 44 [iV s5.1.Num, iV s5.1.Den]]) ?_ ?_
        ·rintro _ h22 ⟨rfl, H52⟩
         refine Zg 2 [(2, pV b1), (4, iV (a_.length : Int)), (5, .slice a4 x1.length c2), (7, pV b2), (8, .bool s2.2), (9, iV i2), (10, pV b3), (11, .bool s5.2), (33, iV (a_.length : Int)), (34, iV i2), (46, iV (a_.length : Int)), (47, iV (i3 + 1))] ?_ ?_
         ·refine Zy (iV (i3 + 1)) (Y_eq (v := iV (w64 (i3 + 1))) (Y_pure (fun w => by kernel_rfl)) (by rw [w64_eq _ (by omega)])) ?_
          refine Zb [iV (i3 + 1)] 1 ?_
          exact Zd [2, 4, 5, 7, 8, 9, 10, 11, 33, 34, 46, 47]
         have hB3 := M.ret_some hB3
         have gx7 := hgoy3 _ hB3.symm
         exact Za [2, 4, 5, 7, 8, 9, 10, 11, 33, 34, 46, 47] my3 ⟨i3 + 1, (s5.1, s5.2), by omega, gx7, rfl, H52⟩
        ·refine Run_block ?_
         refine Zs ?_
         refine Zq [iV i3, iV i3] [2, 4, 5, 7, 8, 9, 10, 11, 12, 33, 34, 46, 47] [(2, pV b1), (4, iV (a_.length : Int)), (5, .slice a4 x1.length c2), (7, pV b2), (8, .bool s2.2), (9, iV i2), (10, pV b3), (11, .bool s4.2), (12, iV i3), (33, iV (a_.length : Int)), (34, iV i2), (46, iV (a_.length : Int)), (47, iV i3)] ?_
         refine Zs ?_
         refine Zs ?_
         obtain ⟨x8, hx5, gs5⟩ := M.bind_some gs5
         obtain ⟨hx5l, hx5u, hx5⟩ := M.idx_some hx5
         have H32 : Hold h h14 [own cd24 a4 x1.length c2 x1, box b1 44 [iV 0, iV 0], box b2 44 [iV s2.1.Num, iV s2.1.Den], box b3 44 [iV s4.1.Num, iV s4.1.Den]] := H30.pk [1, 0, 2, 3]
         have H33 := H32.toRows
         obtain ⟨a10, c7, H34⟩ := H33.pinRow hx5
         have H35 : Hold h h14 [box b1 44 [iV 0, iV 0], rowsP cd2 24 a4 x1.length c2 x1 [(i3.toNat, a10, x8.length, c7, x8)], box b2 44 [iV s2.1.Num, iV s2.1.Den], box b3 44 [iV s4.1.Num, iV s4.1.Den]] := H34.pk [1, 0, 2, 3]
         obtain ⟨x9, hx6, gs5⟩ := M.bind_some gs5
         obtain ⟨hx6l, hx6u, hx6⟩ := M.idx_some hx6
         refine Zg 8 [(2, pV b1), (4, iV (a_.length : Int)), (5, .slice a4 x1.length c2), (7, pV b2), (8, .bool s2.2), (9, iV i2), (10, pV b3), (11, .bool s4.2), (12, iV i3), (33, iV (a_.length : Int)), (34, iV i2), (46, iV (a_.length : Int)), (47, iV i3), (57, .bool (x9 == (-1000000000000000)))] ?_ ?_
         ·refine Zb [.slice a4 x1.length c2, iV i3] 0 ?_
          refine Zy (.pointer (some (adr a4 (i3.toNat * 1)))) (Zi 22 24 1 (a4) (x1.length) (c2) .i64 (i3) Tryz.underlying22 ((H30.rd 1 rfl).cell hx5).1 hx5l hx5u) ?_
          refine Zy (.slice a10 x8.length c7) (Zl 24 (adr a4 (i3.toNat * 1)) (.slice a10 x8.length c7) (H35.cellPin 1 rfl 0 rfl)) ?_
          refine Zb [iV i2] 4 ?_
          refine Zy (.pointer (some (adr a10 (i2.toNat * 1)))) (Zi 24 2 1 (a10) (x8.length) (c7) .i64 (i2) Tryz.underlying24 ((H35.rdPin 1 rfl 0 rfl).cell hx6).1 hx6l hx6u) ?_
          refine Zy (iV x9) (Zl 2 (adr a10 (i2.toNat * 1)) (iV x9) (cd2_cell (H35.rdPin 1 rfl 0 rfl) hx6)) ?_
          refine Zb [.bool (x9 == (-1000000000000000))] 7 ?_
          exact Zd [2, 4, 5, 7, 8, 9, 10, 11, 12, 33, 34, 46, 47, 57]
         refine Zc (x9 == (-1000000000000000)) (fun hb5 => ?_) (fun hb5 => ?_)
         ·have gs5 := (M.ite_some gs5).1 hb5
          refine Run_exit (k' := _) rfl ?_
          have H53 : Hold h h14 [rowsP cd2 24 a4 x1.length c2 x1 [(i3.toNat, a10, x8.length, c7, x8)], box b1 44 [iV 0, iV 0], box b2 44 [iV s2.1.Num, iV s2.1.Den], box b3 44 [iV s4.1.Num, iV s4.1.Den]] := H35.pk [1, 0, 2, 3]
          have H54 := H53.ofRows
          have H55 : Hold h h14 [box b1 44 [iV 0, iV 0], own cd24 a4 x1.length c2 x1, box b2 44 [iV s2.1.Num, iV s2.1.Den], box b3 44 [iV s4.1.Num, iV s4.1.Den]] := H54.pk [1, 0, 2, 3]
          have gs5 := M.ret_some gs5
          subst gs5
          exact Zf [2, 4, 5, 7, 8, 9, 10, 11, 33, 34, 46, 47] ⟨rfl, H55⟩
         ·have gs5 := (M.ite_some gs5).2 hb5
          refine Run_skip ?_
          refine Zs ?_
          obtain ⟨x10, hx7, gs5⟩ := M.bind_some gs5
          obtain ⟨hx7l, hx7u, hx7⟩ := M.idx_some hx7
          have H36 : Hold h h14 [rowsP cd2 24 a4 x1.length c2 x1 [(i3.toNat, a10, x8.length, c7, x8)], box b1 44 [iV 0, iV 0], box b2 44 [iV s2.1.Num, iV s2.1.Den], box b3 44 [iV s4.1.Num, iV s4.1.Den]] := H35.pk [1, 0, 2, 3]
          obtain ⟨a11, c8, H37⟩ := H36.pinRow hx7
          have H38 : Hold h h14 [box b1 44 [iV 0, iV 0], rowsP cd2 24 a4 x1.length c2 x1 [((a_.length : Int).toNat, a11, x10.length, c8, x10), (i3.toNat, a10, x8.length, c7, x8)], box b2 44 [iV s2.1.Num, iV s2.1.Den], box b3 44 [iV s4.1.Num, iV s4.1.Den]] := H37.pk [1, 0, 2, 3]
          obtain ⟨x11, hx8, gs5⟩ := M.bind_some gs5
          obtain ⟨hx8l, hx8u, hx8⟩ := M.idx_some hx8
          obtain ⟨x12, hx9, gs5⟩ := M.bind_some gs5
          obtain ⟨hx9l, hx9u, hx9⟩ := M.idx_some hx9
          have H39 : Hold h h14 [rowsP cd2 24 a4 x1.length c2 x1 [((a_.length : Int).toNat, a11, x10.length, c8, x10), (i3.toNat, a10, x8.length, c7, x8)], box b1 44 [iV 0, iV 0], box b2 44 [iV s2.1.Num, iV s2.1.Den], box b3 44 [iV s4.1.Num, iV s4.1.Den]] := H38.pk [1, 0, 2, 3]
          obtain ⟨a12, c9, H40⟩ := H39.pinRow hx9
          have H41 : Hold h h14 [box b1 44 [iV 0, iV 0], rowsP cd2 24 a4 x1.length c2 x1 [(i3.toNat, a12, x12.length, c9, x12), ((a_.length : Int).toNat, a11, x10.length, c8, x10), (i3.toNat, a10, x8.length, c7, x8)], box b2 44 [iV s2.1.Num, iV s2.1.Den], box b3 44 [iV s4.1.Num, iV s4.1.Den]] := H40.pk [1, 0, 2, 3]
          obtain ⟨x13, hx10, gs5⟩ := M.bind_some gs5
          obtain ⟨hx10l, hx10u, hx10⟩ := M.idx_some hx10
          obtain ⟨x14, hx11, gs5⟩ := M.bind_some gs5
          refine Run_D (fun x => Hold h x [box b1 44 [iV 0, iV 0], rowsP cd2 24 a4 x1.length c2 x1 [(i3.toNat, a12, x12.length, c9, x12), ((a_.length : Int).toNat, a11, x10.length, c8, x10), (i3.toNat, a10, x8.length, c7, x8)], box b2 44 [iV s2.1.Num, iV s2.1.Den], box b3 44 [iV s4.1.Num, iV s4.1.Den]]) (fun x => Hold h x [box b1 44 [iV 0, iV 0], rowsP cd2 24 a4 x1.length c2 x1 [(i3.toNat, a12, x12.length, c9, x12), ((a_.length : Int).toNat, a11, x10.length, c8, x10), (i3.toNat, a10, x8.length, c7, x8)], box b2 44 [iV s2.1.Num, iV s2.1.Den], box b3 44 [iV s4.1.Num, iV s4.1.Den]]) mixed (by kernel_rfl) H41 Hold.stable (fun x Hy => (show Hold h x [box b1 44 [iV 0, iV 0], rowsP cd2 24 a4 x1.length c2 x1 [(i3.toNat, a12, x12.length, c9, x12), ((a_.length : Int).toNat, a11, x10.length, c8, x10), (i3.toNat, a10, x8.length, c7, x8)], box b2 44 [iV s2.1.Num, iV s2.1.Den], box b3 44 [iV s4.1.Num, iV s4.1.Den]] from Hy).pk [0, 1, 2, 3]) ?_
          refine ZB 19 [.slice a4 x1.length c2, iV (a_.length : Int)] 0 ?_
          refine ZY 18 2 (.pointer (some (adr a4 ((a_.length : Int).toNat * 1)))) (fun hx Hx => (YE.of (Zi 22 24 1 (a4) (x1.length) (c2) .i64 ((a_.length : Int)) Tryz.underlying22 ((H35.rdRows 1 rfl).cell hx7).1 hx7l hx7u))) ?_
          refine ZY 17 3 (.slice a11 x10.length c8) (fun hx Hx => (YE.of (Zl 24 (adr a4 ((a_.length : Int).toNat * 1)) (.slice a11 x10.length c8) (Hx.cellPin 1 rfl 1 rfl)))) ?_
          refine ZB 16 [iV i2] 4 ?_
          refine ZY 15 5 (.pointer (some (adr a11 (i2.toNat * 1)))) (fun hx Hx => (YE.of (Zi 24 2 1 (a11) (x10.length) (c8) .i64 (i2) Tryz.underlying24 ((H38.rdPin 1 rfl 0 rfl).cell hx8).1 hx8l hx8u))) ?_
          refine ZY 14 6 (iV x11) (fun hx Hx => (YE.of (Zl 2 (adr a11 (i2.toNat * 1)) (iV x11) (cd2_cell (Hx.rdPin 1 rfl 1 rfl) hx8)))) ?_
          refine ZB 12 [.slice a4 x1.length c2, iV i3] 7 ?_
          refine ZY 11 9 (.pointer (some (adr a4 (i3.toNat * 1)))) (fun hx Hx => (YE.of (Zi 22 24 1 (a4) (x1.length) (c2) .i64 (i3) Tryz.underlying22 ((H38.rdRows 1 rfl).cell hx9).1 hx9l hx9u))) ?_
          refine ZY 10 10 (.slice a12 x12.length c9) (fun hx Hx => (YE.of (Zl 24 (adr a4 (i3.toNat * 1)) (.slice a12 x12.length c9) (Hx.cellPin 1 rfl 0 rfl)))) ?_
          refine ZB 9 [iV i2] 11 ?_
          refine ZY 8 12 (.pointer (some (adr a12 (i2.toNat * 1)))) (fun hx Hx => (YE.of (Zi 24 2 1 (a12) (x12.length) (c9) .i64 (i2) Tryz.underlying24 ((H41.rdPin 1 rfl 0 rfl).cell hx10).1 hx10l hx10u))) ?_
          refine ZY 7 13 (iV x13) (fun hx Hx => (YE.of (Zl 2 (adr a12 (i2.toNat * 1)) (iV x13) (cd2_cell (Hx.rdPin 1 rfl 0 rfl) hx10)))) ?_
          refine ZB 3 [iV (w64 (x11 - x13)), iV (a_.length : Int), iV i3, iV (w64 ((a_.length : Int) - i3))] 14 ?_
          refine ZY 2 18 (.agg #[iV x14.Num, iV x14.Den]) (fun hx Hx => (YE_call (f := 53) (args := #[iV (w64 (x11 - x13)), iV (w64 ((a_.length : Int) - i3))]) (v := .agg #[iV x14.Num, iV x14.Den]) (by kernel_rfl) ((w_impl_ratioOf hx (w64 (x11 - x13)) (w64 ((a_.length : Int) - i3)) _ _ hx11).mono fun _ _ ⟨e, H'⟩ => ⟨e, H'.ext⟩))) ?_
          refine ZE 1 19 (fun h16 H42 => ?_)
          have H43 : Hold h h16 [box b1 44 [iV 0, iV 0], rowsP cd2 24 a4 x1.length c2 x1 [(i3.toNat, a12, x12.length, c9, x12), ((a_.length : Int).toNat, a11, x10.length, c8, x10), (i3.toNat, a10, x8.length, c7, x8)], box b2 44 [iV s2.1.Num, iV s2.1.Den], box b3 44 [iV s4.1.Num, iV s4.1.Den]] := H42
          refine E_box (ty := 44) (cs := [iV 0, iV 0]) H43 (fun w => by kernel_rfl) (fun b4 h17 H44 => ?_)
          refine ⟨fun x => Hold h x [box b1 44 [iV 0, iV 0], rowsP cd2 24 a4 x1.length c2 x1 [(i3.toNat, a12, x12.length, c9, x12), ((a_.length : Int).toNat, a11, x10.length, c8, x10), (i3.toNat, a10, x8.length, c7, x8)], box b2 44 [iV s2.1.Num, iV s2.1.Den], box b3 44 [iV s4.1.Num, iV s4.1.Den], box b4 44 [iV 0, iV 0]], fun x => Hold h x [box b4 44 [iV 0, iV 0], box b1 44 [iV 0, iV 0], rowsP cd2 24 a4 x1.length c2 x1 [(i3.toNat, a12, x12.length, c9, x12), ((a_.length : Int).toNat, a11, x10.length, c8, x10), (i3.toNat, a10, x8.length, c7, x8)], box b2 44 [iV s2.1.Num, iV s2.1.Den], box b3 44 [iV s4.1.Num, iV s4.1.Den]], H44, Hold.stable, fun x Hy => (show Hold h x [box b4 44 [iV 0, iV 0], box b1 44 [iV 0, iV 0], rowsP cd2 24 a4 x1.length c2 x1 [(i3.toNat, a12, x12.length, c9, x12), ((a_.length : Int).toNat, a11, x10.length, c8, x10), (i3.toNat, a10, x8.length, c7, x8)], box b2 44 [iV s2.1.Num, iV s2.1.Den], box b3 44 [iV s4.1.Num, iV s4.1.Den]] from Hy).pk [1, 2, 3, 4, 0], fun x Hy => (show Hold h x [box b1 44 [iV 0, iV 0], rowsP cd2 24 a4 x1.length c2 x1 [(i3.toNat, a12, x12.length, c9, x12), ((a_.length : Int).toNat, a11, x10.length, c8, x10), (i3.toNat, a10, x8.length, c7, x8)], box b2 44 [iV s2.1.Num, iV s2.1.Den], box b3 44 [iV s4.1.Num, iV s4.1.Den], box b4 44 [iV 0, iV 0]] from Hy).pk [0, 1, 2, 3], ?_⟩
          refine ZT 20 (fun h18 H45 => ?_)
          have H46 : Hold h h18 [box b4 44 [iV 0, iV 0], box b1 44 [iV 0, iV 0], rowsP cd2 24 a4 x1.length c2 x1 [(i3.toNat, a12, x12.length, c9, x12), ((a_.length : Int).toNat, a11, x10.length, c8, x10), (i3.toNat, a10, x8.length, c7, x8)], box b2 44 [iV s2.1.Num, iV s2.1.Den], box b3 44 [iV s4.1.Num, iV s4.1.Den]] := H45
          refine Ze ?_
          refine ZP 44 0 [iV x14.Num, iV x14.Den] (.agg #[iV x14.Num, iV x14.Den]) H46 (fun h19 H47 => ?_)
          refine Zx ?_
          refine Zk [2, 4, 5, 7, 8, 9, 10, 11, 13, 33, 34, 46, 47] [(2, pV b1), (4, iV (a_.length : Int)), (5, .slice a4 x1.length c2), (7, pV b2), (8, .bool s2.2), (9, iV i2), (10, pV b3), (11, .bool s4.2), (13, pV b4), (33, iV (a_.length : Int)), (34, iV i2), (46, iV (a_.length : Int)), (47, iV i3)] ?_
          refine Zs ?_
          obtain ⟨x15, gx15, gs5⟩ := M.bind_some gs5
          refine Run_regC (j := 8) (C := fun x => Hold h x [box b4 44 [iV x14.Num, iV x14.Den], box b1 44 [iV 0, iV 0], rowsP cd2 24 a4 x1.length c2 x1 [(i3.toNat, a12, x12.length, c9, x12), ((a_.length : Int).toNat, a11, x10.length, c8, x10), (i3.toNat, a10, x8.length, c7, x8)], box b2 44 [iV s2.1.Num, iV s2.1.Den], box b3 44 [iV s4.1.Num, iV s4.1.Den]]) (by kernel_rfl) H47 (L' := [(2, pV b1), (4, iV (a_.length : Int)), (5, .slice a4 x1.length c2), (7, pV b2), (8, .bool s2.2), (9, iV i2), (10, pV b3), (11, .bool s4.2), (13, pV b4), (33, iV (a_.length : Int)), (34, iV i2), (46, iV (a_.length : Int)), (47, iV i3), (84, .bool x15)]) ?_ (fun h20 H48 => ?_)
          ·refine Zb [.bool s4.2, .bool (!s4.2)] 0 ?_
           refine QRun_seq 8 [(2, pV b1), (4, iV (a_.length : Int)), (5, .slice a4 x1.length c2), (7, pV b2), (8, .bool s2.2), (9, iV i2), (10, pV b3), (11, .bool s4.2), (13, pV b4), (33, iV (a_.length : Int)), (34, iV i2), (46, iV (a_.length : Int)), (47, iV i3), (84, .bool x15)] ?_ ?_
           ·rcases Bool.eq_false_or_eq_true (!s4.2) with hb6 | hb6
            ·refine Zv (!s4.2) true hb6 ?_
             have gx15 := M.ret_some ((M.ite_some gx15).1 hb6)
             refine Zn ?_
             refine Zn ?_
             refine Zn ?_
             refine Zn ?_
             refine Zv true x15 gx15 ?_
             exact Zd [2, 4, 5, 7, 8, 9, 10, 11, 13, 33, 34, 46, 47, 84]
            ·refine Zv (!s4.2) false hb6 ?_
             have gx15 := (M.ite_some gx15).2 hb6
             obtain ⟨x16, hx12, gx15⟩ := M.bind_some gx15
             have gx15 := M.ret_some gx15
             refine Zy (.agg #[iV x14.Num, iV x14.Den]) (Y_cls fun hx Hx => (Y_loadA (t := 44) (n := 2) (p := ⟨b4, 0, none⟩) (cs := [iV x14.Num, iV x14.Den]) (by kernel_rfl) (fun w => by kernel_rfl) (by kernel_rfl) rfl (Hx.cells (n := 2) (off := 0) 0 rfl rfl))) ?_
             refine Zy (.agg #[iV s4.1.Num, iV s4.1.Den]) (Y_cls fun hx Hx => (Y_loadA (t := 44) (n := 2) (p := ⟨b3, 0, none⟩) (cs := [iV s4.1.Num, iV s4.1.Den]) (by kernel_rfl) (fun w => by kernel_rfl) (by kernel_rfl) rfl (Hx.cells (n := 2) (off := 0) 4 rfl rfl))) ?_
             refine Zy (iV x16) (Y_call (f := 86) (args := #[.agg #[iV x14.Num, iV x14.Den], .agg #[iV s4.1.Num, iV s4.1.Den]]) (v := iV x16) (by kernel_rfl) fun hx Hx => (w_impl_compareRatios hx x14 s4.1 _ _ hx12).mono fun _ _ ⟨e, H'⟩ => ⟨e, Hx.call H' rfl⟩) ?_
             refine Zb [.bool (decide (x16 < 0))] 6 ?_
             refine Zv (decide (x16 < 0)) x15 gx15 ?_
             exact Zd [2, 4, 5, 7, 8, 9, 10, 11, 13, 33, 34, 46, 47, 84]
           exact Zd [2, 4, 5, 7, 8, 9, 10, 11, 13, 33, 34, 46, 47, 84]
          have H49 : Hold h h20 [box b4 44 [iV x14.Num, iV x14.Den], box b1 44 [iV 0, iV 0], rowsP cd2 24 a4 x1.length c2 x1 [(i3.toNat, a12, x12.length, c9, x12), ((a_.length : Int).toNat, a11, x10.length, c8, x10), (i3.toNat, a10, x8.length, c7, x8)], box b2 44 [iV s2.1.Num, iV s2.1.Den], box b3 44 [iV s4.1.Num, iV s4.1.Den]] := H48
          refine Zc (x15) (fun hb7 => ?_) (fun hb7 => ?_)
          ·have gs5 := (M.ite_some gs5).1 hb7
           refine Run_ops ?_
           refine Zz (.agg #[iV x14.Num, iV x14.Den]) (Y_loadA (t := 44) (n := 2) (p := ⟨b4, 0, none⟩) (cs := [iV x14.Num, iV x14.Den]) (by kernel_rfl) (fun w => by kernel_rfl) (by kernel_rfl) rfl (H49.cells (n := 2) (off := 0) 0 rfl rfl)) ?_
           have H51 : Hold h h20 [box b3 44 [iV s4.1.Num, iV s4.1.Den], box b4 44 [iV x14.Num, iV x14.Den], box b1 44 [iV 0, iV 0], rowsP cd2 24 a4 x1.length c2 x1 [(i3.toNat, a12, x12.length, c9, x12), ((a_.length : Int).toNat, a11, x10.length, c8, x10), (i3.toNat, a10, x8.length, c7, x8)], box b2 44 [iV s2.1.Num, iV s2.1.Den]] := H49.pk [4, 0, 1, 2, 3]
           refine Ze ?_
           refine ZP 44 0 [iV x14.Num, iV x14.Den] (.agg #[iV x14.Num, iV x14.Den]) H51 (fun h21 H50 => ?_)
           refine Zr [.bool true] 2 ?_
           refine Zx ?_
           refine Zk [2, 4, 5, 7, 8, 9, 10, 11, 33, 34, 46, 47] [(2, pV b1), (4, iV (a_.length : Int)), (5, .slice a4 x1.length c2), (7, pV b2), (8, .bool s2.2), (9, iV i2), (10, pV b3), (11, .bool true), (33, iV (a_.length : Int)), (34, iV i2), (46, iV (a_.length : Int)), (47, iV i3)] ?_
           refine Run_blk ?_
           have H56 : Hold h h21 [rowsP cd2 24 a4 x1.length c2 x1 [(i3.toNat, a12, x12.length, c9, x12), ((a_.length : Int).toNat, a11, x10.length, c8, x10), (i3.toNat, a10, x8.length, c7, x8)], box b3 44 [iV x14.Num, iV x14.Den], box b4 44 [iV x14.Num, iV x14.Den], box b1 44 [iV 0, iV 0], box b2 44 [iV s2.1.Num, iV s2.1.Den]] := H50.pk [3, 0, 1, 2, 4]
           have H57 := H56.ofRows
           have H58 : Hold h h21 [box b1 44 [iV 0, iV 0], own cd24 a4 x1.length c2 x1, box b2 44 [iV s2.1.Num, iV s2.1.Den], box b3 44 [iV x14.Num, iV x14.Den]] := H57.pk [3, 0, 4, 1]
           have gs5 := M.ret_some gs5
           subst gs5
           exact Zf [2, 4, 5, 7, 8, 9, 10, 11, 33, 34, 46, 47] ⟨rfl, H58⟩
          ·have gs5 := (M.ite_some gs5).2 hb7
           refine Run_skip ?_
           refine Run_blk ?_
           have H59 : Hold h h20 [rowsP cd2 24 a4 x1.length c2 x1 [(i3.toNat, a12, x12.length, c9, x12), ((a_.length : Int).toNat, a11, x10.length, c8, x10), (i3.toNat, a10, x8.length, c7, x8)], box b4 44 [iV x14.Num, iV x14.Den], box b1 44 [iV 0, iV 0], box b2 44 [iV s2.1.Num, iV s2.1.Den], box b3 44 [iV s4.1.Num, iV s4.1.Den]] := H49.pk [2, 0, 1, 3, 4]
           have H60 := H59.ofRows
           have H61 : Hold h h20 [box b1 44 [iV 0, iV 0], own cd24 a4 x1.length c2 x1, box b2 44 [iV s2.1.Num, iV s2.1.Den], box b3 44 [iV s4.1.Num, iV s4.1.Den]] := H60.pk [2, 0, 3, 4]
           have gs5 := M.ret_some gs5
           subst gs5
           exact Zf [2, 4, 5, 7, 8, 9, 10, 11, 33, 34, 46, 47] ⟨rfl, H61⟩
       ·have gx7 := M.for_end gx7 hb4
        subst gx7
        refine Run_exit (k' := _) rfl ?_
        exact Zf [2, 4, 5, 7, 8, 10, 33, 34] ⟨rfl, H30⟩
   ·have gx4 := M.for_end gx4 hb2
    subst gx4
    refine Run_exit (k' := _) rfl ?_
    have H75 : Hold h h10 [box b1 44 [iV 0, iV 0], box b2 44 [iV s2.1.Num, iV s2.1.Den]] := H22.pk [0, 2]
    exact Zf [2, 7, 8] ⟨rfl, H75⟩
 ·refine Run_block ?_
  have hn1 := (H3.len 0 rfl)
  have H79 : Hold h h3 [own cd24 a2 ([l1].length) 1 [l1], box b1 44 [iV 0, iV 0]] := by rw [hn1]; exact H3
  have H80 : Hold h h3 [box b1 44 [iV 0, iV 0], own cd24 a2 ([l1].length) 1 [l1]] := H79.pk [1, 0]
  refine Run_keep [0, 2, 4, 5, 19, 20] (L' := [(0, .slice aa_ a_.length ca_), (2, pV b1), (4, iV (a_.length : Int)), (5, .slice a2 ([l1].length) 1), (19, iV (a_.length : Int)), (20, iV 0)]) (by first | (rw [hn1]; kernel_rfl) | (simp only [hn1]; kernel_rfl) | kernel_rfl) ?_
  refine Run_loop (fun m L' h' => ∃ (i1 : Int) (s1 : (List (List Int))) (a3 : Option Addr) (c1 : Nat), 0 ≤ i1 ∧ M.forN (a_.length : Int) _ _ n m i1 s1 = some x1 ∧ L' = [(0, .slice aa_ a_.length ca_), (2, pV b1), (4, iV (a_.length : Int)), (5, .slice a3 s1.length c1), (19, iV (a_.length : Int)), (20, iV i1)] ∧ Hold h h' [box b1 44 [iV 0, iV 0], own cd24 a3 s1.length c1 s1]) ((a_.length : Int) - 0 : Int).toNat ⟨0, [l1], a2, 1, Int.le_refl _, gx1, rfl, H80⟩ ?_
  rintro my1 _ h4 ⟨i1, s1, a3, c1, hloy1', gx1, rfl, H4⟩
  refine Zs ?_
  refine Zq [.bool (decide (i1 < (a_.length : Int)))] [0, 2, 4, 5, 19, 20, 21] [(0, .slice aa_ a_.length ca_), (2, pV b1), (4, iV (a_.length : Int)), (5, .slice a3 s1.length c1), (19, iV (a_.length : Int)), (20, iV i1), (21, .bool (decide (i1 < (a_.length : Int))))] ?_
  refine Zs ?_
  refine Zc (decide (i1 < (a_.length : Int))) (fun hb1 => ?_) (fun hb1 => ?_)
  ·obtain ⟨my1, y1, rfl, hB1, hgoy1, houty1⟩ := M.for_go gx1 hb1
   have hlty1 := of_decide_eq_true hb1
   refine Run_skip ?_
   refine Zs ?_
   refine Run_block ?_
   refine Zs ?_
   refine Zq [iV i1, iV i1] [0, 2, 4, 5, 6, 19, 20] [(0, .slice aa_ a_.length ca_), (2, pV b1), (4, iV (a_.length : Int)), (5, .slice a3 s1.length c1), (6, iV i1), (19, iV (a_.length : Int)), (20, iV i1)] ?_
   refine Run_ops ?_
   obtain ⟨x2, hx1, hB1⟩ := M.bind_some hB1
   obtain ⟨hx1l, hx1u, hx1⟩ := M.idx_some hx1
   have H6 : Hold h h4 [own cd24 a3 s1.length c1 s1, box b1 44 [iV 0, iV 0]] := H4.pk [1, 0]
   have H7 := H6.toRows
   obtain ⟨a5, c3, H8⟩ := H7.pinRow hx1
   have H9 : Hold h h4 [box b1 44 [iV 0, iV 0], rowsP cd2 24 a3 s1.length c1 s1 [(i1.toNat, a5, x2.length, c3, x2)]] := H8.pk [1, 0]
   refine Zr [.slice a3 s1.length c1, .slice aa_ a_.length ca_, .slice a3 s1.length c1, iV i1] 0 ?_
   refine Zz (.pointer (some (adr a3 (i1.toNat * 1)))) (Zi 22 24 1 (a3) (s1.length) (c1) .i64 (i1) Tryz.underlying22 ((H4.rd 1 rfl).cell hx1).1 hx1l hx1u) ?_
   refine Zz (.slice a5 x2.length c3) (Zl 24 (adr a3 (i1.toNat * 1)) (.slice a5 x2.length c3) (H9.cellPin 1 rfl 0 rfl)) ?_
   obtain ⟨x3, hx2, hB1⟩ := M.bind_some hB1
   refine Ze ?_
   refine ZC 65 #[.slice aa_ a_.length ca_, .slice a5 x2.length c3] (w_impl_timesVector h4 a_ aa_ ca_ (ra_.at H9.ext) x2 a5 c3 (H9.rdPin 1 rfl 0 rfl) _ _ hx2) (fun v1 h6 hp1 => ?_)
   obtain ⟨a6, c4, rfl, H10⟩ := hp1
   have H11 : Hold h h6 [own cd2 a6 x3.length c4 x3, box b1 44 [iV 0, iV 0], rowsP cd2 24 a3 s1.length c1 s1 [(i1.toNat, a5, x2.length, c3, x2)]] := H9.call H10 rfl
   refine Ze ?_
   refine E_lit1 (ey := 24) (n := x3.length) H11 (fun w => by kernel_rfl) rfl (fun a7 h7 H12 => ?_)
   obtain ⟨l2, hl2, hB1⟩ := M.bind_some hB1
   have hl2 := M.app_some hl2
   have H13 : Hold h h7 [rowsP cd2 24 a3 s1.length c1 s1 [(i1.toNat, a5, x2.length, c3, x2)], own cd24 a7 1 1 [x3], box b1 44 [iV 0, iV 0]] := H12.pk [2, 0, 1]
   have H14 := H13.ofRows
   have H15 : Hold h h7 [own cd24 a7 1 1 [x3], own cd24 a3 s1.length c1 s1, box b1 44 [iV 0, iV 0]] := H14.pk [1, 0, 2]
   have H16 : Hold h h7 [own cd24 a3 s1.length c1 s1, own cd24 a7 1 1 [x3], box b1 44 [iV 0, iV 0]] := H15.pk [1, 0, 2]
   refine Ze ?_
   refine E_app (C := cd24) (t := 22) (ty := 22) (n := s1.length) (m := 1) H16 cd24_ti rfl Tryz.underlying22 (by decide) (by kernel_rfl) hl2 (fun a8 c5 h8 H17 => ?_)
   refine Zr [.slice a8 l2.length c5] 9 ?_
   refine Zx ?_
   refine Zk [0, 2, 4, 5, 19, 20] [(0, .slice aa_ a_.length ca_), (2, pV b1), (4, iV (a_.length : Int)), (5, .slice a8 l2.length c5), (19, iV (a_.length : Int)), (20, iV i1)] ?_
   refine Run_blk ?_
   refine Zg 2 [(0, .slice aa_ a_.length ca_), (2, pV b1), (4, iV (a_.length : Int)), (5, .slice a8 l2.length c5), (19, iV (a_.length : Int)), (20, iV (i1 + 1))] ?_ ?_
   ·refine Zy (iV (i1 + 1)) (Y_eq (v := iV (w64 (i1 + 1))) (Y_pure (fun w => by kernel_rfl)) (by rw [w64_eq _ (by omega)])) ?_
    refine Zb [iV (i1 + 1)] 1 ?_
    exact Zd [0, 2, 4, 5, 19, 20]
   have H18 : Hold h h8 [box b1 44 [iV 0, iV 0], own cd24 a8 l2.length c5 l2] := H17.pk [1, 0]
   have hB1 := M.ret_some hB1
   have gx1 := hgoy1 _ hB1.symm
   exact Za [0, 2, 4, 5, 19, 20] my1 ⟨i1 + 1, l2, a8, c5, by omega, gx1, rfl, H18⟩
  ·have gx1 := M.for_end gx1 hb1
   subst gx1
   refine Run_exit (k' := _) rfl ?_
   have H19 : Hold h h4 [own cd24 a3 s1.length c1 s1, box b1 44 [iV 0, iV 0]] := H4.pk [1, 0]
   have H20 : Hold h h4 [box b1 44 [iV 0, iV 0], own cd24 a3 s1.length c1 s1] := H19.pk [1, 0]
   exact Zf [2, 4, 5] ⟨a3, c1, rfl, H20⟩

theorem w_impl_shifted_1 (h : Heap) (i : Int) (j : Int) (z0 : List (List Int)) {Sz0 : Bs} (az0 : Option Addr) (cz0 : Nat) (rz0 : Rd cd24 h Sz0 az0 cz0 z0) (bz0 : Nat) (vz0 : VarAt h bz0 22 [.slice az0 z0.length cz0]) (z1 : TRatio) (bz1 : Nat) (vz1 : VarAt h bz1 44 [iV z1.Num, iV z1.Den]) (n : Nat) (r : Int) (hF : impl_shifted_1 i j z0 z1 n = some r) :
  Fn Tryz.prog 137 #[iV i, iV j, pV bz0, pV bz1] h fun v h' => v = iV r ∧ h' = h := by
 unfold impl_shifted_1 at hF
 refine Zo [iV i, iV j, pV bz0, pV bz1] Tryz.func137 rfl (fun w0 _ => ?_)
 refine Zs ?_
 refine Zq [iV 0] [0, 1, 2, 3] [(0, iV i), (1, iV j), (2, pV bz0), (3, pV bz1)] ?_
 refine Zs ?_
 refine Zs ?_
 obtain ⟨x1, hx1, hF⟩ := M.bind_some hF
 obtain ⟨hx1l, hx1u, hx1⟩ := M.idx_some hx1
 obtain ⟨a1, c1, hc1, r1⟩ := rz0.row hx1
 obtain ⟨x2, hx2, hF⟩ := M.bind_some hF
 obtain ⟨hx2l, hx2u, hx2⟩ := M.idx_some hx2
 refine Zg 8 [(0, iV i), (1, iV j), (2, pV bz0), (3, pV bz1), (14, .bool (x2 == (-1000000000000000)))] ?_ ?_
 ·refine Zy (.slice az0 z0.length cz0) (Zl 22 (⟨bz0, 0, none⟩) (.slice az0 z0.length cz0) (VarAt.cell vz0 rfl)) ?_
  refine Zb [iV i] 1 ?_
  refine Zy (.pointer (some (adr az0 (i.toNat * 1)))) (Zi 22 24 1 (az0) (z0.length) (cz0) .i64 (i) Tryz.underlying22 (rz0.cell hx1).1 hx1l hx1u) ?_
  refine Zy (.slice a1 x1.length c1) (Zl 24 (adr az0 (i.toNat * 1)) (.slice a1 x1.length c1) hc1) ?_
  refine Zb [iV j] 4 ?_
  refine Zy (.pointer (some (adr a1 (j.toNat * 1)))) (Zi 24 2 1 (a1) (x1.length) (c1) .i64 (j) Tryz.underlying24 (r1.cell hx2).1 hx2l hx2u) ?_
  refine Zy (iV x2) (Zl 2 (adr a1 (j.toNat * 1)) (iV x2) (cd2_cell r1 hx2)) ?_
  refine Zb [.bool (x2 == (-1000000000000000))] 7 ?_
  exact Zd [0, 1, 2, 3, 14]
 refine Zc (x2 == (-1000000000000000)) (fun hb1 => ?_) (fun hb1 => ?_)
 ·have hF := (M.ite_some hF).1 hb1
  refine Zs ?_
  refine Zq [iV (-1000000000000000)] [6] [(6, iV (-1000000000000000))] ?_
  have hF := M.ret_some hF
  subst hF
  exact Run_ret1 rfl (Zt (iV (-1000000000000000))) ⟨rfl, rfl⟩
 ·have hF := (M.ite_some hF).2 hb1
  refine Run_skip ?_
  refine Zs ?_
  obtain ⟨x3, hx3, hF⟩ := M.bind_some hF
  obtain ⟨hx3l, hx3u, hx3⟩ := M.idx_some hx3
  obtain ⟨a2, c2, hc2, r2⟩ := rz0.row hx3
  obtain ⟨x4, hx4, hF⟩ := M.bind_some hF
  obtain ⟨hx4l, hx4u, hx4⟩ := M.idx_some hx4
  refine Run_draw 14 mixed (by kernel_rfl) (by kernel_rfl) (L' := [(6, iV (w64 ((w64 (z1.Den * x4)) - z1.Num)))]) ?_ ?_
  ·refine Zb [.pointer (some ⟨bz1, 1, none⟩)] 0 ?_
   refine Zy (iV z1.Den) (Zl 2 (⟨bz1, 1, none⟩) (iV z1.Den) (VarAt.cell vz1 rfl)) ?_
   refine Zy (.slice az0 z0.length cz0) (Zl 22 (⟨bz0, 0, none⟩) (.slice az0 z0.length cz0) (VarAt.cell vz0 rfl)) ?_
   refine Zb [iV i] 3 ?_
   refine Zy (.pointer (some (adr az0 (i.toNat * 1)))) (Zi 22 24 1 (az0) (z0.length) (cz0) .i64 (i) Tryz.underlying22 (rz0.cell hx3).1 hx3l hx3u) ?_
   refine Zy (.slice a2 x3.length c2) (Zl 24 (adr az0 (i.toNat * 1)) (.slice a2 x3.length c2) hc2) ?_
   refine Zb [iV j] 6 ?_
   refine Zy (.pointer (some (adr a2 (j.toNat * 1)))) (Zi 24 2 1 (a2) (x3.length) (c2) .i64 (j) Tryz.underlying24 (r2.cell hx4).1 hx4l hx4u) ?_
   refine Zy (iV x4) (Zl 2 (adr a2 (j.toNat * 1)) (iV x4) (cd2_cell r2 hx4)) ?_
   refine Zb [iV (w64 (z1.Den * x4)), pV bz1] 9 ?_
   refine Zy (iV z1.Num) (Zl 2 (⟨bz1, 0, none⟩) (iV z1.Num) (VarAt.cell vz1 rfl)) ?_
   refine Zb [iV (w64 ((w64 (z1.Den * x4)) - z1.Num)), iV (w64 ((w64 (z1.Den * x4)) - z1.Num))] 12 ?_
   exact Zd [6]
  have hF := M.ret_some hF
  subst hF
  exact Run_ret1 rfl (Zt (iV (w64 ((w64 (z1.Den * x4)) - z1.Num)))) ⟨rfl, rfl⟩

end Go.Proofs.YtelopfgolahlpaaGreat
