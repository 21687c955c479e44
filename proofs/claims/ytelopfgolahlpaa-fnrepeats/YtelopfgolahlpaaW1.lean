/-
  Walks: each Go function, called with what reads as plain data, returns what its plain program computes.
  Conditions: None beyond the given statement.
-/
import Derived.Test.YtelopfgolahlpaaW0
namespace Go.Proofs.Ytelopfgolahlpaa
open Go
attribute [local irreducible] setL setB opA fineI idleI fineB evB okB markB markBs readyB readyBs chainB lk rho pickL dropSlot tailOK
set_option maxRecDepth 100000
set_option maxHeartbeats 4000000
theorem w_spec_l02Unit (h : Heap) (n_ : Int) (n : Nat) (r : (List (List Int))) (hF : spec_l02Unit n_ n = some r) :
  Fn Try.prog 45 #[.int .i64 n_] h fun v h' => ∃ (a0 : Option Addr) (c0 : Nat), v = .slice a0 r.length c0 ∧ Hold h h' [own cd90 a0 r.length c0 r] := by
 unfold spec_l02Unit at hF
 refine Zo [.int .i64 n_] Try.func45 rfl (fun w0 _ => ?_)
 have H0 := Hold.init h
 refine Zs ?_
 refine Zq [.slice none 0 0] [0] [(0, .int .i64 n_)] ?_
 refine Zs ?_
 refine Run_ops ?_
 refine Zr [.int .i64 n_, .int .i64 n_] 0 ?_
 obtain ⟨x1, hx1, hF⟩ := M.bind_some hF
 refine Ze ?_
 refine ZC 95 #[.int .i64 n_, .int .i64 n_] (w_spec_l02Bottom h n_ n_ _ _ hx1) (fun v1 h1 hp1 => ?_)
 obtain ⟨a1, c1, rfl, H1⟩ := hp1
 have H2 : Hold h h1 [own cd90 a1 x1.length c1 x1] := H0.call H1 rfl
 refine Zr [.slice a1 x1.length c1] 3 ?_
 refine Zx ?_
 refine Zk [0, 3] [(0, .int .i64 n_), (3, .slice a1 x1.length c1)] ?_
 refine Zs ?_
 refine Zs ?_
 refine Zq [.int .i64 0] [0, 3, 4] [(0, .int .i64 n_), (3, .slice a1 x1.length c1), (4, .int .i64 0)] ?_
 obtain ⟨x2, gx2, hF⟩ := M.bind_some hF
 obtain ⟨hloy1, hhiy1, gx2⟩ := M.for_start gx2
 refine Run_join (fun L' h' => L' = [(3, .slice a1 x1.length c1)] ∧ Hold h h' [own cd90 a1 x1.length c1 x2]) ?_ ?_
 ·rintro _ h3 ⟨rfl, H4⟩
  refine Zs ?_
  refine Zq [.slice a1 x1.length c1, .slice a1 x1.length c1] [2] [(2, .slice a1 x1.length c1)] ?_
  have hF := M.ret_some hF
  subst hF
  have H9 := H4.norm
  exact Run_ret1 rfl (Zt (.slice a1 x1.length c1)) ⟨a1, c1, (by simp only [(H4.len 0 rfl)]), H9⟩
 ·refine Run_block ?_
  refine Zk [0, 3, 4] [(0, .int .i64 n_), (3, .slice a1 x1.length c1), (4, .int .i64 0)] ?_
  refine Run_loop (fun m L' h' => ∃ (i1 : Int) (s1 : (List (List Int))), 0 ≤ i1 ∧ M.forN n_ _ _ n m i1 s1 = some x2 ∧ L' = [(0, .int .i64 n_), (3, .slice a1 x1.length c1), (4, .int .i64 i1)] ∧ Hold h h' [own cd90 a1 x1.length c1 s1]) (n_ - 0 : Int).toNat ⟨0, x1, Int.le_refl _, gx2, rfl, H2⟩ ?_
  rintro my1 _ h2 ⟨i1, s1, hloy1', gx2, rfl, H3⟩
  refine Zs ?_
  refine Zs ?_
  refine Zq [.int .i64 i1, .int .i64 n_, .bool (decide (i1 < n_))] [0, 3, 4, 10] [(0, .int .i64 n_), (3, .slice a1 x1.length c1), (4, .int .i64 i1), (10, .bool (decide (i1 < n_)))] ?_
  refine Zc (decide (i1 < n_)) (fun hb1 => ?_) (fun hb1 => ?_)
  ·obtain ⟨my1, y1, rfl, hB1, hgoy1, houty1⟩ := M.for_go gx2 hb1
   have hlty1 := of_decide_eq_true hb1
   refine Run_skip ?_
   refine Zs ?_
   refine Run_block ?_
   refine Run_ops ?_
   obtain ⟨x3, hx2, hB1⟩ := M.bind_some hB1
   obtain ⟨hx2l, hx2u, hx2⟩ := M.idx_some hx2
   have H5 := H3.toRows
   obtain ⟨a2, c2, H6⟩ := H5.pinRow hx2
   obtain ⟨x4, hx3, hB1⟩ := M.bind_some hB1
   obtain ⟨hx3l, hx3u, hx3⟩ := M.idx_some hx3
   refine Zr [.slice a1 x1.length c1, .int .i64 i1] 0 ?_
   refine Zz (.pointer (some (adr a1 (i1.toNat * 1)))) (Zi 37 90 1 (a1) (x1.length) (c1) .i64 (i1) Try.underlying37 ((H3.rd 0 rfl).cell hx2).1 hx2l (by rw [← (H3.len 0 rfl)]; exact hx2u)) ?_
   refine Zz (.slice a2 x3.length c2) (Zl 90 (adr a1 (i1.toNat * 1)) (.slice a2 x3.length c2) (H6.cellPin 0 rfl 0 rfl)) ?_
   refine Zr [.int .i64 i1] 4 ?_
   refine Zz (.pointer (some (adr a2 (i1.toNat * 1)))) (Zi 90 2 1 (a2) (x3.length) (c2) .i64 (i1) Try.underlying90 ((H6.rdPin 0 rfl 0 rfl).cell hx3).1 hx3l hx3u) ?_
   obtain ⟨l1, hu1, hB1⟩ := M.bind_some hB1
   have hu1 := M.upd_some hu1
   refine Ze ?_
   refine E_put2 (C := cd2) (t := 2) (sz := 1) (j := i1) (x := 0) (v := .int .i64 0) (m2 := s1.set i1.toNat l1) H6 cd2_flat 0 rfl (by kernel_rfl) rfl (cd2_own _) (by kernel_rfl) hu1 rfl (fun h4 H7 => ?_)
   refine Zx ?_
   refine Zk [0, 3, 4] [(0, .int .i64 n_), (3, .slice a1 x1.length c1), (4, .int .i64 i1)] ?_
   refine Run_blk ?_
   refine Zg 3 [(0, .int .i64 n_), (3, .slice a1 x1.length c1), (4, .int .i64 (i1 + 1))] ?_ ?_
   ·refine Zb [.int .i64 i1] 0 ?_
    refine Zy (.int .i64 (i1 + 1)) (Y_eq (v := .int .i64 (w64 (i1 + 1))) (Y_pure (fun w => by kernel_rfl)) (by rw [w64_eq _ (by omega)])) ?_
    refine Zb [.int .i64 (i1 + 1)] 2 ?_
    exact Zd [0, 3, 4]
   have H8 := H7.ofRows
   have hB1 := M.ret_some hB1
   have gx2 := hgoy1 _ hB1.symm
   exact Za [0, 3, 4] my1 ⟨i1 + 1, (s1.set i1.toNat l1), by omega, gx2, rfl, H8⟩
  ·have gx2 := M.for_end gx2 hb1
   subst gx2
   refine Run_exit (k' := _) rfl ?_
   exact Zf [3] ⟨rfl, H3⟩

theorem w_spec_l07Flat (h : Heap) (a_ : List (List Int)) (aa_ : Option Addr) (ca_ : Nat) (ra_ : Rd cd90 h (Lt h) aa_ ca_ a_) (n : Nat) (r : (List Int)) (hF : spec_l07Flat a_ n = some r) :
  Fn Try.prog 94 #[.slice aa_ a_.length ca_] h fun v h' => ∃ (a0 : Option Addr) (c0 : Nat), v = .slice a0 r.length c0 ∧ Hold h h' [own cd2 a0 r.length c0 r] := by
 unfold spec_l07Flat at hF
 refine Zo [.slice aa_ a_.length ca_] Try.func94 rfl (fun w0 _ => ?_)
 have H0 := Hold.init h
 refine Zs ?_
 refine Zq [.slice none 0 0] [0] [(0, .slice aa_ a_.length ca_)] ?_
 refine Zs ?_
 refine Run_ops ?_
 refine Ze ?_
 refine E_lit (C := cd2) (n := 0) (l := ([] : List Int)) (cs := []) H0 (fun w => by kernel_rfl) (Enc.nil _ _) rfl (by decide) (fun a1 h1 H1 => ?_)
 refine Zr [.slice a1 0 0] 1 ?_
 refine Zx ?_
 refine Zk [0, 3] [(0, .slice aa_ a_.length ca_), (3, .slice a1 0 0)] ?_
 refine Zs ?_
 refine Zs ?_
 refine Zq [.int .i64 0] [0, 3, 4] [(0, .slice aa_ a_.length ca_), (3, .slice a1 0 0), (4, .int .i64 0)] ?_
 obtain ⟨x1, gx1, hF⟩ := M.bind_some hF
 obtain ⟨hloy1, hhiy1, gx1⟩ := M.for_start gx1
 refine Run_join (fun L' h' => ∃ (a3 : Option Addr) (c2 : Nat), L' = [(3, .slice a3 x1.length c2)] ∧ Hold h h' [own cd2 a3 x1.length c2 x1]) ?_ ?_
 ·rintro _ h3 ⟨a3, c2, rfl, H3⟩
  refine Zs ?_
  refine Zq [.slice a3 x1.length c2, .slice a3 x1.length c2] [2] [(2, .slice a3 x1.length c2)] ?_
  have hF := M.ret_some hF
  subst hF
  exact Run_ret1 rfl (Zt (.slice a3 x1.length c2)) ⟨a3, c2, rfl, H3⟩
 ·refine Run_block ?_
  have hn1 := (H1.len 0 rfl)
  have H5 : Hold h h1 [own cd2 a1 (([] : List Int).length) 0 ([] : List Int)] := by rw [hn1]; exact H1
  refine Run_keep [0, 3, 4] (L' := [(0, .slice aa_ a_.length ca_), (3, .slice a1 (([] : List Int).length) 0), (4, .int .i64 0)]) (by first | (rw [hn1]; kernel_rfl) | (simp only [hn1]; kernel_rfl) | kernel_rfl) ?_
  refine Run_loop (fun m L' h' => ∃ (i1 : Int) (s1 : (List Int)) (a2 : Option Addr) (c1 : Nat), 0 ≤ i1 ∧ M.forN (a_.length : Int) _ _ n m i1 s1 = some x1 ∧ L' = [(0, .slice aa_ a_.length ca_), (3, .slice a2 s1.length c1), (4, .int .i64 i1)] ∧ Hold h h' [own cd2 a2 s1.length c1 s1]) ((a_.length : Int) - 0 : Int).toNat ⟨0, ([] : List Int), a1, 0, Int.le_refl _, gx1, rfl, H5⟩ ?_
  rintro my1 _ h2 ⟨i1, s1, a2, c1, hloy1', gx1, rfl, H2⟩
  refine Zs ?_
  refine Zs ?_
  refine Zq [.int .i64 i1, .slice aa_ a_.length ca_, .int .i64 (a_.length : Int), .bool (decide (i1 < (a_.length : Int)))] [0, 3, 4, 9] [(0, .slice aa_ a_.length ca_), (3, .slice a2 s1.length c1), (4, .int .i64 i1), (9, .bool (decide (i1 < (a_.length : Int))))] ?_
  refine Zc (decide (i1 < (a_.length : Int))) (fun hb1 => ?_) (fun hb1 => ?_)
  ·obtain ⟨my1, y1, rfl, hB1, hgoy1, houty1⟩ := M.for_go gx1 hb1
   have hlty1 := of_decide_eq_true hb1
   refine Run_skip ?_
   refine Zs ?_
   refine Run_block ?_
   refine Run_ops ?_
   obtain ⟨x2, hx1, hB1⟩ := M.bind_some hB1
   obtain ⟨hx1l, hx1u, hx1⟩ := M.idx_some hx1
   obtain ⟨a4, c3, hc1, r1⟩ := ra_.row hx1
   refine Zr [.slice a2 s1.length c1, .slice aa_ a_.length ca_, .int .i64 i1] 0 ?_
   refine Zz (.pointer (some (adr aa_ (i1.toNat * 1)))) (Zi 37 90 1 (aa_) (a_.length) (ca_) .i64 (i1) Try.underlying37 ((ra_.at H2.ext).cell hx1).1 hx1l hx1u) ?_
   refine Zz (.slice a4 x2.length c3) (Zl 90 (adr aa_ (i1.toNat * 1)) (.slice a4 x2.length c3) (cell_at H2.ext hc1)) ?_
   obtain ⟨l1, hl1, hB1⟩ := M.bind_some hB1
   have hl1 := M.app_some hl1
   refine Ze ?_
   refine E_appR (C := cd2) (t := 90) (ty := 90) (n := s1.length) (m := x2.length) H2 cd2_copies (r1.at H2.ext) rfl cd2_ti rfl Try.underlying90 (by decide) (by kernel_rfl) hl1 (fun a5 c4 h4 H4 => ?_)
   refine Zr [.slice a5 l1.length c4] 6 ?_
   refine Zx ?_
   refine Zk [0, 3, 4] [(0, .slice aa_ a_.length ca_), (3, .slice a5 l1.length c4), (4, .int .i64 i1)] ?_
   refine Run_blk ?_
   refine Zg 3 [(0, .slice aa_ a_.length ca_), (3, .slice a5 l1.length c4), (4, .int .i64 (i1 + 1))] ?_ ?_
   ·refine Zb [.int .i64 i1] 0 ?_
    refine Zy (.int .i64 (i1 + 1)) (Y_eq (v := .int .i64 (w64 (i1 + 1))) (Y_pure (fun w => by kernel_rfl)) (by rw [w64_eq _ (by omega)])) ?_
    refine Zb [.int .i64 (i1 + 1)] 2 ?_
    exact Zd [0, 3, 4]
   have hB1 := M.ret_some hB1
   have gx1 := hgoy1 _ hB1.symm
   exact Za [0, 3, 4] my1 ⟨i1 + 1, l1, a5, c4, by omega, gx1, rfl, H4⟩
  ·have gx1 := M.for_end gx1 hb1
   subst gx1
   refine Run_exit (k' := _) rfl ?_
   exact Zf [3] ⟨a2, c1, rfl, H2⟩

theorem w_spec_l07Start (h : Heap) (a_ : List (List Int)) (aa_ : Option Addr) (ca_ : Nat) (ra_ : Rd cd90 h (Lt h) aa_ ca_ a_) (first : List (List Int)) (afirst : Option Addr) (cfirst : Nat) (rfirst : Rd cd90 h (Lt h) afirst cfirst first) (n : Nat) (r : TL07series) (hF : spec_l07Start a_ first n = some r) :
  Fn Try.prog 44 #[.slice aa_ a_.length ca_, .slice afirst first.length cfirst] h fun v h' => ∃ (b0 : Nat), ∃ (a0 : Option Addr) (c0 : Nat), ∃ (a1 : Option Addr) (c1 : Nat), ∃ (a2 : Option Addr) (c2 : Nat), v = pV b0 ∧ Ali a0 aa_ c0 ca_ r.a a_ ∧ Ali a1 afirst c1 cfirst r.last first ∧ Hold h h' [box b0 96 [.slice a0 r.a.length c0, .slice a1 r.last.length c1, .slice a2 r.lists.length c2], own cd90 a2 r.lists.length c2 r.lists] := by
 unfold spec_l07Start at hF
 refine Zo [.slice aa_ a_.length ca_, .slice afirst first.length cfirst] Try.func44 rfl (fun w0 _ => ?_)
 have H0 := Hold.init h
 refine Zs ?_
 refine Zq [.pointer none] [0, 1] [(0, .slice aa_ a_.length ca_), (1, .slice afirst first.length cfirst)] ?_
 refine Zs ?_
 refine Run_ops ?_
 refine Zr [.slice aa_ a_.length ca_, .slice afirst first.length cfirst, .slice afirst first.length cfirst] 0 ?_
 obtain ⟨x1, hx1, hF⟩ := M.bind_some hF
 refine Ze ?_
 refine ZC 94 #[.slice afirst first.length cfirst] (w_spec_l07Flat h first afirst cfirst rfirst _ _ hx1) (fun v1 h1 hp1 => ?_)
 obtain ⟨a1, c1, rfl, H1⟩ := hp1
 have H2 : Hold h h1 [own cd2 a1 x1.length c1 x1] := H0.call H1 rfl
 refine Ze ?_
 refine E_lit1 (ey := 90) (n := x1.length) H2 (fun w => by kernel_rfl) rfl (fun a2 h2 H3 => ?_)
 refine Zr [.agg #[.slice aa_ a_.length ca_, .slice afirst first.length cfirst, .slice a2 1 1]] 5 ?_
 refine Ze ?_
 refine E_box (ty := 96) (cs := [.slice aa_ a_.length ca_, .slice afirst first.length cfirst, .slice a2 1 1]) H3 (fun w => by kernel_rfl) (fun b1 h3 H4 => ?_)
 refine Zr [pV b1] 7 ?_
 refine Zx ?_
 refine Zk [4] [(4, pV b1)] ?_
 have hF := M.ret_some hF
 subst hF
 have H5 : Hold h h3 [own cd90 a2 1 1 [x1], box b1 96 [.slice aa_ a_.length ca_, .slice afirst first.length cfirst, .slice a2 1 1]] := H4.pk [1, 0]
 have H6 := H5.norm
 have H7 : Hold h h3 [box b1 96 [.slice aa_ a_.length ca_, .slice afirst first.length cfirst, .slice a2 1 1], own cd90 a2 ([x1].length) 1 [x1]] := H6.pk [1, 0]
 exact Run_ret1 rfl (Zt (pV b1)) ⟨b1, aa_, ca_, afirst, cfirst, a2, 1, (by simp only [(H5.len 0 rfl)]), .inl ⟨rfl, rfl, rfl⟩, .inl ⟨rfl, rfl, rfl⟩, H7⟩

theorem w_spec_l01Times (h : Heap) (a_ : Int) (b : Int) (n : Nat) (r : Int) (hF : spec_l01Times a_ b n = some r) :
  Fn Try.prog 102 #[.int .i64 a_, .int .i64 b] h fun v h' => v = .int .i64 r ∧ h' = h := by
 unfold spec_l01Times at hF
 refine Zo [.int .i64 a_, .int .i64 b] Try.func102 rfl (fun w0 _ => ?_)
 refine Zs ?_
 refine Zq [.int .i64 0] [0, 1] [(0, .int .i64 a_), (1, .int .i64 b)] ?_
 refine Zs ?_
 refine Zs ?_
 refine Zg 6 [(0, .int .i64 a_), (1, .int .i64 b), (10, .bool ((a_ == (-1000000000000000)) || (b == (-1000000000000000))))] ?_ ?_
 ·refine Zb [.int .i64 a_, .bool (a_ == (-1000000000000000))] 0 ?_
  refine QRun_seq 6 [(0, .int .i64 a_), (1, .int .i64 b), (10, .bool ((a_ == (-1000000000000000)) || (b == (-1000000000000000))))] ?_ ?_
  ·rcases Bool.eq_false_or_eq_true (a_ == (-1000000000000000)) with hb1 | hb1
   ·refine Zv (a_ == (-1000000000000000)) true hb1 ?_
    refine Zn ?_
    refine Zn ?_
    refine QRun_bool true ((a_ == (-1000000000000000)) || (b == (-1000000000000000))) (by kernel_rfl) (fun w => by kernel_rfl) (by rw [hb1]; rfl) ?_
    exact Zd [0, 1, 10]
   ·refine Zv (a_ == (-1000000000000000)) false hb1 ?_
    refine Zb [.int .i64 b, .bool (b == (-1000000000000000))] 3 ?_
    refine QRun_bool (b == (-1000000000000000)) ((a_ == (-1000000000000000)) || (b == (-1000000000000000))) (by kernel_rfl) (fun w => by kernel_rfl) (by rw [hb1]; rfl) ?_
    exact Zd [0, 1, 10]
  exact Zd [0, 1, 10]
 refine Zc ((a_ == (-1000000000000000)) || (b == (-1000000000000000))) (fun hb2 => ?_) (fun hb2 => ?_)
 ·have hF := (M.ite_some hF).1 hb2
  refine Zs ?_
  refine Zq [.int .i64 (-1000000000000000)] [4] [(4, .int .i64 (-1000000000000000))] ?_
  have hF := M.ret_some hF
  subst hF
  exact Run_ret1 rfl (Zt (.int .i64 (-1000000000000000))) ⟨rfl, rfl⟩
 ·have hF := (M.ite_some hF).2 hb2
  refine Run_skip ?_
  refine Zs ?_
  refine Zq [.int .i64 a_, .int .i64 b, .int .i64 (w64 (a_ + b)), .int .i64 (w64 (a_ + b))] [4] [(4, .int .i64 (w64 (a_ + b)))] ?_
  have hF := M.ret_some hF
  subst hF
  exact Run_ret1 rfl (Zt (.int .i64 (w64 (a_ + b)))) ⟨rfl, rfl⟩

theorem w_spec_l02Multiply (h : Heap) (a_ : List (List Int)) (aa_ : Option Addr) (ca_ : Nat) (ra_ : Rd cd90 h (Lt h) aa_ ca_ a_) (b : List (List Int)) (ab : Option Addr) (cb : Nat) (rb : Rd cd90 h (Lt h) ab cb b) (n : Nat) (r : (List (List Int))) (hF : spec_l02Multiply a_ b n = some r) :
  Fn Try.prog 101 #[.slice aa_ a_.length ca_, .slice ab b.length cb] h fun v h' => ∃ (a0 : Option Addr) (c0 : Nat), v = .slice a0 r.length c0 ∧ Hold h h' [own cd90 a0 r.length c0 r] := by
 unfold spec_l02Multiply at hF
 refine Zo [.slice aa_ a_.length ca_, .slice ab b.length cb] Try.func101 rfl (fun w0 _ => ?_)
 have H0 := Hold.init h
 refine Zs ?_
 refine Zq [.slice none 0 0] [0, 1] [(0, .slice aa_ a_.length ca_), (1, .slice ab b.length cb)] ?_
 refine Zs ?_
 refine Run_ops ?_
 obtain ⟨x1, hx1, hF⟩ := M.bind_some hF
 obtain ⟨hx1l, hx1u, hx1⟩ := M.idx_some hx1
 obtain ⟨a1, c1, hc1, r1⟩ := rb.row hx1
 refine Zr [.slice aa_ a_.length ca_, .int .i64 (a_.length : Int), .slice ab b.length cb] 0 ?_
 refine Zz (.pointer (some (adr ab (0 * 1)))) (Zi 37 90 1 (ab) (b.length) (cb) .i64 (0) Try.underlying37 (rb.cell hx1).1 hx1l hx1u) ?_
 refine Zz (.slice a1 x1.length c1) (Zl 90 (adr ab (0 * 1)) (.slice a1 x1.length c1) hc1) ?_
 refine Zr [.int .i64 (x1.length : Int)] 5 ?_
 obtain ⟨x2, hx2, hF⟩ := M.bind_some hF
 refine Ze ?_
 refine ZC 95 #[.int .i64 (a_.length : Int), .int .i64 (x1.length : Int)] (w_spec_l02Bottom h (a_.length : Int) (x1.length : Int) _ _ hx2) (fun v1 h1 hp1 => ?_)
 obtain ⟨a2, c2, rfl, H1⟩ := hp1
 have H2 : Hold h h1 [own cd90 a2 x2.length c2 x2] := H0.call H1 rfl
 refine Zr [.slice a2 x2.length c2] 7 ?_
 refine Zx ?_
 refine Zk [0, 1, 5] [(0, .slice aa_ a_.length ca_), (1, .slice ab b.length cb), (5, .slice a2 x2.length c2)] ?_
 refine Zs ?_
 refine Zs ?_
 refine Zq [.int .i64 0] [0, 1, 5, 6] [(0, .slice aa_ a_.length ca_), (1, .slice ab b.length cb), (5, .slice a2 x2.length c2), (6, .int .i64 0)] ?_
 obtain ⟨x3, gx3, hF⟩ := M.bind_some hF
 obtain ⟨hloy1, hhiy1, gx3⟩ := M.for_start gx3
 refine Run_join (fun L' h' => L' = [(5, .slice a2 x2.length c2)] ∧ Hold h h' [own cd90 a2 x2.length c2 x3]) ?_ ?_
 ·rintro _ h3 ⟨rfl, H4⟩
  refine Zs ?_
  refine Zq [.slice a2 x2.length c2, .slice a2 x2.length c2] [4] [(4, .slice a2 x2.length c2)] ?_
  have hF := M.ret_some hF
  subst hF
  have H16 := H4.norm
  exact Run_ret1 rfl (Zt (.slice a2 x2.length c2)) ⟨a2, c2, (by simp only [(H4.len 0 rfl)]), H16⟩
 ·refine Run_block ?_
  refine Zk [0, 1, 5, 6] [(0, .slice aa_ a_.length ca_), (1, .slice ab b.length cb), (5, .slice a2 x2.length c2), (6, .int .i64 0)] ?_
  refine Run_loop (fun m L' h' => ∃ (i1 : Int) (s1 : (List (List Int))), 0 ≤ i1 ∧ M.forN (a_.length : Int) _ _ n m i1 s1 = some x3 ∧ L' = [(0, .slice aa_ a_.length ca_), (1, .slice ab b.length cb), (5, .slice a2 x2.length c2), (6, .int .i64 i1)] ∧ Hold h h' [own cd90 a2 x2.length c2 s1]) ((a_.length : Int) - 0 : Int).toNat ⟨0, x2, Int.le_refl _, gx3, rfl, H2⟩ ?_
  rintro my1 _ h2 ⟨i1, s1, hloy1', gx3, rfl, H3⟩
  refine Zs ?_
  refine Zs ?_
  refine Zq [.int .i64 i1, .slice aa_ a_.length ca_, .int .i64 (a_.length : Int), .bool (decide (i1 < (a_.length : Int)))] [0, 1, 5, 6, 19] [(0, .slice aa_ a_.length ca_), (1, .slice ab b.length cb), (5, .slice a2 x2.length c2), (6, .int .i64 i1), (19, .bool (decide (i1 < (a_.length : Int))))] ?_
  refine Zc (decide (i1 < (a_.length : Int))) (fun hb1 => ?_) (fun hb1 => ?_)
  ·obtain ⟨my1, y1, rfl, hB1, hgoy1, houty1⟩ := M.for_go gx3 hb1
   have hlty1 := of_decide_eq_true hb1
   refine Run_skip ?_
   refine Zs ?_
   refine Run_block ?_
   refine Zs ?_
   refine Zq [.int .i64 0] [0, 1, 5, 6, 7] [(0, .slice aa_ a_.length ca_), (1, .slice ab b.length cb), (5, .slice a2 x2.length c2), (6, .int .i64 i1), (7, .int .i64 0)] ?_
   obtain ⟨x4, gx4, hB1⟩ := M.bind_some hB1
   refine Run_join (fun L' h' => L' = [(0, .slice aa_ a_.length ca_), (1, .slice ab b.length cb), (5, .slice a2 x2.length c2), (6, .int .i64 i1)] ∧ Hold h h' [own cd90 a2 x2.length c2 x4.1]) ?_ ?_
   ·rintro _ h5 ⟨rfl, H6⟩
    refine Run_blk ?_
    refine Zg 3 [(0, .slice aa_ a_.length ca_), (1, .slice ab b.length cb), (5, .slice a2 x2.length c2), (6, .int .i64 (i1 + 1))] ?_ ?_
    ·refine Zb [.int .i64 i1] 0 ?_
     refine Zy (.int .i64 (i1 + 1)) (Y_eq (v := .int .i64 (w64 (i1 + 1))) (Y_pure (fun w => by kernel_rfl)) (by rw [w64_eq _ (by omega)])) ?_
     refine Zb [.int .i64 (i1 + 1)] 2 ?_
     exact Zd [0, 1, 5, 6]
    have hB1 := M.ret_some hB1
    have gx3 := hgoy1 _ hB1.symm
    exact Za [0, 1, 5, 6] my1 ⟨i1 + 1, x4.1, by omega, gx3, rfl, H6⟩
   ·refine Run_block ?_
    refine Zk [0, 1, 5, 6, 7] [(0, .slice aa_ a_.length ca_), (1, .slice ab b.length cb), (5, .slice a2 x2.length c2), (6, .int .i64 i1), (7, .int .i64 0)] ?_
    refine Run_loop (fun m L' h' => ∃ (s2 : (List (List Int)) × Int), M.loopN _ n m s2 = some x4 ∧ L' = [(0, .slice aa_ a_.length ca_), (1, .slice ab b.length cb), (5, .slice a2 x2.length c2), (6, .int .i64 i1), (7, .int .i64 s2.2)] ∧ Hold h h' [own cd90 a2 x2.length c2 s2.1]) n ⟨(s1, 0), gx4, rfl, H3⟩ ?_
    rintro my2 _ h4 ⟨s2, gx4, rfl, H5⟩
    obtain ⟨my2, y2, rfl, hB2, hgoy2, houty2⟩ := M.loop_some gx4
    refine Zs ?_
    refine Zs ?_
    obtain ⟨x5, hx3, hB2⟩ := M.bind_some hB2
    obtain ⟨hx3l, hx3u, hx3⟩ := M.idx_some hx3
    obtain ⟨a3, c3, hc2, r2⟩ := rb.row hx3
    refine Zg 6 [(0, .slice aa_ a_.length ca_), (1, .slice ab b.length cb), (5, .slice a2 x2.length c2), (6, .int .i64 i1), (7, .int .i64 s2.2), (27, .bool (decide (s2.2 < (x5.length : Int))))] ?_ ?_
    ·refine Zb [.int .i64 s2.2, .slice ab b.length cb] 0 ?_
     refine Zy (.pointer (some (adr ab (0 * 1)))) (Zi 37 90 1 (ab) (b.length) (cb) .i64 (0) Try.underlying37 ((rb.at H5.ext).cell hx3).1 hx3l hx3u) ?_
     refine Zy (.slice a3 x5.length c3) (Zl 90 (adr ab (0 * 1)) (.slice a3 x5.length c3) (cell_at H5.ext hc2)) ?_
     refine Zb [.int .i64 (x5.length : Int), .bool (decide (s2.2 < (x5.length : Int)))] 4 ?_
     exact Zd [0, 1, 5, 6, 7, 27]
    refine Zc (decide (s2.2 < (x5.length : Int))) (fun hb2 => ?_) (fun hb2 => ?_)
    ·have hB2 := (M.ite_some hB2).1 hb2
     refine Run_skip ?_
     refine Zs ?_
     refine Run_block ?_
     refine Zs ?_
     refine Zq [.int .i64 0] [0, 1, 5, 6, 7, 8] [(0, .slice aa_ a_.length ca_), (1, .slice ab b.length cb), (5, .slice a2 x2.length c2), (6, .int .i64 i1), (7, .int .i64 s2.2), (8, .int .i64 0)] ?_
     obtain ⟨x6, gx6, hB2⟩ := M.bind_some hB2
     obtain ⟨hloy3, hhiy3, gx6⟩ := M.for_start gx6
     refine Run_join (fun L' h' => L' = [(0, .slice aa_ a_.length ca_), (1, .slice ab b.length cb), (5, .slice a2 x2.length c2), (6, .int .i64 i1), (7, .int .i64 s2.2)] ∧ Hold h h' [own cd90 a2 x2.length c2 x6]) ?_ ?_
     ·rintro _ h7 ⟨rfl, H8⟩
      refine Run_blk ?_
      refine Zq [.int .i64 s2.2, .int .i64 (w64 (s2.2 + 1)), .int .i64 (w64 (s2.2 + 1))] [0, 1, 5, 6, 7] [(0, .slice aa_ a_.length ca_), (1, .slice ab b.length cb), (5, .slice a2 x2.length c2), (6, .int .i64 i1), (7, .int .i64 (w64 (s2.2 + 1)))] ?_
      have hB2 := M.ret_some hB2
      have gx4 := hgoy2 _ hB2.symm
      exact Za [0, 1, 5, 6, 7] my2 ⟨(x6, (w64 (s2.2 + 1))), gx4, rfl, H8⟩
     ·refine Run_block ?_
      refine Zk [0, 1, 5, 6, 7, 8] [(0, .slice aa_ a_.length ca_), (1, .slice ab b.length cb), (5, .slice a2 x2.length c2), (6, .int .i64 i1), (7, .int .i64 s2.2), (8, .int .i64 0)] ?_
      refine Run_loop (fun m L' h' => ∃ (i2 : Int) (s3 : (List (List Int))), 0 ≤ i2 ∧ M.forN (b.length : Int) _ _ n m i2 s3 = some x6 ∧ L' = [(0, .slice aa_ a_.length ca_), (1, .slice ab b.length cb), (5, .slice a2 x2.length c2), (6, .int .i64 i1), (7, .int .i64 s2.2), (8, .int .i64 i2)] ∧ Hold h h' [own cd90 a2 x2.length c2 s3]) ((b.length : Int) - 0 : Int).toNat ⟨0, s2.1, Int.le_refl _, gx6, rfl, H5⟩ ?_
      rintro my3 _ h6 ⟨i2, s3, hloy3', gx6, rfl, H7⟩
      refine Zs ?_
      refine Zs ?_
      refine Zq [.int .i64 i2, .slice ab b.length cb, .int .i64 (b.length : Int), .bool (decide (i2 < (b.length : Int)))] [0, 1, 5, 6, 7, 8, 33] [(0, .slice aa_ a_.length ca_), (1, .slice ab b.length cb), (5, .slice a2 x2.length c2), (6, .int .i64 i1), (7, .int .i64 s2.2), (8, .int .i64 i2), (33, .bool (decide (i2 < (b.length : Int))))] ?_
      refine Zc (decide (i2 < (b.length : Int))) (fun hb3 => ?_) (fun hb3 => ?_)
      ·obtain ⟨my3, y3, rfl, hB3, hgoy3, houty3⟩ := M.for_go gx6 hb3
       have hlty3 := of_decide_eq_true hb3
       refine Run_skip ?_
       refine Zs ?_
       refine Run_block ?_
       obtain ⟨x7, hx4, hB3⟩ := M.bind_some hB3
       obtain ⟨hx4l, hx4u, hx4⟩ := M.idx_some hx4
       have H9 := H7.toRows
       obtain ⟨a4, c4, H10⟩ := H9.pinRow hx4
       obtain ⟨x8, hx5, hB3⟩ := M.bind_some hB3
       obtain ⟨hx5l, hx5u, hx5⟩ := M.idx_some hx5
       obtain ⟨a5, c5, H11⟩ := H10.pinRow hx5
       obtain ⟨x9, hx6, hB3⟩ := M.bind_some hB3
       obtain ⟨hx6l, hx6u, hx6⟩ := M.idx_some hx6
       obtain ⟨x10, hx7, hB3⟩ := M.bind_some hB3
       obtain ⟨hx7l, hx7u, hx7⟩ := M.idx_some hx7
       obtain ⟨a6, c6, hc3, r3⟩ := ra_.row hx7
       obtain ⟨x11, hx8, hB3⟩ := M.bind_some hB3
       obtain ⟨hx8l, hx8u, hx8⟩ := M.idx_some hx8
       obtain ⟨x12, hx9, hB3⟩ := M.bind_some hB3
       obtain ⟨hx9l, hx9u, hx9⟩ := M.idx_some hx9
       obtain ⟨a7, c7, hc4, r4⟩ := rb.row hx9
       obtain ⟨x13, hx10, hB3⟩ := M.bind_some hB3
       obtain ⟨hx10l, hx10u, hx10⟩ := M.idx_some hx10
       obtain ⟨x14, hx11, hB3⟩ := M.bind_some hB3
       obtain ⟨x15, hx12, hB3⟩ := M.bind_some hB3
       obtain ⟨hx12l, hx12u, hx12⟩ := M.idx_some hx12
       refine Run_D (fun x => Hold h x [rowsP cd2 90 a2 x2.length c2 s3 [(i1.toNat, a5, x8.length, c5, x8), (i1.toNat, a4, x7.length, c4, x7)]]) (fun x => Hold h x [rowsP cd2 90 a2 x2.length c2 s3 [(i1.toNat, a5, x8.length, c5, x8), (i1.toNat, a4, x7.length, c4, x7)]]) mixed (by kernel_rfl) H11 Hold.stable (fun x Hy => (show Hold h x [rowsP cd2 90 a2 x2.length c2 s3 [(i1.toNat, a5, x8.length, c5, x8), (i1.toNat, a4, x7.length, c4, x7)]] from Hy).pk [0]) ?_
       refine ZB 28 [.slice a2 x2.length c2, .int .i64 i1] 0 ?_
       refine ZY 27 2 (.pointer (some (adr a2 (i1.toNat * 1)))) (fun hx Hx => (YE.of (Zi 37 90 1 (a2) (x2.length) (c2) .i64 (i1) Try.underlying37 ((H7.rd 0 rfl).cell hx4).1 hx4l (by rw [← (H7.len 0 rfl)]; exact hx4u)))) ?_
       refine ZY 26 3 (.slice a4 x7.length c4) (fun hx Hx => (YE.of (Zl 90 (adr a2 (i1.toNat * 1)) (.slice a4 x7.length c4) (Hx.cellPin 0 rfl 1 rfl)))) ?_
       refine ZB 23 [.int .i64 s2.2, .slice a2 x2.length c2, .int .i64 i1] 4 ?_
       refine ZY 22 7 (.pointer (some (adr a2 (i1.toNat * 1)))) (fun hx Hx => (YE.of (Zi 37 90 1 (a2) (x2.length) (c2) .i64 (i1) Try.underlying37 ((H10.rdRows 0 rfl).cell hx5).1 hx5l (by rw [← (H10.lenRows 0 rfl)]; exact hx5u)))) ?_
       refine ZY 21 8 (.slice a5 x8.length c5) (fun hx Hx => (YE.of (Zl 90 (adr a2 (i1.toNat * 1)) (.slice a5 x8.length c5) (Hx.cellPin 0 rfl 0 rfl)))) ?_
       refine ZB 20 [.int .i64 s2.2] 9 ?_
       refine ZY 19 10 (.pointer (some (adr a5 (s2.2.toNat * 1)))) (fun hx Hx => (YE.of (Zi 90 2 1 (a5) (x8.length) (c5) .i64 (s2.2) Try.underlying90 ((H11.rdPin 0 rfl 0 rfl).cell hx6).1 hx6l hx6u))) ?_
       refine ZY 18 11 (.int .i64 x9) (fun hx Hx => (YE.of (Zl 2 (adr a5 (s2.2.toNat * 1)) (.int .i64 x9) (cd2_cell (Hx.rdPin 0 rfl 0 rfl) hx6)))) ?_
       refine ZB 16 [.slice aa_ a_.length ca_, .int .i64 i1] 12 ?_
       refine ZY 15 14 (.pointer (some (adr aa_ (i1.toNat * 1)))) (fun hx Hx => (YE.of (Zi 37 90 1 (aa_) (a_.length) (ca_) .i64 (i1) Try.underlying37 ((ra_.at H11.ext).cell hx7).1 hx7l hx7u))) ?_
       refine ZY 14 15 (.slice a6 x10.length c6) (fun hx Hx => (YE.of (Zl 90 (adr aa_ (i1.toNat * 1)) (.slice a6 x10.length c6) (cell_at Hx.ext hc3)))) ?_
       refine ZB 13 [.int .i64 i2] 16 ?_
       refine ZY 12 17 (.pointer (some (adr a6 (i2.toNat * 1)))) (fun hx Hx => (YE.of (Zi 90 2 1 (a6) (x10.length) (c6) .i64 (i2) Try.underlying90 ((r3.at H11.ext).cell hx8).1 hx8l hx8u))) ?_
       refine ZY 11 18 (.int .i64 x11) (fun hx Hx => (YE.of (Zl 2 (adr a6 (i2.toNat * 1)) (.int .i64 x11) (cd2_cell (r3.at Hx.ext) hx8)))) ?_
       refine ZB 9 [.slice ab b.length cb, .int .i64 i2] 19 ?_
       refine ZY 8 21 (.pointer (some (adr ab (i2.toNat * 1)))) (fun hx Hx => (YE.of (Zi 37 90 1 (ab) (b.length) (cb) .i64 (i2) Try.underlying37 ((rb.at H11.ext).cell hx9).1 hx9l hx9u))) ?_
       refine ZY 7 22 (.slice a7 x12.length c7) (fun hx Hx => (YE.of (Zl 90 (adr ab (i2.toNat * 1)) (.slice a7 x12.length c7) (cell_at Hx.ext hc4)))) ?_
       refine ZB 6 [.int .i64 s2.2] 23 ?_
       refine ZY 5 24 (.pointer (some (adr a7 (s2.2.toNat * 1)))) (fun hx Hx => (YE.of (Zi 90 2 1 (a7) (x12.length) (c7) .i64 (s2.2) Try.underlying90 ((r4.at H11.ext).cell hx10).1 hx10l hx10u))) ?_
       refine ZY 4 25 (.int .i64 x13) (fun hx Hx => (YE.of (Zl 2 (adr a7 (s2.2.toNat * 1)) (.int .i64 x13) (cd2_cell (r4.at Hx.ext) hx10)))) ?_
       refine ZY 3 26 (.int .i64 x14) (fun hx Hx => (YE.of (ZQ 102 #[.int .i64 x11, .int .i64 x13] (w_spec_l01Times hx x11 x13 _ _ hx11)))) ?_
       refine ZB 2 [.int .i64 (mx x9 x14)] 27 ?_
       refine ZY 1 28 (.pointer (some (adr a4 (s2.2.toNat * 1)))) (fun hx Hx => (YE.of (Zi 90 2 1 (a4) (x7.length) (c4) .i64 (s2.2) Try.underlying90 ((H11.rdPin 0 rfl 1 rfl).cell hx12).1 hx12l hx12u))) ?_
       refine ZT 29 (fun h8 H12 => ?_)
       have H13 : Hold h h8 [rowsP cd2 90 a2 x2.length c2 s3 [(i1.toNat, a5, x8.length, c5, x8), (i1.toNat, a4, x7.length, c4, x7)]] := H12
       obtain ⟨l1, hu1, hB3⟩ := M.bind_some hB3
       have hu1 := M.upd_some hu1
       refine Ze ?_
       refine E_put2 (C := cd2) (t := 2) (sz := 1) (j := s2.2) (x := (mx x9 x14)) (v := .int .i64 (mx x9 x14)) (m2 := s3.set i1.toNat l1) H13 cd2_flat 1 rfl (by kernel_rfl) rfl (cd2_own _) (by kernel_rfl) hu1 rfl (fun h9 H14 => ?_)
       refine Zx ?_
       refine Zk [0, 1, 5, 6, 7, 8] [(0, .slice aa_ a_.length ca_), (1, .slice ab b.length cb), (5, .slice a2 x2.length c2), (6, .int .i64 i1), (7, .int .i64 s2.2), (8, .int .i64 i2)] ?_
       refine Run_blk ?_
       refine Zg 3 [(0, .slice aa_ a_.length ca_), (1, .slice ab b.length cb), (5, .slice a2 x2.length c2), (6, .int .i64 i1), (7, .int .i64 s2.2), (8, .int .i64 (i2 + 1))] ?_ ?_
       ·refine Zb [.int .i64 i2] 0 ?_
        refine Zy (.int .i64 (i2 + 1)) (Y_eq (v := .int .i64 (w64 (i2 + 1))) (Y_pure (fun w => by kernel_rfl)) (by rw [w64_eq _ (by omega)])) ?_
        refine Zb [.int .i64 (i2 + 1)] 2 ?_
        exact Zd [0, 1, 5, 6, 7, 8]
       have H15 := H14.ofRows
       have hB3 := M.ret_some hB3
       have gx6 := hgoy3 _ hB3.symm
       exact Za [0, 1, 5, 6, 7, 8] my3 ⟨i2 + 1, (s3.set i1.toNat l1), by omega, gx6, rfl, H15⟩
      ·have gx6 := M.for_end gx6 hb3
       subst gx6
       refine Run_exit (k' := _) rfl ?_
       exact Zf [0, 1, 5, 6, 7] ⟨rfl, H7⟩
    ·have hB2 := (M.ite_some hB2).2 hb2
     refine Run_exit (k' := _) rfl ?_
     have hB2 := M.ret_some hB2
     have gx4 := houty2 _ hB2.symm
     subst gx4
     exact Zf [0, 1, 5, 6] ⟨rfl, H5⟩
  ·have gx3 := M.for_end gx3 hb1
   subst gx3
   refine Run_exit (k' := _) rfl ?_
   exact Zf [5] ⟨rfl, H3⟩

theorem w_spec_l07Shift (h : Heap) (x_ : List Int) (ax_ : Option Addr) (cx_ : Nat) (rx_ : Rd cd2 h (Lt h) ax_ cx_ x_) (g : Int) (n : Nat) (r : (List Int)) (hF : spec_l07Shift x_ g n = some r) :
  Fn Try.prog 57 #[.slice ax_ x_.length cx_, .int .i64 g] h fun v h' => ∃ (a0 : Option Addr) (c0 : Nat), v = .slice a0 r.length c0 ∧ Hold h h' [own cd2 a0 r.length c0 r] := by
 unfold spec_l07Shift at hF
 refine Zo [.slice ax_ x_.length cx_, .int .i64 g] Try.func57 rfl (fun w0 _ => ?_)
 have H0 := Hold.init h
 refine Zs ?_
 refine Zq [.slice none 0 0] [0, 1] [(0, .slice ax_ x_.length cx_), (1, .int .i64 g)] ?_
 refine Zs ?_
 refine Run_ops ?_
 refine Ze ?_
 refine E_lit (C := cd2) (n := 0) (l := ([] : List Int)) (cs := []) H0 (fun w => by kernel_rfl) (Enc.nil _ _) rfl (by decide) (fun a1 h1 H1 => ?_)
 refine Zr [.slice a1 0 0] 1 ?_
 refine Zx ?_
 refine Zk [0, 1, 5] [(0, .slice ax_ x_.length cx_), (1, .int .i64 g), (5, .slice a1 0 0)] ?_
 refine Zs ?_
 refine Zs ?_
 refine Zq [.int .i64 0] [0, 1, 5, 6] [(0, .slice ax_ x_.length cx_), (1, .int .i64 g), (5, .slice a1 0 0), (6, .int .i64 0)] ?_
 obtain ⟨x1, gx1, hF⟩ := M.bind_some hF
 obtain ⟨hloy1, hhiy1, gx1⟩ := M.for_start gx1
 refine Run_join (fun L' h' => ∃ (a3 : Option Addr) (c2 : Nat), L' = [(5, .slice a3 x1.length c2)] ∧ Hold h h' [own cd2 a3 x1.length c2 x1]) ?_ ?_
 ·rintro _ h3 ⟨a3, c2, rfl, H3⟩
  refine Zs ?_
  refine Zq [.slice a3 x1.length c2, .slice a3 x1.length c2] [4] [(4, .slice a3 x1.length c2)] ?_
  have hF := M.ret_some hF
  subst hF
  exact Run_ret1 rfl (Zt (.slice a3 x1.length c2)) ⟨a3, c2, rfl, H3⟩
 ·refine Run_block ?_
  have hn1 := (H1.len 0 rfl)
  have H9 : Hold h h1 [own cd2 a1 (([] : List Int).length) 0 ([] : List Int)] := by rw [hn1]; exact H1
  refine Run_keep [0, 1, 5, 6] (L' := [(0, .slice ax_ x_.length cx_), (1, .int .i64 g), (5, .slice a1 (([] : List Int).length) 0), (6, .int .i64 0)]) (by first | (rw [hn1]; kernel_rfl) | (simp only [hn1]; kernel_rfl) | kernel_rfl) ?_
  refine Run_loop (fun m L' h' => ∃ (i1 : Int) (s1 : (List Int)) (a2 : Option Addr) (c1 : Nat), 0 ≤ i1 ∧ M.forN (x_.length : Int) _ _ n m i1 s1 = some x1 ∧ L' = [(0, .slice ax_ x_.length cx_), (1, .int .i64 g), (5, .slice a2 s1.length c1), (6, .int .i64 i1)] ∧ Hold h h' [own cd2 a2 s1.length c1 s1]) ((x_.length : Int) - 0 : Int).toNat ⟨0, ([] : List Int), a1, 0, Int.le_refl _, gx1, rfl, H9⟩ ?_
  rintro my1 _ h2 ⟨i1, s1, a2, c1, hloy1', gx1, rfl, H2⟩
  refine Zs ?_
  refine Zs ?_
  refine Zq [.int .i64 i1, .slice ax_ x_.length cx_, .int .i64 (x_.length : Int), .bool (decide (i1 < (x_.length : Int)))] [0, 1, 5, 6, 11] [(0, .slice ax_ x_.length cx_), (1, .int .i64 g), (5, .slice a2 s1.length c1), (6, .int .i64 i1), (11, .bool (decide (i1 < (x_.length : Int))))] ?_
  refine Zc (decide (i1 < (x_.length : Int))) (fun hb1 => ?_) (fun hb1 => ?_)
  ·obtain ⟨my1, y1, rfl, hB1, hgoy1, houty1⟩ := M.for_go gx1 hb1
   have hlty1 := of_decide_eq_true hb1
   refine Run_skip ?_
   refine Zs ?_
   refine Run_block ?_
   refine Run_ops ?_
   obtain ⟨x2, hx1, hB1⟩ := M.bind_some hB1
   obtain ⟨hx1l, hx1u, hx1⟩ := M.idx_some hx1
   obtain ⟨x3, hx2, hB1⟩ := M.bind_some hB1
   refine Zr [.slice a2 s1.length c1, .slice ax_ x_.length cx_, .int .i64 i1] 0 ?_
   refine Zz (.pointer (some (adr ax_ (i1.toNat * 1)))) (Zi 90 2 1 (ax_) (x_.length) (cx_) .i64 (i1) Try.underlying90 ((rx_.at H2.ext).cell hx1).1 hx1l hx1u) ?_
   refine Zz (.int .i64 x2) (Zl 2 (adr ax_ (i1.toNat * 1)) (.int .i64 x2) (cd2_cell (rx_.at H2.ext) hx1)) ?_
   refine Zr [.int .i64 g] 5 ?_
   refine Zz (.int .i64 x3) (ZQ 102 #[.int .i64 x2, .int .i64 g] (w_spec_l01Times h2 x2 g _ _ hx2)) ?_
   refine Ze ?_
   refine E_lit (C := cd2) (n := 1) (l := ([x3] : List Int)) (cs := [.int .i64 x3]) H2 (fun w => by kernel_rfl) (Enc.consE (cd2_own x3 _) (Enc.nil _ _) rfl) rfl (by decide) (fun a4 h4 H4 => ?_)
   obtain ⟨l1, hl1, hB1⟩ := M.bind_some hB1
   have hl1 := M.app_some hl1
   have H5 : Hold h h4 [own cd2 a2 s1.length c1 s1, own cd2 a4 1 1 ([x3] : List Int)] := H4.pk [1, 0]
   have H6 : Hold h h4 [own cd2 a4 1 1 ([x3] : List Int), own cd2 a2 s1.length c1 s1] := H5.pk [1, 0]
   have H7 : Hold h h4 [own cd2 a2 s1.length c1 s1, own cd2 a4 1 1 ([x3] : List Int)] := H6.pk [1, 0]
   refine Ze ?_
   refine E_app (C := cd2) (t := 90) (ty := 90) (n := s1.length) (m := 1) H7 cd2_ti rfl Try.underlying90 (by decide) (by kernel_rfl) hl1 (fun a5 c3 h5 H8 => ?_)
   refine Zr [.slice a5 l1.length c3] 9 ?_
   refine Zx ?_
   refine Zk [0, 1, 5, 6] [(0, .slice ax_ x_.length cx_), (1, .int .i64 g), (5, .slice a5 l1.length c3), (6, .int .i64 i1)] ?_
   refine Run_blk ?_
   refine Zg 3 [(0, .slice ax_ x_.length cx_), (1, .int .i64 g), (5, .slice a5 l1.length c3), (6, .int .i64 (i1 + 1))] ?_ ?_
   ·refine Zb [.int .i64 i1] 0 ?_
    refine Zy (.int .i64 (i1 + 1)) (Y_eq (v := .int .i64 (w64 (i1 + 1))) (Y_pure (fun w => by kernel_rfl)) (by rw [w64_eq _ (by omega)])) ?_
    refine Zb [.int .i64 (i1 + 1)] 2 ?_
    exact Zd [0, 1, 5, 6]
   have hB1 := M.ret_some hB1
   have gx1 := hgoy1 _ hB1.symm
   exact Za [0, 1, 5, 6] my1 ⟨i1 + 1, l1, a5, c3, by omega, gx1, rfl, H8⟩
  ·have gx1 := M.for_end gx1 hb1
   subst gx1
   refine Run_exit (k' := _) rfl ?_
   exact Zf [5] ⟨a2, c1, rfl, H2⟩

theorem w_spec_l01Same (h : Heap) (a_ : List Int) {Sa_ : Bs} (aa_ : Option Addr) (ca_ : Nat) (ra_ : Rd cd2 h Sa_ aa_ ca_ a_) (b : List Int) {Sb : Bs} (ab : Option Addr) (cb : Nat) (rb : Rd cd2 h Sb ab cb b) (n : Nat) (r : Bool) (hF : spec_l01Same a_ b n = some r) :
  Fn Try.prog 56 #[.slice aa_ a_.length ca_, .slice ab b.length cb] h fun v h' => v = .bool r ∧ h' = h := by
 unfold spec_l01Same at hF
 refine Zo [.slice aa_ a_.length ca_, .slice ab b.length cb] Try.func56 rfl (fun w0 _ => ?_)
 refine Zs ?_
 refine Zq [.bool false] [0, 1] [(0, .slice aa_ a_.length ca_), (1, .slice ab b.length cb)] ?_
 refine Zs ?_
 refine Zs ?_
 refine Zq [.slice aa_ a_.length ca_, .int .i64 (a_.length : Int), .slice ab b.length cb, .int .i64 (b.length : Int), .bool ((a_.length : Int) != (b.length : Int))] [0, 1, 10] [(0, .slice aa_ a_.length ca_), (1, .slice ab b.length cb), (10, .bool ((a_.length : Int) != (b.length : Int)))] ?_
 refine Zc ((a_.length : Int) != (b.length : Int)) (fun hb1 => ?_) (fun hb1 => ?_)
 ·have hF := (M.ite_some hF).1 hb1
  refine Zs ?_
  refine Zq [.bool false] [4] [(4, .bool false)] ?_
  have hF := M.ret_some hF
  subst hF
  exact Run_ret1 rfl (Zt (.bool false)) ⟨rfl, rfl⟩
 ·have hF := (M.ite_some hF).2 hb1
  refine Run_skip ?_
  refine Zs ?_
  refine Zs ?_
  refine Zq [.int .i64 0] [0, 1, 5] [(0, .slice aa_ a_.length ca_), (1, .slice ab b.length cb), (5, .int .i64 0)] ?_
  obtain ⟨x1, gx1, hF⟩ := M.bind_some hF
  obtain ⟨hloy1, hhiy1, gx1⟩ := M.for_start gx1
  refine Run_join (fun L' h' => ∃ (s2 : Unit), x1 = .inl s2 ∧ L' = [] ∧ h = h') ?_ ?_
  ·rintro _ _ ⟨s2, es2, rfl, rfl⟩
   have hF := M.cont_inl' hF es2
   refine Zs ?_
   refine Zq [.bool true] [4] [(4, .bool true)] ?_
   have hF := M.ret_some hF
   subst hF
   exact Run_ret1 rfl (Zt (.bool true)) ⟨rfl, rfl⟩
  ·refine Run_block ?_
   refine Zk [0, 1, 5] [(0, .slice aa_ a_.length ca_), (1, .slice ab b.length cb), (5, .int .i64 0)] ?_
   refine Run_loop (fun m L' h' => ∃ (i1 : Int) (s1 : Unit), 0 ≤ i1 ∧ M.forN (a_.length : Int) _ _ n m i1 s1 = some x1 ∧ L' = [(0, .slice aa_ a_.length ca_), (1, .slice ab b.length cb), (5, .int .i64 i1)] ∧ h = h') ((a_.length : Int) - 0 : Int).toNat ⟨0, (), Int.le_refl _, gx1, rfl, rfl⟩ ?_
   rintro my1 _ _ ⟨i1, s1, hloy1', gx1, rfl, rfl⟩
   refine Zs ?_
   refine Zs ?_
   refine Zq [.int .i64 i1, .slice aa_ a_.length ca_, .int .i64 (a_.length : Int), .bool (decide (i1 < (a_.length : Int)))] [0, 1, 5, 14] [(0, .slice aa_ a_.length ca_), (1, .slice ab b.length cb), (5, .int .i64 i1), (14, .bool (decide (i1 < (a_.length : Int))))] ?_
   refine Zc (decide (i1 < (a_.length : Int))) (fun hb2 => ?_) (fun hb2 => ?_)
   ·obtain ⟨my1, y1, rfl, hB1, hgoy1, houty1⟩ := M.for_go gx1 hb2
    have hlty1 := of_decide_eq_true hb2
    refine Run_skip ?_
    refine Zs ?_
    refine Run_block ?_
    refine Zs ?_
    obtain ⟨x2, hx1, hB1⟩ := M.bind_some hB1
    obtain ⟨hx1l, hx1u, hx1⟩ := M.idx_some hx1
    obtain ⟨x3, hx2, hB1⟩ := M.bind_some hB1
    obtain ⟨hx2l, hx2u, hx2⟩ := M.idx_some hx2
    refine Run_draw 9 mixed (by kernel_rfl) (by kernel_rfl) (L' := [(0, .slice aa_ a_.length ca_), (1, .slice ab b.length cb), (5, .int .i64 i1), (25, .bool (x2 != x3))]) ?_ ?_
    ·refine Zb [.slice aa_ a_.length ca_, .int .i64 i1] 0 ?_
     refine Zy (.pointer (some (adr aa_ (i1.toNat * 1)))) (Zi 90 2 1 (aa_) (a_.length) (ca_) .i64 (i1) Try.underlying90 (ra_.cell hx1).1 hx1l hx1u) ?_
     refine Zy (.int .i64 x2) (Zl 2 (adr aa_ (i1.toNat * 1)) (.int .i64 x2) (cd2_cell ra_ hx1)) ?_
     refine Zb [.slice ab b.length cb, .int .i64 i1] 4 ?_
     refine Zy (.pointer (some (adr ab (i1.toNat * 1)))) (Zi 90 2 1 (ab) (b.length) (cb) .i64 (i1) Try.underlying90 (rb.cell hx2).1 hx2l hx2u) ?_
     refine Zy (.int .i64 x3) (Zl 2 (adr ab (i1.toNat * 1)) (.int .i64 x3) (cd2_cell rb hx2)) ?_
     refine Zb [.bool (x2 != x3)] 8 ?_
     exact Zd [0, 1, 5, 25]
    refine Zc (x2 != x3) (fun hb3 => ?_) (fun hb3 => ?_)
    ·have hB1 := (M.ite_some hB1).1 hb3
     refine Zs ?_
     refine Zq [.bool false] [4] [(4, .bool false)] ?_
     have hB1 := M.ret_some hB1
     have gx1 := houty1 _ hB1.symm
     have hF := M.cont_inr' hF gx1
     have hF := M.ret_some hF
     subst hF
     exact Run_ret1 rfl (Zt (.bool false)) ⟨rfl, rfl⟩
    ·have hB1 := (M.ite_some hB1).2 hb3
     refine Run_skip ?_
     refine Run_blk ?_
     refine Zg 3 [(0, .slice aa_ a_.length ca_), (1, .slice ab b.length cb), (5, .int .i64 (i1 + 1))] ?_ ?_
     ·refine Zb [.int .i64 i1] 0 ?_
      refine Zy (.int .i64 (i1 + 1)) (Y_eq (v := .int .i64 (w64 (i1 + 1))) (Y_pure (fun w => by kernel_rfl)) (by rw [w64_eq _ (by omega)])) ?_
      refine Zb [.int .i64 (i1 + 1)] 2 ?_
      exact Zd [0, 1, 5]
     have hB1 := M.ret_some hB1
     have gx1 := hgoy1 _ hB1.symm
     exact Za [0, 1, 5] my1 ⟨i1 + 1, (), by omega, gx1, rfl, rfl⟩
   ·have gx1 := M.for_end gx1 hb2
    subst gx1
    refine Run_exit (k' := _) rfl ?_
    exact Zf [] ⟨(), rfl, rfl, rfl⟩

theorem w_spec_l07Gap (h : Heap) (x_ : List Int) (ax_ : Option Addr) (cx_ : Nat) (rx_ : Rd cd2 h (Lt h) ax_ cx_ x_) (y_ : List Int) (ay_ : Option Addr) (cy_ : Nat) (ry_ : Rd cd2 h (Lt h) ay_ cy_ y_) (n : Nat) (r : Int × Bool) (hF : spec_l07Gap x_ y_ n = some r) :
  Fn Try.prog 93 #[.slice ax_ x_.length cx_, .slice ay_ y_.length cy_] h fun v h' => v = .tuple #[.int .i64 r.1, .bool r.2] ∧ Hold h h' [] := by
 unfold spec_l07Gap at hF
 refine Zo [.slice ax_ x_.length cx_, .slice ay_ y_.length cy_] Try.func93 rfl (fun w0 _ => ?_)
 have H0 := Hold.init h
 refine Zs ?_
 refine Zq [.int .i64 0, .bool false] [0, 1] [(0, .slice ax_ x_.length cx_), (1, .slice ay_ y_.length cy_)] ?_
 refine Zs ?_
 refine Zq [.int .i64 0] [0, 1, 6] [(0, .slice ax_ x_.length cx_), (1, .slice ay_ y_.length cy_), (6, .int .i64 0)] ?_
 refine Zs ?_
 refine Zs ?_
 refine Zq [.int .i64 0] [0, 1, 6, 7] [(0, .slice ax_ x_.length cx_), (1, .slice ay_ y_.length cy_), (6, .int .i64 0), (7, .int .i64 0)] ?_
 obtain ⟨x1, gx1, hF⟩ := M.bind_some hF
 obtain ⟨hloy1, hhiy1, gx1⟩ := M.for_start gx1
 refine Run_join (fun L' h' => L' = [(0, .slice ax_ x_.length cx_), (1, .slice ay_ y_.length cy_), (6, .int .i64 x1)] ∧ Hold h h' []) ?_ ?_
 ·rintro _ h2 ⟨rfl, H2⟩
  refine Zs ?_
  refine Run_ops ?_
  refine Zr [.int .i64 x1, .slice ax_ x_.length cx_, .int .i64 x1] 0 ?_
  obtain ⟨x7, hx5, hF⟩ := M.bind_some hF
  refine Ze ?_
  refine ZC 57 #[.slice ax_ x_.length cx_, .int .i64 x1] (w_spec_l07Shift h2 x_ ax_ cx_ (rx_.at H2.ext) x1 _ _ hx5) (fun v1 h3 hp1 => ?_)
  obtain ⟨a1, c1, rfl, H3⟩ := hp1
  have H4 : Hold h h3 [own cd2 a1 x7.length c1 x7] := H2.call H3 rfl
  obtain ⟨x8, hx6, hF⟩ := M.bind_some hF
  refine Zr [.slice ay_ y_.length cy_] 4 ?_
  refine Zz (.bool x8) (ZQ 56 #[.slice a1 x7.length c1, .slice ay_ y_.length cy_] (w_spec_l01Same h3 x7 a1 c1 (H4.rd 0 rfl) y_ ay_ cy_ (ry_.at H4.ext) _ _ hx6)) ?_
  refine Zr [.int .i64 x1, .bool x8] 6 ?_
  refine Zx ?_
  refine Zk [4, 5] [(4, .int .i64 x1), (5, .bool x8)] ?_
  have hF := M.ret_some hF
  subst hF
  have H5 : Hold h h3 [] := H4.pk []
  exact Run_ret2 rfl (Zt (.int .i64 x1)) (Zt (.bool x8)) ⟨rfl, H5⟩
 ·refine Run_block ?_
  refine Zk [0, 1, 6, 7] [(0, .slice ax_ x_.length cx_), (1, .slice ay_ y_.length cy_), (6, .int .i64 0), (7, .int .i64 0)] ?_
  refine Run_loop (fun m L' h' => ∃ (i1 : Int) (s1 : Int), 0 ≤ i1 ∧ M.forN (x_.length : Int) _ _ n m i1 s1 = some x1 ∧ L' = [(0, .slice ax_ x_.length cx_), (1, .slice ay_ y_.length cy_), (6, .int .i64 s1), (7, .int .i64 i1)] ∧ Hold h h' []) ((x_.length : Int) - 0 : Int).toNat ⟨0, 0, Int.le_refl _, gx1, rfl, H0⟩ ?_
  rintro my1 _ h1 ⟨i1, s1, hloy1', gx1, rfl, H1⟩
  refine Zs ?_
  refine Zs ?_
  refine Zq [.int .i64 i1, .slice ax_ x_.length cx_, .int .i64 (x_.length : Int), .bool (decide (i1 < (x_.length : Int)))] [0, 1, 6, 7, 11] [(0, .slice ax_ x_.length cx_), (1, .slice ay_ y_.length cy_), (6, .int .i64 s1), (7, .int .i64 i1), (11, .bool (decide (i1 < (x_.length : Int))))] ?_
  refine Zc (decide (i1 < (x_.length : Int))) (fun hb1 => ?_) (fun hb1 => ?_)
  ·obtain ⟨my1, y1, rfl, hB1, hgoy1, houty1⟩ := M.for_go gx1 hb1
   have hlty1 := of_decide_eq_true hb1
   refine Run_skip ?_
   refine Zs ?_
   refine Run_block ?_
   refine Zs ?_
   obtain ⟨x2, hx1, hB1⟩ := M.bind_some hB1
   obtain ⟨hx1l, hx1u, hx1⟩ := M.idx_some hx1
   obtain ⟨x3, gx3, hB1⟩ := M.bind_some hB1
   refine Zg 12 [(0, .slice ax_ x_.length cx_), (1, .slice ay_ y_.length cy_), (6, .int .i64 s1), (7, .int .i64 i1), (25, .bool x3)] ?_ ?_
   ·refine Zb [.slice ax_ x_.length cx_, .int .i64 i1] 0 ?_
    refine Zy (.pointer (some (adr ax_ (i1.toNat * 1)))) (Zi 90 2 1 (ax_) (x_.length) (cx_) .i64 (i1) Try.underlying90 ((rx_.at H1.ext).cell hx1).1 hx1l hx1u) ?_
    refine Zy (.int .i64 x2) (Zl 2 (adr ax_ (i1.toNat * 1)) (.int .i64 x2) (cd2_cell (rx_.at H1.ext) hx1)) ?_
    refine Zb [.bool (x2 != (-1000000000000000))] 4 ?_
    refine QRun_seq 12 [(0, .slice ax_ x_.length cx_), (1, .slice ay_ y_.length cy_), (6, .int .i64 s1), (7, .int .i64 i1), (25, .bool x3)] ?_ ?_
    ·rcases Bool.eq_false_or_eq_true (x2 != (-1000000000000000)) with hb2 | hb2
     ·refine Zv (x2 != (-1000000000000000)) true hb2 ?_
      have gx3 := (M.ite_some gx3).1 hb2
      obtain ⟨x4, hx2, gx3⟩ := M.bind_some gx3
      obtain ⟨hx2l, hx2u, hx2⟩ := M.idx_some hx2
      have gx3 := M.ret_some gx3
      refine Zb [.slice ay_ y_.length cy_, .int .i64 i1] 6 ?_
      refine Zy (.pointer (some (adr ay_ (i1.toNat * 1)))) (Zi 90 2 1 (ay_) (y_.length) (cy_) .i64 (i1) Try.underlying90 ((ry_.at H1.ext).cell hx2).1 hx2l hx2u) ?_
      refine Zy (.int .i64 x4) (Zl 2 (adr ay_ (i1.toNat * 1)) (.int .i64 x4) (cd2_cell (ry_.at H1.ext) hx2)) ?_
      refine Zb [.bool (x4 != (-1000000000000000))] 10 ?_
      refine Zv (x4 != (-1000000000000000)) x3 gx3 ?_
      exact Zd [0, 1, 6, 7, 25]
     ·refine Zv (x2 != (-1000000000000000)) false hb2 ?_
      have gx3 := M.ret_some ((M.ite_some gx3).2 hb2)
      refine Zn ?_
      refine Zn ?_
      refine Zn ?_
      refine Zn ?_
      refine Zn ?_
      refine Zv false x3 gx3 ?_
      exact Zd [0, 1, 6, 7, 25]
    exact Zd [0, 1, 6, 7, 25]
   refine Zc (x3) (fun hb3 => ?_) (fun hb3 => ?_)
   ·have hB1 := (M.ite_some hB1).1 hb3
    refine Zs ?_
    obtain ⟨x5, hx3, hB1⟩ := M.bind_some hB1
    obtain ⟨hx3l, hx3u, hx3⟩ := M.idx_some hx3
    obtain ⟨x6, hx4, hB1⟩ := M.bind_some hB1
    obtain ⟨hx4l, hx4u, hx4⟩ := M.idx_some hx4
    refine Run_draw 10 mixed (by kernel_rfl) (by kernel_rfl) (L' := [(0, .slice ax_ x_.length cx_), (1, .slice ay_ y_.length cy_), (6, .int .i64 (w64 (x5 - x6)))]) ?_ ?_
    ·refine Zb [.slice ay_ y_.length cy_, .int .i64 i1] 0 ?_
     refine Zy (.pointer (some (adr ay_ (i1.toNat * 1)))) (Zi 90 2 1 (ay_) (y_.length) (cy_) .i64 (i1) Try.underlying90 ((ry_.at H1.ext).cell hx3).1 hx3l hx3u) ?_
     refine Zy (.int .i64 x5) (Zl 2 (adr ay_ (i1.toNat * 1)) (.int .i64 x5) (cd2_cell (ry_.at H1.ext) hx3)) ?_
     refine Zb [.slice ax_ x_.length cx_, .int .i64 i1] 4 ?_
     refine Zy (.pointer (some (adr ax_ (i1.toNat * 1)))) (Zi 90 2 1 (ax_) (x_.length) (cx_) .i64 (i1) Try.underlying90 ((rx_.at H1.ext).cell hx4).1 hx4l hx4u) ?_
     refine Zy (.int .i64 x6) (Zl 2 (adr ax_ (i1.toNat * 1)) (.int .i64 x6) (cd2_cell (rx_.at H1.ext) hx4)) ?_
     refine Zb [.int .i64 (w64 (x5 - x6)), .int .i64 (w64 (x5 - x6))] 8 ?_
     exact Zd [0, 1, 6]
    refine Run_exit (k' := _) rfl ?_
    have hB1 := M.ret_some hB1
    have gx1 := houty1 _ hB1.symm
    subst gx1
    exact Zf [0, 1, 6] ⟨rfl, H1⟩
   ·have hB1 := (M.ite_some hB1).2 hb3
    refine Run_skip ?_
    refine Run_blk ?_
    refine Zg 3 [(0, .slice ax_ x_.length cx_), (1, .slice ay_ y_.length cy_), (6, .int .i64 s1), (7, .int .i64 (i1 + 1))] ?_ ?_
    ·refine Zb [.int .i64 i1] 0 ?_
     refine Zy (.int .i64 (i1 + 1)) (Y_eq (v := .int .i64 (w64 (i1 + 1))) (Y_pure (fun w => by kernel_rfl)) (by rw [w64_eq _ (by omega)])) ?_
     refine Zb [.int .i64 (i1 + 1)] 2 ?_
     exact Zd [0, 1, 6, 7]
    have hB1 := M.ret_some hB1
    have gx1 := hgoy1 _ hB1.symm
    exact Za [0, 1, 6, 7] my1 ⟨i1 + 1, s1, by omega, gx1, rfl, H1⟩
  ·have gx1 := M.for_end gx1 hb1
   subst gx1
   refine Run_exit (k' := _) rfl ?_
   exact Zf [0, 1, 6] ⟨rfl, H1⟩

theorem w_spec_l07At_BQ0 (h hE : Heap) (it : Item) (s_ : TL07series) (bs_ : Nat) (as_a : Option Addr) (cs_a : Nat) (rs_a : Rd cd90 h (Lt h) as_a cs_a s_.a) (as_last : Option Addr) (cs_last : Nat) (as_lists : Option Addr) (cs_lists : Nat) (k_ : Int) (HM : Hold h hE [box bs_ 96 [.slice as_a s_.a.length cs_a, .slice as_last s_.last.length cs_last, .slice as_lists s_.lists.length cs_lists], own cd90 as_last s_.last.length cs_last s_.last, rowsQ cd2 90 as_lists s_.lists.length cs_lists s_.lists [], it]) (n : Nat) (r : (List Int) × Bool × TL07series) (hF : spec_l07At_BQ0 s_ k_ n = some r) :
  Fn Try.prog 55 #[pV bs_, .int .i64 k_] hE fun v h' => ∃ (a0 : Option Addr) (c0 : Nat), ∃ (a1 : Option Addr) (c1 : Nat), ∃ (a2 : Option Addr) (c2 : Nat), v = .tuple #[.slice a0 r.1.length c0, .bool r.2.1] ∧ Hold h h' [box bs_ 96 [.slice as_a s_.a.length cs_a, .slice a1 r.2.2.last.length c1, .slice a2 r.2.2.lists.length c2], own cd90 a1 r.2.2.last.length c1 r.2.2.last, rowsQ cd2 90 a2 r.2.2.lists.length c2 r.2.2.lists [(a0, c0, r.1)], it] := by
 unfold spec_l07At_BQ0 at hF
 refine Zo [pV bs_, .int .i64 k_] Try.func55 rfl (fun w0 _ => ?_)
 refine Zs ?_
 refine Zq [.slice none 0 0, .bool false] [0, 1] [(0, pV bs_), (1, .int .i64 k_)] ?_
 refine Zs ?_
 obtain ⟨x1, gx1, hF⟩ := M.bind_some hF
 refine Run_join (fun L' h' => ∃ (s2 : (List (List Int)) × (List (List Int))) (a3 : Option Addr) (c3 : Nat) (a4 : Option Addr) (c4 : Nat), x1 = .inl s2 ∧ L' = [(0, pV bs_), (1, .int .i64 k_)] ∧ Hold h h' [box bs_ 96 [.slice as_a s_.a.length cs_a, .slice a3 s2.1.length c3, .slice a4 s2.2.length c4], own cd90 a3 s2.1.length c3 s2.1, rowsQ cd2 90 a4 s2.2.length c4 s2.2 [], it]) ?_ ?_
 ·rintro _ h2 ⟨s2, a3, c3, a4, c4, es2, rfl, H2⟩
  have hF := M.cont_inl' hF es2
  refine Zs ?_
  obtain ⟨x5, hx4, hF⟩ := M.bind_some hF
  obtain ⟨hx4l, hx4u, hx4⟩ := M.idx_some hx4
  have H37 : Hold h h2 [rowsQ cd2 90 a4 s2.2.length c4 s2.2 [], box bs_ 96 [.slice as_a s_.a.length cs_a, .slice a3 s2.1.length c3, .slice a4 s2.2.length c4], own cd90 a3 s2.1.length c3 s2.1, it] := H2.pk [2, 0, 1, 3]
  obtain ⟨a9, c8, hc1, H38⟩ := H37.peekRow hx4
  have H39 : Hold h h2 [box bs_ 96 [.slice as_a s_.a.length cs_a, .slice a3 s2.1.length c3, .slice a4 s2.2.length c4], own cd90 a3 s2.1.length c3 s2.1, rowsQ cd2 90 a4 s2.2.length c4 s2.2 [(a9, c8, x5)], it] := H38.pk [1, 2, 0, 3]
  refine Zg 9 [(4, .slice a9 x5.length c8), (5, .bool true)] ?_ ?_
  ·refine Zb [pV bs_, pV bs_, .pointer (some ⟨bs_, 2, none⟩)] 0 ?_
   refine Zy (.slice a4 s2.2.length c4) (Zl 37 (⟨bs_, 2, none⟩) (.slice a4 s2.2.length c4) (H2.cell 0 rfl rfl)) ?_
   refine Zb [.int .i64 k_] 4 ?_
   refine Zy (.pointer (some (adr a4 (k_.toNat * 1)))) (Zi 37 90 1 (a4) (s2.2.length) (c4) .i64 (k_) Try.underlying37 ((H2.rdQ 2 rfl).cell hx4).1 hx4l hx4u) ?_
   refine Zy (.slice a9 x5.length c8) (Zl 90 (adr a4 (k_.toNat * 1)) (.slice a9 x5.length c8) hc1) ?_
   refine Zb [.slice a9 x5.length c8, .bool true] 7 ?_
   exact Zd [4, 5]
  have hF := M.ret_some hF
  subst hF
  have H40 : Hold h h2 [rowsQ cd2 90 a4 s2.2.length c4 s2.2 [(a9, c8, x5)], box bs_ 96 [.slice as_a s_.a.length cs_a, .slice a3 s2.1.length c3, .slice a4 s2.2.length c4], own cd90 a3 s2.1.length c3 s2.1, it] := H39.pk [2, 0, 1, 3]
  have H41 : Hold h h2 [own cd90 a3 s2.1.length c3 s2.1, rowsQ cd2 90 a4 s2.2.length c4 s2.2 [(a9, c8, x5)], box bs_ 96 [.slice as_a s_.a.length cs_a, .slice a3 s2.1.length c3, .slice a4 s2.2.length c4], it] := H40.pk [2, 0, 1, 3]
  have H42 : Hold h h2 [rowsQ cd2 90 a4 s2.2.length c4 s2.2 [(a9, c8, x5)], own cd90 a3 s2.1.length c3 s2.1, box bs_ 96 [.slice as_a s_.a.length cs_a, .slice a3 s2.1.length c3, .slice a4 s2.2.length c4], it] := H41.pk [1, 0, 2, 3]
  have H43 : Hold h h2 [box bs_ 96 [.slice as_a s_.a.length cs_a, .slice a3 s2.1.length c3, .slice a4 s2.2.length c4], own cd90 a3 s2.1.length c3 s2.1, rowsQ cd2 90 a4 s2.2.length c4 s2.2 [(a9, c8, x5)], it] := H42.pk [2, 1, 0, 3]
  exact Run_ret2 rfl (Zt (.slice a9 x5.length c8)) (Zt (.bool true)) ⟨a9, c8, a3, c3, a4, c4, rfl, H43⟩
 ·refine Run_block ?_
  have H44 : Hold h hE [own cd90 as_last s_.last.length cs_last s_.last, box bs_ 96 [.slice as_a s_.a.length cs_a, .slice as_last s_.last.length cs_last, .slice as_lists s_.lists.length cs_lists], rowsQ cd2 90 as_lists s_.lists.length cs_lists s_.lists [], it] := HM.pk [1, 0, 2, 3]
  have H45 : Hold h hE [rowsQ cd2 90 as_lists s_.lists.length cs_lists s_.lists [], own cd90 as_last s_.last.length cs_last s_.last, box bs_ 96 [.slice as_a s_.a.length cs_a, .slice as_last s_.last.length cs_last, .slice as_lists s_.lists.length cs_lists], it] := H44.pk [2, 0, 1, 3]
  have H46 : Hold h hE [box bs_ 96 [.slice as_a s_.a.length cs_a, .slice as_last s_.last.length cs_last, .slice as_lists s_.lists.length cs_lists], own cd90 as_last s_.last.length cs_last s_.last, rowsQ cd2 90 as_lists s_.lists.length cs_lists s_.lists [], it] := H45.pk [2, 1, 0, 3]
  refine Zk [0, 1] [(0, pV bs_), (1, .int .i64 k_)] ?_
  refine Run_loop (fun m L' h' => ∃ (s1 : (List (List Int)) × (List (List Int))) (a1 : Option Addr) (c1 : Nat) (a2 : Option Addr) (c2 : Nat), M.loopN _ n m s1 = some x1 ∧ L' = [(0, pV bs_), (1, .int .i64 k_)] ∧ Hold h h' [box bs_ 96 [.slice as_a s_.a.length cs_a, .slice a1 s1.1.length c1, .slice a2 s1.2.length c2], own cd90 a1 s1.1.length c1 s1.1, rowsQ cd2 90 a2 s1.2.length c2 s1.2 [], it]) n ⟨(s_.last, s_.lists), as_last, cs_last, as_lists, cs_lists, gx1, rfl, H46⟩ ?_
  rintro my1 _ h1 ⟨s1, a1, c1, a2, c2, gx1, rfl, H1⟩
  obtain ⟨my1, y1, rfl, hB1, hgoy1, houty1⟩ := M.loop_some gx1
  refine Zs ?_
  refine Zs ?_
  refine Zg 7 [(0, pV bs_), (1, .int .i64 k_), (12, .bool (decide ((s1.2.length : Int) ≤ k_)))] ?_ ?_
  ·refine Zb [pV bs_, pV bs_, .pointer (some ⟨bs_, 2, none⟩)] 0 ?_
   refine Zy (.slice a2 s1.2.length c2) (Zl 37 (⟨bs_, 2, none⟩) (.slice a2 s1.2.length c2) (H1.cell 0 rfl rfl)) ?_
   refine Zb [.int .i64 (s1.2.length : Int), .int .i64 k_, .bool (decide ((s1.2.length : Int) ≤ k_))] 4 ?_
   exact Zd [0, 1, 12]
  refine Zc (decide ((s1.2.length : Int) ≤ k_)) (fun hb1 => ?_) (fun hb1 => ?_)
  ·have hB1 := (M.ite_some hB1).1 hb1
   refine Run_skip ?_
   refine Run_block ?_
   refine Zs ?_
   refine Run_D (fun x => Hold h x [box bs_ 96 [.slice as_a s_.a.length cs_a, .slice a1 s1.1.length c1, .slice a2 s1.2.length c2], own cd90 a1 s1.1.length c1 s1.1, rowsQ cd2 90 a2 s1.2.length c2 s1.2 [], it]) (fun x => Hold h x [box bs_ 96 [.slice as_a s_.a.length cs_a, .slice a1 s1.1.length c1, .slice a2 s1.2.length c2], own cd90 a1 s1.1.length c1 s1.1, rowsQ cd2 90 a2 s1.2.length c2 s1.2 [], it]) mixed (by kernel_rfl) H1 Hold.stable (fun x Hy => (show Hold h x [box bs_ 96 [.slice as_a s_.a.length cs_a, .slice a1 s1.1.length c1, .slice a2 s1.2.length c2], own cd90 a1 s1.1.length c1 s1.1, rowsQ cd2 90 a2 s1.2.length c2 s1.2 [], it] from Hy).pk [0, 1, 2, 3]) ?_
   refine ZB 9 [pV bs_, pV bs_, pV bs_, pV bs_] 0 ?_
   refine ZY 8 4 (.slice as_a s_.a.length cs_a) (fun hx Hx => (YE.of (Zl 37 (⟨bs_, 0, none⟩) (.slice as_a s_.a.length cs_a) (Hx.cell 0 rfl rfl)))) ?_
   refine ZB 5 [pV bs_, pV bs_, .pointer (some ⟨bs_, 1, none⟩)] 5 ?_
   refine ZY 4 8 (.slice a1 s1.1.length c1) (fun hx Hx => (YE.of (Zl 37 (⟨bs_, 1, none⟩) (.slice a1 s1.1.length c1) (Hx.cell 0 rfl rfl)))) ?_
   refine ZE 3 9 (fun h3 H3 => ?_)
   have H4 : Hold h h3 [box bs_ 96 [.slice as_a s_.a.length cs_a, .slice a1 s1.1.length c1, .slice a2 s1.2.length c2], own cd90 a1 s1.1.length c1 s1.1, rowsQ cd2 90 a2 s1.2.length c2 s1.2 [], it] := H3
   obtain ⟨x2, hx1, hB1⟩ := M.bind_some hB1
   refine ZC 101 #[.slice as_a s_.a.length cs_a, .slice a1 s1.1.length c1] (w_spec_l02Multiply h3 s_.a as_a cs_a (rs_a.at H4.ext) s1.1 a1 c1 (H4.rd 1 rfl) _ _ hx1) (fun v1 h4 hp1 => ?_)
   obtain ⟨a5, c5, rfl, H5⟩ := hp1
   have H6 : Hold h h4 [own cd90 a5 x2.length c5 x2, box bs_ 96 [.slice as_a s_.a.length cs_a, .slice a1 s1.1.length c1, .slice a2 s1.2.length c2], own cd90 a1 s1.1.length c1 s1.1, rowsQ cd2 90 a2 s1.2.length c2 s1.2 [], it] := H4.call H5 rfl
   refine ⟨fun x => Hold h x [box bs_ 96 [.slice as_a s_.a.length cs_a, .slice a1 s1.1.length c1, .slice a2 s1.2.length c2], own cd90 a1 s1.1.length c1 s1.1, rowsQ cd2 90 a2 s1.2.length c2 s1.2 [], it, own cd90 a5 x2.length c5 x2], fun x => Hold h x [own cd90 a5 x2.length c5 x2, box bs_ 96 [.slice as_a s_.a.length cs_a, .slice a1 s1.1.length c1, .slice a2 s1.2.length c2], own cd90 a1 s1.1.length c1 s1.1, rowsQ cd2 90 a2 s1.2.length c2 s1.2 [], it], H6, Hold.stable, fun x Hy => (show Hold h x [own cd90 a5 x2.length c5 x2, box bs_ 96 [.slice as_a s_.a.length cs_a, .slice a1 s1.1.length c1, .slice a2 s1.2.length c2], own cd90 a1 s1.1.length c1 s1.1, rowsQ cd2 90 a2 s1.2.length c2 s1.2 [], it] from Hy).pk [1, 2, 3, 4, 0], fun x Hy => (show Hold h x [box bs_ 96 [.slice as_a s_.a.length cs_a, .slice a1 s1.1.length c1, .slice a2 s1.2.length c2], own cd90 a1 s1.1.length c1 s1.1, rowsQ cd2 90 a2 s1.2.length c2 s1.2 [], it, own cd90 a5 x2.length c5 x2] from Hy).pk [0, 1, 2, 3], ?_⟩
   refine ZB 1 [pV bs_, .pointer (some ⟨bs_, 1, none⟩)] 10 ?_
   refine ZT 12 (fun h5 H7 => ?_)
   have H8 : Hold h h5 [own cd90 a5 x2.length c5 x2, box bs_ 96 [.slice as_a s_.a.length cs_a, .slice a1 s1.1.length c1, .slice a2 s1.2.length c2], own cd90 a1 s1.1.length c1 s1.1, rowsQ cd2 90 a2 s1.2.length c2 s1.2 [], it] := H7
   have H10 : Hold h h5 [box bs_ 96 [.slice as_a s_.a.length cs_a, .slice a1 s1.1.length c1, .slice a2 s1.2.length c2], own cd90 a5 x2.length c5 x2, own cd90 a1 s1.1.length c1 s1.1, rowsQ cd2 90 a2 s1.2.length c2 s1.2 [], it] := H8.pk [1, 0, 2, 3, 4]
   refine Ze ?_
   refine ZP 37 1 [.slice as_a s_.a.length cs_a, .slice a5 x2.length c5, .slice a2 s1.2.length c2] (.slice a5 x2.length c5) H10 (fun h6 H9 => ?_)
   refine Zx ?_
   refine Zk [0, 1] [(0, pV bs_), (1, .int .i64 k_)] ?_
   refine Zs ?_
   refine Zs ?_
   obtain ⟨x3, hx2, hB1⟩ := M.bind_some hB1
   refine Zg 6 [(0, pV bs_), (1, .int .i64 k_), (30, .bool (!x3))] ?_ ?_
   ·refine Zb [pV bs_, pV bs_, .pointer (some ⟨bs_, 1, none⟩)] 0 ?_
    refine Zy (.slice a5 x2.length c5) (Zl 37 (⟨bs_, 1, none⟩) (.slice a5 x2.length c5) (H9.cell 0 rfl rfl)) ?_
    refine Zy (.bool x3) (ZQ 92 #[.slice a5 x2.length c5] (w_spec_IsMatrix h6 x2 a5 c5 (H9.rd 1 rfl) _ _ hx2)) ?_
    refine Zb [.bool (!x3)] 5 ?_
    exact Zd [0, 1, 30]
   refine Zc (!x3) (fun hb2 => ?_) (fun hb2 => ?_)
   ·have hB1 := (M.ite_some hB1).1 hb2
    refine Zs ?_
    refine Zq [.slice none 0 0, .bool false] [4, 5] [(4, .slice none 0 0), (5, .bool false)] ?_
    have hB1 := M.ret_some hB1
    have gx1 := houty1 _ hB1.symm
    have hF := M.cont_inr' hF gx1
    have hF := M.ret_some hF
    subst hF
    have H11 : Hold h h6 [rowsQ cd2 90 a2 s1.2.length c2 s1.2 [], box bs_ 96 [.slice as_a s_.a.length cs_a, .slice a5 x2.length c5, .slice a2 s1.2.length c2], own cd90 a5 x2.length c5 x2, own cd90 a1 s1.1.length c1 s1.1, it] := H9.pk [3, 0, 1, 2, 4]
    have H12 := H11.nilPeek
    have H13 : Hold h h6 [own cd90 a5 x2.length c5 x2, rowsQ cd2 90 a2 s1.2.length c2 s1.2 [(none, 0, [])], box bs_ 96 [.slice as_a s_.a.length cs_a, .slice a5 x2.length c5, .slice a2 s1.2.length c2], own cd90 a1 s1.1.length c1 s1.1, it] := H12.pk [2, 0, 1, 3, 4]
    have H14 : Hold h h6 [rowsQ cd2 90 a2 s1.2.length c2 s1.2 [(none, 0, [])], own cd90 a5 x2.length c5 x2, box bs_ 96 [.slice as_a s_.a.length cs_a, .slice a5 x2.length c5, .slice a2 s1.2.length c2], own cd90 a1 s1.1.length c1 s1.1, it] := H13.pk [1, 0, 2, 3, 4]
    have H15 : Hold h h6 [box bs_ 96 [.slice as_a s_.a.length cs_a, .slice a5 x2.length c5, .slice a2 s1.2.length c2], own cd90 a5 x2.length c5 x2, rowsQ cd2 90 a2 s1.2.length c2 s1.2 [(none, 0, [])], it] := H14.pk [2, 1, 0, 4]
    exact Run_ret2 rfl (Zt (.slice none 0 0)) (Zt (.bool false)) ⟨none, 0, a5, c5, a2, c2, rfl, H15⟩
   ·have hB1 := (M.ite_some hB1).2 hb2
    refine Run_skip ?_
    refine Run_D (fun x => Hold h x [box bs_ 96 [.slice as_a s_.a.length cs_a, .slice a5 x2.length c5, .slice a2 s1.2.length c2], own cd90 a5 x2.length c5 x2, own cd90 a1 s1.1.length c1 s1.1, it]) (fun x => Hold h x [box bs_ 96 [.slice as_a s_.a.length cs_a, .slice a5 x2.length c5, .slice a2 s1.2.length c2], own cd90 a5 x2.length c5 x2, own cd90 a1 s1.1.length c1 s1.1, rowsQ cd2 90 a2 s1.2.length c2 s1.2 [], it]) mixed (by kernel_rfl) H9 Hold.stable (fun x Hy => (show Hold h x [box bs_ 96 [.slice as_a s_.a.length cs_a, .slice a5 x2.length c5, .slice a2 s1.2.length c2], own cd90 a5 x2.length c5 x2, own cd90 a1 s1.1.length c1 s1.1, rowsQ cd2 90 a2 s1.2.length c2 s1.2 [], it] from Hy).pk [0, 1, 2, 4]) ?_
    refine ZB 11 [pV bs_, pV bs_, pV bs_, .pointer (some ⟨bs_, 2, none⟩)] 0 ?_
    refine ZY 10 4 (.slice a2 s1.2.length c2) (fun hx Hx => (YE.of (Zl 37 (⟨bs_, 2, none⟩) (.slice a2 s1.2.length c2) (Hx.cell 0 rfl rfl)))) ?_
    refine ZB 7 [pV bs_, pV bs_, .pointer (some ⟨bs_, 1, none⟩)] 5 ?_
    refine ZY 6 8 (.slice a5 x2.length c5) (fun hx Hx => (YE.of (Zl 37 (⟨bs_, 1, none⟩) (.slice a5 x2.length c5) (Hx.cell 0 rfl rfl)))) ?_
    refine ZE 5 9 (fun h7 H16 => ?_)
    have H17 : Hold h h7 [box bs_ 96 [.slice as_a s_.a.length cs_a, .slice a5 x2.length c5, .slice a2 s1.2.length c2], own cd90 a5 x2.length c5 x2, own cd90 a1 s1.1.length c1 s1.1, rowsQ cd2 90 a2 s1.2.length c2 s1.2 [], it] := H16
    obtain ⟨x4, hx3, hB1⟩ := M.bind_some hB1
    refine ZC 94 #[.slice a5 x2.length c5] (w_spec_l07Flat h7 x2 a5 c5 (H17.rd 1 rfl) _ _ hx3) (fun v2 h8 hp2 => ?_)
    obtain ⟨a6, c6, rfl, H18⟩ := hp2
    have H19 : Hold h h8 [own cd2 a6 x4.length c6 x4, box bs_ 96 [.slice as_a s_.a.length cs_a, .slice a5 x2.length c5, .slice a2 s1.2.length c2], own cd90 a5 x2.length c5 x2, own cd90 a1 s1.1.length c1 s1.1, rowsQ cd2 90 a2 s1.2.length c2 s1.2 [], it] := H17.call H18 rfl
    refine ⟨fun x => Hold h x [box bs_ 96 [.slice as_a s_.a.length cs_a, .slice a5 x2.length c5, .slice a2 s1.2.length c2], own cd90 a5 x2.length c5 x2, own cd90 a1 s1.1.length c1 s1.1, it], fun x => Hold h x [own cd2 a6 x4.length c6 x4, box bs_ 96 [.slice as_a s_.a.length cs_a, .slice a5 x2.length c5, .slice a2 s1.2.length c2], own cd90 a5 x2.length c5 x2, own cd90 a1 s1.1.length c1 s1.1, rowsQ cd2 90 a2 s1.2.length c2 s1.2 [], it], H19, Hold.stable, fun x Hy => (show Hold h x [own cd2 a6 x4.length c6 x4, box bs_ 96 [.slice as_a s_.a.length cs_a, .slice a5 x2.length c5, .slice a2 s1.2.length c2], own cd90 a5 x2.length c5 x2, own cd90 a1 s1.1.length c1 s1.1, rowsQ cd2 90 a2 s1.2.length c2 s1.2 [], it] from Hy).pk [1, 2, 3, 5], fun x Hy => (show Hold h x [box bs_ 96 [.slice as_a s_.a.length cs_a, .slice a5 x2.length c5, .slice a2 s1.2.length c2], own cd90 a5 x2.length c5 x2, own cd90 a1 s1.1.length c1 s1.1, it] from Hy).pk [0, 1, 2, 3], ?_⟩
    refine ZE 4 10 (fun h9 H20 => ?_)
    have H21 : Hold h h9 [own cd2 a6 x4.length c6 x4, box bs_ 96 [.slice as_a s_.a.length cs_a, .slice a5 x2.length c5, .slice a2 s1.2.length c2], own cd90 a5 x2.length c5 x2, own cd90 a1 s1.1.length c1 s1.1, rowsQ cd2 90 a2 s1.2.length c2 s1.2 [], it] := H20
    refine E_lit1 (ey := 90) (n := x4.length) H21 (fun w => by kernel_rfl) rfl (fun a7 h10 H22 => ?_)
    refine ⟨fun x => Hold h x [box bs_ 96 [.slice as_a s_.a.length cs_a, .slice a5 x2.length c5, .slice a2 s1.2.length c2], own cd90 a5 x2.length c5 x2, own cd90 a1 s1.1.length c1 s1.1, it], fun x => Hold h x [own cd90 a7 1 1 [x4], box bs_ 96 [.slice as_a s_.a.length cs_a, .slice a5 x2.length c5, .slice a2 s1.2.length c2], own cd90 a5 x2.length c5 x2, own cd90 a1 s1.1.length c1 s1.1, rowsQ cd2 90 a2 s1.2.length c2 s1.2 [], it], H22, Hold.stable, fun x Hy => (show Hold h x [own cd90 a7 1 1 [x4], box bs_ 96 [.slice as_a s_.a.length cs_a, .slice a5 x2.length c5, .slice a2 s1.2.length c2], own cd90 a5 x2.length c5 x2, own cd90 a1 s1.1.length c1 s1.1, rowsQ cd2 90 a2 s1.2.length c2 s1.2 [], it] from Hy).pk [1, 2, 3, 5], fun x Hy => (show Hold h x [box bs_ 96 [.slice as_a s_.a.length cs_a, .slice a5 x2.length c5, .slice a2 s1.2.length c2], own cd90 a5 x2.length c5 x2, own cd90 a1 s1.1.length c1 s1.1, it] from Hy).pk [0, 1, 2, 3], ?_⟩
    refine ZE 3 11 (fun h11 H23 => ?_)
    have H24 : Hold h h11 [own cd90 a7 1 1 [x4], box bs_ 96 [.slice as_a s_.a.length cs_a, .slice a5 x2.length c5, .slice a2 s1.2.length c2], own cd90 a5 x2.length c5 x2, own cd90 a1 s1.1.length c1 s1.1, rowsQ cd2 90 a2 s1.2.length c2 s1.2 [], it] := H23
    obtain ⟨l1, hl1, hB1⟩ := M.bind_some hB1
    have hl1 := M.app_some hl1
    have H25 : Hold h h11 [rowsQ cd2 90 a2 s1.2.length c2 s1.2 [], own cd90 a7 1 1 [x4], box bs_ 96 [.slice as_a s_.a.length cs_a, .slice a5 x2.length c5, .slice a2 s1.2.length c2], own cd90 a5 x2.length c5 x2, own cd90 a1 s1.1.length c1 s1.1, it] := H24.pk [4, 0, 1, 2, 3, 5]
    refine E_appQ (C := cd2) (t := 37) (ty := 37) (tr := 90) (n := s1.2.length) (m := 1) H25 cd90_ti rfl Try.underlying37 (by decide) (by kernel_rfl) hl1 (fun a8 c7 h12 H26 => ?_)
    refine ⟨fun x => Hold h x [box bs_ 96 [.slice as_a s_.a.length cs_a, .slice a5 x2.length c5, .slice a2 s1.2.length c2], own cd90 a5 x2.length c5 x2, own cd90 a1 s1.1.length c1 s1.1, it, rowsQ cd2 90 a8 l1.length c7 l1 []], fun x => Hold h x [rowsQ cd2 90 a8 l1.length c7 l1 [], box bs_ 96 [.slice as_a s_.a.length cs_a, .slice a5 x2.length c5, .slice a2 s1.2.length c2], own cd90 a5 x2.length c5 x2, own cd90 a1 s1.1.length c1 s1.1, it], H26, Hold.stable, fun x Hy => (show Hold h x [rowsQ cd2 90 a8 l1.length c7 l1 [], box bs_ 96 [.slice as_a s_.a.length cs_a, .slice a5 x2.length c5, .slice a2 s1.2.length c2], own cd90 a5 x2.length c5 x2, own cd90 a1 s1.1.length c1 s1.1, it] from Hy).pk [1, 2, 3, 4, 0], fun x Hy => (show Hold h x [box bs_ 96 [.slice as_a s_.a.length cs_a, .slice a5 x2.length c5, .slice a2 s1.2.length c2], own cd90 a5 x2.length c5 x2, own cd90 a1 s1.1.length c1 s1.1, it, rowsQ cd2 90 a8 l1.length c7 l1 []] from Hy).pk [0, 1, 2, 3], ?_⟩
    refine ZB 1 [pV bs_, .pointer (some ⟨bs_, 2, none⟩)] 12 ?_
    refine ZT 14 (fun h13 H27 => ?_)
    have H28 : Hold h h13 [rowsQ cd2 90 a8 l1.length c7 l1 [], box bs_ 96 [.slice as_a s_.a.length cs_a, .slice a5 x2.length c5, .slice a2 s1.2.length c2], own cd90 a5 x2.length c5 x2, own cd90 a1 s1.1.length c1 s1.1, it] := H27
    have H30 : Hold h h13 [box bs_ 96 [.slice as_a s_.a.length cs_a, .slice a5 x2.length c5, .slice a2 s1.2.length c2], rowsQ cd2 90 a8 l1.length c7 l1 [], own cd90 a5 x2.length c5 x2, own cd90 a1 s1.1.length c1 s1.1, it] := H28.pk [1, 0, 2, 3, 4]
    refine Ze ?_
    refine ZP 37 2 [.slice as_a s_.a.length cs_a, .slice a5 x2.length c5, .slice a8 l1.length c7] (.slice a8 l1.length c7) H30 (fun h14 H29 => ?_)
    refine Zx ?_
    refine Zk [0, 1] [(0, pV bs_), (1, .int .i64 k_)] ?_
    refine Run_blk ?_
    have H31 : Hold h h14 [own cd90 a5 x2.length c5 x2, box bs_ 96 [.slice as_a s_.a.length cs_a, .slice a5 x2.length c5, .slice a8 l1.length c7], rowsQ cd2 90 a8 l1.length c7 l1 [], own cd90 a1 s1.1.length c1 s1.1, it] := H29.pk [2, 0, 1, 3, 4]
    have H32 : Hold h h14 [rowsQ cd2 90 a8 l1.length c7 l1 [], own cd90 a5 x2.length c5 x2, box bs_ 96 [.slice as_a s_.a.length cs_a, .slice a5 x2.length c5, .slice a8 l1.length c7], own cd90 a1 s1.1.length c1 s1.1, it] := H31.pk [2, 0, 1, 3, 4]
    have H33 : Hold h h14 [box bs_ 96 [.slice as_a s_.a.length cs_a, .slice a5 x2.length c5, .slice a8 l1.length c7], own cd90 a5 x2.length c5 x2, rowsQ cd2 90 a8 l1.length c7 l1 [], it] := H32.pk [2, 1, 0, 4]
    have hB1 := M.ret_some hB1
    have gx1 := hgoy1 _ hB1.symm
    exact Za [0, 1] my1 ⟨(x2, l1), a5, c5, a8, c7, gx1, rfl, H33⟩
  ·have hB1 := (M.ite_some hB1).2 hb1
   refine Run_exit (k' := _) rfl ?_
   have H34 : Hold h h1 [own cd90 a1 s1.1.length c1 s1.1, box bs_ 96 [.slice as_a s_.a.length cs_a, .slice a1 s1.1.length c1, .slice a2 s1.2.length c2], rowsQ cd2 90 a2 s1.2.length c2 s1.2 [], it] := H1.pk [1, 0, 2, 3]
   have H35 : Hold h h1 [rowsQ cd2 90 a2 s1.2.length c2 s1.2 [], own cd90 a1 s1.1.length c1 s1.1, box bs_ 96 [.slice as_a s_.a.length cs_a, .slice a1 s1.1.length c1, .slice a2 s1.2.length c2], it] := H34.pk [2, 0, 1, 3]
   have H36 : Hold h h1 [box bs_ 96 [.slice as_a s_.a.length cs_a, .slice a1 s1.1.length c1, .slice a2 s1.2.length c2], own cd90 a1 s1.1.length c1 s1.1, rowsQ cd2 90 a2 s1.2.length c2 s1.2 [], it] := H35.pk [2, 1, 0, 3]
   have hB1 := M.ret_some hB1
   have gx1 := houty1 _ hB1.symm
   subst gx1
   exact Zf [0, 1] ⟨(s1.1, s1.2), a1, c1, a2, c2, rfl, rfl, H36⟩

theorem w_spec_l07At_BQ1 (h hE : Heap) (it : Item) (s_ : TL07series) (bs_ : Nat) (as_a : Option Addr) (cs_a : Nat) (rs_a : Rd cd90 h (Lt h) as_a cs_a s_.a) (as_last : Option Addr) (cs_last : Nat) (as_lists : Option Addr) (cs_lists : Nat) (qas_lists0 : Option Addr) (qcs_lists0 : Nat) (qls_lists0 : List Int) (k_ : Int) (HM : Hold h hE [box bs_ 96 [.slice as_a s_.a.length cs_a, .slice as_last s_.last.length cs_last, .slice as_lists s_.lists.length cs_lists], own cd90 as_last s_.last.length cs_last s_.last, rowsQ cd2 90 as_lists s_.lists.length cs_lists s_.lists [(qas_lists0, qcs_lists0, qls_lists0)], it]) (n : Nat) (r : (List Int) × Bool × TL07series) (hF : spec_l07At_BQ1 s_ k_ n = some r) :
  Fn Try.prog 55 #[pV bs_, .int .i64 k_] hE fun v h' => ∃ (a0 : Option Addr) (c0 : Nat), ∃ (a1 : Option Addr) (c1 : Nat), ∃ (a2 : Option Addr) (c2 : Nat), v = .tuple #[.slice a0 r.1.length c0, .bool r.2.1] ∧ Hold h h' [box bs_ 96 [.slice as_a s_.a.length cs_a, .slice a1 r.2.2.last.length c1, .slice a2 r.2.2.lists.length c2], own cd90 a1 r.2.2.last.length c1 r.2.2.last, rowsQ cd2 90 a2 r.2.2.lists.length c2 r.2.2.lists [(a0, c0, r.1), (qas_lists0, qcs_lists0, qls_lists0)], it] := by
 unfold spec_l07At_BQ1 at hF
 refine Zo [pV bs_, .int .i64 k_] Try.func55 rfl (fun w0 _ => ?_)
 refine Zs ?_
 refine Zq [.slice none 0 0, .bool false] [0, 1] [(0, pV bs_), (1, .int .i64 k_)] ?_
 refine Zs ?_
 obtain ⟨x1, gx1, hF⟩ := M.bind_some hF
 refine Run_join (fun L' h' => ∃ (s2 : (List (List Int)) × (List (List Int))) (a3 : Option Addr) (c3 : Nat) (a4 : Option Addr) (c4 : Nat), x1 = .inl s2 ∧ L' = [(0, pV bs_), (1, .int .i64 k_)] ∧ Hold h h' [box bs_ 96 [.slice as_a s_.a.length cs_a, .slice a3 s2.1.length c3, .slice a4 s2.2.length c4], own cd90 a3 s2.1.length c3 s2.1, rowsQ cd2 90 a4 s2.2.length c4 s2.2 [(qas_lists0, qcs_lists0, qls_lists0)], it]) ?_ ?_
 ·rintro _ h2 ⟨s2, a3, c3, a4, c4, es2, rfl, H2⟩
  have hF := M.cont_inl' hF es2
  refine Zs ?_
  obtain ⟨x5, hx4, hF⟩ := M.bind_some hF
  obtain ⟨hx4l, hx4u, hx4⟩ := M.idx_some hx4
  have H37 : Hold h h2 [rowsQ cd2 90 a4 s2.2.length c4 s2.2 [(qas_lists0, qcs_lists0, qls_lists0)], box bs_ 96 [.slice as_a s_.a.length cs_a, .slice a3 s2.1.length c3, .slice a4 s2.2.length c4], own cd90 a3 s2.1.length c3 s2.1, it] := H2.pk [2, 0, 1, 3]
  obtain ⟨a9, c8, hc1, H38⟩ := H37.peekRow hx4
  have H39 : Hold h h2 [box bs_ 96 [.slice as_a s_.a.length cs_a, .slice a3 s2.1.length c3, .slice a4 s2.2.length c4], own cd90 a3 s2.1.length c3 s2.1, rowsQ cd2 90 a4 s2.2.length c4 s2.2 [(a9, c8, x5), (qas_lists0, qcs_lists0, qls_lists0)], it] := H38.pk [1, 2, 0, 3]
  refine Zg 9 [(4, .slice a9 x5.length c8), (5, .bool true)] ?_ ?_
  ·refine Zb [pV bs_, pV bs_, .pointer (some ⟨bs_, 2, none⟩)] 0 ?_
   refine Zy (.slice a4 s2.2.length c4) (Zl 37 (⟨bs_, 2, none⟩) (.slice a4 s2.2.length c4) (H2.cell 0 rfl rfl)) ?_
   refine Zb [.int .i64 k_] 4 ?_
   refine Zy (.pointer (some (adr a4 (k_.toNat * 1)))) (Zi 37 90 1 (a4) (s2.2.length) (c4) .i64 (k_) Try.underlying37 ((H2.rdQ 2 rfl).cell hx4).1 hx4l hx4u) ?_
   refine Zy (.slice a9 x5.length c8) (Zl 90 (adr a4 (k_.toNat * 1)) (.slice a9 x5.length c8) hc1) ?_
   refine Zb [.slice a9 x5.length c8, .bool true] 7 ?_
   exact Zd [4, 5]
  have hF := M.ret_some hF
  subst hF
  have H40 : Hold h h2 [rowsQ cd2 90 a4 s2.2.length c4 s2.2 [(a9, c8, x5), (qas_lists0, qcs_lists0, qls_lists0)], box bs_ 96 [.slice as_a s_.a.length cs_a, .slice a3 s2.1.length c3, .slice a4 s2.2.length c4], own cd90 a3 s2.1.length c3 s2.1, it] := H39.pk [2, 0, 1, 3]
  have H41 : Hold h h2 [own cd90 a3 s2.1.length c3 s2.1, rowsQ cd2 90 a4 s2.2.length c4 s2.2 [(a9, c8, x5), (qas_lists0, qcs_lists0, qls_lists0)], box bs_ 96 [.slice as_a s_.a.length cs_a, .slice a3 s2.1.length c3, .slice a4 s2.2.length c4], it] := H40.pk [2, 0, 1, 3]
  have H42 : Hold h h2 [rowsQ cd2 90 a4 s2.2.length c4 s2.2 [(a9, c8, x5), (qas_lists0, qcs_lists0, qls_lists0)], own cd90 a3 s2.1.length c3 s2.1, box bs_ 96 [.slice as_a s_.a.length cs_a, .slice a3 s2.1.length c3, .slice a4 s2.2.length c4], it] := H41.pk [1, 0, 2, 3]
  have H43 : Hold h h2 [box bs_ 96 [.slice as_a s_.a.length cs_a, .slice a3 s2.1.length c3, .slice a4 s2.2.length c4], own cd90 a3 s2.1.length c3 s2.1, rowsQ cd2 90 a4 s2.2.length c4 s2.2 [(a9, c8, x5), (qas_lists0, qcs_lists0, qls_lists0)], it] := H42.pk [2, 1, 0, 3]
  exact Run_ret2 rfl (Zt (.slice a9 x5.length c8)) (Zt (.bool true)) ⟨a9, c8, a3, c3, a4, c4, rfl, H43⟩
 ·refine Run_block ?_
  have H44 : Hold h hE [own cd90 as_last s_.last.length cs_last s_.last, box bs_ 96 [.slice as_a s_.a.length cs_a, .slice as_last s_.last.length cs_last, .slice as_lists s_.lists.length cs_lists], rowsQ cd2 90 as_lists s_.lists.length cs_lists s_.lists [(qas_lists0, qcs_lists0, qls_lists0)], it] := HM.pk [1, 0, 2, 3]
  have H45 : Hold h hE [rowsQ cd2 90 as_lists s_.lists.length cs_lists s_.lists [(qas_lists0, qcs_lists0, qls_lists0)], own cd90 as_last s_.last.length cs_last s_.last, box bs_ 96 [.slice as_a s_.a.length cs_a, .slice as_last s_.last.length cs_last, .slice as_lists s_.lists.length cs_lists], it] := H44.pk [2, 0, 1, 3]
  have H46 : Hold h hE [box bs_ 96 [.slice as_a s_.a.length cs_a, .slice as_last s_.last.length cs_last, .slice as_lists s_.lists.length cs_lists], own cd90 as_last s_.last.length cs_last s_.last, rowsQ cd2 90 as_lists s_.lists.length cs_lists s_.lists [(qas_lists0, qcs_lists0, qls_lists0)], it] := H45.pk [2, 1, 0, 3]
  refine Zk [0, 1] [(0, pV bs_), (1, .int .i64 k_)] ?_
  refine Run_loop (fun m L' h' => ∃ (s1 : (List (List Int)) × (List (List Int))) (a1 : Option Addr) (c1 : Nat) (a2 : Option Addr) (c2 : Nat), M.loopN _ n m s1 = some x1 ∧ L' = [(0, pV bs_), (1, .int .i64 k_)] ∧ Hold h h' [box bs_ 96 [.slice as_a s_.a.length cs_a, .slice a1 s1.1.length c1, .slice a2 s1.2.length c2], own cd90 a1 s1.1.length c1 s1.1, rowsQ cd2 90 a2 s1.2.length c2 s1.2 [(qas_lists0, qcs_lists0, qls_lists0)], it]) n ⟨(s_.last, s_.lists), as_last, cs_last, as_lists, cs_lists, gx1, rfl, H46⟩ ?_
  rintro my1 _ h1 ⟨s1, a1, c1, a2, c2, gx1, rfl, H1⟩
  obtain ⟨my1, y1, rfl, hB1, hgoy1, houty1⟩ := M.loop_some gx1
  refine Zs ?_
  refine Zs ?_
  refine Zg 7 [(0, pV bs_), (1, .int .i64 k_), (12, .bool (decide ((s1.2.length : Int) ≤ k_)))] ?_ ?_
  ·refine Zb [pV bs_, pV bs_, .pointer (some ⟨bs_, 2, none⟩)] 0 ?_
   refine Zy (.slice a2 s1.2.length c2) (Zl 37 (⟨bs_, 2, none⟩) (.slice a2 s1.2.length c2) (H1.cell 0 rfl rfl)) ?_
   refine Zb [.int .i64 (s1.2.length : Int), .int .i64 k_, .bool (decide ((s1.2.length : Int) ≤ k_))] 4 ?_
   exact Zd [0, 1, 12]
  refine Zc (decide ((s1.2.length : Int) ≤ k_)) (fun hb1 => ?_) (fun hb1 => ?_)
  ·have hB1 := (M.ite_some hB1).1 hb1
   refine Run_skip ?_
   refine Run_block ?_
   refine Zs ?_
   refine Run_D (fun x => Hold h x [box bs_ 96 [.slice as_a s_.a.length cs_a, .slice a1 s1.1.length c1, .slice a2 s1.2.length c2], own cd90 a1 s1.1.length c1 s1.1, rowsQ cd2 90 a2 s1.2.length c2 s1.2 [(qas_lists0, qcs_lists0, qls_lists0)], it]) (fun x => Hold h x [box bs_ 96 [.slice as_a s_.a.length cs_a, .slice a1 s1.1.length c1, .slice a2 s1.2.length c2], own cd90 a1 s1.1.length c1 s1.1, rowsQ cd2 90 a2 s1.2.length c2 s1.2 [(qas_lists0, qcs_lists0, qls_lists0)], it]) mixed (by kernel_rfl) H1 Hold.stable (fun x Hy => (show Hold h x [box bs_ 96 [.slice as_a s_.a.length cs_a, .slice a1 s1.1.length c1, .slice a2 s1.2.length c2], own cd90 a1 s1.1.length c1 s1.1, rowsQ cd2 90 a2 s1.2.length c2 s1.2 [(qas_lists0, qcs_lists0, qls_lists0)], it] from Hy).pk [0, 1, 2, 3]) ?_
   refine ZB 9 [pV bs_, pV bs_, pV bs_, pV bs_] 0 ?_
   refine ZY 8 4 (.slice as_a s_.a.length cs_a) (fun hx Hx => (YE.of (Zl 37 (⟨bs_, 0, none⟩) (.slice as_a s_.a.length cs_a) (Hx.cell 0 rfl rfl)))) ?_
   refine ZB 5 [pV bs_, pV bs_, .pointer (some ⟨bs_, 1, none⟩)] 5 ?_
   refine ZY 4 8 (.slice a1 s1.1.length c1) (fun hx Hx => (YE.of (Zl 37 (⟨bs_, 1, none⟩) (.slice a1 s1.1.length c1) (Hx.cell 0 rfl rfl)))) ?_
   refine ZE 3 9 (fun h3 H3 => ?_)
   have H4 : Hold h h3 [box bs_ 96 [.slice as_a s_.a.length cs_a, .slice a1 s1.1.length c1, .slice a2 s1.2.length c2], own cd90 a1 s1.1.length c1 s1.1, rowsQ cd2 90 a2 s1.2.length c2 s1.2 [(qas_lists0, qcs_lists0, qls_lists0)], it] := H3
   obtain ⟨x2, hx1, hB1⟩ := M.bind_some hB1
   refine ZC 101 #[.slice as_a s_.a.length cs_a, .slice a1 s1.1.length c1] (w_spec_l02Multiply h3 s_.a as_a cs_a (rs_a.at H4.ext) s1.1 a1 c1 (H4.rd 1 rfl) _ _ hx1) (fun v1 h4 hp1 => ?_)
   obtain ⟨a5, c5, rfl, H5⟩ := hp1
   have H6 : Hold h h4 [own cd90 a5 x2.length c5 x2, box bs_ 96 [.slice as_a s_.a.length cs_a, .slice a1 s1.1.length c1, .slice a2 s1.2.length c2], own cd90 a1 s1.1.length c1 s1.1, rowsQ cd2 90 a2 s1.2.length c2 s1.2 [(qas_lists0, qcs_lists0, qls_lists0)], it] := H4.call H5 rfl
   refine ⟨fun x => Hold h x [box bs_ 96 [.slice as_a s_.a.length cs_a, .slice a1 s1.1.length c1, .slice a2 s1.2.length c2], own cd90 a1 s1.1.length c1 s1.1, rowsQ cd2 90 a2 s1.2.length c2 s1.2 [(qas_lists0, qcs_lists0, qls_lists0)], it, own cd90 a5 x2.length c5 x2], fun x => Hold h x [own cd90 a5 x2.length c5 x2, box bs_ 96 [.slice as_a s_.a.length cs_a, .slice a1 s1.1.length c1, .slice a2 s1.2.length c2], own cd90 a1 s1.1.length c1 s1.1, rowsQ cd2 90 a2 s1.2.length c2 s1.2 [(qas_lists0, qcs_lists0, qls_lists0)], it], H6, Hold.stable, fun x Hy => (show Hold h x [own cd90 a5 x2.length c5 x2, box bs_ 96 [.slice as_a s_.a.length cs_a, .slice a1 s1.1.length c1, .slice a2 s1.2.length c2], own cd90 a1 s1.1.length c1 s1.1, rowsQ cd2 90 a2 s1.2.length c2 s1.2 [(qas_lists0, qcs_lists0, qls_lists0)], it] from Hy).pk [1, 2, 3, 4, 0], fun x Hy => (show Hold h x [box bs_ 96 [.slice as_a s_.a.length cs_a, .slice a1 s1.1.length c1, .slice a2 s1.2.length c2], own cd90 a1 s1.1.length c1 s1.1, rowsQ cd2 90 a2 s1.2.length c2 s1.2 [(qas_lists0, qcs_lists0, qls_lists0)], it, own cd90 a5 x2.length c5 x2] from Hy).pk [0, 1, 2, 3], ?_⟩
   refine ZB 1 [pV bs_, .pointer (some ⟨bs_, 1, none⟩)] 10 ?_
   refine ZT 12 (fun h5 H7 => ?_)
   have H8 : Hold h h5 [own cd90 a5 x2.length c5 x2, box bs_ 96 [.slice as_a s_.a.length cs_a, .slice a1 s1.1.length c1, .slice a2 s1.2.length c2], own cd90 a1 s1.1.length c1 s1.1, rowsQ cd2 90 a2 s1.2.length c2 s1.2 [(qas_lists0, qcs_lists0, qls_lists0)], it] := H7
   have H10 : Hold h h5 [box bs_ 96 [.slice as_a s_.a.length cs_a, .slice a1 s1.1.length c1, .slice a2 s1.2.length c2], own cd90 a5 x2.length c5 x2, own cd90 a1 s1.1.length c1 s1.1, rowsQ cd2 90 a2 s1.2.length c2 s1.2 [(qas_lists0, qcs_lists0, qls_lists0)], it] := H8.pk [1, 0, 2, 3, 4]
   refine Ze ?_
   refine ZP 37 1 [.slice as_a s_.a.length cs_a, .slice a5 x2.length c5, .slice a2 s1.2.length c2] (.slice a5 x2.length c5) H10 (fun h6 H9 => ?_)
   refine Zx ?_
   refine Zk [0, 1] [(0, pV bs_), (1, .int .i64 k_)] ?_
   refine Zs ?_
   refine Zs ?_
   obtain ⟨x3, hx2, hB1⟩ := M.bind_some hB1
   refine Zg 6 [(0, pV bs_), (1, .int .i64 k_), (30, .bool (!x3))] ?_ ?_
   ·refine Zb [pV bs_, pV bs_, .pointer (some ⟨bs_, 1, none⟩)] 0 ?_
    refine Zy (.slice a5 x2.length c5) (Zl 37 (⟨bs_, 1, none⟩) (.slice a5 x2.length c5) (H9.cell 0 rfl rfl)) ?_
    refine Zy (.bool x3) (ZQ 92 #[.slice a5 x2.length c5] (w_spec_IsMatrix h6 x2 a5 c5 (H9.rd 1 rfl) _ _ hx2)) ?_
    refine Zb [.bool (!x3)] 5 ?_
    exact Zd [0, 1, 30]
   refine Zc (!x3) (fun hb2 => ?_) (fun hb2 => ?_)
   ·have hB1 := (M.ite_some hB1).1 hb2
    refine Zs ?_
    refine Zq [.slice none 0 0, .bool false] [4, 5] [(4, .slice none 0 0), (5, .bool false)] ?_
    have hB1 := M.ret_some hB1
    have gx1 := houty1 _ hB1.symm
    have hF := M.cont_inr' hF gx1
    have hF := M.ret_some hF
    subst hF
    have H11 : Hold h h6 [rowsQ cd2 90 a2 s1.2.length c2 s1.2 [(qas_lists0, qcs_lists0, qls_lists0)], box bs_ 96 [.slice as_a s_.a.length cs_a, .slice a5 x2.length c5, .slice a2 s1.2.length c2], own cd90 a5 x2.length c5 x2, own cd90 a1 s1.1.length c1 s1.1, it] := H9.pk [3, 0, 1, 2, 4]
    have H12 := H11.nilPeek
    have H13 : Hold h h6 [own cd90 a5 x2.length c5 x2, rowsQ cd2 90 a2 s1.2.length c2 s1.2 [(none, 0, []), (qas_lists0, qcs_lists0, qls_lists0)], box bs_ 96 [.slice as_a s_.a.length cs_a, .slice a5 x2.length c5, .slice a2 s1.2.length c2], own cd90 a1 s1.1.length c1 s1.1, it] := H12.pk [2, 0, 1, 3, 4]
    have H14 : Hold h h6 [rowsQ cd2 90 a2 s1.2.length c2 s1.2 [(none, 0, []), (qas_lists0, qcs_lists0, qls_lists0)], own cd90 a5 x2.length c5 x2, box bs_ 96 [.slice as_a s_.a.length cs_a, .slice a5 x2.length c5, .slice a2 s1.2.length c2], own cd90 a1 s1.1.length c1 s1.1, it] := H13.pk [1, 0, 2, 3, 4]
    have H15 : Hold h h6 [box bs_ 96 [.slice as_a s_.a.length cs_a, .slice a5 x2.length c5, .slice a2 s1.2.length c2], own cd90 a5 x2.length c5 x2, rowsQ cd2 90 a2 s1.2.length c2 s1.2 [(none, 0, []), (qas_lists0, qcs_lists0, qls_lists0)], it] := H14.pk [2, 1, 0, 4]
    exact Run_ret2 rfl (Zt (.slice none 0 0)) (Zt (.bool false)) ⟨none, 0, a5, c5, a2, c2, rfl, H15⟩
   ·have hB1 := (M.ite_some hB1).2 hb2
    refine Run_skip ?_
    refine Run_D (fun x => Hold h x [box bs_ 96 [.slice as_a s_.a.length cs_a, .slice a5 x2.length c5, .slice a2 s1.2.length c2], own cd90 a5 x2.length c5 x2, own cd90 a1 s1.1.length c1 s1.1, it]) (fun x => Hold h x [box bs_ 96 [.slice as_a s_.a.length cs_a, .slice a5 x2.length c5, .slice a2 s1.2.length c2], own cd90 a5 x2.length c5 x2, own cd90 a1 s1.1.length c1 s1.1, rowsQ cd2 90 a2 s1.2.length c2 s1.2 [(qas_lists0, qcs_lists0, qls_lists0)], it]) mixed (by kernel_rfl) H9 Hold.stable (fun x Hy => (show Hold h x [box bs_ 96 [.slice as_a s_.a.length cs_a, .slice a5 x2.length c5, .slice a2 s1.2.length c2], own cd90 a5 x2.length c5 x2, own cd90 a1 s1.1.length c1 s1.1, rowsQ cd2 90 a2 s1.2.length c2 s1.2 [(qas_lists0, qcs_lists0, qls_lists0)], it] from Hy).pk [0, 1, 2, 4]) ?_
    refine ZB 11 [pV bs_, pV bs_, pV bs_, .pointer (some ⟨bs_, 2, none⟩)] 0 ?_
    refine ZY 10 4 (.slice a2 s1.2.length c2) (fun hx Hx => (YE.of (Zl 37 (⟨bs_, 2, none⟩) (.slice a2 s1.2.length c2) (Hx.cell 0 rfl rfl)))) ?_
    refine ZB 7 [pV bs_, pV bs_, .pointer (some ⟨bs_, 1, none⟩)] 5 ?_
    refine ZY 6 8 (.slice a5 x2.length c5) (fun hx Hx => (YE.of (Zl 37 (⟨bs_, 1, none⟩) (.slice a5 x2.length c5) (Hx.cell 0 rfl rfl)))) ?_
    refine ZE 5 9 (fun h7 H16 => ?_)
    have H17 : Hold h h7 [box bs_ 96 [.slice as_a s_.a.length cs_a, .slice a5 x2.length c5, .slice a2 s1.2.length c2], own cd90 a5 x2.length c5 x2, own cd90 a1 s1.1.length c1 s1.1, rowsQ cd2 90 a2 s1.2.length c2 s1.2 [(qas_lists0, qcs_lists0, qls_lists0)], it] := H16
    obtain ⟨x4, hx3, hB1⟩ := M.bind_some hB1
    refine ZC 94 #[.slice a5 x2.length c5] (w_spec_l07Flat h7 x2 a5 c5 (H17.rd 1 rfl) _ _ hx3) (fun v2 h8 hp2 => ?_)
    obtain ⟨a6, c6, rfl, H18⟩ := hp2
    have H19 : Hold h h8 [own cd2 a6 x4.length c6 x4, box bs_ 96 [.slice as_a s_.a.length cs_a, .slice a5 x2.length c5, .slice a2 s1.2.length c2], own cd90 a5 x2.length c5 x2, own cd90 a1 s1.1.length c1 s1.1, rowsQ cd2 90 a2 s1.2.length c2 s1.2 [(qas_lists0, qcs_lists0, qls_lists0)], it] := H17.call H18 rfl
    refine ⟨fun x => Hold h x [box bs_ 96 [.slice as_a s_.a.length cs_a, .slice a5 x2.length c5, .slice a2 s1.2.length c2], own cd90 a5 x2.length c5 x2, own cd90 a1 s1.1.length c1 s1.1, it], fun x => Hold h x [own cd2 a6 x4.length c6 x4, box bs_ 96 [.slice as_a s_.a.length cs_a, .slice a5 x2.length c5, .slice a2 s1.2.length c2], own cd90 a5 x2.length c5 x2, own cd90 a1 s1.1.length c1 s1.1, rowsQ cd2 90 a2 s1.2.length c2 s1.2 [(qas_lists0, qcs_lists0, qls_lists0)], it], H19, Hold.stable, fun x Hy => (show Hold h x [own cd2 a6 x4.length c6 x4, box bs_ 96 [.slice as_a s_.a.length cs_a, .slice a5 x2.length c5, .slice a2 s1.2.length c2], own cd90 a5 x2.length c5 x2, own cd90 a1 s1.1.length c1 s1.1, rowsQ cd2 90 a2 s1.2.length c2 s1.2 [(qas_lists0, qcs_lists0, qls_lists0)], it] from Hy).pk [1, 2, 3, 5], fun x Hy => (show Hold h x [box bs_ 96 [.slice as_a s_.a.length cs_a, .slice a5 x2.length c5, .slice a2 s1.2.length c2], own cd90 a5 x2.length c5 x2, own cd90 a1 s1.1.length c1 s1.1, it] from Hy).pk [0, 1, 2, 3], ?_⟩
    refine ZE 4 10 (fun h9 H20 => ?_)
    have H21 : Hold h h9 [own cd2 a6 x4.length c6 x4, box bs_ 96 [.slice as_a s_.a.length cs_a, .slice a5 x2.length c5, .slice a2 s1.2.length c2], own cd90 a5 x2.length c5 x2, own cd90 a1 s1.1.length c1 s1.1, rowsQ cd2 90 a2 s1.2.length c2 s1.2 [(qas_lists0, qcs_lists0, qls_lists0)], it] := H20
    refine E_lit1 (ey := 90) (n := x4.length) H21 (fun w => by kernel_rfl) rfl (fun a7 h10 H22 => ?_)
    refine ⟨fun x => Hold h x [box bs_ 96 [.slice as_a s_.a.length cs_a, .slice a5 x2.length c5, .slice a2 s1.2.length c2], own cd90 a5 x2.length c5 x2, own cd90 a1 s1.1.length c1 s1.1, it], fun x => Hold h x [own cd90 a7 1 1 [x4], box bs_ 96 [.slice as_a s_.a.length cs_a, .slice a5 x2.length c5, .slice a2 s1.2.length c2], own cd90 a5 x2.length c5 x2, own cd90 a1 s1.1.length c1 s1.1, rowsQ cd2 90 a2 s1.2.length c2 s1.2 [(qas_lists0, qcs_lists0, qls_lists0)], it], H22, Hold.stable, fun x Hy => (show Hold h x [own cd90 a7 1 1 [x4], box bs_ 96 [.slice as_a s_.a.length cs_a, .slice a5 x2.length c5, .slice a2 s1.2.length c2], own cd90 a5 x2.length c5 x2, own cd90 a1 s1.1.length c1 s1.1, rowsQ cd2 90 a2 s1.2.length c2 s1.2 [(qas_lists0, qcs_lists0, qls_lists0)], it] from Hy).pk [1, 2, 3, 5], fun x Hy => (show Hold h x [box bs_ 96 [.slice as_a s_.a.length cs_a, .slice a5 x2.length c5, .slice a2 s1.2.length c2], own cd90 a5 x2.length c5 x2, own cd90 a1 s1.1.length c1 s1.1, it] from Hy).pk [0, 1, 2, 3], ?_⟩
    refine ZE 3 11 (fun h11 H23 => ?_)
    have H24 : Hold h h11 [own cd90 a7 1 1 [x4], box bs_ 96 [.slice as_a s_.a.length cs_a, .slice a5 x2.length c5, .slice a2 s1.2.length c2], own cd90 a5 x2.length c5 x2, own cd90 a1 s1.1.length c1 s1.1, rowsQ cd2 90 a2 s1.2.length c2 s1.2 [(qas_lists0, qcs_lists0, qls_lists0)], it] := H23
    obtain ⟨l1, hl1, hB1⟩ := M.bind_some hB1
    have hl1 := M.app_some hl1
    have H25 : Hold h h11 [rowsQ cd2 90 a2 s1.2.length c2 s1.2 [(qas_lists0, qcs_lists0, qls_lists0)], own cd90 a7 1 1 [x4], box bs_ 96 [.slice as_a s_.a.length cs_a, .slice a5 x2.length c5, .slice a2 s1.2.length c2], own cd90 a5 x2.length c5 x2, own cd90 a1 s1.1.length c1 s1.1, it] := H24.pk [4, 0, 1, 2, 3, 5]
    refine E_appQ (C := cd2) (t := 37) (ty := 37) (tr := 90) (n := s1.2.length) (m := 1) H25 cd90_ti rfl Try.underlying37 (by decide) (by kernel_rfl) hl1 (fun a8 c7 h12 H26 => ?_)
    refine ⟨fun x => Hold h x [box bs_ 96 [.slice as_a s_.a.length cs_a, .slice a5 x2.length c5, .slice a2 s1.2.length c2], own cd90 a5 x2.length c5 x2, own cd90 a1 s1.1.length c1 s1.1, it, rowsQ cd2 90 a8 l1.length c7 l1 [(qas_lists0, qcs_lists0, qls_lists0)]], fun x => Hold h x [rowsQ cd2 90 a8 l1.length c7 l1 [(qas_lists0, qcs_lists0, qls_lists0)], box bs_ 96 [.slice as_a s_.a.length cs_a, .slice a5 x2.length c5, .slice a2 s1.2.length c2], own cd90 a5 x2.length c5 x2, own cd90 a1 s1.1.length c1 s1.1, it], H26, Hold.stable, fun x Hy => (show Hold h x [rowsQ cd2 90 a8 l1.length c7 l1 [(qas_lists0, qcs_lists0, qls_lists0)], box bs_ 96 [.slice as_a s_.a.length cs_a, .slice a5 x2.length c5, .slice a2 s1.2.length c2], own cd90 a5 x2.length c5 x2, own cd90 a1 s1.1.length c1 s1.1, it] from Hy).pk [1, 2, 3, 4, 0], fun x Hy => (show Hold h x [box bs_ 96 [.slice as_a s_.a.length cs_a, .slice a5 x2.length c5, .slice a2 s1.2.length c2], own cd90 a5 x2.length c5 x2, own cd90 a1 s1.1.length c1 s1.1, it, rowsQ cd2 90 a8 l1.length c7 l1 [(qas_lists0, qcs_lists0, qls_lists0)]] from Hy).pk [0, 1, 2, 3], ?_⟩
    refine ZB 1 [pV bs_, .pointer (some ⟨bs_, 2, none⟩)] 12 ?_
    refine ZT 14 (fun h13 H27 => ?_)
    have H28 : Hold h h13 [rowsQ cd2 90 a8 l1.length c7 l1 [(qas_lists0, qcs_lists0, qls_lists0)], box bs_ 96 [.slice as_a s_.a.length cs_a, .slice a5 x2.length c5, .slice a2 s1.2.length c2], own cd90 a5 x2.length c5 x2, own cd90 a1 s1.1.length c1 s1.1, it] := H27
    have H30 : Hold h h13 [box bs_ 96 [.slice as_a s_.a.length cs_a, .slice a5 x2.length c5, .slice a2 s1.2.length c2], rowsQ cd2 90 a8 l1.length c7 l1 [(qas_lists0, qcs_lists0, qls_lists0)], own cd90 a5 x2.length c5 x2, own cd90 a1 s1.1.length c1 s1.1, it] := H28.pk [1, 0, 2, 3, 4]
    refine Ze ?_
    refine ZP 37 2 [.slice as_a s_.a.length cs_a, .slice a5 x2.length c5, .slice a8 l1.length c7] (.slice a8 l1.length c7) H30 (fun h14 H29 => ?_)
    refine Zx ?_
    refine Zk [0, 1] [(0, pV bs_), (1, .int .i64 k_)] ?_
    refine Run_blk ?_
    have H31 : Hold h h14 [own cd90 a5 x2.length c5 x2, box bs_ 96 [.slice as_a s_.a.length cs_a, .slice a5 x2.length c5, .slice a8 l1.length c7], rowsQ cd2 90 a8 l1.length c7 l1 [(qas_lists0, qcs_lists0, qls_lists0)], own cd90 a1 s1.1.length c1 s1.1, it] := H29.pk [2, 0, 1, 3, 4]
    have H32 : Hold h h14 [rowsQ cd2 90 a8 l1.length c7 l1 [(qas_lists0, qcs_lists0, qls_lists0)], own cd90 a5 x2.length c5 x2, box bs_ 96 [.slice as_a s_.a.length cs_a, .slice a5 x2.length c5, .slice a8 l1.length c7], own cd90 a1 s1.1.length c1 s1.1, it] := H31.pk [2, 0, 1, 3, 4]
    have H33 : Hold h h14 [box bs_ 96 [.slice as_a s_.a.length cs_a, .slice a5 x2.length c5, .slice a8 l1.length c7], own cd90 a5 x2.length c5 x2, rowsQ cd2 90 a8 l1.length c7 l1 [(qas_lists0, qcs_lists0, qls_lists0)], it] := H32.pk [2, 1, 0, 4]
    have hB1 := M.ret_some hB1
    have gx1 := hgoy1 _ hB1.symm
    exact Za [0, 1] my1 ⟨(x2, l1), a5, c5, a8, c7, gx1, rfl, H33⟩
  ·have hB1 := (M.ite_some hB1).2 hb1
   refine Run_exit (k' := _) rfl ?_
   have H34 : Hold h h1 [own cd90 a1 s1.1.length c1 s1.1, box bs_ 96 [.slice as_a s_.a.length cs_a, .slice a1 s1.1.length c1, .slice a2 s1.2.length c2], rowsQ cd2 90 a2 s1.2.length c2 s1.2 [(qas_lists0, qcs_lists0, qls_lists0)], it] := H1.pk [1, 0, 2, 3]
   have H35 : Hold h h1 [rowsQ cd2 90 a2 s1.2.length c2 s1.2 [(qas_lists0, qcs_lists0, qls_lists0)], own cd90 a1 s1.1.length c1 s1.1, box bs_ 96 [.slice as_a s_.a.length cs_a, .slice a1 s1.1.length c1, .slice a2 s1.2.length c2], it] := H34.pk [2, 0, 1, 3]
   have H36 : Hold h h1 [box bs_ 96 [.slice as_a s_.a.length cs_a, .slice a1 s1.1.length c1, .slice a2 s1.2.length c2], own cd90 a1 s1.1.length c1 s1.1, rowsQ cd2 90 a2 s1.2.length c2 s1.2 [(qas_lists0, qcs_lists0, qls_lists0)], it] := H35.pk [2, 1, 0, 3]
   have hB1 := M.ret_some hB1
   have gx1 := houty1 _ hB1.symm
   subst gx1
   exact Zf [0, 1] ⟨(s1.1, s1.2), a1, c1, a2, c2, rfl, rfl, H36⟩

theorem w_spec_l07Find_B (h hE : Heap) (it : Item) (s_ : TL07series) (bs_ : Nat) (as_a : Option Addr) (cs_a : Nat) (rs_a : Rd cd90 h (Lt h) as_a cs_a s_.a) (as_last : Option Addr) (cs_last : Nat) (as_lists : Option Addr) (cs_lists : Nat) (HM : Hold h hE [box bs_ 96 [.slice as_a s_.a.length cs_a, .slice as_last s_.last.length cs_last, .slice as_lists s_.lists.length cs_lists], own cd90 as_last s_.last.length cs_last s_.last, own cd90 as_lists s_.lists.length cs_lists s_.lists, it]) (n : Nat) (r : Int × Int × Int × Int × TL07series) (hF : spec_l07Find_B s_ n = some r) :
  Fn Try.prog 43 #[pV bs_] hE fun v h' => ∃ (a0 : Option Addr) (c0 : Nat), ∃ (a1 : Option Addr) (c1 : Nat), v = .tuple #[.int .i64 r.1, .int .i64 r.2.1, .int .i64 r.2.2.1, .int .i64 r.2.2.2.1] ∧ Hold h h' [box bs_ 96 [.slice as_a s_.a.length cs_a, .slice a0 r.2.2.2.2.last.length c0, .slice a1 r.2.2.2.2.lists.length c1], own cd90 a0 r.2.2.2.2.last.length c0 r.2.2.2.2.last, own cd90 a1 r.2.2.2.2.lists.length c1 r.2.2.2.2.lists, it] := by
 unfold spec_l07Find_B at hF
 refine Zo [pV bs_] Try.func43 rfl (fun w0 _ => ?_)
 refine Zs ?_
 refine Zq [.int .i64 0, .int .i64 0, .int .i64 0, .int .i64 0] [0] [(0, pV bs_)] ?_
 refine Zs ?_
 refine Zs ?_
 refine Zq [.int .i64 0] [0, 6] [(0, pV bs_), (6, .int .i64 0)] ?_
 obtain ⟨x1, gx1, hF⟩ := M.bind_some hF
 obtain ⟨hloy1, hhiy1, gx1⟩ := M.for_start gx1
 refine Run_join (fun L' h' => ∃ (s2 : (List (List Int)) × (List (List Int))) (a3 : Option Addr) (c3 : Nat) (a4 : Option Addr) (c4 : Nat), x1 = .inl s2 ∧ L' = [] ∧ Hold h h' [box bs_ 96 [.slice as_a s_.a.length cs_a, .slice a3 s2.1.length c3, .slice a4 s2.2.length c4], own cd90 a3 s2.1.length c3 s2.1, own cd90 a4 s2.2.length c4 s2.2, it]) ?_ ?_
 ·rintro _ h2 ⟨s2, a3, c3, a4, c4, es2, rfl, H2⟩
  have hF := M.cont_inl' hF es2
  refine Zs ?_
  refine Zq [.int .i64 0, .int .i64 0, .int .i64 0, .int .i64 4] [2, 3, 4, 5] [(2, .int .i64 0), (3, .int .i64 0), (4, .int .i64 0), (5, .int .i64 4)] ?_
  have hF := M.ret_some hF
  subst hF
  have H45 : Hold h h2 [own cd90 a3 s2.1.length c3 s2.1, box bs_ 96 [.slice as_a s_.a.length cs_a, .slice a3 s2.1.length c3, .slice a4 s2.2.length c4], own cd90 a4 s2.2.length c4 s2.2, it] := H2.pk [1, 0, 2, 3]
  have H46 : Hold h h2 [own cd90 a4 s2.2.length c4 s2.2, own cd90 a3 s2.1.length c3 s2.1, box bs_ 96 [.slice as_a s_.a.length cs_a, .slice a3 s2.1.length c3, .slice a4 s2.2.length c4], it] := H45.pk [2, 0, 1, 3]
  have H47 : Hold h h2 [box bs_ 96 [.slice as_a s_.a.length cs_a, .slice a3 s2.1.length c3, .slice a4 s2.2.length c4], own cd90 a3 s2.1.length c3 s2.1, own cd90 a4 s2.2.length c4 s2.2, it] := H46.pk [2, 1, 0, 3]
  exact Run_ret4 rfl (Zt (.int .i64 0)) (Zt (.int .i64 0)) (Zt (.int .i64 0)) (Zt (.int .i64 4)) ⟨a3, c3, a4, c4, rfl, H47⟩
 ·refine Run_block ?_
  have H48 : Hold h hE [own cd90 as_last s_.last.length cs_last s_.last, box bs_ 96 [.slice as_a s_.a.length cs_a, .slice as_last s_.last.length cs_last, .slice as_lists s_.lists.length cs_lists], own cd90 as_lists s_.lists.length cs_lists s_.lists, it] := HM.pk [1, 0, 2, 3]
  have H49 : Hold h hE [own cd90 as_lists s_.lists.length cs_lists s_.lists, own cd90 as_last s_.last.length cs_last s_.last, box bs_ 96 [.slice as_a s_.a.length cs_a, .slice as_last s_.last.length cs_last, .slice as_lists s_.lists.length cs_lists], it] := H48.pk [2, 0, 1, 3]
  have H50 : Hold h hE [box bs_ 96 [.slice as_a s_.a.length cs_a, .slice as_last s_.last.length cs_last, .slice as_lists s_.lists.length cs_lists], own cd90 as_last s_.last.length cs_last s_.last, own cd90 as_lists s_.lists.length cs_lists s_.lists, it] := H49.pk [2, 1, 0, 3]
  refine Zk [0, 6] [(0, pV bs_), (6, .int .i64 0)] ?_
  refine Run_loop (fun m L' h' => ∃ (i1 : Int) (s1 : (List (List Int)) × (List (List Int))) (a1 : Option Addr) (c1 : Nat) (a2 : Option Addr) (c2 : Nat), 0 ≤ i1 ∧ M.forN 100 _ _ n m i1 s1 = some x1 ∧ L' = [(0, pV bs_), (6, .int .i64 i1)] ∧ Hold h h' [box bs_ 96 [.slice as_a s_.a.length cs_a, .slice a1 s1.1.length c1, .slice a2 s1.2.length c2], own cd90 a1 s1.1.length c1 s1.1, own cd90 a2 s1.2.length c2 s1.2, it]) (100 - 0 : Int).toNat ⟨0, (s_.last, s_.lists), as_last, cs_last, as_lists, cs_lists, Int.le_refl _, gx1, rfl, H50⟩ ?_
  rintro my1 _ h1 ⟨i1, s1, a1, c1, a2, c2, hloy1', gx1, rfl, H1⟩
  refine Zs ?_
  refine Zs ?_
  refine Zq [.int .i64 i1, .bool (decide (i1 < 100))] [0, 6, 15] [(0, pV bs_), (6, .int .i64 i1), (15, .bool (decide (i1 < 100)))] ?_
  refine Zc (decide (i1 < 100)) (fun hb1 => ?_) (fun hb1 => ?_)
  ·obtain ⟨my1, y1, rfl, hB1, hgoy1, houty1⟩ := M.for_go gx1 hb1
   have hlty1 := of_decide_eq_true hb1
   refine Run_skip ?_
   refine Zs ?_
   refine Run_block ?_
   refine Zs ?_
   refine Run_ops ?_
   refine Zr [pV bs_, .int .i64 i1] 0 ?_
   obtain ⟨x2, hx1, hB1⟩ := M.bind_some hB1
   have H3 : Hold h h1 [own cd90 a1 s1.1.length c1 s1.1, box bs_ 96 [.slice as_a s_.a.length cs_a, .slice a1 s1.1.length c1, .slice a2 s1.2.length c2], own cd90 a2 s1.2.length c2 s1.2, it] := H1.pk [1, 0, 2, 3]
   have H4 : Hold h h1 [own cd90 a2 s1.2.length c2 s1.2, own cd90 a1 s1.1.length c1 s1.1, box bs_ 96 [.slice as_a s_.a.length cs_a, .slice a1 s1.1.length c1, .slice a2 s1.2.length c2], it] := H3.pk [2, 0, 1, 3]
   have H5 := H4.toQ
   have H6 : Hold h h1 [box bs_ 96 [.slice as_a s_.a.length cs_a, .slice a1 s1.1.length c1, .slice a2 s1.2.length c2], own cd90 a1 s1.1.length c1 s1.1, rowsQ cd2 90 a2 s1.2.length c2 s1.2 [], it] := H5.pk [2, 1, 0, 3]
   have H7 : Hold h h1 [box bs_ 96 [.slice as_a s_.a.length cs_a, .slice a1 s1.1.length c1, .slice a2 s1.2.length c2], own cd90 a1 s1.1.length c1 s1.1, rowsQ cd2 90 a2 s1.2.length c2 s1.2 [], bun [it]] := Hold.bundle (S := [box bs_ 96 [.slice as_a s_.a.length cs_a, .slice a1 s1.1.length c1, .slice a2 s1.2.length c2], own cd90 a1 s1.1.length c1 s1.1, rowsQ cd2 90 a2 s1.2.length c2 s1.2 []]) (R := [it]) H6
   refine Ze ?_
   refine ZC 55 #[pV bs_, .int .i64 i1] (w_spec_l07At_BQ0 h h1 _ (⟨s_.a, s1.1, s1.2⟩ : TL07series) bs_ as_a cs_a rs_a a1 c1 a2 c2 i1 H7 _ _ hx1) (fun v1 h3 hp1 => ?_)
   obtain ⟨a5, c5, a6, c6, a7, c7, rfl, H8⟩ := hp1
   have H9 : Hold h h3 [box bs_ 96 [.slice as_a s_.a.length cs_a, .slice a6 x2.2.2.last.length c6, .slice a7 x2.2.2.lists.length c7], own cd90 a6 x2.2.2.last.length c6 x2.2.2.last, rowsQ cd2 90 a7 x2.2.2.lists.length c7 x2.2.2.lists [(a5, c5, x2.1)], it] := Hold.unbundle (S := [box bs_ 96 [.slice as_a s_.a.length cs_a, .slice a6 x2.2.2.last.length c6, .slice a7 x2.2.2.lists.length c7], own cd90 a6 x2.2.2.last.length c6 x2.2.2.last, rowsQ cd2 90 a7 x2.2.2.lists.length c7 x2.2.2.lists [(a5, c5, x2.1)]]) (R := [it]) H8 (Hold.tailBase (S := [box bs_ 96 [.slice as_a s_.a.length cs_a, .slice a1 s1.1.length c1, .slice a2 s1.2.length c2], own cd90 a1 s1.1.length c1 s1.1, rowsQ cd2 90 a2 s1.2.length c2 s1.2 []]) (R := [it]) H6)
   refine Zr [.tuple #[.slice a5 x2.1.length c5, .bool x2.2.1], .slice a5 x2.1.length c5, .bool x2.2.1, .slice a5 x2.1.length c5, .bool x2.2.1] 3 ?_
   refine Zx ?_
   refine Zk [0, 6, 7] [(0, pV bs_), (6, .int .i64 i1), (7, .slice a5 x2.1.length c5)] ?_
   refine Zs ?_
   refine Zq [.int .i64 1] [0, 6, 7, 9] [(0, pV bs_), (6, .int .i64 i1), (7, .slice a5 x2.1.length c5), (9, .int .i64 1)] ?_
   obtain ⟨x3, gx3, hB1⟩ := M.bind_some hB1
   refine Run_join (fun L' h' => ∃ (s4 : (List (List Int)) × (List (List Int)) × Int) (a10 : Option Addr) (c10 : Nat) (a11 : Option Addr) (c11 : Nat), x3 = .inl s4 ∧ L' = [(0, pV bs_), (6, .int .i64 i1)] ∧ Hold h h' [box bs_ 96 [.slice as_a s_.a.length cs_a, .slice a10 s4.1.length c10, .slice a11 s4.2.1.length c11], own cd90 a10 s4.1.length c10 s4.1, rowsQ cd2 90 a11 s4.2.1.length c11 s4.2.1 [(a5, c5, x2.1)], it]) ?_ ?_
   ·rintro _ h5 ⟨s4, a10, c10, a11, c11, es4, rfl, H11⟩
    have hB1 := M.cont_inl' hB1 es4
    refine Run_blk ?_
    refine Zg 3 [(0, pV bs_), (6, .int .i64 (i1 + 1))] ?_ ?_
    ·refine Zb [.int .i64 i1] 0 ?_
     refine Zy (.int .i64 (i1 + 1)) (Y_eq (v := .int .i64 (w64 (i1 + 1))) (Y_pure (fun w => by kernel_rfl)) (by rw [w64_eq _ (by omega)])) ?_
     refine Zb [.int .i64 (i1 + 1)] 2 ?_
     exact Zd [0, 6]
    have H35 : Hold h h5 [own cd90 a10 s4.1.length c10 s4.1, box bs_ 96 [.slice as_a s_.a.length cs_a, .slice a10 s4.1.length c10, .slice a11 s4.2.1.length c11], rowsQ cd2 90 a11 s4.2.1.length c11 s4.2.1 [(a5, c5, x2.1)], it] := H11.pk [1, 0, 2, 3]
    have H36 : Hold h h5 [rowsQ cd2 90 a11 s4.2.1.length c11 s4.2.1 [(a5, c5, x2.1)], own cd90 a10 s4.1.length c10 s4.1, box bs_ 96 [.slice as_a s_.a.length cs_a, .slice a10 s4.1.length c10, .slice a11 s4.2.1.length c11], it] := H35.pk [2, 0, 1, 3]
    have H37 := H36.ofQ
    have H38 : Hold h h5 [box bs_ 96 [.slice as_a s_.a.length cs_a, .slice a10 s4.1.length c10, .slice a11 s4.2.1.length c11], own cd90 a10 s4.1.length c10 s4.1, own cd90 a11 s4.2.1.length c11 s4.2.1, it] := H37.pk [2, 1, 0, 3]
    have hB1 := M.ret_some hB1
    have gx1 := hgoy1 _ hB1.symm
    exact Za [0, 6] my1 ⟨i1 + 1, (s4.1, s4.2.1), a10, c10, a11, c11, by omega, gx1, rfl, H38⟩
   ·refine Run_block ?_
    have H39 : Hold h h3 [own cd90 a6 x2.2.2.last.length c6 x2.2.2.last, box bs_ 96 [.slice as_a s_.a.length cs_a, .slice a6 x2.2.2.last.length c6, .slice a7 x2.2.2.lists.length c7], rowsQ cd2 90 a7 x2.2.2.lists.length c7 x2.2.2.lists [(a5, c5, x2.1)], it] := H9.pk [1, 0, 2, 3]
    have H40 : Hold h h3 [rowsQ cd2 90 a7 x2.2.2.lists.length c7 x2.2.2.lists [(a5, c5, x2.1)], own cd90 a6 x2.2.2.last.length c6 x2.2.2.last, box bs_ 96 [.slice as_a s_.a.length cs_a, .slice a6 x2.2.2.last.length c6, .slice a7 x2.2.2.lists.length c7], it] := H39.pk [2, 0, 1, 3]
    have H41 : Hold h h3 [box bs_ 96 [.slice as_a s_.a.length cs_a, .slice a6 x2.2.2.last.length c6, .slice a7 x2.2.2.lists.length c7], own cd90 a6 x2.2.2.last.length c6 x2.2.2.last, rowsQ cd2 90 a7 x2.2.2.lists.length c7 x2.2.2.lists [(a5, c5, x2.1)], it] := H40.pk [2, 1, 0, 3]
    refine Zk [0, 6, 7, 9] [(0, pV bs_), (6, .int .i64 i1), (7, .slice a5 x2.1.length c5), (9, .int .i64 1)] ?_
    refine Run_loop (fun m L' h' => ∃ (s3 : (List (List Int)) × (List (List Int)) × Int) (a8 : Option Addr) (c8 : Nat) (a9 : Option Addr) (c9 : Nat), M.loopN _ n m s3 = some x3 ∧ L' = [(0, pV bs_), (6, .int .i64 i1), (7, .slice a5 x2.1.length c5), (9, .int .i64 s3.2.2)] ∧ Hold h h' [box bs_ 96 [.slice as_a s_.a.length cs_a, .slice a8 s3.1.length c8, .slice a9 s3.2.1.length c9], own cd90 a8 s3.1.length c8 s3.1, rowsQ cd2 90 a9 s3.2.1.length c9 s3.2.1 [(a5, c5, x2.1)], it]) n ⟨(x2.2.2.last, x2.2.2.lists, 1), a6, c6, a7, c7, gx3, rfl, H41⟩ ?_
    rintro my2 _ h4 ⟨s3, a8, c8, a9, c9, gx3, rfl, H10⟩
    obtain ⟨my2, y2, rfl, hB2, hgoy2, houty2⟩ := M.loop_some gx3
    refine Zs ?_
    refine Zs ?_
    refine Zq [.int .i64 i1, .int .i64 s3.2.2, .int .i64 (w64 (i1 + s3.2.2)), .bool (decide ((w64 (i1 + s3.2.2)) ≤ 100))] [0, 6, 7, 9, 27] [(0, pV bs_), (6, .int .i64 i1), (7, .slice a5 x2.1.length c5), (9, .int .i64 s3.2.2), (27, .bool (decide ((w64 (i1 + s3.2.2)) ≤ 100)))] ?_
    refine Zc (decide ((w64 (i1 + s3.2.2)) ≤ 100)) (fun hb2 => ?_) (fun hb2 => ?_)
    ·have hB2 := (M.ite_some hB2).1 hb2
     refine Run_skip ?_
     refine Zs ?_
     refine Run_block ?_
     refine Zs ?_
     refine Run_ops ?_
     refine Zr [pV bs_, .int .i64 i1, .int .i64 s3.2.2, .int .i64 (w64 (i1 + s3.2.2))] 0 ?_
     obtain ⟨x4, hx2, hB2⟩ := M.bind_some hB2
     have H12 : Hold h h4 [own cd90 a8 s3.1.length c8 s3.1, box bs_ 96 [.slice as_a s_.a.length cs_a, .slice a8 s3.1.length c8, .slice a9 s3.2.1.length c9], rowsQ cd2 90 a9 s3.2.1.length c9 s3.2.1 [(a5, c5, x2.1)], it] := H10.pk [1, 0, 2, 3]
     have H13 : Hold h h4 [rowsQ cd2 90 a9 s3.2.1.length c9 s3.2.1 [(a5, c5, x2.1)], own cd90 a8 s3.1.length c8 s3.1, box bs_ 96 [.slice as_a s_.a.length cs_a, .slice a8 s3.1.length c8, .slice a9 s3.2.1.length c9], it] := H12.pk [2, 0, 1, 3]
     have H14 : Hold h h4 [box bs_ 96 [.slice as_a s_.a.length cs_a, .slice a8 s3.1.length c8, .slice a9 s3.2.1.length c9], own cd90 a8 s3.1.length c8 s3.1, rowsQ cd2 90 a9 s3.2.1.length c9 s3.2.1 [(a5, c5, x2.1)], it] := H13.pk [2, 1, 0, 3]
     have H15 : Hold h h4 [box bs_ 96 [.slice as_a s_.a.length cs_a, .slice a8 s3.1.length c8, .slice a9 s3.2.1.length c9], own cd90 a8 s3.1.length c8 s3.1, rowsQ cd2 90 a9 s3.2.1.length c9 s3.2.1 [(a5, c5, x2.1)], bun [it]] := Hold.bundle (S := [box bs_ 96 [.slice as_a s_.a.length cs_a, .slice a8 s3.1.length c8, .slice a9 s3.2.1.length c9], own cd90 a8 s3.1.length c8 s3.1, rowsQ cd2 90 a9 s3.2.1.length c9 s3.2.1 [(a5, c5, x2.1)]]) (R := [it]) H14
     refine Ze ?_
     refine ZC 55 #[pV bs_, .int .i64 (w64 (i1 + s3.2.2))] (w_spec_l07At_BQ1 h h4 _ (⟨s_.a, s3.1, s3.2.1⟩ : TL07series) bs_ as_a cs_a rs_a a8 c8 a9 c9 a5 c5 x2.1 (w64 (i1 + s3.2.2)) H15 _ _ hx2) (fun v2 h6 hp2 => ?_)
     obtain ⟨a12, c12, a13, c13, a14, c14, rfl, H16⟩ := hp2
     have H17 : Hold h h6 [box bs_ 96 [.slice as_a s_.a.length cs_a, .slice a13 x4.2.2.last.length c13, .slice a14 x4.2.2.lists.length c14], own cd90 a13 x4.2.2.last.length c13 x4.2.2.last, rowsQ cd2 90 a14 x4.2.2.lists.length c14 x4.2.2.lists [(a12, c12, x4.1), (a5, c5, x2.1)], it] := Hold.unbundle (S := [box bs_ 96 [.slice as_a s_.a.length cs_a, .slice a13 x4.2.2.last.length c13, .slice a14 x4.2.2.lists.length c14], own cd90 a13 x4.2.2.last.length c13 x4.2.2.last, rowsQ cd2 90 a14 x4.2.2.lists.length c14 x4.2.2.lists [(a12, c12, x4.1), (a5, c5, x2.1)]]) (R := [it]) H16 (Hold.tailBase (S := [box bs_ 96 [.slice as_a s_.a.length cs_a, .slice a8 s3.1.length c8, .slice a9 s3.2.1.length c9], own cd90 a8 s3.1.length c8 s3.1, rowsQ cd2 90 a9 s3.2.1.length c9 s3.2.1 [(a5, c5, x2.1)]]) (R := [it]) H14)
     refine Zr [.tuple #[.slice a12 x4.1.length c12, .bool x4.2.1], .slice a12 x4.1.length c12, .bool x4.2.1, .slice a12 x4.1.length c12, .bool x4.2.1] 5 ?_
     refine Zx ?_
     refine Zk [0, 6, 7, 9, 10, 11] [(0, pV bs_), (6, .int .i64 i1), (7, .slice a5 x2.1.length c5), (9, .int .i64 s3.2.2), (10, .slice a12 x4.1.length c12), (11, .bool x4.2.1)] ?_
     refine Zs ?_
     refine Zs ?_
     refine Zq [.bool x4.2.1, .bool (!x4.2.1)] [0, 6, 7, 9, 10, 39] [(0, pV bs_), (6, .int .i64 i1), (7, .slice a5 x2.1.length c5), (9, .int .i64 s3.2.2), (10, .slice a12 x4.1.length c12), (39, .bool (!x4.2.1))] ?_
     refine Zc (!x4.2.1) (fun hb3 => ?_) (fun hb3 => ?_)
     ·have hB2 := (M.ite_some hB2).1 hb3
      refine Zs ?_
      refine Zq [.int .i64 0, .int .i64 0, .int .i64 0, .int .i64 3] [2, 3, 4, 5] [(2, .int .i64 0), (3, .int .i64 0), (4, .int .i64 0), (5, .int .i64 3)] ?_
      have hB2 := M.ret_some hB2
      have gx3 := houty2 _ hB2.symm
      have hB1 := M.cont_inr' hB1 gx3
      have hB1 := M.ret_some hB1
      have gx1 := houty1 _ hB1.symm
      have hF := M.cont_inr' hF gx1
      have hF := M.ret_some hF
      subst hF
      have H18 : Hold h h6 [own cd90 a13 x4.2.2.last.length c13 x4.2.2.last, box bs_ 96 [.slice as_a s_.a.length cs_a, .slice a13 x4.2.2.last.length c13, .slice a14 x4.2.2.lists.length c14], rowsQ cd2 90 a14 x4.2.2.lists.length c14 x4.2.2.lists [(a12, c12, x4.1), (a5, c5, x2.1)], it] := H17.pk [1, 0, 2, 3]
      have H19 : Hold h h6 [rowsQ cd2 90 a14 x4.2.2.lists.length c14 x4.2.2.lists [(a12, c12, x4.1), (a5, c5, x2.1)], own cd90 a13 x4.2.2.last.length c13 x4.2.2.last, box bs_ 96 [.slice as_a s_.a.length cs_a, .slice a13 x4.2.2.last.length c13, .slice a14 x4.2.2.lists.length c14], it] := H18.pk [2, 0, 1, 3]
      have H20 := H19.ofQ
      have H21 : Hold h h6 [box bs_ 96 [.slice as_a s_.a.length cs_a, .slice a13 x4.2.2.last.length c13, .slice a14 x4.2.2.lists.length c14], own cd90 a13 x4.2.2.last.length c13 x4.2.2.last, own cd90 a14 x4.2.2.lists.length c14 x4.2.2.lists, it] := H20.pk [2, 1, 0, 3]
      exact Run_ret4 rfl (Zt (.int .i64 0)) (Zt (.int .i64 0)) (Zt (.int .i64 0)) (Zt (.int .i64 3)) ⟨a13, c13, a14, c14, rfl, H21⟩
     ·have hB2 := (M.ite_some hB2).2 hb3
      refine Run_skip ?_
      refine Zs ?_
      obtain ⟨x5, hx3, hB2⟩ := M.bind_some hB2
      refine Run_regC (j := 8) (C := fun x => Hold h x [box bs_ 96 [.slice as_a s_.a.length cs_a, .slice a13 x4.2.2.last.length c13, .slice a14 x4.2.2.lists.length c14], own cd90 a13 x4.2.2.last.length c13 x4.2.2.last, rowsQ cd2 90 a14 x4.2.2.lists.length c14 x4.2.2.lists [(a12, c12, x4.1), (a5, c5, x2.1)], it]) (by kernel_rfl) H17 (L' := [(0, pV bs_), (6, .int .i64 i1), (7, .slice a5 x2.1.length c5), (9, .int .i64 s3.2.2), (12, .int .i64 x5.1), (13, .bool x5.2)]) ?_ (fun h7 H22 => ?_)
      ·refine Zb [.slice a5 x2.1.length c5, .slice a12 x4.1.length c12] 0 ?_
       refine Zy (.tuple #[.int .i64 x5.1, .bool x5.2]) (Y_call (f := 93) (args := #[.slice a5 x2.1.length c5, .slice a12 x4.1.length c12]) (v := .tuple #[.int .i64 x5.1, .bool x5.2]) (by kernel_rfl) fun hx Hx => (w_spec_l07Gap hx x2.1 a5 c5 (Hx.rdPeek 2 rfl 1 rfl) x4.1 a12 c12 (Hx.rdPeek 2 rfl 0 rfl) _ _ hx3).mono fun _ _ ⟨e, H'⟩ => ⟨e, Hx.call H' rfl⟩) ?_
       refine Zb [.tuple #[.int .i64 x5.1, .bool x5.2], .int .i64 x5.1, .bool x5.2, .int .i64 x5.1, .bool x5.2] 3 ?_
       exact Zd [0, 6, 7, 9, 12, 13]
      have H23 : Hold h h7 [box bs_ 96 [.slice as_a s_.a.length cs_a, .slice a13 x4.2.2.last.length c13, .slice a14 x4.2.2.lists.length c14], own cd90 a13 x4.2.2.last.length c13 x4.2.2.last, rowsQ cd2 90 a14 x4.2.2.lists.length c14 x4.2.2.lists [(a12, c12, x4.1), (a5, c5, x2.1)], it] := H22
      refine Zs ?_
      refine Zq [.bool x5.2] [0, 6, 7, 9, 12, 46] [(0, pV bs_), (6, .int .i64 i1), (7, .slice a5 x2.1.length c5), (9, .int .i64 s3.2.2), (12, .int .i64 x5.1), (46, .bool x5.2)] ?_
      refine Zc (x5.2) (fun hb4 => ?_) (fun hb4 => ?_)
      ·have hB2 := (M.ite_some hB2).1 hb4
       refine Zs ?_
       refine Zq [.int .i64 i1, .int .i64 s3.2.2, .int .i64 x5.1, .int .i64 i1, .int .i64 s3.2.2, .int .i64 x5.1, .int .i64 0] [2, 3, 4, 5] [(2, .int .i64 i1), (3, .int .i64 s3.2.2), (4, .int .i64 x5.1), (5, .int .i64 0)] ?_
       have hB2 := M.ret_some hB2
       have gx3 := houty2 _ hB2.symm
       have hB1 := M.cont_inr' hB1 gx3
       have hB1 := M.ret_some hB1
       have gx1 := houty1 _ hB1.symm
       have hF := M.cont_inr' hF gx1
       have hF := M.ret_some hF
       subst hF
       have H24 : Hold h h7 [own cd90 a13 x4.2.2.last.length c13 x4.2.2.last, box bs_ 96 [.slice as_a s_.a.length cs_a, .slice a13 x4.2.2.last.length c13, .slice a14 x4.2.2.lists.length c14], rowsQ cd2 90 a14 x4.2.2.lists.length c14 x4.2.2.lists [(a12, c12, x4.1), (a5, c5, x2.1)], it] := H23.pk [1, 0, 2, 3]
       have H25 : Hold h h7 [rowsQ cd2 90 a14 x4.2.2.lists.length c14 x4.2.2.lists [(a12, c12, x4.1), (a5, c5, x2.1)], own cd90 a13 x4.2.2.last.length c13 x4.2.2.last, box bs_ 96 [.slice as_a s_.a.length cs_a, .slice a13 x4.2.2.last.length c13, .slice a14 x4.2.2.lists.length c14], it] := H24.pk [2, 0, 1, 3]
       have H26 := H25.ofQ
       have H27 : Hold h h7 [box bs_ 96 [.slice as_a s_.a.length cs_a, .slice a13 x4.2.2.last.length c13, .slice a14 x4.2.2.lists.length c14], own cd90 a13 x4.2.2.last.length c13 x4.2.2.last, own cd90 a14 x4.2.2.lists.length c14 x4.2.2.lists, it] := H26.pk [2, 1, 0, 3]
       exact Run_ret4 rfl (Zt (.int .i64 i1)) (Zt (.int .i64 s3.2.2)) (Zt (.int .i64 x5.1)) (Zt (.int .i64 0)) ⟨a13, c13, a14, c14, rfl, H27⟩
      ·have hB2 := (M.ite_some hB2).2 hb4
       refine Run_skip ?_
       refine Run_blk ?_
       refine Zq [.int .i64 s3.2.2, .int .i64 (w64 (s3.2.2 + 1)), .int .i64 (w64 (s3.2.2 + 1))] [0, 6, 7, 9] [(0, pV bs_), (6, .int .i64 i1), (7, .slice a5 x2.1.length c5), (9, .int .i64 (w64 (s3.2.2 + 1)))] ?_
       have H28 : Hold h h7 [own cd90 a13 x4.2.2.last.length c13 x4.2.2.last, box bs_ 96 [.slice as_a s_.a.length cs_a, .slice a13 x4.2.2.last.length c13, .slice a14 x4.2.2.lists.length c14], rowsQ cd2 90 a14 x4.2.2.lists.length c14 x4.2.2.lists [(a12, c12, x4.1), (a5, c5, x2.1)], it] := H23.pk [1, 0, 2, 3]
       have H29 : Hold h h7 [rowsQ cd2 90 a14 x4.2.2.lists.length c14 x4.2.2.lists [(a12, c12, x4.1), (a5, c5, x2.1)], own cd90 a13 x4.2.2.last.length c13 x4.2.2.last, box bs_ 96 [.slice as_a s_.a.length cs_a, .slice a13 x4.2.2.last.length c13, .slice a14 x4.2.2.lists.length c14], it] := H28.pk [2, 0, 1, 3]
       have H30 := H29.pickQ [(a5, c5, x2.1)] (by simp)
       have H31 : Hold h h7 [box bs_ 96 [.slice as_a s_.a.length cs_a, .slice a13 x4.2.2.last.length c13, .slice a14 x4.2.2.lists.length c14], own cd90 a13 x4.2.2.last.length c13 x4.2.2.last, rowsQ cd2 90 a14 x4.2.2.lists.length c14 x4.2.2.lists [(a5, c5, x2.1)], it] := H30.pk [2, 1, 0, 3]
       have hB2 := M.ret_some hB2
       have gx3 := hgoy2 _ hB2.symm
       exact Za [0, 6, 7, 9] my2 ⟨(x4.2.2.last, x4.2.2.lists, (w64 (s3.2.2 + 1))), a13, c13, a14, c14, gx3, rfl, H31⟩
    ·have hB2 := (M.ite_some hB2).2 hb2
     refine Run_exit (k' := _) rfl ?_
     have H32 : Hold h h4 [own cd90 a8 s3.1.length c8 s3.1, box bs_ 96 [.slice as_a s_.a.length cs_a, .slice a8 s3.1.length c8, .slice a9 s3.2.1.length c9], rowsQ cd2 90 a9 s3.2.1.length c9 s3.2.1 [(a5, c5, x2.1)], it] := H10.pk [1, 0, 2, 3]
     have H33 : Hold h h4 [rowsQ cd2 90 a9 s3.2.1.length c9 s3.2.1 [(a5, c5, x2.1)], own cd90 a8 s3.1.length c8 s3.1, box bs_ 96 [.slice as_a s_.a.length cs_a, .slice a8 s3.1.length c8, .slice a9 s3.2.1.length c9], it] := H32.pk [2, 0, 1, 3]
     have H34 : Hold h h4 [box bs_ 96 [.slice as_a s_.a.length cs_a, .slice a8 s3.1.length c8, .slice a9 s3.2.1.length c9], own cd90 a8 s3.1.length c8 s3.1, rowsQ cd2 90 a9 s3.2.1.length c9 s3.2.1 [(a5, c5, x2.1)], it] := H33.pk [2, 1, 0, 3]
     have hB2 := M.ret_some hB2
     have gx3 := houty2 _ hB2.symm
     subst gx3
     exact Zf [0, 6] ⟨(s3.1, s3.2.1, s3.2.2), a8, c8, a9, c9, rfl, rfl, H34⟩
  ·have gx1 := M.for_end gx1 hb1
   subst gx1
   refine Run_exit (k' := _) rfl ?_
   have H42 : Hold h h1 [own cd90 a1 s1.1.length c1 s1.1, box bs_ 96 [.slice as_a s_.a.length cs_a, .slice a1 s1.1.length c1, .slice a2 s1.2.length c2], own cd90 a2 s1.2.length c2 s1.2, it] := H1.pk [1, 0, 2, 3]
   have H43 : Hold h h1 [own cd90 a2 s1.2.length c2 s1.2, own cd90 a1 s1.1.length c1 s1.1, box bs_ 96 [.slice as_a s_.a.length cs_a, .slice a1 s1.1.length c1, .slice a2 s1.2.length c2], it] := H42.pk [2, 0, 1, 3]
   have H44 : Hold h h1 [box bs_ 96 [.slice as_a s_.a.length cs_a, .slice a1 s1.1.length c1, .slice a2 s1.2.length c2], own cd90 a1 s1.1.length c1 s1.1, own cd90 a2 s1.2.length c2 s1.2, it] := H43.pk [2, 1, 0, 3]
   exact Zf [] ⟨(s1.1, s1.2), a1, c1, a2, c2, rfl, rfl, H44⟩

theorem w_spec_PowersRepeat (h : Heap) (a_ : List (List Int)) (aa_ : Option Addr) (ca_ : Nat) (ra_ : Rd cd90 h (Lt h) aa_ ca_ a_) (n : Nat) (r : Int × Int × Int × Int) (hF : spec_PowersRepeat a_ n = some r) :
  Fn Try.prog 16 #[.slice aa_ a_.length ca_] h fun v h' => v = .tuple #[.int .i64 r.1, .int .i64 r.2.1, .int .i64 r.2.2.1, .int .i64 r.2.2.2] ∧ Hold h h' [] := by
 unfold spec_PowersRepeat at hF
 refine Zo [.slice aa_ a_.length ca_] Try.func16 rfl (fun w0 _ => ?_)
 have H0 := Hold.init h
 refine Zs ?_
 refine Zq [.int .i64 0, .int .i64 0, .int .i64 0, .int .i64 0] [0] [(0, .slice aa_ a_.length ca_)] ?_
 refine Zs ?_
 refine Zs ?_
 obtain ⟨x1, hx1, hF⟩ := M.bind_some hF
 refine Zg 3 [(0, .slice aa_ a_.length ca_), (8, .bool (!x1))] ?_ ?_
 ·refine Zb [.slice aa_ a_.length ca_] 0 ?_
  refine Zy (.bool x1) (ZQ 42 #[.slice aa_ a_.length ca_] (w_spec_l02Square h a_ aa_ ca_ ra_ _ _ hx1)) ?_
  refine Zb [.bool (!x1)] 2 ?_
  exact Zd [0, 8]
 refine Zc (!x1) (fun hb1 => ?_) (fun hb1 => ?_)
 ·have hF := (M.ite_some hF).1 hb1
  refine Zs ?_
  refine Zq [.int .i64 0, .int .i64 0, .int .i64 0, .int .i64 1] [2, 3, 4, 5] [(2, .int .i64 0), (3, .int .i64 0), (4, .int .i64 0), (5, .int .i64 1)] ?_
  have hF := M.ret_some hF
  subst hF
  exact Run_ret4 rfl (Zt (.int .i64 0)) (Zt (.int .i64 0)) (Zt (.int .i64 0)) (Zt (.int .i64 1)) ⟨rfl, H0⟩
 ·have hF := (M.ite_some hF).2 hb1
  refine Run_skip ?_
  refine Zs ?_
  refine Run_ops ?_
  refine Zr [.slice aa_ a_.length ca_, .slice aa_ a_.length ca_, .int .i64 (a_.length : Int)] 0 ?_
  obtain ⟨x2, hx2, hF⟩ := M.bind_some hF
  refine Ze ?_
  refine ZC 45 #[.int .i64 (a_.length : Int)] (w_spec_l02Unit h (a_.length : Int) _ _ hx2) (fun v1 h1 hp1 => ?_)
  obtain ⟨a1, c1, rfl, H1⟩ := hp1
  have H2 : Hold h h1 [own cd90 a1 x2.length c1 x2] := H0.call H1 rfl
  obtain ⟨x3, hx3, hF⟩ := M.bind_some hF
  refine Ze ?_
  refine ZC 44 #[.slice aa_ a_.length ca_, .slice a1 x2.length c1] (w_spec_l07Start h1 a_ aa_ ca_ (ra_.at H2.ext) x2 a1 c1 (H2.rd 0 rfl) _ _ hx3) (fun v2 h2 hp2 => ?_)
  obtain ⟨b1, a2, c2, a3, c3, a4, c4, rfl, hd1, hd2, H3⟩ := hp2
  have H4 : Hold h h2 [box b1 96 [.slice a2 x3.a.length c2, .slice a3 x3.last.length c3, .slice a4 x3.lists.length c4], own cd90 a4 x3.lists.length c4 x3.lists, own cd90 a1 x2.length c1 x2] := H2.call H3 rfl
  have r1 := ra_.alias hd1
  have H5 : Hold h h2 [own cd90 a1 x2.length c1 x2, box b1 96 [.slice a2 x3.a.length c2, .slice a3 x3.last.length c3, .slice a4 x3.lists.length c4], own cd90 a4 x3.lists.length c4 x3.lists] := H4.pk [2, 0, 1]
  have H6 := H5.alias hd2
  obtain ⟨x4, hx4, hF⟩ := M.bind_some hF
  have H7 : Hold h h2 [own cd90 a4 x3.lists.length c4 x3.lists, own cd90 a3 x3.last.length c3 x3.last, box b1 96 [.slice a2 x3.a.length c2, .slice a3 x3.last.length c3, .slice a4 x3.lists.length c4]] := H6.pk [2, 0, 1]
  have H8 : Hold h h2 [box b1 96 [.slice a2 x3.a.length c2, .slice a3 x3.last.length c3, .slice a4 x3.lists.length c4], own cd90 a3 x3.last.length c3 x3.last, own cd90 a4 x3.lists.length c4 x3.lists] := H7.pk [2, 1, 0]
  have H9 : Hold h h2 [box b1 96 [.slice a2 x3.a.length c2, .slice a3 x3.last.length c3, .slice a4 x3.lists.length c4], own cd90 a3 x3.last.length c3 x3.last, own cd90 a4 x3.lists.length c4 x3.lists, bun []] := Hold.bundle (S := [box b1 96 [.slice a2 x3.a.length c2, .slice a3 x3.last.length c3, .slice a4 x3.lists.length c4], own cd90 a3 x3.last.length c3 x3.last, own cd90 a4 x3.lists.length c4 x3.lists]) (R := []) H8
  refine Ze ?_
  refine ZC 43 #[pV b1] (w_spec_l07Find_B h h2 _ x3 b1 a2 c2 r1 a3 c3 a4 c4 H9 _ _ hx4) (fun v3 h3 hp3 => ?_)
  obtain ⟨a5, c5, a6, c6, rfl, H10⟩ := hp3
  have H11 : Hold h h3 [box b1 96 [.slice a2 x3.a.length c2, .slice a5 x4.2.2.2.2.last.length c5, .slice a6 x4.2.2.2.2.lists.length c6], own cd90 a5 x4.2.2.2.2.last.length c5 x4.2.2.2.2.last, own cd90 a6 x4.2.2.2.2.lists.length c6 x4.2.2.2.2.lists] := Hold.unbundle (S := [box b1 96 [.slice a2 x3.a.length c2, .slice a5 x4.2.2.2.2.last.length c5, .slice a6 x4.2.2.2.2.lists.length c6], own cd90 a5 x4.2.2.2.2.last.length c5 x4.2.2.2.2.last, own cd90 a6 x4.2.2.2.2.lists.length c6 x4.2.2.2.2.lists]) (R := []) H10 (Hold.tailBase (S := [box b1 96 [.slice a2 x3.a.length c2, .slice a3 x3.last.length c3, .slice a4 x3.lists.length c4], own cd90 a3 x3.last.length c3 x3.last, own cd90 a4 x3.lists.length c4 x3.lists]) (R := []) H8)
  refine Zr [.int .i64 x4.1, .int .i64 x4.2.1, .int .i64 x4.2.2.1, .int .i64 x4.2.2.2.1, .int .i64 x4.1, .int .i64 x4.2.1, .int .i64 x4.2.2.1, .int .i64 x4.2.2.2.1] 6 ?_
  refine Zx ?_
  refine Zk [2, 3, 4, 5] [(2, .int .i64 x4.1), (3, .int .i64 x4.2.1), (4, .int .i64 x4.2.2.1), (5, .int .i64 x4.2.2.2.1)] ?_
  have hF := M.ret_some hF
  subst hF
  have H12 : Hold h h3 [] := H11.pk []
  exact Run_ret4 rfl (Zt (.int .i64 x4.1)) (Zt (.int .i64 x4.2.1)) (Zt (.int .i64 x4.2.2.1)) (Zt (.int .i64 x4.2.2.2.1)) ⟨rfl, H12⟩

theorem w_spec_DrawIsRepeat (h : Heap) (code : List Int) (acode : Option Addr) (ccode : Nat) (rcode : Rd cd5 h (Lt h) acode ccode code) (n : Nat) (r : (List (List Int)) × Int × Int × Int) (hF : spec_DrawIsRepeat code n = some r) :
  Fn Try.prog 17 #[.slice acode code.length ccode] h fun v h' => ∃ (a0 : Option Addr) (c0 : Nat), v = .tuple #[.slice a0 r.1.length c0, .int .i64 r.2.1, .int .i64 r.2.2.1, .int .i64 r.2.2.2] ∧ Hold h h' [own cd90 a0 r.1.length c0 r.1] := by
 unfold spec_DrawIsRepeat at hF
 refine Zo [.slice acode code.length ccode] Try.func17 rfl (fun w0 _ => ?_)
 have H0 := Hold.init h
 refine Zs ?_
 refine Zq [.slice none 0 0, .int .i64 0, .int .i64 0, .int .i64 0] [0] [(0, .slice acode code.length ccode)] ?_
 refine Zs ?_
 refine Run_ops ?_
 refine Zr [.slice acode code.length ccode] 0 ?_
 obtain ⟨x1, hx1, hF⟩ := M.bind_some hF
 refine Ze ?_
 refine ZC 38 #[.slice acode code.length ccode] (w_spec_l01From h code acode ccode rcode _ _ hx1) (fun v1 h1 hp1 => ?_)
 obtain ⟨b1, a1, c1, rfl, hd1, H1⟩ := hp1
 have H2 : Hold h h1 [box b1 121 [.slice a1 x1.code.length c1, .int .i64 x1.at_, .int .i64 x1.seed]] := H0.call H1 rfl
 have r1 := rcode.alias hd1
 refine Zr [pV b1] 2 ?_
 refine Zx ?_
 refine Zk [6] [(6, pV b1)] ?_
 refine Zs ?_
 refine Run_ops ?_
 refine Zr [pV b1] 0 ?_
 obtain ⟨x2, hx2, hF⟩ := M.bind_some hF
 have H3 : Hold h h1 [box b1 121 [.slice a1 x1.code.length c1, .int .i64 x1.at_, .int .i64 x1.seed], bun []] := Hold.bundle (S := [box b1 121 [.slice a1 x1.code.length c1, .int .i64 x1.at_, .int .i64 x1.seed]]) (R := []) H2
 refine Ze ?_
 refine ZC 37 #[pV b1] (w_spec_l07Draw h h1 _ x1 b1 a1 c1 r1 H3 _ _ hx2) (fun v2 h2 hp2 => ?_)
 obtain ⟨a2, c2, rfl, H4⟩ := hp2
 have H5 : Hold h h2 [own cd90 a2 x2.1.length c2 x2.1, box b1 121 [.slice a1 x1.code.length c1, .int .i64 x2.2.at_, .int .i64 x2.2.seed]] := Hold.unbundle (S := [own cd90 a2 x2.1.length c2 x2.1, box b1 121 [.slice a1 x1.code.length c1, .int .i64 x2.2.at_, .int .i64 x2.2.seed]]) (R := []) H4 (Hold.tailBase (S := [box b1 121 [.slice a1 x1.code.length c1, .int .i64 x1.at_, .int .i64 x1.seed]]) (R := []) H2)
 refine Zr [.slice a2 x2.1.length c2] 2 ?_
 refine Zx ?_
 refine Zk [6, 7] [(6, pV b1), (7, .slice a2 x2.1.length c2)] ?_
 refine Zs ?_
 obtain ⟨x3, hx3, hF⟩ := M.bind_some hF
 refine Run_regC (j := 11) (C := fun x => Hold h x [own cd90 a2 x2.1.length c2 x2.1, box b1 121 [.slice a1 x1.code.length c1, .int .i64 x2.2.at_, .int .i64 x2.2.seed]]) (by kernel_rfl) H5 (L' := [(6, pV b1), (7, .slice a2 x2.1.length c2), (8, .int .i64 x3.1), (9, .int .i64 x3.2.1), (10, .int .i64 x3.2.2.1), (11, .int .i64 x3.2.2.2)]) ?_ (fun h3 H6 => ?_)
 ·refine Zb [.slice a2 x2.1.length c2] 0 ?_
  refine Zy (.tuple #[.int .i64 x3.1, .int .i64 x3.2.1, .int .i64 x3.2.2.1, .int .i64 x3.2.2.2]) (Y_call (f := 16) (args := #[.slice a2 x2.1.length c2]) (v := .tuple #[.int .i64 x3.1, .int .i64 x3.2.1, .int .i64 x3.2.2.1, .int .i64 x3.2.2.2]) (by kernel_rfl) fun hx Hx => (w_spec_PowersRepeat hx x2.1 a2 c2 (Hx.rd 0 rfl) _ _ hx3).mono fun _ _ ⟨e, H'⟩ => ⟨e, Hx.call H' rfl⟩) ?_
  refine Zb [.tuple #[.int .i64 x3.1, .int .i64 x3.2.1, .int .i64 x3.2.2.1, .int .i64 x3.2.2.2], .int .i64 x3.1, .int .i64 x3.2.1, .int .i64 x3.2.2.1, .int .i64 x3.2.2.2, .int .i64 x3.1, .int .i64 x3.2.1, .int .i64 x3.2.2.1, .int .i64 x3.2.2.2] 2 ?_
  exact Zd [6, 7, 8, 9, 10, 11]
 have H7 : Hold h h3 [own cd90 a2 x2.1.length c2 x2.1, box b1 121 [.slice a1 x1.code.length c1, .int .i64 x2.2.at_, .int .i64 x2.2.seed]] := H6
 refine Zs ?_
 refine Zs ?_
 obtain ⟨s1, gs1, hF⟩ := M.bind_some hF
 refine Run_join (fun L' h' => L' = [(6, pV b1), (7, .slice a2 x2.1.length c2), (8, .int .i64 x3.1), (9, .int .i64 x3.2.1), (10, .int .i64 x3.2.2.1), (29, .bool s1.2.2)] ∧ Hold h h' [box b1 121 [.slice a1 x1.code.length c1, .int .i64 s1.1, .int .i64 s1.2.1], own cd90 a2 x2.1.length c2 x2.1]) ?_ ?_
 ·rintro _ h5 ⟨rfl, H12⟩
  refine Zc (s1.2.2) (fun hb2 => ?_) (fun hb2 => ?_)
  ·have hF := (M.ite_some hF).1 hb2
   refine Zs ?_
   refine Run_ops ?_
   refine Zr [.slice a2 x2.1.length c2, pV b1] 0 ?_
   obtain ⟨x5, hx5, hF⟩ := M.bind_some hF
   have H14 : Hold h h5 [box b1 121 [.slice a1 x1.code.length c1, .int .i64 s1.1, .int .i64 s1.2.1], bun [own cd90 a2 x2.1.length c2 x2.1]] := Hold.bundle (S := [box b1 121 [.slice a1 x1.code.length c1, .int .i64 s1.1, .int .i64 s1.2.1]]) (R := [own cd90 a2 x2.1.length c2 x2.1]) H12
   refine Ze ?_
   refine ZC 46 #[pV b1, .int .i64 12] (w_spec_l01Next h h5 _ (⟨x1.code, s1.1, s1.2.1⟩ : TL01source) b1 a1 c1 r1 12 H14 _ _ hx5) (fun v4 h6 hp4 => ?_)
   obtain ⟨rfl, H15⟩ := hp4
   have H16 : Hold h h6 [box b1 121 [.slice a1 x1.code.length c1, .int .i64 x5.2.at_, .int .i64 x5.2.seed], own cd90 a2 x2.1.length c2 x2.1] := Hold.unbundle (S := [box b1 121 [.slice a1 x1.code.length c1, .int .i64 x5.2.at_, .int .i64 x5.2.seed]]) (R := [own cd90 a2 x2.1.length c2 x2.1]) H15 (Hold.tailBase (S := [box b1 121 [.slice a1 x1.code.length c1, .int .i64 s1.1, .int .i64 s1.2.1]]) (R := [own cd90 a2 x2.1.length c2 x2.1]) H12)
   refine Zr [pV b1] 3 ?_
   obtain ⟨x6, hx6, hF⟩ := M.bind_some hF
   have H17 : Hold h h6 [box b1 121 [.slice a1 x1.code.length c1, .int .i64 x5.2.at_, .int .i64 x5.2.seed], bun [own cd90 a2 x2.1.length c2 x2.1]] := Hold.bundle (S := [box b1 121 [.slice a1 x1.code.length c1, .int .i64 x5.2.at_, .int .i64 x5.2.seed]]) (R := [own cd90 a2 x2.1.length c2 x2.1]) H16
   refine Ze ?_
   refine ZC 46 #[pV b1, .int .i64 5] (w_spec_l01Next h h6 _ (⟨x1.code, x5.2.at_, x5.2.seed⟩ : TL01source) b1 a1 c1 r1 5 H17 _ _ hx6) (fun v5 h7 hp5 => ?_)
   obtain ⟨rfl, H18⟩ := hp5
   have H19 : Hold h h7 [box b1 121 [.slice a1 x1.code.length c1, .int .i64 x6.2.at_, .int .i64 x6.2.seed], own cd90 a2 x2.1.length c2 x2.1] := Hold.unbundle (S := [box b1 121 [.slice a1 x1.code.length c1, .int .i64 x6.2.at_, .int .i64 x6.2.seed]]) (R := [own cd90 a2 x2.1.length c2 x2.1]) H18 (Hold.tailBase (S := [box b1 121 [.slice a1 x1.code.length c1, .int .i64 x5.2.at_, .int .i64 x5.2.seed]]) (R := [own cd90 a2 x2.1.length c2 x2.1]) H16)
   refine Zr [.int .i64 (w64 (1 + x6.1)), pV b1] 5 ?_
   obtain ⟨x7, hx7, hF⟩ := M.bind_some hF
   have H20 : Hold h h7 [box b1 121 [.slice a1 x1.code.length c1, .int .i64 x6.2.at_, .int .i64 x6.2.seed], bun [own cd90 a2 x2.1.length c2 x2.1]] := Hold.bundle (S := [box b1 121 [.slice a1 x1.code.length c1, .int .i64 x6.2.at_, .int .i64 x6.2.seed]]) (R := [own cd90 a2 x2.1.length c2 x2.1]) H19
   refine Ze ?_
   refine ZC 46 #[pV b1, .int .i64 60] (w_spec_l01Next h h7 _ (⟨x1.code, x6.2.at_, x6.2.seed⟩ : TL01source) b1 a1 c1 r1 60 H20 _ _ hx7) (fun v6 h8 hp6 => ?_)
   obtain ⟨rfl, H21⟩ := hp6
   have H22 : Hold h h8 [box b1 121 [.slice a1 x1.code.length c1, .int .i64 x7.2.at_, .int .i64 x7.2.seed], own cd90 a2 x2.1.length c2 x2.1] := Hold.unbundle (S := [box b1 121 [.slice a1 x1.code.length c1, .int .i64 x7.2.at_, .int .i64 x7.2.seed]]) (R := [own cd90 a2 x2.1.length c2 x2.1]) H21 (Hold.tailBase (S := [box b1 121 [.slice a1 x1.code.length c1, .int .i64 x6.2.at_, .int .i64 x6.2.seed]]) (R := [own cd90 a2 x2.1.length c2 x2.1]) H19)
   refine Zr [.int .i64 (w64 (x7.1 - 10)), .slice a2 x2.1.length c2, .int .i64 x5.1, .int .i64 (w64 (1 + x6.1)), .int .i64 (w64 (x7.1 - 10))] 8 ?_
   refine Zx ?_
   refine Zk [2, 3, 4, 5] [(2, .slice a2 x2.1.length c2), (3, .int .i64 x5.1), (4, .int .i64 (w64 (1 + x6.1))), (5, .int .i64 (w64 (x7.1 - 10)))] ?_
   have hF := M.ret_some hF
   subst hF
   have H23 : Hold h h8 [own cd90 a2 x2.1.length c2 x2.1, box b1 121 [.slice a1 x1.code.length c1, .int .i64 x7.2.at_, .int .i64 x7.2.seed]] := H22.pk [1, 0]
   have H24 : Hold h h8 [own cd90 a2 x2.1.length c2 x2.1] := H23.pk [0]
   exact Run_ret4 rfl (Zt (.slice a2 x2.1.length c2)) (Zt (.int .i64 x5.1)) (Zt (.int .i64 (w64 (1 + x6.1)))) (Zt (.int .i64 (w64 (x7.1 - 10)))) ⟨a2, c2, rfl, H24⟩
  ·have hF := (M.ite_some hF).2 hb2
   refine Run_skip ?_
   refine Zs ?_
   refine Zs ?_
   refine Run_ops ?_
   refine Zr [pV b1] 0 ?_
   obtain ⟨x8, hx8, hF⟩ := M.bind_some hF
   have H25 : Hold h h5 [box b1 121 [.slice a1 x1.code.length c1, .int .i64 s1.1, .int .i64 s1.2.1], bun [own cd90 a2 x2.1.length c2 x2.1]] := Hold.bundle (S := [box b1 121 [.slice a1 x1.code.length c1, .int .i64 s1.1, .int .i64 s1.2.1]]) (R := [own cd90 a2 x2.1.length c2 x2.1]) H12
   refine Ze ?_
   refine ZC 46 #[pV b1, .int .i64 8] (w_spec_l01Next h h5 _ (⟨x1.code, s1.1, s1.2.1⟩ : TL01source) b1 a1 c1 r1 8 H25 _ _ hx8) (fun v7 h9 hp7 => ?_)
   obtain ⟨rfl, H26⟩ := hp7
   have H27 : Hold h h9 [box b1 121 [.slice a1 x1.code.length c1, .int .i64 x8.2.at_, .int .i64 x8.2.seed], own cd90 a2 x2.1.length c2 x2.1] := Hold.unbundle (S := [box b1 121 [.slice a1 x1.code.length c1, .int .i64 x8.2.at_, .int .i64 x8.2.seed]]) (R := [own cd90 a2 x2.1.length c2 x2.1]) H26 (Hold.tailBase (S := [box b1 121 [.slice a1 x1.code.length c1, .int .i64 s1.1, .int .i64 s1.2.1]]) (R := [own cd90 a2 x2.1.length c2 x2.1]) H12)
   refine Zx ?_
   refine Zk [6, 7, 8, 9, 10, 40] [(6, pV b1), (7, .slice a2 x2.1.length c2), (8, .int .i64 x3.1), (9, .int .i64 x3.2.1), (10, .int .i64 x3.2.2.1), (40, .int .i64 x8.1)] ?_
   refine Run_block ?_
   refine Zs ?_
   refine Zq [.bool (x8.1 == 0), .bool (x8.1 == 0)] [6, 7, 8, 9, 10, 40, 41] [(6, pV b1), (7, .slice a2 x2.1.length c2), (8, .int .i64 x3.1), (9, .int .i64 x3.2.1), (10, .int .i64 x3.2.2.1), (40, .int .i64 x8.1), (41, .bool (x8.1 == 0))] ?_
   refine Zc (x8.1 == 0) (fun hb3 => ?_) (fun hb3 => ?_)
   ·have hF := (M.ite_some hF).1 hb3
    refine Zs ?_
    refine Run_ops ?_
    refine Zr [.slice a2 x2.1.length c2, pV b1, .int .i64 x3.1] 0 ?_
    refine Ze ?_
    refine E_lit (C := cd2) (n := 3) (l := ([(-1), 100, x3.1] : List Int)) (cs := [.int .i64 (-1), .int .i64 100, .int .i64 x3.1]) H27 (fun w => by kernel_rfl) (Enc.consE (cd2_own (-1) _) (Enc.consE (cd2_own 100 _) (Enc.consE (cd2_own x3.1 _) (Enc.nil _ _) rfl) rfl) rfl) rfl (by decide) (fun a3 h10 H28 => ?_)
    obtain ⟨x9, hx9, hF⟩ := M.bind_some hF
    have hn1 := (H28.len 0 rfl)
    have H29 : Hold h h10 [own cd2 a3 (([(-1), 100, x3.1] : List Int).length) 3 ([(-1), 100, x3.1] : List Int), box b1 121 [.slice a1 x1.code.length c1, .int .i64 x8.2.at_, .int .i64 x8.2.seed], own cd90 a2 x2.1.length c2 x2.1] := by rw [hn1]; exact H28
    have H30 : Hold h h10 [box b1 121 [.slice a1 x1.code.length c1, .int .i64 x8.2.at_, .int .i64 x8.2.seed], own cd2 a3 (([(-1), 100, x3.1] : List Int).length) 3 ([(-1), 100, x3.1] : List Int), own cd90 a2 x2.1.length c2 x2.1] := H29.pk [1, 0, 2]
    have H31 : Hold h h10 [box b1 121 [.slice a1 x1.code.length c1, .int .i64 x8.2.at_, .int .i64 x8.2.seed], own cd2 a3 (([(-1), 100, x3.1] : List Int).length) 3 ([(-1), 100, x3.1] : List Int), bun [own cd90 a2 x2.1.length c2 x2.1]] := Hold.bundle (S := [box b1 121 [.slice a1 x1.code.length c1, .int .i64 x8.2.at_, .int .i64 x8.2.seed], own cd2 a3 (([(-1), 100, x3.1] : List Int).length) 3 ([(-1), 100, x3.1] : List Int)]) (R := [own cd90 a2 x2.1.length c2 x2.1]) H30
    refine Ze ?_
    refine ZC 47 #[pV b1, .slice a3 3 3] (Fn.arg (w_spec_l01Pick h h10 _ (⟨x1.code, x8.2.at_, x8.2.seed⟩ : TL01source) b1 a1 c1 r1 ([(-1), 100, x3.1] : List Int) a3 3 H31 _ _ hx9) (by simp only [hn1])) (fun v8 h11 hp8 => ?_)
    obtain ⟨rfl, H32⟩ := hp8
    have H33 : Hold h h11 [box b1 121 [.slice a1 x1.code.length c1, .int .i64 x9.2.1.at_, .int .i64 x9.2.1.seed], own cd2 a3 (([(-1), 100, x3.1] : List Int).length) 3 x9.2.2, own cd90 a2 x2.1.length c2 x2.1] := Hold.unbundle (S := [box b1 121 [.slice a1 x1.code.length c1, .int .i64 x9.2.1.at_, .int .i64 x9.2.1.seed], own cd2 a3 (([(-1), 100, x3.1] : List Int).length) 3 x9.2.2]) (R := [own cd90 a2 x2.1.length c2 x2.1]) H32 (Hold.tailBase (S := [box b1 121 [.slice a1 x1.code.length c1, .int .i64 x8.2.at_, .int .i64 x8.2.seed], own cd2 a3 (([(-1), 100, x3.1] : List Int).length) 3 ([(-1), 100, x3.1] : List Int)]) (R := [own cd90 a2 x2.1.length c2 x2.1]) H30)
    refine Zr [pV b1] 5 ?_
    refine Ze ?_
    refine E_lit (C := cd2) (n := 3) (l := ([0, 100, 101] : List Int)) (cs := [.int .i64 0, .int .i64 100, .int .i64 101]) H33 (fun w => by kernel_rfl) (Enc.consE (cd2_own 0 _) (Enc.consE (cd2_own 100 _) (Enc.consE (cd2_own 101 _) (Enc.nil _ _) rfl) rfl) rfl) rfl (by decide) (fun a4 h12 H34 => ?_)
    obtain ⟨x10, hx10, hF⟩ := M.bind_some hF
    have hn2 := (H34.len 0 rfl)
    have H35 : Hold h h12 [own cd2 a4 (([0, 100, 101] : List Int).length) 3 ([0, 100, 101] : List Int), box b1 121 [.slice a1 x1.code.length c1, .int .i64 x9.2.1.at_, .int .i64 x9.2.1.seed], own cd2 a3 (([(-1), 100, x3.1] : List Int).length) 3 x9.2.2, own cd90 a2 x2.1.length c2 x2.1] := by rw [hn2]; exact H34
    have H36 : Hold h h12 [box b1 121 [.slice a1 x1.code.length c1, .int .i64 x9.2.1.at_, .int .i64 x9.2.1.seed], own cd2 a4 (([0, 100, 101] : List Int).length) 3 ([0, 100, 101] : List Int), own cd2 a3 (([(-1), 100, x3.1] : List Int).length) 3 x9.2.2, own cd90 a2 x2.1.length c2 x2.1] := H35.pk [1, 0, 2, 3]
    have H37 : Hold h h12 [box b1 121 [.slice a1 x1.code.length c1, .int .i64 x9.2.1.at_, .int .i64 x9.2.1.seed], own cd2 a4 (([0, 100, 101] : List Int).length) 3 ([0, 100, 101] : List Int), bun [own cd2 a3 (([(-1), 100, x3.1] : List Int).length) 3 x9.2.2, own cd90 a2 x2.1.length c2 x2.1]] := Hold.bundle (S := [box b1 121 [.slice a1 x1.code.length c1, .int .i64 x9.2.1.at_, .int .i64 x9.2.1.seed], own cd2 a4 (([0, 100, 101] : List Int).length) 3 ([0, 100, 101] : List Int)]) (R := [own cd2 a3 (([(-1), 100, x3.1] : List Int).length) 3 x9.2.2, own cd90 a2 x2.1.length c2 x2.1]) H36
    refine Ze ?_
    refine ZC 47 #[pV b1, .slice a4 3 3] (Fn.arg (w_spec_l01Pick h h12 _ (⟨x1.code, x9.2.1.at_, x9.2.1.seed⟩ : TL01source) b1 a1 c1 r1 ([0, 100, 101] : List Int) a4 3 H37 _ _ hx10) (by simp only [hn2])) (fun v9 h13 hp9 => ?_)
    obtain ⟨rfl, H38⟩ := hp9
    have H39 : Hold h h13 [box b1 121 [.slice a1 x1.code.length c1, .int .i64 x10.2.1.at_, .int .i64 x10.2.1.seed], own cd2 a4 (([0, 100, 101] : List Int).length) 3 x10.2.2, own cd2 a3 (([(-1), 100, x3.1] : List Int).length) 3 x9.2.2, own cd90 a2 x2.1.length c2 x2.1] := Hold.unbundle (S := [box b1 121 [.slice a1 x1.code.length c1, .int .i64 x10.2.1.at_, .int .i64 x10.2.1.seed], own cd2 a4 (([0, 100, 101] : List Int).length) 3 x10.2.2]) (R := [own cd2 a3 (([(-1), 100, x3.1] : List Int).length) 3 x9.2.2, own cd90 a2 x2.1.length c2 x2.1]) H38 (Hold.tailBase (S := [box b1 121 [.slice a1 x1.code.length c1, .int .i64 x9.2.1.at_, .int .i64 x9.2.1.seed], own cd2 a4 (([0, 100, 101] : List Int).length) 3 ([0, 100, 101] : List Int)]) (R := [own cd2 a3 (([(-1), 100, x3.1] : List Int).length) 3 x9.2.2, own cd90 a2 x2.1.length c2 x2.1]) H36)
    refine Zr [.int .i64 x3.2.2.1, .slice a2 x2.1.length c2, .int .i64 x9.1, .int .i64 x10.1, .int .i64 x3.2.2.1] 8 ?_
    refine Zx ?_
    refine Zk [2, 3, 4, 5] [(2, .slice a2 x2.1.length c2), (3, .int .i64 x9.1), (4, .int .i64 x10.1), (5, .int .i64 x3.2.2.1)] ?_
    have hF := M.ret_some hF
    subst hF
    have H40 : Hold h h13 [own cd90 a2 x2.1.length c2 x2.1, box b1 121 [.slice a1 x1.code.length c1, .int .i64 x10.2.1.at_, .int .i64 x10.2.1.seed], own cd2 a4 (([0, 100, 101] : List Int).length) 3 x10.2.2, own cd2 a3 (([(-1), 100, x3.1] : List Int).length) 3 x9.2.2] := H39.pk [3, 0, 1, 2]
    have H41 : Hold h h13 [own cd90 a2 x2.1.length c2 x2.1] := H40.pk [0]
    exact Run_ret4 rfl (Zt (.slice a2 x2.1.length c2)) (Zt (.int .i64 x9.1)) (Zt (.int .i64 x10.1)) (Zt (.int .i64 x3.2.2.1)) ⟨a2, c2, rfl, H41⟩
   ·have hF := (M.ite_some hF).2 hb3
    refine Zs ?_
    refine Zq [.bool (x8.1 == 1), .bool (x8.1 == 1)] [6, 7, 8, 9, 10, 40, 52] [(6, pV b1), (7, .slice a2 x2.1.length c2), (8, .int .i64 x3.1), (9, .int .i64 x3.2.1), (10, .int .i64 x3.2.2.1), (40, .int .i64 x8.1), (52, .bool (x8.1 == 1))] ?_
    refine Zc (x8.1 == 1) (fun hb4 => ?_) (fun hb4 => ?_)
    ·have hF := (M.ite_some hF).1 hb4
     refine Zs ?_
     refine Run_ops ?_
     refine Zr [.slice a2 x2.1.length c2, .int .i64 x3.1, .int .i64 x3.2.1, pV b1, .int .i64 x3.2.2.1, .int .i64 (w64 (x3.2.2.1 + 1))] 0 ?_
     refine Ze ?_
     refine E_lit (C := cd2) (n := 2) (l := ([(w64 (x3.2.2.1 + 1)), 1000001] : List Int)) (cs := [.int .i64 (w64 (x3.2.2.1 + 1)), .int .i64 1000001]) H27 (fun w => by kernel_rfl) (Enc.consE (cd2_own (w64 (x3.2.2.1 + 1)) _) (Enc.consE (cd2_own 1000001 _) (Enc.nil _ _) rfl) rfl) rfl (by decide) (fun a5 h14 H42 => ?_)
     obtain ⟨x11, hx11, hF⟩ := M.bind_some hF
     have hn3 := (H42.len 0 rfl)
     have H43 : Hold h h14 [own cd2 a5 (([(w64 (x3.2.2.1 + 1)), 1000001] : List Int).length) 2 ([(w64 (x3.2.2.1 + 1)), 1000001] : List Int), box b1 121 [.slice a1 x1.code.length c1, .int .i64 x8.2.at_, .int .i64 x8.2.seed], own cd90 a2 x2.1.length c2 x2.1] := by rw [hn3]; exact H42
     have H44 : Hold h h14 [box b1 121 [.slice a1 x1.code.length c1, .int .i64 x8.2.at_, .int .i64 x8.2.seed], own cd2 a5 (([(w64 (x3.2.2.1 + 1)), 1000001] : List Int).length) 2 ([(w64 (x3.2.2.1 + 1)), 1000001] : List Int), own cd90 a2 x2.1.length c2 x2.1] := H43.pk [1, 0, 2]
     have H45 : Hold h h14 [box b1 121 [.slice a1 x1.code.length c1, .int .i64 x8.2.at_, .int .i64 x8.2.seed], own cd2 a5 (([(w64 (x3.2.2.1 + 1)), 1000001] : List Int).length) 2 ([(w64 (x3.2.2.1 + 1)), 1000001] : List Int), bun [own cd90 a2 x2.1.length c2 x2.1]] := Hold.bundle (S := [box b1 121 [.slice a1 x1.code.length c1, .int .i64 x8.2.at_, .int .i64 x8.2.seed], own cd2 a5 (([(w64 (x3.2.2.1 + 1)), 1000001] : List Int).length) 2 ([(w64 (x3.2.2.1 + 1)), 1000001] : List Int)]) (R := [own cd90 a2 x2.1.length c2 x2.1]) H44
     refine Ze ?_
     refine ZC 47 #[pV b1, .slice a5 2 2] (Fn.arg (w_spec_l01Pick h h14 _ (⟨x1.code, x8.2.at_, x8.2.seed⟩ : TL01source) b1 a1 c1 r1 ([(w64 (x3.2.2.1 + 1)), 1000001] : List Int) a5 2 H45 _ _ hx11) (by simp only [hn3])) (fun v10 h15 hp10 => ?_)
     obtain ⟨rfl, H46⟩ := hp10
     have H47 : Hold h h15 [box b1 121 [.slice a1 x1.code.length c1, .int .i64 x11.2.1.at_, .int .i64 x11.2.1.seed], own cd2 a5 (([(w64 (x3.2.2.1 + 1)), 1000001] : List Int).length) 2 x11.2.2, own cd90 a2 x2.1.length c2 x2.1] := Hold.unbundle (S := [box b1 121 [.slice a1 x1.code.length c1, .int .i64 x11.2.1.at_, .int .i64 x11.2.1.seed], own cd2 a5 (([(w64 (x3.2.2.1 + 1)), 1000001] : List Int).length) 2 x11.2.2]) (R := [own cd90 a2 x2.1.length c2 x2.1]) H46 (Hold.tailBase (S := [box b1 121 [.slice a1 x1.code.length c1, .int .i64 x8.2.at_, .int .i64 x8.2.seed], own cd2 a5 (([(w64 (x3.2.2.1 + 1)), 1000001] : List Int).length) 2 ([(w64 (x3.2.2.1 + 1)), 1000001] : List Int)]) (R := [own cd90 a2 x2.1.length c2 x2.1]) H44)
     refine Zr [.slice a2 x2.1.length c2, .int .i64 x3.1, .int .i64 x3.2.1, .int .i64 x11.1] 8 ?_
     refine Zx ?_
     refine Zk [2, 3, 4, 5] [(2, .slice a2 x2.1.length c2), (3, .int .i64 x3.1), (4, .int .i64 x3.2.1), (5, .int .i64 x11.1)] ?_
     have hF := M.ret_some hF
     subst hF
     have H48 : Hold h h15 [own cd90 a2 x2.1.length c2 x2.1, box b1 121 [.slice a1 x1.code.length c1, .int .i64 x11.2.1.at_, .int .i64 x11.2.1.seed], own cd2 a5 (([(w64 (x3.2.2.1 + 1)), 1000001] : List Int).length) 2 x11.2.2] := H47.pk [2, 0, 1]
     have H49 : Hold h h15 [own cd90 a2 x2.1.length c2 x2.1] := H48.pk [0]
     exact Run_ret4 rfl (Zt (.slice a2 x2.1.length c2)) (Zt (.int .i64 x3.1)) (Zt (.int .i64 x3.2.1)) (Zt (.int .i64 x11.1)) ⟨a2, c2, rfl, H49⟩
    ·have hF := (M.ite_some hF).2 hb4
     refine Zs ?_
     refine Zq [.bool (x8.1 == 2), .bool (x8.1 == 2)] [6, 7, 8, 9, 10, 62] [(6, pV b1), (7, .slice a2 x2.1.length c2), (8, .int .i64 x3.1), (9, .int .i64 x3.2.1), (10, .int .i64 x3.2.2.1), (62, .bool (x8.1 == 2))] ?_
     refine Zc (x8.1 == 2) (fun hb5 => ?_) (fun hb5 => ?_)
     ·have hF := (M.ite_some hF).1 hb5
      refine Zs ?_
      refine Zq [.slice a2 x2.1.length c2, .int .i64 x3.1, .int .i64 (w64 (x3.1 - 1)), .int .i64 (mx 0 (w64 (x3.1 - 1))), .int .i64 x3.2.1, .int .i64 x3.2.2.1, .slice a2 x2.1.length c2, .int .i64 (mx 0 (w64 (x3.1 - 1))), .int .i64 x3.2.1, .int .i64 x3.2.2.1] [2, 3, 4, 5] [(2, .slice a2 x2.1.length c2), (3, .int .i64 (mx 0 (w64 (x3.1 - 1)))), (4, .int .i64 x3.2.1), (5, .int .i64 x3.2.2.1)] ?_
      have hF := M.ret_some hF
      subst hF
      have H50 : Hold h h9 [own cd90 a2 x2.1.length c2 x2.1, box b1 121 [.slice a1 x1.code.length c1, .int .i64 x8.2.at_, .int .i64 x8.2.seed]] := H27.pk [1, 0]
      have H51 : Hold h h9 [own cd90 a2 x2.1.length c2 x2.1] := H50.pk [0]
      exact Run_ret4 rfl (Zt (.slice a2 x2.1.length c2)) (Zt (.int .i64 (mx 0 (w64 (x3.1 - 1))))) (Zt (.int .i64 x3.2.1)) (Zt (.int .i64 x3.2.2.1)) ⟨a2, c2, rfl, H51⟩
     ·have hF := (M.ite_some hF).2 hb5
      refine Run_skip ?_
      refine Run_blk ?_
      refine Zs ?_
      refine Run_ops ?_
      refine Zr [.slice a2 x2.1.length c2, .int .i64 x3.1, pV b1] 0 ?_
      obtain ⟨x12, hx12, hF⟩ := M.bind_some hF
      have H52 : Hold h h9 [box b1 121 [.slice a1 x1.code.length c1, .int .i64 x8.2.at_, .int .i64 x8.2.seed], bun [own cd90 a2 x2.1.length c2 x2.1]] := Hold.bundle (S := [box b1 121 [.slice a1 x1.code.length c1, .int .i64 x8.2.at_, .int .i64 x8.2.seed]]) (R := [own cd90 a2 x2.1.length c2 x2.1]) H27
      refine Ze ?_
      refine ZC 46 #[pV b1, .int .i64 4] (w_spec_l01Next h h9 _ (⟨x1.code, x8.2.at_, x8.2.seed⟩ : TL01source) b1 a1 c1 r1 4 H52 _ _ hx12) (fun v11 h16 hp11 => ?_)
      obtain ⟨rfl, H53⟩ := hp11
      have H54 : Hold h h16 [box b1 121 [.slice a1 x1.code.length c1, .int .i64 x12.2.at_, .int .i64 x12.2.seed], own cd90 a2 x2.1.length c2 x2.1] := Hold.unbundle (S := [box b1 121 [.slice a1 x1.code.length c1, .int .i64 x12.2.at_, .int .i64 x12.2.seed]]) (R := [own cd90 a2 x2.1.length c2 x2.1]) H53 (Hold.tailBase (S := [box b1 121 [.slice a1 x1.code.length c1, .int .i64 x8.2.at_, .int .i64 x8.2.seed]]) (R := [own cd90 a2 x2.1.length c2 x2.1]) H27)
      refine Zr [.int .i64 (w64 (x3.1 + x12.1)), .int .i64 (mn 80 (w64 (x3.1 + x12.1))), .int .i64 x3.2.1, .int .i64 x3.2.2.1, .slice a2 x2.1.length c2, .int .i64 (mn 80 (w64 (x3.1 + x12.1))), .int .i64 x3.2.1, .int .i64 x3.2.2.1] 4 ?_
      refine Zx ?_
      refine Zk [2, 3, 4, 5] [(2, .slice a2 x2.1.length c2), (3, .int .i64 (mn 80 (w64 (x3.1 + x12.1)))), (4, .int .i64 x3.2.1), (5, .int .i64 x3.2.2.1)] ?_
      have hF := M.ret_some hF
      subst hF
      have H55 : Hold h h16 [own cd90 a2 x2.1.length c2 x2.1, box b1 121 [.slice a1 x1.code.length c1, .int .i64 x12.2.at_, .int .i64 x12.2.seed]] := H54.pk [1, 0]
      have H56 : Hold h h16 [own cd90 a2 x2.1.length c2 x2.1] := H55.pk [0]
      exact Run_ret4 rfl (Zt (.slice a2 x2.1.length c2)) (Zt (.int .i64 (mn 80 (w64 (x3.1 + x12.1))))) (Zt (.int .i64 x3.2.1)) (Zt (.int .i64 x3.2.2.1)) ⟨a2, c2, rfl, H56⟩
 ·refine Run_ops ?_
  refine Zr [.int .i64 x3.2.2.2, .bool (x3.2.2.2 != 0)] 0 ?_
  rcases Bool.eq_false_or_eq_true (x3.2.2.2 != 0) with hb1 | hb1
  ·have gs1 := (M.ite_some gs1).1 hb1
   refine Run_q1 7 (L' := [(6, pV b1), (7, .slice a2 x2.1.length c2), (8, .int .i64 x3.1), (9, .int .i64 x3.2.1), (10, .int .i64 x3.2.2.1), (29, .bool true)]) ?_ ?_
   ·refine Zv (x3.2.2.2 != 0) true hb1 ?_
    refine Zn ?_
    refine Zn ?_
    refine Zn ?_
    refine Zv true true rfl ?_
    exact Zd [6, 7, 8, 9, 10, 29]
   refine Zx ?_
   refine Zk [6, 7, 8, 9, 10, 29] [(6, pV b1), (7, .slice a2 x2.1.length c2), (8, .int .i64 x3.1), (9, .int .i64 x3.2.1), (10, .int .i64 x3.2.2.1), (29, .bool true)] ?_
   have H13 : Hold h h3 [box b1 121 [.slice a1 x1.code.length c1, .int .i64 x2.2.at_, .int .i64 x2.2.seed], own cd90 a2 x2.1.length c2 x2.1] := H7.pk [1, 0]
   have gs1 := M.ret_some gs1
   subst gs1
   exact Zf [6, 7, 8, 9, 10, 29] ⟨rfl, H13⟩
  ·have gs1 := (M.ite_some gs1).2 hb1
   refine Run_q1 3 (L' := [(6, pV b1), (7, .slice a2 x2.1.length c2), (8, .int .i64 x3.1), (9, .int .i64 x3.2.1), (10, .int .i64 x3.2.2.1), (11, .int .i64 x3.2.2.2), (23, .int .i64 x3.2.2.2), (24, .bool (x3.2.2.2 != 0)), (25, .bool false)]) ?_ ?_
   ·refine Zv (x3.2.2.2 != 0) false hb1 ?_
    exact Zd [6, 7, 8, 9, 10, 11, 23, 24, 25]
   refine Zr [pV b1] 3 ?_
   obtain ⟨x4, hx4, gs1⟩ := M.bind_some gs1
   have H8 : Hold h h3 [box b1 121 [.slice a1 x1.code.length c1, .int .i64 x2.2.at_, .int .i64 x2.2.seed], own cd90 a2 x2.1.length c2 x2.1] := H7.pk [1, 0]
   have H9 : Hold h h3 [box b1 121 [.slice a1 x1.code.length c1, .int .i64 x2.2.at_, .int .i64 x2.2.seed], bun [own cd90 a2 x2.1.length c2 x2.1]] := Hold.bundle (S := [box b1 121 [.slice a1 x1.code.length c1, .int .i64 x2.2.at_, .int .i64 x2.2.seed]]) (R := [own cd90 a2 x2.1.length c2 x2.1]) H8
   refine Ze ?_
   refine ZC 46 #[pV b1, .int .i64 4] (w_spec_l01Next h h3 _ (⟨x1.code, x2.2.at_, x2.2.seed⟩ : TL01source) b1 a1 c1 r1 4 H9 _ _ hx4) (fun v3 h4 hp3 => ?_)
   obtain ⟨rfl, H10⟩ := hp3
   have H11 : Hold h h4 [box b1 121 [.slice a1 x1.code.length c1, .int .i64 x4.2.at_, .int .i64 x4.2.seed], own cd90 a2 x2.1.length c2 x2.1] := Hold.unbundle (S := [box b1 121 [.slice a1 x1.code.length c1, .int .i64 x4.2.at_, .int .i64 x4.2.seed]]) (R := [own cd90 a2 x2.1.length c2 x2.1]) H10 (Hold.tailBase (S := [box b1 121 [.slice a1 x1.code.length c1, .int .i64 x2.2.at_, .int .i64 x2.2.seed]]) (R := [own cd90 a2 x2.1.length c2 x2.1]) H8)
   refine Zr [.bool (x4.1 == 0)] 5 ?_
   refine Zr [.bool (x4.1 == 0)] 6 ?_
   refine Zx ?_
   refine Zk [6, 7, 8, 9, 10, 29] [(6, pV b1), (7, .slice a2 x2.1.length c2), (8, .int .i64 x3.1), (9, .int .i64 x3.2.1), (10, .int .i64 x3.2.2.1), (29, .bool (x4.1 == 0))] ?_
   have gs1 := M.ret_some gs1
   subst gs1
   exact Zf [6, 7, 8, 9, 10, 29] ⟨rfl, H11⟩

theorem w_impl_sumOf (h : Heap) (list : List Int) {Slist : Bs} (alist : Option Addr) (clist : Nat) (rlist : Rd cd2 h Slist alist clist list) (n : Nat) (r : Int) (hF : impl_sumOf list n = some r) :
  Fn Try.prog 100 #[.slice alist list.length clist] h fun v h' => v = .int .i64 r ∧ h' = h := by
 unfold impl_sumOf at hF
 refine Zo [.slice alist list.length clist] Try.func100 rfl (fun w0 _ => ?_)
 refine Zs ?_
 refine Zq [.int .i64 0] [0] [(0, .slice alist list.length clist)] ?_
 refine Zs ?_
 refine Zq [.int .i64 (-1000000000000000)] [0, 3] [(0, .slice alist list.length clist), (3, .int .i64 (-1000000000000000))] ?_
 refine Zs ?_
 refine Zs ?_
 refine Zq [.slice alist list.length clist, .int .i64 (list.length : Int), .int .i64 0] [3, 6, 7, 8] [(3, .int .i64 (-1000000000000000)), (6, .slice alist list.length clist), (7, .int .i64 (list.length : Int)), (8, .int .i64 0)] ?_
 obtain ⟨x1, gx1, hF⟩ := M.bind_some hF
 obtain ⟨hloy1, hhiy1, gx1⟩ := M.for_start gx1
 refine Run_join (fun L' h' => L' = [(3, .int .i64 x1)] ∧ h = h') ?_ ?_
 ·rintro _ _ ⟨rfl, rfl⟩
  refine Zs ?_
  refine Zq [.int .i64 x1, .int .i64 x1] [2] [(2, .int .i64 x1)] ?_
  have hF := M.ret_some hF
  subst hF
  exact Run_ret1 rfl (Zt (.int .i64 x1)) ⟨rfl, rfl⟩
 ·refine Run_block ?_
  refine Zk [3, 6, 7, 8] [(3, .int .i64 (-1000000000000000)), (6, .slice alist list.length clist), (7, .int .i64 (list.length : Int)), (8, .int .i64 0)] ?_
  refine Run_loop (fun m L' h' => ∃ (i1 : Int) (s1 : Int), 0 ≤ i1 ∧ M.forN (list.length : Int) _ _ n m i1 s1 = some x1 ∧ L' = [(3, .int .i64 s1), (6, .slice alist list.length clist), (7, .int .i64 (list.length : Int)), (8, .int .i64 i1)] ∧ h = h') ((list.length : Int) - 0 : Int).toNat ⟨0, (-1000000000000000), Int.le_refl _, gx1, rfl, rfl⟩ ?_
  rintro my1 _ _ ⟨i1, s1, hloy1', gx1, rfl, rfl⟩
  refine Zs ?_
  refine Zq [.bool (decide (i1 < (list.length : Int)))] [3, 6, 7, 8, 9] [(3, .int .i64 s1), (6, .slice alist list.length clist), (7, .int .i64 (list.length : Int)), (8, .int .i64 i1), (9, .bool (decide (i1 < (list.length : Int))))] ?_
  refine Zs ?_
  refine Zc (decide (i1 < (list.length : Int))) (fun hb1 => ?_) (fun hb1 => ?_)
  ·obtain ⟨my1, y1, rfl, hB1, hgoy1, houty1⟩ := M.for_go gx1 hb1
   have hlty1 := of_decide_eq_true hb1
   refine Run_skip ?_
   refine Zs ?_
   refine Run_block ?_
   refine Zs ?_
   obtain ⟨x2, hx1, hB1⟩ := M.bind_some hB1
   obtain ⟨hx1l, hx1u, hx1⟩ := M.idx_some hx1
   refine Zg 3 [(3, .int .i64 s1), (5, .int .i64 x2), (6, .slice alist list.length clist), (7, .int .i64 (list.length : Int)), (8, .int .i64 i1)] ?_ ?_
   ·refine Zy (.pointer (some (adr alist (i1.toNat * 1)))) (Zi 90 2 1 (alist) (list.length) (clist) .i64 (i1) Try.underlying90 (rlist.cell hx1).1 hx1l hx1u) ?_
    refine Zy (.int .i64 x2) (Zl 2 (adr alist (i1.toNat * 1)) (.int .i64 x2) (cd2_cell rlist hx1)) ?_
    refine Zb [.int .i64 x2] 2 ?_
    exact Zd [3, 5, 6, 7, 8]
   refine Zq [.int .i64 s1, .int .i64 x2, .int .i64 (mx s1 x2), .int .i64 (mx s1 x2)] [3, 6, 7, 8] [(3, .int .i64 (mx s1 x2)), (6, .slice alist list.length clist), (7, .int .i64 (list.length : Int)), (8, .int .i64 i1)] ?_
   refine Run_blk ?_
   refine Zg 2 [(3, .int .i64 (mx s1 x2)), (6, .slice alist list.length clist), (7, .int .i64 (list.length : Int)), (8, .int .i64 (i1 + 1))] ?_ ?_
   ·refine Zy (.int .i64 (i1 + 1)) (Y_eq (v := .int .i64 (w64 (i1 + 1))) (Y_pure (fun w => by kernel_rfl)) (by rw [w64_eq _ (by omega)])) ?_
    refine Zb [.int .i64 (i1 + 1)] 1 ?_
    exact Zd [3, 6, 7, 8]
   have hB1 := M.ret_some hB1
   have gx1 := hgoy1 _ hB1.symm
   exact Za [3, 6, 7, 8] my1 ⟨i1 + 1, (mx s1 x2), by omega, gx1, rfl, rfl⟩
  ·have gx1 := M.for_end gx1 hb1
   subst gx1
   refine Run_exit (k' := _) rfl ?_
   exact Zf [3] ⟨rfl, rfl⟩

theorem w_impl_isAllBottom_1 (h : Heap) (row : List Int) {Srow : Bs} (arow : Option Addr) (crow : Nat) (rrow : Rd cd2 h Srow arow crow row) (n : Nat) (r : Bool) (hF : impl_isAllBottom_1 row n = some r) :
  Fn Try.prog 99 #[.slice arow row.length crow] h fun v h' => v = .bool r ∧ h' = h := by
 unfold impl_isAllBottom_1 at hF
 refine Zo [.slice arow row.length crow] Try.func99 rfl (fun w0 _ => ?_)
 refine Zs ?_
 refine Zq [.bool false] [0] [(0, .slice arow row.length crow)] ?_
 refine Zs ?_
 obtain ⟨x1, hx1, hF⟩ := M.bind_some hF
 refine Zg 4 [(2, .bool (x1 != (-1000000000000000)))] ?_ ?_
 ·refine Zb [.slice arow row.length crow] 0 ?_
  refine Zy (.int .i64 x1) (ZQ 100 #[.slice arow row.length crow] (w_impl_sumOf h row arow crow rrow _ _ hx1)) ?_
  refine Zb [.bool (x1 != (-1000000000000000)), .bool (x1 != (-1000000000000000))] 2 ?_
  exact Zd [2]
 have hF := M.ret_some hF
 subst hF
 exact Run_ret1 rfl (Zt (.bool (x1 != (-1000000000000000)))) ⟨rfl, rfl⟩

theorem w_slices_IndexFunc_row_F_impl_isAllBottom_1 (h : Heap) (s_ : List (List Int)) {Ss_ : Bs} (as_ : Option Addr) (cs_ : Nat) (rs_ : Rd cd90 h Ss_ as_ cs_ s_) (n : Nat) (r : Int) (hF : slices_IndexFunc_row_F_impl_isAllBottom_1 s_ n = some r) :
  Fn Try.prog 133 #[.slice as_ s_.length cs_, .func (.func 99) #[] #[]] h fun v h' => v = .int .i64 r ∧ h' = h := by
 unfold slices_IndexFunc_row_F_impl_isAllBottom_1 at hF
 refine Zo [.slice as_ s_.length cs_, .func (.func 99) #[] #[]] Try.func133 rfl (fun w0 _ => ?_)
 refine Zs ?_
 refine Zq [.int .i64 0] [0, 1] [(0, .slice as_ s_.length cs_), (1, .func (.func 99) #[] #[])] ?_
 refine Zs ?_
 refine Zs ?_
 refine Zq [.slice as_ s_.length cs_, .int .i64 (s_.length : Int), .int .i64 0] [0, 1, 7, 8] [(0, .slice as_ s_.length cs_), (1, .func (.func 99) #[] #[]), (7, .int .i64 (s_.length : Int)), (8, .int .i64 0)] ?_
 obtain ⟨x1, gx1, hF⟩ := M.bind_some hF
 obtain ⟨hloy1, hhiy1, gx1⟩ := M.for_start gx1
 refine Run_join (fun L' h' => ∃ (s2 : Unit), x1 = .inl s2 ∧ L' = [] ∧ h = h') ?_ ?_
 ·rintro _ _ ⟨s2, es2, rfl, rfl⟩
  have hF := M.cont_inl' hF es2
  refine Zs ?_
  refine Zq [.int .i64 (-1)] [4] [(4, .int .i64 (-1))] ?_
  have hF := M.ret_some hF
  subst hF
  exact Run_ret1 rfl (Zt (.int .i64 (-1))) ⟨rfl, rfl⟩
 ·refine Run_block ?_
  refine Zk [0, 1, 7, 8] [(0, .slice as_ s_.length cs_), (1, .func (.func 99) #[] #[]), (7, .int .i64 (s_.length : Int)), (8, .int .i64 0)] ?_
  refine Run_loop (fun m L' h' => ∃ (i1 : Int) (s1 : Unit), 0 ≤ i1 ∧ M.forN (s_.length : Int) _ _ n m i1 s1 = some x1 ∧ L' = [(0, .slice as_ s_.length cs_), (1, .func (.func 99) #[] #[]), (7, .int .i64 (s_.length : Int)), (8, .int .i64 i1)] ∧ h = h') ((s_.length : Int) - 0 : Int).toNat ⟨0, (), Int.le_refl _, gx1, rfl, rfl⟩ ?_
  rintro my1 _ _ ⟨i1, s1, hloy1', gx1, rfl, rfl⟩
  refine Zs ?_
  refine Zq [.bool (decide (i1 < (s_.length : Int)))] [0, 1, 7, 8, 9] [(0, .slice as_ s_.length cs_), (1, .func (.func 99) #[] #[]), (7, .int .i64 (s_.length : Int)), (8, .int .i64 i1), (9, .bool (decide (i1 < (s_.length : Int))))] ?_
  refine Zs ?_
  refine Zc (decide (i1 < (s_.length : Int))) (fun hb1 => ?_) (fun hb1 => ?_)
  ·obtain ⟨my1, y1, rfl, hB1, hgoy1, houty1⟩ := M.for_go gx1 hb1
   have hlty1 := of_decide_eq_true hb1
   refine Run_skip ?_
   refine Zs ?_
   refine Run_block ?_
   refine Zs ?_
   refine Zq [.int .i64 i1, .int .i64 i1] [0, 1, 5, 7, 8] [(0, .slice as_ s_.length cs_), (1, .func (.func 99) #[] #[]), (5, .int .i64 i1), (7, .int .i64 (s_.length : Int)), (8, .int .i64 i1)] ?_
   refine Zs ?_
   obtain ⟨x2, hx1, hB1⟩ := M.bind_some hB1
   obtain ⟨hx1l, hx1u, hx1⟩ := M.idx_some hx1
   obtain ⟨a1, c1, hc1, r1⟩ := rs_.row hx1
   obtain ⟨x3, hx2, hB1⟩ := M.bind_some hB1
   refine Zg 6 [(0, .slice as_ s_.length cs_), (1, .func (.func 99) #[] #[]), (5, .int .i64 i1), (7, .int .i64 (s_.length : Int)), (8, .int .i64 i1), (16, .bool x3)] ?_ ?_
   ·refine Zb [.func (.func 99) #[] #[], .slice as_ s_.length cs_, .int .i64 i1] 0 ?_
    refine Zy (.pointer (some (adr as_ (i1.toNat * 1)))) (Zi 37 90 1 (as_) (s_.length) (cs_) .i64 (i1) Try.underlying37 (rs_.cell hx1).1 hx1l hx1u) ?_
    refine Zy (.slice a1 x2.length c1) (Zl 90 (adr as_ (i1.toNat * 1)) (.slice a1 x2.length c1) hc1) ?_
    refine Zy (.bool x3) (ZQ 99 #[.slice a1 x2.length c1] (w_impl_isAllBottom_1 h x2 a1 c1 r1 _ _ hx2)) ?_
    exact Zd [0, 1, 5, 7, 8, 16]
   refine Zc (x3) (fun hb2 => ?_) (fun hb2 => ?_)
   ·have hB1 := (M.ite_some hB1).1 hb2
    refine Zs ?_
    refine Zq [.int .i64 i1, .int .i64 i1] [4] [(4, .int .i64 i1)] ?_
    have hB1 := M.ret_some hB1
    have gx1 := houty1 _ hB1.symm
    have hF := M.cont_inr' hF gx1
    have hF := M.ret_some hF
    subst hF
    exact Run_ret1 rfl (Zt (.int .i64 i1)) ⟨rfl, rfl⟩
   ·have hB1 := (M.ite_some hB1).2 hb2
    refine Run_skip ?_
    refine Run_blk ?_
    refine Zg 2 [(0, .slice as_ s_.length cs_), (1, .func (.func 99) #[] #[]), (7, .int .i64 (s_.length : Int)), (8, .int .i64 (i1 + 1))] ?_ ?_
    ·refine Zy (.int .i64 (i1 + 1)) (Y_eq (v := .int .i64 (w64 (i1 + 1))) (Y_pure (fun w => by kernel_rfl)) (by rw [w64_eq _ (by omega)])) ?_
     refine Zb [.int .i64 (i1 + 1)] 1 ?_
     exact Zd [0, 1, 7, 8]
    have hB1 := M.ret_some hB1
    have gx1 := hgoy1 _ hB1.symm
    exact Za [0, 1, 7, 8] my1 ⟨i1 + 1, (), by omega, gx1, rfl, rfl⟩
  ·have gx1 := M.for_end gx1 hb1
   subst gx1
   refine Run_exit (k' := _) rfl ?_
   exact Zf [] ⟨(), rfl, rfl, rfl⟩

theorem w_slices_ContainsFunc_row_F_impl_isAllBottom_1 (h : Heap) (s_ : List (List Int)) {Ss_ : Bs} (as_ : Option Addr) (cs_ : Nat) (rs_ : Rd cd90 h Ss_ as_ cs_ s_) (n : Nat) (r : Bool) (hF : slices_ContainsFunc_row_F_impl_isAllBottom_1 s_ n = some r) :
  Fn Try.prog 98 #[.slice as_ s_.length cs_, .func (.func 99) #[] #[]] h fun v h' => v = .bool r ∧ h' = h := by
 unfold slices_ContainsFunc_row_F_impl_isAllBottom_1 at hF
 refine Zo [.slice as_ s_.length cs_, .func (.func 99) #[] #[]] Try.func98 rfl (fun w0 _ => ?_)
 refine Zs ?_
 refine Zq [.bool false] [0, 1] [(0, .slice as_ s_.length cs_), (1, .func (.func 99) #[] #[])] ?_
 refine Zs ?_
 obtain ⟨x1, hx1, hF⟩ := M.bind_some hF
 refine Zg 5 [(4, .bool (decide (0 ≤ x1)))] ?_ ?_
 ·refine Zb [.slice as_ s_.length cs_, .func (.func 99) #[] #[]] 0 ?_
  refine Zy (.int .i64 x1) (ZQ 133 #[.slice as_ s_.length cs_, .func (.func 99) #[] #[]] (w_slices_IndexFunc_row_F_impl_isAllBottom_1 h s_ as_ cs_ rs_ _ _ hx1)) ?_
  refine Zb [.bool (decide (0 ≤ x1)), .bool (decide (0 ≤ x1))] 3 ?_
  exact Zd [4]
 have hF := M.ret_some hF
 subst hF
 exact Run_ret1 rfl (Zt (.bool (decide (0 ≤ x1)))) ⟨rfl, rfl⟩

theorem w_impl_isAllBottom (h : Heap) (a_ : List (List Int)) {Sa_ : Bs} (aa_ : Option Addr) (ca_ : Nat) (ra_ : Rd cd90 h Sa_ aa_ ca_ a_) (n : Nat) (r : Bool) (hF : impl_isAllBottom a_ n = some r) :
  Fn Try.prog 52 #[.slice aa_ a_.length ca_] h fun v h' => v = .bool r ∧ h' = h := by
 unfold impl_isAllBottom at hF
 refine Zo [.slice aa_ a_.length ca_] Try.func52 rfl (fun w0 _ => ?_)
 refine Zs ?_
 refine Zq [.bool false] [0] [(0, .slice aa_ a_.length ca_)] ?_
 refine Zs ?_
 obtain ⟨x1, hx1, hF⟩ := M.bind_some hF
 refine Zg 4 [(2, .bool (!x1))] ?_ ?_
 ·refine Zb [.slice aa_ a_.length ca_] 0 ?_
  refine Zy (.bool x1) (ZQ 98 #[.slice aa_ a_.length ca_, .func (.func 99) #[] #[]] (w_slices_ContainsFunc_row_F_impl_isAllBottom_1 h a_ aa_ ca_ ra_ _ _ hx1)) ?_
  refine Zb [.bool (!x1), .bool (!x1)] 2 ?_
  exact Zd [2]
 have hF := M.ret_some hF
 subst hF
 exact Run_ret1 rfl (Zt (.bool (!x1))) ⟨rfl, rfl⟩

theorem w_impl_IsRepeat (h : Heap) (a_ : List (List Int)) (aa_ : Option Addr) (ca_ : Nat) (ra_ : Rd cd90 h (Lt h) aa_ ca_ a_) (k_ : Int) (c_ : Int) (g : Int) (n : Nat) (r : Bool × Int) (hF : impl_IsRepeat a_ k_ c_ g n = some r) :
  Fn Try.prog 18 #[.slice aa_ a_.length ca_, .int .i64 k_, .int .i64 c_, .int .i64 g] h fun v h' => v = .tuple #[.bool r.1, .int .i64 r.2] ∧ Hold h h' [] := by
 unfold impl_IsRepeat at hF
 refine Zo [.slice aa_ a_.length ca_, .int .i64 k_, .int .i64 c_, .int .i64 g] Try.func18 rfl (fun w0 _ => ?_)
 have H0 := Hold.init h
 refine Zs ?_
 refine Zq [.bool false, .int .i64 0] [0, 1, 2, 3] [(0, .slice aa_ a_.length ca_), (1, .int .i64 k_), (2, .int .i64 c_), (3, .int .i64 g)] ?_
 refine Zs ?_
 refine Zs ?_
 obtain ⟨x1, hx1, hF⟩ := M.bind_some hF
 refine Run_regC (j := 3) (C := fun x => Hold h x []) (by kernel_rfl) H0 (L' := [(0, .slice aa_ a_.length ca_), (1, .int .i64 k_), (2, .int .i64 c_), (3, .int .i64 g), (15, .bool (!x1))]) ?_ (fun h1 H1 => ?_)
 ·refine Zb [.slice aa_ a_.length ca_] 0 ?_
  refine Zy (.bool x1) (Y_call (f := 39) (args := #[.slice aa_ a_.length ca_]) (v := .bool x1) (by kernel_rfl) fun hx Hx => (w_impl_isSquare hx a_ aa_ ca_ (ra_.at Hx.ext) _ _ hx1).mono fun _ _ ⟨e, H'⟩ => ⟨e, Hx.call H' rfl⟩) ?_
  refine Zb [.bool (!x1)] 2 ?_
  exact Zd [0, 1, 2, 3, 15]
 have H2 : Hold h h1 [] := H1
 refine Zc (!x1) (fun hb1 => ?_) (fun hb1 => ?_)
 ·have hF := (M.ite_some hF).1 hb1
  refine Zs ?_
  refine Zq [.bool false, .int .i64 1] [8, 9] [(8, .bool false), (9, .int .i64 1)] ?_
  have hF := M.ret_some hF
  subst hF
  exact Run_ret2 rfl (Zt (.bool false)) (Zt (.int .i64 1)) ⟨rfl, H2⟩
 ·have hF := (M.ite_some hF).2 hb1
  refine Run_skip ?_
  refine Zs ?_
  refine Zs ?_
  obtain ⟨x2, hx2, hF⟩ := M.bind_some hF
  obtain ⟨x3, gx3, hF⟩ := M.bind_some hF
  obtain ⟨x5, gx5, hF⟩ := M.bind_some hF
  refine Zg 15 [(0, .slice aa_ a_.length ca_), (1, .int .i64 k_), (2, .int .i64 c_), (3, .int .i64 g), (30, .bool x5)] ?_ ?_
  ·refine Zb [.int .i64 k_] 0 ?_
   refine Zy (.bool x2) (ZQ 48 #[.int .i64 k_, .int .i64 0, .int .i64 100] (w_impl_within h1 k_ 0 100 _ _ hx2)) ?_
   refine Zb [.bool (!x2)] 2 ?_
   refine QRun_seq 10 [(0, .slice aa_ a_.length ca_), (1, .int .i64 k_), (2, .int .i64 c_), (3, .int .i64 g), (25, .bool x3)] ?_ ?_
   ·rcases Bool.eq_false_or_eq_true (!x2) with hb2 | hb2
    ·refine Zv (!x2) true hb2 ?_
     have gx3 := M.ret_some ((M.ite_some gx3).1 hb2)
     refine Zn ?_
     refine Zn ?_
     refine Zn ?_
     refine Zn ?_
     refine Zn ?_
     refine Zv true x3 gx3 ?_
     exact Zd [0, 1, 2, 3, 25]
    ·refine Zv (!x2) false hb2 ?_
     have gx3 := (M.ite_some gx3).2 hb2
     obtain ⟨x4, hx3, gx3⟩ := M.bind_some gx3
     have gx3 := M.ret_some gx3
     refine Zb [.int .i64 c_, .int .i64 k_, .int .i64 (w64 (100 - k_))] 4 ?_
     refine Zy (.bool x4) (ZQ 48 #[.int .i64 c_, .int .i64 1, .int .i64 (w64 (100 - k_))] (w_impl_within h1 c_ 1 (w64 (100 - k_)) _ _ hx3)) ?_
     refine Zb [.bool (!x4)] 8 ?_
     refine Zv (!x4) x3 gx3 ?_
     exact Zd [0, 1, 2, 3, 25]
   refine QRun_seq 15 [(0, .slice aa_ a_.length ca_), (1, .int .i64 k_), (2, .int .i64 c_), (3, .int .i64 g), (30, .bool x5)] ?_ ?_
   ·rcases Bool.eq_false_or_eq_true x3 with hb3 | hb3
    ·refine Zv x3 true hb3 ?_
     have gx5 := M.ret_some ((M.ite_some gx5).1 hb3)
     refine Zn ?_
     refine Zn ?_
     refine Zn ?_
     refine Zv true x5 gx5 ?_
     exact Zd [0, 1, 2, 3, 30]
    ·refine Zv x3 false hb3 ?_
     have gx5 := (M.ite_some gx5).2 hb3
     obtain ⟨x6, hx4, gx5⟩ := M.bind_some gx5
     have gx5 := M.ret_some gx5
     refine Zb [.int .i64 g] 11 ?_
     refine Zy (.bool x6) (ZQ 49 #[.int .i64 g] (w_impl_isFinite h1 g _ _ hx4)) ?_
     refine Zb [.bool (!x6)] 13 ?_
     refine Zv (!x6) x5 gx5 ?_
     exact Zd [0, 1, 2, 3, 30]
   exact Zd [0, 1, 2, 3, 30]
  refine Zc (x5) (fun hb4 => ?_) (fun hb4 => ?_)
  ·have hF := (M.ite_some hF).1 hb4
   refine Zs ?_
   refine Zq [.bool false, .int .i64 2] [8, 9] [(8, .bool false), (9, .int .i64 2)] ?_
   have hF := M.ret_some hF
   subst hF
   exact Run_ret2 rfl (Zt (.bool false)) (Zt (.int .i64 2)) ⟨rfl, H2⟩
  ·have hF := (M.ite_some hF).2 hb4
   refine Run_skip ?_
   refine Zs ?_
   refine Run_ops ?_
   refine Zr [.slice aa_ a_.length ca_] 0 ?_
   obtain ⟨x7, hx5, hF⟩ := M.bind_some hF
   refine Ze ?_
   refine ZC 40 #[.slice aa_ a_.length ca_] (w_impl_powerOrbit h1 a_ aa_ ca_ (ra_.at H2.ext) _ _ hx5) (fun v1 h2 hp1 => ?_)
   obtain ⟨b1, a1, c1, a2, c2, rfl, hd1, H3⟩ := hp1
   have H4 : Hold h h2 [box b1 89 [.slice a1 x7.matrix.length c1, .slice a2 x7.list.length c2], own cd37 a2 x7.list.length c2 x7.list] := H2.call H3 rfl
   have r1 := ra_.alias hd1
   refine Zr [pV b1] 2 ?_
   refine Zx ?_
   refine Zk [1, 2, 3, 10] [(1, .int .i64 k_), (2, .int .i64 c_), (3, .int .i64 g), (10, pV b1)] ?_
   refine Zs ?_
   refine Zs ?_
   refine Run_ops ?_
   refine Zr [pV b1, .int .i64 k_, .int .i64 c_, .int .i64 (w64 (k_ + c_))] 0 ?_
   obtain ⟨x8, hx6, hF⟩ := M.bind_some hF
   have H5 : Hold h h2 [own cd37 a2 x7.list.length c2 x7.list, box b1 89 [.slice a1 x7.matrix.length c1, .slice a2 x7.list.length c2]] := H4.pk [1, 0]
   have H6 : Hold h h2 [box b1 89 [.slice a1 x7.matrix.length c1, .slice a2 x7.list.length c2], own cd37 a2 x7.list.length c2 x7.list] := H5.pk [1, 0]
   have H7 : Hold h h2 [box b1 89 [.slice a1 x7.matrix.length c1, .slice a2 x7.list.length c2], own cd37 a2 x7.list.length c2 x7.list, bun []] := Hold.bundle (S := [box b1 89 [.slice a1 x7.matrix.length c1, .slice a2 x7.list.length c2], own cd37 a2 x7.list.length c2 x7.list]) (R := []) H6
   refine Ze ?_
   refine ZC 50 #[pV b1, .int .i64 (w64 (k_ + c_))] (w_impl_orbit_grow_B h h2 _ x7 b1 a1 c1 r1 a2 c2 (w64 (k_ + c_)) H7 _ _ hx6) (fun v2 h3 hp2 => ?_)
   obtain ⟨a3, c3, rfl, H8⟩ := hp2
   have H9 : Hold h h3 [box b1 89 [.slice a1 x7.matrix.length c1, .slice a3 x8.2.list.length c3], own cd37 a3 x8.2.list.length c3 x8.2.list] := Hold.unbundle (S := [box b1 89 [.slice a1 x7.matrix.length c1, .slice a3 x8.2.list.length c3], own cd37 a3 x8.2.list.length c3 x8.2.list]) (R := []) H8 (Hold.tailBase (S := [box b1 89 [.slice a1 x7.matrix.length c1, .slice a2 x7.list.length c2], own cd37 a2 x7.list.length c2 x7.list]) (R := []) H6)
   refine Zr [.bool (!x8.1)] 5 ?_
   refine Zx ?_
   refine Zk [1, 2, 3, 10, 38] [(1, .int .i64 k_), (2, .int .i64 c_), (3, .int .i64 g), (10, pV b1), (38, .bool (!x8.1))] ?_
   refine Zc (!x8.1) (fun hb5 => ?_) (fun hb5 => ?_)
   ·have hF := (M.ite_some hF).1 hb5
    refine Zs ?_
    refine Zq [.bool false, .int .i64 3] [8, 9] [(8, .bool false), (9, .int .i64 3)] ?_
    have hF := M.ret_some hF
    subst hF
    have H10 : Hold h h3 [] := H9.pk []
    exact Run_ret2 rfl (Zt (.bool false)) (Zt (.int .i64 3)) ⟨rfl, H10⟩
   ·have hF := (M.ite_some hF).2 hb5
    refine Run_skip ?_
    refine Zs ?_
    obtain ⟨x9, hx7, hF⟩ := M.bind_some hF
    obtain ⟨hx7l, hx7u, hx7⟩ := M.idx_some hx7
    have H11 : Hold h h3 [own cd37 a3 x8.2.list.length c3 x8.2.list, box b1 89 [.slice a1 x7.matrix.length c1, .slice a3 x8.2.list.length c3]] := H9.pk [1, 0]
    have H12 := H11.toRows
    obtain ⟨a4, c4, H13⟩ := H12.pinRow hx7
    have H14 : Hold h h3 [box b1 89 [.slice a1 x7.matrix.length c1, .slice a3 x8.2.list.length c3], rowsP cd90 37 a3 x8.2.list.length c3 x8.2.list [(k_.toNat, a4, x9.length, c4, x9)]] := H13.pk [1, 0]
    obtain ⟨x10, hx8, hF⟩ := M.bind_some hF
    obtain ⟨hx8l, hx8u, hx8⟩ := M.idx_some hx8
    have H15 : Hold h h3 [rowsP cd90 37 a3 x8.2.list.length c3 x8.2.list [(k_.toNat, a4, x9.length, c4, x9)], box b1 89 [.slice a1 x7.matrix.length c1, .slice a3 x8.2.list.length c3]] := H14.pk [1, 0]
    obtain ⟨a5, c5, H16⟩ := H15.pinRow hx8
    have H17 : Hold h h3 [box b1 89 [.slice a1 x7.matrix.length c1, .slice a3 x8.2.list.length c3], rowsP cd90 37 a3 x8.2.list.length c3 x8.2.list [((w64 (k_ + c_)).toNat, a5, x10.length, c5, x10), (k_.toNat, a4, x9.length, c4, x9)]] := H16.pk [1, 0]
    obtain ⟨x11, hx9, hF⟩ := M.bind_some hF
    refine Run_draw 22 mixed (by kernel_rfl) (by kernel_rfl) (L' := [(1, .int .i64 k_), (3, .int .i64 g), (10, pV b1), (11, .int .i64 x11.1), (12, .bool x11.2)]) ?_ ?_
    ·refine Zb [pV b1, pV b1, .pointer (some ⟨b1, 1, none⟩)] 0 ?_
     refine Zy (.slice a3 x8.2.list.length c3) (Zl 87 (⟨b1, 1, none⟩) (.slice a3 x8.2.list.length c3) (H9.cell 0 rfl rfl)) ?_
     refine Zb [.int .i64 k_] 4 ?_
     refine Zy (.pointer (some (adr a3 (k_.toNat * 1)))) (Zi 87 37 1 (a3) (x8.2.list.length) (c3) .i64 (k_) Try.underlying87 ((H9.rd 1 rfl).cell hx7).1 hx7l hx7u) ?_
     refine Zy (.slice a4 x9.length c4) (Zl 37 (adr a3 (k_.toNat * 1)) (.slice a4 x9.length c4) (H14.cellPin 1 rfl 0 rfl)) ?_
     refine Zb [pV b1, pV b1, .pointer (some ⟨b1, 1, none⟩)] 7 ?_
     refine Zy (.slice a3 x8.2.list.length c3) (Zl 87 (⟨b1, 1, none⟩) (.slice a3 x8.2.list.length c3) (H14.cell 0 rfl rfl)) ?_
     refine Zb [.int .i64 k_, .int .i64 c_, .int .i64 (w64 (k_ + c_))] 11 ?_
     refine Zy (.pointer (some (adr a3 ((w64 (k_ + c_)).toNat * 1)))) (Zi 87 37 1 (a3) (x8.2.list.length) (c3) .i64 (w64 (k_ + c_)) Try.underlying87 ((H14.rdRows 1 rfl).cell hx8).1 hx8l hx8u) ?_
     refine Zy (.slice a5 x10.length c5) (Zl 37 (adr a3 ((w64 (k_ + c_)).toNat * 1)) (.slice a5 x10.length c5) (H17.cellPin 1 rfl 0 rfl)) ?_
     refine Zy (.tuple #[.int .i64 x11.1, .bool x11.2]) (ZQ 51 #[.slice a4 x9.length c4, .slice a5 x10.length c5] (w_impl_growthBetween h3 x9 a4 c4 (H17.rdPin 1 rfl 1 rfl) x10 a5 c5 (H17.rdPin 1 rfl 0 rfl) _ _ hx9)) ?_
     refine Zb [.tuple #[.int .i64 x11.1, .bool x11.2], .int .i64 x11.1, .bool x11.2, .int .i64 x11.1, .bool x11.2] 17 ?_
     exact Zd [1, 3, 10, 11, 12]
    refine Zs ?_
    obtain ⟨x12, gx12, hF⟩ := M.bind_some hF
    refine Zg 18 [(8, .bool x12), (9, .int .i64 0)] ?_ ?_
    ·refine Zb [.bool x11.2] 0 ?_
     refine QRun_seq 16 [(74, .bool x12)] ?_ ?_
     ·rcases Bool.eq_false_or_eq_true x11.2 with hb6 | hb6
      ·refine Zv x11.2 true hb6 ?_
       have gx12 := (M.ite_some gx12).1 hb6
       obtain ⟨x13, gx13, gx12⟩ := M.bind_some gx12
       have gx12 := M.ret_some gx12
       refine Zb [.int .i64 x11.1, .int .i64 g, .bool (x11.1 == g)] 2 ?_
       refine QRun_seq 15 [(60, .bool true), (73, .bool x13)] ?_ ?_
       ·rcases Bool.eq_false_or_eq_true (x11.1 == g) with hb7 | hb7
        ·refine Zv (x11.1 == g) true hb7 ?_
         have gx13 := M.ret_some ((M.ite_some gx13).1 hb7)
         refine Zn ?_
         refine Zn ?_
         refine Zn ?_
         refine Zn ?_
         refine Zn ?_
         refine Zn ?_
         refine Zn ?_
         refine Zn ?_
         refine Zv true x13 gx13 ?_
         exact Zd [60, 73]
        ·refine Zv (x11.1 == g) false hb7 ?_
         have gx13 := (M.ite_some gx13).2 hb7
         obtain ⟨x14, hx10, gx13⟩ := M.bind_some gx13
         obtain ⟨hx10l, hx10u, hx10⟩ := M.idx_some hx10
         have H18 : Hold h h3 [rowsP cd90 37 a3 x8.2.list.length c3 x8.2.list [((w64 (k_ + c_)).toNat, a5, x10.length, c5, x10), (k_.toNat, a4, x9.length, c4, x9)], box b1 89 [.slice a1 x7.matrix.length c1, .slice a3 x8.2.list.length c3]] := H17.pk [1, 0]
         obtain ⟨a6, c6, H19⟩ := H18.pinRow hx10
         have H20 : Hold h h3 [box b1 89 [.slice a1 x7.matrix.length c1, .slice a3 x8.2.list.length c3], rowsP cd90 37 a3 x8.2.list.length c3 x8.2.list [(k_.toNat, a6, x14.length, c6, x14), ((w64 (k_ + c_)).toNat, a5, x10.length, c5, x10), (k_.toNat, a4, x9.length, c4, x9)]] := H19.pk [1, 0]
         obtain ⟨x15, hx11, gx13⟩ := M.bind_some gx13
         have gx13 := M.ret_some gx13
         refine Zb [pV b1, pV b1, .pointer (some ⟨b1, 1, none⟩)] 6 ?_
         refine Zy (.slice a3 x8.2.list.length c3) (Zl 87 (⟨b1, 1, none⟩) (.slice a3 x8.2.list.length c3) (H17.cell 0 rfl rfl)) ?_
         refine Zb [.int .i64 k_] 10 ?_
         refine Zy (.pointer (some (adr a3 (k_.toNat * 1)))) (Zi 87 37 1 (a3) (x8.2.list.length) (c3) .i64 (k_) Try.underlying87 ((H17.rdRows 1 rfl).cell hx10).1 hx10l hx10u) ?_
         refine Zy (.slice a6 x14.length c6) (Zl 37 (adr a3 (k_.toNat * 1)) (.slice a6 x14.length c6) (H20.cellPin 1 rfl 0 rfl)) ?_
         refine Zy (.bool x15) (ZQ 52 #[.slice a6 x14.length c6] (w_impl_isAllBottom h3 x14 a6 c6 (H20.rdPin 1 rfl 0 rfl) _ _ hx11)) ?_
         refine Zv x15 x13 gx13 ?_
         exact Zd [60, 73]
       refine Zv x13 x12 gx12 ?_
       exact Zd [74]
      ·refine Zv x11.2 false hb6 ?_
       have gx12 := M.ret_some ((M.ite_some gx12).2 hb6)
       refine Zn ?_
       refine Zn ?_
       refine Zn ?_
       refine Zn ?_
       refine Zn ?_
       refine Zn ?_
       refine Zn ?_
       refine Zn ?_
       refine Zn ?_
       refine Zn ?_
       refine Zn ?_
       refine Zn ?_
       refine Zn ?_
       refine Zv false x12 gx12 ?_
       exact Zd [74]
     refine Zb [.bool x12, .int .i64 0] 16 ?_
     exact Zd [8, 9]
    have hF := M.ret_some hF
    subst hF
    have H21 : Hold h h3 [] := H17.pk []
    exact Run_ret2 rfl (Zt (.bool x12)) (Zt (.int .i64 0)) ⟨rfl, H21⟩

theorem w_spec_IsRepeat (h : Heap) (a_ : List (List Int)) (aa_ : Option Addr) (ca_ : Nat) (ra_ : Rd cd90 h (Lt h) aa_ ca_ a_) (k_ : Int) (c_ : Int) (g : Int) (n : Nat) (r : Bool × Int) (hF : spec_IsRepeat a_ k_ c_ g n = some r) :
  Fn Try.prog 19 #[.slice aa_ a_.length ca_, .int .i64 k_, .int .i64 c_, .int .i64 g] h fun v h' => v = .tuple #[.bool r.1, .int .i64 r.2] ∧ Hold h h' [] := by
 unfold spec_IsRepeat at hF
 refine Zo [.slice aa_ a_.length ca_, .int .i64 k_, .int .i64 c_, .int .i64 g] Try.func19 rfl (fun w0 _ => ?_)
 have H0 := Hold.init h
 refine Zs ?_
 refine Zq [.bool false, .int .i64 0] [0, 1, 2, 3] [(0, .slice aa_ a_.length ca_), (1, .int .i64 k_), (2, .int .i64 c_), (3, .int .i64 g)] ?_
 refine Zs ?_
 refine Run_block ?_
 refine Zs ?_
 obtain ⟨x1, hx1, hF⟩ := M.bind_some hF
 refine Zg 4 [(0, .slice aa_ a_.length ca_), (1, .int .i64 k_), (2, .int .i64 c_), (3, .int .i64 g), (13, .bool (!x1))] ?_ ?_
 ·refine Zb [.slice aa_ a_.length ca_] 0 ?_
  refine Zy (.bool x1) (ZQ 42 #[.slice aa_ a_.length ca_] (w_spec_l02Square h a_ aa_ ca_ ra_ _ _ hx1)) ?_
  refine Zb [.bool (!x1), .bool (!x1)] 2 ?_
  exact Zd [0, 1, 2, 3, 13]
 refine Zc (!x1) (fun hb1 => ?_) (fun hb1 => ?_)
 ·have hF := (M.ite_some hF).1 hb1
  refine Zs ?_
  refine Zq [.bool false, .int .i64 1] [8, 9] [(8, .bool false), (9, .int .i64 1)] ?_
  have hF := M.ret_some hF
  subst hF
  exact Run_ret2 rfl (Zt (.bool false)) (Zt (.int .i64 1)) ⟨rfl, H0⟩
 ·have hF := (M.ite_some hF).2 hb1
  refine Zs ?_
  obtain ⟨x2, hx2, hF⟩ := M.bind_some hF
  obtain ⟨x3, gx3, hF⟩ := M.bind_some hF
  obtain ⟨x5, gx5, hF⟩ := M.bind_some hF
  refine Zg 16 [(0, .slice aa_ a_.length ca_), (1, .int .i64 k_), (2, .int .i64 c_), (3, .int .i64 g), (17, .bool x5)] ?_ ?_
  ·refine Zb [.int .i64 k_] 0 ?_
   refine Zy (.bool x2) (ZQ 53 #[.int .i64 k_, .int .i64 0, .int .i64 100] (w_spec_l01In h k_ 0 100 _ _ hx2)) ?_
   refine Zb [.bool (!x2)] 2 ?_
   refine QRun_seq 10 [(0, .slice aa_ a_.length ca_), (1, .int .i64 k_), (2, .int .i64 c_), (3, .int .i64 g), (27, .bool x3)] ?_ ?_
   ·rcases Bool.eq_false_or_eq_true (!x2) with hb2 | hb2
    ·refine Zv (!x2) true hb2 ?_
     have gx3 := M.ret_some ((M.ite_some gx3).1 hb2)
     refine Zn ?_
     refine Zn ?_
     refine Zn ?_
     refine Zn ?_
     refine Zn ?_
     refine Zv true x3 gx3 ?_
     exact Zd [0, 1, 2, 3, 27]
    ·refine Zv (!x2) false hb2 ?_
     have gx3 := (M.ite_some gx3).2 hb2
     obtain ⟨x4, hx3, gx3⟩ := M.bind_some gx3
     have gx3 := M.ret_some gx3
     refine Zb [.int .i64 c_, .int .i64 k_, .int .i64 (w64 (100 - k_))] 4 ?_
     refine Zy (.bool x4) (ZQ 53 #[.int .i64 c_, .int .i64 1, .int .i64 (w64 (100 - k_))] (w_spec_l01In h c_ 1 (w64 (100 - k_)) _ _ hx3)) ?_
     refine Zb [.bool (!x4)] 8 ?_
     refine Zv (!x4) x3 gx3 ?_
     exact Zd [0, 1, 2, 3, 27]
   refine QRun_seq 15 [(0, .slice aa_ a_.length ca_), (1, .int .i64 k_), (2, .int .i64 c_), (3, .int .i64 g), (32, .bool x5)] ?_ ?_
   ·rcases Bool.eq_false_or_eq_true x3 with hb3 | hb3
    ·refine Zv x3 true hb3 ?_
     have gx5 := M.ret_some ((M.ite_some gx5).1 hb3)
     refine Zn ?_
     refine Zn ?_
     refine Zn ?_
     refine Zv true x5 gx5 ?_
     exact Zd [0, 1, 2, 3, 32]
    ·refine Zv x3 false hb3 ?_
     have gx5 := (M.ite_some gx5).2 hb3
     obtain ⟨x6, hx4, gx5⟩ := M.bind_some gx5
     have gx5 := M.ret_some gx5
     refine Zb [.int .i64 g] 11 ?_
     refine Zy (.bool x6) (ZQ 54 #[.int .i64 g] (w_spec_l01Finite h g _ _ hx4)) ?_
     refine Zb [.bool (!x6)] 13 ?_
     refine Zv (!x6) x5 gx5 ?_
     exact Zd [0, 1, 2, 3, 32]
   refine Zb [.bool x5] 15 ?_
   exact Zd [0, 1, 2, 3, 17]
  refine Zc (x5) (fun hb4 => ?_) (fun hb4 => ?_)
  ·have hF := (M.ite_some hF).1 hb4
   refine Zs ?_
   refine Zq [.bool false, .int .i64 2] [8, 9] [(8, .bool false), (9, .int .i64 2)] ?_
   have hF := M.ret_some hF
   subst hF
   exact Run_ret2 rfl (Zt (.bool false)) (Zt (.int .i64 2)) ⟨rfl, H0⟩
  ·have hF := (M.ite_some hF).2 hb4
   refine Run_skip ?_
   refine Run_blk ?_
   refine Zs ?_
   refine Run_ops ?_
   refine Zr [.slice aa_ a_.length ca_, .slice aa_ a_.length ca_, .int .i64 (a_.length : Int)] 0 ?_
   obtain ⟨x7, hx5, hF⟩ := M.bind_some hF
   refine Ze ?_
   refine ZC 45 #[.int .i64 (a_.length : Int)] (w_spec_l02Unit h (a_.length : Int) _ _ hx5) (fun v1 h1 hp1 => ?_)
   obtain ⟨a1, c1, rfl, H1⟩ := hp1
   have H2 : Hold h h1 [own cd90 a1 x7.length c1 x7] := H0.call H1 rfl
   obtain ⟨x8, hx6, hF⟩ := M.bind_some hF
   refine Ze ?_
   refine ZC 44 #[.slice aa_ a_.length ca_, .slice a1 x7.length c1] (w_spec_l07Start h1 a_ aa_ ca_ (ra_.at H2.ext) x7 a1 c1 (H2.rd 0 rfl) _ _ hx6) (fun v2 h2 hp2 => ?_)
   obtain ⟨b1, a2, c2, a3, c3, a4, c4, rfl, hd1, hd2, H3⟩ := hp2
   have H4 : Hold h h2 [box b1 96 [.slice a2 x8.a.length c2, .slice a3 x8.last.length c3, .slice a4 x8.lists.length c4], own cd90 a4 x8.lists.length c4 x8.lists, own cd90 a1 x7.length c1 x7] := H2.call H3 rfl
   have r1 := ra_.alias hd1
   have H5 : Hold h h2 [own cd90 a1 x7.length c1 x7, box b1 96 [.slice a2 x8.a.length c2, .slice a3 x8.last.length c3, .slice a4 x8.lists.length c4], own cd90 a4 x8.lists.length c4 x8.lists] := H4.pk [2, 0, 1]
   have H6 := H5.alias hd2
   refine Zr [pV b1] 5 ?_
   refine Zx ?_
   refine Zk [1, 2, 3, 10] [(1, .int .i64 k_), (2, .int .i64 c_), (3, .int .i64 g), (10, pV b1)] ?_
   refine Zs ?_
   refine Run_ops ?_
   refine Zr [pV b1, .int .i64 k_, .int .i64 c_, .int .i64 (w64 (k_ + c_))] 0 ?_
   obtain ⟨x9, hx7, hF⟩ := M.bind_some hF
   have H7 : Hold h h2 [own cd90 a4 x8.lists.length c4 x8.lists, own cd90 a3 x8.last.length c3 x8.last, box b1 96 [.slice a2 x8.a.length c2, .slice a3 x8.last.length c3, .slice a4 x8.lists.length c4]] := H6.pk [2, 0, 1]
   have H8 := H7.toQ
   have H9 : Hold h h2 [box b1 96 [.slice a2 x8.a.length c2, .slice a3 x8.last.length c3, .slice a4 x8.lists.length c4], own cd90 a3 x8.last.length c3 x8.last, rowsQ cd2 90 a4 x8.lists.length c4 x8.lists []] := H8.pk [2, 1, 0]
   have H10 : Hold h h2 [box b1 96 [.slice a2 x8.a.length c2, .slice a3 x8.last.length c3, .slice a4 x8.lists.length c4], own cd90 a3 x8.last.length c3 x8.last, rowsQ cd2 90 a4 x8.lists.length c4 x8.lists [], bun []] := Hold.bundle (S := [box b1 96 [.slice a2 x8.a.length c2, .slice a3 x8.last.length c3, .slice a4 x8.lists.length c4], own cd90 a3 x8.last.length c3 x8.last, rowsQ cd2 90 a4 x8.lists.length c4 x8.lists []]) (R := []) H9
   refine Ze ?_
   refine ZC 55 #[pV b1, .int .i64 (w64 (k_ + c_))] (w_spec_l07At_BQ0 h h2 _ x8 b1 a2 c2 r1 a3 c3 a4 c4 (w64 (k_ + c_)) H10 _ _ hx7) (fun v3 h3 hp3 => ?_)
   obtain ⟨a5, c5, a6, c6, a7, c7, rfl, H11⟩ := hp3
   have H12 : Hold h h3 [box b1 96 [.slice a2 x8.a.length c2, .slice a6 x9.2.2.last.length c6, .slice a7 x9.2.2.lists.length c7], own cd90 a6 x9.2.2.last.length c6 x9.2.2.last, rowsQ cd2 90 a7 x9.2.2.lists.length c7 x9.2.2.lists [(a5, c5, x9.1)]] := Hold.unbundle (S := [box b1 96 [.slice a2 x8.a.length c2, .slice a6 x9.2.2.last.length c6, .slice a7 x9.2.2.lists.length c7], own cd90 a6 x9.2.2.last.length c6 x9.2.2.last, rowsQ cd2 90 a7 x9.2.2.lists.length c7 x9.2.2.lists [(a5, c5, x9.1)]]) (R := []) H11 (Hold.tailBase (S := [box b1 96 [.slice a2 x8.a.length c2, .slice a3 x8.last.length c3, .slice a4 x8.lists.length c4], own cd90 a3 x8.last.length c3 x8.last, rowsQ cd2 90 a4 x8.lists.length c4 x8.lists []]) (R := []) H9)
   refine Zr [.tuple #[.slice a5 x9.1.length c5, .bool x9.2.1], .slice a5 x9.1.length c5, .bool x9.2.1, .slice a5 x9.1.length c5, .bool x9.2.1] 5 ?_
   refine Zx ?_
   refine Zk [1, 3, 10, 11, 12] [(1, .int .i64 k_), (3, .int .i64 g), (10, pV b1), (11, .slice a5 x9.1.length c5), (12, .bool x9.2.1)] ?_
   refine Zs ?_
   refine Zs ?_
   refine Zq [.bool x9.2.1, .bool (!x9.2.1)] [1, 3, 10, 11, 47] [(1, .int .i64 k_), (3, .int .i64 g), (10, pV b1), (11, .slice a5 x9.1.length c5), (47, .bool (!x9.2.1))] ?_
   refine Zc (!x9.2.1) (fun hb5 => ?_) (fun hb5 => ?_)
   ·have hF := (M.ite_some hF).1 hb5
    refine Zs ?_
    refine Zq [.bool false, .int .i64 3] [8, 9] [(8, .bool false), (9, .int .i64 3)] ?_
    have hF := M.ret_some hF
    subst hF
    have H13 : Hold h h3 [] := H12.pk []
    exact Run_ret2 rfl (Zt (.bool false)) (Zt (.int .i64 3)) ⟨rfl, H13⟩
   ·have hF := (M.ite_some hF).2 hb5
    refine Run_skip ?_
    refine Zs ?_
    refine Run_ops ?_
    obtain ⟨x10, hx8, hF⟩ := M.bind_some hF
    obtain ⟨hx8l, hx8u, hx8⟩ := M.idx_some hx8
    have H14 : Hold h h3 [rowsQ cd2 90 a7 x9.2.2.lists.length c7 x9.2.2.lists [(a5, c5, x9.1)], box b1 96 [.slice a2 x8.a.length c2, .slice a6 x9.2.2.last.length c6, .slice a7 x9.2.2.lists.length c7], own cd90 a6 x9.2.2.last.length c6 x9.2.2.last] := H12.pk [2, 0, 1]
    obtain ⟨a8, c8, hc1, H15⟩ := H14.peekRow hx8
    have H16 : Hold h h3 [box b1 96 [.slice a2 x8.a.length c2, .slice a6 x9.2.2.last.length c6, .slice a7 x9.2.2.lists.length c7], own cd90 a6 x9.2.2.last.length c6 x9.2.2.last, rowsQ cd2 90 a7 x9.2.2.lists.length c7 x9.2.2.lists [(a8, c8, x10), (a5, c5, x9.1)]] := H15.pk [1, 2, 0]
    refine Zr [pV b1, pV b1, .pointer (some ⟨b1, 2, none⟩)] 0 ?_
    refine Zz (.slice a7 x9.2.2.lists.length c7) (Zl 37 (⟨b1, 2, none⟩) (.slice a7 x9.2.2.lists.length c7) (H12.cell 0 rfl rfl)) ?_
    refine Zr [.int .i64 k_] 4 ?_
    refine Zz (.pointer (some (adr a7 (k_.toNat * 1)))) (Zi 37 90 1 (a7) (x9.2.2.lists.length) (c7) .i64 (k_) Try.underlying37 ((H12.rdQ 2 rfl).cell hx8).1 hx8l hx8u) ?_
    refine Zz (.slice a8 x10.length c8) (Zl 90 (adr a7 (k_.toNat * 1)) (.slice a8 x10.length c8) hc1) ?_
    refine Zr [.int .i64 g] 7 ?_
    obtain ⟨x11, hx9, hF⟩ := M.bind_some hF
    refine Ze ?_
    refine ZC 57 #[.slice a8 x10.length c8, .int .i64 g] (w_spec_l07Shift h3 x10 a8 c8 (H16.rdPeek 2 rfl 0 rfl) g _ _ hx9) (fun v4 h4 hp4 => ?_)
    obtain ⟨a9, c9, rfl, H17⟩ := hp4
    have H18 : Hold h h4 [own cd2 a9 x11.length c9 x11, box b1 96 [.slice a2 x8.a.length c2, .slice a6 x9.2.2.last.length c6, .slice a7 x9.2.2.lists.length c7], own cd90 a6 x9.2.2.last.length c6 x9.2.2.last, rowsQ cd2 90 a7 x9.2.2.lists.length c7 x9.2.2.lists [(a8, c8, x10), (a5, c5, x9.1)]] := H16.call H17 rfl
    obtain ⟨x12, hx10, hF⟩ := M.bind_some hF
    refine Zr [.slice a5 x9.1.length c5] 9 ?_
    refine Zz (.bool x12) (ZQ 56 #[.slice a9 x11.length c9, .slice a5 x9.1.length c5] (w_spec_l01Same h4 x11 a9 c9 (H18.rd 0 rfl) x9.1 a5 c5 (H18.rdPeek 3 rfl 1 rfl) _ _ hx10)) ?_
    refine Zr [.bool x12, .int .i64 0] 11 ?_
    refine Zx ?_
    refine Zk [8, 9] [(8, .bool x12), (9, .int .i64 0)] ?_
    have hF := M.ret_some hF
    subst hF
    have H19 : Hold h h4 [] := H18.pk []
    exact Run_ret2 rfl (Zt (.bool x12)) (Zt (.int .i64 0)) ⟨rfl, H19⟩

theorem w_impl_reaching (h : Heap) (a_ : List (List Int)) (aa_ : Option Addr) (ca_ : Nat) (ra_ : Rd cd90 h (Lt h) aa_ ca_ a_) (n : Nat) (r : (List (List Bool))) (hF : impl_reaching a_ n = some r) :
  Fn Try.prog 103 #[.slice aa_ a_.length ca_] h fun v h' => ∃ (a0 : Option Addr) (c0 : Nat), v = .slice a0 r.length c0 ∧ Hold h h' [own cd132 a0 r.length c0 r] := by
 unfold impl_reaching at hF
 refine Zo [.slice aa_ a_.length ca_] Try.func103 rfl (fun w0 _ => ?_)
 have H0 := Hold.init h
 refine Zs ?_
 refine Zq [.slice none 0 0] [0] [(0, .slice aa_ a_.length ca_)] ?_
 refine Zs ?_
 refine Zq [.slice aa_ a_.length ca_, .int .i64 (a_.length : Int), .int .i64 (a_.length : Int)] [0, 3] [(0, .slice aa_ a_.length ca_), (3, .int .i64 (a_.length : Int))] ?_
 refine Zs ?_
 refine Run_ops ?_
 refine Zr [.int .i64 (a_.length : Int)] 0 ?_
 obtain ⟨l1, hl1, hF⟩ := M.bind_some hF
 have hl1 := M.make_some hl1
 refine Ze ?_
 refine E_make cd132 [] (kl := .i64) (kc := .i64) H0 cd132_ti Try.underlying130 (by decide) cd132_zero (by kernel_rfl) hl1 (fun a1 h1 H1 => ?_)
 refine Zr [.slice a1 l1.length l1.length] 2 ?_
 refine Zx ?_
 refine Zk [0, 3, 4] [(0, .slice aa_ a_.length ca_), (3, .int .i64 (a_.length : Int)), (4, .slice a1 l1.length l1.length)] ?_
 refine Zs ?_
 refine Zs ?_
 refine Zq [.slice a1 l1.length l1.length, .int .i64 (l1.length : Int), .int .i64 0] [0, 3, 4, 15, 16] [(0, .slice aa_ a_.length ca_), (3, .int .i64 (a_.length : Int)), (4, .slice a1 l1.length l1.length), (15, .int .i64 (l1.length : Int)), (16, .int .i64 0)] ?_
 obtain ⟨x1, gx1, hF⟩ := M.bind_some hF
 obtain ⟨hloy1, hhiy1, gx1⟩ := M.for_start gx1
 refine Run_join (fun L' h' => L' = [(3, .int .i64 (a_.length : Int)), (4, .slice a1 l1.length l1.length)] ∧ Hold h h' [own cd132 a1 l1.length l1.length x1]) ?_ ?_
 ·rintro _ h3 ⟨rfl, H3⟩
  refine Zs ?_
  refine Zs ?_
  refine Zq [.int .i64 (a_.length : Int), .int .i64 0] [3, 4, 49, 50] [(3, .int .i64 (a_.length : Int)), (4, .slice a1 l1.length l1.length), (49, .int .i64 (a_.length : Int)), (50, .int .i64 0)] ?_
  obtain ⟨x9, gx9, hF⟩ := M.bind_some hF
  obtain ⟨hloy3, hhiy3, gx9⟩ := M.for_start gx9
  refine Run_join (fun L' h' => L' = [(4, .slice a1 l1.length l1.length)] ∧ Hold h h' [own cd132 a1 l1.length l1.length x9]) ?_ ?_
  ·rintro _ h14 ⟨rfl, H23⟩
   refine Zs ?_
   refine Zq [.slice a1 l1.length l1.length, .slice a1 l1.length l1.length] [2] [(2, .slice a1 l1.length l1.length)] ?_
   have hF := M.ret_some hF
   subst hF
   have H45 := H23.norm
   exact Run_ret1 rfl (Zt (.slice a1 l1.length l1.length)) ⟨a1, l1.length, (by simp only [(H23.len 0 rfl)]), H45⟩
  ·refine Run_block ?_
   refine Zk [3, 4, 49, 50] [(3, .int .i64 (a_.length : Int)), (4, .slice a1 l1.length l1.length), (49, .int .i64 (a_.length : Int)), (50, .int .i64 0)] ?_
   refine Run_loop (fun m L' h' => ∃ (i3 : Int) (s4 : (List (List Bool))), 0 ≤ i3 ∧ M.forN (a_.length : Int) _ _ n m i3 s4 = some x9 ∧ L' = [(3, .int .i64 (a_.length : Int)), (4, .slice a1 l1.length l1.length), (49, .int .i64 (a_.length : Int)), (50, .int .i64 i3)] ∧ Hold h h' [own cd132 a1 l1.length l1.length s4]) ((a_.length : Int) - 0 : Int).toNat ⟨0, x1, Int.le_refl _, gx9, rfl, H3⟩ ?_
   rintro my3 _ h13 ⟨i3, s4, hloy3', gx9, rfl, H22⟩
   refine Zs ?_
   refine Zq [.bool (decide (i3 < (a_.length : Int)))] [3, 4, 49, 50, 51] [(3, .int .i64 (a_.length : Int)), (4, .slice a1 l1.length l1.length), (49, .int .i64 (a_.length : Int)), (50, .int .i64 i3), (51, .bool (decide (i3 < (a_.length : Int))))] ?_
   refine Zs ?_
   refine Zc (decide (i3 < (a_.length : Int))) (fun hb4 => ?_) (fun hb4 => ?_)
   ·obtain ⟨my3, y3, rfl, hB3, hgoy3, houty3⟩ := M.for_go gx9 hb4
    have hlty3 := of_decide_eq_true hb4
    refine Run_skip ?_
    refine Zs ?_
    refine Run_block ?_
    refine Zs ?_
    refine Zq [.int .i64 i3, .int .i64 i3] [3, 4, 7, 49, 50] [(3, .int .i64 (a_.length : Int)), (4, .slice a1 l1.length l1.length), (7, .int .i64 i3), (49, .int .i64 (a_.length : Int)), (50, .int .i64 i3)] ?_
    refine Zs ?_
    refine Zq [.int .i64 (a_.length : Int), .int .i64 0] [3, 4, 7, 49, 50, 53, 54] [(3, .int .i64 (a_.length : Int)), (4, .slice a1 l1.length l1.length), (7, .int .i64 i3), (49, .int .i64 (a_.length : Int)), (50, .int .i64 i3), (53, .int .i64 (a_.length : Int)), (54, .int .i64 0)] ?_
    obtain ⟨x10, gx10, hB3⟩ := M.bind_some hB3
    obtain ⟨hloy4, hhiy4, gx10⟩ := M.for_start gx10
    refine Run_join (fun L' h' => L' = [(3, .int .i64 (a_.length : Int)), (4, .slice a1 l1.length l1.length), (49, .int .i64 (a_.length : Int)), (50, .int .i64 i3)] ∧ Hold h h' [own cd132 a1 l1.length l1.length x10]) ?_ ?_
    ·rintro _ h16 ⟨rfl, H25⟩
     refine Run_blk ?_
     refine Zg 2 [(3, .int .i64 (a_.length : Int)), (4, .slice a1 l1.length l1.length), (49, .int .i64 (a_.length : Int)), (50, .int .i64 (i3 + 1))] ?_ ?_
     ·refine Zy (.int .i64 (i3 + 1)) (Y_eq (v := .int .i64 (w64 (i3 + 1))) (Y_pure (fun w => by kernel_rfl)) (by rw [w64_eq _ (by omega)])) ?_
      refine Zb [.int .i64 (i3 + 1)] 1 ?_
      exact Zd [3, 4, 49, 50]
     have hB3 := M.ret_some hB3
     have gx9 := hgoy3 _ hB3.symm
     exact Za [3, 4, 49, 50] my3 ⟨i3 + 1, x10, by omega, gx9, rfl, H25⟩
    ·refine Run_block ?_
     refine Zk [3, 4, 7, 49, 50, 53, 54] [(3, .int .i64 (a_.length : Int)), (4, .slice a1 l1.length l1.length), (7, .int .i64 i3), (49, .int .i64 (a_.length : Int)), (50, .int .i64 i3), (53, .int .i64 (a_.length : Int)), (54, .int .i64 0)] ?_
     refine Run_loop (fun m L' h' => ∃ (i4 : Int) (s5 : (List (List Bool))), 0 ≤ i4 ∧ M.forN (a_.length : Int) _ _ n m i4 s5 = some x10 ∧ L' = [(3, .int .i64 (a_.length : Int)), (4, .slice a1 l1.length l1.length), (7, .int .i64 i3), (49, .int .i64 (a_.length : Int)), (50, .int .i64 i3), (53, .int .i64 (a_.length : Int)), (54, .int .i64 i4)] ∧ Hold h h' [own cd132 a1 l1.length l1.length s5]) ((a_.length : Int) - 0 : Int).toNat ⟨0, s4, Int.le_refl _, gx10, rfl, H22⟩ ?_
     rintro my4 _ h15 ⟨i4, s5, hloy4', gx10, rfl, H24⟩
     refine Zs ?_
     refine Zq [.bool (decide (i4 < (a_.length : Int)))] [3, 4, 7, 49, 50, 53, 54, 55] [(3, .int .i64 (a_.length : Int)), (4, .slice a1 l1.length l1.length), (7, .int .i64 i3), (49, .int .i64 (a_.length : Int)), (50, .int .i64 i3), (53, .int .i64 (a_.length : Int)), (54, .int .i64 i4), (55, .bool (decide (i4 < (a_.length : Int))))] ?_
     refine Zs ?_
     refine Zc (decide (i4 < (a_.length : Int))) (fun hb5 => ?_) (fun hb5 => ?_)
     ·obtain ⟨my4, y4, rfl, hB4, hgoy4, houty4⟩ := M.for_go gx10 hb5
      have hlty4 := of_decide_eq_true hb5
      refine Run_skip ?_
      refine Zs ?_
      refine Run_block ?_
      refine Zs ?_
      refine Zq [.int .i64 i4, .int .i64 i4] [3, 4, 7, 8, 49, 50, 53, 54] [(3, .int .i64 (a_.length : Int)), (4, .slice a1 l1.length l1.length), (7, .int .i64 i3), (8, .int .i64 i4), (49, .int .i64 (a_.length : Int)), (50, .int .i64 i3), (53, .int .i64 (a_.length : Int)), (54, .int .i64 i4)] ?_
      refine Zs ?_
      refine Zq [.int .i64 (a_.length : Int), .int .i64 0] [3, 4, 7, 8, 49, 50, 53, 54, 57, 58] [(3, .int .i64 (a_.length : Int)), (4, .slice a1 l1.length l1.length), (7, .int .i64 i3), (8, .int .i64 i4), (49, .int .i64 (a_.length : Int)), (50, .int .i64 i3), (53, .int .i64 (a_.length : Int)), (54, .int .i64 i4), (57, .int .i64 (a_.length : Int)), (58, .int .i64 0)] ?_
      obtain ⟨x11, gx11, hB4⟩ := M.bind_some hB4
      obtain ⟨hloy5, hhiy5, gx11⟩ := M.for_start gx11
      refine Run_join (fun L' h' => L' = [(3, .int .i64 (a_.length : Int)), (4, .slice a1 l1.length l1.length), (7, .int .i64 i3), (49, .int .i64 (a_.length : Int)), (50, .int .i64 i3), (53, .int .i64 (a_.length : Int)), (54, .int .i64 i4)] ∧ Hold h h' [own cd132 a1 l1.length l1.length x11]) ?_ ?_
      ·rintro _ h18 ⟨rfl, H27⟩
       refine Run_blk ?_
       refine Zg 2 [(3, .int .i64 (a_.length : Int)), (4, .slice a1 l1.length l1.length), (7, .int .i64 i3), (49, .int .i64 (a_.length : Int)), (50, .int .i64 i3), (53, .int .i64 (a_.length : Int)), (54, .int .i64 (i4 + 1))] ?_ ?_
       ·refine Zy (.int .i64 (i4 + 1)) (Y_eq (v := .int .i64 (w64 (i4 + 1))) (Y_pure (fun w => by kernel_rfl)) (by rw [w64_eq _ (by omega)])) ?_
        refine Zb [.int .i64 (i4 + 1)] 1 ?_
        exact Zd [3, 4, 7, 49, 50, 53, 54]
       have hB4 := M.ret_some hB4
       have gx10 := hgoy4 _ hB4.symm
       exact Za [3, 4, 7, 49, 50, 53, 54] my4 ⟨i4 + 1, x11, by omega, gx10, rfl, H27⟩
      ·refine Run_block ?_
       refine Zk [3, 4, 7, 8, 49, 50, 53, 54, 57, 58] [(3, .int .i64 (a_.length : Int)), (4, .slice a1 l1.length l1.length), (7, .int .i64 i3), (8, .int .i64 i4), (49, .int .i64 (a_.length : Int)), (50, .int .i64 i3), (53, .int .i64 (a_.length : Int)), (54, .int .i64 i4), (57, .int .i64 (a_.length : Int)), (58, .int .i64 0)] ?_
       refine Run_loop (fun m L' h' => ∃ (i5 : Int) (s6 : (List (List Bool))), 0 ≤ i5 ∧ M.forN (a_.length : Int) _ _ n m i5 s6 = some x11 ∧ L' = [(3, .int .i64 (a_.length : Int)), (4, .slice a1 l1.length l1.length), (7, .int .i64 i3), (8, .int .i64 i4), (49, .int .i64 (a_.length : Int)), (50, .int .i64 i3), (53, .int .i64 (a_.length : Int)), (54, .int .i64 i4), (57, .int .i64 (a_.length : Int)), (58, .int .i64 i5)] ∧ Hold h h' [own cd132 a1 l1.length l1.length s6]) ((a_.length : Int) - 0 : Int).toNat ⟨0, s5, Int.le_refl _, gx11, rfl, H24⟩ ?_
       rintro my5 _ h17 ⟨i5, s6, hloy5', gx11, rfl, H26⟩
       refine Zs ?_
       refine Zq [.bool (decide (i5 < (a_.length : Int)))] [3, 4, 7, 8, 49, 50, 53, 54, 57, 58, 59] [(3, .int .i64 (a_.length : Int)), (4, .slice a1 l1.length l1.length), (7, .int .i64 i3), (8, .int .i64 i4), (49, .int .i64 (a_.length : Int)), (50, .int .i64 i3), (53, .int .i64 (a_.length : Int)), (54, .int .i64 i4), (57, .int .i64 (a_.length : Int)), (58, .int .i64 i5), (59, .bool (decide (i5 < (a_.length : Int))))] ?_
       refine Zs ?_
       refine Zc (decide (i5 < (a_.length : Int))) (fun hb6 => ?_) (fun hb6 => ?_)
       ·obtain ⟨my5, y5, rfl, hB5, hgoy5, houty5⟩ := M.for_go gx11 hb6
        have hlty5 := of_decide_eq_true hb6
        refine Run_skip ?_
        refine Zs ?_
        refine Run_block ?_
        refine Zs ?_
        refine Zq [.int .i64 i5, .int .i64 i5] [3, 4, 7, 8, 9, 49, 50, 53, 54, 57, 58] [(3, .int .i64 (a_.length : Int)), (4, .slice a1 l1.length l1.length), (7, .int .i64 i3), (8, .int .i64 i4), (9, .int .i64 i5), (49, .int .i64 (a_.length : Int)), (50, .int .i64 i3), (53, .int .i64 (a_.length : Int)), (54, .int .i64 i4), (57, .int .i64 (a_.length : Int)), (58, .int .i64 i5)] ?_
        obtain ⟨s7, gs7, hB5⟩ := M.bind_some hB5
        refine Run_join (fun L' h' => L' = [(3, .int .i64 (a_.length : Int)), (4, .slice a1 l1.length l1.length), (7, .int .i64 i3), (8, .int .i64 i4), (49, .int .i64 (a_.length : Int)), (50, .int .i64 i3), (53, .int .i64 (a_.length : Int)), (54, .int .i64 i4), (57, .int .i64 (a_.length : Int)), (58, .int .i64 i5)] ∧ Hold h h' [own cd132 a1 l1.length l1.length s7]) ?_ ?_
        ·rintro _ h25 ⟨rfl, H41⟩
         refine Run_blk ?_
         refine Zg 2 [(3, .int .i64 (a_.length : Int)), (4, .slice a1 l1.length l1.length), (7, .int .i64 i3), (8, .int .i64 i4), (49, .int .i64 (a_.length : Int)), (50, .int .i64 i3), (53, .int .i64 (a_.length : Int)), (54, .int .i64 i4), (57, .int .i64 (a_.length : Int)), (58, .int .i64 (i5 + 1))] ?_ ?_
         ·refine Zy (.int .i64 (i5 + 1)) (Y_eq (v := .int .i64 (w64 (i5 + 1))) (Y_pure (fun w => by kernel_rfl)) (by rw [w64_eq _ (by omega)])) ?_
          refine Zb [.int .i64 (i5 + 1)] 1 ?_
          exact Zd [3, 4, 7, 8, 49, 50, 53, 54, 57, 58]
         have hB5 := M.ret_some hB5
         have gx11 := hgoy5 _ hB5.symm
         exact Za [3, 4, 7, 8, 49, 50, 53, 54, 57, 58] my5 ⟨i5 + 1, s7, by omega, gx11, rfl, H41⟩
        ·obtain ⟨x12, hx7, gs7⟩ := M.bind_some gs7
         obtain ⟨hx7l, hx7u, hx7⟩ := M.idx_some hx7
         have H28 := H26.toRows
         obtain ⟨a5, c3, H29⟩ := H28.pinRow hx7
         obtain ⟨x13, hx8, gs7⟩ := M.bind_some gs7
         obtain ⟨hx8l, hx8u, hx8⟩ := M.idx_some hx8
         obtain ⟨a6, c4, H30⟩ := H29.pinRow hx8
         obtain ⟨x14, hx9, gs7⟩ := M.bind_some gs7
         obtain ⟨hx9l, hx9u, hx9⟩ := M.idx_some hx9
         obtain ⟨a7, c5, H31⟩ := H30.pinRow hx9
         obtain ⟨x15, hx10, gs7⟩ := M.bind_some gs7
         obtain ⟨hx10l, hx10u, hx10⟩ := M.idx_some hx10
         refine Run_D (fun x => Hold h x [rowsP cd4 132 a1 l1.length l1.length s6 [(i4.toNat, a7, x14.length, c5, x14), (i4.toNat, a6, x13.length, c4, x13), (i3.toNat, a5, x12.length, c3, x12)]]) (fun x => Hold h x [rowsP cd4 132 a1 l1.length l1.length s6 [(i4.toNat, a7, x14.length, c5, x14), (i4.toNat, a6, x13.length, c4, x13), (i3.toNat, a5, x12.length, c3, x12)]]) mixed (by kernel_rfl) H31 Hold.stable (fun x Hy => (show Hold h x [rowsP cd4 132 a1 l1.length l1.length s6 [(i4.toNat, a7, x14.length, c5, x14), (i4.toNat, a6, x13.length, c4, x13), (i3.toNat, a5, x12.length, c3, x12)]] from Hy).pk [0]) ?_
         refine ZB 30 [.slice a1 l1.length l1.length, .int .i64 i4] 0 ?_
         refine ZY 29 2 (.pointer (some (adr a1 (i4.toNat * 1)))) (fun hx Hx => (YE.of (Zi 130 132 1 (a1) (l1.length) (l1.length) .i64 (i4) Try.underlying130 ((H29.rdRows 0 rfl).cell hx8).1 hx8l (by rw [← (H29.lenRows 0 rfl)]; exact hx8u)))) ?_
         refine ZY 28 3 (.slice a6 x13.length c4) (fun hx Hx => (YE.of (Zl 132 (adr a1 (i4.toNat * 1)) (.slice a6 x13.length c4) (Hx.cellPin 0 rfl 1 rfl)))) ?_
         refine ZB 25 [.int .i64 i5, .slice a1 l1.length l1.length, .int .i64 i4] 4 ?_
         refine ZY 24 7 (.pointer (some (adr a1 (i4.toNat * 1)))) (fun hx Hx => (YE.of (Zi 130 132 1 (a1) (l1.length) (l1.length) .i64 (i4) Try.underlying130 ((H30.rdRows 0 rfl).cell hx9).1 hx9l (by rw [← (H30.lenRows 0 rfl)]; exact hx9u)))) ?_
         refine ZY 23 8 (.slice a7 x14.length c5) (fun hx Hx => (YE.of (Zl 132 (adr a1 (i4.toNat * 1)) (.slice a7 x14.length c5) (Hx.cellPin 0 rfl 0 rfl)))) ?_
         refine ZB 22 [.int .i64 i5] 9 ?_
         refine ZY 21 10 (.pointer (some (adr a7 (i5.toNat * 1)))) (fun hx Hx => (YE.of (Zi 132 4 1 (a7) (x14.length) (c5) .i64 (i5) Try.underlying132 ((H31.rdPin 0 rfl 0 rfl).cell hx10).1 hx10l hx10u))) ?_
         refine ZY 20 11 (.bool x15) (fun hx Hx => (YE.of (Zl 4 (adr a7 (i5.toNat * 1)) (.bool x15) (cd4_cell (Hx.rdPin 0 rfl 0 rfl) hx10)))) ?_
         rcases Bool.eq_false_or_eq_true x15 with hb7 | hb7
         ·have gs7 := (M.ite_some gs7).1 hb7
          refine ZL 19 12 x15 true hb7 ?_
          obtain ⟨x16, hx11, gs7⟩ := M.bind_some gs7
          obtain ⟨hx11l, hx11u, hx11⟩ := M.idx_some hx11
          refine ZN 18 13 ?_
          refine ZN 17 14 ?_
          refine ZN 16 15 ?_
          refine ZN 15 16 ?_
          refine ZN 14 17 ?_
          refine ZN 13 18 ?_
          refine ZN 12 19 ?_
          refine ZN 11 20 ?_
          refine ZN 10 21 ?_
          refine ZN 9 22 ?_
          refine ZN 8 23 ?_
          refine ZN 7 24 ?_
          refine ZN 6 25 ?_
          refine ZN 5 26 ?_
          refine ZN 4 27 ?_
          refine ZN 3 28 ?_
          refine ZB 2 [.bool true] 29 ?_
          refine ZY 1 30 (.pointer (some (adr a6 (i5.toNat * 1)))) (fun hx Hx => (YE.of (Zi 132 4 1 (a6) (x13.length) (c4) .i64 (i5) Try.underlying132 ((H31.rdPin 0 rfl 1 rfl).cell hx11).1 hx11l hx11u))) ?_
          refine ZT 31 (fun h19 H32 => ?_)
          have H33 : Hold h h19 [rowsP cd4 132 a1 l1.length l1.length s6 [(i4.toNat, a7, x14.length, c5, x14), (i4.toNat, a6, x13.length, c4, x13), (i3.toNat, a5, x12.length, c3, x12)]] := H32
          obtain ⟨l6, hu4, gs7⟩ := M.bind_some gs7
          have hu4 := M.upd_some hu4
          refine Ze ?_
          refine E_put2 (C := cd4) (t := 4) (sz := 1) (j := i5) (x := true) (v := .bool true) (m2 := s6.set i4.toNat l6) H33 cd4_flat 1 rfl (by kernel_rfl) rfl (cd4_own _) (by kernel_rfl) hu4 rfl (fun h20 H34 => ?_)
          refine Zx ?_
          refine Zk [3, 4, 7, 8, 49, 50, 53, 54, 57, 58] [(3, .int .i64 (a_.length : Int)), (4, .slice a1 l1.length l1.length), (7, .int .i64 i3), (8, .int .i64 i4), (49, .int .i64 (a_.length : Int)), (50, .int .i64 i3), (53, .int .i64 (a_.length : Int)), (54, .int .i64 i4), (57, .int .i64 (a_.length : Int)), (58, .int .i64 i5)] ?_
          have H42 := H34.ofRows
          have gs7 := M.ret_some gs7
          subst gs7
          exact Zf [3, 4, 7, 8, 49, 50, 53, 54, 57, 58] ⟨rfl, H42⟩
         ·have gs7 := (M.ite_some gs7).2 hb7
          refine ZL 19 12 x15 false hb7 ?_
          obtain ⟨x17, hx12, gs7⟩ := M.bind_some gs7
          obtain ⟨hx12l, hx12u, hx12⟩ := M.idx_some hx12
          refine ZB 17 [.slice a1 l1.length l1.length, .int .i64 i4] 13 ?_
          refine ZY 16 15 (.pointer (some (adr a1 (i4.toNat * 1)))) (fun hx Hx => (YE.of (Zi 130 132 1 (a1) (l1.length) (l1.length) .i64 (i4) Try.underlying130 ((H31.rdRows 0 rfl).cell hx9).1 hx9l (by rw [← (H31.lenRows 0 rfl)]; exact hx9u)))) ?_
          refine ZY 15 16 (.slice a7 x14.length c5) (fun hx Hx => (YE.of (Zl 132 (adr a1 (i4.toNat * 1)) (.slice a7 x14.length c5) (Hx.cellPin 0 rfl 0 rfl)))) ?_
          refine ZB 14 [.int .i64 i3] 17 ?_
          refine ZY 13 18 (.pointer (some (adr a7 (i3.toNat * 1)))) (fun hx Hx => (YE.of (Zi 132 4 1 (a7) (x14.length) (c5) .i64 (i3) Try.underlying132 ((H31.rdPin 0 rfl 0 rfl).cell hx12).1 hx12l hx12u))) ?_
          refine ZY 12 19 (.bool x17) (fun hx Hx => (YE.of (Zl 4 (adr a7 (i3.toNat * 1)) (.bool x17) (cd4_cell (Hx.rdPin 0 rfl 0 rfl) hx12)))) ?_
          rcases Bool.eq_false_or_eq_true x17 with hb8 | hb8
          ·have gs7 := (M.ite_some gs7).1 hb8
           refine ZL 11 20 x17 true hb8 ?_
           obtain ⟨x18, hx13, gs7⟩ := M.bind_some gs7
           obtain ⟨hx13l, hx13u, hx13⟩ := M.idx_some hx13
           obtain ⟨x19, hx14, gs7⟩ := M.bind_some gs7
           obtain ⟨hx14l, hx14u, hx14⟩ := M.idx_some hx14
           refine ZB 9 [.slice a1 l1.length l1.length, .int .i64 i3] 21 ?_
           refine ZY 8 23 (.pointer (some (adr a1 (i3.toNat * 1)))) (fun hx Hx => (YE.of (Zi 130 132 1 (a1) (l1.length) (l1.length) .i64 (i3) Try.underlying130 ((H31.rdRows 0 rfl).cell hx7).1 hx7l (by rw [← (H31.lenRows 0 rfl)]; exact hx7u)))) ?_
           refine ZY 7 24 (.slice a5 x12.length c3) (fun hx Hx => (YE.of (Zl 132 (adr a1 (i3.toNat * 1)) (.slice a5 x12.length c3) (Hx.cellPin 0 rfl 2 rfl)))) ?_
           refine ZB 6 [.int .i64 i5] 25 ?_
           refine ZY 5 26 (.pointer (some (adr a5 (i5.toNat * 1)))) (fun hx Hx => (YE.of (Zi 132 4 1 (a5) (x12.length) (c3) .i64 (i5) Try.underlying132 ((H31.rdPin 0 rfl 2 rfl).cell hx13).1 hx13l hx13u))) ?_
           refine ZY 4 27 (.bool x18) (fun hx Hx => (YE.of (Zl 4 (adr a5 (i5.toNat * 1)) (.bool x18) (cd4_cell (Hx.rdPin 0 rfl 2 rfl) hx13)))) ?_
           refine ZB 2 [.bool x18, .bool x18] 28 ?_
           refine ZY 1 30 (.pointer (some (adr a6 (i5.toNat * 1)))) (fun hx Hx => (YE.of (Zi 132 4 1 (a6) (x13.length) (c4) .i64 (i5) Try.underlying132 ((H31.rdPin 0 rfl 1 rfl).cell hx14).1 hx14l hx14u))) ?_
           refine ZT 31 (fun h21 H35 => ?_)
           have H36 : Hold h h21 [rowsP cd4 132 a1 l1.length l1.length s6 [(i4.toNat, a7, x14.length, c5, x14), (i4.toNat, a6, x13.length, c4, x13), (i3.toNat, a5, x12.length, c3, x12)]] := H35
           obtain ⟨l7, hu5, gs7⟩ := M.bind_some gs7
           have hu5 := M.upd_some hu5
           refine Ze ?_
           refine E_put2 (C := cd4) (t := 4) (sz := 1) (j := i5) (x := x18) (v := .bool x18) (m2 := s6.set i4.toNat l7) H36 cd4_flat 1 rfl (by kernel_rfl) rfl (cd4_own _) (by kernel_rfl) hu5 rfl (fun h22 H37 => ?_)
           refine Zx ?_
           refine Zk [3, 4, 7, 8, 49, 50, 53, 54, 57, 58] [(3, .int .i64 (a_.length : Int)), (4, .slice a1 l1.length l1.length), (7, .int .i64 i3), (8, .int .i64 i4), (49, .int .i64 (a_.length : Int)), (50, .int .i64 i3), (53, .int .i64 (a_.length : Int)), (54, .int .i64 i4), (57, .int .i64 (a_.length : Int)), (58, .int .i64 i5)] ?_
           have H43 := H37.ofRows
           have gs7 := M.ret_some gs7
           subst gs7
           exact Zf [3, 4, 7, 8, 49, 50, 53, 54, 57, 58] ⟨rfl, H43⟩
          ·have gs7 := (M.ite_some gs7).2 hb8
           refine ZL 11 20 x17 false hb8 ?_
           obtain ⟨x20, hx15, gs7⟩ := M.bind_some gs7
           obtain ⟨hx15l, hx15u, hx15⟩ := M.idx_some hx15
           refine ZN 10 21 ?_
           refine ZN 9 22 ?_
           refine ZN 8 23 ?_
           refine ZN 7 24 ?_
           refine ZN 6 25 ?_
           refine ZN 5 26 ?_
           refine ZN 4 27 ?_
           refine ZB 2 [.bool false, .bool false] 28 ?_
           refine ZY 1 30 (.pointer (some (adr a6 (i5.toNat * 1)))) (fun hx Hx => (YE.of (Zi 132 4 1 (a6) (x13.length) (c4) .i64 (i5) Try.underlying132 ((H31.rdPin 0 rfl 1 rfl).cell hx15).1 hx15l hx15u))) ?_
           refine ZT 31 (fun h23 H38 => ?_)
           have H39 : Hold h h23 [rowsP cd4 132 a1 l1.length l1.length s6 [(i4.toNat, a7, x14.length, c5, x14), (i4.toNat, a6, x13.length, c4, x13), (i3.toNat, a5, x12.length, c3, x12)]] := H38
           obtain ⟨l8, hu6, gs7⟩ := M.bind_some gs7
           have hu6 := M.upd_some hu6
           refine Ze ?_
           refine E_put2 (C := cd4) (t := 4) (sz := 1) (j := i5) (x := false) (v := .bool false) (m2 := s6.set i4.toNat l8) H39 cd4_flat 1 rfl (by kernel_rfl) rfl (cd4_own _) (by kernel_rfl) hu6 rfl (fun h24 H40 => ?_)
           refine Zx ?_
           refine Zk [3, 4, 7, 8, 49, 50, 53, 54, 57, 58] [(3, .int .i64 (a_.length : Int)), (4, .slice a1 l1.length l1.length), (7, .int .i64 i3), (8, .int .i64 i4), (49, .int .i64 (a_.length : Int)), (50, .int .i64 i3), (53, .int .i64 (a_.length : Int)), (54, .int .i64 i4), (57, .int .i64 (a_.length : Int)), (58, .int .i64 i5)] ?_
           have H44 := H40.ofRows
           have gs7 := M.ret_some gs7
           subst gs7
           exact Zf [3, 4, 7, 8, 49, 50, 53, 54, 57, 58] ⟨rfl, H44⟩
       ·have gx11 := M.for_end gx11 hb6
        subst gx11
        refine Run_exit (k' := _) rfl ?_
        exact Zf [3, 4, 7, 49, 50, 53, 54] ⟨rfl, H26⟩
     ·have gx10 := M.for_end gx10 hb5
      subst gx10
      refine Run_exit (k' := _) rfl ?_
      exact Zf [3, 4, 49, 50] ⟨rfl, H24⟩
   ·have gx9 := M.for_end gx9 hb4
    subst gx9
    refine Run_exit (k' := _) rfl ?_
    exact Zf [4] ⟨rfl, H22⟩
 ·refine Run_block ?_
  refine Zk [0, 3, 4, 15, 16] [(0, .slice aa_ a_.length ca_), (3, .int .i64 (a_.length : Int)), (4, .slice a1 l1.length l1.length), (15, .int .i64 (l1.length : Int)), (16, .int .i64 0)] ?_
  refine Run_loop (fun m L' h' => ∃ (i1 : Int) (s1 : (List (List Bool))), 0 ≤ i1 ∧ M.forN (l1.length : Int) _ _ n m i1 s1 = some x1 ∧ L' = [(0, .slice aa_ a_.length ca_), (3, .int .i64 (a_.length : Int)), (4, .slice a1 l1.length l1.length), (15, .int .i64 (l1.length : Int)), (16, .int .i64 i1)] ∧ Hold h h' [own cd132 a1 l1.length l1.length s1]) ((l1.length : Int) - 0 : Int).toNat ⟨0, l1, Int.le_refl _, gx1, rfl, H1⟩ ?_
  rintro my1 _ h2 ⟨i1, s1, hloy1', gx1, rfl, H2⟩
  refine Zs ?_
  refine Zq [.bool (decide (i1 < (l1.length : Int)))] [0, 3, 4, 15, 16, 17] [(0, .slice aa_ a_.length ca_), (3, .int .i64 (a_.length : Int)), (4, .slice a1 l1.length l1.length), (15, .int .i64 (l1.length : Int)), (16, .int .i64 i1), (17, .bool (decide (i1 < (l1.length : Int))))] ?_
  refine Zs ?_
  refine Zc (decide (i1 < (l1.length : Int))) (fun hb1 => ?_) (fun hb1 => ?_)
  ·obtain ⟨my1, y1, rfl, hB1, hgoy1, houty1⟩ := M.for_go gx1 hb1
   have hlty1 := of_decide_eq_true hb1
   refine Run_skip ?_
   refine Zs ?_
   refine Run_block ?_
   refine Zs ?_
   refine Zq [.int .i64 i1, .int .i64 i1] [0, 3, 4, 5, 15, 16] [(0, .slice aa_ a_.length ca_), (3, .int .i64 (a_.length : Int)), (4, .slice a1 l1.length l1.length), (5, .int .i64 i1), (15, .int .i64 (l1.length : Int)), (16, .int .i64 i1)] ?_
   refine Zs ?_
   refine Run_ops ?_
   refine Zr [.slice a1 l1.length l1.length, .int .i64 i1, .int .i64 (a_.length : Int)] 0 ?_
   obtain ⟨l2, hl2, hB1⟩ := M.bind_some hB1
   have hl2 := M.make_some hl2
   refine Ze ?_
   refine E_make cd4 false (kl := .i64) (kc := .i64) H2 cd4_ti Try.underlying132 (by decide) cd4_zero (by kernel_rfl) hl2 (fun a2 h4 H4 => ?_)
   obtain ⟨x2, hx1, hB1⟩ := M.bind_some hB1
   obtain ⟨hx1l, hx1u, hx1⟩ := M.idx_some hx1
   refine Zz (.pointer (some (adr a1 (i1.toNat * 1)))) (Zi 130 132 1 (a1) (l1.length) (l1.length) .i64 (i1) Try.underlying130 ((H4.rd 1 rfl).cell hx1).1 hx1l (by rw [← (H4.len 1 rfl)]; exact hx1u)) ?_
   obtain ⟨l3, hu1, hB1⟩ := M.bind_some hB1
   have hu1 := M.upd_some hu1
   have H6 : Hold h h4 [own cd132 a1 l1.length l1.length s1, own cd4 a2 l2.length l2.length l2] := H4.pk [1, 0]
   have H7 : Hold h h4 [own cd4 a2 l2.length l2.length l2, own cd132 a1 l1.length l1.length s1] := H6.pk [1, 0]
   have H8 : Hold h h4 [own cd132 a1 l1.length l1.length s1, own cd4 a2 l2.length l2.length l2] := H7.pk [1, 0]
   refine Ze ?_
   refine E_putRow (t := 132) (j := i1) H8 (by kernel_rfl) (by kernel_rfl) hu1 (fun h5 H5 => ?_)
   refine Zx ?_
   refine Zk [0, 3, 4, 5, 15, 16] [(0, .slice aa_ a_.length ca_), (3, .int .i64 (a_.length : Int)), (4, .slice a1 l1.length l1.length), (5, .int .i64 i1), (15, .int .i64 (l1.length : Int)), (16, .int .i64 i1)] ?_
   refine Zs ?_
   refine Zq [.int .i64 (a_.length : Int), .int .i64 0] [0, 3, 4, 5, 15, 16, 24, 25] [(0, .slice aa_ a_.length ca_), (3, .int .i64 (a_.length : Int)), (4, .slice a1 l1.length l1.length), (5, .int .i64 i1), (15, .int .i64 (l1.length : Int)), (16, .int .i64 i1), (24, .int .i64 (a_.length : Int)), (25, .int .i64 0)] ?_
   obtain ⟨x3, gx3, hB1⟩ := M.bind_some hB1
   obtain ⟨hloy2, hhiy2, gx3⟩ := M.for_start gx3
   refine Run_join (fun L' h' => L' = [(0, .slice aa_ a_.length ca_), (3, .int .i64 (a_.length : Int)), (4, .slice a1 l1.length l1.length), (15, .int .i64 (l1.length : Int)), (16, .int .i64 i1)] ∧ Hold h h' [own cd132 a1 l1.length l1.length x3]) ?_ ?_
   ·rintro _ h7 ⟨rfl, H10⟩
    refine Run_blk ?_
    refine Zg 2 [(0, .slice aa_ a_.length ca_), (3, .int .i64 (a_.length : Int)), (4, .slice a1 l1.length l1.length), (15, .int .i64 (l1.length : Int)), (16, .int .i64 (i1 + 1))] ?_ ?_
    ·refine Zy (.int .i64 (i1 + 1)) (Y_eq (v := .int .i64 (w64 (i1 + 1))) (Y_pure (fun w => by kernel_rfl)) (by rw [w64_eq _ (by omega)])) ?_
     refine Zb [.int .i64 (i1 + 1)] 1 ?_
     exact Zd [0, 3, 4, 15, 16]
    have hB1 := M.ret_some hB1
    have gx1 := hgoy1 _ hB1.symm
    exact Za [0, 3, 4, 15, 16] my1 ⟨i1 + 1, x3, by omega, gx1, rfl, H10⟩
   ·refine Run_block ?_
    refine Zk [0, 3, 4, 5, 15, 16, 24, 25] [(0, .slice aa_ a_.length ca_), (3, .int .i64 (a_.length : Int)), (4, .slice a1 l1.length l1.length), (5, .int .i64 i1), (15, .int .i64 (l1.length : Int)), (16, .int .i64 i1), (24, .int .i64 (a_.length : Int)), (25, .int .i64 0)] ?_
    refine Run_loop (fun m L' h' => ∃ (i2 : Int) (s2 : (List (List Bool))), 0 ≤ i2 ∧ M.forN (a_.length : Int) _ _ n m i2 s2 = some x3 ∧ L' = [(0, .slice aa_ a_.length ca_), (3, .int .i64 (a_.length : Int)), (4, .slice a1 l1.length l1.length), (5, .int .i64 i1), (15, .int .i64 (l1.length : Int)), (16, .int .i64 i1), (24, .int .i64 (a_.length : Int)), (25, .int .i64 i2)] ∧ Hold h h' [own cd132 a1 l1.length l1.length s2]) ((a_.length : Int) - 0 : Int).toNat ⟨0, l3, Int.le_refl _, gx3, rfl, H5⟩ ?_
    rintro my2 _ h6 ⟨i2, s2, hloy2', gx3, rfl, H9⟩
    refine Zs ?_
    refine Zq [.bool (decide (i2 < (a_.length : Int)))] [0, 3, 4, 5, 15, 16, 24, 25, 26] [(0, .slice aa_ a_.length ca_), (3, .int .i64 (a_.length : Int)), (4, .slice a1 l1.length l1.length), (5, .int .i64 i1), (15, .int .i64 (l1.length : Int)), (16, .int .i64 i1), (24, .int .i64 (a_.length : Int)), (25, .int .i64 i2), (26, .bool (decide (i2 < (a_.length : Int))))] ?_
    refine Zs ?_
    refine Zc (decide (i2 < (a_.length : Int))) (fun hb2 => ?_) (fun hb2 => ?_)
    ·obtain ⟨my2, y2, rfl, hB2, hgoy2, houty2⟩ := M.for_go gx3 hb2
     have hlty2 := of_decide_eq_true hb2
     refine Run_skip ?_
     refine Zs ?_
     refine Run_block ?_
     refine Zs ?_
     refine Zq [.int .i64 i2, .int .i64 i2] [0, 3, 4, 5, 6, 15, 16, 24, 25] [(0, .slice aa_ a_.length ca_), (3, .int .i64 (a_.length : Int)), (4, .slice a1 l1.length l1.length), (5, .int .i64 i1), (6, .int .i64 i2), (15, .int .i64 (l1.length : Int)), (16, .int .i64 i1), (24, .int .i64 (a_.length : Int)), (25, .int .i64 i2)] ?_
     obtain ⟨s3, gs3, hB2⟩ := M.bind_some hB2
     refine Run_join (fun L' h' => L' = [(0, .slice aa_ a_.length ca_), (3, .int .i64 (a_.length : Int)), (4, .slice a1 l1.length l1.length), (5, .int .i64 i1), (15, .int .i64 (l1.length : Int)), (16, .int .i64 i1), (24, .int .i64 (a_.length : Int)), (25, .int .i64 i2)] ∧ Hold h h' [own cd132 a1 l1.length l1.length s3]) ?_ ?_
     ·rintro _ h12 ⟨rfl, H19⟩
      refine Run_blk ?_
      refine Zg 2 [(0, .slice aa_ a_.length ca_), (3, .int .i64 (a_.length : Int)), (4, .slice a1 l1.length l1.length), (5, .int .i64 i1), (15, .int .i64 (l1.length : Int)), (16, .int .i64 i1), (24, .int .i64 (a_.length : Int)), (25, .int .i64 (i2 + 1))] ?_ ?_
      ·refine Zy (.int .i64 (i2 + 1)) (Y_eq (v := .int .i64 (w64 (i2 + 1))) (Y_pure (fun w => by kernel_rfl)) (by rw [w64_eq _ (by omega)])) ?_
       refine Zb [.int .i64 (i2 + 1)] 1 ?_
       exact Zd [0, 3, 4, 5, 15, 16, 24, 25]
      have hB2 := M.ret_some hB2
      have gx3 := hgoy2 _ hB2.symm
      exact Za [0, 3, 4, 5, 15, 16, 24, 25] my2 ⟨i2 + 1, s3, by omega, gx3, rfl, H19⟩
     ·obtain ⟨x4, hx2, gs3⟩ := M.bind_some gs3
      obtain ⟨hx2l, hx2u, hx2⟩ := M.idx_some hx2
      have H11 := H9.toRows
      obtain ⟨a3, c1, H12⟩ := H11.pinRow hx2
      refine Run_D (fun x => Hold h x [rowsP cd4 132 a1 l1.length l1.length s2 [(i1.toNat, a3, x4.length, c1, x4)]]) (fun x => Hold h x [rowsP cd4 132 a1 l1.length l1.length s2 [(i1.toNat, a3, x4.length, c1, x4)]]) mixed (by kernel_rfl) H12 Hold.stable (fun x Hy => (show Hold h x [rowsP cd4 132 a1 l1.length l1.length s2 [(i1.toNat, a3, x4.length, c1, x4)]] from Hy).pk [0]) ?_
      refine ZB 18 [.slice a1 l1.length l1.length, .int .i64 i1] 0 ?_
      refine ZY 17 2 (.pointer (some (adr a1 (i1.toNat * 1)))) (fun hx Hx => (YE.of (Zi 130 132 1 (a1) (l1.length) (l1.length) .i64 (i1) Try.underlying130 ((H9.rd 0 rfl).cell hx2).1 hx2l (by rw [← (H9.len 0 rfl)]; exact hx2u)))) ?_
      refine ZY 16 3 (.slice a3 x4.length c1) (fun hx Hx => (YE.of (Zl 132 (adr a1 (i1.toNat * 1)) (.slice a3 x4.length c1) (Hx.cellPin 0 rfl 0 rfl)))) ?_
      refine ZB 12 [.int .i64 i2, .int .i64 i1, .int .i64 i2, .bool (i1 == i2)] 4 ?_
      rcases Bool.eq_false_or_eq_true (i1 == i2) with hb3 | hb3
      ·have gs3 := (M.ite_some gs3).1 hb3
       refine ZL 11 8 (i1 == i2) true hb3 ?_
       obtain ⟨x5, hx3, gs3⟩ := M.bind_some gs3
       obtain ⟨hx3l, hx3u, hx3⟩ := M.idx_some hx3
       refine ZN 10 9 ?_
       refine ZN 9 10 ?_
       refine ZN 8 11 ?_
       refine ZN 7 12 ?_
       refine ZN 6 13 ?_
       refine ZN 5 14 ?_
       refine ZN 4 15 ?_
       refine ZN 3 16 ?_
       refine ZB 2 [.bool true] 17 ?_
       refine ZY 1 18 (.pointer (some (adr a3 (i2.toNat * 1)))) (fun hx Hx => (YE.of (Zi 132 4 1 (a3) (x4.length) (c1) .i64 (i2) Try.underlying132 ((H12.rdPin 0 rfl 0 rfl).cell hx3).1 hx3l hx3u))) ?_
       refine ZT 19 (fun h8 H13 => ?_)
       have H14 : Hold h h8 [rowsP cd4 132 a1 l1.length l1.length s2 [(i1.toNat, a3, x4.length, c1, x4)]] := H13
       obtain ⟨l4, hu2, gs3⟩ := M.bind_some gs3
       have hu2 := M.upd_some hu2
       refine Ze ?_
       refine E_put2 (C := cd4) (t := 4) (sz := 1) (j := i2) (x := true) (v := .bool true) (m2 := s2.set i1.toNat l4) H14 cd4_flat 0 rfl (by kernel_rfl) rfl (cd4_own _) (by kernel_rfl) hu2 rfl (fun h9 H15 => ?_)
       refine Zx ?_
       refine Zk [0, 3, 4, 5, 15, 16, 24, 25] [(0, .slice aa_ a_.length ca_), (3, .int .i64 (a_.length : Int)), (4, .slice a1 l1.length l1.length), (5, .int .i64 i1), (15, .int .i64 (l1.length : Int)), (16, .int .i64 i1), (24, .int .i64 (a_.length : Int)), (25, .int .i64 i2)] ?_
       have H20 := H15.ofRows
       have gs3 := M.ret_some gs3
       subst gs3
       exact Zf [0, 3, 4, 5, 15, 16, 24, 25] ⟨rfl, H20⟩
      ·have gs3 := (M.ite_some gs3).2 hb3
       refine ZL 11 8 (i1 == i2) false hb3 ?_
       obtain ⟨x6, hx4, gs3⟩ := M.bind_some gs3
       obtain ⟨hx4l, hx4u, hx4⟩ := M.idx_some hx4
       obtain ⟨a4, c2, hc1, r1⟩ := ra_.row hx4
       obtain ⟨x7, hx5, gs3⟩ := M.bind_some gs3
       obtain ⟨hx5l, hx5u, hx5⟩ := M.idx_some hx5
       obtain ⟨x8, hx6, gs3⟩ := M.bind_some gs3
       obtain ⟨hx6l, hx6u, hx6⟩ := M.idx_some hx6
       refine ZB 9 [.slice aa_ a_.length ca_, .int .i64 i2] 9 ?_
       refine ZY 8 11 (.pointer (some (adr aa_ (i2.toNat * 1)))) (fun hx Hx => (YE.of (Zi 37 90 1 (aa_) (a_.length) (ca_) .i64 (i2) Try.underlying37 ((ra_.at H12.ext).cell hx4).1 hx4l hx4u))) ?_
       refine ZY 7 12 (.slice a4 x6.length c2) (fun hx Hx => (YE.of (Zl 90 (adr aa_ (i2.toNat * 1)) (.slice a4 x6.length c2) (cell_at Hx.ext hc1)))) ?_
       refine ZB 6 [.int .i64 i1] 13 ?_
       refine ZY 5 14 (.pointer (some (adr a4 (i1.toNat * 1)))) (fun hx Hx => (YE.of (Zi 90 2 1 (a4) (x6.length) (c2) .i64 (i1) Try.underlying90 ((r1.at H12.ext).cell hx5).1 hx5l hx5u))) ?_
       refine ZY 4 15 (.int .i64 x7) (fun hx Hx => (YE.of (Zl 2 (adr a4 (i1.toNat * 1)) (.int .i64 x7) (cd2_cell (r1.at Hx.ext) hx5)))) ?_
       refine ZB 2 [.bool (x7 != (-1000000000000000)), .bool (x7 != (-1000000000000000))] 16 ?_
       refine ZY 1 18 (.pointer (some (adr a3 (i2.toNat * 1)))) (fun hx Hx => (YE.of (Zi 132 4 1 (a3) (x4.length) (c1) .i64 (i2) Try.underlying132 ((H12.rdPin 0 rfl 0 rfl).cell hx6).1 hx6l hx6u))) ?_
       refine ZT 19 (fun h10 H16 => ?_)
       have H17 : Hold h h10 [rowsP cd4 132 a1 l1.length l1.length s2 [(i1.toNat, a3, x4.length, c1, x4)]] := H16
       obtain ⟨l5, hu3, gs3⟩ := M.bind_some gs3
       have hu3 := M.upd_some hu3
       refine Ze ?_
       refine E_put2 (C := cd4) (t := 4) (sz := 1) (j := i2) (x := (x7 != (-1000000000000000))) (v := .bool (x7 != (-1000000000000000))) (m2 := s2.set i1.toNat l5) H17 cd4_flat 0 rfl (by kernel_rfl) rfl (cd4_own _) (by kernel_rfl) hu3 rfl (fun h11 H18 => ?_)
       refine Zx ?_
       refine Zk [0, 3, 4, 5, 15, 16, 24, 25] [(0, .slice aa_ a_.length ca_), (3, .int .i64 (a_.length : Int)), (4, .slice a1 l1.length l1.length), (5, .int .i64 i1), (15, .int .i64 (l1.length : Int)), (16, .int .i64 i1), (24, .int .i64 (a_.length : Int)), (25, .int .i64 i2)] ?_
       have H21 := H18.ofRows
       have gs3 := M.ret_some gs3
       subst gs3
       exact Zf [0, 3, 4, 5, 15, 16, 24, 25] ⟨rfl, H21⟩
    ·have gx3 := M.for_end gx3 hb2
     subst gx3
     refine Run_exit (k' := _) rfl ?_
     exact Zf [0, 3, 4, 15, 16] ⟨rfl, H9⟩
  ·have gx1 := M.for_end gx1 hb1
   subst gx1
   refine Run_exit (k' := _) rfl ?_
   exact Zf [3, 4] ⟨rfl, H2⟩

end Go.Proofs.Ytelopfgolahlpaa
