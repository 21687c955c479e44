/-
  Walks: each Go function, called with what reads as plain data, returns what its plain program computes.
  Conditions: None beyond the given statement.
-/
import Derived.Test.YtjdcdcipilhmeaaRows
import Derived.Test.YtjdcdcipilhmeaaP
import Derived.Test.YtjdcdcipilhmeaaMut
namespace Go.Proofs.Ytjdcdcipilhmeaa
open Go
attribute [local irreducible] setL setB opA fineI idleI fineB evB okB markB markBs readyB readyBs chainB lk rho pickL dropSlot tailOK
theorem mixed : Try.prog.follows .mixedOrders = true := by kernel_rfl
def cd5 : Cd (Int) := flatCd 5 1 (by decide) (fun x => [.int .u8 x]) (fun _ => rfl) (fun _ => rfl)
theorem cd5_own (x : Int) : ∀ h, cd5.own h x [.int .u8 x] [] := fun _ => ⟨rfl, rfl⟩
theorem cd5_flat : Flat cd5 := fun _ _ _ _ o => o.2
theorem cd5_copies : Copies cd5 := fun _ _ _ _ o => ⟨o, rfl⟩
theorem cd5_zero : ∀ h, cd5.own h 0 [.int .u8 0] [] := fun _ => ⟨rfl, rfl⟩
theorem cd5_ti : TI Try.prog 5 (.int .u8 0) 1 1 := by unfold TI; kernel_rfl
theorem cd5_cell {h : Heap} {B : Bs} {a : Option Addr} {c : Nat} {l : List (Int)} {j : Nat} {x : Int} (r : Rd cd5 h B a c l) (hx : l[j]? = some x) : cellH h (adr a (j * 1)) = some (.int .u8 x) := r.cell1 hx (fun vs o => by rw [show vs = _ from o]; rfl)
def cd2 : Cd (Int) := flatCd 2 1 (by decide) (fun x => [.int .i64 x]) (fun _ => rfl) (fun _ => rfl)
theorem cd2_own (x : Int) : ∀ h, cd2.own h x [.int .i64 x] [] := fun _ => ⟨rfl, rfl⟩
theorem cd2_flat : Flat cd2 := fun _ _ _ _ o => o.2
theorem cd2_copies : Copies cd2 := fun _ _ _ _ o => ⟨o, rfl⟩
theorem cd2_zero : ∀ h, cd2.own h 0 [.int .i64 0] [] := fun _ => ⟨rfl, rfl⟩
theorem cd2_ti : TI Try.prog 2 (.int .i64 0) 1 8 := by unfold TI; kernel_rfl
theorem cd2_cell {h : Heap} {B : Bs} {a : Option Addr} {c : Nat} {l : List (Int)} {j : Nat} {x : Int} (r : Rd cd2 h B a c l) (hx : l[j]? = some x) : cellH h (adr a (j * 1)) = some (.int .i64 x) := r.cell1 hx (fun vs o => by rw [show vs = _ from o]; rfl)
abbrev cd23 : Cd (List Int) := rowCd cd2 23
theorem cd23_zero : ∀ h, cd23.own h [] [.slice none 0 0] [] := fun h => ⟨none, 0, rfl, Own.nil _ h⟩
theorem cd23_ti : TI Try.prog 23 (.slice none 0 0) 1 24 := by unfold TI; kernel_rfl
abbrev cd22 : Cd (List (List Int)) := rowCd cd23 22
theorem cd22_zero : ∀ h, cd22.own h [] [.slice none 0 0] [] := fun h => ⟨none, 0, rfl, Own.nil _ h⟩
theorem cd22_ti : TI Try.prog 22 (.slice none 0 0) 1 24 := by unfold TI; kernel_rfl
theorem eqS26 (d : Nat) (x0 : Int) (x1 : Int) (y0 : Int) (y1 : Int) (w : World) : (Op.equalIn (d + 2) 26 (.agg #[.int .i64 x0, .int .i64 x1]) (.agg #[.int .i64 y0, .int .i64 y1])).run Try.prog w = .ok ((x0 == y0) && (x1 == y1)) w := by
  have hS : Try.prog.underlying 26 = some (.struct (Try.prog.fieldsOf 26)) := by kernel_rfl
  have hp : Try.prog.stoodInHeld 26 = false := by kernel_rfl
  rw [show d + 2 = (d + 1) + 1 from rfl, run_equalIn_struct w (d + 1) 26 _ _ hS hp]
  simp only [Program.fieldsOf, Try.underlying26]
  have u2 := Try.underlying2
  have a2 := Try.isAgg2
  have z2 := Try.sizeOf2
  go_simp
  by_cases h0 : x0 = y0 <;> by_cases h1 : x1 = y1 <;> simp [h0, h1]

set_option maxRecDepth 100000 in
set_option maxHeartbeats 4000000 in
theorem w_laws_big (h : Heap) (code : List Int) {Scode : Bs} (acode : Option Addr) (ccode : Nat) (rcode : Rd cd5 h Scode acode ccode code) (n : Nat) (r : Bool) (hF : laws_big code n = some r) :
    Fn Try.prog 17 #[.slice acode code.length ccode] h fun v h' => v = .bool r ∧ h' = h := by
  unfold laws_big at hF
  refine Fn_enter (args := [.slice acode code.length ccode]) Try.func17 rfl (by kernel_rfl) (by kernel_rfl) (fun w0 _ => ?_)
  refine Run_seq ?_
  refine Run_reg 1 (by kernel_rfl) (L' := [(0, .slice acode code.length ccode)]) ?_ ?_
  · refine QRun_b [.bool false] 0 _ (by kernel_rfl) (fun w => by kernel_rfl) ?_
    exact QRun_done [0] (by kernel_rfl) (by kernel_rfl)
  refine Run_seq ?_
  refine Run_reg 4 (by kernel_rfl) (L' := [(2, .bool (decide (4096 < (code.length : Int))))]) ?_ ?_
  · refine QRun_b [.slice acode code.length ccode, .int .i64 (code.length : Int), .bool (decide (4096 < (code.length : Int))), .bool (decide (4096 < (code.length : Int)))] 0 _ (by kernel_rfl) (fun w => by kernel_rfl) ?_
    exact QRun_done [2] (by kernel_rfl) (by kernel_rfl)
  have hF := M.ret_some hF
  subst hF
  exact Run_ret1 rfl (ResV_tmp (v := .bool (decide (4096 < (code.length : Int)))) (by kernel_rfl)) ⟨rfl, rfl⟩

set_option maxRecDepth 100000 in
set_option maxHeartbeats 4000000 in
theorem w_spec_l01From (h : Heap) (code : List Int) (acode : Option Addr) (ccode : Nat) (rcode : Rd cd5 h (Lt h) acode ccode code) (n : Nat) (r : TL01source) (hF : spec_l01From code n = some r) :
    Fn Try.prog 64 #[.slice acode code.length ccode] h fun v h' => ∃ (b0 : Nat), ∃ (a0 : Option Addr) (c0 : Nat), v = .pointer (some ⟨b0, 0, none⟩) ∧ Ali a0 acode c0 ccode r.code code ∧ Hold h h' [box b0 122 [.slice a0 r.code.length c0, .int .i64 r.at_, .int .i64 r.seed]] := by
  unfold spec_l01From at hF
  refine Fn_enter (args := [.slice acode code.length ccode]) Try.func64 rfl (by kernel_rfl) (by kernel_rfl) (fun w0 _ => ?_)
  have H0 := Hold.init h
  refine Run_seq ?_
  refine Run_reg 1 (by kernel_rfl) (L' := [(0, .slice acode code.length ccode)]) ?_ ?_
  · refine QRun_b [.pointer none] 0 _ (by kernel_rfl) (fun w => by kernel_rfl) ?_
    exact QRun_done [0] (by kernel_rfl) (by kernel_rfl)
  refine Run_seq ?_
  refine Run_ops ?_
  refine Run_b [.slice acode code.length ccode, .agg #[.slice acode code.length ccode, .int .i64 0, .int .i64 61403]] 0 _ (by kernel_rfl) (fun w => by kernel_rfl) ?_
  refine Run_E (by kernel_rfl) ?_
  refine E_box (ty := 122) (cs := [.slice acode code.length ccode, .int .i64 0, .int .i64 61403]) H0 (fun w => by kernel_rfl) (fun b1 h1 H1 => ?_)
  refine Run_b [.pointer (some ⟨b1, 0, none⟩)] 3 _ (by kernel_rfl) (fun w => by kernel_rfl) ?_
  refine Run_nil (by kernel_rfl) ?_
  refine Run_keep [0, 3] (L' := [(0, .slice acode code.length ccode), (3, .pointer (some ⟨b1, 0, none⟩))]) (by kernel_rfl) ?_
  refine Run_seq ?_
  refine Run_seq ?_
  refine Run_reg 1 (by kernel_rfl) (L' := [(0, .slice acode code.length ccode), (3, .pointer (some ⟨b1, 0, none⟩)), (4, .int .i64 0)]) ?_ ?_
  · refine QRun_b [.int .i64 0] 0 _ (by kernel_rfl) (fun w => by kernel_rfl) ?_
    exact QRun_done [0, 3, 4] (by kernel_rfl) (by kernel_rfl)
  obtain ⟨x1, gx1, hF⟩ := M.bind_some hF
  refine Run_join (fun L' h' => L' = [(3, .pointer (some ⟨b1, 0, none⟩))] ∧ Hold h h' [box b1 122 [.slice acode code.length ccode, .int .i64 0, .int .i64 x1.1]]) ?_ ?_
  · rintro _ h3 ⟨rfl, H3⟩
    refine Run_seq ?_
    refine Run_reg 2 (by kernel_rfl) (L' := [(2, .pointer (some ⟨b1, 0, none⟩))]) ?_ ?_
    · refine QRun_b [.pointer (some ⟨b1, 0, none⟩), .pointer (some ⟨b1, 0, none⟩)] 0 _ (by kernel_rfl) (fun w => by kernel_rfl) ?_
      exact QRun_done [2] (by kernel_rfl) (by kernel_rfl)
    have hF := M.ret_some hF
    subst hF
    exact Run_ret1 rfl (ResV_tmp (v := .pointer (some ⟨b1, 0, none⟩)) (by kernel_rfl)) ⟨b1, acode, ccode, rfl, .inl ⟨rfl, rfl, rfl⟩, H3⟩
  · refine Run_block ?_
    refine Run_keep [0, 3, 4] (L' := [(0, .slice acode code.length ccode), (3, .pointer (some ⟨b1, 0, none⟩)), (4, .int .i64 0)]) (by kernel_rfl) ?_
    refine Run_loop (fun m L' h' => ∃ (s1 : Int × Int), M.loopN _ n m s1 = some x1 ∧ L' = [(0, .slice acode code.length ccode), (3, .pointer (some ⟨b1, 0, none⟩)), (4, .int .i64 s1.2)] ∧ Hold h h' [box b1 122 [.slice acode code.length ccode, .int .i64 0, .int .i64 s1.1]]) n ⟨(61403, 0), gx1, rfl, H1⟩ ?_
    rintro my1 _ h2 ⟨s1, gx1, rfl, H2⟩
    obtain ⟨my1, y1, rfl, hB1, hgoy1, houty1⟩ := M.loop_some gx1
    refine Run_seq ?_
    refine Run_seq ?_
    refine Run_reg 8 (by kernel_rfl) (L' := [(0, .slice acode code.length ccode), (3, .pointer (some ⟨b1, 0, none⟩)), (4, .int .i64 s1.2), (15, .bool ((decide (s1.2 < (code.length : Int))) && (decide (s1.2 < 64))))]) ?_ ?_
    · refine QRun_b [.int .i64 s1.2, .slice acode code.length ccode, .int .i64 (code.length : Int), .bool (decide (s1.2 < (code.length : Int)))] 0 _ (by kernel_rfl) (fun w => by kernel_rfl) ?_
      refine QRun_seq 8 [(0, .slice acode code.length ccode), (3, .pointer (some ⟨b1, 0, none⟩)), (4, .int .i64 s1.2), (15, .bool ((decide (s1.2 < (code.length : Int))) && (decide (s1.2 < 64))))] ?_ ?_
      · rcases Bool.eq_false_or_eq_true (decide (s1.2 < (code.length : Int))) with hb1 | hb1
        · refine QRun_bool (decide (s1.2 < (code.length : Int))) true (by kernel_rfl) (fun w => by kernel_rfl) hb1 ?_
          refine QRun_b [.int .i64 s1.2, .bool (decide (s1.2 < 64))] 5 _ (by kernel_rfl) (fun w => by kernel_rfl) ?_
          refine QRun_bool (decide (s1.2 < 64)) ((decide (s1.2 < (code.length : Int))) && (decide (s1.2 < 64))) (by kernel_rfl) (fun w => by kernel_rfl) (by rw [hb1]; rfl) ?_
          exact QRun_done [0, 3, 4, 15] (by kernel_rfl) (by kernel_rfl)
        · refine QRun_bool (decide (s1.2 < (code.length : Int))) false (by kernel_rfl) (fun w => by kernel_rfl) hb1 ?_
          refine QRun_n (by kernel_rfl) ?_
          refine QRun_n (by kernel_rfl) ?_
          refine QRun_bool false ((decide (s1.2 < (code.length : Int))) && (decide (s1.2 < 64))) (by kernel_rfl) (fun w => by kernel_rfl) (by rw [hb1]; rfl) ?_
          exact QRun_done [0, 3, 4, 15] (by kernel_rfl) (by kernel_rfl)
      exact QRun_done [0, 3, 4, 15] (by kernel_rfl) (by kernel_rfl)
    refine Run_cond (b := (decide (s1.2 < (code.length : Int))) && (decide (s1.2 < 64))) (by kernel_rfl) (fun hb2 => ?_) (fun hb2 => ?_)
    · have hB1 := (M.ite_some hB1).1 hb2
      refine Run_skip ?_
      refine Run_seq ?_
      refine Run_block ?_
      obtain ⟨x3, hx1, hB1⟩ := M.bind_some hB1
      obtain ⟨hx1l, hx1u, hx1⟩ := M.idx_some hx1
      refine Run_D (fun x => Hold h x [box b1 122 [.slice acode code.length ccode, .int .i64 0, .int .i64 s1.1]]) (fun x => Hold h x [box b1 122 [.slice acode code.length ccode, .int .i64 0, .int .i64 s1.1]]) mixed (by kernel_rfl) H2 Hold.stable (fun x Hy => (show Hold h x [box b1 122 [.slice acode code.length ccode, .int .i64 0, .int .i64 s1.1]] from Hy).pick [0] (by kernel_rfl)) ?_
      refine DR_b 12 [.pointer (some ⟨b1, 0, none⟩), .pointer (some ⟨b1, 0, none⟩), .pointer (some ⟨b1, 0, none⟩), .pointer (some ⟨b1, 2, none⟩)] 0 (by kernel_rfl) (by kernel_rfl) (by kernel_rfl) (fun w => by kernel_rfl) ?_
      refine DR_y 11 (i := 4) (.int .i64 s1.1) (by kernel_rfl) (by kernel_rfl) (by kernel_rfl) (fun hx Hx => (YE.of (Y_load1 (t := 2) (p := ⟨b1, 2, none⟩) (v := .int .i64 s1.1) (by kernel_rfl) (fun w => by kernel_rfl) (Hx.cell 0 rfl rfl)))) ?_
      refine DR_b 8 [.int .i64 (w64 (s1.1 * 67)), .slice acode code.length ccode, .int .i64 s1.2] 5 (by kernel_rfl) (by kernel_rfl) (by kernel_rfl) (fun w => by kernel_rfl) ?_
      refine DR_y 7 (i := 8) (.pointer (some (adr acode (s1.2.toNat * 1)))) (by kernel_rfl) (by kernel_rfl) (by kernel_rfl) (fun hx Hx => (YE.of (Y_idx (t := 35) (e := 5) (sz := 1) (a := acode) (n := code.length) (cap := ccode) (kk := .i64) (i := s1.2) (by kernel_rfl) Try.underlying35 (by kernel_rfl) ((rcode.at H2.ext).cell hx1).1 hx1l hx1u))) ?_
      refine DR_y 6 (i := 9) (.int .u8 x3) (by kernel_rfl) (by kernel_rfl) (by kernel_rfl) (fun hx Hx => (YE.of (Y_load1 (t := 5) (p := adr acode (s1.2.toNat * 1)) (v := .int .u8 x3) (by kernel_rfl) (fun w => by kernel_rfl) (cd5_cell (rcode.at Hx.ext) hx1)))) ?_
      refine DR_b 1 [.int .i64 (w64 (x3)), .int .i64 (w64 ((w64 (s1.1 * 67)) + (w64 (x3)))), .int .i64 ((w64 ((w64 (s1.1 * 67)) + (w64 (x3)))).tmod 2147483647), .pointer (some ⟨b1, 0, none⟩), .pointer (some ⟨b1, 2, none⟩)] 10 (by kernel_rfl) (by kernel_rfl) (by kernel_rfl) (fun w => by kernel_rfl) ?_
      refine DR_tail (i := 15) (by kernel_rfl) (by kernel_rfl) (by kernel_rfl) (fun h4 H4 => ?_)
      have H5 : Hold h h4 [box b1 122 [.slice acode code.length ccode, .int .i64 0, .int .i64 s1.1]] := H4
      refine Run_E (by kernel_rfl) ?_
      refine E_bput (t := 2) (off := 2) (us := [.slice acode code.length ccode, .int .i64 0, .int .i64 ((w64 ((w64 (s1.1 * 67)) + (w64 (x3)))).tmod 2147483647)]) (v := .int .i64 ((w64 ((w64 (s1.1 * 67)) + (w64 (x3)))).tmod 2147483647)) H5 (by kernel_rfl) (by kernel_rfl) rfl (by kernel_rfl) rfl (fun h5 H6 => ?_)
      refine Run_nil (by kernel_rfl) ?_
      refine Run_keep [0, 3, 4] (L' := [(0, .slice acode code.length ccode), (3, .pointer (some ⟨b1, 0, none⟩)), (4, .int .i64 s1.2)]) (by kernel_rfl) ?_
      refine Run_blk ?_
      refine Run_reg 3 (by kernel_rfl) (L' := [(0, .slice acode code.length ccode), (3, .pointer (some ⟨b1, 0, none⟩)), (4, .int .i64 (w64 (s1.2 + 1)))]) ?_ ?_
      · refine QRun_b [.int .i64 s1.2, .int .i64 (w64 (s1.2 + 1)), .int .i64 (w64 (s1.2 + 1))] 0 _ (by kernel_rfl) (fun w => by kernel_rfl) ?_
        exact QRun_done [0, 3, 4] (by kernel_rfl) (by kernel_rfl)
      have hB1 := M.ret_some hB1
      have gx1 := hgoy1 _ hB1.symm
      exact Run_again [0, 3, 4] (by kernel_rfl) my1 (Nat.lt_succ_self _) ⟨(((w64 ((w64 (s1.1 * 67)) + (w64 (x3)))).tmod 2147483647), (w64 (s1.2 + 1))), gx1, rfl, H6⟩
    · have hB1 := (M.ite_some hB1).2 hb2
      refine Run_exit (k' := _) rfl ?_
      have hB1 := M.ret_some hB1
      have gx1 := houty1 _ hB1.symm
      subst gx1
      exact Run_fall [3] (by kernel_rfl) ⟨rfl, H2⟩

set_option maxRecDepth 100000 in
set_option maxHeartbeats 4000000 in
theorem w_spec_l02Bottom (h : Heap) (m_ : Int) (n_ : Int) (n : Nat) (r : (List (List Int))) (hF : spec_l02Bottom m_ n_ n = some r) :
    Fn Try.prog 119 #[.int .i64 m_, .int .i64 n_] h fun v h' => ∃ (a0 : Option Addr) (c0 : Nat), v = .slice a0 r.length c0 ∧ Hold h h' [own cd23 a0 r.length c0 r] := by
  unfold spec_l02Bottom at hF
  refine Fn_enter (args := [.int .i64 m_, .int .i64 n_]) Try.func119 rfl (by kernel_rfl) (by kernel_rfl) (fun w0 _ => ?_)
  have H0 := Hold.init h
  refine Run_seq ?_
  refine Run_reg 1 (by kernel_rfl) (L' := [(0, .int .i64 m_), (1, .int .i64 n_)]) ?_ ?_
  · refine QRun_b [.slice none 0 0] 0 _ (by kernel_rfl) (fun w => by kernel_rfl) ?_
    exact QRun_done [0, 1] (by kernel_rfl) (by kernel_rfl)
  refine Run_seq ?_
  refine Run_ops ?_
  refine Run_E (by kernel_rfl) ?_
  refine E_lit (C := cd23) (n := 0) (l := []) (cs := []) H0 (fun w => by kernel_rfl) (Enc.nil _ _) rfl (by decide) (fun a1 h1 H1 => ?_)
  refine Run_b [.slice a1 0 0] 1 _ (by kernel_rfl) (fun w => by kernel_rfl) ?_
  refine Run_nil (by kernel_rfl) ?_
  refine Run_keep [0, 1, 5] (L' := [(0, .int .i64 m_), (1, .int .i64 n_), (5, .slice a1 0 0)]) (by kernel_rfl) ?_
  refine Run_seq ?_
  refine Run_seq ?_
  refine Run_reg 1 (by kernel_rfl) (L' := [(0, .int .i64 m_), (1, .int .i64 n_), (5, .slice a1 0 0), (6, .int .i64 0)]) ?_ ?_
  · refine QRun_b [.int .i64 0] 0 _ (by kernel_rfl) (fun w => by kernel_rfl) ?_
    exact QRun_done [0, 1, 5, 6] (by kernel_rfl) (by kernel_rfl)
  obtain ⟨x1, gx1, hF⟩ := M.bind_some hF
  obtain ⟨hloy1, hhiy1, gx1⟩ := M.for_start gx1
  refine Run_join (fun L' h' => ∃ (a3 : Option Addr) (c2 : Nat), L' = [(5, .slice a3 x1.length c2)] ∧ Hold h h' [own cd23 a3 x1.length c2 x1]) ?_ ?_
  · rintro _ h3 ⟨a3, c2, rfl, H3⟩
    refine Run_seq ?_
    refine Run_reg 2 (by kernel_rfl) (L' := [(4, .slice a3 x1.length c2)]) ?_ ?_
    · refine QRun_b [.slice a3 x1.length c2, .slice a3 x1.length c2] 0 _ (by kernel_rfl) (fun w => by kernel_rfl) ?_
      exact QRun_done [4] (by kernel_rfl) (by kernel_rfl)
    have hF := M.ret_some hF
    subst hF
    exact Run_ret1 rfl (ResV_tmp (v := .slice a3 x1.length c2) (by kernel_rfl)) ⟨a3, c2, rfl, H3⟩
  · refine Run_block ?_
    have hn2 := (H1.len 0 rfl)
    have H23 : Hold h h1 [own cd23 a1 (([] : List (List Int)).length) 0 ([] : List (List Int))] := by rw [hn2]; exact H1
    refine Run_keep [0, 1, 5, 6] (L' := [(0, .int .i64 m_), (1, .int .i64 n_), (5, .slice a1 (([] : List (List Int)).length) 0), (6, .int .i64 0)]) (by first | (rw [hn2]; kernel_rfl) | (simp only [hn2]; kernel_rfl) | kernel_rfl) ?_
    refine Run_loop (fun m L' h' => ∃ (i1 : Int) (s1 : (List (List Int))) (a2 : Option Addr) (c1 : Nat), 0 ≤ i1 ∧ M.forN m_ _ _ n m i1 s1 = some x1 ∧ L' = [(0, .int .i64 m_), (1, .int .i64 n_), (5, .slice a2 s1.length c1), (6, .int .i64 i1)] ∧ Hold h h' [own cd23 a2 s1.length c1 s1]) (m_ - 0 : Int).toNat ⟨0, ([] : List (List Int)), a1, 0, Int.le_refl _, gx1, rfl, H23⟩ ?_
    rintro my1 _ h2 ⟨i1, s1, a2, c1, hloy1', gx1, rfl, H2⟩
    refine Run_seq ?_
    refine Run_seq ?_
    refine Run_reg 3 (by kernel_rfl) (L' := [(0, .int .i64 m_), (1, .int .i64 n_), (5, .slice a2 s1.length c1), (6, .int .i64 i1), (12, .bool (decide (i1 < m_)))]) ?_ ?_
    · refine QRun_b [.int .i64 i1, .int .i64 m_, .bool (decide (i1 < m_))] 0 _ (by kernel_rfl) (fun w => by kernel_rfl) ?_
      exact QRun_done [0, 1, 5, 6, 12] (by kernel_rfl) (by kernel_rfl)
    refine Run_cond (b := decide (i1 < m_)) (by kernel_rfl) (fun hb1 => ?_) (fun hb1 => ?_)
    · obtain ⟨my1, y1, rfl, hB1, hgoy1, houty1⟩ := M.for_go gx1 hb1
      have hlty1 := of_decide_eq_true hb1
      refine Run_skip ?_
      refine Run_seq ?_
      refine Run_block ?_
      refine Run_seq ?_
      refine Run_ops ?_
      refine Run_E (by kernel_rfl) ?_
      refine E_lit (C := cd2) (n := 0) (l := ([] : List Int)) (cs := []) H2 (fun w => by kernel_rfl) (Enc.nil _ _) rfl (by decide) (fun a4 h4 H4 => ?_)
      refine Run_b [.slice a4 0 0] 1 _ (by kernel_rfl) (fun w => by kernel_rfl) ?_
      refine Run_nil (by kernel_rfl) ?_
      refine Run_keep [0, 1, 5, 6, 7] (L' := [(0, .int .i64 m_), (1, .int .i64 n_), (5, .slice a2 s1.length c1), (6, .int .i64 i1), (7, .slice a4 0 0)]) (by kernel_rfl) ?_
      refine Run_seq ?_
      refine Run_seq ?_
      refine Run_reg 1 (by kernel_rfl) (L' := [(0, .int .i64 m_), (1, .int .i64 n_), (5, .slice a2 s1.length c1), (6, .int .i64 i1), (7, .slice a4 0 0), (8, .int .i64 0)]) ?_ ?_
      · refine QRun_b [.int .i64 0] 0 _ (by kernel_rfl) (fun w => by kernel_rfl) ?_
        exact QRun_done [0, 1, 5, 6, 7, 8] (by kernel_rfl) (by kernel_rfl)
      obtain ⟨x2, gx2, hB1⟩ := M.bind_some hB1
      obtain ⟨hloy2, hhiy2, gx2⟩ := M.for_start gx2
      refine Run_join (fun L' h' => ∃ (a6 : Option Addr) (c4 : Nat), L' = [(0, .int .i64 m_), (1, .int .i64 n_), (5, .slice a2 s1.length c1), (6, .int .i64 i1), (7, .slice a6 x2.length c4)] ∧ Hold h h' [own cd23 a2 s1.length c1 s1, own cd2 a6 x2.length c4 x2]) ?_ ?_
      · rintro _ h6 ⟨a6, c4, rfl, H6⟩
        refine Run_ops ?_
        refine Run_b [.slice a2 s1.length c1, .slice a6 x2.length c4] 0 _ (by kernel_rfl) (fun w => by kernel_rfl) ?_
        have H16 : Hold h h6 [own cd2 a6 x2.length c4 x2, own cd23 a2 s1.length c1 s1] := H6.pick [1, 0] (by kernel_rfl)
        refine Run_E (by kernel_rfl) ?_
        refine E_lit1 (ey := 23) (n := x2.length) H16 (fun w => by kernel_rfl) rfl (fun a9 h9 H15 => ?_)
        obtain ⟨l2, hl2, hB1⟩ := M.bind_some hB1
        have hl2 := M.app_some hl2
        have H17 : Hold h h9 [own cd23 a2 s1.length c1 s1, own cd23 a9 1 1 [x2]] := H15.pick [1, 0] (by kernel_rfl)
        have H18 : Hold h h9 [own cd23 a9 1 1 [x2], own cd23 a2 s1.length c1 s1] := H17.pick [1, 0] (by kernel_rfl)
        have H19 : Hold h h9 [own cd23 a2 s1.length c1 s1, own cd23 a9 1 1 [x2]] := H18.pick [1, 0] (by kernel_rfl)
        refine Run_E (by kernel_rfl) ?_
        refine E_app (C := cd23) (t := 22) (ty := 22) (n := s1.length) (m := 1) H19 cd23_ti rfl Try.underlying22 (by decide) (by kernel_rfl) hl2 (fun a10 c6 h10 H20 => ?_)
        refine Run_b [.slice a10 l2.length c6] 4 _ (by kernel_rfl) (fun w => by kernel_rfl) ?_
        refine Run_nil (by kernel_rfl) ?_
        refine Run_keep [0, 1, 5, 6] (L' := [(0, .int .i64 m_), (1, .int .i64 n_), (5, .slice a10 l2.length c6), (6, .int .i64 i1)]) (by kernel_rfl) ?_
        refine Run_blk ?_
        refine Run_reg 3 (by kernel_rfl) (L' := [(0, .int .i64 m_), (1, .int .i64 n_), (5, .slice a10 l2.length c6), (6, .int .i64 (i1 + 1))]) ?_ ?_
        · refine QRun_b [.int .i64 i1] 0 _ (by kernel_rfl) (fun w => by kernel_rfl) ?_
          refine QRun_y (.int .i64 (i1 + 1)) (by kernel_rfl) (Y_eq (v := .int .i64 (w64 (i1 + 1))) (Y_pure (fun w => by kernel_rfl)) (by rw [w64_eq _ (by omega)])) ?_
          refine QRun_b [.int .i64 (i1 + 1)] 2 _ (by kernel_rfl) (fun w => by kernel_rfl) ?_
          exact QRun_done [0, 1, 5, 6] (by kernel_rfl) (by kernel_rfl)
        have hB1 := M.ret_some hB1
        have gx1 := hgoy1 _ hB1.symm
        exact Run_again [0, 1, 5, 6] (by kernel_rfl) my1 (Nat.lt_succ_self _) ⟨i1 + 1, l2, a10, c6, by omega, gx1, rfl, H20⟩
      · refine Run_block ?_
        have hn1 := (H4.len 0 rfl)
        have H21 : Hold h h4 [own cd2 a4 (([] : List Int).length) 0 ([] : List Int), own cd23 a2 s1.length c1 s1] := by rw [hn1]; exact H4
        have H22 : Hold h h4 [own cd23 a2 s1.length c1 s1, own cd2 a4 (([] : List Int).length) 0 ([] : List Int)] := H21.pick [1, 0] (by kernel_rfl)
        refine Run_keep [0, 1, 5, 6, 7, 8] (L' := [(0, .int .i64 m_), (1, .int .i64 n_), (5, .slice a2 s1.length c1), (6, .int .i64 i1), (7, .slice a4 (([] : List Int).length) 0), (8, .int .i64 0)]) (by first | (rw [hn1]; kernel_rfl) | (simp only [hn1]; kernel_rfl) | kernel_rfl) ?_
        refine Run_loop (fun m L' h' => ∃ (i2 : Int) (s2 : (List Int)) (a5 : Option Addr) (c3 : Nat), 0 ≤ i2 ∧ M.forN n_ _ _ n m i2 s2 = some x2 ∧ L' = [(0, .int .i64 m_), (1, .int .i64 n_), (5, .slice a2 s1.length c1), (6, .int .i64 i1), (7, .slice a5 s2.length c3), (8, .int .i64 i2)] ∧ Hold h h' [own cd23 a2 s1.length c1 s1, own cd2 a5 s2.length c3 s2]) (n_ - 0 : Int).toNat ⟨0, ([] : List Int), a4, 0, Int.le_refl _, gx2, rfl, H22⟩ ?_
        rintro my2 _ h5 ⟨i2, s2, a5, c3, hloy2', gx2, rfl, H5⟩
        refine Run_seq ?_
        refine Run_seq ?_
        refine Run_reg 3 (by kernel_rfl) (L' := [(0, .int .i64 m_), (1, .int .i64 n_), (5, .slice a2 s1.length c1), (6, .int .i64 i1), (7, .slice a5 s2.length c3), (8, .int .i64 i2), (18, .bool (decide (i2 < n_)))]) ?_ ?_
        · refine QRun_b [.int .i64 i2, .int .i64 n_, .bool (decide (i2 < n_))] 0 _ (by kernel_rfl) (fun w => by kernel_rfl) ?_
          exact QRun_done [0, 1, 5, 6, 7, 8, 18] (by kernel_rfl) (by kernel_rfl)
        refine Run_cond (b := decide (i2 < n_)) (by kernel_rfl) (fun hb2 => ?_) (fun hb2 => ?_)
        · obtain ⟨my2, y2, rfl, hB2, hgoy2, houty2⟩ := M.for_go gx2 hb2
          have hlty2 := of_decide_eq_true hb2
          refine Run_skip ?_
          refine Run_seq ?_
          refine Run_block ?_
          refine Run_ops ?_
          refine Run_b [.slice a5 s2.length c3] 0 _ (by kernel_rfl) (fun w => by kernel_rfl) ?_
          refine Run_E (by kernel_rfl) ?_
          refine E_lit (C := cd2) (n := 1) (l := ([(-1000000000000000)] : List Int)) (cs := [.int .i64 (-1000000000000000)]) H5 (fun w => by kernel_rfl) (Enc.consE (cd2_own (-1000000000000000) _) (Enc.nil _ _) rfl) rfl (by decide) (fun a7 h7 H7 => ?_)
          obtain ⟨l1, hl1, hB2⟩ := M.bind_some hB2
          have hl1 := M.app_some hl1
          have H8 : Hold h h7 [own cd2 a5 s2.length c3 s2, own cd2 a7 1 1 ([(-1000000000000000)] : List Int), own cd23 a2 s1.length c1 s1] := H7.pick [2, 0, 1] (by kernel_rfl)
          have H9 : Hold h h7 [own cd2 a7 1 1 ([(-1000000000000000)] : List Int), own cd2 a5 s2.length c3 s2, own cd23 a2 s1.length c1 s1] := H8.pick [1, 0, 2] (by kernel_rfl)
          have H10 : Hold h h7 [own cd2 a5 s2.length c3 s2, own cd2 a7 1 1 ([(-1000000000000000)] : List Int), own cd23 a2 s1.length c1 s1] := H9.pick [1, 0, 2] (by kernel_rfl)
          refine Run_E (by kernel_rfl) ?_
          refine E_app (C := cd2) (t := 23) (ty := 23) (n := s2.length) (m := 1) H10 cd2_ti rfl Try.underlying23 (by decide) (by kernel_rfl) hl1 (fun a8 c5 h8 H11 => ?_)
          refine Run_b [.slice a8 l1.length c5] 3 _ (by kernel_rfl) (fun w => by kernel_rfl) ?_
          refine Run_nil (by kernel_rfl) ?_
          refine Run_keep [0, 1, 5, 6, 7, 8] (L' := [(0, .int .i64 m_), (1, .int .i64 n_), (5, .slice a2 s1.length c1), (6, .int .i64 i1), (7, .slice a8 l1.length c5), (8, .int .i64 i2)]) (by kernel_rfl) ?_
          refine Run_blk ?_
          refine Run_reg 3 (by kernel_rfl) (L' := [(0, .int .i64 m_), (1, .int .i64 n_), (5, .slice a2 s1.length c1), (6, .int .i64 i1), (7, .slice a8 l1.length c5), (8, .int .i64 (i2 + 1))]) ?_ ?_
          · refine QRun_b [.int .i64 i2] 0 _ (by kernel_rfl) (fun w => by kernel_rfl) ?_
            refine QRun_y (.int .i64 (i2 + 1)) (by kernel_rfl) (Y_eq (v := .int .i64 (w64 (i2 + 1))) (Y_pure (fun w => by kernel_rfl)) (by rw [w64_eq _ (by omega)])) ?_
            refine QRun_b [.int .i64 (i2 + 1)] 2 _ (by kernel_rfl) (fun w => by kernel_rfl) ?_
            exact QRun_done [0, 1, 5, 6, 7, 8] (by kernel_rfl) (by kernel_rfl)
          have H12 : Hold h h8 [own cd23 a2 s1.length c1 s1, own cd2 a8 l1.length c5 l1] := H11.pick [1, 0] (by kernel_rfl)
          have hB2 := M.ret_some hB2
          have gx2 := hgoy2 _ hB2.symm
          exact Run_again [0, 1, 5, 6, 7, 8] (by kernel_rfl) my2 (Nat.lt_succ_self _) ⟨i2 + 1, l1, a8, c5, by omega, gx2, rfl, H12⟩
        · have gx2 := M.for_end gx2 hb2
          subst gx2
          refine Run_exit (k' := _) rfl ?_
          have H13 : Hold h h5 [own cd2 a5 s2.length c3 s2, own cd23 a2 s1.length c1 s1] := H5.pick [1, 0] (by kernel_rfl)
          have H14 : Hold h h5 [own cd23 a2 s1.length c1 s1, own cd2 a5 s2.length c3 s2] := H13.pick [1, 0] (by kernel_rfl)
          exact Run_fall [0, 1, 5, 6, 7] (by kernel_rfl) ⟨a5, c3, rfl, H14⟩
    · have gx1 := M.for_end gx1 hb1
      subst gx1
      refine Run_exit (k' := _) rfl ?_
      exact Run_fall [5] (by kernel_rfl) ⟨a2, c1, rfl, H2⟩

set_option maxRecDepth 100000 in
set_option maxHeartbeats 4000000 in
theorem w_spec_l01Next (h hE : Heap) (it : Item) (s_ : TL01source) (bs_ : Nat) (as_code : Option Addr) (cs_code : Nat) (rs_code : Rd cd5 h (Lt h) as_code cs_code s_.code) (n_ : Int) (HM : Hold h hE [box bs_ 122 [.slice as_code s_.code.length cs_code, .int .i64 s_.at_, .int .i64 s_.seed], it]) (n : Nat) (r : Int × TL01source) (hF : spec_l01Next s_ n_ n = some r) :
    Fn Try.prog 67 #[.pointer (some ⟨bs_, 0, none⟩), .int .i64 n_] hE fun v h' => v = .int .i64 r.1 ∧ Hold h h' [box bs_ 122 [.slice as_code s_.code.length cs_code, .int .i64 r.2.at_, .int .i64 r.2.seed], it] := by
  unfold spec_l01Next at hF
  refine Fn_enter (args := [.pointer (some ⟨bs_, 0, none⟩), .int .i64 n_]) Try.func67 rfl (by kernel_rfl) (by kernel_rfl) (fun w0 _ => ?_)
  refine Run_seq ?_
  refine Run_reg 1 (by kernel_rfl) (L' := [(0, .pointer (some ⟨bs_, 0, none⟩)), (1, .int .i64 n_)]) ?_ ?_
  · refine QRun_b [.int .i64 0] 0 _ (by kernel_rfl) (fun w => by kernel_rfl) ?_
    exact QRun_done [0, 1] (by kernel_rfl) (by kernel_rfl)
  refine Run_seq ?_
  refine Run_seq ?_
  refine Run_reg 2 (by kernel_rfl) (L' := [(0, .pointer (some ⟨bs_, 0, none⟩)), (1, .int .i64 n_), (7, .bool (decide (n_ ≤ 1)))]) ?_ ?_
  · refine QRun_b [.int .i64 n_, .bool (decide (n_ ≤ 1))] 0 _ (by kernel_rfl) (fun w => by kernel_rfl) ?_
    exact QRun_done [0, 1, 7] (by kernel_rfl) (by kernel_rfl)
  refine Run_cond (b := decide (n_ ≤ 1)) (by kernel_rfl) (fun hb1 => ?_) (fun hb1 => ?_)
  · have hF := (M.ite_some hF).1 hb1
    refine Run_seq ?_
    refine Run_reg 1 (by kernel_rfl) (L' := [(4, .int .i64 0)]) ?_ ?_
    · refine QRun_b [.int .i64 0] 0 _ (by kernel_rfl) (fun w => by kernel_rfl) ?_
      exact QRun_done [4] (by kernel_rfl) (by kernel_rfl)
    have hF := M.ret_some hF
    subst hF
    exact Run_ret1 rfl (ResV_tmp (v := .int .i64 0) (by kernel_rfl)) ⟨rfl, HM⟩
  · have hF := (M.ite_some hF).2 hb1
    refine Run_skip ?_
    refine Run_seq ?_
    refine Run_ops ?_
    refine Run_b [.pointer (some ⟨bs_, 0, none⟩), .pointer (some ⟨bs_, 0, none⟩), .pointer (some ⟨bs_, 0, none⟩), .pointer (some ⟨bs_, 2, none⟩)] 0 _ (by kernel_rfl) (fun w => by kernel_rfl) ?_
    refine Run_y (.int .i64 s_.seed) (by kernel_rfl) (Y_load1 (t := 2) (p := ⟨bs_, 2, none⟩) (v := .int .i64 s_.seed) (by kernel_rfl) (fun w => by kernel_rfl) (HM.cell 0 rfl rfl)) ?_
    refine Run_b [.int .i64 (w64 (s_.seed * 48271)), .int .i64 (w64 ((w64 (s_.seed * 48271)) + 59)), .int .i64 ((w64 ((w64 (s_.seed * 48271)) + 59)).tmod 2147483647), .pointer (some ⟨bs_, 0, none⟩), .pointer (some ⟨bs_, 2, none⟩)] 5 _ (by kernel_rfl) (fun w => by kernel_rfl) ?_
    refine Run_E (by kernel_rfl) ?_
    refine E_bput (t := 2) (off := 2) (us := [.slice as_code s_.code.length cs_code, .int .i64 s_.at_, .int .i64 ((w64 ((w64 (s_.seed * 48271)) + 59)).tmod 2147483647)]) (v := .int .i64 ((w64 ((w64 (s_.seed * 48271)) + 59)).tmod 2147483647)) HM (by kernel_rfl) (by kernel_rfl) rfl (by kernel_rfl) rfl (fun h1 H1 => ?_)
    refine Run_nil (by kernel_rfl) ?_
    refine Run_keep [0, 1] (L' := [(0, .pointer (some ⟨bs_, 0, none⟩)), (1, .int .i64 n_)]) (by kernel_rfl) ?_
    refine Run_seq ?_
    refine Run_reg 6 (by kernel_rfl) (L' := [(0, .pointer (some ⟨bs_, 0, none⟩)), (1, .int .i64 n_), (5, .int .i64 (w64 (((w64 ((w64 (s_.seed * 48271)) + 59)).tmod 2147483647).tdiv 31)))]) ?_ ?_
    · refine QRun_b [.pointer (some ⟨bs_, 0, none⟩), .pointer (some ⟨bs_, 0, none⟩), .pointer (some ⟨bs_, 2, none⟩)] 0 _ (by kernel_rfl) (fun w => by kernel_rfl) ?_
      refine QRun_y (.int .i64 ((w64 ((w64 (s_.seed * 48271)) + 59)).tmod 2147483647)) (by kernel_rfl) (Y_load1 (t := 2) (p := ⟨bs_, 2, none⟩) (v := .int .i64 ((w64 ((w64 (s_.seed * 48271)) + 59)).tmod 2147483647)) (by kernel_rfl) (fun w => by kernel_rfl) (H1.cell 0 rfl rfl)) ?_
      refine QRun_b [.int .i64 (w64 (((w64 ((w64 (s_.seed * 48271)) + 59)).tmod 2147483647).tdiv 31)), .int .i64 (w64 (((w64 ((w64 (s_.seed * 48271)) + 59)).tmod 2147483647).tdiv 31))] 4 _ (by kernel_rfl) (fun w => by kernel_rfl) ?_
      exact QRun_done [0, 1, 5] (by kernel_rfl) (by kernel_rfl)
    refine Run_seq ?_
    refine Run_seq ?_
    refine Run_draw 10 mixed (by kernel_rfl) (by kernel_rfl) (L' := [(0, .pointer (some ⟨bs_, 0, none⟩)), (1, .int .i64 n_), (5, .int .i64 (w64 (((w64 ((w64 (s_.seed * 48271)) + 59)).tmod 2147483647).tdiv 31))), (32, .bool (decide (s_.at_ < (s_.code.length : Int))))]) ?_ ?_
    · refine QRun_b [.pointer (some ⟨bs_, 0, none⟩), .pointer (some ⟨bs_, 0, none⟩), .pointer (some ⟨bs_, 1, none⟩)] 0 _ (by kernel_rfl) (fun w => by kernel_rfl) ?_
      refine QRun_y (.int .i64 s_.at_) (by kernel_rfl) (Y_load1 (t := 3) (p := ⟨bs_, 1, none⟩) (v := .int .i64 s_.at_) (by kernel_rfl) (fun w => by kernel_rfl) (H1.cell 0 rfl rfl)) ?_
      refine QRun_b [.pointer (some ⟨bs_, 0, none⟩), .pointer (some ⟨bs_, 0, none⟩), .pointer (some ⟨bs_, 0, none⟩)] 4 _ (by kernel_rfl) (fun w => by kernel_rfl) ?_
      refine QRun_y (.slice as_code s_.code.length cs_code) (by kernel_rfl) (Y_load1 (t := 35) (p := ⟨bs_, 0, none⟩) (v := .slice as_code s_.code.length cs_code) (by kernel_rfl) (fun w => by kernel_rfl) (H1.cell 0 rfl rfl)) ?_
      refine QRun_b [.int .i64 (s_.code.length : Int), .bool (decide (s_.at_ < (s_.code.length : Int)))] 8 _ (by kernel_rfl) (fun w => by kernel_rfl) ?_
      exact QRun_done [0, 1, 5, 32] (by kernel_rfl) (by kernel_rfl)
    obtain ⟨s1, gs1, hF⟩ := M.bind_some hF
    refine Run_join (fun L' h' => L' = [(1, .int .i64 n_), (5, .int .i64 s1.1)] ∧ Hold h h' [box bs_ 122 [.slice as_code s_.code.length cs_code, .int .i64 s1.2, .int .i64 ((w64 ((w64 (s_.seed * 48271)) + 59)).tmod 2147483647)], it]) ?_ ?_
    · rintro _ h3 ⟨rfl, H3⟩
      refine Run_seq ?_
      obtain ⟨u1, hz1, hF⟩ := M.bind_some hF
      have hz1 := M.guard_some hz1
      refine Run_reg 4 (by kernel_rfl) (L' := [(4, .int .i64 (s1.1.tmod n_))]) ?_ ?_
      · refine QRun_b [.int .i64 s1.1, .int .i64 n_] 0 _ (by kernel_rfl) (fun w => by kernel_rfl) ?_
        refine QRun_y (.int .i64 (s1.1.tmod n_)) (by kernel_rfl) (Y_rem (op := .rem) (k := .i64) (x := s1.1) (y := n_) (by kernel_rfl) hz1) ?_
        refine QRun_b [.int .i64 (s1.1.tmod n_)] 3 _ (by kernel_rfl) (fun w => by kernel_rfl) ?_
        exact QRun_done [4] (by kernel_rfl) (by kernel_rfl)
      have hF := M.ret_some hF
      subst hF
      exact Run_ret1 rfl (ResV_tmp (v := .int .i64 (s1.1.tmod n_)) (by kernel_rfl)) ⟨rfl, H3⟩
    · refine Run_cond (b := decide (s_.at_ < (s_.code.length : Int))) (by kernel_rfl) (fun hb2 => ?_) (fun hb2 => ?_)
      · have gs1 := (M.ite_some gs1).1 hb2
        refine Run_seq ?_
        obtain ⟨x1, hx1, gs1⟩ := M.bind_some gs1
        obtain ⟨hx1l, hx1u, hx1⟩ := M.idx_some hx1
        refine Run_draw 14 mixed (by kernel_rfl) (by kernel_rfl) (L' := [(0, .pointer (some ⟨bs_, 0, none⟩)), (1, .int .i64 n_), (5, .int .i64 (w64 ((w64 (((w64 ((w64 (s_.seed * 48271)) + 59)).tmod 2147483647).tdiv 31)) + (w64 (x1)))))]) ?_ ?_
        · refine QRun_b [.int .i64 (w64 (((w64 ((w64 (s_.seed * 48271)) + 59)).tmod 2147483647).tdiv 31)), .pointer (some ⟨bs_, 0, none⟩), .pointer (some ⟨bs_, 0, none⟩), .pointer (some ⟨bs_, 0, none⟩)] 0 _ (by kernel_rfl) (fun w => by kernel_rfl) ?_
          refine QRun_y (.slice as_code s_.code.length cs_code) (by kernel_rfl) (Y_load1 (t := 35) (p := ⟨bs_, 0, none⟩) (v := .slice as_code s_.code.length cs_code) (by kernel_rfl) (fun w => by kernel_rfl) (H1.cell 0 rfl rfl)) ?_
          refine QRun_b [.pointer (some ⟨bs_, 0, none⟩), .pointer (some ⟨bs_, 0, none⟩), .pointer (some ⟨bs_, 1, none⟩)] 5 _ (by kernel_rfl) (fun w => by kernel_rfl) ?_
          refine QRun_y (.int .i64 s_.at_) (by kernel_rfl) (Y_load1 (t := 3) (p := ⟨bs_, 1, none⟩) (v := .int .i64 s_.at_) (by kernel_rfl) (fun w => by kernel_rfl) (H1.cell 0 rfl rfl)) ?_
          refine QRun_y (.pointer (some (adr as_code (s_.at_.toNat * 1)))) (by kernel_rfl) (Y_idx (t := 35) (e := 5) (sz := 1) (a := as_code) (n := s_.code.length) (cap := cs_code) (kk := .i64) (i := s_.at_) (by kernel_rfl) Try.underlying35 (by kernel_rfl) ((rs_code.at H1.ext).cell hx1).1 hx1l hx1u) ?_
          refine QRun_y (.int .u8 x1) (by kernel_rfl) (Y_load1 (t := 5) (p := adr as_code (s_.at_.toNat * 1)) (v := .int .u8 x1) (by kernel_rfl) (fun w => by kernel_rfl) (cd5_cell (rs_code.at H1.ext) hx1)) ?_
          refine QRun_b [.int .i64 (w64 (x1)), .int .i64 (w64 ((w64 (((w64 ((w64 (s_.seed * 48271)) + 59)).tmod 2147483647).tdiv 31)) + (w64 (x1)))), .int .i64 (w64 ((w64 (((w64 ((w64 (s_.seed * 48271)) + 59)).tmod 2147483647).tdiv 31)) + (w64 (x1))))] 11 _ (by kernel_rfl) (fun w => by kernel_rfl) ?_
          exact QRun_done [0, 1, 5] (by kernel_rfl) (by kernel_rfl)
        refine Run_seq ?_
        refine Run_ops ?_
        refine Run_b [.pointer (some ⟨bs_, 0, none⟩), .pointer (some ⟨bs_, 0, none⟩), .pointer (some ⟨bs_, 1, none⟩)] 0 _ (by kernel_rfl) (fun w => by kernel_rfl) ?_
        refine Run_y (.int .i64 s_.at_) (by kernel_rfl) (Y_load1 (t := 3) (p := ⟨bs_, 1, none⟩) (v := .int .i64 s_.at_) (by kernel_rfl) (fun w => by kernel_rfl) (H1.cell 0 rfl rfl)) ?_
        refine Run_b [.int .i64 (w64 (s_.at_ + 1)), .pointer (some ⟨bs_, 0, none⟩), .pointer (some ⟨bs_, 1, none⟩)] 4 _ (by kernel_rfl) (fun w => by kernel_rfl) ?_
        refine Run_E (by kernel_rfl) ?_
        refine E_bput (t := 3) (off := 1) (us := [.slice as_code s_.code.length cs_code, .int .i64 (w64 (s_.at_ + 1)), .int .i64 ((w64 ((w64 (s_.seed * 48271)) + 59)).tmod 2147483647)]) (v := .int .i64 (w64 (s_.at_ + 1))) H1 (by kernel_rfl) (by kernel_rfl) rfl (by kernel_rfl) rfl (fun h2 H2 => ?_)
        refine Run_nil (by kernel_rfl) ?_
        refine Run_keep [0, 1, 5] (L' := [(0, .pointer (some ⟨bs_, 0, none⟩)), (1, .int .i64 n_), (5, .int .i64 (w64 ((w64 (((w64 ((w64 (s_.seed * 48271)) + 59)).tmod 2147483647).tdiv 31)) + (w64 (x1)))))]) (by kernel_rfl) ?_
        refine Run_seq ?_
        refine Run_reg 10 (by kernel_rfl) (L' := [(0, .pointer (some ⟨bs_, 0, none⟩)), (1, .int .i64 n_), (5, .int .i64 (w64 ((w64 (((w64 ((w64 (s_.seed * 48271)) + 59)).tmod 2147483647).tdiv 31)) + (w64 (x1))))), (62, .bool ((decide (n_ ≤ 256)) && (((w64 (s_.at_ + 1)).tmod 2) == 0)))]) ?_ ?_
        · refine QRun_b [.int .i64 n_, .bool (decide (n_ ≤ 256))] 0 _ (by kernel_rfl) (fun w => by kernel_rfl) ?_
          refine QRun_seq 10 [(0, .pointer (some ⟨bs_, 0, none⟩)), (1, .int .i64 n_), (5, .int .i64 (w64 ((w64 (((w64 ((w64 (s_.seed * 48271)) + 59)).tmod 2147483647).tdiv 31)) + (w64 (x1))))), (62, .bool ((decide (n_ ≤ 256)) && (((w64 (s_.at_ + 1)).tmod 2) == 0)))] ?_ ?_
          · rcases Bool.eq_false_or_eq_true (decide (n_ ≤ 256)) with hb3 | hb3
            · refine QRun_bool (decide (n_ ≤ 256)) true (by kernel_rfl) (fun w => by kernel_rfl) hb3 ?_
              refine QRun_b [.pointer (some ⟨bs_, 0, none⟩), .pointer (some ⟨bs_, 0, none⟩), .pointer (some ⟨bs_, 1, none⟩)] 3 _ (by kernel_rfl) (fun w => by kernel_rfl) ?_
              refine QRun_y (.int .i64 (w64 (s_.at_ + 1))) (by kernel_rfl) (Y_load1 (t := 3) (p := ⟨bs_, 1, none⟩) (v := .int .i64 (w64 (s_.at_ + 1))) (by kernel_rfl) (fun w => by kernel_rfl) (H2.cell 0 rfl rfl)) ?_
              refine QRun_b [.int .i64 ((w64 (s_.at_ + 1)).tmod 2), .bool (((w64 (s_.at_ + 1)).tmod 2) == 0)] 7 _ (by kernel_rfl) (fun w => by kernel_rfl) ?_
              refine QRun_bool (((w64 (s_.at_ + 1)).tmod 2) == 0) ((decide (n_ ≤ 256)) && (((w64 (s_.at_ + 1)).tmod 2) == 0)) (by kernel_rfl) (fun w => by kernel_rfl) (by rw [hb3]; rfl) ?_
              exact QRun_done [0, 1, 5, 62] (by kernel_rfl) (by kernel_rfl)
            · refine QRun_bool (decide (n_ ≤ 256)) false (by kernel_rfl) (fun w => by kernel_rfl) hb3 ?_
              refine QRun_n (by kernel_rfl) ?_
              refine QRun_n (by kernel_rfl) ?_
              refine QRun_n (by kernel_rfl) ?_
              refine QRun_n (by kernel_rfl) ?_
              refine QRun_n (by kernel_rfl) ?_
              refine QRun_n (by kernel_rfl) ?_
              refine QRun_bool false ((decide (n_ ≤ 256)) && (((w64 (s_.at_ + 1)).tmod 2) == 0)) (by kernel_rfl) (fun w => by kernel_rfl) (by rw [hb3]; rfl) ?_
              exact QRun_done [0, 1, 5, 62] (by kernel_rfl) (by kernel_rfl)
          exact QRun_done [0, 1, 5, 62] (by kernel_rfl) (by kernel_rfl)
        refine Run_cond (b := (decide (n_ ≤ 256)) && (((w64 (s_.at_ + 1)).tmod 2) == 0)) (by kernel_rfl) (fun hb4 => ?_) (fun hb4 => ?_)
        · have gs1 := (M.ite_some gs1).1 hb4
          obtain ⟨x3, hx2, gs1⟩ := M.bind_some gs1
          obtain ⟨hx2l, hx2u, hx2⟩ := M.idx_some hx2
          refine Run_draw 13 mixed (by kernel_rfl) (by kernel_rfl) (L' := [(1, .int .i64 n_), (5, .int .i64 (w64 (x3)))]) ?_ ?_
          · refine QRun_b [.pointer (some ⟨bs_, 0, none⟩), .pointer (some ⟨bs_, 0, none⟩), .pointer (some ⟨bs_, 0, none⟩)] 0 _ (by kernel_rfl) (fun w => by kernel_rfl) ?_
            refine QRun_y (.slice as_code s_.code.length cs_code) (by kernel_rfl) (Y_load1 (t := 35) (p := ⟨bs_, 0, none⟩) (v := .slice as_code s_.code.length cs_code) (by kernel_rfl) (fun w => by kernel_rfl) (H2.cell 0 rfl rfl)) ?_
            refine QRun_b [.pointer (some ⟨bs_, 0, none⟩), .pointer (some ⟨bs_, 0, none⟩), .pointer (some ⟨bs_, 1, none⟩)] 4 _ (by kernel_rfl) (fun w => by kernel_rfl) ?_
            refine QRun_y (.int .i64 (w64 (s_.at_ + 1))) (by kernel_rfl) (Y_load1 (t := 3) (p := ⟨bs_, 1, none⟩) (v := .int .i64 (w64 (s_.at_ + 1))) (by kernel_rfl) (fun w => by kernel_rfl) (H2.cell 0 rfl rfl)) ?_
            refine QRun_b [.int .i64 (w64 ((w64 (s_.at_ + 1)) - 1))] 8 _ (by kernel_rfl) (fun w => by kernel_rfl) ?_
            refine QRun_y (.pointer (some (adr as_code ((w64 ((w64 (s_.at_ + 1)) - 1)).toNat * 1)))) (by kernel_rfl) (Y_idx (t := 35) (e := 5) (sz := 1) (a := as_code) (n := s_.code.length) (cap := cs_code) (kk := .i64) (i := w64 ((w64 (s_.at_ + 1)) - 1)) (by kernel_rfl) Try.underlying35 (by kernel_rfl) ((rs_code.at H2.ext).cell hx2).1 hx2l hx2u) ?_
            refine QRun_y (.int .u8 x3) (by kernel_rfl) (Y_load1 (t := 5) (p := adr as_code ((w64 ((w64 (s_.at_ + 1)) - 1)).toNat * 1)) (v := .int .u8 x3) (by kernel_rfl) (fun w => by kernel_rfl) (cd5_cell (rs_code.at H2.ext) hx2)) ?_
            refine QRun_b [.int .i64 (w64 (x3)), .int .i64 (w64 (x3))] 11 _ (by kernel_rfl) (fun w => by kernel_rfl) ?_
            exact QRun_done [1, 5] (by kernel_rfl) (by kernel_rfl)
          have gs1 := M.ret_some gs1
          subst gs1
          exact Run_fall [1, 5] (by kernel_rfl) ⟨rfl, H2⟩
        · have gs1 := (M.ite_some gs1).2 hb4
          refine Run_skip ?_
          have gs1 := M.ret_some gs1
          subst gs1
          exact Run_fall [1, 5] (by kernel_rfl) ⟨rfl, H2⟩
      · have gs1 := (M.ite_some gs1).2 hb2
        refine Run_skip ?_
        have gs1 := M.ret_some gs1
        subst gs1
        exact Run_fall [1, 5] (by kernel_rfl) ⟨rfl, H1⟩

set_option maxRecDepth 100000 in
set_option maxHeartbeats 4000000 in
theorem w_spec_l01Pick (h hE : Heap) (it : Item) (s_ : TL01source) (bs_ : Nat) (as_code : Option Addr) (cs_code : Nat) (rs_code : Rd cd5 h (Lt h) as_code cs_code s_.code) (list : List Int) (alist : Option Addr) (clist : Nat) (HM : Hold h hE [box bs_ 122 [.slice as_code s_.code.length cs_code, .int .i64 s_.at_, .int .i64 s_.seed], own cd2 alist list.length clist list, it]) (n : Nat) (r : Int × TL01source × (List Int)) (hF : spec_l01Pick s_ list n = some r) :
    Fn Try.prog 66 #[.pointer (some ⟨bs_, 0, none⟩), .slice alist list.length clist] hE fun v h' => v = .int .i64 r.1 ∧ Hold h h' [box bs_ 122 [.slice as_code s_.code.length cs_code, .int .i64 r.2.1.at_, .int .i64 r.2.1.seed], own cd2 alist list.length clist r.2.2, it] := by
  unfold spec_l01Pick at hF
  refine Fn_enter (args := [.pointer (some ⟨bs_, 0, none⟩), .slice alist list.length clist]) Try.func66 rfl (by kernel_rfl) (by kernel_rfl) (fun w0 _ => ?_)
  refine Run_seq ?_
  refine Run_reg 1 (by kernel_rfl) (L' := [(0, .pointer (some ⟨bs_, 0, none⟩)), (1, .slice alist list.length clist)]) ?_ ?_
  · refine QRun_b [.int .i64 0] 0 _ (by kernel_rfl) (fun w => by kernel_rfl) ?_
    exact QRun_done [0, 1] (by kernel_rfl) (by kernel_rfl)
  refine Run_seq ?_
  refine Run_ops ?_
  refine Run_b [.slice alist list.length clist, .pointer (some ⟨bs_, 0, none⟩), .slice alist list.length clist, .int .i64 (list.length : Int)] 0 _ (by kernel_rfl) (fun w => by kernel_rfl) ?_
  obtain ⟨x1, hx1, hF⟩ := M.bind_some hF
  have H1 : Hold h hE [box bs_ 122 [.slice as_code s_.code.length cs_code, .int .i64 s_.at_, .int .i64 s_.seed], bun [own cd2 alist list.length clist list, it]] := Hold.bundle (S := [box bs_ 122 [.slice as_code s_.code.length cs_code, .int .i64 s_.at_, .int .i64 s_.seed]]) (R := [own cd2 alist list.length clist list, it]) HM
  refine Run_E (by kernel_rfl) ?_
  refine E_call (f := 67) (args := #[.pointer (some ⟨bs_, 0, none⟩), .int .i64 (list.length : Int)]) (w_spec_l01Next h hE _ s_ bs_ as_code cs_code rs_code (list.length : Int) H1 _ _ hx1) (by kernel_rfl) (fun v1 h1 hp1 => ?_)
  obtain ⟨rfl, H2⟩ := hp1
  have H3 : Hold h h1 [box bs_ 122 [.slice as_code s_.code.length cs_code, .int .i64 x1.2.at_, .int .i64 x1.2.seed], own cd2 alist list.length clist list, it] := Hold.unbundle (S := [box bs_ 122 [.slice as_code s_.code.length cs_code, .int .i64 x1.2.at_, .int .i64 x1.2.seed]]) (R := [own cd2 alist list.length clist list, it]) H2 (Hold.tailBase (S := [box bs_ 122 [.slice as_code s_.code.length cs_code, .int .i64 s_.at_, .int .i64 s_.seed]]) (R := [own cd2 alist list.length clist list, it]) HM)
  obtain ⟨x2, hx2, hF⟩ := M.bind_some hF
  obtain ⟨hx2l, hx2u, hx2⟩ := M.idx_some hx2
  refine Run_y (.pointer (some (adr alist (x1.1.toNat * 1)))) (by kernel_rfl) (Y_idx (t := 23) (e := 2) (sz := 1) (a := alist) (n := list.length) (cap := clist) (kk := .i64) (i := x1.1) (by kernel_rfl) Try.underlying23 (by kernel_rfl) ((H3.rd 1 rfl).cell hx2).1 hx2l hx2u) ?_
  refine Run_y (.int .i64 x2) (by kernel_rfl) (Y_load1 (t := 2) (p := adr alist (x1.1.toNat * 1)) (v := .int .i64 x2) (by kernel_rfl) (fun w => by kernel_rfl) (cd2_cell (H3.rd 1 rfl) hx2)) ?_
  refine Run_b [.int .i64 x2] 7 _ (by kernel_rfl) (fun w => by kernel_rfl) ?_
  refine Run_nil (by kernel_rfl) ?_
  refine Run_keep [4] (L' := [(4, .int .i64 x2)]) (by kernel_rfl) ?_
  have hF := M.ret_some hF
  subst hF
  have H4 : Hold h h1 [own cd2 alist list.length clist list, box bs_ 122 [.slice as_code s_.code.length cs_code, .int .i64 x1.2.at_, .int .i64 x1.2.seed], it] := H3.pick [1, 0, 2] (by kernel_rfl)
  have H5 : Hold h h1 [box bs_ 122 [.slice as_code s_.code.length cs_code, .int .i64 x1.2.at_, .int .i64 x1.2.seed], own cd2 alist list.length clist list, it] := H4.pick [1, 0, 2] (by kernel_rfl)
  exact Run_ret1 rfl (ResV_tmp (v := .int .i64 x2) (by kernel_rfl)) ⟨rfl, H5⟩

set_option maxRecDepth 100000 in
set_option maxHeartbeats 4000000 in
theorem w_spec_l01DrawValue (h hE : Heap) (it : Item) (s_ : TL01source) (bs_ : Nat) (as_code : Option Addr) (cs_code : Nat) (rs_code : Rd cd5 h (Lt h) as_code cs_code s_.code) (HM : Hold h hE [box bs_ 122 [.slice as_code s_.code.length cs_code, .int .i64 s_.at_, .int .i64 s_.seed], it]) (n : Nat) (r : Int × TL01source) (hF : spec_l01DrawValue s_ n = some r) :
    Fn Try.prog 145 #[.pointer (some ⟨bs_, 0, none⟩)] hE fun v h' => v = .int .i64 r.1 ∧ Hold h h' [box bs_ 122 [.slice as_code s_.code.length cs_code, .int .i64 r.2.at_, .int .i64 r.2.seed], it] := by
  unfold spec_l01DrawValue at hF
  refine Fn_enter (args := [.pointer (some ⟨bs_, 0, none⟩)]) Try.func145 rfl (by kernel_rfl) (by kernel_rfl) (fun w0 _ => ?_)
  refine Run_seq ?_
  refine Run_reg 1 (by kernel_rfl) (L' := [(0, .pointer (some ⟨bs_, 0, none⟩))]) ?_ ?_
  · refine QRun_b [.int .i64 0] 0 _ (by kernel_rfl) (fun w => by kernel_rfl) ?_
    exact QRun_done [0] (by kernel_rfl) (by kernel_rfl)
  refine Run_seq ?_
  refine Run_seq ?_
  refine Run_ops ?_
  refine Run_b [.pointer (some ⟨bs_, 0, none⟩)] 0 _ (by kernel_rfl) (fun w => by kernel_rfl) ?_
  obtain ⟨x1, hx1, hF⟩ := M.bind_some hF
  have H1 : Hold h hE [box bs_ 122 [.slice as_code s_.code.length cs_code, .int .i64 s_.at_, .int .i64 s_.seed], bun [it]] := Hold.bundle (S := [box bs_ 122 [.slice as_code s_.code.length cs_code, .int .i64 s_.at_, .int .i64 s_.seed]]) (R := [it]) HM
  refine Run_E (by kernel_rfl) ?_
  refine E_call (f := 67) (args := #[.pointer (some ⟨bs_, 0, none⟩), .int .i64 24]) (w_spec_l01Next h hE _ s_ bs_ as_code cs_code rs_code 24 H1 _ _ hx1) (by kernel_rfl) (fun v1 h1 hp1 => ?_)
  obtain ⟨rfl, H2⟩ := hp1
  have H3 : Hold h h1 [box bs_ 122 [.slice as_code s_.code.length cs_code, .int .i64 x1.2.at_, .int .i64 x1.2.seed], it] := Hold.unbundle (S := [box bs_ 122 [.slice as_code s_.code.length cs_code, .int .i64 x1.2.at_, .int .i64 x1.2.seed]]) (R := [it]) H2 (Hold.tailBase (S := [box bs_ 122 [.slice as_code s_.code.length cs_code, .int .i64 s_.at_, .int .i64 s_.seed]]) (R := [it]) HM)
  refine Run_nil (by kernel_rfl) ?_
  refine Run_keep [0, 4] (L' := [(0, .pointer (some ⟨bs_, 0, none⟩)), (4, .int .i64 x1.1)]) (by kernel_rfl) ?_
  refine Run_block ?_
  refine Run_seq ?_
  refine Run_seq ?_
  refine Run_reg 2 (by kernel_rfl) (L' := [(0, .pointer (some ⟨bs_, 0, none⟩)), (4, .int .i64 x1.1), (5, .bool (x1.1 == 0))]) ?_ ?_
  · refine QRun_b [.bool (x1.1 == 0), .bool (x1.1 == 0)] 0 _ (by kernel_rfl) (fun w => by kernel_rfl) ?_
    exact QRun_done [0, 4, 5] (by kernel_rfl) (by kernel_rfl)
  obtain ⟨s1, gs1, hF⟩ := M.bind_some hF
  refine Run_join (fun L' h' => L' = [(0, .pointer (some ⟨bs_, 0, none⟩)), (4, .int .i64 x1.1), (5, .bool s1)] ∧ Hold h h' [box bs_ 122 [.slice as_code s_.code.length cs_code, .int .i64 x1.2.at_, .int .i64 x1.2.seed], it]) ?_ ?_
  · rintro _ h2 ⟨rfl, H4⟩
    refine Run_cond (b := s1) (by kernel_rfl) (fun hb3 => ?_) (fun hb3 => ?_)
    · have hF := (M.ite_some hF).1 hb3
      refine Run_seq ?_
      refine Run_reg 1 (by kernel_rfl) (L' := [(2, .int .i64 (-1000000000000000))]) ?_ ?_
      · refine QRun_b [.int .i64 (-1000000000000000)] 0 _ (by kernel_rfl) (fun w => by kernel_rfl) ?_
        exact QRun_done [2] (by kernel_rfl) (by kernel_rfl)
      have hF := M.ret_some hF
      subst hF
      exact Run_ret1 rfl (ResV_tmp (v := .int .i64 (-1000000000000000)) (by kernel_rfl)) ⟨rfl, H4⟩
    · have hF := (M.ite_some hF).2 hb3
      refine Run_seq ?_
      refine Run_reg 2 (by kernel_rfl) (L' := [(0, .pointer (some ⟨bs_, 0, none⟩)), (4, .int .i64 x1.1), (9, .bool (x1.1 == 3))]) ?_ ?_
      · refine QRun_b [.bool (x1.1 == 3), .bool (x1.1 == 3)] 0 _ (by kernel_rfl) (fun w => by kernel_rfl) ?_
        exact QRun_done [0, 4, 9] (by kernel_rfl) (by kernel_rfl)
      refine Run_cond (b := x1.1 == 3) (by kernel_rfl) (fun hb4 => ?_) (fun hb4 => ?_)
      · have hF := (M.ite_some hF).1 hb4
        refine Run_seq ?_
        refine Run_ops ?_
        refine Run_b [.pointer (some ⟨bs_, 0, none⟩)] 0 _ (by kernel_rfl) (fun w => by kernel_rfl) ?_
        refine Run_E (by kernel_rfl) ?_
        refine E_lit (C := cd2) (n := 7) (l := ([1000000, 1000001, (-1000000), (-1000001), (-999999999999999), (-1000000000000001), 9223372036854775807] : List Int)) (cs := [.int .i64 1000000, .int .i64 1000001, .int .i64 (-1000000), .int .i64 (-1000001), .int .i64 (-999999999999999), .int .i64 (-1000000000000001), .int .i64 9223372036854775807]) H4 (fun w => by kernel_rfl) (Enc.consE (cd2_own 1000000 _) (Enc.consE (cd2_own 1000001 _) (Enc.consE (cd2_own (-1000000) _) (Enc.consE (cd2_own (-1000001) _) (Enc.consE (cd2_own (-999999999999999) _) (Enc.consE (cd2_own (-1000000000000001) _) (Enc.consE (cd2_own 9223372036854775807 _) (Enc.nil _ _) rfl) rfl) rfl) rfl) rfl) rfl) rfl) rfl (by decide) (fun a1 h3 H5 => ?_)
        obtain ⟨x2, hx2, hF⟩ := M.bind_some hF
        have hn1 := (H5.len 0 rfl)
        have H6 : Hold h h3 [own cd2 a1 (([1000000, 1000001, (-1000000), (-1000001), (-999999999999999), (-1000000000000001), 9223372036854775807] : List Int).length) 7 ([1000000, 1000001, (-1000000), (-1000001), (-999999999999999), (-1000000000000001), 9223372036854775807] : List Int), box bs_ 122 [.slice as_code s_.code.length cs_code, .int .i64 x1.2.at_, .int .i64 x1.2.seed], it] := by rw [hn1]; exact H5
        have H7 : Hold h h3 [box bs_ 122 [.slice as_code s_.code.length cs_code, .int .i64 x1.2.at_, .int .i64 x1.2.seed], own cd2 a1 (([1000000, 1000001, (-1000000), (-1000001), (-999999999999999), (-1000000000000001), 9223372036854775807] : List Int).length) 7 ([1000000, 1000001, (-1000000), (-1000001), (-999999999999999), (-1000000000000001), 9223372036854775807] : List Int), it] := H6.pick [1, 0, 2] (by kernel_rfl)
        have H8 : Hold h h3 [box bs_ 122 [.slice as_code s_.code.length cs_code, .int .i64 x1.2.at_, .int .i64 x1.2.seed], own cd2 a1 (([1000000, 1000001, (-1000000), (-1000001), (-999999999999999), (-1000000000000001), 9223372036854775807] : List Int).length) 7 ([1000000, 1000001, (-1000000), (-1000001), (-999999999999999), (-1000000000000001), 9223372036854775807] : List Int), bun [it]] := Hold.bundle (S := [box bs_ 122 [.slice as_code s_.code.length cs_code, .int .i64 x1.2.at_, .int .i64 x1.2.seed], own cd2 a1 (([1000000, 1000001, (-1000000), (-1000001), (-999999999999999), (-1000000000000001), 9223372036854775807] : List Int).length) 7 ([1000000, 1000001, (-1000000), (-1000001), (-999999999999999), (-1000000000000001), 9223372036854775807] : List Int)]) (R := [it]) H7
        refine Run_E (by kernel_rfl) ?_
        refine E_call (f := 66) (args := #[.pointer (some ⟨bs_, 0, none⟩), .slice a1 7 7]) (Fn.arg (w_spec_l01Pick h h3 _ (⟨s_.code, x1.2.at_, x1.2.seed⟩ : TL01source) bs_ as_code cs_code rs_code ([1000000, 1000001, (-1000000), (-1000001), (-999999999999999), (-1000000000000001), 9223372036854775807] : List Int) a1 7 H8 _ _ hx2) (by simp only [hn1])) (by kernel_rfl) (fun v2 h4 hp2 => ?_)
        obtain ⟨rfl, H9⟩ := hp2
        have H10 : Hold h h4 [box bs_ 122 [.slice as_code s_.code.length cs_code, .int .i64 x2.2.1.at_, .int .i64 x2.2.1.seed], own cd2 a1 (([1000000, 1000001, (-1000000), (-1000001), (-999999999999999), (-1000000000000001), 9223372036854775807] : List Int).length) 7 x2.2.2, it] := Hold.unbundle (S := [box bs_ 122 [.slice as_code s_.code.length cs_code, .int .i64 x2.2.1.at_, .int .i64 x2.2.1.seed], own cd2 a1 (([1000000, 1000001, (-1000000), (-1000001), (-999999999999999), (-1000000000000001), 9223372036854775807] : List Int).length) 7 x2.2.2]) (R := [it]) H9 (Hold.tailBase (S := [box bs_ 122 [.slice as_code s_.code.length cs_code, .int .i64 x1.2.at_, .int .i64 x1.2.seed], own cd2 a1 (([1000000, 1000001, (-1000000), (-1000001), (-999999999999999), (-1000000000000001), 9223372036854775807] : List Int).length) 7 ([1000000, 1000001, (-1000000), (-1000001), (-999999999999999), (-1000000000000001), 9223372036854775807] : List Int)]) (R := [it]) H7)
        refine Run_b [.int .i64 x2.1] 3 _ (by kernel_rfl) (fun w => by kernel_rfl) ?_
        refine Run_nil (by kernel_rfl) ?_
        refine Run_keep [2] (L' := [(2, .int .i64 x2.1)]) (by kernel_rfl) ?_
        have hF := M.ret_some hF
        subst hF
        have H11 : Hold h h4 [box bs_ 122 [.slice as_code s_.code.length cs_code, .int .i64 x2.2.1.at_, .int .i64 x2.2.1.seed], it] := H10.pick [0, 2] (by kernel_rfl)
        exact Run_ret1 rfl (ResV_tmp (v := .int .i64 x2.1) (by kernel_rfl)) ⟨rfl, H11⟩
      · have hF := (M.ite_some hF).2 hb4
        refine Run_seq ?_
        refine Run_reg 2 (by kernel_rfl) (L' := [(0, .pointer (some ⟨bs_, 0, none⟩)), (14, .bool (x1.1 == 4))]) ?_ ?_
        · refine QRun_b [.bool (x1.1 == 4), .bool (x1.1 == 4)] 0 _ (by kernel_rfl) (fun w => by kernel_rfl) ?_
          exact QRun_done [0, 14] (by kernel_rfl) (by kernel_rfl)
        refine Run_cond (b := x1.1 == 4) (by kernel_rfl) (fun hb5 => ?_) (fun hb5 => ?_)
        · have hF := (M.ite_some hF).1 hb5
          refine Run_seq ?_
          refine Run_ops ?_
          refine Run_b [.pointer (some ⟨bs_, 0, none⟩)] 0 _ (by kernel_rfl) (fun w => by kernel_rfl) ?_
          obtain ⟨x3, hx3, hF⟩ := M.bind_some hF
          have H12 : Hold h h2 [box bs_ 122 [.slice as_code s_.code.length cs_code, .int .i64 x1.2.at_, .int .i64 x1.2.seed], bun [it]] := Hold.bundle (S := [box bs_ 122 [.slice as_code s_.code.length cs_code, .int .i64 x1.2.at_, .int .i64 x1.2.seed]]) (R := [it]) H4
          refine Run_E (by kernel_rfl) ?_
          refine E_call (f := 67) (args := #[.pointer (some ⟨bs_, 0, none⟩), .int .i64 2000]) (w_spec_l01Next h h2 _ (⟨s_.code, x1.2.at_, x1.2.seed⟩ : TL01source) bs_ as_code cs_code rs_code 2000 H12 _ _ hx3) (by kernel_rfl) (fun v3 h5 hp3 => ?_)
          obtain ⟨rfl, H13⟩ := hp3
          have H14 : Hold h h5 [box bs_ 122 [.slice as_code s_.code.length cs_code, .int .i64 x3.2.at_, .int .i64 x3.2.seed], it] := Hold.unbundle (S := [box bs_ 122 [.slice as_code s_.code.length cs_code, .int .i64 x3.2.at_, .int .i64 x3.2.seed]]) (R := [it]) H13 (Hold.tailBase (S := [box bs_ 122 [.slice as_code s_.code.length cs_code, .int .i64 x1.2.at_, .int .i64 x1.2.seed]]) (R := [it]) H4)
          refine Run_b [.int .i64 (w64 (x3.1 - 1000)), .int .i64 (w64 ((w64 (x3.1 - 1000)) * 701)), .int .i64 (w64 ((w64 (x3.1 - 1000)) * 701))] 2 _ (by kernel_rfl) (fun w => by kernel_rfl) ?_
          refine Run_nil (by kernel_rfl) ?_
          refine Run_keep [2] (L' := [(2, .int .i64 (w64 ((w64 (x3.1 - 1000)) * 701)))]) (by kernel_rfl) ?_
          have hF := M.ret_some hF
          subst hF
          exact Run_ret1 rfl (ResV_tmp (v := .int .i64 (w64 ((w64 (x3.1 - 1000)) * 701))) (by kernel_rfl)) ⟨rfl, H14⟩
        · have hF := (M.ite_some hF).2 hb5
          refine Run_skip ?_
          refine Run_blk ?_
          refine Run_seq ?_
          refine Run_ops ?_
          refine Run_b [.pointer (some ⟨bs_, 0, none⟩)] 0 _ (by kernel_rfl) (fun w => by kernel_rfl) ?_
          obtain ⟨x4, hx4, hF⟩ := M.bind_some hF
          have H15 : Hold h h2 [box bs_ 122 [.slice as_code s_.code.length cs_code, .int .i64 x1.2.at_, .int .i64 x1.2.seed], bun [it]] := Hold.bundle (S := [box bs_ 122 [.slice as_code s_.code.length cs_code, .int .i64 x1.2.at_, .int .i64 x1.2.seed]]) (R := [it]) H4
          refine Run_E (by kernel_rfl) ?_
          refine E_call (f := 67) (args := #[.pointer (some ⟨bs_, 0, none⟩), .int .i64 41]) (w_spec_l01Next h h2 _ (⟨s_.code, x1.2.at_, x1.2.seed⟩ : TL01source) bs_ as_code cs_code rs_code 41 H15 _ _ hx4) (by kernel_rfl) (fun v4 h6 hp4 => ?_)
          obtain ⟨rfl, H16⟩ := hp4
          have H17 : Hold h h6 [box bs_ 122 [.slice as_code s_.code.length cs_code, .int .i64 x4.2.at_, .int .i64 x4.2.seed], it] := Hold.unbundle (S := [box bs_ 122 [.slice as_code s_.code.length cs_code, .int .i64 x4.2.at_, .int .i64 x4.2.seed]]) (R := [it]) H16 (Hold.tailBase (S := [box bs_ 122 [.slice as_code s_.code.length cs_code, .int .i64 x1.2.at_, .int .i64 x1.2.seed]]) (R := [it]) H4)
          refine Run_b [.int .i64 (w64 (x4.1 - 20)), .int .i64 (w64 (x4.1 - 20))] 2 _ (by kernel_rfl) (fun w => by kernel_rfl) ?_
          refine Run_nil (by kernel_rfl) ?_
          refine Run_keep [2] (L' := [(2, .int .i64 (w64 (x4.1 - 20)))]) (by kernel_rfl) ?_
          have hF := M.ret_some hF
          subst hF
          exact Run_ret1 rfl (ResV_tmp (v := .int .i64 (w64 (x4.1 - 20))) (by kernel_rfl)) ⟨rfl, H17⟩
  · refine Run_cond (b := x1.1 == 0) (by kernel_rfl) (fun hb1 => ?_) (fun hb1 => ?_)
    · have gs1 := (M.ite_some gs1).1 hb1
      refine Run_skip ?_
      have gs1 := M.ret_some gs1
      subst gs1
      exact Run_fall [0, 4, 5] (by kernel_rfl) ⟨rfl, H3⟩
    · have gs1 := (M.ite_some gs1).2 hb1
      refine Run_seq ?_
      refine Run_reg 2 (by kernel_rfl) (L' := [(0, .pointer (some ⟨bs_, 0, none⟩)), (4, .int .i64 x1.1), (5, .bool (x1.1 == 1))]) ?_ ?_
      · refine QRun_b [.bool (x1.1 == 1), .bool (x1.1 == 1)] 0 _ (by kernel_rfl) (fun w => by kernel_rfl) ?_
        exact QRun_done [0, 4, 5] (by kernel_rfl) (by kernel_rfl)
      refine Run_cond (b := x1.1 == 1) (by kernel_rfl) (fun hb2 => ?_) (fun hb2 => ?_)
      · have gs1 := (M.ite_some gs1).1 hb2
        refine Run_skip ?_
        have gs1 := M.ret_some gs1
        subst gs1
        exact Run_fall [0, 4, 5] (by kernel_rfl) ⟨rfl, H3⟩
      · have gs1 := (M.ite_some gs1).2 hb2
        refine Run_reg 2 (by kernel_rfl) (L' := [(0, .pointer (some ⟨bs_, 0, none⟩)), (4, .int .i64 x1.1), (5, .bool (x1.1 == 2))]) ?_ ?_
        · refine QRun_b [.bool (x1.1 == 2), .bool (x1.1 == 2)] 0 _ (by kernel_rfl) (fun w => by kernel_rfl) ?_
          exact QRun_done [0, 4, 5] (by kernel_rfl) (by kernel_rfl)
        have gs1 := M.ret_some gs1
        subst gs1
        exact Run_fall [0, 4, 5] (by kernel_rfl) ⟨rfl, H3⟩

set_option maxRecDepth 100000 in
set_option maxHeartbeats 4000000 in
theorem w_spec_l02DrawSize (h hE : Heap) (it : Item) (s_ : TL01source) (bs_ : Nat) (as_code : Option Addr) (cs_code : Nat) (rs_code : Rd cd5 h (Lt h) as_code cs_code s_.code) (m_ : Int) (n_ : Int) (HM : Hold h hE [box bs_ 122 [.slice as_code s_.code.length cs_code, .int .i64 s_.at_, .int .i64 s_.seed], it]) (n : Nat) (r : (List (List Int)) × TL01source) (hF : spec_l02DrawSize s_ m_ n_ n = some r) :
    Fn Try.prog 129 #[.pointer (some ⟨bs_, 0, none⟩), .int .i64 m_, .int .i64 n_] hE fun v h' => ∃ (a0 : Option Addr) (c0 : Nat), v = .slice a0 r.1.length c0 ∧ Hold h h' [own cd23 a0 r.1.length c0 r.1, box bs_ 122 [.slice as_code s_.code.length cs_code, .int .i64 r.2.at_, .int .i64 r.2.seed], it] := by
  unfold spec_l02DrawSize at hF
  refine Fn_enter (args := [.pointer (some ⟨bs_, 0, none⟩), .int .i64 m_, .int .i64 n_]) Try.func129 rfl (by kernel_rfl) (by kernel_rfl) (fun w0 _ => ?_)
  refine Run_seq ?_
  refine Run_reg 1 (by kernel_rfl) (L' := [(0, .pointer (some ⟨bs_, 0, none⟩)), (1, .int .i64 m_), (2, .int .i64 n_)]) ?_ ?_
  · refine QRun_b [.slice none 0 0] 0 _ (by kernel_rfl) (fun w => by kernel_rfl) ?_
    exact QRun_done [0, 1, 2] (by kernel_rfl) (by kernel_rfl)
  refine Run_seq ?_
  refine Run_ops ?_
  refine Run_b [.int .i64 m_, .int .i64 n_] 0 _ (by kernel_rfl) (fun w => by kernel_rfl) ?_
  obtain ⟨x1, hx1, hF⟩ := M.bind_some hF
  refine Run_E (by kernel_rfl) ?_
  refine E_call (f := 119) (args := #[.int .i64 m_, .int .i64 n_]) (w_spec_l02Bottom hE m_ n_ _ _ hx1) (by kernel_rfl) (fun v1 h1 hp1 => ?_)
  obtain ⟨a1, c1, rfl, H1⟩ := hp1
  have H2 : Hold h h1 [own cd23 a1 x1.length c1 x1, box bs_ 122 [.slice as_code s_.code.length cs_code, .int .i64 s_.at_, .int .i64 s_.seed], it] := HM.call H1 rfl
  refine Run_b [.slice a1 x1.length c1] 3 _ (by kernel_rfl) (fun w => by kernel_rfl) ?_
  refine Run_nil (by kernel_rfl) ?_
  refine Run_keep [0, 1, 2, 7] (L' := [(0, .pointer (some ⟨bs_, 0, none⟩)), (1, .int .i64 m_), (2, .int .i64 n_), (7, .slice a1 x1.length c1)]) (by kernel_rfl) ?_
  refine Run_seq ?_
  refine Run_ops ?_
  refine Run_b [.pointer (some ⟨bs_, 0, none⟩)] 0 _ (by kernel_rfl) (fun w => by kernel_rfl) ?_
  refine Run_E (by kernel_rfl) ?_
  refine E_lit (C := cd2) (n := 3) (l := ([2, 3, 5] : List Int)) (cs := [.int .i64 2, .int .i64 3, .int .i64 5]) H2 (fun w => by kernel_rfl) (Enc.consE (cd2_own 2 _) (Enc.consE (cd2_own 3 _) (Enc.consE (cd2_own 5 _) (Enc.nil _ _) rfl) rfl) rfl) rfl (by decide) (fun a2 h2 H3 => ?_)
  obtain ⟨x2, hx2, hF⟩ := M.bind_some hF
  have hn1 := (H3.len 0 rfl)
  have H4 : Hold h h2 [own cd2 a2 (([2, 3, 5] : List Int).length) 3 ([2, 3, 5] : List Int), own cd23 a1 x1.length c1 x1, box bs_ 122 [.slice as_code s_.code.length cs_code, .int .i64 s_.at_, .int .i64 s_.seed], it] := by rw [hn1]; exact H3
  have H5 : Hold h h2 [box bs_ 122 [.slice as_code s_.code.length cs_code, .int .i64 s_.at_, .int .i64 s_.seed], own cd2 a2 (([2, 3, 5] : List Int).length) 3 ([2, 3, 5] : List Int), own cd23 a1 x1.length c1 x1, it] := H4.pick [2, 0, 1, 3] (by kernel_rfl)
  have H6 : Hold h h2 [box bs_ 122 [.slice as_code s_.code.length cs_code, .int .i64 s_.at_, .int .i64 s_.seed], own cd2 a2 (([2, 3, 5] : List Int).length) 3 ([2, 3, 5] : List Int), bun [own cd23 a1 x1.length c1 x1, it]] := Hold.bundle (S := [box bs_ 122 [.slice as_code s_.code.length cs_code, .int .i64 s_.at_, .int .i64 s_.seed], own cd2 a2 (([2, 3, 5] : List Int).length) 3 ([2, 3, 5] : List Int)]) (R := [own cd23 a1 x1.length c1 x1, it]) H5
  refine Run_E (by kernel_rfl) ?_
  refine E_call (f := 66) (args := #[.pointer (some ⟨bs_, 0, none⟩), .slice a2 3 3]) (Fn.arg (w_spec_l01Pick h h2 _ s_ bs_ as_code cs_code rs_code ([2, 3, 5] : List Int) a2 3 H6 _ _ hx2) (by simp only [hn1])) (by kernel_rfl) (fun v2 h3 hp2 => ?_)
  obtain ⟨rfl, H7⟩ := hp2
  have H8 : Hold h h3 [box bs_ 122 [.slice as_code s_.code.length cs_code, .int .i64 x2.2.1.at_, .int .i64 x2.2.1.seed], own cd2 a2 (([2, 3, 5] : List Int).length) 3 x2.2.2, own cd23 a1 x1.length c1 x1, it] := Hold.unbundle (S := [box bs_ 122 [.slice as_code s_.code.length cs_code, .int .i64 x2.2.1.at_, .int .i64 x2.2.1.seed], own cd2 a2 (([2, 3, 5] : List Int).length) 3 x2.2.2]) (R := [own cd23 a1 x1.length c1 x1, it]) H7 (Hold.tailBase (S := [box bs_ 122 [.slice as_code s_.code.length cs_code, .int .i64 s_.at_, .int .i64 s_.seed], own cd2 a2 (([2, 3, 5] : List Int).length) 3 ([2, 3, 5] : List Int)]) (R := [own cd23 a1 x1.length c1 x1, it]) H5)
  refine Run_b [.int .i64 x2.1] 3 _ (by kernel_rfl) (fun w => by kernel_rfl) ?_
  refine Run_nil (by kernel_rfl) ?_
  refine Run_keep [0, 1, 2, 7, 8] (L' := [(0, .pointer (some ⟨bs_, 0, none⟩)), (1, .int .i64 m_), (2, .int .i64 n_), (7, .slice a1 x1.length c1), (8, .int .i64 x2.1)]) (by kernel_rfl) ?_
  refine Run_seq ?_
  refine Run_seq ?_
  refine Run_reg 1 (by kernel_rfl) (L' := [(0, .pointer (some ⟨bs_, 0, none⟩)), (1, .int .i64 m_), (2, .int .i64 n_), (7, .slice a1 x1.length c1), (8, .int .i64 x2.1), (9, .int .i64 0)]) ?_ ?_
  · refine QRun_b [.int .i64 0] 0 _ (by kernel_rfl) (fun w => by kernel_rfl) ?_
    exact QRun_done [0, 1, 2, 7, 8, 9] (by kernel_rfl) (by kernel_rfl)
  obtain ⟨x3, gx3, hF⟩ := M.bind_some hF
  obtain ⟨hloy1, hhiy1, gx3⟩ := M.for_start gx3
  refine Run_join (fun L' h' => L' = [(0, .pointer (some ⟨bs_, 0, none⟩)), (7, .slice a1 x1.length c1)] ∧ Hold h h' [box bs_ 122 [.slice as_code s_.code.length cs_code, .int .i64 x3.1, .int .i64 x3.2.1], own cd23 a1 x1.length c1 x3.2.2, it]) ?_ ?_
  · rintro _ h5 ⟨rfl, H10⟩
    refine Run_seq ?_
    refine Run_seq ?_
    refine Run_ops ?_
    refine Run_b [.pointer (some ⟨bs_, 0, none⟩)] 0 _ (by kernel_rfl) (fun w => by kernel_rfl) ?_
    obtain ⟨x9, hx7, hF⟩ := M.bind_some hF
    have H32 : Hold h h5 [box bs_ 122 [.slice as_code s_.code.length cs_code, .int .i64 x3.1, .int .i64 x3.2.1], bun [own cd23 a1 x1.length c1 x3.2.2, it]] := Hold.bundle (S := [box bs_ 122 [.slice as_code s_.code.length cs_code, .int .i64 x3.1, .int .i64 x3.2.1]]) (R := [own cd23 a1 x1.length c1 x3.2.2, it]) H10
    refine Run_E (by kernel_rfl) ?_
    refine E_call (f := 67) (args := #[.pointer (some ⟨bs_, 0, none⟩), .int .i64 60]) (w_spec_l01Next h h5 _ (⟨s_.code, x3.1, x3.2.1⟩ : TL01source) bs_ as_code cs_code rs_code 60 H32 _ _ hx7) (by kernel_rfl) (fun v5 h14 hp5 => ?_)
    obtain ⟨rfl, H33⟩ := hp5
    have H34 : Hold h h14 [box bs_ 122 [.slice as_code s_.code.length cs_code, .int .i64 x9.2.at_, .int .i64 x9.2.seed], own cd23 a1 x1.length c1 x3.2.2, it] := Hold.unbundle (S := [box bs_ 122 [.slice as_code s_.code.length cs_code, .int .i64 x9.2.at_, .int .i64 x9.2.seed]]) (R := [own cd23 a1 x1.length c1 x3.2.2, it]) H33 (Hold.tailBase (S := [box bs_ 122 [.slice as_code s_.code.length cs_code, .int .i64 x3.1, .int .i64 x3.2.1]]) (R := [own cd23 a1 x1.length c1 x3.2.2, it]) H10)
    refine Run_nil (by kernel_rfl) ?_
    refine Run_keep [0, 7, 41] (L' := [(0, .pointer (some ⟨bs_, 0, none⟩)), (7, .slice a1 x1.length c1), (41, .int .i64 x9.1)]) (by kernel_rfl) ?_
    refine Run_block ?_
    refine Run_seq ?_
    refine Run_reg 2 (by kernel_rfl) (L' := [(0, .pointer (some ⟨bs_, 0, none⟩)), (7, .slice a1 x1.length c1), (41, .int .i64 x9.1), (42, .bool (x9.1 == 0))]) ?_ ?_
    · refine QRun_b [.bool (x9.1 == 0), .bool (x9.1 == 0)] 0 _ (by kernel_rfl) (fun w => by kernel_rfl) ?_
      exact QRun_done [0, 7, 41, 42] (by kernel_rfl) (by kernel_rfl)
    refine Run_cond (b := x9.1 == 0) (by kernel_rfl) (fun hb4 => ?_) (fun hb4 => ?_)
    · have hF := (M.ite_some hF).1 hb4
      obtain ⟨x10, hx8, hF⟩ := M.bind_some hF
      obtain ⟨hx8l, hx8u, hx8⟩ := M.idx_some hx8
      have H35 : Hold h h14 [own cd23 a1 x1.length c1 x3.2.2, box bs_ 122 [.slice as_code s_.code.length cs_code, .int .i64 x9.2.at_, .int .i64 x9.2.seed], it] := H34.pick [1, 0, 2] (by kernel_rfl)
      have H36 := H35.toRows
      obtain ⟨a4, c3, H37⟩ := H36.pinRow hx8
      have H38 : Hold h h14 [box bs_ 122 [.slice as_code s_.code.length cs_code, .int .i64 x9.2.at_, .int .i64 x9.2.seed], rowsP cd2 23 a1 x1.length c1 x3.2.2 [(0, a4, x10.length, c3, x10)], it] := H37.pick [1, 0, 2] (by kernel_rfl)
      refine Run_D (fun x => Hold h x [rowsP cd2 23 a1 x1.length c1 x3.2.2 [(0, a4, x10.length, c3, x10)], it]) (fun x => Hold h x [box bs_ 122 [.slice as_code s_.code.length cs_code, .int .i64 x9.2.at_, .int .i64 x9.2.seed], rowsP cd2 23 a1 x1.length c1 x3.2.2 [(0, a4, x10.length, c3, x10)], it]) mixed (by kernel_rfl) H38 Hold.stable (fun x Hy => (show Hold h x [box bs_ 122 [.slice as_code s_.code.length cs_code, .int .i64 x9.2.at_, .int .i64 x9.2.seed], rowsP cd2 23 a1 x1.length c1 x3.2.2 [(0, a4, x10.length, c3, x10)], it] from Hy).pick [1, 2] (by kernel_rfl)) ?_
      refine DR_b 6 [.slice a1 x1.length c1] 0 (by kernel_rfl) (by kernel_rfl) (by kernel_rfl) (fun w => by kernel_rfl) ?_
      refine DR_y 5 (i := 1) (.pointer (some (adr a1 (0 * 1)))) (by kernel_rfl) (by kernel_rfl) (by kernel_rfl) (fun hx Hx => (YE.of (Y_idx (t := 22) (e := 23) (sz := 1) (a := a1) (n := x1.length) (cap := c1) (kk := .i64) (i := 0) (by kernel_rfl) Try.underlying22 (by kernel_rfl) ((H34.rd 1 rfl).cell hx8).1 hx8l (by rw [← (H34.len 1 rfl)]; exact hx8u)))) ?_
      refine DR_y 4 (i := 2) (.slice a4 x10.length c3) (by kernel_rfl) (by kernel_rfl) (by kernel_rfl) (fun hx Hx => (YE.of (Y_load1 (t := 23) (p := adr a1 (0 * 1)) (v := .slice a4 x10.length c3) (by kernel_rfl) (fun w => by kernel_rfl) (Hx.cellPin 0 rfl 0 rfl)))) ?_
      refine DR_b 3 [.pointer (some ⟨bs_, 0, none⟩)] 3 (by kernel_rfl) (by kernel_rfl) (by kernel_rfl) (fun w => by kernel_rfl) ?_
      refine DR_e 2 4 (by kernel_rfl) (by kernel_rfl) (by kernel_rfl) (fun h15 H39 => ?_)
      have H40 : Hold h h15 [box bs_ 122 [.slice as_code s_.code.length cs_code, .int .i64 x9.2.at_, .int .i64 x9.2.seed], rowsP cd2 23 a1 x1.length c1 x3.2.2 [(0, a4, x10.length, c3, x10)], it] := H39
      obtain ⟨x11, hx9, hF⟩ := M.bind_some hF
      have H41 : Hold h h15 [box bs_ 122 [.slice as_code s_.code.length cs_code, .int .i64 x9.2.at_, .int .i64 x9.2.seed], bun [rowsP cd2 23 a1 x1.length c1 x3.2.2 [(0, a4, x10.length, c3, x10)], it]] := Hold.bundle (S := [box bs_ 122 [.slice as_code s_.code.length cs_code, .int .i64 x9.2.at_, .int .i64 x9.2.seed]]) (R := [rowsP cd2 23 a1 x1.length c1 x3.2.2 [(0, a4, x10.length, c3, x10)], it]) H40
      refine E_call (f := 145) (args := #[.pointer (some ⟨bs_, 0, none⟩)]) (w_spec_l01DrawValue h h15 _ (⟨s_.code, x9.2.at_, x9.2.seed⟩ : TL01source) bs_ as_code cs_code rs_code H41 _ _ hx9) (by kernel_rfl) (fun v6 h16 hp6 => ?_)
      obtain ⟨rfl, H42⟩ := hp6
      have H43 : Hold h h16 [box bs_ 122 [.slice as_code s_.code.length cs_code, .int .i64 x11.2.at_, .int .i64 x11.2.seed], rowsP cd2 23 a1 x1.length c1 x3.2.2 [(0, a4, x10.length, c3, x10)], it] := Hold.unbundle (S := [box bs_ 122 [.slice as_code s_.code.length cs_code, .int .i64 x11.2.at_, .int .i64 x11.2.seed]]) (R := [rowsP cd2 23 a1 x1.length c1 x3.2.2 [(0, a4, x10.length, c3, x10)], it]) H42 (Hold.tailBase (S := [box bs_ 122 [.slice as_code s_.code.length cs_code, .int .i64 x9.2.at_, .int .i64 x9.2.seed]]) (R := [rowsP cd2 23 a1 x1.length c1 x3.2.2 [(0, a4, x10.length, c3, x10)], it]) H40)
      refine ⟨fun x => Hold h x [rowsP cd2 23 a1 x1.length c1 x3.2.2 [(0, a4, x10.length, c3, x10)], it], fun x => Hold h x [box bs_ 122 [.slice as_code s_.code.length cs_code, .int .i64 x11.2.at_, .int .i64 x11.2.seed], rowsP cd2 23 a1 x1.length c1 x3.2.2 [(0, a4, x10.length, c3, x10)], it], H43, Hold.stable, fun x Hy => (show Hold h x [box bs_ 122 [.slice as_code s_.code.length cs_code, .int .i64 x11.2.at_, .int .i64 x11.2.seed], rowsP cd2 23 a1 x1.length c1 x3.2.2 [(0, a4, x10.length, c3, x10)], it] from Hy).pick [1, 2] (by kernel_rfl), fun x Hy => (show Hold h x [rowsP cd2 23 a1 x1.length c1 x3.2.2 [(0, a4, x10.length, c3, x10)], it] from Hy).pick [0, 1] (by kernel_rfl), ?_⟩
      obtain ⟨x12, hx10, hF⟩ := M.bind_some hF
      obtain ⟨hx10l, hx10u, hx10⟩ := M.idx_some hx10
      refine DR_y 1 (i := 5) (.pointer (some (adr a4 (0 * 1)))) (by kernel_rfl) (by kernel_rfl) (by kernel_rfl) (fun hx Hx => (YE.of (Y_idx (t := 23) (e := 2) (sz := 1) (a := a4) (n := x10.length) (cap := c3) (kk := .i64) (i := 0) (by kernel_rfl) Try.underlying23 (by kernel_rfl) ((H43.rdPin 1 rfl 0 rfl).cell hx10).1 hx10l hx10u))) ?_
      refine DR_tail (i := 6) (by kernel_rfl) (by kernel_rfl) (by kernel_rfl) (fun h17 H44 => ?_)
      have H45 : Hold h h17 [box bs_ 122 [.slice as_code s_.code.length cs_code, .int .i64 x11.2.at_, .int .i64 x11.2.seed], rowsP cd2 23 a1 x1.length c1 x3.2.2 [(0, a4, x10.length, c3, x10)], it] := H44
      obtain ⟨l2, hu2, hF⟩ := M.bind_some hF
      have hu2 := M.upd_some hu2
      have H47 : Hold h h17 [rowsP cd2 23 a1 x1.length c1 x3.2.2 [(0, a4, x10.length, c3, x10)], box bs_ 122 [.slice as_code s_.code.length cs_code, .int .i64 x11.2.at_, .int .i64 x11.2.seed], it] := H45.pick [1, 0, 2] (by kernel_rfl)
      refine Run_E (by kernel_rfl) ?_
      refine E_put2 (C := cd2) (t := 2) (sz := 1) (j := 0) (x := x11.1) (v := .int .i64 x11.1) (m2 := x3.2.2.set 0 l2) H47 cd2_flat 0 rfl (by kernel_rfl) rfl (cd2_own _) (by kernel_rfl) hu2 rfl (fun h18 H46 => ?_)
      refine Run_nil (by kernel_rfl) ?_
      refine Run_keep [7] (L' := [(7, .slice a1 x1.length c1)]) (by kernel_rfl) ?_
      refine Run_blk ?_
      refine Run_seq ?_
      refine Run_reg 2 (by kernel_rfl) (L' := [(6, .slice a1 x1.length c1)]) ?_ ?_
      · refine QRun_b [.slice a1 x1.length c1, .slice a1 x1.length c1] 0 _ (by kernel_rfl) (fun w => by kernel_rfl) ?_
        exact QRun_done [6] (by kernel_rfl) (by kernel_rfl)
      have hF := M.ret_some hF
      subst hF
      have H48 := H46.ofRows
      have H49 := H48.norm
      exact Run_ret1 rfl (ResV_tmp (v := .slice a1 x1.length c1) (by kernel_rfl)) ⟨a1, c1, (by simp only [(H48.len 0 rfl)]), H49⟩
    · have hF := (M.ite_some hF).2 hb4
      refine Run_seq ?_
      refine Run_reg 2 (by kernel_rfl) (L' := [(7, .slice a1 x1.length c1), (41, .int .i64 x9.1), (50, .bool (x9.1 == 1))]) ?_ ?_
      · refine QRun_b [.bool (x9.1 == 1), .bool (x9.1 == 1)] 0 _ (by kernel_rfl) (fun w => by kernel_rfl) ?_
        exact QRun_done [7, 41, 50] (by kernel_rfl) (by kernel_rfl)
      refine Run_cond (b := x9.1 == 1) (by kernel_rfl) (fun hb5 => ?_) (fun hb5 => ?_)
      · have hF := (M.ite_some hF).1 hb5
        refine Run_seq ?_
        refine Run_ops ?_
        refine Run_b [.slice a1 x1.length c1] 0 _ (by kernel_rfl) (fun w => by kernel_rfl) ?_
        refine Run_E (by kernel_rfl) ?_
        refine E_lit (C := cd2) (n := 0) (l := ([] : List Int)) (cs := []) H34 (fun w => by kernel_rfl) (Enc.nil _ _) rfl (by decide) (fun a5 h19 H50 => ?_)
        refine Run_E (by kernel_rfl) ?_
        refine E_lit1 (ey := 23) (n := 0) H50 (fun w => by kernel_rfl) rfl (fun a6 h20 H51 => ?_)
        obtain ⟨l3, hl1, hF⟩ := M.bind_some hF
        have hl1 := M.app_some hl1
        have H52 : Hold h h20 [own cd23 a1 x1.length c1 x3.2.2, own cd23 a6 1 1 [([] : List Int)], box bs_ 122 [.slice as_code s_.code.length cs_code, .int .i64 x9.2.at_, .int .i64 x9.2.seed], it] := H51.pick [2, 0, 1, 3] (by kernel_rfl)
        have H53 : Hold h h20 [own cd23 a6 1 1 [([] : List Int)], own cd23 a1 x1.length c1 x3.2.2, box bs_ 122 [.slice as_code s_.code.length cs_code, .int .i64 x9.2.at_, .int .i64 x9.2.seed], it] := H52.pick [1, 0, 2, 3] (by kernel_rfl)
        have H54 : Hold h h20 [own cd23 a1 x1.length c1 x3.2.2, own cd23 a6 1 1 [([] : List Int)], box bs_ 122 [.slice as_code s_.code.length cs_code, .int .i64 x9.2.at_, .int .i64 x9.2.seed], it] := H53.pick [1, 0, 2, 3] (by kernel_rfl)
        refine Run_E (by kernel_rfl) ?_
        refine E_app (C := cd23) (t := 22) (ty := 22) (n := x1.length) (m := 1) H54 cd23_ti rfl Try.underlying22 (by decide) (by kernel_rfl) hl1 (fun a7 c4 h21 H55 => ?_)
        refine Run_b [.slice a7 l3.length c4] 4 _ (by kernel_rfl) (fun w => by kernel_rfl) ?_
        refine Run_nil (by kernel_rfl) ?_
        refine Run_keep [6] (L' := [(6, .slice a7 l3.length c4)]) (by kernel_rfl) ?_
        have hF := M.ret_some hF
        subst hF
        exact Run_ret1 rfl (ResV_tmp (v := .slice a7 l3.length c4) (by kernel_rfl)) ⟨a7, c4, rfl, H55⟩
      · have hF := (M.ite_some hF).2 hb5
        refine Run_seq ?_
        refine Run_reg 2 (by kernel_rfl) (L' := [(7, .slice a1 x1.length c1), (56, .bool (x9.1 == 2))]) ?_ ?_
        · refine QRun_b [.bool (x9.1 == 2), .bool (x9.1 == 2)] 0 _ (by kernel_rfl) (fun w => by kernel_rfl) ?_
          exact QRun_done [7, 56] (by kernel_rfl) (by kernel_rfl)
        refine Run_cond (b := x9.1 == 2) (by kernel_rfl) (fun hb6 => ?_) (fun hb6 => ?_)
        · have hF := (M.ite_some hF).1 hb6
          refine Run_seq ?_
          refine Run_reg 1 (by kernel_rfl) (L' := [(6, .slice none 0 0)]) ?_ ?_
          · refine QRun_b [.slice none 0 0] 0 _ (by kernel_rfl) (fun w => by kernel_rfl) ?_
            exact QRun_done [6] (by kernel_rfl) (by kernel_rfl)
          have hF := M.ret_some hF
          subst hF
          have H56 := H34.empty cd23
          have H57 : Hold h h14 [own cd23 none 0 0 [], box bs_ 122 [.slice as_code s_.code.length cs_code, .int .i64 x9.2.at_, .int .i64 x9.2.seed], it] := H56.pick [0, 1, 3] (by kernel_rfl)
          exact Run_ret1 rfl (ResV_tmp (v := .slice none 0 0) (by kernel_rfl)) ⟨none, 0, rfl, H57⟩
        · have hF := (M.ite_some hF).2 hb6
          refine Run_skip ?_
          refine Run_blk ?_
          refine Run_seq ?_
          refine Run_reg 2 (by kernel_rfl) (L' := [(6, .slice a1 x1.length c1)]) ?_ ?_
          · refine QRun_b [.slice a1 x1.length c1, .slice a1 x1.length c1] 0 _ (by kernel_rfl) (fun w => by kernel_rfl) ?_
            exact QRun_done [6] (by kernel_rfl) (by kernel_rfl)
          have hF := M.ret_some hF
          subst hF
          have H58 : Hold h h14 [own cd23 a1 x1.length c1 x3.2.2, box bs_ 122 [.slice as_code s_.code.length cs_code, .int .i64 x9.2.at_, .int .i64 x9.2.seed], it] := H34.pick [1, 0, 2] (by kernel_rfl)
          have H59 := H58.norm
          exact Run_ret1 rfl (ResV_tmp (v := .slice a1 x1.length c1) (by kernel_rfl)) ⟨a1, c1, (by simp only [(H58.len 0 rfl)]), H59⟩
  · refine Run_block ?_
    have H60 : Hold h h3 [box bs_ 122 [.slice as_code s_.code.length cs_code, .int .i64 x2.2.1.at_, .int .i64 x2.2.1.seed], own cd23 a1 x1.length c1 x1, it] := H8.pick [0, 2, 3] (by kernel_rfl)
    refine Run_keep [0, 1, 2, 7, 8, 9] (L' := [(0, .pointer (some ⟨bs_, 0, none⟩)), (1, .int .i64 m_), (2, .int .i64 n_), (7, .slice a1 x1.length c1), (8, .int .i64 x2.1), (9, .int .i64 0)]) (by kernel_rfl) ?_
    refine Run_loop (fun m L' h' => ∃ (i1 : Int) (s1 : Int × Int × (List (List Int))), 0 ≤ i1 ∧ M.forN m_ _ _ n m i1 s1 = some x3 ∧ L' = [(0, .pointer (some ⟨bs_, 0, none⟩)), (1, .int .i64 m_), (2, .int .i64 n_), (7, .slice a1 x1.length c1), (8, .int .i64 x2.1), (9, .int .i64 i1)] ∧ Hold h h' [box bs_ 122 [.slice as_code s_.code.length cs_code, .int .i64 s1.1, .int .i64 s1.2.1], own cd23 a1 x1.length c1 s1.2.2, it]) (m_ - 0 : Int).toNat ⟨0, (x2.2.1.at_, x2.2.1.seed, x1), Int.le_refl _, gx3, rfl, H60⟩ ?_
    rintro my1 _ h4 ⟨i1, s1, hloy1', gx3, rfl, H9⟩
    refine Run_seq ?_
    refine Run_seq ?_
    refine Run_reg 3 (by kernel_rfl) (L' := [(0, .pointer (some ⟨bs_, 0, none⟩)), (1, .int .i64 m_), (2, .int .i64 n_), (7, .slice a1 x1.length c1), (8, .int .i64 x2.1), (9, .int .i64 i1), (19, .bool (decide (i1 < m_)))]) ?_ ?_
    · refine QRun_b [.int .i64 i1, .int .i64 m_, .bool (decide (i1 < m_))] 0 _ (by kernel_rfl) (fun w => by kernel_rfl) ?_
      exact QRun_done [0, 1, 2, 7, 8, 9, 19] (by kernel_rfl) (by kernel_rfl)
    refine Run_cond (b := decide (i1 < m_)) (by kernel_rfl) (fun hb1 => ?_) (fun hb1 => ?_)
    · obtain ⟨my1, y1, rfl, hB1, hgoy1, houty1⟩ := M.for_go gx3 hb1
      have hlty1 := of_decide_eq_true hb1
      refine Run_skip ?_
      refine Run_seq ?_
      refine Run_block ?_
      refine Run_seq ?_
      refine Run_reg 1 (by kernel_rfl) (L' := [(0, .pointer (some ⟨bs_, 0, none⟩)), (1, .int .i64 m_), (2, .int .i64 n_), (7, .slice a1 x1.length c1), (8, .int .i64 x2.1), (9, .int .i64 i1), (10, .int .i64 0)]) ?_ ?_
      · refine QRun_b [.int .i64 0] 0 _ (by kernel_rfl) (fun w => by kernel_rfl) ?_
        exact QRun_done [0, 1, 2, 7, 8, 9, 10] (by kernel_rfl) (by kernel_rfl)
      obtain ⟨x4, gx4, hB1⟩ := M.bind_some hB1
      obtain ⟨hloy2, hhiy2, gx4⟩ := M.for_start gx4
      refine Run_join (fun L' h' => L' = [(0, .pointer (some ⟨bs_, 0, none⟩)), (1, .int .i64 m_), (2, .int .i64 n_), (7, .slice a1 x1.length c1), (8, .int .i64 x2.1), (9, .int .i64 i1)] ∧ Hold h h' [box bs_ 122 [.slice as_code s_.code.length cs_code, .int .i64 x4.1, .int .i64 x4.2.1], own cd23 a1 x1.length c1 x4.2.2, it]) ?_ ?_
      · rintro _ h7 ⟨rfl, H12⟩
        refine Run_blk ?_
        refine Run_reg 3 (by kernel_rfl) (L' := [(0, .pointer (some ⟨bs_, 0, none⟩)), (1, .int .i64 m_), (2, .int .i64 n_), (7, .slice a1 x1.length c1), (8, .int .i64 x2.1), (9, .int .i64 (i1 + 1))]) ?_ ?_
        · refine QRun_b [.int .i64 i1] 0 _ (by kernel_rfl) (fun w => by kernel_rfl) ?_
          refine QRun_y (.int .i64 (i1 + 1)) (by kernel_rfl) (Y_eq (v := .int .i64 (w64 (i1 + 1))) (Y_pure (fun w => by kernel_rfl)) (by rw [w64_eq _ (by omega)])) ?_
          refine QRun_b [.int .i64 (i1 + 1)] 2 _ (by kernel_rfl) (fun w => by kernel_rfl) ?_
          exact QRun_done [0, 1, 2, 7, 8, 9] (by kernel_rfl) (by kernel_rfl)
        have hB1 := M.ret_some hB1
        have gx3 := hgoy1 _ hB1.symm
        exact Run_again [0, 1, 2, 7, 8, 9] (by kernel_rfl) my1 (Nat.lt_succ_self _) ⟨i1 + 1, (x4.1, x4.2.1, x4.2.2), by omega, gx3, rfl, H12⟩
      · refine Run_block ?_
        refine Run_keep [0, 1, 2, 7, 8, 9, 10] (L' := [(0, .pointer (some ⟨bs_, 0, none⟩)), (1, .int .i64 m_), (2, .int .i64 n_), (7, .slice a1 x1.length c1), (8, .int .i64 x2.1), (9, .int .i64 i1), (10, .int .i64 0)]) (by kernel_rfl) ?_
        refine Run_loop (fun m L' h' => ∃ (i2 : Int) (s2 : Int × Int × (List (List Int))), 0 ≤ i2 ∧ M.forN n_ _ _ n m i2 s2 = some x4 ∧ L' = [(0, .pointer (some ⟨bs_, 0, none⟩)), (1, .int .i64 m_), (2, .int .i64 n_), (7, .slice a1 x1.length c1), (8, .int .i64 x2.1), (9, .int .i64 i1), (10, .int .i64 i2)] ∧ Hold h h' [box bs_ 122 [.slice as_code s_.code.length cs_code, .int .i64 s2.1, .int .i64 s2.2.1], own cd23 a1 x1.length c1 s2.2.2, it]) (n_ - 0 : Int).toNat ⟨0, (s1.1, s1.2.1, s1.2.2), Int.le_refl _, gx4, rfl, H9⟩ ?_
        rintro my2 _ h6 ⟨i2, s2, hloy2', gx4, rfl, H11⟩
        refine Run_seq ?_
        refine Run_seq ?_
        refine Run_reg 3 (by kernel_rfl) (L' := [(0, .pointer (some ⟨bs_, 0, none⟩)), (1, .int .i64 m_), (2, .int .i64 n_), (7, .slice a1 x1.length c1), (8, .int .i64 x2.1), (9, .int .i64 i1), (10, .int .i64 i2), (24, .bool (decide (i2 < n_)))]) ?_ ?_
        · refine QRun_b [.int .i64 i2, .int .i64 n_, .bool (decide (i2 < n_))] 0 _ (by kernel_rfl) (fun w => by kernel_rfl) ?_
          exact QRun_done [0, 1, 2, 7, 8, 9, 10, 24] (by kernel_rfl) (by kernel_rfl)
        refine Run_cond (b := decide (i2 < n_)) (by kernel_rfl) (fun hb2 => ?_) (fun hb2 => ?_)
        · obtain ⟨my2, y2, rfl, hB2, hgoy2, houty2⟩ := M.for_go gx4 hb2
          have hlty2 := of_decide_eq_true hb2
          refine Run_skip ?_
          refine Run_seq ?_
          refine Run_block ?_
          refine Run_seq ?_
          refine Run_ops ?_
          refine Run_b [.pointer (some ⟨bs_, 0, none⟩), .int .i64 x2.1] 0 _ (by kernel_rfl) (fun w => by kernel_rfl) ?_
          obtain ⟨x5, hx3, hB2⟩ := M.bind_some hB2
          have H13 : Hold h h6 [box bs_ 122 [.slice as_code s_.code.length cs_code, .int .i64 s2.1, .int .i64 s2.2.1], bun [own cd23 a1 x1.length c1 s2.2.2, it]] := Hold.bundle (S := [box bs_ 122 [.slice as_code s_.code.length cs_code, .int .i64 s2.1, .int .i64 s2.2.1]]) (R := [own cd23 a1 x1.length c1 s2.2.2, it]) H11
          refine Run_E (by kernel_rfl) ?_
          refine E_call (f := 67) (args := #[.pointer (some ⟨bs_, 0, none⟩), .int .i64 x2.1]) (w_spec_l01Next h h6 _ (⟨s_.code, s2.1, s2.2.1⟩ : TL01source) bs_ as_code cs_code rs_code x2.1 H13 _ _ hx3) (by kernel_rfl) (fun v3 h8 hp3 => ?_)
          obtain ⟨rfl, H14⟩ := hp3
          have H15 : Hold h h8 [box bs_ 122 [.slice as_code s_.code.length cs_code, .int .i64 x5.2.at_, .int .i64 x5.2.seed], own cd23 a1 x1.length c1 s2.2.2, it] := Hold.unbundle (S := [box bs_ 122 [.slice as_code s_.code.length cs_code, .int .i64 x5.2.at_, .int .i64 x5.2.seed]]) (R := [own cd23 a1 x1.length c1 s2.2.2, it]) H14 (Hold.tailBase (S := [box bs_ 122 [.slice as_code s_.code.length cs_code, .int .i64 s2.1, .int .i64 s2.2.1]]) (R := [own cd23 a1 x1.length c1 s2.2.2, it]) H11)
          refine Run_b [.bool (decide (0 < x5.1))] 3 _ (by kernel_rfl) (fun w => by kernel_rfl) ?_
          refine Run_nil (by kernel_rfl) ?_
          refine Run_keep [0, 1, 2, 7, 8, 9, 10, 30] (L' := [(0, .pointer (some ⟨bs_, 0, none⟩)), (1, .int .i64 m_), (2, .int .i64 n_), (7, .slice a1 x1.length c1), (8, .int .i64 x2.1), (9, .int .i64 i1), (10, .int .i64 i2), (30, .bool (decide (0 < x5.1)))]) (by kernel_rfl) ?_
          obtain ⟨s3, gs3, hB2⟩ := M.bind_some hB2
          refine Run_join (fun L' h' => L' = [(0, .pointer (some ⟨bs_, 0, none⟩)), (1, .int .i64 m_), (2, .int .i64 n_), (7, .slice a1 x1.length c1), (8, .int .i64 x2.1), (9, .int .i64 i1), (10, .int .i64 i2)] ∧ Hold h h' [box bs_ 122 [.slice as_code s_.code.length cs_code, .int .i64 s3.1, .int .i64 s3.2.1], own cd23 a1 x1.length c1 s3.2.2, it]) ?_ ?_
          · rintro _ h13 ⟨rfl, H29⟩
            refine Run_blk ?_
            refine Run_reg 3 (by kernel_rfl) (L' := [(0, .pointer (some ⟨bs_, 0, none⟩)), (1, .int .i64 m_), (2, .int .i64 n_), (7, .slice a1 x1.length c1), (8, .int .i64 x2.1), (9, .int .i64 i1), (10, .int .i64 (i2 + 1))]) ?_ ?_
            · refine QRun_b [.int .i64 i2] 0 _ (by kernel_rfl) (fun w => by kernel_rfl) ?_
              refine QRun_y (.int .i64 (i2 + 1)) (by kernel_rfl) (Y_eq (v := .int .i64 (w64 (i2 + 1))) (Y_pure (fun w => by kernel_rfl)) (by rw [w64_eq _ (by omega)])) ?_
              refine QRun_b [.int .i64 (i2 + 1)] 2 _ (by kernel_rfl) (fun w => by kernel_rfl) ?_
              exact QRun_done [0, 1, 2, 7, 8, 9, 10] (by kernel_rfl) (by kernel_rfl)
            have hB2 := M.ret_some hB2
            have gx4 := hgoy2 _ hB2.symm
            exact Run_again [0, 1, 2, 7, 8, 9, 10] (by kernel_rfl) my2 (Nat.lt_succ_self _) ⟨i2 + 1, (s3.1, s3.2.1, s3.2.2), by omega, gx4, rfl, H29⟩
          · refine Run_cond (b := decide (0 < x5.1)) (by kernel_rfl) (fun hb3 => ?_) (fun hb3 => ?_)
            · have gs3 := (M.ite_some gs3).1 hb3
              obtain ⟨x6, hx4, gs3⟩ := M.bind_some gs3
              obtain ⟨hx4l, hx4u, hx4⟩ := M.idx_some hx4
              have H16 : Hold h h8 [own cd23 a1 x1.length c1 s2.2.2, box bs_ 122 [.slice as_code s_.code.length cs_code, .int .i64 x5.2.at_, .int .i64 x5.2.seed], it] := H15.pick [1, 0, 2] (by kernel_rfl)
              have H17 := H16.toRows
              obtain ⟨a3, c2, H18⟩ := H17.pinRow hx4
              have H19 : Hold h h8 [box bs_ 122 [.slice as_code s_.code.length cs_code, .int .i64 x5.2.at_, .int .i64 x5.2.seed], rowsP cd2 23 a1 x1.length c1 s2.2.2 [(i1.toNat, a3, x6.length, c2, x6)], it] := H18.pick [1, 0, 2] (by kernel_rfl)
              refine Run_D (fun x => Hold h x [rowsP cd2 23 a1 x1.length c1 s2.2.2 [(i1.toNat, a3, x6.length, c2, x6)], it]) (fun x => Hold h x [box bs_ 122 [.slice as_code s_.code.length cs_code, .int .i64 x5.2.at_, .int .i64 x5.2.seed], rowsP cd2 23 a1 x1.length c1 s2.2.2 [(i1.toNat, a3, x6.length, c2, x6)], it]) mixed (by kernel_rfl) H19 Hold.stable (fun x Hy => (show Hold h x [box bs_ 122 [.slice as_code s_.code.length cs_code, .int .i64 x5.2.at_, .int .i64 x5.2.seed], rowsP cd2 23 a1 x1.length c1 s2.2.2 [(i1.toNat, a3, x6.length, c2, x6)], it] from Hy).pick [1, 2] (by kernel_rfl)) ?_
              refine DR_b 8 [.slice a1 x1.length c1, .int .i64 i1] 0 (by kernel_rfl) (by kernel_rfl) (by kernel_rfl) (fun w => by kernel_rfl) ?_
              refine DR_y 7 (i := 2) (.pointer (some (adr a1 (i1.toNat * 1)))) (by kernel_rfl) (by kernel_rfl) (by kernel_rfl) (fun hx Hx => (YE.of (Y_idx (t := 22) (e := 23) (sz := 1) (a := a1) (n := x1.length) (cap := c1) (kk := .i64) (i := i1) (by kernel_rfl) Try.underlying22 (by kernel_rfl) ((H15.rd 1 rfl).cell hx4).1 hx4l (by rw [← (H15.len 1 rfl)]; exact hx4u)))) ?_
              refine DR_y 6 (i := 3) (.slice a3 x6.length c2) (by kernel_rfl) (by kernel_rfl) (by kernel_rfl) (fun hx Hx => (YE.of (Y_load1 (t := 23) (p := adr a1 (i1.toNat * 1)) (v := .slice a3 x6.length c2) (by kernel_rfl) (fun w => by kernel_rfl) (Hx.cellPin 0 rfl 0 rfl)))) ?_
              refine DR_b 4 [.int .i64 i2, .pointer (some ⟨bs_, 0, none⟩)] 4 (by kernel_rfl) (by kernel_rfl) (by kernel_rfl) (fun w => by kernel_rfl) ?_
              refine DR_e 3 6 (by kernel_rfl) (by kernel_rfl) (by kernel_rfl) (fun h9 H20 => ?_)
              have H21 : Hold h h9 [box bs_ 122 [.slice as_code s_.code.length cs_code, .int .i64 x5.2.at_, .int .i64 x5.2.seed], rowsP cd2 23 a1 x1.length c1 s2.2.2 [(i1.toNat, a3, x6.length, c2, x6)], it] := H20
              obtain ⟨x7, hx5, gs3⟩ := M.bind_some gs3
              have H22 : Hold h h9 [box bs_ 122 [.slice as_code s_.code.length cs_code, .int .i64 x5.2.at_, .int .i64 x5.2.seed], bun [rowsP cd2 23 a1 x1.length c1 s2.2.2 [(i1.toNat, a3, x6.length, c2, x6)], it]] := Hold.bundle (S := [box bs_ 122 [.slice as_code s_.code.length cs_code, .int .i64 x5.2.at_, .int .i64 x5.2.seed]]) (R := [rowsP cd2 23 a1 x1.length c1 s2.2.2 [(i1.toNat, a3, x6.length, c2, x6)], it]) H21
              refine E_call (f := 67) (args := #[.pointer (some ⟨bs_, 0, none⟩), .int .i64 26]) (w_spec_l01Next h h9 _ (⟨s_.code, x5.2.at_, x5.2.seed⟩ : TL01source) bs_ as_code cs_code rs_code 26 H22 _ _ hx5) (by kernel_rfl) (fun v4 h10 hp4 => ?_)
              obtain ⟨rfl, H23⟩ := hp4
              have H24 : Hold h h10 [box bs_ 122 [.slice as_code s_.code.length cs_code, .int .i64 x7.2.at_, .int .i64 x7.2.seed], rowsP cd2 23 a1 x1.length c1 s2.2.2 [(i1.toNat, a3, x6.length, c2, x6)], it] := Hold.unbundle (S := [box bs_ 122 [.slice as_code s_.code.length cs_code, .int .i64 x7.2.at_, .int .i64 x7.2.seed]]) (R := [rowsP cd2 23 a1 x1.length c1 s2.2.2 [(i1.toNat, a3, x6.length, c2, x6)], it]) H23 (Hold.tailBase (S := [box bs_ 122 [.slice as_code s_.code.length cs_code, .int .i64 x5.2.at_, .int .i64 x5.2.seed]]) (R := [rowsP cd2 23 a1 x1.length c1 s2.2.2 [(i1.toNat, a3, x6.length, c2, x6)], it]) H21)
              refine ⟨fun x => Hold h x [rowsP cd2 23 a1 x1.length c1 s2.2.2 [(i1.toNat, a3, x6.length, c2, x6)], it], fun x => Hold h x [box bs_ 122 [.slice as_code s_.code.length cs_code, .int .i64 x7.2.at_, .int .i64 x7.2.seed], rowsP cd2 23 a1 x1.length c1 s2.2.2 [(i1.toNat, a3, x6.length, c2, x6)], it], H24, Hold.stable, fun x Hy => (show Hold h x [box bs_ 122 [.slice as_code s_.code.length cs_code, .int .i64 x7.2.at_, .int .i64 x7.2.seed], rowsP cd2 23 a1 x1.length c1 s2.2.2 [(i1.toNat, a3, x6.length, c2, x6)], it] from Hy).pick [1, 2] (by kernel_rfl), fun x Hy => (show Hold h x [rowsP cd2 23 a1 x1.length c1 s2.2.2 [(i1.toNat, a3, x6.length, c2, x6)], it] from Hy).pick [0, 1] (by kernel_rfl), ?_⟩
              obtain ⟨x8, hx6, gs3⟩ := M.bind_some gs3
              obtain ⟨hx6l, hx6u, hx6⟩ := M.idx_some hx6
              refine DR_b 2 [.int .i64 (w64 (x7.1 - 10))] 7 (by kernel_rfl) (by kernel_rfl) (by kernel_rfl) (fun w => by kernel_rfl) ?_
              refine DR_y 1 (i := 8) (.pointer (some (adr a3 (i2.toNat * 1)))) (by kernel_rfl) (by kernel_rfl) (by kernel_rfl) (fun hx Hx => (YE.of (Y_idx (t := 23) (e := 2) (sz := 1) (a := a3) (n := x6.length) (cap := c2) (kk := .i64) (i := i2) (by kernel_rfl) Try.underlying23 (by kernel_rfl) ((H24.rdPin 1 rfl 0 rfl).cell hx6).1 hx6l hx6u))) ?_
              refine DR_tail (i := 9) (by kernel_rfl) (by kernel_rfl) (by kernel_rfl) (fun h11 H25 => ?_)
              have H26 : Hold h h11 [box bs_ 122 [.slice as_code s_.code.length cs_code, .int .i64 x7.2.at_, .int .i64 x7.2.seed], rowsP cd2 23 a1 x1.length c1 s2.2.2 [(i1.toNat, a3, x6.length, c2, x6)], it] := H25
              obtain ⟨l1, hu1, gs3⟩ := M.bind_some gs3
              have hu1 := M.upd_some hu1
              have H28 : Hold h h11 [rowsP cd2 23 a1 x1.length c1 s2.2.2 [(i1.toNat, a3, x6.length, c2, x6)], box bs_ 122 [.slice as_code s_.code.length cs_code, .int .i64 x7.2.at_, .int .i64 x7.2.seed], it] := H26.pick [1, 0, 2] (by kernel_rfl)
              refine Run_E (by kernel_rfl) ?_
              refine E_put2 (C := cd2) (t := 2) (sz := 1) (j := i2) (x := (w64 (x7.1 - 10))) (v := .int .i64 (w64 (x7.1 - 10))) (m2 := s2.2.2.set i1.toNat l1) H28 cd2_flat 0 rfl (by kernel_rfl) rfl (cd2_own _) (by kernel_rfl) hu1 rfl (fun h12 H27 => ?_)
              refine Run_nil (by kernel_rfl) ?_
              refine Run_keep [0, 1, 2, 7, 8, 9, 10] (L' := [(0, .pointer (some ⟨bs_, 0, none⟩)), (1, .int .i64 m_), (2, .int .i64 n_), (7, .slice a1 x1.length c1), (8, .int .i64 x2.1), (9, .int .i64 i1), (10, .int .i64 i2)]) (by kernel_rfl) ?_
              have H30 := H27.ofRows
              have H31 : Hold h h12 [box bs_ 122 [.slice as_code s_.code.length cs_code, .int .i64 x7.2.at_, .int .i64 x7.2.seed], own cd23 a1 x1.length c1 (s2.2.2.set i1.toNat l1), it] := H30.pick [1, 0, 2] (by kernel_rfl)
              have gs3 := M.ret_some gs3
              subst gs3
              exact Run_fall [0, 1, 2, 7, 8, 9, 10] (by kernel_rfl) ⟨rfl, H31⟩
            · have gs3 := (M.ite_some gs3).2 hb3
              refine Run_skip ?_
              have gs3 := M.ret_some gs3
              subst gs3
              exact Run_fall [0, 1, 2, 7, 8, 9, 10] (by kernel_rfl) ⟨rfl, H15⟩
        · have gx4 := M.for_end gx4 hb2
          subst gx4
          refine Run_exit (k' := _) rfl ?_
          exact Run_fall [0, 1, 2, 7, 8, 9] (by kernel_rfl) ⟨rfl, H11⟩
    · have gx3 := M.for_end gx3 hb1
      subst gx3
      refine Run_exit (k' := _) rfl ?_
      exact Run_fall [0, 7] (by kernel_rfl) ⟨rfl, H9⟩

set_option maxRecDepth 100000 in
set_option maxHeartbeats 4000000 in
theorem w_spec_l07Draw (h hE : Heap) (it : Item) (s_ : TL01source) (bs_ : Nat) (as_code : Option Addr) (cs_code : Nat) (rs_code : Rd cd5 h (Lt h) as_code cs_code s_.code) (HM : Hold h hE [box bs_ 122 [.slice as_code s_.code.length cs_code, .int .i64 s_.at_, .int .i64 s_.seed], it]) (n : Nat) (r : (List (List Int)) × TL01source) (hF : spec_l07Draw s_ n = some r) :
    Fn Try.prog 65 #[.pointer (some ⟨bs_, 0, none⟩)] hE fun v h' => ∃ (a0 : Option Addr) (c0 : Nat), v = .slice a0 r.1.length c0 ∧ Hold h h' [own cd23 a0 r.1.length c0 r.1, box bs_ 122 [.slice as_code s_.code.length cs_code, .int .i64 r.2.at_, .int .i64 r.2.seed], it] := by
  unfold spec_l07Draw at hF
  refine Fn_enter (args := [.pointer (some ⟨bs_, 0, none⟩)]) Try.func65 rfl (by kernel_rfl) (by kernel_rfl) (fun w0 _ => ?_)
  refine Run_seq ?_
  refine Run_reg 1 (by kernel_rfl) (L' := [(0, .pointer (some ⟨bs_, 0, none⟩))]) ?_ ?_
  · refine QRun_b [.slice none 0 0] 0 _ (by kernel_rfl) (fun w => by kernel_rfl) ?_
    exact QRun_done [0] (by kernel_rfl) (by kernel_rfl)
  refine Run_seq ?_
  refine Run_ops ?_
  refine Run_b [.pointer (some ⟨bs_, 0, none⟩)] 0 _ (by kernel_rfl) (fun w => by kernel_rfl) ?_
  obtain ⟨x1, hx1, hF⟩ := M.bind_some hF
  have H1 : Hold h hE [box bs_ 122 [.slice as_code s_.code.length cs_code, .int .i64 s_.at_, .int .i64 s_.seed], bun [it]] := Hold.bundle (S := [box bs_ 122 [.slice as_code s_.code.length cs_code, .int .i64 s_.at_, .int .i64 s_.seed]]) (R := [it]) HM
  refine Run_E (by kernel_rfl) ?_
  refine E_call (f := 67) (args := #[.pointer (some ⟨bs_, 0, none⟩), .int .i64 4]) (w_spec_l01Next h hE _ s_ bs_ as_code cs_code rs_code 4 H1 _ _ hx1) (by kernel_rfl) (fun v1 h1 hp1 => ?_)
  obtain ⟨rfl, H2⟩ := hp1
  have H3 : Hold h h1 [box bs_ 122 [.slice as_code s_.code.length cs_code, .int .i64 x1.2.at_, .int .i64 x1.2.seed], it] := Hold.unbundle (S := [box bs_ 122 [.slice as_code s_.code.length cs_code, .int .i64 x1.2.at_, .int .i64 x1.2.seed]]) (R := [it]) H2 (Hold.tailBase (S := [box bs_ 122 [.slice as_code s_.code.length cs_code, .int .i64 s_.at_, .int .i64 s_.seed]]) (R := [it]) HM)
  refine Run_b [.int .i64 (w64 (1 + x1.1)), .int .i64 (w64 (1 + x1.1))] 2 _ (by kernel_rfl) (fun w => by kernel_rfl) ?_
  refine Run_nil (by kernel_rfl) ?_
  refine Run_keep [0, 3] (L' := [(0, .pointer (some ⟨bs_, 0, none⟩)), (3, .int .i64 (w64 (1 + x1.1)))]) (by kernel_rfl) ?_
  refine Run_seq ?_
  refine Run_seq ?_
  refine Run_ops ?_
  refine Run_b [.pointer (some ⟨bs_, 0, none⟩)] 0 _ (by kernel_rfl) (fun w => by kernel_rfl) ?_
  obtain ⟨x2, hx2, hF⟩ := M.bind_some hF
  have H4 : Hold h h1 [box bs_ 122 [.slice as_code s_.code.length cs_code, .int .i64 x1.2.at_, .int .i64 x1.2.seed], bun [it]] := Hold.bundle (S := [box bs_ 122 [.slice as_code s_.code.length cs_code, .int .i64 x1.2.at_, .int .i64 x1.2.seed]]) (R := [it]) H3
  refine Run_E (by kernel_rfl) ?_
  refine E_call (f := 67) (args := #[.pointer (some ⟨bs_, 0, none⟩), .int .i64 40]) (w_spec_l01Next h h1 _ (⟨s_.code, x1.2.at_, x1.2.seed⟩ : TL01source) bs_ as_code cs_code rs_code 40 H4 _ _ hx2) (by kernel_rfl) (fun v2 h2 hp2 => ?_)
  obtain ⟨rfl, H5⟩ := hp2
  have H6 : Hold h h2 [box bs_ 122 [.slice as_code s_.code.length cs_code, .int .i64 x2.2.at_, .int .i64 x2.2.seed], it] := Hold.unbundle (S := [box bs_ 122 [.slice as_code s_.code.length cs_code, .int .i64 x2.2.at_, .int .i64 x2.2.seed]]) (R := [it]) H5 (Hold.tailBase (S := [box bs_ 122 [.slice as_code s_.code.length cs_code, .int .i64 x1.2.at_, .int .i64 x1.2.seed]]) (R := [it]) H3)
  refine Run_b [.bool (x2.1 == 0)] 2 _ (by kernel_rfl) (fun w => by kernel_rfl) ?_
  refine Run_nil (by kernel_rfl) ?_
  refine Run_keep [0, 3, 9] (L' := [(0, .pointer (some ⟨bs_, 0, none⟩)), (3, .int .i64 (w64 (1 + x1.1))), (9, .bool (x2.1 == 0))]) (by kernel_rfl) ?_
  refine Run_cond (b := x2.1 == 0) (by kernel_rfl) (fun hb1 => ?_) (fun hb1 => ?_)
  · have hF := (M.ite_some hF).1 hb1
    refine Run_seq ?_
    refine Run_ops ?_
    refine Run_b [.pointer (some ⟨bs_, 0, none⟩)] 0 _ (by kernel_rfl) (fun w => by kernel_rfl) ?_
    refine Run_E (by kernel_rfl) ?_
    refine E_lit (C := cd2) (n := 3) (l := ([100000, 9999, (-10001)] : List Int)) (cs := [.int .i64 100000, .int .i64 9999, .int .i64 (-10001)]) H6 (fun w => by kernel_rfl) (Enc.consE (cd2_own 100000 _) (Enc.consE (cd2_own 9999 _) (Enc.consE (cd2_own (-10001) _) (Enc.nil _ _) rfl) rfl) rfl) rfl (by decide) (fun a1 h3 H7 => ?_)
    obtain ⟨x3, hx3, hF⟩ := M.bind_some hF
    have hn1 := (H7.len 0 rfl)
    have H8 : Hold h h3 [own cd2 a1 (([100000, 9999, (-10001)] : List Int).length) 3 ([100000, 9999, (-10001)] : List Int), box bs_ 122 [.slice as_code s_.code.length cs_code, .int .i64 x2.2.at_, .int .i64 x2.2.seed], it] := by rw [hn1]; exact H7
    have H9 : Hold h h3 [box bs_ 122 [.slice as_code s_.code.length cs_code, .int .i64 x2.2.at_, .int .i64 x2.2.seed], own cd2 a1 (([100000, 9999, (-10001)] : List Int).length) 3 ([100000, 9999, (-10001)] : List Int), it] := H8.pick [1, 0, 2] (by kernel_rfl)
    have H10 : Hold h h3 [box bs_ 122 [.slice as_code s_.code.length cs_code, .int .i64 x2.2.at_, .int .i64 x2.2.seed], own cd2 a1 (([100000, 9999, (-10001)] : List Int).length) 3 ([100000, 9999, (-10001)] : List Int), bun [it]] := Hold.bundle (S := [box bs_ 122 [.slice as_code s_.code.length cs_code, .int .i64 x2.2.at_, .int .i64 x2.2.seed], own cd2 a1 (([100000, 9999, (-10001)] : List Int).length) 3 ([100000, 9999, (-10001)] : List Int)]) (R := [it]) H9
    refine Run_E (by kernel_rfl) ?_
    refine E_call (f := 66) (args := #[.pointer (some ⟨bs_, 0, none⟩), .slice a1 3 3]) (Fn.arg (w_spec_l01Pick h h3 _ (⟨s_.code, x2.2.at_, x2.2.seed⟩ : TL01source) bs_ as_code cs_code rs_code ([100000, 9999, (-10001)] : List Int) a1 3 H10 _ _ hx3) (by simp only [hn1])) (by kernel_rfl) (fun v3 h4 hp3 => ?_)
    obtain ⟨rfl, H11⟩ := hp3
    have H12 : Hold h h4 [box bs_ 122 [.slice as_code s_.code.length cs_code, .int .i64 x3.2.1.at_, .int .i64 x3.2.1.seed], own cd2 a1 (([100000, 9999, (-10001)] : List Int).length) 3 x3.2.2, it] := Hold.unbundle (S := [box bs_ 122 [.slice as_code s_.code.length cs_code, .int .i64 x3.2.1.at_, .int .i64 x3.2.1.seed], own cd2 a1 (([100000, 9999, (-10001)] : List Int).length) 3 x3.2.2]) (R := [it]) H11 (Hold.tailBase (S := [box bs_ 122 [.slice as_code s_.code.length cs_code, .int .i64 x2.2.at_, .int .i64 x2.2.seed], own cd2 a1 (([100000, 9999, (-10001)] : List Int).length) 3 ([100000, 9999, (-10001)] : List Int)]) (R := [it]) H9)
    refine Run_E (by kernel_rfl) ?_
    refine E_lit (C := cd2) (n := 1) (l := ([x3.1] : List Int)) (cs := [.int .i64 x3.1]) H12 (fun w => by kernel_rfl) (Enc.consE (cd2_own x3.1 _) (Enc.nil _ _) rfl) rfl (by decide) (fun a2 h5 H13 => ?_)
    refine Run_E (by kernel_rfl) ?_
    refine E_lit1 (ey := 23) (n := 1) H13 (fun w => by kernel_rfl) rfl (fun a3 h6 H14 => ?_)
    refine Run_b [.slice a3 1 1] 5 _ (by kernel_rfl) (fun w => by kernel_rfl) ?_
    refine Run_nil (by kernel_rfl) ?_
    refine Run_keep [2] (L' := [(2, .slice a3 1 1)]) (by kernel_rfl) ?_
    have hF := M.ret_some hF
    subst hF
    have H15 := H14.norm
    have H16 : Hold h h6 [own cd23 a3 ([([x3.1] : List Int)].length) 1 [([x3.1] : List Int)], box bs_ 122 [.slice as_code s_.code.length cs_code, .int .i64 x3.2.1.at_, .int .i64 x3.2.1.seed], it] := H15.pick [0, 1, 3] (by kernel_rfl)
    exact Run_ret1 rfl (ResV_tmp (v := .slice a3 1 1) (by kernel_rfl)) ⟨a3, 1, (by simp only [(H14.len 0 rfl)]), H16⟩
  · have hF := (M.ite_some hF).2 hb1
    refine Run_skip ?_
    refine Run_seq ?_
    refine Run_ops ?_
    refine Run_b [.pointer (some ⟨bs_, 0, none⟩), .int .i64 (w64 (1 + x1.1)), .int .i64 (w64 (1 + x1.1))] 0 _ (by kernel_rfl) (fun w => by kernel_rfl) ?_
    obtain ⟨x4, hx4, hF⟩ := M.bind_some hF
    have H17 : Hold h h2 [box bs_ 122 [.slice as_code s_.code.length cs_code, .int .i64 x2.2.at_, .int .i64 x2.2.seed], bun [it]] := Hold.bundle (S := [box bs_ 122 [.slice as_code s_.code.length cs_code, .int .i64 x2.2.at_, .int .i64 x2.2.seed]]) (R := [it]) H6
    refine Run_E (by kernel_rfl) ?_
    refine E_call (f := 129) (args := #[.pointer (some ⟨bs_, 0, none⟩), .int .i64 (w64 (1 + x1.1)), .int .i64 (w64 (1 + x1.1))]) (w_spec_l02DrawSize h h2 _ (⟨s_.code, x2.2.at_, x2.2.seed⟩ : TL01source) bs_ as_code cs_code rs_code (w64 (1 + x1.1)) (w64 (1 + x1.1)) H17 _ _ hx4) (by kernel_rfl) (fun v4 h7 hp4 => ?_)
    obtain ⟨a4, c1, rfl, H18⟩ := hp4
    have H19 : Hold h h7 [own cd23 a4 x4.1.length c1 x4.1, box bs_ 122 [.slice as_code s_.code.length cs_code, .int .i64 x4.2.at_, .int .i64 x4.2.seed], it] := Hold.unbundle (S := [own cd23 a4 x4.1.length c1 x4.1, box bs_ 122 [.slice as_code s_.code.length cs_code, .int .i64 x4.2.at_, .int .i64 x4.2.seed]]) (R := [it]) H18 (Hold.tailBase (S := [box bs_ 122 [.slice as_code s_.code.length cs_code, .int .i64 x2.2.at_, .int .i64 x2.2.seed]]) (R := [it]) H6)
    refine Run_b [.slice a4 x4.1.length c1] 4 _ (by kernel_rfl) (fun w => by kernel_rfl) ?_
    refine Run_nil (by kernel_rfl) ?_
    refine Run_keep [2] (L' := [(2, .slice a4 x4.1.length c1)]) (by kernel_rfl) ?_
    have hF := M.ret_some hF
    subst hF
    exact Run_ret1 rfl (ResV_tmp (v := .slice a4 x4.1.length c1) (by kernel_rfl)) ⟨a4, c1, rfl, H19⟩

set_option maxRecDepth 100000 in
set_option maxHeartbeats 4000000 in
theorem w_spec_l02DrawVector (h hE : Heap) (it : Item) (s_ : TL01source) (bs_ : Nat) (as_code : Option Addr) (cs_code : Nat) (rs_code : Rd cd5 h (Lt h) as_code cs_code s_.code) (n_ : Int) (HM : Hold h hE [box bs_ 122 [.slice as_code s_.code.length cs_code, .int .i64 s_.at_, .int .i64 s_.seed], it]) (n : Nat) (r : (List Int) × TL01source) (hF : spec_l02DrawVector s_ n_ n = some r) :
    Fn Try.prog 100 #[.pointer (some ⟨bs_, 0, none⟩), .int .i64 n_] hE fun v h' => ∃ (a0 : Option Addr) (c0 : Nat), v = .slice a0 r.1.length c0 ∧ Hold h h' [own cd2 a0 r.1.length c0 r.1, box bs_ 122 [.slice as_code s_.code.length cs_code, .int .i64 r.2.at_, .int .i64 r.2.seed], it] := by
  unfold spec_l02DrawVector at hF
  refine Fn_enter (args := [.pointer (some ⟨bs_, 0, none⟩), .int .i64 n_]) Try.func100 rfl (by kernel_rfl) (by kernel_rfl) (fun w0 _ => ?_)
  refine Run_seq ?_
  refine Run_reg 1 (by kernel_rfl) (L' := [(0, .pointer (some ⟨bs_, 0, none⟩)), (1, .int .i64 n_)]) ?_ ?_
  · refine QRun_b [.slice none 0 0] 0 _ (by kernel_rfl) (fun w => by kernel_rfl) ?_
    exact QRun_done [0, 1] (by kernel_rfl) (by kernel_rfl)
  refine Run_seq ?_
  refine Run_ops ?_
  refine Run_E (by kernel_rfl) ?_
  refine E_lit (C := cd2) (n := 0) (l := ([] : List Int)) (cs := []) HM (fun w => by kernel_rfl) (Enc.nil _ _) rfl (by decide) (fun a1 h1 H1 => ?_)
  refine Run_b [.slice a1 0 0] 1 _ (by kernel_rfl) (fun w => by kernel_rfl) ?_
  refine Run_nil (by kernel_rfl) ?_
  refine Run_keep [0, 1, 5] (L' := [(0, .pointer (some ⟨bs_, 0, none⟩)), (1, .int .i64 n_), (5, .slice a1 0 0)]) (by kernel_rfl) ?_
  refine Run_seq ?_
  obtain ⟨x1, gx1, hF⟩ := M.bind_some hF
  refine Run_join (fun L' h' => ∃ (a3 : Option Addr) (c2 : Nat), L' = [(0, .pointer (some ⟨bs_, 0, none⟩)), (5, .slice a3 x1.2.2.2.length c2)] ∧ Hold h h' [box bs_ 122 [.slice as_code s_.code.length cs_code, .int .i64 x1.1, .int .i64 x1.2.1], own cd2 a3 x1.2.2.2.length c2 x1.2.2.2, it]) ?_ ?_
  · rintro _ h3 ⟨a3, c2, rfl, H3⟩
    refine Run_seq ?_
    refine Run_seq ?_
    refine Run_ops ?_
    refine Run_b [.pointer (some ⟨bs_, 0, none⟩)] 0 _ (by kernel_rfl) (fun w => by kernel_rfl) ?_
    obtain ⟨x5, hx4, hF⟩ := M.bind_some hF
    have H25 : Hold h h3 [box bs_ 122 [.slice as_code s_.code.length cs_code, .int .i64 x1.1, .int .i64 x1.2.1], bun [own cd2 a3 x1.2.2.2.length c2 x1.2.2.2, it]] := Hold.bundle (S := [box bs_ 122 [.slice as_code s_.code.length cs_code, .int .i64 x1.1, .int .i64 x1.2.1]]) (R := [own cd2 a3 x1.2.2.2.length c2 x1.2.2.2, it]) H3
    refine Run_E (by kernel_rfl) ?_
    refine E_call (f := 67) (args := #[.pointer (some ⟨bs_, 0, none⟩), .int .i64 60]) (w_spec_l01Next h h3 _ (⟨s_.code, x1.1, x1.2.1⟩ : TL01source) bs_ as_code cs_code rs_code 60 H25 _ _ hx4) (by kernel_rfl) (fun v3 h10 hp3 => ?_)
    obtain ⟨rfl, H26⟩ := hp3
    have H27 : Hold h h10 [box bs_ 122 [.slice as_code s_.code.length cs_code, .int .i64 x5.2.at_, .int .i64 x5.2.seed], own cd2 a3 x1.2.2.2.length c2 x1.2.2.2, it] := Hold.unbundle (S := [box bs_ 122 [.slice as_code s_.code.length cs_code, .int .i64 x5.2.at_, .int .i64 x5.2.seed]]) (R := [own cd2 a3 x1.2.2.2.length c2 x1.2.2.2, it]) H26 (Hold.tailBase (S := [box bs_ 122 [.slice as_code s_.code.length cs_code, .int .i64 x1.1, .int .i64 x1.2.1]]) (R := [own cd2 a3 x1.2.2.2.length c2 x1.2.2.2, it]) H3)
    refine Run_nil (by kernel_rfl) ?_
    refine Run_keep [0, 5, 26] (L' := [(0, .pointer (some ⟨bs_, 0, none⟩)), (5, .slice a3 x1.2.2.2.length c2), (26, .int .i64 x5.1)]) (by kernel_rfl) ?_
    refine Run_block ?_
    refine Run_seq ?_
    refine Run_reg 2 (by kernel_rfl) (L' := [(0, .pointer (some ⟨bs_, 0, none⟩)), (5, .slice a3 x1.2.2.2.length c2), (26, .int .i64 x5.1), (27, .bool (x5.1 == 0))]) ?_ ?_
    · refine QRun_b [.bool (x5.1 == 0), .bool (x5.1 == 0)] 0 _ (by kernel_rfl) (fun w => by kernel_rfl) ?_
      exact QRun_done [0, 5, 26, 27] (by kernel_rfl) (by kernel_rfl)
    refine Run_cond (b := x5.1 == 0) (by kernel_rfl) (fun hb3 => ?_) (fun hb3 => ?_)
    · have hF := (M.ite_some hF).1 hb3
      refine Run_seq ?_
      refine Run_ops ?_
      refine Run_b [.slice a3 x1.2.2.2.length c2, .pointer (some ⟨bs_, 0, none⟩)] 0 _ (by kernel_rfl) (fun w => by kernel_rfl) ?_
      obtain ⟨x6, hx5, hF⟩ := M.bind_some hF
      have H28 : Hold h h10 [box bs_ 122 [.slice as_code s_.code.length cs_code, .int .i64 x5.2.at_, .int .i64 x5.2.seed], bun [own cd2 a3 x1.2.2.2.length c2 x1.2.2.2, it]] := Hold.bundle (S := [box bs_ 122 [.slice as_code s_.code.length cs_code, .int .i64 x5.2.at_, .int .i64 x5.2.seed]]) (R := [own cd2 a3 x1.2.2.2.length c2 x1.2.2.2, it]) H27
      refine Run_E (by kernel_rfl) ?_
      refine E_call (f := 145) (args := #[.pointer (some ⟨bs_, 0, none⟩)]) (w_spec_l01DrawValue h h10 _ (⟨s_.code, x5.2.at_, x5.2.seed⟩ : TL01source) bs_ as_code cs_code rs_code H28 _ _ hx5) (by kernel_rfl) (fun v4 h11 hp4 => ?_)
      obtain ⟨rfl, H29⟩ := hp4
      have H30 : Hold h h11 [box bs_ 122 [.slice as_code s_.code.length cs_code, .int .i64 x6.2.at_, .int .i64 x6.2.seed], own cd2 a3 x1.2.2.2.length c2 x1.2.2.2, it] := Hold.unbundle (S := [box bs_ 122 [.slice as_code s_.code.length cs_code, .int .i64 x6.2.at_, .int .i64 x6.2.seed]]) (R := [own cd2 a3 x1.2.2.2.length c2 x1.2.2.2, it]) H29 (Hold.tailBase (S := [box bs_ 122 [.slice as_code s_.code.length cs_code, .int .i64 x5.2.at_, .int .i64 x5.2.seed]]) (R := [own cd2 a3 x1.2.2.2.length c2 x1.2.2.2, it]) H27)
      refine Run_E (by kernel_rfl) ?_
      refine E_lit (C := cd2) (n := 1) (l := ([x6.1] : List Int)) (cs := [.int .i64 x6.1]) H30 (fun w => by kernel_rfl) (Enc.consE (cd2_own x6.1 _) (Enc.nil _ _) rfl) rfl (by decide) (fun a6 h12 H31 => ?_)
      obtain ⟨l3, hl2, hF⟩ := M.bind_some hF
      have hl2 := M.app_some hl2
      have H32 : Hold h h12 [own cd2 a3 x1.2.2.2.length c2 x1.2.2.2, own cd2 a6 1 1 ([x6.1] : List Int), box bs_ 122 [.slice as_code s_.code.length cs_code, .int .i64 x6.2.at_, .int .i64 x6.2.seed], it] := H31.pick [2, 0, 1, 3] (by kernel_rfl)
      have H33 : Hold h h12 [own cd2 a6 1 1 ([x6.1] : List Int), own cd2 a3 x1.2.2.2.length c2 x1.2.2.2, box bs_ 122 [.slice as_code s_.code.length cs_code, .int .i64 x6.2.at_, .int .i64 x6.2.seed], it] := H32.pick [1, 0, 2, 3] (by kernel_rfl)
      have H34 : Hold h h12 [own cd2 a3 x1.2.2.2.length c2 x1.2.2.2, own cd2 a6 1 1 ([x6.1] : List Int), box bs_ 122 [.slice as_code s_.code.length cs_code, .int .i64 x6.2.at_, .int .i64 x6.2.seed], it] := H33.pick [1, 0, 2, 3] (by kernel_rfl)
      refine Run_E (by kernel_rfl) ?_
      refine E_app (C := cd2) (t := 23) (ty := 23) (n := x1.2.2.2.length) (m := 1) H34 cd2_ti rfl Try.underlying23 (by decide) (by kernel_rfl) hl2 (fun a7 c4 h13 H35 => ?_)
      refine Run_b [.slice a7 l3.length c4] 5 _ (by kernel_rfl) (fun w => by kernel_rfl) ?_
      refine Run_nil (by kernel_rfl) ?_
      refine Run_keep [4] (L' := [(4, .slice a7 l3.length c4)]) (by kernel_rfl) ?_
      have hF := M.ret_some hF
      subst hF
      exact Run_ret1 rfl (ResV_tmp (v := .slice a7 l3.length c4) (by kernel_rfl)) ⟨a7, c4, rfl, H35⟩
    · have hF := (M.ite_some hF).2 hb3
      refine Run_seq ?_
      refine Run_reg 2 (by kernel_rfl) (L' := [(5, .slice a3 x1.2.2.2.length c2), (34, .bool (x5.1 == 1))]) ?_ ?_
      · refine QRun_b [.bool (x5.1 == 1), .bool (x5.1 == 1)] 0 _ (by kernel_rfl) (fun w => by kernel_rfl) ?_
        exact QRun_done [5, 34] (by kernel_rfl) (by kernel_rfl)
      refine Run_cond (b := x5.1 == 1) (by kernel_rfl) (fun hb4 => ?_) (fun hb4 => ?_)
      · have hF := (M.ite_some hF).1 hb4
        refine Run_seq ?_
        refine Run_reg 1 (by kernel_rfl) (L' := [(4, .slice none 0 0)]) ?_ ?_
        · refine QRun_b [.slice none 0 0] 0 _ (by kernel_rfl) (fun w => by kernel_rfl) ?_
          exact QRun_done [4] (by kernel_rfl) (by kernel_rfl)
        have hF := M.ret_some hF
        subst hF
        have H36 := H27.empty cd2
        have H37 : Hold h h10 [own cd2 none 0 0 [], box bs_ 122 [.slice as_code s_.code.length cs_code, .int .i64 x5.2.at_, .int .i64 x5.2.seed], it] := H36.pick [0, 1, 3] (by kernel_rfl)
        exact Run_ret1 rfl (ResV_tmp (v := .slice none 0 0) (by kernel_rfl)) ⟨none, 0, rfl, H37⟩
      · have hF := (M.ite_some hF).2 hb4
        refine Run_skip ?_
        refine Run_blk ?_
        refine Run_seq ?_
        refine Run_reg 2 (by kernel_rfl) (L' := [(4, .slice a3 x1.2.2.2.length c2)]) ?_ ?_
        · refine QRun_b [.slice a3 x1.2.2.2.length c2, .slice a3 x1.2.2.2.length c2] 0 _ (by kernel_rfl) (fun w => by kernel_rfl) ?_
          exact QRun_done [4] (by kernel_rfl) (by kernel_rfl)
        have hF := M.ret_some hF
        subst hF
        have H38 : Hold h h10 [own cd2 a3 x1.2.2.2.length c2 x1.2.2.2, box bs_ 122 [.slice as_code s_.code.length cs_code, .int .i64 x5.2.at_, .int .i64 x5.2.seed], it] := H27.pick [1, 0, 2] (by kernel_rfl)
        exact Run_ret1 rfl (ResV_tmp (v := .slice a3 x1.2.2.2.length c2) (by kernel_rfl)) ⟨a3, c2, rfl, H38⟩
  · refine Run_block ?_
    have hn2 := (H1.len 0 rfl)
    have H39 : Hold h h1 [own cd2 a1 (([] : List Int).length) 0 ([] : List Int), box bs_ 122 [.slice as_code s_.code.length cs_code, .int .i64 s_.at_, .int .i64 s_.seed], it] := by rw [hn2]; exact H1
    have H40 : Hold h h1 [box bs_ 122 [.slice as_code s_.code.length cs_code, .int .i64 s_.at_, .int .i64 s_.seed], own cd2 a1 (([] : List Int).length) 0 ([] : List Int), it] := H39.pick [1, 0, 2] (by kernel_rfl)
    refine Run_keep [0, 1, 5] (L' := [(0, .pointer (some ⟨bs_, 0, none⟩)), (1, .int .i64 n_), (5, .slice a1 (([] : List Int).length) 0)]) (by first | (rw [hn2]; kernel_rfl) | (simp only [hn2]; kernel_rfl) | kernel_rfl) ?_
    refine Run_loop (fun m L' h' => ∃ (s1 : Int × Int × Int × (List Int)) (a2 : Option Addr) (c1 : Nat), M.loopN _ n m s1 = some x1 ∧ L' = [(0, .pointer (some ⟨bs_, 0, none⟩)), (1, .int .i64 s1.2.2.1), (5, .slice a2 s1.2.2.2.length c1)] ∧ Hold h h' [box bs_ 122 [.slice as_code s_.code.length cs_code, .int .i64 s1.1, .int .i64 s1.2.1], own cd2 a2 s1.2.2.2.length c1 s1.2.2.2, it]) n ⟨(s_.at_, s_.seed, n_, ([] : List Int)), a1, 0, gx1, rfl, H40⟩ ?_
    rintro my1 _ h2 ⟨s1, a2, c1, gx1, rfl, H2⟩
    obtain ⟨my1, y1, rfl, hB1, hgoy1, houty1⟩ := M.loop_some gx1
    refine Run_seq ?_
    refine Run_seq ?_
    refine Run_reg 2 (by kernel_rfl) (L' := [(0, .pointer (some ⟨bs_, 0, none⟩)), (1, .int .i64 s1.2.2.1), (5, .slice a2 s1.2.2.2.length c1), (8, .bool (decide (0 < s1.2.2.1)))]) ?_ ?_
    · refine QRun_b [.int .i64 s1.2.2.1, .bool (decide (0 < s1.2.2.1))] 0 _ (by kernel_rfl) (fun w => by kernel_rfl) ?_
      exact QRun_done [0, 1, 5, 8] (by kernel_rfl) (by kernel_rfl)
    refine Run_cond (b := decide (0 < s1.2.2.1)) (by kernel_rfl) (fun hb1 => ?_) (fun hb1 => ?_)
    · have hB1 := (M.ite_some hB1).1 hb1
      refine Run_skip ?_
      refine Run_seq ?_
      refine Run_block ?_
      refine Run_seq ?_
      refine Run_ops ?_
      refine Run_b [.slice a2 s1.2.2.2.length c1, .pointer (some ⟨bs_, 0, none⟩)] 0 _ (by kernel_rfl) (fun w => by kernel_rfl) ?_
      obtain ⟨x2, hx1, hB1⟩ := M.bind_some hB1
      have H4 : Hold h h2 [box bs_ 122 [.slice as_code s_.code.length cs_code, .int .i64 s1.1, .int .i64 s1.2.1], bun [own cd2 a2 s1.2.2.2.length c1 s1.2.2.2, it]] := Hold.bundle (S := [box bs_ 122 [.slice as_code s_.code.length cs_code, .int .i64 s1.1, .int .i64 s1.2.1]]) (R := [own cd2 a2 s1.2.2.2.length c1 s1.2.2.2, it]) H2
      refine Run_E (by kernel_rfl) ?_
      refine E_call (f := 67) (args := #[.pointer (some ⟨bs_, 0, none⟩), .int .i64 31]) (w_spec_l01Next h h2 _ (⟨s_.code, s1.1, s1.2.1⟩ : TL01source) bs_ as_code cs_code rs_code 31 H4 _ _ hx1) (by kernel_rfl) (fun v1 h4 hp1 => ?_)
      obtain ⟨rfl, H5⟩ := hp1
      have H6 : Hold h h4 [box bs_ 122 [.slice as_code s_.code.length cs_code, .int .i64 x2.2.at_, .int .i64 x2.2.seed], own cd2 a2 s1.2.2.2.length c1 s1.2.2.2, it] := Hold.unbundle (S := [box bs_ 122 [.slice as_code s_.code.length cs_code, .int .i64 x2.2.at_, .int .i64 x2.2.seed]]) (R := [own cd2 a2 s1.2.2.2.length c1 s1.2.2.2, it]) H5 (Hold.tailBase (S := [box bs_ 122 [.slice as_code s_.code.length cs_code, .int .i64 s1.1, .int .i64 s1.2.1]]) (R := [own cd2 a2 s1.2.2.2.length c1 s1.2.2.2, it]) H2)
      refine Run_b [.int .i64 (w64 (x2.1 - 15))] 3 _ (by kernel_rfl) (fun w => by kernel_rfl) ?_
      refine Run_E (by kernel_rfl) ?_
      refine E_lit (C := cd2) (n := 1) (l := ([(w64 (x2.1 - 15))] : List Int)) (cs := [.int .i64 (w64 (x2.1 - 15))]) H6 (fun w => by kernel_rfl) (Enc.consE (cd2_own (w64 (x2.1 - 15)) _) (Enc.nil _ _) rfl) rfl (by decide) (fun a4 h5 H7 => ?_)
      obtain ⟨l1, hl1, hB1⟩ := M.bind_some hB1
      have hl1 := M.app_some hl1
      have H8 : Hold h h5 [own cd2 a2 s1.2.2.2.length c1 s1.2.2.2, own cd2 a4 1 1 ([(w64 (x2.1 - 15))] : List Int), box bs_ 122 [.slice as_code s_.code.length cs_code, .int .i64 x2.2.at_, .int .i64 x2.2.seed], it] := H7.pick [2, 0, 1, 3] (by kernel_rfl)
      have H9 : Hold h h5 [own cd2 a4 1 1 ([(w64 (x2.1 - 15))] : List Int), own cd2 a2 s1.2.2.2.length c1 s1.2.2.2, box bs_ 122 [.slice as_code s_.code.length cs_code, .int .i64 x2.2.at_, .int .i64 x2.2.seed], it] := H8.pick [1, 0, 2, 3] (by kernel_rfl)
      have H10 : Hold h h5 [own cd2 a2 s1.2.2.2.length c1 s1.2.2.2, own cd2 a4 1 1 ([(w64 (x2.1 - 15))] : List Int), box bs_ 122 [.slice as_code s_.code.length cs_code, .int .i64 x2.2.at_, .int .i64 x2.2.seed], it] := H9.pick [1, 0, 2, 3] (by kernel_rfl)
      refine Run_E (by kernel_rfl) ?_
      refine E_app (C := cd2) (t := 23) (ty := 23) (n := s1.2.2.2.length) (m := 1) H10 cd2_ti rfl Try.underlying23 (by decide) (by kernel_rfl) hl1 (fun a5 c3 h6 H11 => ?_)
      refine Run_b [.slice a5 l1.length c3] 6 _ (by kernel_rfl) (fun w => by kernel_rfl) ?_
      refine Run_nil (by kernel_rfl) ?_
      refine Run_keep [0, 1, 5] (L' := [(0, .pointer (some ⟨bs_, 0, none⟩)), (1, .int .i64 s1.2.2.1), (5, .slice a5 l1.length c3)]) (by kernel_rfl) ?_
      refine Run_seq ?_
      refine Run_ops ?_
      refine Run_b [.pointer (some ⟨bs_, 0, none⟩)] 0 _ (by kernel_rfl) (fun w => by kernel_rfl) ?_
      obtain ⟨x3, hx2, hB1⟩ := M.bind_some hB1
      have H12 : Hold h h6 [box bs_ 122 [.slice as_code s_.code.length cs_code, .int .i64 x2.2.at_, .int .i64 x2.2.seed], own cd2 a5 l1.length c3 l1, it] := H11.pick [1, 0, 2] (by kernel_rfl)
      have H13 : Hold h h6 [box bs_ 122 [.slice as_code s_.code.length cs_code, .int .i64 x2.2.at_, .int .i64 x2.2.seed], bun [own cd2 a5 l1.length c3 l1, it]] := Hold.bundle (S := [box bs_ 122 [.slice as_code s_.code.length cs_code, .int .i64 x2.2.at_, .int .i64 x2.2.seed]]) (R := [own cd2 a5 l1.length c3 l1, it]) H12
      refine Run_E (by kernel_rfl) ?_
      refine E_call (f := 67) (args := #[.pointer (some ⟨bs_, 0, none⟩), .int .i64 8]) (w_spec_l01Next h h6 _ (⟨s_.code, x2.2.at_, x2.2.seed⟩ : TL01source) bs_ as_code cs_code rs_code 8 H13 _ _ hx2) (by kernel_rfl) (fun v2 h7 hp2 => ?_)
      obtain ⟨rfl, H14⟩ := hp2
      have H15 : Hold h h7 [box bs_ 122 [.slice as_code s_.code.length cs_code, .int .i64 x3.2.at_, .int .i64 x3.2.seed], own cd2 a5 l1.length c3 l1, it] := Hold.unbundle (S := [box bs_ 122 [.slice as_code s_.code.length cs_code, .int .i64 x3.2.at_, .int .i64 x3.2.seed]]) (R := [own cd2 a5 l1.length c3 l1, it]) H14 (Hold.tailBase (S := [box bs_ 122 [.slice as_code s_.code.length cs_code, .int .i64 x2.2.at_, .int .i64 x2.2.seed]]) (R := [own cd2 a5 l1.length c3 l1, it]) H12)
      refine Run_b [.bool (x3.1 == 0)] 2 _ (by kernel_rfl) (fun w => by kernel_rfl) ?_
      refine Run_nil (by kernel_rfl) ?_
      refine Run_keep [0, 1, 5, 19] (L' := [(0, .pointer (some ⟨bs_, 0, none⟩)), (1, .int .i64 s1.2.2.1), (5, .slice a5 l1.length c3), (19, .bool (x3.1 == 0))]) (by kernel_rfl) ?_
      obtain ⟨s2, gs2, hB1⟩ := M.bind_some hB1
      refine Run_join (fun L' h' => L' = [(0, .pointer (some ⟨bs_, 0, none⟩)), (1, .int .i64 s1.2.2.1), (5, .slice a5 l1.length c3)] ∧ Hold h h' [box bs_ 122 [.slice as_code s_.code.length cs_code, .int .i64 x3.2.at_, .int .i64 x3.2.seed], own cd2 a5 l1.length c3 s2, it]) ?_ ?_
      · rintro _ h9 ⟨rfl, H18⟩
        refine Run_blk ?_
        refine Run_reg 3 (by kernel_rfl) (L' := [(0, .pointer (some ⟨bs_, 0, none⟩)), (1, .int .i64 (w64 (s1.2.2.1 - 1))), (5, .slice a5 l1.length c3)]) ?_ ?_
        · refine QRun_b [.int .i64 s1.2.2.1, .int .i64 (w64 (s1.2.2.1 - 1)), .int .i64 (w64 (s1.2.2.1 - 1))] 0 _ (by kernel_rfl) (fun w => by kernel_rfl) ?_
          exact QRun_done [0, 1, 5] (by kernel_rfl) (by kernel_rfl)
        have H20 : Hold h h9 [own cd2 a5 l1.length c3 s2, box bs_ 122 [.slice as_code s_.code.length cs_code, .int .i64 x3.2.at_, .int .i64 x3.2.seed], it] := H18.pick [1, 0, 2] (by kernel_rfl)
        have hn1 := (H20.len 0 rfl)
        have H21 : Hold h h9 [own cd2 a5 s2.length c3 s2, box bs_ 122 [.slice as_code s_.code.length cs_code, .int .i64 x3.2.at_, .int .i64 x3.2.seed], it] := by rw [hn1]; exact H20
        have H22 : Hold h h9 [box bs_ 122 [.slice as_code s_.code.length cs_code, .int .i64 x3.2.at_, .int .i64 x3.2.seed], own cd2 a5 s2.length c3 s2, it] := H21.pick [1, 0, 2] (by kernel_rfl)
        have hB1 := M.ret_some hB1
        have gx1 := hgoy1 _ hB1.symm
        exact Run_again [0, 1, 5] (by first | (rw [hn1]; kernel_rfl) | (simp only [hn1]; kernel_rfl) | kernel_rfl) my1 (Nat.lt_succ_self _) ⟨(x3.2.at_, x3.2.seed, (w64 (s1.2.2.1 - 1)), s2), a5, c3, gx1, rfl, H22⟩
      · refine Run_cond (b := x3.1 == 0) (by kernel_rfl) (fun hb2 => ?_) (fun hb2 => ?_)
        · have gs2 := (M.ite_some gs2).1 hb2
          refine Run_ops ?_
          obtain ⟨x4, hx3, gs2⟩ := M.bind_some gs2
          obtain ⟨hx3l, hx3u, hx3⟩ := M.idx_some hx3
          refine Run_b [.slice a5 l1.length c3, .slice a5 l1.length c3, .int .i64 (l1.length : Int), .int .i64 (w64 ((l1.length : Int) - 1))] 0 _ (by kernel_rfl) (fun w => by kernel_rfl) ?_
          refine Run_y (.pointer (some (adr a5 ((w64 ((l1.length : Int) - 1)).toNat * 1)))) (by kernel_rfl) (Y_idx (t := 23) (e := 2) (sz := 1) (a := a5) (n := l1.length) (cap := c3) (kk := .i64) (i := w64 ((l1.length : Int) - 1)) (by kernel_rfl) Try.underlying23 (by kernel_rfl) ((H15.rd 1 rfl).cell hx3).1 hx3l hx3u) ?_
          obtain ⟨l2, hu1, gs2⟩ := M.bind_some gs2
          have hu1 := M.upd_some hu1
          have H17 : Hold h h7 [own cd2 a5 l1.length c3 l1, box bs_ 122 [.slice as_code s_.code.length cs_code, .int .i64 x3.2.at_, .int .i64 x3.2.seed], it] := H15.pick [1, 0, 2] (by kernel_rfl)
          refine Run_E (by kernel_rfl) ?_
          refine E_put (C := cd2) (t := 2) (sz := 1) (j := w64 ((l1.length : Int) - 1)) (x := (-1000000000000000)) (v := .int .i64 (-1000000000000000)) H17 cd2_flat (by kernel_rfl) rfl (cd2_own _) (by kernel_rfl) hu1 (fun h8 H16 => ?_)
          refine Run_nil (by kernel_rfl) ?_
          refine Run_keep [0, 1, 5] (L' := [(0, .pointer (some ⟨bs_, 0, none⟩)), (1, .int .i64 s1.2.2.1), (5, .slice a5 l1.length c3)]) (by kernel_rfl) ?_
          have H19 : Hold h h8 [box bs_ 122 [.slice as_code s_.code.length cs_code, .int .i64 x3.2.at_, .int .i64 x3.2.seed], own cd2 a5 l1.length c3 l2, it] := H16.pick [1, 0, 2] (by kernel_rfl)
          have gs2 := M.ret_some gs2
          subst gs2
          exact Run_fall [0, 1, 5] (by kernel_rfl) ⟨rfl, H19⟩
        · have gs2 := (M.ite_some gs2).2 hb2
          refine Run_skip ?_
          have gs2 := M.ret_some gs2
          subst gs2
          exact Run_fall [0, 1, 5] (by kernel_rfl) ⟨rfl, H15⟩
    · have hB1 := (M.ite_some hB1).2 hb1
      refine Run_exit (k' := _) rfl ?_
      have H23 : Hold h h2 [own cd2 a2 s1.2.2.2.length c1 s1.2.2.2, box bs_ 122 [.slice as_code s_.code.length cs_code, .int .i64 s1.1, .int .i64 s1.2.1], it] := H2.pick [1, 0, 2] (by kernel_rfl)
      have H24 : Hold h h2 [box bs_ 122 [.slice as_code s_.code.length cs_code, .int .i64 s1.1, .int .i64 s1.2.1], own cd2 a2 s1.2.2.2.length c1 s1.2.2.2, it] := H23.pick [1, 0, 2] (by kernel_rfl)
      have hB1 := M.ret_some hB1
      have gx1 := houty1 _ hB1.symm
      subst gx1
      exact Run_fall [0, 5] (by kernel_rfl) ⟨a2, c1, rfl, H24⟩

set_option maxRecDepth 100000 in
set_option maxHeartbeats 4000000 in
theorem w_spec_l07DrawPair (h hE : Heap) (it : Item) (s_ : TL01source) (bs_ : Nat) (as_code : Option Addr) (cs_code : Nat) (rs_code : Rd cd5 h (Lt h) as_code cs_code s_.code) (HM : Hold h hE [box bs_ 122 [.slice as_code s_.code.length cs_code, .int .i64 s_.at_, .int .i64 s_.seed], it]) (n : Nat) (r : (List (List Int)) × (List Int) × TL01source) (hF : spec_l07DrawPair s_ n = some r) :
    Fn Try.prog 86 #[.pointer (some ⟨bs_, 0, none⟩)] hE fun v h' => ∃ (a0 : Option Addr) (c0 : Nat), ∃ (a1 : Option Addr) (c1 : Nat), v = .tuple #[.slice a0 r.1.length c0, .slice a1 r.2.1.length c1] ∧ Hold h h' [own cd23 a0 r.1.length c0 r.1, own cd2 a1 r.2.1.length c1 r.2.1, box bs_ 122 [.slice as_code s_.code.length cs_code, .int .i64 r.2.2.at_, .int .i64 r.2.2.seed], it] := by
  unfold spec_l07DrawPair at hF
  refine Fn_enter (args := [.pointer (some ⟨bs_, 0, none⟩)]) Try.func86 rfl (by kernel_rfl) (by kernel_rfl) (fun w0 _ => ?_)
  refine Run_seq ?_
  refine Run_reg 2 (by kernel_rfl) (L' := [(0, .pointer (some ⟨bs_, 0, none⟩))]) ?_ ?_
  · refine QRun_b [.slice none 0 0, .slice none 0 0] 0 _ (by kernel_rfl) (fun w => by kernel_rfl) ?_
    exact QRun_done [0] (by kernel_rfl) (by kernel_rfl)
  refine Run_seq ?_
  refine Run_ops ?_
  refine Run_b [.pointer (some ⟨bs_, 0, none⟩)] 0 _ (by kernel_rfl) (fun w => by kernel_rfl) ?_
  obtain ⟨x1, hx1, hF⟩ := M.bind_some hF
  have H1 : Hold h hE [box bs_ 122 [.slice as_code s_.code.length cs_code, .int .i64 s_.at_, .int .i64 s_.seed], bun [it]] := Hold.bundle (S := [box bs_ 122 [.slice as_code s_.code.length cs_code, .int .i64 s_.at_, .int .i64 s_.seed]]) (R := [it]) HM
  refine Run_E (by kernel_rfl) ?_
  refine E_call (f := 65) (args := #[.pointer (some ⟨bs_, 0, none⟩)]) (w_spec_l07Draw h hE _ s_ bs_ as_code cs_code rs_code H1 _ _ hx1) (by kernel_rfl) (fun v1 h1 hp1 => ?_)
  obtain ⟨a1, c1, rfl, H2⟩ := hp1
  have H3 : Hold h h1 [own cd23 a1 x1.1.length c1 x1.1, box bs_ 122 [.slice as_code s_.code.length cs_code, .int .i64 x1.2.at_, .int .i64 x1.2.seed], it] := Hold.unbundle (S := [own cd23 a1 x1.1.length c1 x1.1, box bs_ 122 [.slice as_code s_.code.length cs_code, .int .i64 x1.2.at_, .int .i64 x1.2.seed]]) (R := [it]) H2 (Hold.tailBase (S := [box bs_ 122 [.slice as_code s_.code.length cs_code, .int .i64 s_.at_, .int .i64 s_.seed]]) (R := [it]) HM)
  refine Run_b [.slice a1 x1.1.length c1] 2 _ (by kernel_rfl) (fun w => by kernel_rfl) ?_
  refine Run_nil (by kernel_rfl) ?_
  refine Run_keep [0, 4] (L' := [(0, .pointer (some ⟨bs_, 0, none⟩)), (4, .slice a1 x1.1.length c1)]) (by kernel_rfl) ?_
  refine Run_seq ?_
  refine Run_reg 3 (by kernel_rfl) (L' := [(0, .pointer (some ⟨bs_, 0, none⟩)), (4, .slice a1 x1.1.length c1), (5, .int .i64 (x1.1.length : Int))]) ?_ ?_
  · refine QRun_b [.slice a1 x1.1.length c1, .int .i64 (x1.1.length : Int), .int .i64 (x1.1.length : Int)] 0 _ (by kernel_rfl) (fun w => by kernel_rfl) ?_
    exact QRun_done [0, 4, 5] (by kernel_rfl) (by kernel_rfl)
  refine Run_seq ?_
  refine Run_seq ?_
  refine Run_ops ?_
  refine Run_b [.pointer (some ⟨bs_, 0, none⟩)] 0 _ (by kernel_rfl) (fun w => by kernel_rfl) ?_
  obtain ⟨x2, hx2, hF⟩ := M.bind_some hF
  have H4 : Hold h h1 [box bs_ 122 [.slice as_code s_.code.length cs_code, .int .i64 x1.2.at_, .int .i64 x1.2.seed], own cd23 a1 x1.1.length c1 x1.1, it] := H3.pick [1, 0, 2] (by kernel_rfl)
  have H5 : Hold h h1 [box bs_ 122 [.slice as_code s_.code.length cs_code, .int .i64 x1.2.at_, .int .i64 x1.2.seed], bun [own cd23 a1 x1.1.length c1 x1.1, it]] := Hold.bundle (S := [box bs_ 122 [.slice as_code s_.code.length cs_code, .int .i64 x1.2.at_, .int .i64 x1.2.seed]]) (R := [own cd23 a1 x1.1.length c1 x1.1, it]) H4
  refine Run_E (by kernel_rfl) ?_
  refine E_call (f := 67) (args := #[.pointer (some ⟨bs_, 0, none⟩), .int .i64 24]) (w_spec_l01Next h h1 _ (⟨s_.code, x1.2.at_, x1.2.seed⟩ : TL01source) bs_ as_code cs_code rs_code 24 H5 _ _ hx2) (by kernel_rfl) (fun v2 h2 hp2 => ?_)
  obtain ⟨rfl, H6⟩ := hp2
  have H7 : Hold h h2 [box bs_ 122 [.slice as_code s_.code.length cs_code, .int .i64 x2.2.at_, .int .i64 x2.2.seed], own cd23 a1 x1.1.length c1 x1.1, it] := Hold.unbundle (S := [box bs_ 122 [.slice as_code s_.code.length cs_code, .int .i64 x2.2.at_, .int .i64 x2.2.seed]]) (R := [own cd23 a1 x1.1.length c1 x1.1, it]) H6 (Hold.tailBase (S := [box bs_ 122 [.slice as_code s_.code.length cs_code, .int .i64 x1.2.at_, .int .i64 x1.2.seed]]) (R := [own cd23 a1 x1.1.length c1 x1.1, it]) H4)
  refine Run_b [.bool (x2.1 == 0)] 2 _ (by kernel_rfl) (fun w => by kernel_rfl) ?_
  refine Run_nil (by kernel_rfl) ?_
  refine Run_keep [0, 4, 5, 12] (L' := [(0, .pointer (some ⟨bs_, 0, none⟩)), (4, .slice a1 x1.1.length c1), (5, .int .i64 (x1.1.length : Int)), (12, .bool (x2.1 == 0))]) (by kernel_rfl) ?_
  obtain ⟨s1, gs1, hF⟩ := M.bind_some hF
  refine Run_join (fun L' h' => L' = [(0, .pointer (some ⟨bs_, 0, none⟩)), (4, .slice a1 x1.1.length c1), (5, .int .i64 s1)] ∧ Hold h h' [box bs_ 122 [.slice as_code s_.code.length cs_code, .int .i64 x2.2.at_, .int .i64 x2.2.seed], own cd23 a1 x1.1.length c1 x1.1, it]) ?_ ?_
  · rintro _ h3 ⟨rfl, H8⟩
    refine Run_seq ?_
    refine Run_ops ?_
    refine Run_b [.slice a1 x1.1.length c1, .pointer (some ⟨bs_, 0, none⟩), .int .i64 s1] 0 _ (by kernel_rfl) (fun w => by kernel_rfl) ?_
    obtain ⟨x3, hx3, hF⟩ := M.bind_some hF
    have H9 : Hold h h3 [box bs_ 122 [.slice as_code s_.code.length cs_code, .int .i64 x2.2.at_, .int .i64 x2.2.seed], bun [own cd23 a1 x1.1.length c1 x1.1, it]] := Hold.bundle (S := [box bs_ 122 [.slice as_code s_.code.length cs_code, .int .i64 x2.2.at_, .int .i64 x2.2.seed]]) (R := [own cd23 a1 x1.1.length c1 x1.1, it]) H8
    refine Run_E (by kernel_rfl) ?_
    refine E_call (f := 100) (args := #[.pointer (some ⟨bs_, 0, none⟩), .int .i64 s1]) (w_spec_l02DrawVector h h3 _ (⟨s_.code, x2.2.at_, x2.2.seed⟩ : TL01source) bs_ as_code cs_code rs_code s1 H9 _ _ hx3) (by kernel_rfl) (fun v3 h4 hp3 => ?_)
    obtain ⟨a2, c2, rfl, H10⟩ := hp3
    have H11 : Hold h h4 [own cd2 a2 x3.1.length c2 x3.1, box bs_ 122 [.slice as_code s_.code.length cs_code, .int .i64 x3.2.at_, .int .i64 x3.2.seed], own cd23 a1 x1.1.length c1 x1.1, it] := Hold.unbundle (S := [own cd2 a2 x3.1.length c2 x3.1, box bs_ 122 [.slice as_code s_.code.length cs_code, .int .i64 x3.2.at_, .int .i64 x3.2.seed]]) (R := [own cd23 a1 x1.1.length c1 x1.1, it]) H10 (Hold.tailBase (S := [box bs_ 122 [.slice as_code s_.code.length cs_code, .int .i64 x2.2.at_, .int .i64 x2.2.seed]]) (R := [own cd23 a1 x1.1.length c1 x1.1, it]) H8)
    refine Run_b [.slice a1 x1.1.length c1, .slice a2 x3.1.length c2] 4 _ (by kernel_rfl) (fun w => by kernel_rfl) ?_
    refine Run_nil (by kernel_rfl) ?_
    refine Run_keep [2, 3] (L' := [(2, .slice a1 x1.1.length c1), (3, .slice a2 x3.1.length c2)]) (by kernel_rfl) ?_
    have hF := M.ret_some hF
    subst hF
    have H12 : Hold h h4 [own cd23 a1 x1.1.length c1 x1.1, own cd2 a2 x3.1.length c2 x3.1, box bs_ 122 [.slice as_code s_.code.length cs_code, .int .i64 x3.2.at_, .int .i64 x3.2.seed], it] := H11.pick [2, 0, 1, 3] (by kernel_rfl)
    have H13 : Hold h h4 [own cd2 a2 x3.1.length c2 x3.1, own cd23 a1 x1.1.length c1 x1.1, box bs_ 122 [.slice as_code s_.code.length cs_code, .int .i64 x3.2.at_, .int .i64 x3.2.seed], it] := H12.pick [1, 0, 2, 3] (by kernel_rfl)
    have H14 : Hold h h4 [own cd23 a1 x1.1.length c1 x1.1, own cd2 a2 x3.1.length c2 x3.1, box bs_ 122 [.slice as_code s_.code.length cs_code, .int .i64 x3.2.at_, .int .i64 x3.2.seed], it] := H13.pick [1, 0, 2, 3] (by kernel_rfl)
    exact Run_ret2 rfl (ResV_tmp (v := .slice a1 x1.1.length c1) (by kernel_rfl)) (ResV_tmp (v := .slice a2 x3.1.length c2) (by kernel_rfl)) ⟨a1, c1, a2, c2, rfl, H14⟩
  · refine Run_cond (b := x2.1 == 0) (by kernel_rfl) (fun hb1 => ?_) (fun hb1 => ?_)
    · have gs1 := (M.ite_some gs1).1 hb1
      refine Run_reg 3 (by kernel_rfl) (L' := [(0, .pointer (some ⟨bs_, 0, none⟩)), (4, .slice a1 x1.1.length c1), (5, .int .i64 (w64 ((x1.1.length : Int) + 1)))]) ?_ ?_
      · refine QRun_b [.int .i64 (x1.1.length : Int), .int .i64 (w64 ((x1.1.length : Int) + 1)), .int .i64 (w64 ((x1.1.length : Int) + 1))] 0 _ (by kernel_rfl) (fun w => by kernel_rfl) ?_
        exact QRun_done [0, 4, 5] (by kernel_rfl) (by kernel_rfl)
      have gs1 := M.ret_some gs1
      subst gs1
      exact Run_fall [0, 4, 5] (by kernel_rfl) ⟨rfl, H7⟩
    · have gs1 := (M.ite_some gs1).2 hb1
      refine Run_skip ?_
      have gs1 := M.ret_some gs1
      subst gs1
      exact Run_fall [0, 4, 5] (by kernel_rfl) ⟨rfl, H7⟩

set_option maxRecDepth 100000 in
set_option maxHeartbeats 4000000 in
theorem w_spec_DrawOrbitRepeats (h : Heap) (code : List Int) (acode : Option Addr) (ccode : Nat) (rcode : Rd cd5 h (Lt h) acode ccode code) (n : Nat) (r : (List (List Int)) × (List Int)) (hF : spec_DrawOrbitRepeats code n = some r) :
    Fn Try.prog 22 #[.slice acode code.length ccode] h fun v h' => ∃ (a0 : Option Addr) (c0 : Nat), ∃ (a1 : Option Addr) (c1 : Nat), v = .tuple #[.slice a0 r.1.length c0, .slice a1 r.2.length c1] ∧ Hold h h' [own cd23 a0 r.1.length c0 r.1, own cd2 a1 r.2.length c1 r.2] := by
  unfold spec_DrawOrbitRepeats at hF
  refine Fn_enter (args := [.slice acode code.length ccode]) Try.func22 rfl (by kernel_rfl) (by kernel_rfl) (fun w0 _ => ?_)
  have H0 := Hold.init h
  refine Run_seq ?_
  refine Run_reg 2 (by kernel_rfl) (L' := [(0, .slice acode code.length ccode)]) ?_ ?_
  · refine QRun_b [.slice none 0 0, .slice none 0 0] 0 _ (by kernel_rfl) (fun w => by kernel_rfl) ?_
    exact QRun_done [0] (by kernel_rfl) (by kernel_rfl)
  refine Run_seq ?_
  refine Run_ops ?_
  refine Run_b [.slice acode code.length ccode] 0 _ (by kernel_rfl) (fun w => by kernel_rfl) ?_
  obtain ⟨x1, hx1, hF⟩ := M.bind_some hF
  refine Run_E (by kernel_rfl) ?_
  refine E_call (f := 64) (args := #[.slice acode code.length ccode]) (w_spec_l01From h code acode ccode rcode _ _ hx1) (by kernel_rfl) (fun v1 h1 hp1 => ?_)
  obtain ⟨b1, a1, c1, rfl, hd1, H1⟩ := hp1
  have H2 : Hold h h1 [box b1 122 [.slice a1 x1.code.length c1, .int .i64 x1.at_, .int .i64 x1.seed]] := H0.call H1 rfl
  have r1 := rcode.alias hd1
  obtain ⟨x2, hx2, hF⟩ := M.bind_some hF
  have H3 : Hold h h1 [box b1 122 [.slice a1 x1.code.length c1, .int .i64 x1.at_, .int .i64 x1.seed], bun []] := Hold.bundle (S := [box b1 122 [.slice a1 x1.code.length c1, .int .i64 x1.at_, .int .i64 x1.seed]]) (R := []) H2
  refine Run_E (by kernel_rfl) ?_
  refine E_call (f := 86) (args := #[.pointer (some ⟨b1, 0, none⟩)]) (w_spec_l07DrawPair h h1 _ x1 b1 a1 c1 r1 H3 _ _ hx2) (by kernel_rfl) (fun v2 h2 hp2 => ?_)
  obtain ⟨a2, c2, a3, c3, rfl, H4⟩ := hp2
  have H5 : Hold h h2 [own cd23 a2 x2.1.length c2 x2.1, own cd2 a3 x2.2.1.length c3 x2.2.1, box b1 122 [.slice a1 x1.code.length c1, .int .i64 x2.2.2.at_, .int .i64 x2.2.2.seed]] := Hold.unbundle (S := [own cd23 a2 x2.1.length c2 x2.1, own cd2 a3 x2.2.1.length c3 x2.2.1, box b1 122 [.slice a1 x1.code.length c1, .int .i64 x2.2.2.at_, .int .i64 x2.2.2.seed]]) (R := []) H4 (Hold.tailBase (S := [box b1 122 [.slice a1 x1.code.length c1, .int .i64 x1.at_, .int .i64 x1.seed]]) (R := []) H2)
  refine Run_b [.slice a2 x2.1.length c2, .slice a3 x2.2.1.length c3, .slice a2 x2.1.length c2, .slice a3 x2.2.1.length c3] 3 _ (by kernel_rfl) (fun w => by kernel_rfl) ?_
  refine Run_nil (by kernel_rfl) ?_
  refine Run_keep [2, 3] (L' := [(2, .slice a2 x2.1.length c2), (3, .slice a3 x2.2.1.length c3)]) (by kernel_rfl) ?_
  have hF := M.ret_some hF
  subst hF
  have H6 : Hold h h2 [own cd2 a3 x2.2.1.length c3 x2.2.1, own cd23 a2 x2.1.length c2 x2.1, box b1 122 [.slice a1 x1.code.length c1, .int .i64 x2.2.2.at_, .int .i64 x2.2.2.seed]] := H5.pick [1, 0, 2] (by kernel_rfl)
  have H7 : Hold h h2 [own cd23 a2 x2.1.length c2 x2.1, own cd2 a3 x2.2.1.length c3 x2.2.1] := H6.pick [1, 0] (by kernel_rfl)
  exact Run_ret2 rfl (ResV_tmp (v := .slice a2 x2.1.length c2) (by kernel_rfl)) (ResV_tmp (v := .slice a3 x2.2.1.length c3) (by kernel_rfl)) ⟨a2, c2, a3, c3, rfl, H7⟩

set_option maxRecDepth 100000 in
set_option maxHeartbeats 4000000 in
theorem w_impl_within (h : Heap) (n_ : Int) (low : Int) (high : Int) (n : Nat) (r : Bool) (hF : impl_within n_ low high n = some r) :
    Fn Try.prog 69 #[.int .i64 n_, .int .i64 low, .int .i64 high] h fun v h' => v = .bool r ∧ h' = h := by
  unfold impl_within at hF
  refine Fn_enter (args := [.int .i64 n_, .int .i64 low, .int .i64 high]) Try.func69 rfl (by kernel_rfl) (by kernel_rfl) (fun w0 _ => ?_)
  refine Run_seq ?_
  refine Run_reg 1 (by kernel_rfl) (L' := [(0, .int .i64 n_), (1, .int .i64 low), (2, .int .i64 high)]) ?_ ?_
  · refine QRun_b [.bool false] 0 _ (by kernel_rfl) (fun w => by kernel_rfl) ?_
    exact QRun_done [0, 1, 2] (by kernel_rfl) (by kernel_rfl)
  refine Run_seq ?_
  refine Run_reg 9 (by kernel_rfl) (L' := [(6, .bool ((decide (low ≤ n_)) && (decide (n_ ≤ high))))]) ?_ ?_
  · refine QRun_b [.int .i64 n_, .int .i64 low, .bool (decide (low ≤ n_))] 0 _ (by kernel_rfl) (fun w => by kernel_rfl) ?_
    refine QRun_seq 8 [(14, .bool ((decide (low ≤ n_)) && (decide (n_ ≤ high))))] ?_ ?_
    · rcases Bool.eq_false_or_eq_true (decide (low ≤ n_)) with hb1 | hb1
      · refine QRun_bool (decide (low ≤ n_)) true (by kernel_rfl) (fun w => by kernel_rfl) hb1 ?_
        refine QRun_b [.int .i64 n_, .int .i64 high, .bool (decide (n_ ≤ high))] 4 _ (by kernel_rfl) (fun w => by kernel_rfl) ?_
        refine QRun_bool (decide (n_ ≤ high)) ((decide (low ≤ n_)) && (decide (n_ ≤ high))) (by kernel_rfl) (fun w => by kernel_rfl) (by rw [hb1]; rfl) ?_
        exact QRun_done [14] (by kernel_rfl) (by kernel_rfl)
      · refine QRun_bool (decide (low ≤ n_)) false (by kernel_rfl) (fun w => by kernel_rfl) hb1 ?_
        refine QRun_n (by kernel_rfl) ?_
        refine QRun_n (by kernel_rfl) ?_
        refine QRun_n (by kernel_rfl) ?_
        refine QRun_bool false ((decide (low ≤ n_)) && (decide (n_ ≤ high))) (by kernel_rfl) (fun w => by kernel_rfl) (by rw [hb1]; rfl) ?_
        exact QRun_done [14] (by kernel_rfl) (by kernel_rfl)
    refine QRun_b [.bool ((decide (low ≤ n_)) && (decide (n_ ≤ high)))] 8 _ (by kernel_rfl) (fun w => by kernel_rfl) ?_
    exact QRun_done [6] (by kernel_rfl) (by kernel_rfl)
  have hF := M.ret_some hF
  subst hF
  exact Run_ret1 rfl (ResV_tmp (v := .bool ((decide (low ≤ n_)) && (decide (n_ ≤ high)))) (by kernel_rfl)) ⟨rfl, rfl⟩

set_option maxRecDepth 100000 in
set_option maxHeartbeats 4000000 in
theorem w_impl_isFinite (h : Heap) (n_ : Int) (n : Nat) (r : Bool) (hF : impl_isFinite n_ n = some r) :
    Fn Try.prog 92 #[.int .i64 n_] h fun v h' => v = .bool r ∧ h' = h := by
  unfold impl_isFinite at hF
  refine Fn_enter (args := [.int .i64 n_]) Try.func92 rfl (by kernel_rfl) (by kernel_rfl) (fun w0 _ => ?_)
  refine Run_seq ?_
  refine Run_reg 1 (by kernel_rfl) (L' := [(0, .int .i64 n_)]) ?_ ?_
  · refine QRun_b [.bool false] 0 _ (by kernel_rfl) (fun w => by kernel_rfl) ?_
    exact QRun_done [0] (by kernel_rfl) (by kernel_rfl)
  refine Run_seq ?_
  obtain ⟨x1, hx1, hF⟩ := M.bind_some hF
  refine Run_reg 3 (by kernel_rfl) (L' := [(2, .bool x1)]) ?_ ?_
  · refine QRun_b [.int .i64 n_] 0 _ (by kernel_rfl) (fun w => by kernel_rfl) ?_
    refine QRun_y (.bool x1) (by kernel_rfl) (Y_callq (f := 69) (args := #[.int .i64 n_, .int .i64 (-1000000), .int .i64 1000000]) (v := .bool x1) (by kernel_rfl) (w_impl_within h n_ (-1000000) 1000000 _ _ hx1)) ?_
    refine QRun_b [.bool x1] 2 _ (by kernel_rfl) (fun w => by kernel_rfl) ?_
    exact QRun_done [2] (by kernel_rfl) (by kernel_rfl)
  have hF := M.ret_some hF
  subst hF
  exact Run_ret1 rfl (ResV_tmp (v := .bool x1) (by kernel_rfl)) ⟨rfl, rfl⟩

set_option maxRecDepth 100000 in
set_option maxHeartbeats 4000000 in
theorem w_impl_IsValue (h : Heap) (a_ : Int) (n : Nat) (r : Bool) (hF : impl_IsValue a_ n = some r) :
    Fn Try.prog 130 #[.int .i64 a_] h fun v h' => v = .bool r ∧ h' = h := by
  unfold impl_IsValue at hF
  refine Fn_enter (args := [.int .i64 a_]) Try.func130 rfl (by kernel_rfl) (by kernel_rfl) (fun w0 _ => ?_)
  refine Run_seq ?_
  refine Run_reg 1 (by kernel_rfl) (L' := [(0, .int .i64 a_)]) ?_ ?_
  · refine QRun_b [.bool false] 0 _ (by kernel_rfl) (fun w => by kernel_rfl) ?_
    exact QRun_done [0] (by kernel_rfl) (by kernel_rfl)
  refine Run_seq ?_
  obtain ⟨x1, gx1, hF⟩ := M.bind_some hF
  refine Run_reg 7 (by kernel_rfl) (L' := [(2, .bool x1)]) ?_ ?_
  · refine QRun_b [.int .i64 a_, .bool (a_ == (-1000000000000000))] 0 _ (by kernel_rfl) (fun w => by kernel_rfl) ?_
    refine QRun_seq 6 [(8, .bool x1)] ?_ ?_
    · rcases Bool.eq_false_or_eq_true (a_ == (-1000000000000000)) with hb1 | hb1
      · refine QRun_bool (a_ == (-1000000000000000)) true (by kernel_rfl) (fun w => by kernel_rfl) hb1 ?_
        have gx1 := M.ret_some ((M.ite_some gx1).1 hb1)
        refine QRun_n (by kernel_rfl) ?_
        refine QRun_n (by kernel_rfl) ?_
        refine QRun_bool true x1 (by kernel_rfl) (fun w => by kernel_rfl) gx1 ?_
        exact QRun_done [8] (by kernel_rfl) (by kernel_rfl)
      · refine QRun_bool (a_ == (-1000000000000000)) false (by kernel_rfl) (fun w => by kernel_rfl) hb1 ?_
        have gx1 := (M.ite_some gx1).2 hb1
        obtain ⟨x2, hx1, gx1⟩ := M.bind_some gx1
        have gx1 := M.ret_some gx1
        refine QRun_b [.int .i64 a_] 3 _ (by kernel_rfl) (fun w => by kernel_rfl) ?_
        refine QRun_y (.bool x2) (by kernel_rfl) (Y_callq (f := 92) (args := #[.int .i64 a_]) (v := .bool x2) (by kernel_rfl) (w_impl_isFinite h a_ _ _ hx1)) ?_
        refine QRun_bool x2 x1 (by kernel_rfl) (fun w => by kernel_rfl) gx1 ?_
        exact QRun_done [8] (by kernel_rfl) (by kernel_rfl)
    refine QRun_b [.bool x1] 6 _ (by kernel_rfl) (fun w => by kernel_rfl) ?_
    exact QRun_done [2] (by kernel_rfl) (by kernel_rfl)
  have hF := M.ret_some hF
  subst hF
  exact Run_ret1 rfl (ResV_tmp (v := .bool x1) (by kernel_rfl)) ⟨rfl, rfl⟩

set_option maxRecDepth 100000 in
set_option maxHeartbeats 4000000 in
theorem w_impl_areValues_1 (h : Heap) (n_ : Int) (n : Nat) (r : Bool) (hF : impl_areValues_1 n_ n = some r) :
    Fn Try.prog 146 #[.int .i64 n_] h fun v h' => v = .bool r ∧ h' = h := by
  unfold impl_areValues_1 at hF
  refine Fn_enter (args := [.int .i64 n_]) Try.func146 rfl (by kernel_rfl) (by kernel_rfl) (fun w0 _ => ?_)
  refine Run_seq ?_
  refine Run_reg 1 (by kernel_rfl) (L' := [(0, .int .i64 n_)]) ?_ ?_
  · refine QRun_b [.bool false] 0 _ (by kernel_rfl) (fun w => by kernel_rfl) ?_
    exact QRun_done [0] (by kernel_rfl) (by kernel_rfl)
  refine Run_seq ?_
  obtain ⟨x1, hx1, hF⟩ := M.bind_some hF
  refine Run_reg 4 (by kernel_rfl) (L' := [(2, .bool (!x1))]) ?_ ?_
  · refine QRun_b [.int .i64 n_] 0 _ (by kernel_rfl) (fun w => by kernel_rfl) ?_
    refine QRun_y (.bool x1) (by kernel_rfl) (Y_callq (f := 130) (args := #[.int .i64 n_]) (v := .bool x1) (by kernel_rfl) (w_impl_IsValue h n_ _ _ hx1)) ?_
    refine QRun_b [.bool (!x1), .bool (!x1)] 2 _ (by kernel_rfl) (fun w => by kernel_rfl) ?_
    exact QRun_done [2] (by kernel_rfl) (by kernel_rfl)
  have hF := M.ret_some hF
  subst hF
  exact Run_ret1 rfl (ResV_tmp (v := .bool (!x1)) (by kernel_rfl)) ⟨rfl, rfl⟩

set_option maxRecDepth 100000 in
set_option maxHeartbeats 4000000 in
theorem w_slices_IndexFunc_int_F_impl_areValues_1 (h : Heap) (s_ : List Int) {Ss_ : Bs} (as_ : Option Addr) (cs_ : Nat) (rs_ : Rd cd2 h Ss_ as_ cs_ s_) (n : Nat) (r : Int) (hF : slices_IndexFunc_int_F_impl_areValues_1 s_ n = some r) :
    Fn Try.prog 153 #[.slice as_ s_.length cs_, .func (.func 146) #[] #[]] h fun v h' => v = .int .i64 r ∧ h' = h := by
  unfold slices_IndexFunc_int_F_impl_areValues_1 at hF
  refine Fn_enter (args := [.slice as_ s_.length cs_, .func (.func 146) #[] #[]]) Try.func153 rfl (by kernel_rfl) (by kernel_rfl) (fun w0 _ => ?_)
  refine Run_seq ?_
  refine Run_reg 1 (by kernel_rfl) (L' := [(0, .slice as_ s_.length cs_), (1, .func (.func 146) #[] #[])]) ?_ ?_
  · refine QRun_b [.int .i64 0] 0 _ (by kernel_rfl) (fun w => by kernel_rfl) ?_
    exact QRun_done [0, 1] (by kernel_rfl) (by kernel_rfl)
  refine Run_seq ?_
  refine Run_seq ?_
  refine Run_reg 3 (by kernel_rfl) (L' := [(0, .slice as_ s_.length cs_), (1, .func (.func 146) #[] #[]), (7, .int .i64 (s_.length : Int)), (8, .int .i64 0)]) ?_ ?_
  · refine QRun_b [.slice as_ s_.length cs_, .int .i64 (s_.length : Int), .int .i64 0] 0 _ (by kernel_rfl) (fun w => by kernel_rfl) ?_
    exact QRun_done [0, 1, 7, 8] (by kernel_rfl) (by kernel_rfl)
  obtain ⟨x1, gx1, hF⟩ := M.bind_some hF
  obtain ⟨hloy1, hhiy1, gx1⟩ := M.for_start gx1
  refine Run_join (fun L' h' => ∃ (s2 : Unit), x1 = .inl s2 ∧ L' = [] ∧ h = h') ?_ ?_
  · rintro _ _ ⟨s2, es2, rfl, rfl⟩
    have hF := M.cont_inl' hF es2
    refine Run_seq ?_
    refine Run_reg 1 (by kernel_rfl) (L' := [(4, .int .i64 (-1))]) ?_ ?_
    · refine QRun_b [.int .i64 (-1)] 0 _ (by kernel_rfl) (fun w => by kernel_rfl) ?_
      exact QRun_done [4] (by kernel_rfl) (by kernel_rfl)
    have hF := M.ret_some hF
    subst hF
    exact Run_ret1 rfl (ResV_tmp (v := .int .i64 (-1)) (by kernel_rfl)) ⟨rfl, rfl⟩
  · refine Run_block ?_
    refine Run_keep [0, 1, 7, 8] (L' := [(0, .slice as_ s_.length cs_), (1, .func (.func 146) #[] #[]), (7, .int .i64 (s_.length : Int)), (8, .int .i64 0)]) (by kernel_rfl) ?_
    refine Run_loop (fun m L' h' => ∃ (i1 : Int) (s1 : Unit), 0 ≤ i1 ∧ M.forN (s_.length : Int) _ _ n m i1 s1 = some x1 ∧ L' = [(0, .slice as_ s_.length cs_), (1, .func (.func 146) #[] #[]), (7, .int .i64 (s_.length : Int)), (8, .int .i64 i1)] ∧ h = h') ((s_.length : Int) - 0 : Int).toNat ⟨0, (), Int.le_refl _, gx1, rfl, rfl⟩ ?_
    rintro my1 _ _ ⟨i1, s1, hloy1', gx1, rfl, rfl⟩
    refine Run_seq ?_
    refine Run_reg 1 (by kernel_rfl) (L' := [(0, .slice as_ s_.length cs_), (1, .func (.func 146) #[] #[]), (7, .int .i64 (s_.length : Int)), (8, .int .i64 i1), (9, .bool (decide (i1 < (s_.length : Int))))]) ?_ ?_
    · refine QRun_b [.bool (decide (i1 < (s_.length : Int)))] 0 _ (by kernel_rfl) (fun w => by kernel_rfl) ?_
      exact QRun_done [0, 1, 7, 8, 9] (by kernel_rfl) (by kernel_rfl)
    refine Run_seq ?_
    refine Run_cond (b := decide (i1 < (s_.length : Int))) (by kernel_rfl) (fun hb1 => ?_) (fun hb1 => ?_)
    · obtain ⟨my1, y1, rfl, hB1, hgoy1, houty1⟩ := M.for_go gx1 hb1
      have hlty1 := of_decide_eq_true hb1
      refine Run_skip ?_
      refine Run_seq ?_
      refine Run_block ?_
      refine Run_seq ?_
      refine Run_reg 2 (by kernel_rfl) (L' := [(0, .slice as_ s_.length cs_), (1, .func (.func 146) #[] #[]), (5, .int .i64 i1), (7, .int .i64 (s_.length : Int)), (8, .int .i64 i1)]) ?_ ?_
      · refine QRun_b [.int .i64 i1, .int .i64 i1] 0 _ (by kernel_rfl) (fun w => by kernel_rfl) ?_
        exact QRun_done [0, 1, 5, 7, 8] (by kernel_rfl) (by kernel_rfl)
      refine Run_seq ?_
      obtain ⟨x2, hx1, hB1⟩ := M.bind_some hB1
      obtain ⟨hx1l, hx1u, hx1⟩ := M.idx_some hx1
      obtain ⟨x3, hx2, hB1⟩ := M.bind_some hB1
      refine Run_reg 6 (by kernel_rfl) (L' := [(0, .slice as_ s_.length cs_), (1, .func (.func 146) #[] #[]), (5, .int .i64 i1), (7, .int .i64 (s_.length : Int)), (8, .int .i64 i1), (16, .bool x3)]) ?_ ?_
      · refine QRun_b [.func (.func 146) #[] #[], .slice as_ s_.length cs_, .int .i64 i1] 0 _ (by kernel_rfl) (fun w => by kernel_rfl) ?_
        refine QRun_y (.pointer (some (adr as_ (i1.toNat * 1)))) (by kernel_rfl) (Y_idx (t := 23) (e := 2) (sz := 1) (a := as_) (n := s_.length) (cap := cs_) (kk := .i64) (i := i1) (by kernel_rfl) Try.underlying23 (by kernel_rfl) (rs_.cell hx1).1 hx1l hx1u) ?_
        refine QRun_y (.int .i64 x2) (by kernel_rfl) (Y_load1 (t := 2) (p := adr as_ (i1.toNat * 1)) (v := .int .i64 x2) (by kernel_rfl) (fun w => by kernel_rfl) (cd2_cell rs_ hx1)) ?_
        refine QRun_y (.bool x3) (by kernel_rfl) (Y_callq (f := 146) (args := #[.int .i64 x2]) (v := .bool x3) (by kernel_rfl) (w_impl_areValues_1 h x2 _ _ hx2)) ?_
        exact QRun_done [0, 1, 5, 7, 8, 16] (by kernel_rfl) (by kernel_rfl)
      refine Run_cond (b := x3) (by kernel_rfl) (fun hb2 => ?_) (fun hb2 => ?_)
      · have hB1 := (M.ite_some hB1).1 hb2
        refine Run_seq ?_
        refine Run_reg 2 (by kernel_rfl) (L' := [(4, .int .i64 i1)]) ?_ ?_
        · refine QRun_b [.int .i64 i1, .int .i64 i1] 0 _ (by kernel_rfl) (fun w => by kernel_rfl) ?_
          exact QRun_done [4] (by kernel_rfl) (by kernel_rfl)
        have hB1 := M.ret_some hB1
        have gx1 := houty1 _ hB1.symm
        have hF := M.cont_inr' hF gx1
        have hF := M.ret_some hF
        subst hF
        exact Run_ret1 rfl (ResV_tmp (v := .int .i64 i1) (by kernel_rfl)) ⟨rfl, rfl⟩
      · have hB1 := (M.ite_some hB1).2 hb2
        refine Run_skip ?_
        refine Run_blk ?_
        refine Run_reg 2 (by kernel_rfl) (L' := [(0, .slice as_ s_.length cs_), (1, .func (.func 146) #[] #[]), (7, .int .i64 (s_.length : Int)), (8, .int .i64 (i1 + 1))]) ?_ ?_
        · refine QRun_y (.int .i64 (i1 + 1)) (by kernel_rfl) (Y_eq (v := .int .i64 (w64 (i1 + 1))) (Y_pure (fun w => by kernel_rfl)) (by rw [w64_eq _ (by omega)])) ?_
          refine QRun_b [.int .i64 (i1 + 1)] 1 _ (by kernel_rfl) (fun w => by kernel_rfl) ?_
          exact QRun_done [0, 1, 7, 8] (by kernel_rfl) (by kernel_rfl)
        have hB1 := M.ret_some hB1
        have gx1 := hgoy1 _ hB1.symm
        exact Run_again [0, 1, 7, 8] (by kernel_rfl) my1 (Nat.lt_succ_self _) ⟨i1 + 1, (), by omega, gx1, rfl, rfl⟩
    · have gx1 := M.for_end gx1 hb1
      subst gx1
      refine Run_exit (k' := _) rfl ?_
      exact Run_fall [] (by kernel_rfl) ⟨(), rfl, rfl, rfl⟩

set_option maxRecDepth 100000 in
set_option maxHeartbeats 4000000 in
theorem w_slices_ContainsFunc_int_F_impl_areValues_1 (h : Heap) (s_ : List Int) {Ss_ : Bs} (as_ : Option Addr) (cs_ : Nat) (rs_ : Rd cd2 h Ss_ as_ cs_ s_) (n : Nat) (r : Bool) (hF : slices_ContainsFunc_int_F_impl_areValues_1 s_ n = some r) :
    Fn Try.prog 123 #[.slice as_ s_.length cs_, .func (.func 146) #[] #[]] h fun v h' => v = .bool r ∧ h' = h := by
  unfold slices_ContainsFunc_int_F_impl_areValues_1 at hF
  refine Fn_enter (args := [.slice as_ s_.length cs_, .func (.func 146) #[] #[]]) Try.func123 rfl (by kernel_rfl) (by kernel_rfl) (fun w0 _ => ?_)
  refine Run_seq ?_
  refine Run_reg 1 (by kernel_rfl) (L' := [(0, .slice as_ s_.length cs_), (1, .func (.func 146) #[] #[])]) ?_ ?_
  · refine QRun_b [.bool false] 0 _ (by kernel_rfl) (fun w => by kernel_rfl) ?_
    exact QRun_done [0, 1] (by kernel_rfl) (by kernel_rfl)
  refine Run_seq ?_
  obtain ⟨x1, hx1, hF⟩ := M.bind_some hF
  refine Run_reg 5 (by kernel_rfl) (L' := [(4, .bool (decide (0 ≤ x1)))]) ?_ ?_
  · refine QRun_b [.slice as_ s_.length cs_, .func (.func 146) #[] #[]] 0 _ (by kernel_rfl) (fun w => by kernel_rfl) ?_
    refine QRun_y (.int .i64 x1) (by kernel_rfl) (Y_callq (f := 153) (args := #[.slice as_ s_.length cs_, .func (.func 146) #[] #[]]) (v := .int .i64 x1) (by kernel_rfl) (w_slices_IndexFunc_int_F_impl_areValues_1 h s_ as_ cs_ rs_ _ _ hx1)) ?_
    refine QRun_b [.bool (decide (0 ≤ x1)), .bool (decide (0 ≤ x1))] 3 _ (by kernel_rfl) (fun w => by kernel_rfl) ?_
    exact QRun_done [4] (by kernel_rfl) (by kernel_rfl)
  have hF := M.ret_some hF
  subst hF
  exact Run_ret1 rfl (ResV_tmp (v := .bool (decide (0 ≤ x1))) (by kernel_rfl)) ⟨rfl, rfl⟩

set_option maxRecDepth 100000 in
set_option maxHeartbeats 4000000 in
theorem w_impl_areValues (h : Heap) (list : List Int) {Slist : Bs} (alist : Option Addr) (clist : Nat) (rlist : Rd cd2 h Slist alist clist list) (n : Nat) (r : Bool) (hF : impl_areValues list n = some r) :
    Fn Try.prog 102 #[.slice alist list.length clist] h fun v h' => v = .bool r ∧ h' = h := by
  unfold impl_areValues at hF
  refine Fn_enter (args := [.slice alist list.length clist]) Try.func102 rfl (by kernel_rfl) (by kernel_rfl) (fun w0 _ => ?_)
  refine Run_seq ?_
  refine Run_reg 1 (by kernel_rfl) (L' := [(0, .slice alist list.length clist)]) ?_ ?_
  · refine QRun_b [.bool false] 0 _ (by kernel_rfl) (fun w => by kernel_rfl) ?_
    exact QRun_done [0] (by kernel_rfl) (by kernel_rfl)
  refine Run_seq ?_
  obtain ⟨x1, hx1, hF⟩ := M.bind_some hF
  refine Run_reg 4 (by kernel_rfl) (L' := [(2, .bool (!x1))]) ?_ ?_
  · refine QRun_b [.slice alist list.length clist] 0 _ (by kernel_rfl) (fun w => by kernel_rfl) ?_
    refine QRun_y (.bool x1) (by kernel_rfl) (Y_callq (f := 123) (args := #[.slice alist list.length clist, .func (.func 146) #[] #[]]) (v := .bool x1) (by kernel_rfl) (w_slices_ContainsFunc_int_F_impl_areValues_1 h list alist clist rlist _ _ hx1)) ?_
    refine QRun_b [.bool (!x1), .bool (!x1)] 2 _ (by kernel_rfl) (fun w => by kernel_rfl) ?_
    exact QRun_done [2] (by kernel_rfl) (by kernel_rfl)
  have hF := M.ret_some hF
  subst hF
  exact Run_ret1 rfl (ResV_tmp (v := .bool (!x1)) (by kernel_rfl)) ⟨rfl, rfl⟩

set_option maxRecDepth 100000 in
set_option maxHeartbeats 4000000 in
theorem w_impl_IsMatrix_1 (h : Heap) (row : List Int) {Srow : Bs} (arow : Option Addr) (crow : Nat) (rrow : Rd cd2 h Srow arow crow row) (z0 : List (List Int)) {Sz0 : Bs} (az0 : Option Addr) (cz0 : Nat) (rz0 : Rd cd23 h Sz0 az0 cz0 z0) (bz0 : Nat) (vz0 : VarAt h bz0 22 [.slice az0 z0.length cz0]) (n : Nat) (r : Bool) (hF : impl_IsMatrix_1 row z0 n = some r) :
    Fn Try.prog 136 #[.slice arow row.length crow, .pointer (some ⟨bz0, 0, none⟩)] h fun v h' => v = .bool r ∧ h' = h := by
  unfold impl_IsMatrix_1 at hF
  refine Fn_enter (args := [.slice arow row.length crow, .pointer (some ⟨bz0, 0, none⟩)]) Try.func136 rfl (by kernel_rfl) (by kernel_rfl) (fun w0 _ => ?_)
  refine Run_seq ?_
  refine Run_reg 1 (by kernel_rfl) (L' := [(0, .slice arow row.length crow), (1, .pointer (some ⟨bz0, 0, none⟩))]) ?_ ?_
  · refine QRun_b [.bool false] 0 _ (by kernel_rfl) (fun w => by kernel_rfl) ?_
    exact QRun_done [0, 1] (by kernel_rfl) (by kernel_rfl)
  refine Run_seq ?_
  obtain ⟨x1, hx1, hF⟩ := M.bind_some hF
  obtain ⟨hx1l, hx1u, hx1⟩ := M.idx_some hx1
  obtain ⟨a1, c1, hc1, r1⟩ := rz0.row hx1
  obtain ⟨x2, gx2, hF⟩ := M.bind_some hF
  refine Run_reg 13 (by kernel_rfl) (L' := [(3, .bool x2)]) ?_ ?_
  · refine QRun_b [.slice arow row.length crow, .int .i64 (row.length : Int)] 0 _ (by kernel_rfl) (fun w => by kernel_rfl) ?_
    refine QRun_y (.slice az0 z0.length cz0) (by kernel_rfl) (Y_load1 (t := 22) (p := ⟨bz0, 0, none⟩) (v := .slice az0 z0.length cz0) (by kernel_rfl) (fun w => by kernel_rfl) (VarAt.cell vz0 rfl)) ?_
    refine QRun_y (.pointer (some (adr az0 (0 * 1)))) (by kernel_rfl) (Y_idx (t := 22) (e := 23) (sz := 1) (a := az0) (n := z0.length) (cap := cz0) (kk := .i64) (i := 0) (by kernel_rfl) Try.underlying22 (by kernel_rfl) (rz0.cell hx1).1 hx1l hx1u) ?_
    refine QRun_y (.slice a1 x1.length c1) (by kernel_rfl) (Y_load1 (t := 23) (p := adr az0 (0 * 1)) (v := .slice a1 x1.length c1) (by kernel_rfl) (fun w => by kernel_rfl) hc1) ?_
    refine QRun_b [.int .i64 (x1.length : Int), .bool ((row.length : Int) != (x1.length : Int))] 5 _ (by kernel_rfl) (fun w => by kernel_rfl) ?_
    refine QRun_seq 12 [(15, .bool x2)] ?_ ?_
    · rcases Bool.eq_false_or_eq_true ((row.length : Int) != (x1.length : Int)) with hb1 | hb1
      · refine QRun_bool ((row.length : Int) != (x1.length : Int)) true (by kernel_rfl) (fun w => by kernel_rfl) hb1 ?_
        have gx2 := M.ret_some ((M.ite_some gx2).1 hb1)
        refine QRun_n (by kernel_rfl) ?_
        refine QRun_n (by kernel_rfl) ?_
        refine QRun_n (by kernel_rfl) ?_
        refine QRun_bool true x2 (by kernel_rfl) (fun w => by kernel_rfl) gx2 ?_
        exact QRun_done [15] (by kernel_rfl) (by kernel_rfl)
      · refine QRun_bool ((row.length : Int) != (x1.length : Int)) false (by kernel_rfl) (fun w => by kernel_rfl) hb1 ?_
        have gx2 := (M.ite_some gx2).2 hb1
        obtain ⟨x3, hx2, gx2⟩ := M.bind_some gx2
        have gx2 := M.ret_some gx2
        refine QRun_b [.slice arow row.length crow] 8 _ (by kernel_rfl) (fun w => by kernel_rfl) ?_
        refine QRun_y (.bool x3) (by kernel_rfl) (Y_callq (f := 102) (args := #[.slice arow row.length crow]) (v := .bool x3) (by kernel_rfl) (w_impl_areValues h row arow crow rrow _ _ hx2)) ?_
        refine QRun_b [.bool (!x3)] 10 _ (by kernel_rfl) (fun w => by kernel_rfl) ?_
        refine QRun_bool (!x3) x2 (by kernel_rfl) (fun w => by kernel_rfl) gx2 ?_
        exact QRun_done [15] (by kernel_rfl) (by kernel_rfl)
    refine QRun_b [.bool x2] 12 _ (by kernel_rfl) (fun w => by kernel_rfl) ?_
    exact QRun_done [3] (by kernel_rfl) (by kernel_rfl)
  have hF := M.ret_some hF
  subst hF
  exact Run_ret1 rfl (ResV_tmp (v := .bool x2) (by kernel_rfl)) ⟨rfl, rfl⟩

set_option maxRecDepth 100000 in
set_option maxHeartbeats 4000000 in
theorem w_slices_IndexFunc_row_F_impl_IsMatrix_1 (h : Heap) (s_ : List (List Int)) {Ss_ : Bs} (as_ : Option Addr) (cs_ : Nat) (rs_ : Rd cd23 h Ss_ as_ cs_ s_) (f0 : List (List Int)) {Sf0 : Bs} (af0 : Option Addr) (cf0 : Nat) (rf0 : Rd cd23 h Sf0 af0 cf0 f0) (bf0 : Nat) (vf0 : VarAt h bf0 22 [.slice af0 f0.length cf0]) (n : Nat) (r : Int) (hF : slices_IndexFunc_row_F_impl_IsMatrix_1 s_ f0 n = some r) :
    Fn Try.prog 154 #[.slice as_ s_.length cs_, .func (.func 136) #[] #[.pointer (some ⟨bf0, 0, none⟩)]] h fun v h' => v = .int .i64 r ∧ h' = h := by
  unfold slices_IndexFunc_row_F_impl_IsMatrix_1 at hF
  refine Fn_enter (args := [.slice as_ s_.length cs_, .func (.func 136) #[] #[.pointer (some ⟨bf0, 0, none⟩)]]) Try.func154 rfl (by kernel_rfl) (by kernel_rfl) (fun w0 _ => ?_)
  refine Run_seq ?_
  refine Run_reg 1 (by kernel_rfl) (L' := [(0, .slice as_ s_.length cs_), (1, .func (.func 136) #[] #[.pointer (some ⟨bf0, 0, none⟩)])]) ?_ ?_
  · refine QRun_b [.int .i64 0] 0 _ (by kernel_rfl) (fun w => by kernel_rfl) ?_
    exact QRun_done [0, 1] (by kernel_rfl) (by kernel_rfl)
  refine Run_seq ?_
  refine Run_seq ?_
  refine Run_reg 3 (by kernel_rfl) (L' := [(0, .slice as_ s_.length cs_), (1, .func (.func 136) #[] #[.pointer (some ⟨bf0, 0, none⟩)]), (7, .int .i64 (s_.length : Int)), (8, .int .i64 0)]) ?_ ?_
  · refine QRun_b [.slice as_ s_.length cs_, .int .i64 (s_.length : Int), .int .i64 0] 0 _ (by kernel_rfl) (fun w => by kernel_rfl) ?_
    exact QRun_done [0, 1, 7, 8] (by kernel_rfl) (by kernel_rfl)
  obtain ⟨x1, gx1, hF⟩ := M.bind_some hF
  obtain ⟨hloy1, hhiy1, gx1⟩ := M.for_start gx1
  refine Run_join (fun L' h' => ∃ (s2 : Unit), x1 = .inl s2 ∧ L' = [] ∧ h = h') ?_ ?_
  · rintro _ _ ⟨s2, es2, rfl, rfl⟩
    have hF := M.cont_inl' hF es2
    refine Run_seq ?_
    refine Run_reg 1 (by kernel_rfl) (L' := [(4, .int .i64 (-1))]) ?_ ?_
    · refine QRun_b [.int .i64 (-1)] 0 _ (by kernel_rfl) (fun w => by kernel_rfl) ?_
      exact QRun_done [4] (by kernel_rfl) (by kernel_rfl)
    have hF := M.ret_some hF
    subst hF
    exact Run_ret1 rfl (ResV_tmp (v := .int .i64 (-1)) (by kernel_rfl)) ⟨rfl, rfl⟩
  · refine Run_block ?_
    refine Run_keep [0, 1, 7, 8] (L' := [(0, .slice as_ s_.length cs_), (1, .func (.func 136) #[] #[.pointer (some ⟨bf0, 0, none⟩)]), (7, .int .i64 (s_.length : Int)), (8, .int .i64 0)]) (by kernel_rfl) ?_
    refine Run_loop (fun m L' h' => ∃ (i1 : Int) (s1 : Unit), 0 ≤ i1 ∧ M.forN (s_.length : Int) _ _ n m i1 s1 = some x1 ∧ L' = [(0, .slice as_ s_.length cs_), (1, .func (.func 136) #[] #[.pointer (some ⟨bf0, 0, none⟩)]), (7, .int .i64 (s_.length : Int)), (8, .int .i64 i1)] ∧ h = h') ((s_.length : Int) - 0 : Int).toNat ⟨0, (), Int.le_refl _, gx1, rfl, rfl⟩ ?_
    rintro my1 _ _ ⟨i1, s1, hloy1', gx1, rfl, rfl⟩
    refine Run_seq ?_
    refine Run_reg 1 (by kernel_rfl) (L' := [(0, .slice as_ s_.length cs_), (1, .func (.func 136) #[] #[.pointer (some ⟨bf0, 0, none⟩)]), (7, .int .i64 (s_.length : Int)), (8, .int .i64 i1), (9, .bool (decide (i1 < (s_.length : Int))))]) ?_ ?_
    · refine QRun_b [.bool (decide (i1 < (s_.length : Int)))] 0 _ (by kernel_rfl) (fun w => by kernel_rfl) ?_
      exact QRun_done [0, 1, 7, 8, 9] (by kernel_rfl) (by kernel_rfl)
    refine Run_seq ?_
    refine Run_cond (b := decide (i1 < (s_.length : Int))) (by kernel_rfl) (fun hb1 => ?_) (fun hb1 => ?_)
    · obtain ⟨my1, y1, rfl, hB1, hgoy1, houty1⟩ := M.for_go gx1 hb1
      have hlty1 := of_decide_eq_true hb1
      refine Run_skip ?_
      refine Run_seq ?_
      refine Run_block ?_
      refine Run_seq ?_
      refine Run_reg 2 (by kernel_rfl) (L' := [(0, .slice as_ s_.length cs_), (1, .func (.func 136) #[] #[.pointer (some ⟨bf0, 0, none⟩)]), (5, .int .i64 i1), (7, .int .i64 (s_.length : Int)), (8, .int .i64 i1)]) ?_ ?_
      · refine QRun_b [.int .i64 i1, .int .i64 i1] 0 _ (by kernel_rfl) (fun w => by kernel_rfl) ?_
        exact QRun_done [0, 1, 5, 7, 8] (by kernel_rfl) (by kernel_rfl)
      refine Run_seq ?_
      obtain ⟨x2, hx1, hB1⟩ := M.bind_some hB1
      obtain ⟨hx1l, hx1u, hx1⟩ := M.idx_some hx1
      obtain ⟨a1, c1, hc1, r1⟩ := rs_.row hx1
      obtain ⟨x3, hx2, hB1⟩ := M.bind_some hB1
      refine Run_reg 6 (by kernel_rfl) (L' := [(0, .slice as_ s_.length cs_), (1, .func (.func 136) #[] #[.pointer (some ⟨bf0, 0, none⟩)]), (5, .int .i64 i1), (7, .int .i64 (s_.length : Int)), (8, .int .i64 i1), (16, .bool x3)]) ?_ ?_
      · refine QRun_b [.func (.func 136) #[] #[.pointer (some ⟨bf0, 0, none⟩)], .slice as_ s_.length cs_, .int .i64 i1] 0 _ (by kernel_rfl) (fun w => by kernel_rfl) ?_
        refine QRun_y (.pointer (some (adr as_ (i1.toNat * 1)))) (by kernel_rfl) (Y_idx (t := 22) (e := 23) (sz := 1) (a := as_) (n := s_.length) (cap := cs_) (kk := .i64) (i := i1) (by kernel_rfl) Try.underlying22 (by kernel_rfl) (rs_.cell hx1).1 hx1l hx1u) ?_
        refine QRun_y (.slice a1 x2.length c1) (by kernel_rfl) (Y_load1 (t := 23) (p := adr as_ (i1.toNat * 1)) (v := .slice a1 x2.length c1) (by kernel_rfl) (fun w => by kernel_rfl) hc1) ?_
        refine QRun_y (.bool x3) (by kernel_rfl) (Y_callq (f := 136) (args := #[.slice a1 x2.length c1, .pointer (some ⟨bf0, 0, none⟩)]) (v := .bool x3) (by kernel_rfl) (w_impl_IsMatrix_1 h x2 a1 c1 r1 f0 af0 cf0 rf0 bf0 vf0 _ _ hx2)) ?_
        exact QRun_done [0, 1, 5, 7, 8, 16] (by kernel_rfl) (by kernel_rfl)
      refine Run_cond (b := x3) (by kernel_rfl) (fun hb2 => ?_) (fun hb2 => ?_)
      · have hB1 := (M.ite_some hB1).1 hb2
        refine Run_seq ?_
        refine Run_reg 2 (by kernel_rfl) (L' := [(4, .int .i64 i1)]) ?_ ?_
        · refine QRun_b [.int .i64 i1, .int .i64 i1] 0 _ (by kernel_rfl) (fun w => by kernel_rfl) ?_
          exact QRun_done [4] (by kernel_rfl) (by kernel_rfl)
        have hB1 := M.ret_some hB1
        have gx1 := houty1 _ hB1.symm
        have hF := M.cont_inr' hF gx1
        have hF := M.ret_some hF
        subst hF
        exact Run_ret1 rfl (ResV_tmp (v := .int .i64 i1) (by kernel_rfl)) ⟨rfl, rfl⟩
      · have hB1 := (M.ite_some hB1).2 hb2
        refine Run_skip ?_
        refine Run_blk ?_
        refine Run_reg 2 (by kernel_rfl) (L' := [(0, .slice as_ s_.length cs_), (1, .func (.func 136) #[] #[.pointer (some ⟨bf0, 0, none⟩)]), (7, .int .i64 (s_.length : Int)), (8, .int .i64 (i1 + 1))]) ?_ ?_
        · refine QRun_y (.int .i64 (i1 + 1)) (by kernel_rfl) (Y_eq (v := .int .i64 (w64 (i1 + 1))) (Y_pure (fun w => by kernel_rfl)) (by rw [w64_eq _ (by omega)])) ?_
          refine QRun_b [.int .i64 (i1 + 1)] 1 _ (by kernel_rfl) (fun w => by kernel_rfl) ?_
          exact QRun_done [0, 1, 7, 8] (by kernel_rfl) (by kernel_rfl)
        have hB1 := M.ret_some hB1
        have gx1 := hgoy1 _ hB1.symm
        exact Run_again [0, 1, 7, 8] (by kernel_rfl) my1 (Nat.lt_succ_self _) ⟨i1 + 1, (), by omega, gx1, rfl, rfl⟩
    · have gx1 := M.for_end gx1 hb1
      subst gx1
      refine Run_exit (k' := _) rfl ?_
      exact Run_fall [] (by kernel_rfl) ⟨(), rfl, rfl, rfl⟩

set_option maxRecDepth 100000 in
set_option maxHeartbeats 4000000 in
theorem w_slices_ContainsFunc_row_F_impl_IsMatrix_1 (h : Heap) (s_ : List (List Int)) {Ss_ : Bs} (as_ : Option Addr) (cs_ : Nat) (rs_ : Rd cd23 h Ss_ as_ cs_ s_) (f0 : List (List Int)) {Sf0 : Bs} (af0 : Option Addr) (cf0 : Nat) (rf0 : Rd cd23 h Sf0 af0 cf0 f0) (bf0 : Nat) (vf0 : VarAt h bf0 22 [.slice af0 f0.length cf0]) (n : Nat) (r : Bool) (hF : slices_ContainsFunc_row_F_impl_IsMatrix_1 s_ f0 n = some r) :
    Fn Try.prog 135 #[.slice as_ s_.length cs_, .func (.func 136) #[] #[.pointer (some ⟨bf0, 0, none⟩)]] h fun v h' => v = .bool r ∧ h' = h := by
  unfold slices_ContainsFunc_row_F_impl_IsMatrix_1 at hF
  refine Fn_enter (args := [.slice as_ s_.length cs_, .func (.func 136) #[] #[.pointer (some ⟨bf0, 0, none⟩)]]) Try.func135 rfl (by kernel_rfl) (by kernel_rfl) (fun w0 _ => ?_)
  refine Run_seq ?_
  refine Run_reg 1 (by kernel_rfl) (L' := [(0, .slice as_ s_.length cs_), (1, .func (.func 136) #[] #[.pointer (some ⟨bf0, 0, none⟩)])]) ?_ ?_
  · refine QRun_b [.bool false] 0 _ (by kernel_rfl) (fun w => by kernel_rfl) ?_
    exact QRun_done [0, 1] (by kernel_rfl) (by kernel_rfl)
  refine Run_seq ?_
  obtain ⟨x1, hx1, hF⟩ := M.bind_some hF
  refine Run_reg 5 (by kernel_rfl) (L' := [(4, .bool (decide (0 ≤ x1)))]) ?_ ?_
  · refine QRun_b [.slice as_ s_.length cs_, .func (.func 136) #[] #[.pointer (some ⟨bf0, 0, none⟩)]] 0 _ (by kernel_rfl) (fun w => by kernel_rfl) ?_
    refine QRun_y (.int .i64 x1) (by kernel_rfl) (Y_callq (f := 154) (args := #[.slice as_ s_.length cs_, .func (.func 136) #[] #[.pointer (some ⟨bf0, 0, none⟩)]]) (v := .int .i64 x1) (by kernel_rfl) (w_slices_IndexFunc_row_F_impl_IsMatrix_1 h s_ as_ cs_ rs_ f0 af0 cf0 rf0 bf0 vf0 _ _ hx1)) ?_
    refine QRun_b [.bool (decide (0 ≤ x1)), .bool (decide (0 ≤ x1))] 3 _ (by kernel_rfl) (fun w => by kernel_rfl) ?_
    exact QRun_done [4] (by kernel_rfl) (by kernel_rfl)
  have hF := M.ret_some hF
  subst hF
  exact Run_ret1 rfl (ResV_tmp (v := .bool (decide (0 ≤ x1))) (by kernel_rfl)) ⟨rfl, rfl⟩

set_option maxRecDepth 100000 in
set_option maxHeartbeats 4000000 in
theorem w_impl_IsMatrix (h : Heap) (a_ : List (List Int)) (aa_ : Option Addr) (ca_ : Nat) (ra_ : Rd cd23 h (Lt h) aa_ ca_ a_) (n : Nat) (r : Bool) (hF : impl_IsMatrix a_ n = some r) :
    Fn Try.prog 82 #[.slice aa_ a_.length ca_] h fun v h' => v = .bool r ∧ Hold h h' [] := by
  unfold impl_IsMatrix at hF
  refine Fn_enter (args := [.slice aa_ a_.length ca_]) Try.func82 rfl (by kernel_rfl) (by kernel_rfl) (fun w0 _ => ?_)
  have H0 := Hold.init h
  refine Run_seq ?_
  refine Run_ops ?_
  refine Run_E (by kernel_rfl) ?_
  refine E_box (ty := 22) (cs := [.slice aa_ a_.length ca_]) H0 (fun w => by kernel_rfl) (fun b1 h1 H1 => ?_)
  refine Run_b [.bool false] 1 _ (by kernel_rfl) (fun w => by kernel_rfl) ?_
  refine Run_nil (by kernel_rfl) ?_
  refine Run_keep [1] (L' := [(1, .pointer (some ⟨b1, 0, none⟩))]) (by kernel_rfl) ?_
  refine Run_seq ?_
  refine Run_seq ?_
  obtain ⟨x1, hx1, hF⟩ := M.bind_some hF
  obtain ⟨x2, gx2, hF⟩ := M.bind_some hF
  refine Run_reg 12 (by kernel_rfl) (L' := [(1, .pointer (some ⟨b1, 0, none⟩)), (14, .bool x2)]) ?_ ?_
  · refine QRun_y (.slice aa_ a_.length ca_) (by kernel_rfl) (Y_load1 (t := 22) (p := ⟨b1, 0, none⟩) (v := .slice aa_ a_.length ca_) (by kernel_rfl) (fun w => by kernel_rfl) (H1.cell 0 rfl rfl)) ?_
    refine QRun_b [.int .i64 (a_.length : Int)] 1 _ (by kernel_rfl) (fun w => by kernel_rfl) ?_
    refine QRun_y (.bool x1) (by kernel_rfl) (Y_callq (f := 69) (args := #[.int .i64 (a_.length : Int), .int .i64 1, .int .i64 10]) (v := .bool x1) (by kernel_rfl) (w_impl_within h1 (a_.length : Int) 1 10 _ _ hx1)) ?_
    refine QRun_b [.bool (!x1)] 3 _ (by kernel_rfl) (fun w => by kernel_rfl) ?_
    refine QRun_seq 12 [(1, .pointer (some ⟨b1, 0, none⟩)), (14, .bool x2)] ?_ ?_
    · rcases Bool.eq_false_or_eq_true (!x1) with hb1 | hb1
      · refine QRun_bool (!x1) true (by kernel_rfl) (fun w => by kernel_rfl) hb1 ?_
        have gx2 := M.ret_some ((M.ite_some gx2).1 hb1)
        refine QRun_n (by kernel_rfl) ?_
        refine QRun_n (by kernel_rfl) ?_
        refine QRun_n (by kernel_rfl) ?_
        refine QRun_n (by kernel_rfl) ?_
        refine QRun_n (by kernel_rfl) ?_
        refine QRun_n (by kernel_rfl) ?_
        refine QRun_bool true x2 (by kernel_rfl) (fun w => by kernel_rfl) gx2 ?_
        exact QRun_done [1, 14] (by kernel_rfl) (by kernel_rfl)
      · refine QRun_bool (!x1) false (by kernel_rfl) (fun w => by kernel_rfl) hb1 ?_
        have gx2 := (M.ite_some gx2).2 hb1
        obtain ⟨x3, hx2, gx2⟩ := M.bind_some gx2
        obtain ⟨hx2l, hx2u, hx2⟩ := M.idx_some hx2
        obtain ⟨a1, c1, hc1, r1⟩ := ra_.row hx2
        obtain ⟨x4, hx3, gx2⟩ := M.bind_some gx2
        have gx2 := M.ret_some gx2
        refine QRun_y (.slice aa_ a_.length ca_) (by kernel_rfl) (Y_load1 (t := 22) (p := ⟨b1, 0, none⟩) (v := .slice aa_ a_.length ca_) (by kernel_rfl) (fun w => by kernel_rfl) (H1.cell 0 rfl rfl)) ?_
        refine QRun_y (.pointer (some (adr aa_ (0 * 1)))) (by kernel_rfl) (Y_idx (t := 22) (e := 23) (sz := 1) (a := aa_) (n := a_.length) (cap := ca_) (kk := .i64) (i := 0) (by kernel_rfl) Try.underlying22 (by kernel_rfl) ((ra_.at H1.ext).cell hx2).1 hx2l hx2u) ?_
        refine QRun_y (.slice a1 x3.length c1) (by kernel_rfl) (Y_load1 (t := 23) (p := adr aa_ (0 * 1)) (v := .slice a1 x3.length c1) (by kernel_rfl) (fun w => by kernel_rfl) (cell_at H1.ext hc1)) ?_
        refine QRun_b [.int .i64 (x3.length : Int)] 8 _ (by kernel_rfl) (fun w => by kernel_rfl) ?_
        refine QRun_y (.bool x4) (by kernel_rfl) (Y_callq (f := 69) (args := #[.int .i64 (x3.length : Int), .int .i64 1, .int .i64 10]) (v := .bool x4) (by kernel_rfl) (w_impl_within h1 (x3.length : Int) 1 10 _ _ hx3)) ?_
        refine QRun_b [.bool (!x4)] 10 _ (by kernel_rfl) (fun w => by kernel_rfl) ?_
        refine QRun_bool (!x4) x2 (by kernel_rfl) (fun w => by kernel_rfl) gx2 ?_
        exact QRun_done [1, 14] (by kernel_rfl) (by kernel_rfl)
    exact QRun_done [1, 14] (by kernel_rfl) (by kernel_rfl)
  refine Run_cond (b := x2) (by kernel_rfl) (fun hb2 => ?_) (fun hb2 => ?_)
  · have hF := (M.ite_some hF).1 hb2
    refine Run_seq ?_
    refine Run_reg 1 (by kernel_rfl) (L' := [(2, .bool false)]) ?_ ?_
    · refine QRun_b [.bool false] 0 _ (by kernel_rfl) (fun w => by kernel_rfl) ?_
      exact QRun_done [2] (by kernel_rfl) (by kernel_rfl)
    have hF := M.ret_some hF
    subst hF
    have H2 : Hold h h1 [] := H1.pick [] (by kernel_rfl)
    exact Run_ret1 rfl (ResV_tmp (v := .bool false) (by kernel_rfl)) ⟨rfl, H2⟩
  · have hF := (M.ite_some hF).2 hb2
    refine Run_skip ?_
    refine Run_seq ?_
    obtain ⟨x5, hx4, hF⟩ := M.bind_some hF
    refine Run_reg 5 (by kernel_rfl) (L' := [(2, .bool (!x5))]) ?_ ?_
    · refine QRun_y (.slice aa_ a_.length ca_) (by kernel_rfl) (Y_load1 (t := 22) (p := ⟨b1, 0, none⟩) (v := .slice aa_ a_.length ca_) (by kernel_rfl) (fun w => by kernel_rfl) (H1.cell 0 rfl rfl)) ?_
      refine QRun_b [.func (.func 136) #[] #[.pointer (some ⟨b1, 0, none⟩)]] 1 _ (by kernel_rfl) (fun w => by kernel_rfl) ?_
      refine QRun_y (.bool x5) (by kernel_rfl) (Y_callq (f := 135) (args := #[.slice aa_ a_.length ca_, .func (.func 136) #[] #[.pointer (some ⟨b1, 0, none⟩)]]) (v := .bool x5) (by kernel_rfl) (w_slices_ContainsFunc_row_F_impl_IsMatrix_1 h1 a_ aa_ ca_ (ra_.at H1.ext) a_ aa_ ca_ (ra_.at H1.ext) b1 (H1.var 0 rfl) _ _ hx4)) ?_
      refine QRun_b [.bool (!x5), .bool (!x5)] 3 _ (by kernel_rfl) (fun w => by kernel_rfl) ?_
      exact QRun_done [2] (by kernel_rfl) (by kernel_rfl)
    have hF := M.ret_some hF
    subst hF
    have H3 : Hold h h1 [] := H1.pick [] (by kernel_rfl)
    exact Run_ret1 rfl (ResV_tmp (v := .bool (!x5)) (by kernel_rfl)) ⟨rfl, H3⟩

set_option maxRecDepth 100000 in
set_option maxHeartbeats 4000000 in
theorem w_impl_isSquare (h : Heap) (a_ : List (List Int)) (aa_ : Option Addr) (ca_ : Nat) (ra_ : Rd cd23 h (Lt h) aa_ ca_ a_) (n : Nat) (r : Bool) (hF : impl_isSquare a_ n = some r) :
    Fn Try.prog 68 #[.slice aa_ a_.length ca_] h fun v h' => v = .bool r ∧ Hold h h' [] := by
  unfold impl_isSquare at hF
  refine Fn_enter (args := [.slice aa_ a_.length ca_]) Try.func68 rfl (by kernel_rfl) (by kernel_rfl) (fun w0 _ => ?_)
  have H0 := Hold.init h
  refine Run_seq ?_
  refine Run_reg 1 (by kernel_rfl) (L' := [(0, .slice aa_ a_.length ca_)]) ?_ ?_
  · refine QRun_b [.bool false] 0 _ (by kernel_rfl) (fun w => by kernel_rfl) ?_
    exact QRun_done [0] (by kernel_rfl) (by kernel_rfl)
  refine Run_seq ?_
  obtain ⟨x1, hx1, hF⟩ := M.bind_some hF
  obtain ⟨x2, gx2, hF⟩ := M.bind_some hF
  refine Run_regC (j := 12) (C := fun x => Hold h x []) (by kernel_rfl) H0 (L' := [(2, .bool x2)]) ?_ (fun h1 H1 => ?_)
  · refine QRun_b [.slice aa_ a_.length ca_] 0 _ (by kernel_rfl) (fun w => by kernel_rfl) ?_
    refine QRun_y (.bool x1) (by kernel_rfl) (Y_call (f := 82) (args := #[.slice aa_ a_.length ca_]) (v := .bool x1) (by kernel_rfl) fun hx Hx => (w_impl_IsMatrix hx a_ aa_ ca_ (ra_.at Hx.ext) _ _ hx1).mono fun _ _ ⟨e, H'⟩ => ⟨e, Hx.call H' rfl⟩) ?_
    refine QRun_seq 11 [(13, .bool x2)] ?_ ?_
    · rcases Bool.eq_false_or_eq_true x1 with hb1 | hb1
      · refine QRun_bool x1 true (by kernel_rfl) (fun w => by kernel_rfl) hb1 ?_
        have gx2 := (M.ite_some gx2).1 hb1
        obtain ⟨x3, hx2, gx2⟩ := M.bind_some gx2
        obtain ⟨hx2l, hx2u, hx2⟩ := M.idx_some hx2
        obtain ⟨a1, c1, hc1, r1⟩ := ra_.row hx2
        have gx2 := M.ret_some gx2
        refine QRun_b [.slice aa_ a_.length ca_, .int .i64 (a_.length : Int), .slice aa_ a_.length ca_] 3 _ (by kernel_rfl) (fun w => by kernel_rfl) ?_
        refine QRun_y (.pointer (some (adr aa_ (0 * 1)))) (by kernel_rfl) (Y_cls fun hx Hx => (Y_idx (t := 22) (e := 23) (sz := 1) (a := aa_) (n := a_.length) (cap := ca_) (kk := .i64) (i := 0) (by kernel_rfl) Try.underlying22 (by kernel_rfl) (ra_.cell hx2).1 hx2l hx2u)) ?_
        refine QRun_y (.slice a1 x3.length c1) (by kernel_rfl) (Y_cls fun hx Hx => (Y_load1 (t := 23) (p := adr aa_ (0 * 1)) (v := .slice a1 x3.length c1) (by kernel_rfl) (fun w => by kernel_rfl) (cell_at Hx.ext hc1))) ?_
        refine QRun_b [.int .i64 (x3.length : Int), .bool ((a_.length : Int) == (x3.length : Int))] 8 _ (by kernel_rfl) (fun w => by kernel_rfl) ?_
        refine QRun_bool ((a_.length : Int) == (x3.length : Int)) x2 (by kernel_rfl) (fun w => by kernel_rfl) gx2 ?_
        exact QRun_done [13] (by kernel_rfl) (by kernel_rfl)
      · refine QRun_bool x1 false (by kernel_rfl) (fun w => by kernel_rfl) hb1 ?_
        have gx2 := M.ret_some ((M.ite_some gx2).2 hb1)
        refine QRun_n (by kernel_rfl) ?_
        refine QRun_n (by kernel_rfl) ?_
        refine QRun_n (by kernel_rfl) ?_
        refine QRun_n (by kernel_rfl) ?_
        refine QRun_n (by kernel_rfl) ?_
        refine QRun_n (by kernel_rfl) ?_
        refine QRun_n (by kernel_rfl) ?_
        refine QRun_bool false x2 (by kernel_rfl) (fun w => by kernel_rfl) gx2 ?_
        exact QRun_done [13] (by kernel_rfl) (by kernel_rfl)
    refine QRun_b [.bool x2] 11 _ (by kernel_rfl) (fun w => by kernel_rfl) ?_
    exact QRun_done [2] (by kernel_rfl) (by kernel_rfl)
  have H2 : Hold h h1 [] := H1
  have hF := M.ret_some hF
  subst hF
  exact Run_ret1 rfl (ResV_tmp (v := .bool x2) (by kernel_rfl)) ⟨rfl, H2⟩

set_option maxRecDepth 100000 in
set_option maxHeartbeats 4000000 in
theorem w_impl_isVector (h : Heap) (x_ : List Int) {Sx_ : Bs} (ax_ : Option Addr) (cx_ : Nat) (rx_ : Rd cd2 h Sx_ ax_ cx_ x_) (n : Nat) (r : Bool) (hF : impl_isVector x_ n = some r) :
    Fn Try.prog 91 #[.slice ax_ x_.length cx_] h fun v h' => v = .bool r ∧ h' = h := by
  unfold impl_isVector at hF
  refine Fn_enter (args := [.slice ax_ x_.length cx_]) Try.func91 rfl (by kernel_rfl) (by kernel_rfl) (fun w0 _ => ?_)
  refine Run_seq ?_
  refine Run_reg 1 (by kernel_rfl) (L' := [(0, .slice ax_ x_.length cx_)]) ?_ ?_
  · refine QRun_b [.bool false] 0 _ (by kernel_rfl) (fun w => by kernel_rfl) ?_
    exact QRun_done [0] (by kernel_rfl) (by kernel_rfl)
  refine Run_seq ?_
  obtain ⟨x1, hx1, hF⟩ := M.bind_some hF
  obtain ⟨x2, gx2, hF⟩ := M.bind_some hF
  refine Run_reg 8 (by kernel_rfl) (L' := [(2, .bool x2)]) ?_ ?_
  · refine QRun_b [.slice ax_ x_.length cx_, .int .i64 (x_.length : Int)] 0 _ (by kernel_rfl) (fun w => by kernel_rfl) ?_
    refine QRun_y (.bool x1) (by kernel_rfl) (Y_callq (f := 69) (args := #[.int .i64 (x_.length : Int), .int .i64 1, .int .i64 10]) (v := .bool x1) (by kernel_rfl) (w_impl_within h (x_.length : Int) 1 10 _ _ hx1)) ?_
    refine QRun_seq 7 [(9, .bool x2)] ?_ ?_
    · rcases Bool.eq_false_or_eq_true x1 with hb1 | hb1
      · refine QRun_bool x1 true (by kernel_rfl) (fun w => by kernel_rfl) hb1 ?_
        have gx2 := (M.ite_some gx2).1 hb1
        obtain ⟨x3, hx2, gx2⟩ := M.bind_some gx2
        have gx2 := M.ret_some gx2
        refine QRun_b [.slice ax_ x_.length cx_] 4 _ (by kernel_rfl) (fun w => by kernel_rfl) ?_
        refine QRun_y (.bool x3) (by kernel_rfl) (Y_callq (f := 102) (args := #[.slice ax_ x_.length cx_]) (v := .bool x3) (by kernel_rfl) (w_impl_areValues h x_ ax_ cx_ rx_ _ _ hx2)) ?_
        refine QRun_bool x3 x2 (by kernel_rfl) (fun w => by kernel_rfl) gx2 ?_
        exact QRun_done [9] (by kernel_rfl) (by kernel_rfl)
      · refine QRun_bool x1 false (by kernel_rfl) (fun w => by kernel_rfl) hb1 ?_
        have gx2 := M.ret_some ((M.ite_some gx2).2 hb1)
        refine QRun_n (by kernel_rfl) ?_
        refine QRun_n (by kernel_rfl) ?_
        refine QRun_bool false x2 (by kernel_rfl) (fun w => by kernel_rfl) gx2 ?_
        exact QRun_done [9] (by kernel_rfl) (by kernel_rfl)
    refine QRun_b [.bool x2] 7 _ (by kernel_rfl) (fun w => by kernel_rfl) ?_
    exact QRun_done [2] (by kernel_rfl) (by kernel_rfl)
  have hF := M.ret_some hF
  subst hF
  exact Run_ret1 rfl (ResV_tmp (v := .bool x2) (by kernel_rfl)) ⟨rfl, rfl⟩

set_option maxRecDepth 100000 in
set_option maxHeartbeats 4000000 in
theorem w_impl_checkOrbit (h : Heap) (a_ : List (List Int)) (aa_ : Option Addr) (ca_ : Nat) (ra_ : Rd cd23 h (Lt h) aa_ ca_ a_) (x_ : List Int) (ax_ : Option Addr) (cx_ : Nat) (rx_ : Rd cd2 h (Lt h) ax_ cx_ x_) (n : Nat) (r : Int) (hF : impl_checkOrbit a_ x_ n = some r) :
    Fn Try.prog 59 #[.slice aa_ a_.length ca_, .slice ax_ x_.length cx_] h fun v h' => v = .int .i64 r ∧ Hold h h' [] := by
  unfold impl_checkOrbit at hF
  refine Fn_enter (args := [.slice aa_ a_.length ca_, .slice ax_ x_.length cx_]) Try.func59 rfl (by kernel_rfl) (by kernel_rfl) (fun w0 _ => ?_)
  have H0 := Hold.init h
  refine Run_seq ?_
  refine Run_reg 1 (by kernel_rfl) (L' := [(0, .slice aa_ a_.length ca_), (1, .slice ax_ x_.length cx_)]) ?_ ?_
  · refine QRun_b [.int .i64 0] 0 _ (by kernel_rfl) (fun w => by kernel_rfl) ?_
    exact QRun_done [0, 1] (by kernel_rfl) (by kernel_rfl)
  refine Run_seq ?_
  refine Run_block ?_
  refine Run_seq ?_
  obtain ⟨x1, hx1, hF⟩ := M.bind_some hF
  obtain ⟨x2, gx2, hF⟩ := M.bind_some hF
  refine Run_regC (j := 9) (C := fun x => Hold h x []) (by kernel_rfl) H0 (L' := [(0, .slice aa_ a_.length ca_), (1, .slice ax_ x_.length cx_), (5, .bool x2)]) ?_ (fun h1 H1 => ?_)
  · refine QRun_b [.slice aa_ a_.length ca_] 0 _ (by kernel_rfl) (fun w => by kernel_rfl) ?_
    refine QRun_y (.bool x1) (by kernel_rfl) (Y_call (f := 68) (args := #[.slice aa_ a_.length ca_]) (v := .bool x1) (by kernel_rfl) fun hx Hx => (w_impl_isSquare hx a_ aa_ ca_ (ra_.at Hx.ext) _ _ hx1).mono fun _ _ ⟨e, H'⟩ => ⟨e, Hx.call H' rfl⟩) ?_
    refine QRun_b [.bool (!x1)] 2 _ (by kernel_rfl) (fun w => by kernel_rfl) ?_
    refine QRun_seq 8 [(0, .slice aa_ a_.length ca_), (1, .slice ax_ x_.length cx_), (13, .bool x2)] ?_ ?_
    · rcases Bool.eq_false_or_eq_true (!x1) with hb1 | hb1
      · refine QRun_bool (!x1) true (by kernel_rfl) (fun w => by kernel_rfl) hb1 ?_
        have gx2 := M.ret_some ((M.ite_some gx2).1 hb1)
        refine QRun_n (by kernel_rfl) ?_
        refine QRun_n (by kernel_rfl) ?_
        refine QRun_n (by kernel_rfl) ?_
        refine QRun_bool true x2 (by kernel_rfl) (fun w => by kernel_rfl) gx2 ?_
        exact QRun_done [0, 1, 13] (by kernel_rfl) (by kernel_rfl)
      · refine QRun_bool (!x1) false (by kernel_rfl) (fun w => by kernel_rfl) hb1 ?_
        have gx2 := (M.ite_some gx2).2 hb1
        obtain ⟨x3, hx2, gx2⟩ := M.bind_some gx2
        have gx2 := M.ret_some gx2
        refine QRun_b [.slice ax_ x_.length cx_] 4 _ (by kernel_rfl) (fun w => by kernel_rfl) ?_
        refine QRun_y (.bool x3) (by kernel_rfl) (Y_cls fun hx Hx => (Y_callq (f := 91) (args := #[.slice ax_ x_.length cx_]) (v := .bool x3) (by kernel_rfl) (w_impl_isVector hx x_ ax_ cx_ (rx_.at Hx.ext) _ _ hx2))) ?_
        refine QRun_b [.bool (!x3)] 6 _ (by kernel_rfl) (fun w => by kernel_rfl) ?_
        refine QRun_bool (!x3) x2 (by kernel_rfl) (fun w => by kernel_rfl) gx2 ?_
        exact QRun_done [0, 1, 13] (by kernel_rfl) (by kernel_rfl)
    refine QRun_b [.bool x2] 8 _ (by kernel_rfl) (fun w => by kernel_rfl) ?_
    exact QRun_done [0, 1, 5] (by kernel_rfl) (by kernel_rfl)
  have H2 : Hold h h1 [] := H1
  refine Run_cond (b := x2) (by kernel_rfl) (fun hb2 => ?_) (fun hb2 => ?_)
  · have hF := (M.ite_some hF).1 hb2
    refine Run_seq ?_
    refine Run_reg 1 (by kernel_rfl) (L' := [(4, .int .i64 1)]) ?_ ?_
    · refine QRun_b [.int .i64 1] 0 _ (by kernel_rfl) (fun w => by kernel_rfl) ?_
      exact QRun_done [4] (by kernel_rfl) (by kernel_rfl)
    have hF := M.ret_some hF
    subst hF
    exact Run_ret1 rfl (ResV_tmp (v := .int .i64 1) (by kernel_rfl)) ⟨rfl, H2⟩
  · have hF := (M.ite_some hF).2 hb2
    refine Run_seq ?_
    refine Run_reg 6 (by kernel_rfl) (L' := [(14, .bool ((x_.length : Int) != (a_.length : Int)))]) ?_ ?_
    · refine QRun_b [.slice ax_ x_.length cx_, .int .i64 (x_.length : Int), .slice aa_ a_.length ca_, .int .i64 (a_.length : Int), .bool ((x_.length : Int) != (a_.length : Int)), .bool ((x_.length : Int) != (a_.length : Int))] 0 _ (by kernel_rfl) (fun w => by kernel_rfl) ?_
      exact QRun_done [14] (by kernel_rfl) (by kernel_rfl)
    refine Run_cond (b := (x_.length : Int) != (a_.length : Int)) (by kernel_rfl) (fun hb3 => ?_) (fun hb3 => ?_)
    · have hF := (M.ite_some hF).1 hb3
      refine Run_seq ?_
      refine Run_reg 1 (by kernel_rfl) (L' := [(4, .int .i64 5)]) ?_ ?_
      · refine QRun_b [.int .i64 5] 0 _ (by kernel_rfl) (fun w => by kernel_rfl) ?_
        exact QRun_done [4] (by kernel_rfl) (by kernel_rfl)
      have hF := M.ret_some hF
      subst hF
      exact Run_ret1 rfl (ResV_tmp (v := .int .i64 5) (by kernel_rfl)) ⟨rfl, H2⟩
    · have hF := (M.ite_some hF).2 hb3
      refine Run_skip ?_
      refine Run_blk ?_
      refine Run_seq ?_
      refine Run_reg 1 (by kernel_rfl) (L' := [(4, .int .i64 0)]) ?_ ?_
      · refine QRun_b [.int .i64 0] 0 _ (by kernel_rfl) (fun w => by kernel_rfl) ?_
        exact QRun_done [4] (by kernel_rfl) (by kernel_rfl)
      have hF := M.ret_some hF
      subst hF
      exact Run_ret1 rfl (ResV_tmp (v := .int .i64 0) (by kernel_rfl)) ⟨rfl, H2⟩

set_option maxRecDepth 100000 in
set_option maxHeartbeats 4000000 in
theorem w_impl_transposed_1 (h : Heap) (i : Int) (j : Int) (z0 : List (List Int)) {Sz0 : Bs} (az0 : Option Addr) (cz0 : Nat) (rz0 : Rd cd23 h Sz0 az0 cz0 z0) (bz0 : Nat) (vz0 : VarAt h bz0 22 [.slice az0 z0.length cz0]) (n : Nat) (r : Int) (hF : impl_transposed_1 i j z0 n = some r) :
    Fn Try.prog 142 #[.int .i64 i, .int .i64 j, .pointer (some ⟨bz0, 0, none⟩)] h fun v h' => v = .int .i64 r ∧ h' = h := by
  unfold impl_transposed_1 at hF
  refine Fn_enter (args := [.int .i64 i, .int .i64 j, .pointer (some ⟨bz0, 0, none⟩)]) Try.func142 rfl (by kernel_rfl) (by kernel_rfl) (fun w0 _ => ?_)
  refine Run_seq ?_
  refine Run_reg 1 (by kernel_rfl) (L' := [(0, .int .i64 i), (1, .int .i64 j), (2, .pointer (some ⟨bz0, 0, none⟩))]) ?_ ?_
  · refine QRun_b [.int .i64 0] 0 _ (by kernel_rfl) (fun w => by kernel_rfl) ?_
    exact QRun_done [0, 1, 2] (by kernel_rfl) (by kernel_rfl)
  refine Run_seq ?_
  obtain ⟨x1, hx1, hF⟩ := M.bind_some hF
  obtain ⟨hx1l, hx1u, hx1⟩ := M.idx_some hx1
  obtain ⟨a1, c1, hc1, r1⟩ := rz0.row hx1
  obtain ⟨x2, hx2, hF⟩ := M.bind_some hF
  obtain ⟨hx2l, hx2u, hx2⟩ := M.idx_some hx2
  refine Run_reg 8 (by kernel_rfl) (L' := [(5, .int .i64 x2)]) ?_ ?_
  · refine QRun_y (.slice az0 z0.length cz0) (by kernel_rfl) (Y_load1 (t := 22) (p := ⟨bz0, 0, none⟩) (v := .slice az0 z0.length cz0) (by kernel_rfl) (fun w => by kernel_rfl) (VarAt.cell vz0 rfl)) ?_
    refine QRun_b [.int .i64 j] 1 _ (by kernel_rfl) (fun w => by kernel_rfl) ?_
    refine QRun_y (.pointer (some (adr az0 (j.toNat * 1)))) (by kernel_rfl) (Y_idx (t := 22) (e := 23) (sz := 1) (a := az0) (n := z0.length) (cap := cz0) (kk := .i64) (i := j) (by kernel_rfl) Try.underlying22 (by kernel_rfl) (rz0.cell hx1).1 hx1l hx1u) ?_
    refine QRun_y (.slice a1 x1.length c1) (by kernel_rfl) (Y_load1 (t := 23) (p := adr az0 (j.toNat * 1)) (v := .slice a1 x1.length c1) (by kernel_rfl) (fun w => by kernel_rfl) hc1) ?_
    refine QRun_b [.int .i64 i] 4 _ (by kernel_rfl) (fun w => by kernel_rfl) ?_
    refine QRun_y (.pointer (some (adr a1 (i.toNat * 1)))) (by kernel_rfl) (Y_idx (t := 23) (e := 2) (sz := 1) (a := a1) (n := x1.length) (cap := c1) (kk := .i64) (i := i) (by kernel_rfl) Try.underlying23 (by kernel_rfl) (r1.cell hx2).1 hx2l hx2u) ?_
    refine QRun_y (.int .i64 x2) (by kernel_rfl) (Y_load1 (t := 2) (p := adr a1 (i.toNat * 1)) (v := .int .i64 x2) (by kernel_rfl) (fun w => by kernel_rfl) (cd2_cell r1 hx2)) ?_
    refine QRun_b [.int .i64 x2] 7 _ (by kernel_rfl) (fun w => by kernel_rfl) ?_
    exact QRun_done [5] (by kernel_rfl) (by kernel_rfl)
  have hF := M.ret_some hF
  subst hF
  exact Run_ret1 rfl (ResV_tmp (v := .int .i64 x2) (by kernel_rfl)) ⟨rfl, rfl⟩

set_option maxRecDepth 100000 in
set_option maxHeartbeats 4000000 in
theorem w_impl_matrixBy_F_impl_transposed_1 (h : Heap) (m_ : Int) (n_ : Int) (entry0 : List (List Int)) (aentry0 : Option Addr) (centry0 : Nat) (rentry0 : Rd cd23 h (Lt h) aentry0 centry0 entry0) (bentry0 : Nat) (ventry0 : VarAt h bentry0 22 [.slice aentry0 entry0.length centry0]) (n : Nat) (r : (List (List Int))) (hF : impl_matrixBy_F_impl_transposed_1 m_ n_ entry0 n = some r) :
    Fn Try.prog 137 #[.int .i64 m_, .int .i64 n_, .func (.func 142) #[] #[.pointer (some ⟨bentry0, 0, none⟩)]] h fun v h' => ∃ (a0 : Option Addr) (c0 : Nat), v = .slice a0 r.length c0 ∧ Hold h h' [own cd23 a0 r.length c0 r] := by
  unfold impl_matrixBy_F_impl_transposed_1 at hF
  refine Fn_enter (args := [.int .i64 m_, .int .i64 n_, .func (.func 142) #[] #[.pointer (some ⟨bentry0, 0, none⟩)]]) Try.func137 rfl (by kernel_rfl) (by kernel_rfl) (fun w0 _ => ?_)
  have H0 := Hold.init h
  refine Run_seq ?_
  refine Run_reg 1 (by kernel_rfl) (L' := [(0, .int .i64 m_), (1, .int .i64 n_), (2, .func (.func 142) #[] #[.pointer (some ⟨bentry0, 0, none⟩)])]) ?_ ?_
  · refine QRun_b [.slice none 0 0] 0 _ (by kernel_rfl) (fun w => by kernel_rfl) ?_
    exact QRun_done [0, 1, 2] (by kernel_rfl) (by kernel_rfl)
  refine Run_seq ?_
  refine Run_ops ?_
  refine Run_b [.int .i64 m_] 0 _ (by kernel_rfl) (fun w => by kernel_rfl) ?_
  obtain ⟨l1, hl1, hF⟩ := M.bind_some hF
  have hl1 := M.make_some hl1
  refine Run_E (by kernel_rfl) ?_
  refine E_make cd23 [] (kl := .i64) (kc := .i64) H0 cd23_ti Try.underlying22 (by decide) cd23_zero (by kernel_rfl) hl1 (fun a1 h1 H1 => ?_)
  refine Run_b [.slice a1 l1.length l1.length] 2 _ (by kernel_rfl) (fun w => by kernel_rfl) ?_
  refine Run_nil (by kernel_rfl) ?_
  refine Run_keep [1, 2, 7] (L' := [(1, .int .i64 n_), (2, .func (.func 142) #[] #[.pointer (some ⟨bentry0, 0, none⟩)]), (7, .slice a1 l1.length l1.length)]) (by kernel_rfl) ?_
  refine Run_seq ?_
  refine Run_seq ?_
  refine Run_reg 3 (by kernel_rfl) (L' := [(1, .int .i64 n_), (2, .func (.func 142) #[] #[.pointer (some ⟨bentry0, 0, none⟩)]), (7, .slice a1 l1.length l1.length), (13, .int .i64 (l1.length : Int)), (14, .int .i64 0)]) ?_ ?_
  · refine QRun_b [.slice a1 l1.length l1.length, .int .i64 (l1.length : Int), .int .i64 0] 0 _ (by kernel_rfl) (fun w => by kernel_rfl) ?_
    exact QRun_done [1, 2, 7, 13, 14] (by kernel_rfl) (by kernel_rfl)
  obtain ⟨x1, gx1, hF⟩ := M.bind_some hF
  obtain ⟨hloy1, hhiy1, gx1⟩ := M.for_start gx1
  refine Run_join (fun L' h' => L' = [(7, .slice a1 l1.length l1.length)] ∧ Hold h h' [own cd23 a1 l1.length l1.length x1]) ?_ ?_
  · rintro _ h3 ⟨rfl, H3⟩
    refine Run_seq ?_
    refine Run_reg 2 (by kernel_rfl) (L' := [(6, .slice a1 l1.length l1.length)]) ?_ ?_
    · refine QRun_b [.slice a1 l1.length l1.length, .slice a1 l1.length l1.length] 0 _ (by kernel_rfl) (fun w => by kernel_rfl) ?_
      exact QRun_done [6] (by kernel_rfl) (by kernel_rfl)
    have hF := M.ret_some hF
    subst hF
    have H20 := H3.norm
    exact Run_ret1 rfl (ResV_tmp (v := .slice a1 l1.length l1.length) (by kernel_rfl)) ⟨a1, l1.length, (by simp only [(H3.len 0 rfl)]), H20⟩
  · refine Run_block ?_
    refine Run_keep [1, 2, 7, 13, 14] (L' := [(1, .int .i64 n_), (2, .func (.func 142) #[] #[.pointer (some ⟨bentry0, 0, none⟩)]), (7, .slice a1 l1.length l1.length), (13, .int .i64 (l1.length : Int)), (14, .int .i64 0)]) (by kernel_rfl) ?_
    refine Run_loop (fun m L' h' => ∃ (i1 : Int) (s1 : (List (List Int))), 0 ≤ i1 ∧ M.forN (l1.length : Int) _ _ n m i1 s1 = some x1 ∧ L' = [(1, .int .i64 n_), (2, .func (.func 142) #[] #[.pointer (some ⟨bentry0, 0, none⟩)]), (7, .slice a1 l1.length l1.length), (13, .int .i64 (l1.length : Int)), (14, .int .i64 i1)] ∧ Hold h h' [own cd23 a1 l1.length l1.length s1]) ((l1.length : Int) - 0 : Int).toNat ⟨0, l1, Int.le_refl _, gx1, rfl, H1⟩ ?_
    rintro my1 _ h2 ⟨i1, s1, hloy1', gx1, rfl, H2⟩
    refine Run_seq ?_
    refine Run_reg 1 (by kernel_rfl) (L' := [(1, .int .i64 n_), (2, .func (.func 142) #[] #[.pointer (some ⟨bentry0, 0, none⟩)]), (7, .slice a1 l1.length l1.length), (13, .int .i64 (l1.length : Int)), (14, .int .i64 i1), (15, .bool (decide (i1 < (l1.length : Int))))]) ?_ ?_
    · refine QRun_b [.bool (decide (i1 < (l1.length : Int)))] 0 _ (by kernel_rfl) (fun w => by kernel_rfl) ?_
      exact QRun_done [1, 2, 7, 13, 14, 15] (by kernel_rfl) (by kernel_rfl)
    refine Run_seq ?_
    refine Run_cond (b := decide (i1 < (l1.length : Int))) (by kernel_rfl) (fun hb1 => ?_) (fun hb1 => ?_)
    · obtain ⟨my1, y1, rfl, hB1, hgoy1, houty1⟩ := M.for_go gx1 hb1
      have hlty1 := of_decide_eq_true hb1
      refine Run_skip ?_
      refine Run_seq ?_
      refine Run_block ?_
      refine Run_seq ?_
      refine Run_reg 2 (by kernel_rfl) (L' := [(1, .int .i64 n_), (2, .func (.func 142) #[] #[.pointer (some ⟨bentry0, 0, none⟩)]), (7, .slice a1 l1.length l1.length), (8, .int .i64 i1), (13, .int .i64 (l1.length : Int)), (14, .int .i64 i1)]) ?_ ?_
      · refine QRun_b [.int .i64 i1, .int .i64 i1] 0 _ (by kernel_rfl) (fun w => by kernel_rfl) ?_
        exact QRun_done [1, 2, 7, 8, 13, 14] (by kernel_rfl) (by kernel_rfl)
      refine Run_seq ?_
      refine Run_ops ?_
      refine Run_b [.slice a1 l1.length l1.length, .int .i64 i1, .int .i64 n_] 0 _ (by kernel_rfl) (fun w => by kernel_rfl) ?_
      obtain ⟨l2, hl2, hB1⟩ := M.bind_some hB1
      have hl2 := M.make_some hl2
      refine Run_E (by kernel_rfl) ?_
      refine E_make cd2 0 (kl := .i64) (kc := .i64) H2 cd2_ti Try.underlying23 (by decide) cd2_zero (by kernel_rfl) hl2 (fun a2 h4 H4 => ?_)
      obtain ⟨x2, hx1, hB1⟩ := M.bind_some hB1
      obtain ⟨hx1l, hx1u, hx1⟩ := M.idx_some hx1
      refine Run_y (.pointer (some (adr a1 (i1.toNat * 1)))) (by kernel_rfl) (Y_idx (t := 22) (e := 23) (sz := 1) (a := a1) (n := l1.length) (cap := l1.length) (kk := .i64) (i := i1) (by kernel_rfl) Try.underlying22 (by kernel_rfl) ((H4.rd 1 rfl).cell hx1).1 hx1l (by rw [← (H4.len 1 rfl)]; exact hx1u)) ?_
      obtain ⟨l3, hu1, hB1⟩ := M.bind_some hB1
      have hu1 := M.upd_some hu1
      have H6 : Hold h h4 [own cd23 a1 l1.length l1.length s1, own cd2 a2 l2.length l2.length l2] := H4.pick [1, 0] (by kernel_rfl)
      have H7 : Hold h h4 [own cd2 a2 l2.length l2.length l2, own cd23 a1 l1.length l1.length s1] := H6.pick [1, 0] (by kernel_rfl)
      have H8 : Hold h h4 [own cd23 a1 l1.length l1.length s1, own cd2 a2 l2.length l2.length l2] := H7.pick [1, 0] (by kernel_rfl)
      refine Run_E (by kernel_rfl) ?_
      refine E_putRow (t := 23) (j := i1) H8 (by kernel_rfl) (by kernel_rfl) hu1 (fun h5 H5 => ?_)
      refine Run_nil (by kernel_rfl) ?_
      refine Run_keep [1, 2, 7, 8, 13, 14] (L' := [(1, .int .i64 n_), (2, .func (.func 142) #[] #[.pointer (some ⟨bentry0, 0, none⟩)]), (7, .slice a1 l1.length l1.length), (8, .int .i64 i1), (13, .int .i64 (l1.length : Int)), (14, .int .i64 i1)]) (by kernel_rfl) ?_
      refine Run_seq ?_
      obtain ⟨x3, hx2, hB1⟩ := M.bind_some hB1
      obtain ⟨hx2l, hx2u, hx2⟩ := M.idx_some hx2
      have H9 := H5.toRows
      obtain ⟨a3, c1, H10⟩ := H9.pinRow hx2
      refine Run_reg 6 (by kernel_rfl) (L' := [(1, .int .i64 n_), (2, .func (.func 142) #[] #[.pointer (some ⟨bentry0, 0, none⟩)]), (7, .slice a1 l1.length l1.length), (8, .int .i64 i1), (13, .int .i64 (l1.length : Int)), (14, .int .i64 i1), (26, .int .i64 (x3.length : Int)), (27, .int .i64 0)]) ?_ ?_
      · refine QRun_b [.slice a1 l1.length l1.length, .int .i64 i1] 0 _ (by kernel_rfl) (fun w => by kernel_rfl) ?_
        refine QRun_y (.pointer (some (adr a1 (i1.toNat * 1)))) (by kernel_rfl) (Y_idx (t := 22) (e := 23) (sz := 1) (a := a1) (n := l1.length) (cap := l1.length) (kk := .i64) (i := i1) (by kernel_rfl) Try.underlying22 (by kernel_rfl) ((H5.rd 0 rfl).cell hx2).1 hx2l (by rw [← (H5.len 0 rfl)]; exact hx2u)) ?_
        refine QRun_y (.slice a3 x3.length c1) (by kernel_rfl) (Y_load1 (t := 23) (p := adr a1 (i1.toNat * 1)) (v := .slice a3 x3.length c1) (by kernel_rfl) (fun w => by kernel_rfl) (H10.cellPin 0 rfl 0 rfl)) ?_
        refine QRun_b [.int .i64 (x3.length : Int), .int .i64 0] 4 _ (by kernel_rfl) (fun w => by kernel_rfl) ?_
        exact QRun_done [1, 2, 7, 8, 13, 14, 26, 27] (by kernel_rfl) (by kernel_rfl)
      obtain ⟨x4, gx4, hB1⟩ := M.bind_some hB1
      obtain ⟨hloy2, hhiy2, gx4⟩ := M.for_start gx4
      refine Run_join (fun L' h' => L' = [(1, .int .i64 n_), (2, .func (.func 142) #[] #[.pointer (some ⟨bentry0, 0, none⟩)]), (7, .slice a1 l1.length l1.length), (13, .int .i64 (l1.length : Int)), (14, .int .i64 i1)] ∧ Hold h h' [own cd23 a1 l1.length l1.length x4]) ?_ ?_
      · rintro _ h7 ⟨rfl, H12⟩
        refine Run_blk ?_
        refine Run_reg 2 (by kernel_rfl) (L' := [(1, .int .i64 n_), (2, .func (.func 142) #[] #[.pointer (some ⟨bentry0, 0, none⟩)]), (7, .slice a1 l1.length l1.length), (13, .int .i64 (l1.length : Int)), (14, .int .i64 (i1 + 1))]) ?_ ?_
        · refine QRun_y (.int .i64 (i1 + 1)) (by kernel_rfl) (Y_eq (v := .int .i64 (w64 (i1 + 1))) (Y_pure (fun w => by kernel_rfl)) (by rw [w64_eq _ (by omega)])) ?_
          refine QRun_b [.int .i64 (i1 + 1)] 1 _ (by kernel_rfl) (fun w => by kernel_rfl) ?_
          exact QRun_done [1, 2, 7, 13, 14] (by kernel_rfl) (by kernel_rfl)
        have hB1 := M.ret_some hB1
        have gx1 := hgoy1 _ hB1.symm
        exact Run_again [1, 2, 7, 13, 14] (by kernel_rfl) my1 (Nat.lt_succ_self _) ⟨i1 + 1, x4, by omega, gx1, rfl, H12⟩
      · refine Run_block ?_
        have H19 := H10.ofRows
        refine Run_keep [1, 2, 7, 8, 13, 14, 26, 27] (L' := [(1, .int .i64 n_), (2, .func (.func 142) #[] #[.pointer (some ⟨bentry0, 0, none⟩)]), (7, .slice a1 l1.length l1.length), (8, .int .i64 i1), (13, .int .i64 (l1.length : Int)), (14, .int .i64 i1), (26, .int .i64 (x3.length : Int)), (27, .int .i64 0)]) (by kernel_rfl) ?_
        refine Run_loop (fun m L' h' => ∃ (i2 : Int) (s2 : (List (List Int))), 0 ≤ i2 ∧ M.forN (x3.length : Int) _ _ n m i2 s2 = some x4 ∧ L' = [(1, .int .i64 n_), (2, .func (.func 142) #[] #[.pointer (some ⟨bentry0, 0, none⟩)]), (7, .slice a1 l1.length l1.length), (8, .int .i64 i1), (13, .int .i64 (l1.length : Int)), (14, .int .i64 i1), (26, .int .i64 (x3.length : Int)), (27, .int .i64 i2)] ∧ Hold h h' [own cd23 a1 l1.length l1.length s2]) ((x3.length : Int) - 0 : Int).toNat ⟨0, l3, Int.le_refl _, gx4, rfl, H19⟩ ?_
        rintro my2 _ h6 ⟨i2, s2, hloy2', gx4, rfl, H11⟩
        refine Run_seq ?_
        refine Run_reg 1 (by kernel_rfl) (L' := [(1, .int .i64 n_), (2, .func (.func 142) #[] #[.pointer (some ⟨bentry0, 0, none⟩)]), (7, .slice a1 l1.length l1.length), (8, .int .i64 i1), (13, .int .i64 (l1.length : Int)), (14, .int .i64 i1), (26, .int .i64 (x3.length : Int)), (27, .int .i64 i2), (28, .bool (decide (i2 < (x3.length : Int))))]) ?_ ?_
        · refine QRun_b [.bool (decide (i2 < (x3.length : Int)))] 0 _ (by kernel_rfl) (fun w => by kernel_rfl) ?_
          exact QRun_done [1, 2, 7, 8, 13, 14, 26, 27, 28] (by kernel_rfl) (by kernel_rfl)
        refine Run_seq ?_
        refine Run_cond (b := decide (i2 < (x3.length : Int))) (by kernel_rfl) (fun hb2 => ?_) (fun hb2 => ?_)
        · obtain ⟨my2, y2, rfl, hB2, hgoy2, houty2⟩ := M.for_go gx4 hb2
          have hlty2 := of_decide_eq_true hb2
          refine Run_skip ?_
          refine Run_seq ?_
          refine Run_block ?_
          refine Run_seq ?_
          refine Run_reg 2 (by kernel_rfl) (L' := [(1, .int .i64 n_), (2, .func (.func 142) #[] #[.pointer (some ⟨bentry0, 0, none⟩)]), (7, .slice a1 l1.length l1.length), (8, .int .i64 i1), (9, .int .i64 i2), (13, .int .i64 (l1.length : Int)), (14, .int .i64 i1), (26, .int .i64 (x3.length : Int)), (27, .int .i64 i2)]) ?_ ?_
          · refine QRun_b [.int .i64 i2, .int .i64 i2] 0 _ (by kernel_rfl) (fun w => by kernel_rfl) ?_
            exact QRun_done [1, 2, 7, 8, 9, 13, 14, 26, 27] (by kernel_rfl) (by kernel_rfl)
          obtain ⟨x5, hx3, hB2⟩ := M.bind_some hB2
          obtain ⟨hx3l, hx3u, hx3⟩ := M.idx_some hx3
          have H13 := H11.toRows
          obtain ⟨a4, c2, H14⟩ := H13.pinRow hx3
          obtain ⟨x6, hx4, hB2⟩ := M.bind_some hB2
          obtain ⟨x7, hx5, hB2⟩ := M.bind_some hB2
          obtain ⟨hx5l, hx5u, hx5⟩ := M.idx_some hx5
          refine Run_D (fun x => Hold h x [rowsP cd2 23 a1 l1.length l1.length s2 [(i1.toNat, a4, x5.length, c2, x5)]]) (fun x => Hold h x [rowsP cd2 23 a1 l1.length l1.length s2 [(i1.toNat, a4, x5.length, c2, x5)]]) mixed (by kernel_rfl) H14 Hold.stable (fun x Hy => (show Hold h x [rowsP cd2 23 a1 l1.length l1.length s2 [(i1.toNat, a4, x5.length, c2, x5)]] from Hy).pick [0] (by kernel_rfl)) ?_
          refine DR_b 9 [.slice a1 l1.length l1.length, .int .i64 i1] 0 (by kernel_rfl) (by kernel_rfl) (by kernel_rfl) (fun w => by kernel_rfl) ?_
          refine DR_y 8 (i := 2) (.pointer (some (adr a1 (i1.toNat * 1)))) (by kernel_rfl) (by kernel_rfl) (by kernel_rfl) (fun hx Hx => (YE.of (Y_idx (t := 22) (e := 23) (sz := 1) (a := a1) (n := l1.length) (cap := l1.length) (kk := .i64) (i := i1) (by kernel_rfl) Try.underlying22 (by kernel_rfl) ((H11.rd 0 rfl).cell hx3).1 hx3l (by rw [← (H11.len 0 rfl)]; exact hx3u)))) ?_
          refine DR_y 7 (i := 3) (.slice a4 x5.length c2) (by kernel_rfl) (by kernel_rfl) (by kernel_rfl) (fun hx Hx => (YE.of (Y_load1 (t := 23) (p := adr a1 (i1.toNat * 1)) (v := .slice a4 x5.length c2) (by kernel_rfl) (fun w => by kernel_rfl) (Hx.cellPin 0 rfl 0 rfl)))) ?_
          refine DR_b 3 [.int .i64 i2, .func (.func 142) #[] #[.pointer (some ⟨bentry0, 0, none⟩)], .int .i64 i1, .int .i64 i2] 4 (by kernel_rfl) (by kernel_rfl) (by kernel_rfl) (fun w => by kernel_rfl) ?_
          refine DR_y 2 (i := 8) (.int .i64 x6) (by kernel_rfl) (by kernel_rfl) (by kernel_rfl) (fun hx Hx => (YE.of (Y_callq (f := 142) (args := #[.int .i64 i1, .int .i64 i2, .pointer (some ⟨bentry0, 0, none⟩)]) (v := .int .i64 x6) (by kernel_rfl) (w_impl_transposed_1 hx i1 i2 entry0 aentry0 centry0 (rentry0.at Hx.ext) bentry0 (ventry0.at Hx.ext) _ _ hx4)))) ?_
          refine DR_y 1 (i := 9) (.pointer (some (adr a4 (i2.toNat * 1)))) (by kernel_rfl) (by kernel_rfl) (by kernel_rfl) (fun hx Hx => (YE.of (Y_idx (t := 23) (e := 2) (sz := 1) (a := a4) (n := x5.length) (cap := c2) (kk := .i64) (i := i2) (by kernel_rfl) Try.underlying23 (by kernel_rfl) ((H14.rdPin 0 rfl 0 rfl).cell hx5).1 hx5l hx5u))) ?_
          refine DR_tail (i := 10) (by kernel_rfl) (by kernel_rfl) (by kernel_rfl) (fun h8 H15 => ?_)
          have H16 : Hold h h8 [rowsP cd2 23 a1 l1.length l1.length s2 [(i1.toNat, a4, x5.length, c2, x5)]] := H15
          obtain ⟨l4, hu2, hB2⟩ := M.bind_some hB2
          have hu2 := M.upd_some hu2
          refine Run_E (by kernel_rfl) ?_
          refine E_put2 (C := cd2) (t := 2) (sz := 1) (j := i2) (x := x6) (v := .int .i64 x6) (m2 := s2.set i1.toNat l4) H16 cd2_flat 0 rfl (by kernel_rfl) rfl (cd2_own _) (by kernel_rfl) hu2 rfl (fun h9 H17 => ?_)
          refine Run_nil (by kernel_rfl) ?_
          refine Run_keep [1, 2, 7, 8, 13, 14, 26, 27] (L' := [(1, .int .i64 n_), (2, .func (.func 142) #[] #[.pointer (some ⟨bentry0, 0, none⟩)]), (7, .slice a1 l1.length l1.length), (8, .int .i64 i1), (13, .int .i64 (l1.length : Int)), (14, .int .i64 i1), (26, .int .i64 (x3.length : Int)), (27, .int .i64 i2)]) (by kernel_rfl) ?_
          refine Run_blk ?_
          refine Run_reg 2 (by kernel_rfl) (L' := [(1, .int .i64 n_), (2, .func (.func 142) #[] #[.pointer (some ⟨bentry0, 0, none⟩)]), (7, .slice a1 l1.length l1.length), (8, .int .i64 i1), (13, .int .i64 (l1.length : Int)), (14, .int .i64 i1), (26, .int .i64 (x3.length : Int)), (27, .int .i64 (i2 + 1))]) ?_ ?_
          · refine QRun_y (.int .i64 (i2 + 1)) (by kernel_rfl) (Y_eq (v := .int .i64 (w64 (i2 + 1))) (Y_pure (fun w => by kernel_rfl)) (by rw [w64_eq _ (by omega)])) ?_
            refine QRun_b [.int .i64 (i2 + 1)] 1 _ (by kernel_rfl) (fun w => by kernel_rfl) ?_
            exact QRun_done [1, 2, 7, 8, 13, 14, 26, 27] (by kernel_rfl) (by kernel_rfl)
          have H18 := H17.ofRows
          have hB2 := M.ret_some hB2
          have gx4 := hgoy2 _ hB2.symm
          exact Run_again [1, 2, 7, 8, 13, 14, 26, 27] (by kernel_rfl) my2 (Nat.lt_succ_self _) ⟨i2 + 1, (s2.set i1.toNat l4), by omega, gx4, rfl, H18⟩
        · have gx4 := M.for_end gx4 hb2
          subst gx4
          refine Run_exit (k' := _) rfl ?_
          exact Run_fall [1, 2, 7, 13, 14] (by kernel_rfl) ⟨rfl, H11⟩
    · have gx1 := M.for_end gx1 hb1
      subst gx1
      refine Run_exit (k' := _) rfl ?_
      exact Run_fall [7] (by kernel_rfl) ⟨rfl, H2⟩

set_option maxRecDepth 100000 in
set_option maxHeartbeats 4000000 in
theorem w_impl_transposed (h : Heap) (a_ : List (List Int)) (aa_ : Option Addr) (ca_ : Nat) (ra_ : Rd cd23 h (Lt h) aa_ ca_ a_) (n : Nat) (r : (List (List Int))) (hF : impl_transposed a_ n = some r) :
    Fn Try.prog 90 #[.slice aa_ a_.length ca_] h fun v h' => ∃ (a0 : Option Addr) (c0 : Nat), v = .slice a0 r.length c0 ∧ Hold h h' [own cd23 a0 r.length c0 r] := by
  unfold impl_transposed at hF
  refine Fn_enter (args := [.slice aa_ a_.length ca_]) Try.func90 rfl (by kernel_rfl) (by kernel_rfl) (fun w0 _ => ?_)
  have H0 := Hold.init h
  refine Run_seq ?_
  refine Run_ops ?_
  refine Run_E (by kernel_rfl) ?_
  refine E_box (ty := 22) (cs := [.slice aa_ a_.length ca_]) H0 (fun w => by kernel_rfl) (fun b1 h1 H1 => ?_)
  refine Run_b [.slice none 0 0] 1 _ (by kernel_rfl) (fun w => by kernel_rfl) ?_
  refine Run_nil (by kernel_rfl) ?_
  refine Run_keep [1] (L' := [(1, .pointer (some ⟨b1, 0, none⟩))]) (by kernel_rfl) ?_
  refine Run_seq ?_
  obtain ⟨x1, hx1, hF⟩ := M.bind_some hF
  obtain ⟨hx1l, hx1u, hx1⟩ := M.idx_some hx1
  obtain ⟨a1, c1, hc1, r1⟩ := ra_.row hx1
  refine Run_D (fun x => Hold h x [box b1 22 [.slice aa_ a_.length ca_]]) (fun x => Hold h x [box b1 22 [.slice aa_ a_.length ca_]]) mixed (by kernel_rfl) H1 Hold.stable (fun x Hy => (show Hold h x [box b1 22 [.slice aa_ a_.length ca_]] from Hy).pick [0] (by kernel_rfl)) ?_
  refine DR_y 8 (i := 0) (.slice aa_ a_.length ca_) (by kernel_rfl) (by kernel_rfl) (by kernel_rfl) (fun hx Hx => (YE.of (Y_load1 (t := 22) (p := ⟨b1, 0, none⟩) (v := .slice aa_ a_.length ca_) (by kernel_rfl) (fun w => by kernel_rfl) (Hx.cell 0 rfl rfl)))) ?_
  refine DR_y 7 (i := 1) (.pointer (some (adr aa_ (0 * 1)))) (by kernel_rfl) (by kernel_rfl) (by kernel_rfl) (fun hx Hx => (YE.of (Y_idx (t := 22) (e := 23) (sz := 1) (a := aa_) (n := a_.length) (cap := ca_) (kk := .i64) (i := 0) (by kernel_rfl) Try.underlying22 (by kernel_rfl) ((ra_.at H1.ext).cell hx1).1 hx1l hx1u))) ?_
  refine DR_y 6 (i := 2) (.slice a1 x1.length c1) (by kernel_rfl) (by kernel_rfl) (by kernel_rfl) (fun hx Hx => (YE.of (Y_load1 (t := 23) (p := adr aa_ (0 * 1)) (v := .slice a1 x1.length c1) (by kernel_rfl) (fun w => by kernel_rfl) (cell_at Hx.ext hc1)))) ?_
  refine DR_b 5 [.int .i64 (x1.length : Int)] 3 (by kernel_rfl) (by kernel_rfl) (by kernel_rfl) (fun w => by kernel_rfl) ?_
  refine DR_y 4 (i := 4) (.slice aa_ a_.length ca_) (by kernel_rfl) (by kernel_rfl) (by kernel_rfl) (fun hx Hx => (YE.of (Y_load1 (t := 22) (p := ⟨b1, 0, none⟩) (v := .slice aa_ a_.length ca_) (by kernel_rfl) (fun w => by kernel_rfl) (Hx.cell 0 rfl rfl)))) ?_
  refine DR_b 2 [.int .i64 (a_.length : Int), .func (.func 142) #[] #[.pointer (some ⟨b1, 0, none⟩)]] 5 (by kernel_rfl) (by kernel_rfl) (by kernel_rfl) (fun w => by kernel_rfl) ?_
  refine DR_tail (i := 7) (by kernel_rfl) (by kernel_rfl) (by kernel_rfl) (fun h2 H2 => ?_)
  have H3 : Hold h h2 [box b1 22 [.slice aa_ a_.length ca_]] := H2
  obtain ⟨x2, hx2, hF⟩ := M.bind_some hF
  refine Run_E (by kernel_rfl) ?_
  refine E_call (f := 137) (args := #[.int .i64 (x1.length : Int), .int .i64 (a_.length : Int), .func (.func 142) #[] #[.pointer (some ⟨b1, 0, none⟩)]]) (w_impl_matrixBy_F_impl_transposed_1 h2 (x1.length : Int) (a_.length : Int) a_ aa_ ca_ (ra_.at H3.ext) b1 (H3.var 0 rfl) _ _ hx2) (by kernel_rfl) (fun v1 h3 hp1 => ?_)
  obtain ⟨a2, c2, rfl, H4⟩ := hp1
  have H5 : Hold h h3 [own cd23 a2 x2.length c2 x2, box b1 22 [.slice aa_ a_.length ca_]] := H3.call H4 rfl
  refine Run_b [.slice a2 x2.length c2] 8 _ (by kernel_rfl) (fun w => by kernel_rfl) ?_
  refine Run_nil (by kernel_rfl) ?_
  refine Run_keep [2] (L' := [(2, .slice a2 x2.length c2)]) (by kernel_rfl) ?_
  have hF := M.ret_some hF
  subst hF
  have H6 : Hold h h3 [own cd23 a2 x2.length c2 x2] := H5.pick [0] (by kernel_rfl)
  exact Run_ret1 rfl (ResV_tmp (v := .slice a2 x2.length c2) (by kernel_rfl)) ⟨a2, c2, rfl, H6⟩

set_option maxRecDepth 100000 in
set_option maxHeartbeats 4000000 in
theorem w_impl_vectorOrbit (h : Heap) (a_ : List (List Int)) (aa_ : Option Addr) (ca_ : Nat) (ra_ : Rd cd23 h (Lt h) aa_ ca_ a_) (x_ : List Int) (ax_ : Option Addr) (cx_ : Nat) (rx_ : Rd cd2 h (Lt h) ax_ cx_ x_) (n : Nat) (r : TOrbit) (hF : impl_vectorOrbit a_ x_ n = some r) :
    Fn Try.prog 60 #[.slice aa_ a_.length ca_, .slice ax_ x_.length cx_] h fun v h' => ∃ (b0 : Nat), ∃ (a0 : Option Addr) (c0 : Nat), ∃ (a1 : Option Addr) (c1 : Nat), v = .pointer (some ⟨b0, 0, none⟩) ∧ Ali a0 aa_ c0 ca_ r.matrix a_ ∧ Hold h h' [box b0 88 [.slice a0 r.matrix.length c0, .slice a1 r.list.length c1], own cd22 a1 r.list.length c1 r.list] := by
  unfold impl_vectorOrbit at hF
  refine Fn_enter (args := [.slice aa_ a_.length ca_, .slice ax_ x_.length cx_]) Try.func60 rfl (by kernel_rfl) (by kernel_rfl) (fun w0 _ => ?_)
  have H0 := Hold.init h
  refine Run_seq ?_
  refine Run_reg 1 (by kernel_rfl) (L' := [(0, .slice aa_ a_.length ca_), (1, .slice ax_ x_.length cx_)]) ?_ ?_
  · refine QRun_b [.pointer none] 0 _ (by kernel_rfl) (fun w => by kernel_rfl) ?_
    exact QRun_done [0, 1] (by kernel_rfl) (by kernel_rfl)
  refine Run_seq ?_
  refine Run_ops ?_
  refine Run_b [.slice aa_ a_.length ca_, .slice ax_ x_.length cx_] 0 _ (by kernel_rfl) (fun w => by kernel_rfl) ?_
  refine Run_E (by kernel_rfl) ?_
  refine E_litV (ey := 23) (n := x_.length) H0 rx_ rfl (fun w => by kernel_rfl) rfl (fun a1 h1 H1 => ?_)
  obtain ⟨x1, hx1, hF⟩ := M.bind_some hF
  refine Run_E (by kernel_rfl) ?_
  refine E_call (f := 90) (args := #[.slice a1 1 1]) (Fn.arg (w_impl_transposed h1 [x_] a1 1 (H1.rdV 0 rfl) _ _ hx1) (by simp only [(H1.lenV 0 rfl)])) (by kernel_rfl) (fun v1 h2 hp1 => ?_)
  obtain ⟨a2, c1, rfl, H2⟩ := hp1
  have H3 : Hold h h2 [own cd23 a2 x1.length c1 x1, view h.size cd23 a1 1 1 [x_]] := H1.call H2 rfl
  refine Run_E (by kernel_rfl) ?_
  refine E_lit1 (ey := 22) (n := x1.length) H3 (fun w => by kernel_rfl) rfl (fun a3 h3 H4 => ?_)
  refine Run_b [.agg #[.slice aa_ a_.length ca_, .slice a3 1 1]] 5 _ (by kernel_rfl) (fun w => by kernel_rfl) ?_
  refine Run_E (by kernel_rfl) ?_
  refine E_box (ty := 88) (cs := [.slice aa_ a_.length ca_, .slice a3 1 1]) H4 (fun w => by kernel_rfl) (fun b1 h4 H5 => ?_)
  refine Run_b [.pointer (some ⟨b1, 0, none⟩)] 7 _ (by kernel_rfl) (fun w => by kernel_rfl) ?_
  refine Run_nil (by kernel_rfl) ?_
  refine Run_keep [4] (L' := [(4, .pointer (some ⟨b1, 0, none⟩))]) (by kernel_rfl) ?_
  have hF := M.ret_some hF
  subst hF
  have H6 : Hold h h4 [own cd22 a3 1 1 [x1], box b1 88 [.slice aa_ a_.length ca_, .slice a3 1 1], view h.size cd23 a1 1 1 [x_]] := H5.pick [1, 0, 2] (by kernel_rfl)
  have H7 := H6.norm
  have H8 : Hold h h4 [box b1 88 [.slice aa_ a_.length ca_, .slice a3 1 1], own cd22 a3 ([x1].length) 1 [x1]] := H7.pick [1, 0] (by kernel_rfl)
  exact Run_ret1 rfl (ResV_tmp (v := .pointer (some ⟨b1, 0, none⟩)) (by kernel_rfl)) ⟨b1, aa_, ca_, a3, 1, (by simp only [(H6.len 0 rfl)]), .inl ⟨rfl, rfl, rfl⟩, H8⟩

set_option maxRecDepth 100000 in
set_option maxHeartbeats 4000000 in
theorem w_impl_times (h : Heap) (a_ : Int) (b : Int) (n : Nat) (r : Int) (hF : impl_times a_ b n = some r) :
    Fn Try.prog 72 #[.int .i64 a_, .int .i64 b] h fun v h' => v = .int .i64 r ∧ h' = h := by
  unfold impl_times at hF
  refine Fn_enter (args := [.int .i64 a_, .int .i64 b]) Try.func72 rfl (by kernel_rfl) (by kernel_rfl) (fun w0 _ => ?_)
  refine Run_seq ?_
  refine Run_reg 1 (by kernel_rfl) (L' := [(0, .int .i64 a_), (1, .int .i64 b)]) ?_ ?_
  · refine QRun_b [.int .i64 0] 0 _ (by kernel_rfl) (fun w => by kernel_rfl) ?_
    exact QRun_done [0, 1] (by kernel_rfl) (by kernel_rfl)
  refine Run_seq ?_
  refine Run_seq ?_
  refine Run_reg 6 (by kernel_rfl) (L' := [(0, .int .i64 a_), (1, .int .i64 b), (10, .bool ((a_ == (-1000000000000000)) || (b == (-1000000000000000))))]) ?_ ?_
  · refine QRun_b [.int .i64 a_, .bool (a_ == (-1000000000000000))] 0 _ (by kernel_rfl) (fun w => by kernel_rfl) ?_
    refine QRun_seq 6 [(0, .int .i64 a_), (1, .int .i64 b), (10, .bool ((a_ == (-1000000000000000)) || (b == (-1000000000000000))))] ?_ ?_
    · rcases Bool.eq_false_or_eq_true (a_ == (-1000000000000000)) with hb1 | hb1
      · refine QRun_bool (a_ == (-1000000000000000)) true (by kernel_rfl) (fun w => by kernel_rfl) hb1 ?_
        refine QRun_n (by kernel_rfl) ?_
        refine QRun_n (by kernel_rfl) ?_
        refine QRun_bool true ((a_ == (-1000000000000000)) || (b == (-1000000000000000))) (by kernel_rfl) (fun w => by kernel_rfl) (by rw [hb1]; rfl) ?_
        exact QRun_done [0, 1, 10] (by kernel_rfl) (by kernel_rfl)
      · refine QRun_bool (a_ == (-1000000000000000)) false (by kernel_rfl) (fun w => by kernel_rfl) hb1 ?_
        refine QRun_b [.int .i64 b, .bool (b == (-1000000000000000))] 3 _ (by kernel_rfl) (fun w => by kernel_rfl) ?_
        refine QRun_bool (b == (-1000000000000000)) ((a_ == (-1000000000000000)) || (b == (-1000000000000000))) (by kernel_rfl) (fun w => by kernel_rfl) (by rw [hb1]; rfl) ?_
        exact QRun_done [0, 1, 10] (by kernel_rfl) (by kernel_rfl)
    exact QRun_done [0, 1, 10] (by kernel_rfl) (by kernel_rfl)
  refine Run_cond (b := (a_ == (-1000000000000000)) || (b == (-1000000000000000))) (by kernel_rfl) (fun hb2 => ?_) (fun hb2 => ?_)
  · have hF := (M.ite_some hF).1 hb2
    refine Run_seq ?_
    refine Run_reg 1 (by kernel_rfl) (L' := [(4, .int .i64 (-1000000000000000))]) ?_ ?_
    · refine QRun_b [.int .i64 (-1000000000000000)] 0 _ (by kernel_rfl) (fun w => by kernel_rfl) ?_
      exact QRun_done [4] (by kernel_rfl) (by kernel_rfl)
    have hF := M.ret_some hF
    subst hF
    exact Run_ret1 rfl (ResV_tmp (v := .int .i64 (-1000000000000000)) (by kernel_rfl)) ⟨rfl, rfl⟩
  · have hF := (M.ite_some hF).2 hb2
    refine Run_skip ?_
    refine Run_seq ?_
    refine Run_reg 4 (by kernel_rfl) (L' := [(4, .int .i64 (w64 (a_ + b)))]) ?_ ?_
    · refine QRun_b [.int .i64 a_, .int .i64 b, .int .i64 (w64 (a_ + b)), .int .i64 (w64 (a_ + b))] 0 _ (by kernel_rfl) (fun w => by kernel_rfl) ?_
      exact QRun_done [4] (by kernel_rfl) (by kernel_rfl)
    have hF := M.ret_some hF
    subst hF
    exact Run_ret1 rfl (ResV_tmp (v := .int .i64 (w64 (a_ + b))) (by kernel_rfl)) ⟨rfl, rfl⟩

set_option maxRecDepth 100000 in
set_option maxHeartbeats 4000000 in
theorem w_impl_multiply_1 (h : Heap) (i : Int) (j : Int) (z0 : List (List Int)) {Sz0 : Bs} (az0 : Option Addr) (cz0 : Nat) (rz0 : Rd cd23 h Sz0 az0 cz0 z0) (bz0 : Nat) (vz0 : VarAt h bz0 22 [.slice az0 z0.length cz0]) (z1 : List (List Int)) {Sz1 : Bs} (az1 : Option Addr) (cz1 : Nat) (rz1 : Rd cd23 h Sz1 az1 cz1 z1) (bz1 : Nat) (vz1 : VarAt h bz1 22 [.slice az1 z1.length cz1]) (n : Nat) (r : Int) (hF : impl_multiply_1 i j z0 z1 n = some r) :
    Fn Try.prog 140 #[.int .i64 i, .int .i64 j, .pointer (some ⟨bz0, 0, none⟩), .pointer (some ⟨bz1, 0, none⟩)] h fun v h' => v = .int .i64 r ∧ h' = h := by
  unfold impl_multiply_1 at hF
  refine Fn_enter (args := [.int .i64 i, .int .i64 j, .pointer (some ⟨bz0, 0, none⟩), .pointer (some ⟨bz1, 0, none⟩)]) Try.func140 rfl (by kernel_rfl) (by kernel_rfl) (fun w0 _ => ?_)
  refine Run_seq ?_
  refine Run_reg 1 (by kernel_rfl) (L' := [(0, .int .i64 i), (1, .int .i64 j), (2, .pointer (some ⟨bz0, 0, none⟩)), (3, .pointer (some ⟨bz1, 0, none⟩))]) ?_ ?_
  · refine QRun_b [.int .i64 0] 0 _ (by kernel_rfl) (fun w => by kernel_rfl) ?_
    exact QRun_done [0, 1, 2, 3] (by kernel_rfl) (by kernel_rfl)
  refine Run_seq ?_
  refine Run_reg 1 (by kernel_rfl) (L' := [(0, .int .i64 i), (1, .int .i64 j), (2, .pointer (some ⟨bz0, 0, none⟩)), (3, .pointer (some ⟨bz1, 0, none⟩)), (7, .int .i64 (-1000000000000000))]) ?_ ?_
  · refine QRun_b [.int .i64 (-1000000000000000)] 0 _ (by kernel_rfl) (fun w => by kernel_rfl) ?_
    exact QRun_done [0, 1, 2, 3, 7] (by kernel_rfl) (by kernel_rfl)
  refine Run_seq ?_
  refine Run_seq ?_
  obtain ⟨x1, hx1, hF⟩ := M.bind_some hF
  obtain ⟨hx1l, hx1u, hx1⟩ := M.idx_some hx1
  obtain ⟨a1, c1, hc1, r1⟩ := rz0.row hx1
  refine Run_reg 6 (by kernel_rfl) (L' := [(1, .int .i64 j), (3, .pointer (some ⟨bz1, 0, none⟩)), (7, .int .i64 (-1000000000000000)), (13, .slice a1 x1.length c1), (14, .int .i64 (x1.length : Int)), (15, .int .i64 0)]) ?_ ?_
  · refine QRun_y (.slice az0 z0.length cz0) (by kernel_rfl) (Y_load1 (t := 22) (p := ⟨bz0, 0, none⟩) (v := .slice az0 z0.length cz0) (by kernel_rfl) (fun w => by kernel_rfl) (VarAt.cell vz0 rfl)) ?_
    refine QRun_b [.int .i64 i] 1 _ (by kernel_rfl) (fun w => by kernel_rfl) ?_
    refine QRun_y (.pointer (some (adr az0 (i.toNat * 1)))) (by kernel_rfl) (Y_idx (t := 22) (e := 23) (sz := 1) (a := az0) (n := z0.length) (cap := cz0) (kk := .i64) (i := i) (by kernel_rfl) Try.underlying22 (by kernel_rfl) (rz0.cell hx1).1 hx1l hx1u) ?_
    refine QRun_y (.slice a1 x1.length c1) (by kernel_rfl) (Y_load1 (t := 23) (p := adr az0 (i.toNat * 1)) (v := .slice a1 x1.length c1) (by kernel_rfl) (fun w => by kernel_rfl) hc1) ?_
    refine QRun_b [.int .i64 (x1.length : Int), .int .i64 0] 4 _ (by kernel_rfl) (fun w => by kernel_rfl) ?_
    exact QRun_done [1, 3, 7, 13, 14, 15] (by kernel_rfl) (by kernel_rfl)
  obtain ⟨x2, gx2, hF⟩ := M.bind_some hF
  obtain ⟨hloy1, hhiy1, gx2⟩ := M.for_start gx2
  refine Run_join (fun L' h' => L' = [(7, .int .i64 x2)] ∧ h = h') ?_ ?_
  · rintro _ _ ⟨rfl, rfl⟩
    refine Run_seq ?_
    refine Run_reg 2 (by kernel_rfl) (L' := [(6, .int .i64 x2)]) ?_ ?_
    · refine QRun_b [.int .i64 x2, .int .i64 x2] 0 _ (by kernel_rfl) (fun w => by kernel_rfl) ?_
      exact QRun_done [6] (by kernel_rfl) (by kernel_rfl)
    have hF := M.ret_some hF
    subst hF
    exact Run_ret1 rfl (ResV_tmp (v := .int .i64 x2) (by kernel_rfl)) ⟨rfl, rfl⟩
  · refine Run_block ?_
    refine Run_keep [1, 3, 7, 13, 14, 15] (L' := [(1, .int .i64 j), (3, .pointer (some ⟨bz1, 0, none⟩)), (7, .int .i64 (-1000000000000000)), (13, .slice a1 x1.length c1), (14, .int .i64 (x1.length : Int)), (15, .int .i64 0)]) (by kernel_rfl) ?_
    refine Run_loop (fun m L' h' => ∃ (i1 : Int) (s1 : Int), 0 ≤ i1 ∧ M.forN (x1.length : Int) _ _ n m i1 s1 = some x2 ∧ L' = [(1, .int .i64 j), (3, .pointer (some ⟨bz1, 0, none⟩)), (7, .int .i64 s1), (13, .slice a1 x1.length c1), (14, .int .i64 (x1.length : Int)), (15, .int .i64 i1)] ∧ h = h') ((x1.length : Int) - 0 : Int).toNat ⟨0, (-1000000000000000), Int.le_refl _, gx2, rfl, rfl⟩ ?_
    rintro my1 _ _ ⟨i1, s1, hloy1', gx2, rfl, rfl⟩
    refine Run_seq ?_
    refine Run_reg 1 (by kernel_rfl) (L' := [(1, .int .i64 j), (3, .pointer (some ⟨bz1, 0, none⟩)), (7, .int .i64 s1), (13, .slice a1 x1.length c1), (14, .int .i64 (x1.length : Int)), (15, .int .i64 i1), (16, .bool (decide (i1 < (x1.length : Int))))]) ?_ ?_
    · refine QRun_b [.bool (decide (i1 < (x1.length : Int)))] 0 _ (by kernel_rfl) (fun w => by kernel_rfl) ?_
      exact QRun_done [1, 3, 7, 13, 14, 15, 16] (by kernel_rfl) (by kernel_rfl)
    refine Run_seq ?_
    refine Run_cond (b := decide (i1 < (x1.length : Int))) (by kernel_rfl) (fun hb1 => ?_) (fun hb1 => ?_)
    · obtain ⟨my1, y1, rfl, hB1, hgoy1, houty1⟩ := M.for_go gx2 hb1
      have hlty1 := of_decide_eq_true hb1
      refine Run_skip ?_
      refine Run_seq ?_
      refine Run_block ?_
      refine Run_seq ?_
      obtain ⟨x3, hx2, hB1⟩ := M.bind_some hB1
      obtain ⟨hx2l, hx2u, hx2⟩ := M.idx_some hx2
      refine Run_reg 5 (by kernel_rfl) (L' := [(1, .int .i64 j), (3, .pointer (some ⟨bz1, 0, none⟩)), (7, .int .i64 s1), (8, .int .i64 i1), (9, .int .i64 x3), (13, .slice a1 x1.length c1), (14, .int .i64 (x1.length : Int)), (15, .int .i64 i1)]) ?_ ?_
      · refine QRun_b [.int .i64 i1] 0 _ (by kernel_rfl) (fun w => by kernel_rfl) ?_
        refine QRun_y (.pointer (some (adr a1 (i1.toNat * 1)))) (by kernel_rfl) (Y_idx (t := 23) (e := 2) (sz := 1) (a := a1) (n := x1.length) (cap := c1) (kk := .i64) (i := i1) (by kernel_rfl) Try.underlying23 (by kernel_rfl) (r1.cell hx2).1 hx2l hx2u) ?_
        refine QRun_y (.int .i64 x3) (by kernel_rfl) (Y_load1 (t := 2) (p := adr a1 (i1.toNat * 1)) (v := .int .i64 x3) (by kernel_rfl) (fun w => by kernel_rfl) (cd2_cell r1 hx2)) ?_
        refine QRun_b [.int .i64 i1, .int .i64 x3] 3 _ (by kernel_rfl) (fun w => by kernel_rfl) ?_
        exact QRun_done [1, 3, 7, 8, 9, 13, 14, 15] (by kernel_rfl) (by kernel_rfl)
      obtain ⟨x4, hx3, hB1⟩ := M.bind_some hB1
      obtain ⟨hx3l, hx3u, hx3⟩ := M.idx_some hx3
      obtain ⟨a2, c2, hc2, r2⟩ := rz1.row hx3
      obtain ⟨x5, hx4, hB1⟩ := M.bind_some hB1
      obtain ⟨hx4l, hx4u, hx4⟩ := M.idx_some hx4
      obtain ⟨x6, hx5, hB1⟩ := M.bind_some hB1
      refine Run_reg 12 (by kernel_rfl) (L' := [(1, .int .i64 j), (3, .pointer (some ⟨bz1, 0, none⟩)), (7, .int .i64 (mx s1 x6)), (13, .slice a1 x1.length c1), (14, .int .i64 (x1.length : Int)), (15, .int .i64 i1)]) ?_ ?_
      · refine QRun_b [.int .i64 s1, .int .i64 x3] 0 _ (by kernel_rfl) (fun w => by kernel_rfl) ?_
        refine QRun_y (.slice az1 z1.length cz1) (by kernel_rfl) (Y_load1 (t := 22) (p := ⟨bz1, 0, none⟩) (v := .slice az1 z1.length cz1) (by kernel_rfl) (fun w => by kernel_rfl) (VarAt.cell vz1 rfl)) ?_
        refine QRun_b [.int .i64 i1] 3 _ (by kernel_rfl) (fun w => by kernel_rfl) ?_
        refine QRun_y (.pointer (some (adr az1 (i1.toNat * 1)))) (by kernel_rfl) (Y_idx (t := 22) (e := 23) (sz := 1) (a := az1) (n := z1.length) (cap := cz1) (kk := .i64) (i := i1) (by kernel_rfl) Try.underlying22 (by kernel_rfl) (rz1.cell hx3).1 hx3l hx3u) ?_
        refine QRun_y (.slice a2 x4.length c2) (by kernel_rfl) (Y_load1 (t := 23) (p := adr az1 (i1.toNat * 1)) (v := .slice a2 x4.length c2) (by kernel_rfl) (fun w => by kernel_rfl) hc2) ?_
        refine QRun_b [.int .i64 j] 6 _ (by kernel_rfl) (fun w => by kernel_rfl) ?_
        refine QRun_y (.pointer (some (adr a2 (j.toNat * 1)))) (by kernel_rfl) (Y_idx (t := 23) (e := 2) (sz := 1) (a := a2) (n := x4.length) (cap := c2) (kk := .i64) (i := j) (by kernel_rfl) Try.underlying23 (by kernel_rfl) (r2.cell hx4).1 hx4l hx4u) ?_
        refine QRun_y (.int .i64 x5) (by kernel_rfl) (Y_load1 (t := 2) (p := adr a2 (j.toNat * 1)) (v := .int .i64 x5) (by kernel_rfl) (fun w => by kernel_rfl) (cd2_cell r2 hx4)) ?_
        refine QRun_y (.int .i64 x6) (by kernel_rfl) (Y_callq (f := 72) (args := #[.int .i64 x3, .int .i64 x5]) (v := .int .i64 x6) (by kernel_rfl) (w_impl_times h x3 x5 _ _ hx5)) ?_
        refine QRun_b [.int .i64 (mx s1 x6), .int .i64 (mx s1 x6)] 10 _ (by kernel_rfl) (fun w => by kernel_rfl) ?_
        exact QRun_done [1, 3, 7, 13, 14, 15] (by kernel_rfl) (by kernel_rfl)
      refine Run_blk ?_
      refine Run_reg 2 (by kernel_rfl) (L' := [(1, .int .i64 j), (3, .pointer (some ⟨bz1, 0, none⟩)), (7, .int .i64 (mx s1 x6)), (13, .slice a1 x1.length c1), (14, .int .i64 (x1.length : Int)), (15, .int .i64 (i1 + 1))]) ?_ ?_
      · refine QRun_y (.int .i64 (i1 + 1)) (by kernel_rfl) (Y_eq (v := .int .i64 (w64 (i1 + 1))) (Y_pure (fun w => by kernel_rfl)) (by rw [w64_eq _ (by omega)])) ?_
        refine QRun_b [.int .i64 (i1 + 1)] 1 _ (by kernel_rfl) (fun w => by kernel_rfl) ?_
        exact QRun_done [1, 3, 7, 13, 14, 15] (by kernel_rfl) (by kernel_rfl)
      have hB1 := M.ret_some hB1
      have gx2 := hgoy1 _ hB1.symm
      exact Run_again [1, 3, 7, 13, 14, 15] (by kernel_rfl) my1 (Nat.lt_succ_self _) ⟨i1 + 1, (mx s1 x6), by omega, gx2, rfl, rfl⟩
    · have gx2 := M.for_end gx2 hb1
      subst gx2
      refine Run_exit (k' := _) rfl ?_
      exact Run_fall [7] (by kernel_rfl) ⟨rfl, rfl⟩

end Go.Proofs.Ytjdcdcipilhmeaa
