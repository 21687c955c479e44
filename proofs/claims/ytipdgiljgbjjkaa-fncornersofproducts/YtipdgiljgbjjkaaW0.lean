/-
  Walks: each Go function, called with what reads as plain data, returns what its plain program computes.
  Conditions: None beyond the given statement.
-/
import Derived.Test.YtipdgiljgbjjkaaRows
import Derived.Test.YtipdgiljgbjjkaaP
import Derived.Test.YtipdgiljgbjjkaaMut
namespace Go.Proofs.Ytipdgiljgbjjkaa
open Go
attribute [local irreducible] setL setB opA fineI idleI fineB evB okB markB markBs readyB readyBs chainB lk rho pickL dropSlot tailOK
theorem mixed : Try.prog.follows .mixedOrders = true := by kernel_rfl
def cd5 : Cd (Int) := flatCd 5 1 (by decide) (fun x => [.int .u8 x]) (fun _ => rfl) (fun _ => rfl)
theorem cd5_own (x : Int) : ∀ h, cd5.own h x [.int .u8 x] [] := fun _ => ⟨rfl, rfl⟩
theorem cd5_flat : Flat cd5 := fun _ _ _ _ o => o.2
theorem cd5_copies : Copies cd5 := fun _ _ _ _ o => ⟨o, rfl⟩
theorem cd5_zero : ∀ h, cd5.own h 0 [.int .u8 0] [] := fun _ => ⟨rfl, rfl⟩
theorem cd5_ti : TI Try.prog 5 (.int .u8 0) 1 1 := by unfold TI; kernel_rfl
theorem cd5_cell {h : Heap} {B : Bs} {a : Option Addr} {c : Nat} {l : List (Int)} {j : Nat} {x : Int} (r : Rd cd5 h B a c l) (hx : l[j]? = some x) : cellH h (adr a (j * 1)) = some (.int .u8 x) := r.cell1 hx (fun vs o => by rw [show vs = _ from o]; rfl)
def cd2 : Cd (Int) := flatCd 2 1 (by decide) (fun x => [.int .i64 x]) (fun _ => rfl) (fun _ => rfl)
theorem cd2_own (x : Int) : ∀ h, cd2.own h x [.int .i64 x] [] := fun _ => ⟨rfl, rfl⟩
theorem cd2_flat : Flat cd2 := fun _ _ _ _ o => o.2
theorem cd2_copies : Copies cd2 := fun _ _ _ _ o => ⟨o, rfl⟩
theorem cd2_zero : ∀ h, cd2.own h 0 [.int .i64 0] [] := fun _ => ⟨rfl, rfl⟩
theorem cd2_ti : TI Try.prog 2 (.int .i64 0) 1 8 := by unfold TI; kernel_rfl
theorem cd2_cell {h : Heap} {B : Bs} {a : Option Addr} {c : Nat} {l : List (Int)} {j : Nat} {x : Int} (r : Rd cd2 h B a c l) (hx : l[j]? = some x) : cellH h (adr a (j * 1)) = some (.int .i64 x) := r.cell1 hx (fun vs o => by rw [show vs = _ from o]; rfl)
abbrev cd39 : Cd (List Int) := rowCd cd2 39
theorem cd39_zero : ∀ h, cd39.own h [] [.slice none 0 0] [] := fun h => ⟨none, 0, rfl, Own.nil _ h⟩
theorem cd39_ti : TI Try.prog 39 (.slice none 0 0) 1 24 := by unfold TI; kernel_rfl
def cd69 : Cd (TCorner) := flatCd 69 3 (by decide) (fun x => [.int .i64 x.At.Num, .int .i64 x.At.Den, .int .i64 x.Times]) (fun _ => rfl) (fun _ => rfl)
theorem cd69_own (x : TCorner) : ∀ h, cd69.own h x [.int .i64 x.At.Num, .int .i64 x.At.Den, .int .i64 x.Times] [] := fun _ => ⟨rfl, rfl⟩
theorem cd69_flat : Flat cd69 := fun _ _ _ _ o => o.2
theorem cd69_copies : Copies cd69 := fun _ _ _ _ o => ⟨o, rfl⟩
theorem cd69_zero : ∀ h, cd69.own h (⟨⟨0, 0⟩, 0⟩ : TCorner) [.int .i64 0, .int .i64 0, .int .i64 0] [] := fun _ => ⟨rfl, rfl⟩
theorem cd69_ti : TI Try.prog 69 (.agg #[.int .i64 0, .int .i64 0, .int .i64 0]) 3 24 := by unfold TI; kernel_rfl
theorem cd69_elem {h : Heap} {B : Bs} {a : Option Addr} {c : Nat} {l : List (TCorner)} {j : Nat} {x : TCorner} (r : Rd cd69 h B a c l) (hx : l[j]? = some x) : ∀ i v, ([.int .i64 x.At.Num, .int .i64 x.At.Den, .int .i64 x.Times] : List Value)[i]? = some v → cellH h ((adr a (j * 3)).add i) = some v := r.elem hx (fun _ o => o)
theorem cd69_f0 {h : Heap} {B : Bs} {a : Option Addr} {c : Nat} {l : List (TCorner)} {j : Nat} {x : TCorner} (r : Rd cd69 h B a c l) (hx : l[j]? = some x) : cellH h ((adr a (j * 3)).add 0) = some (.int .i64 x.At.Num) := r.field hx (fun vs o => by rw [show vs = _ from o]; rfl)
theorem cd69_f1 {h : Heap} {B : Bs} {a : Option Addr} {c : Nat} {l : List (TCorner)} {j : Nat} {x : TCorner} (r : Rd cd69 h B a c l) (hx : l[j]? = some x) : cellH h ((adr a (j * 3)).add 1) = some (.int .i64 x.At.Den) := r.field hx (fun vs o => by rw [show vs = _ from o]; rfl)
theorem cd69_f2 {h : Heap} {B : Bs} {a : Option Addr} {c : Nat} {l : List (TCorner)} {j : Nat} {x : TCorner} (r : Rd cd69 h B a c l) (hx : l[j]? = some x) : cellH h ((adr a (j * 3)).add 2) = some (.int .i64 x.Times) := r.field hx (fun vs o => by rw [show vs = _ from o]; rfl)
theorem eqS67 (d : Nat) (x0 : Int) (x1 : Int) (y0 : Int) (y1 : Int) (w : World) : (Op.equalIn (d + 2) 67 (.agg #[.int .i64 x0, .int .i64 x1]) (.agg #[.int .i64 y0, .int .i64 y1])).run Try.prog w = .ok ((x0 == y0) && (x1 == y1)) w := by
  have hS : Try.prog.underlying 67 = some (.struct (Try.prog.fieldsOf 67)) := by kernel_rfl
  have hp : Try.prog.stoodInHeld 67 = false := by kernel_rfl
  rw [show d + 2 = (d + 1) + 1 from rfl, run_equalIn_struct w (d + 1) 67 _ _ hS hp]
  simp only [Program.fieldsOf, Try.underlying67]
  have u2 := Try.underlying2
  have a2 := Try.isAgg2
  have z2 := Try.sizeOf2
  go_simp
  by_cases h0 : x0 = y0 <;> by_cases h1 : x1 = y1 <;> simp [h0, h1]

theorem eqS69 (d : Nat) (x0 : Int) (x1 : Int) (x2 : Int) (y0 : Int) (y1 : Int) (y2 : Int) (w : World) : (Op.equalIn (d + 3) 69 (.agg #[.int .i64 x0, .int .i64 x1, .int .i64 x2]) (.agg #[.int .i64 y0, .int .i64 y1, .int .i64 y2])).run Try.prog w = .ok (((x0 == y0) && (x1 == y1)) && (x2 == y2)) w := by
  have hS : Try.prog.underlying 69 = some (.struct (Try.prog.fieldsOf 69)) := by kernel_rfl
  have hp : Try.prog.stoodInHeld 69 = false := by kernel_rfl
  rw [show d + 3 = (d + 2) + 1 from rfl, run_equalIn_struct w (d + 2) 69 _ _ hS hp]
  simp only [Program.fieldsOf, Try.underlying69]
  have u2 := Try.underlying2
  have a2 := Try.isAgg2
  have z2 := Try.sizeOf2
  have u67 := Try.underlying67
  have a67 := Try.isAgg67
  have z67 := Try.sizeOf67
  have e67 := eqS67
  go_simp
  by_cases h0 : x0 = y0 <;> by_cases h1 : x1 = y1 <;> by_cases h2 : x2 = y2 <;> simp [h0, h1, h2]

set_option maxRecDepth 100000 in
set_option maxHeartbeats 4000000 in
theorem w_laws_big (h : Heap) (code : List Int) {Scode : Bs} (acode : Option Addr) (ccode : Nat) (rcode : Rd cd5 h Scode acode ccode code) (n : Nat) (r : Bool) (hF : laws_big code n = some r) :
    Fn Try.prog 27 #[.slice acode code.length ccode] h fun v h' => v = .bool r ∧ h' = h := by
  unfold laws_big at hF
  refine Fn_enter (args := [.slice acode code.length ccode]) Try.func27 rfl (by kernel_rfl) (by kernel_rfl) (fun w0 _ => ?_)
  refine Run_seq ?_
  refine Run_reg 1 (by kernel_rfl) (L' := [(0, .slice acode code.length ccode)]) ?_ ?_
  · refine QRun_b [.bool false] 0 _ (by kernel_rfl) (fun w => by kernel_rfl) ?_
    exact QRun_done [0] (by kernel_rfl) (by kernel_rfl)
  refine Run_seq ?_
  refine Run_reg 4 (by kernel_rfl) (L' := [(2, .bool (decide (4096 < (code.length : Int))))]) ?_ ?_
  · refine QRun_b [.slice acode code.length ccode, .int .i64 (code.length : Int), .bool (decide (4096 < (code.length : Int))), .bool (decide (4096 < (code.length : Int)))] 0 _ (by kernel_rfl) (fun w => by kernel_rfl) ?_
    exact QRun_done [2] (by kernel_rfl) (by kernel_rfl)
  have hF := M.ret_some hF
  subst hF
  exact Run_ret1 rfl (ResV_tmp (v := .bool (decide (4096 < (code.length : Int)))) (by kernel_rfl)) ⟨rfl, rfl⟩

set_option maxRecDepth 100000 in
set_option maxHeartbeats 4000000 in
theorem w_spec_l01From (h : Heap) (code : List Int) (acode : Option Addr) (ccode : Nat) (rcode : Rd cd5 h (Lt h) acode ccode code) (n : Nat) (r : TL01source) (hF : spec_l01From code n = some r) :
    Fn Try.prog 98 #[.slice acode code.length ccode] h fun v h' => ∃ (b0 : Nat), ∃ (a0 : Option Addr) (c0 : Nat), v = .pointer (some ⟨b0, 0, none⟩) ∧ Ali a0 acode c0 ccode r.code code ∧ Hold h h' [box b0 155 [.slice a0 r.code.length c0, .int .i64 r.at_, .int .i64 r.seed]] := by
  unfold spec_l01From at hF
  refine Fn_enter (args := [.slice acode code.length ccode]) Try.func98 rfl (by kernel_rfl) (by kernel_rfl) (fun w0 _ => ?_)
  have H0 := Hold.init h
  refine Run_seq ?_
  refine Run_reg 1 (by kernel_rfl) (L' := [(0, .slice acode code.length ccode)]) ?_ ?_
  · refine QRun_b [.pointer none] 0 _ (by kernel_rfl) (fun w => by kernel_rfl) ?_
    exact QRun_done [0] (by kernel_rfl) (by kernel_rfl)
  refine Run_seq ?_
  refine Run_ops ?_
  refine Run_b [.slice acode code.length ccode, .agg #[.slice acode code.length ccode, .int .i64 0, .int .i64 61403]] 0 _ (by kernel_rfl) (fun w => by kernel_rfl) ?_
  refine Run_E (by kernel_rfl) ?_
  refine E_box (ty := 155) (cs := [.slice acode code.length ccode, .int .i64 0, .int .i64 61403]) H0 (fun w => by kernel_rfl) (fun b1 h1 H1 => ?_)
  refine Run_b [.pointer (some ⟨b1, 0, none⟩)] 3 _ (by kernel_rfl) (fun w => by kernel_rfl) ?_
  refine Run_nil (by kernel_rfl) ?_
  refine Run_keep [0, 3] (L' := [(0, .slice acode code.length ccode), (3, .pointer (some ⟨b1, 0, none⟩))]) (by kernel_rfl) ?_
  refine Run_seq ?_
  refine Run_seq ?_
  refine Run_reg 1 (by kernel_rfl) (L' := [(0, .slice acode code.length ccode), (3, .pointer (some ⟨b1, 0, none⟩)), (4, .int .i64 0)]) ?_ ?_
  · refine QRun_b [.int .i64 0] 0 _ (by kernel_rfl) (fun w => by kernel_rfl) ?_
    exact QRun_done [0, 3, 4] (by kernel_rfl) (by kernel_rfl)
  obtain ⟨x1, gx1, hF⟩ := M.bind_some hF
  refine Run_join (fun L' h' => L' = [(3, .pointer (some ⟨b1, 0, none⟩))] ∧ Hold h h' [box b1 155 [.slice acode code.length ccode, .int .i64 0, .int .i64 x1.1]]) ?_ ?_
  · rintro _ h3 ⟨rfl, H3⟩
    refine Run_seq ?_
    refine Run_reg 2 (by kernel_rfl) (L' := [(2, .pointer (some ⟨b1, 0, none⟩))]) ?_ ?_
    · refine QRun_b [.pointer (some ⟨b1, 0, none⟩), .pointer (some ⟨b1, 0, none⟩)] 0 _ (by kernel_rfl) (fun w => by kernel_rfl) ?_
      exact QRun_done [2] (by kernel_rfl) (by kernel_rfl)
    have hF := M.ret_some hF
    subst hF
    exact Run_ret1 rfl (ResV_tmp (v := .pointer (some ⟨b1, 0, none⟩)) (by kernel_rfl)) ⟨b1, acode, ccode, rfl, .inl ⟨rfl, rfl, rfl⟩, H3⟩
  · refine Run_block ?_
    refine Run_keep [0, 3, 4] (L' := [(0, .slice acode code.length ccode), (3, .pointer (some ⟨b1, 0, none⟩)), (4, .int .i64 0)]) (by kernel_rfl) ?_
    refine Run_loop (fun m L' h' => ∃ (s1 : Int × Int), M.loopN _ n m s1 = some x1 ∧ L' = [(0, .slice acode code.length ccode), (3, .pointer (some ⟨b1, 0, none⟩)), (4, .int .i64 s1.2)] ∧ Hold h h' [box b1 155 [.slice acode code.length ccode, .int .i64 0, .int .i64 s1.1]]) n ⟨(61403, 0), gx1, rfl, H1⟩ ?_
    rintro my1 _ h2 ⟨s1, gx1, rfl, H2⟩
    obtain ⟨my1, y1, rfl, hB1, hgoy1, houty1⟩ := M.loop_some gx1
    refine Run_seq ?_
    refine Run_seq ?_
    refine Run_reg 8 (by kernel_rfl) (L' := [(0, .slice acode code.length ccode), (3, .pointer (some ⟨b1, 0, none⟩)), (4, .int .i64 s1.2), (15, .bool ((decide (s1.2 < (code.length : Int))) && (decide (s1.2 < 64))))]) ?_ ?_
    · refine QRun_b [.int .i64 s1.2, .slice acode code.length ccode, .int .i64 (code.length : Int), .bool (decide (s1.2 < (code.length : Int)))] 0 _ (by kernel_rfl) (fun w => by kernel_rfl) ?_
      refine QRun_seq 8 [(0, .slice acode code.length ccode), (3, .pointer (some ⟨b1, 0, none⟩)), (4, .int .i64 s1.2), (15, .bool ((decide (s1.2 < (code.length : Int))) && (decide (s1.2 < 64))))] ?_ ?_
      · rcases Bool.eq_false_or_eq_true (decide (s1.2 < (code.length : Int))) with hb1 | hb1
        · refine QRun_bool (decide (s1.2 < (code.length : Int))) true (by kernel_rfl) (fun w => by kernel_rfl) hb1 ?_
          refine QRun_b [.int .i64 s1.2, .bool (decide (s1.2 < 64))] 5 _ (by kernel_rfl) (fun w => by kernel_rfl) ?_
          refine QRun_bool (decide (s1.2 < 64)) ((decide (s1.2 < (code.length : Int))) && (decide (s1.2 < 64))) (by kernel_rfl) (fun w => by kernel_rfl) (by rw [hb1]; rfl) ?_
          exact QRun_done [0, 3, 4, 15] (by kernel_rfl) (by kernel_rfl)
        · refine QRun_bool (decide (s1.2 < (code.length : Int))) false (by kernel_rfl) (fun w => by kernel_rfl) hb1 ?_
          refine QRun_n (by kernel_rfl) ?_
          refine QRun_n (by kernel_rfl) ?_
          refine QRun_bool false ((decide (s1.2 < (code.length : Int))) && (decide (s1.2 < 64))) (by kernel_rfl) (fun w => by kernel_rfl) (by rw [hb1]; rfl) ?_
          exact QRun_done [0, 3, 4, 15] (by kernel_rfl) (by kernel_rfl)
      exact QRun_done [0, 3, 4, 15] (by kernel_rfl) (by kernel_rfl)
    refine Run_cond (b := (decide (s1.2 < (code.length : Int))) && (decide (s1.2 < 64))) (by kernel_rfl) (fun hb2 => ?_) (fun hb2 => ?_)
    · have hB1 := (M.ite_some hB1).1 hb2
      refine Run_skip ?_
      refine Run_seq ?_
      refine Run_block ?_
      obtain ⟨x3, hx1, hB1⟩ := M.bind_some hB1
      obtain ⟨hx1l, hx1u, hx1⟩ := M.idx_some hx1
      refine Run_D (fun x => Hold h x [box b1 155 [.slice acode code.length ccode, .int .i64 0, .int .i64 s1.1]]) (fun x => Hold h x [box b1 155 [.slice acode code.length ccode, .int .i64 0, .int .i64 s1.1]]) mixed (by kernel_rfl) H2 Hold.stable (fun x Hy => (show Hold h x [box b1 155 [.slice acode code.length ccode, .int .i64 0, .int .i64 s1.1]] from Hy).pick [0] (by kernel_rfl)) ?_
      refine DR_b 12 [.pointer (some ⟨b1, 0, none⟩), .pointer (some ⟨b1, 0, none⟩), .pointer (some ⟨b1, 0, none⟩), .pointer (some ⟨b1, 2, none⟩)] 0 (by kernel_rfl) (by kernel_rfl) (by kernel_rfl) (fun w => by kernel_rfl) ?_
      refine DR_y 11 (i := 4) (.int .i64 s1.1) (by kernel_rfl) (by kernel_rfl) (by kernel_rfl) (fun hx Hx => (YE.of (Y_load1 (t := 2) (p := ⟨b1, 2, none⟩) (v := .int .i64 s1.1) (by kernel_rfl) (fun w => by kernel_rfl) (Hx.cell 0 rfl rfl)))) ?_
      refine DR_b 8 [.int .i64 (w64 (s1.1 * 67)), .slice acode code.length ccode, .int .i64 s1.2] 5 (by kernel_rfl) (by kernel_rfl) (by kernel_rfl) (fun w => by kernel_rfl) ?_
      refine DR_y 7 (i := 8) (.pointer (some (adr acode (s1.2.toNat * 1)))) (by kernel_rfl) (by kernel_rfl) (by kernel_rfl) (fun hx Hx => (YE.of (Y_idx (t := 47) (e := 5) (sz := 1) (a := acode) (n := code.length) (cap := ccode) (kk := .i64) (i := s1.2) (by kernel_rfl) Try.underlying47 (by kernel_rfl) ((rcode.at H2.ext).cell hx1).1 hx1l hx1u))) ?_
      refine DR_y 6 (i := 9) (.int .u8 x3) (by kernel_rfl) (by kernel_rfl) (by kernel_rfl) (fun hx Hx => (YE.of (Y_load1 (t := 5) (p := adr acode (s1.2.toNat * 1)) (v := .int .u8 x3) (by kernel_rfl) (fun w => by kernel_rfl) (cd5_cell (rcode.at Hx.ext) hx1)))) ?_
      refine DR_b 1 [.int .i64 (w64 (x3)), .int .i64 (w64 ((w64 (s1.1 * 67)) + (w64 (x3)))), .int .i64 ((w64 ((w64 (s1.1 * 67)) + (w64 (x3)))).tmod 2147483647), .pointer (some ⟨b1, 0, none⟩), .pointer (some ⟨b1, 2, none⟩)] 10 (by kernel_rfl) (by kernel_rfl) (by kernel_rfl) (fun w => by kernel_rfl) ?_
      refine DR_tail (i := 15) (by kernel_rfl) (by kernel_rfl) (by kernel_rfl) (fun h4 H4 => ?_)
      have H5 : Hold h h4 [box b1 155 [.slice acode code.length ccode, .int .i64 0, .int .i64 s1.1]] := H4
      refine Run_E (by kernel_rfl) ?_
      refine E_bput (t := 2) (off := 2) (us := [.slice acode code.length ccode, .int .i64 0, .int .i64 ((w64 ((w64 (s1.1 * 67)) + (w64 (x3)))).tmod 2147483647)]) (v := .int .i64 ((w64 ((w64 (s1.1 * 67)) + (w64 (x3)))).tmod 2147483647)) H5 (by kernel_rfl) (by kernel_rfl) rfl (by kernel_rfl) rfl (fun h5 H6 => ?_)
      refine Run_nil (by kernel_rfl) ?_
      refine Run_keep [0, 3, 4] (L' := [(0, .slice acode code.length ccode), (3, .pointer (some ⟨b1, 0, none⟩)), (4, .int .i64 s1.2)]) (by kernel_rfl) ?_
      refine Run_blk ?_
      refine Run_reg 3 (by kernel_rfl) (L' := [(0, .slice acode code.length ccode), (3, .pointer (some ⟨b1, 0, none⟩)), (4, .int .i64 (w64 (s1.2 + 1)))]) ?_ ?_
      · refine QRun_b [.int .i64 s1.2, .int .i64 (w64 (s1.2 + 1)), .int .i64 (w64 (s1.2 + 1))] 0 _ (by kernel_rfl) (fun w => by kernel_rfl) ?_
        exact QRun_done [0, 3, 4] (by kernel_rfl) (by kernel_rfl)
      have hB1 := M.ret_some hB1
      have gx1 := hgoy1 _ hB1.symm
      exact Run_again [0, 3, 4] (by kernel_rfl) my1 (Nat.lt_succ_self _) ⟨(((w64 ((w64 (s1.1 * 67)) + (w64 (x3)))).tmod 2147483647), (w64 (s1.2 + 1))), gx1, rfl, H6⟩
    · have hB1 := (M.ite_some hB1).2 hb2
      refine Run_exit (k' := _) rfl ?_
      have hB1 := M.ret_some hB1
      have gx1 := houty1 _ hB1.symm
      subst gx1
      exact Run_fall [3] (by kernel_rfl) ⟨rfl, H2⟩

set_option maxRecDepth 100000 in
set_option maxHeartbeats 4000000 in
theorem w_spec_l01In (h : Heap) (n_ : Int) (low : Int) (high : Int) (n : Nat) (r : Bool) (hF : spec_l01In n_ low high n = some r) :
    Fn Try.prog 78 #[.int .i64 n_, .int .i64 low, .int .i64 high] h fun v h' => v = .bool r ∧ h' = h := by
  unfold spec_l01In at hF
  refine Fn_enter (args := [.int .i64 n_, .int .i64 low, .int .i64 high]) Try.func78 rfl (by kernel_rfl) (by kernel_rfl) (fun w0 _ => ?_)
  refine Run_seq ?_
  refine Run_reg 1 (by kernel_rfl) (L' := [(0, .int .i64 n_), (1, .int .i64 low), (2, .int .i64 high)]) ?_ ?_
  · refine QRun_b [.bool false] 0 _ (by kernel_rfl) (fun w => by kernel_rfl) ?_
    exact QRun_done [0, 1, 2] (by kernel_rfl) (by kernel_rfl)
  refine Run_seq ?_
  refine Run_reg 9 (by kernel_rfl) (L' := [(6, .bool ((decide (low ≤ n_)) && (decide (n_ ≤ high))))]) ?_ ?_
  · refine QRun_b [.int .i64 n_, .int .i64 low, .bool (decide (low ≤ n_))] 0 _ (by kernel_rfl) (fun w => by kernel_rfl) ?_
    refine QRun_seq 8 [(14, .bool ((decide (low ≤ n_)) && (decide (n_ ≤ high))))] ?_ ?_
    · rcases Bool.eq_false_or_eq_true (decide (low ≤ n_)) with hb1 | hb1
      · refine QRun_bool (decide (low ≤ n_)) true (by kernel_rfl) (fun w => by kernel_rfl) hb1 ?_
        refine QRun_b [.int .i64 n_, .int .i64 high, .bool (decide (n_ ≤ high))] 4 _ (by kernel_rfl) (fun w => by kernel_rfl) ?_
        refine QRun_bool (decide (n_ ≤ high)) ((decide (low ≤ n_)) && (decide (n_ ≤ high))) (by kernel_rfl) (fun w => by kernel_rfl) (by rw [hb1]; rfl) ?_
        exact QRun_done [14] (by kernel_rfl) (by kernel_rfl)
      · refine QRun_bool (decide (low ≤ n_)) false (by kernel_rfl) (fun w => by kernel_rfl) hb1 ?_
        refine QRun_n (by kernel_rfl) ?_
        refine QRun_n (by kernel_rfl) ?_
        refine QRun_n (by kernel_rfl) ?_
        refine QRun_bool false ((decide (low ≤ n_)) && (decide (n_ ≤ high))) (by kernel_rfl) (fun w => by kernel_rfl) (by rw [hb1]; rfl) ?_
        exact QRun_done [14] (by kernel_rfl) (by kernel_rfl)
    refine QRun_b [.bool ((decide (low ≤ n_)) && (decide (n_ ≤ high)))] 8 _ (by kernel_rfl) (fun w => by kernel_rfl) ?_
    exact QRun_done [6] (by kernel_rfl) (by kernel_rfl)
  have hF := M.ret_some hF
  subst hF
  exact Run_ret1 rfl (ResV_tmp (v := .bool ((decide (low ≤ n_)) && (decide (n_ ≤ high)))) (by kernel_rfl)) ⟨rfl, rfl⟩

set_option maxRecDepth 100000 in
set_option maxHeartbeats 4000000 in
theorem w_spec_l01Finite (h : Heap) (a_ : Int) (n : Nat) (r : Bool) (hF : spec_l01Finite a_ n = some r) :
    Fn Try.prog 169 #[.int .i64 a_] h fun v h' => v = .bool r ∧ h' = h := by
  unfold spec_l01Finite at hF
  refine Fn_enter (args := [.int .i64 a_]) Try.func169 rfl (by kernel_rfl) (by kernel_rfl) (fun w0 _ => ?_)
  refine Run_seq ?_
  refine Run_reg 1 (by kernel_rfl) (L' := [(0, .int .i64 a_)]) ?_ ?_
  · refine QRun_b [.bool false] 0 _ (by kernel_rfl) (fun w => by kernel_rfl) ?_
    exact QRun_done [0] (by kernel_rfl) (by kernel_rfl)
  refine Run_seq ?_
  obtain ⟨x1, hx1, hF⟩ := M.bind_some hF
  refine Run_reg 3 (by kernel_rfl) (L' := [(2, .bool x1)]) ?_ ?_
  · refine QRun_b [.int .i64 a_] 0 _ (by kernel_rfl) (fun w => by kernel_rfl) ?_
    refine QRun_y (.bool x1) (by kernel_rfl) (Y_callq (f := 78) (args := #[.int .i64 a_, .int .i64 (-1000000), .int .i64 1000000]) (v := .bool x1) (by kernel_rfl) (w_spec_l01In h a_ (-1000000) 1000000 _ _ hx1)) ?_
    refine QRun_b [.bool x1] 2 _ (by kernel_rfl) (fun w => by kernel_rfl) ?_
    exact QRun_done [2] (by kernel_rfl) (by kernel_rfl)
  have hF := M.ret_some hF
  subst hF
  exact Run_ret1 rfl (ResV_tmp (v := .bool x1) (by kernel_rfl)) ⟨rfl, rfl⟩

set_option maxRecDepth 100000 in
set_option maxHeartbeats 4000000 in
theorem w_spec_IsValue (h : Heap) (a_ : Int) (n : Nat) (r : Bool) (hF : spec_IsValue a_ n = some r) :
    Fn Try.prog 153 #[.int .i64 a_] h fun v h' => v = .bool r ∧ h' = h := by
  unfold spec_IsValue at hF
  refine Fn_enter (args := [.int .i64 a_]) Try.func153 rfl (by kernel_rfl) (by kernel_rfl) (fun w0 _ => ?_)
  refine Run_seq ?_
  refine Run_reg 1 (by kernel_rfl) (L' := [(0, .int .i64 a_)]) ?_ ?_
  · refine QRun_b [.bool false] 0 _ (by kernel_rfl) (fun w => by kernel_rfl) ?_
    exact QRun_done [0] (by kernel_rfl) (by kernel_rfl)
  refine Run_seq ?_
  obtain ⟨x1, gx1, hF⟩ := M.bind_some hF
  refine Run_reg 7 (by kernel_rfl) (L' := [(2, .bool x1)]) ?_ ?_
  · refine QRun_b [.int .i64 a_, .bool (a_ == (-1000000000000000))] 0 _ (by kernel_rfl) (fun w => by kernel_rfl) ?_
    refine QRun_seq 6 [(8, .bool x1)] ?_ ?_
    · rcases Bool.eq_false_or_eq_true (a_ == (-1000000000000000)) with hb1 | hb1
      · refine QRun_bool (a_ == (-1000000000000000)) true (by kernel_rfl) (fun w => by kernel_rfl) hb1 ?_
        have gx1 := M.ret_some ((M.ite_some gx1).1 hb1)
        refine QRun_n (by kernel_rfl) ?_
        refine QRun_n (by kernel_rfl) ?_
        refine QRun_bool true x1 (by kernel_rfl) (fun w => by kernel_rfl) gx1 ?_
        exact QRun_done [8] (by kernel_rfl) (by kernel_rfl)
      · refine QRun_bool (a_ == (-1000000000000000)) false (by kernel_rfl) (fun w => by kernel_rfl) hb1 ?_
        have gx1 := (M.ite_some gx1).2 hb1
        obtain ⟨x2, hx1, gx1⟩ := M.bind_some gx1
        have gx1 := M.ret_some gx1
        refine QRun_b [.int .i64 a_] 3 _ (by kernel_rfl) (fun w => by kernel_rfl) ?_
        refine QRun_y (.bool x2) (by kernel_rfl) (Y_callq (f := 169) (args := #[.int .i64 a_]) (v := .bool x2) (by kernel_rfl) (w_spec_l01Finite h a_ _ _ hx1)) ?_
        refine QRun_bool x2 x1 (by kernel_rfl) (fun w => by kernel_rfl) gx1 ?_
        exact QRun_done [8] (by kernel_rfl) (by kernel_rfl)
    refine QRun_b [.bool x1] 6 _ (by kernel_rfl) (fun w => by kernel_rfl) ?_
    exact QRun_done [2] (by kernel_rfl) (by kernel_rfl)
  have hF := M.ret_some hF
  subst hF
  exact Run_ret1 rfl (ResV_tmp (v := .bool x1) (by kernel_rfl)) ⟨rfl, rfl⟩

set_option maxRecDepth 100000 in
set_option maxHeartbeats 4000000 in
theorem w_spec_l01All (h : Heap) (list : List Int) {Slist : Bs} (alist : Option Addr) (clist : Nat) (rlist : Rd cd2 h Slist alist clist list) (finite : Bool) (n : Nat) (r : Bool) (hF : spec_l01All list finite n = some r) :
    Fn Try.prog 87 #[.slice alist list.length clist, .bool finite] h fun v h' => v = .bool r ∧ h' = h := by
  unfold spec_l01All at hF
  refine Fn_enter (args := [.slice alist list.length clist, .bool finite]) Try.func87 rfl (by kernel_rfl) (by kernel_rfl) (fun w0 _ => ?_)
  refine Run_seq ?_
  refine Run_reg 1 (by kernel_rfl) (L' := [(0, .slice alist list.length clist), (1, .bool finite)]) ?_ ?_
  · refine QRun_b [.bool false] 0 _ (by kernel_rfl) (fun w => by kernel_rfl) ?_
    exact QRun_done [0, 1] (by kernel_rfl) (by kernel_rfl)
  refine Run_seq ?_
  refine Run_seq ?_
  refine Run_reg 1 (by kernel_rfl) (L' := [(0, .slice alist list.length clist), (1, .bool finite), (5, .int .i64 0)]) ?_ ?_
  · refine QRun_b [.int .i64 0] 0 _ (by kernel_rfl) (fun w => by kernel_rfl) ?_
    exact QRun_done [0, 1, 5] (by kernel_rfl) (by kernel_rfl)
  obtain ⟨x1, gx1, hF⟩ := M.bind_some hF
  obtain ⟨hloy1, hhiy1, gx1⟩ := M.for_start gx1
  refine Run_join (fun L' h' => ∃ (s2 : Unit), x1 = .inl s2 ∧ L' = [] ∧ h = h') ?_ ?_
  · rintro _ _ ⟨s2, es2, rfl, rfl⟩
    have hF := M.cont_inl' hF es2
    refine Run_seq ?_
    refine Run_reg 1 (by kernel_rfl) (L' := [(4, .bool true)]) ?_ ?_
    · refine QRun_b [.bool true] 0 _ (by kernel_rfl) (fun w => by kernel_rfl) ?_
      exact QRun_done [4] (by kernel_rfl) (by kernel_rfl)
    have hF := M.ret_some hF
    subst hF
    exact Run_ret1 rfl (ResV_tmp (v := .bool true) (by kernel_rfl)) ⟨rfl, rfl⟩
  · refine Run_block ?_
    refine Run_keep [0, 1, 5] (L' := [(0, .slice alist list.length clist), (1, .bool finite), (5, .int .i64 0)]) (by kernel_rfl) ?_
    refine Run_loop (fun m L' h' => ∃ (i1 : Int) (s1 : Unit), 0 ≤ i1 ∧ M.forN (list.length : Int) _ _ n m i1 s1 = some x1 ∧ L' = [(0, .slice alist list.length clist), (1, .bool finite), (5, .int .i64 i1)] ∧ h = h') ((list.length : Int) - 0 : Int).toNat ⟨0, (), Int.le_refl _, gx1, rfl, rfl⟩ ?_
    rintro my1 _ _ ⟨i1, s1, hloy1', gx1, rfl, rfl⟩
    refine Run_seq ?_
    refine Run_seq ?_
    refine Run_reg 4 (by kernel_rfl) (L' := [(0, .slice alist list.length clist), (1, .bool finite), (5, .int .i64 i1), (9, .bool (decide (i1 < (list.length : Int))))]) ?_ ?_
    · refine QRun_b [.int .i64 i1, .slice alist list.length clist, .int .i64 (list.length : Int), .bool (decide (i1 < (list.length : Int)))] 0 _ (by kernel_rfl) (fun w => by kernel_rfl) ?_
      exact QRun_done [0, 1, 5, 9] (by kernel_rfl) (by kernel_rfl)
    refine Run_cond (b := decide (i1 < (list.length : Int))) (by kernel_rfl) (fun hb1 => ?_) (fun hb1 => ?_)
    · obtain ⟨my1, y1, rfl, hB1, hgoy1, houty1⟩ := M.for_go gx1 hb1
      have hlty1 := of_decide_eq_true hb1
      refine Run_skip ?_
      refine Run_seq ?_
      refine Run_block ?_
      refine Run_seq ?_
      obtain ⟨x2, hx1, hB1⟩ := M.bind_some hB1
      obtain ⟨hx1l, hx1u, hx1⟩ := M.idx_some hx1
      obtain ⟨x3, hx2, hB1⟩ := M.bind_some hB1
      obtain ⟨x4, gx4, hB1⟩ := M.bind_some hB1
      refine Run_reg 16 (by kernel_rfl) (L' := [(0, .slice alist list.length clist), (1, .bool finite), (5, .int .i64 i1), (27, .bool x4)]) ?_ ?_
      · refine QRun_b [.slice alist list.length clist, .int .i64 i1] 0 _ (by kernel_rfl) (fun w => by kernel_rfl) ?_
        refine QRun_y (.pointer (some (adr alist (i1.toNat * 1)))) (by kernel_rfl) (Y_idx (t := 39) (e := 2) (sz := 1) (a := alist) (n := list.length) (cap := clist) (kk := .i64) (i := i1) (by kernel_rfl) Try.underlying39 (by kernel_rfl) (rlist.cell hx1).1 hx1l hx1u) ?_
        refine QRun_y (.int .i64 x2) (by kernel_rfl) (Y_load1 (t := 2) (p := adr alist (i1.toNat * 1)) (v := .int .i64 x2) (by kernel_rfl) (fun w => by kernel_rfl) (cd2_cell rlist hx1)) ?_
        refine QRun_y (.bool x3) (by kernel_rfl) (Y_callq (f := 153) (args := #[.int .i64 x2]) (v := .bool x3) (by kernel_rfl) (w_spec_IsValue h x2 _ _ hx2)) ?_
        refine QRun_b [.bool (!x3)] 5 _ (by kernel_rfl) (fun w => by kernel_rfl) ?_
        refine QRun_seq 16 [(0, .slice alist list.length clist), (1, .bool finite), (5, .int .i64 i1), (27, .bool x4)] ?_ ?_
        · rcases Bool.eq_false_or_eq_true (!x3) with hb2 | hb2
          · refine QRun_bool (!x3) true (by kernel_rfl) (fun w => by kernel_rfl) hb2 ?_
            have gx4 := M.ret_some ((M.ite_some gx4).1 hb2)
            refine QRun_n (by kernel_rfl) ?_
            refine QRun_n (by kernel_rfl) ?_
            refine QRun_n (by kernel_rfl) ?_
            refine QRun_n (by kernel_rfl) ?_
            refine QRun_n (by kernel_rfl) ?_
            refine QRun_n (by kernel_rfl) ?_
            refine QRun_n (by kernel_rfl) ?_
            refine QRun_n (by kernel_rfl) ?_
            refine QRun_bool true x4 (by kernel_rfl) (fun w => by kernel_rfl) gx4 ?_
            exact QRun_done [0, 1, 5, 27] (by kernel_rfl) (by kernel_rfl)
          · refine QRun_bool (!x3) false (by kernel_rfl) (fun w => by kernel_rfl) hb2 ?_
            have gx4 := (M.ite_some gx4).2 hb2
            obtain ⟨x5, gx5, gx4⟩ := M.bind_some gx4
            have gx4 := M.ret_some gx4
            refine QRun_b [.bool finite] 7 _ (by kernel_rfl) (fun w => by kernel_rfl) ?_
            refine QRun_seq 15 [(0, .slice alist list.length clist), (1, .bool finite), (5, .int .i64 i1), (18, .bool false), (26, .bool x5)] ?_ ?_
            · rcases Bool.eq_false_or_eq_true finite with hb3 | hb3
              · refine QRun_bool finite true (by kernel_rfl) (fun w => by kernel_rfl) hb3 ?_
                have gx5 := (M.ite_some gx5).1 hb3
                obtain ⟨x6, hx3, gx5⟩ := M.bind_some gx5
                obtain ⟨hx3l, hx3u, hx3⟩ := M.idx_some hx3
                have gx5 := M.ret_some gx5
                refine QRun_b [.slice alist list.length clist, .int .i64 i1] 9 _ (by kernel_rfl) (fun w => by kernel_rfl) ?_
                refine QRun_y (.pointer (some (adr alist (i1.toNat * 1)))) (by kernel_rfl) (Y_idx (t := 39) (e := 2) (sz := 1) (a := alist) (n := list.length) (cap := clist) (kk := .i64) (i := i1) (by kernel_rfl) Try.underlying39 (by kernel_rfl) (rlist.cell hx3).1 hx3l hx3u) ?_
                refine QRun_y (.int .i64 x6) (by kernel_rfl) (Y_load1 (t := 2) (p := adr alist (i1.toNat * 1)) (v := .int .i64 x6) (by kernel_rfl) (fun w => by kernel_rfl) (cd2_cell rlist hx3)) ?_
                refine QRun_b [.bool (x6 == (-1000000000000000))] 13 _ (by kernel_rfl) (fun w => by kernel_rfl) ?_
                refine QRun_bool (x6 == (-1000000000000000)) x5 (by kernel_rfl) (fun w => by kernel_rfl) gx5 ?_
                exact QRun_done [0, 1, 5, 18, 26] (by kernel_rfl) (by kernel_rfl)
              · refine QRun_bool finite false (by kernel_rfl) (fun w => by kernel_rfl) hb3 ?_
                have gx5 := M.ret_some ((M.ite_some gx5).2 hb3)
                refine QRun_n (by kernel_rfl) ?_
                refine QRun_n (by kernel_rfl) ?_
                refine QRun_n (by kernel_rfl) ?_
                refine QRun_n (by kernel_rfl) ?_
                refine QRun_n (by kernel_rfl) ?_
                refine QRun_bool false x5 (by kernel_rfl) (fun w => by kernel_rfl) gx5 ?_
                exact QRun_done [0, 1, 5, 18, 26] (by kernel_rfl) (by kernel_rfl)
            refine QRun_bool x5 x4 (by kernel_rfl) (fun w => by kernel_rfl) gx4 ?_
            exact QRun_done [0, 1, 5, 27] (by kernel_rfl) (by kernel_rfl)
        exact QRun_done [0, 1, 5, 27] (by kernel_rfl) (by kernel_rfl)
      refine Run_cond (b := x4) (by kernel_rfl) (fun hb4 => ?_) (fun hb4 => ?_)
      · have hB1 := (M.ite_some hB1).1 hb4
        refine Run_seq ?_
        refine Run_reg 1 (by kernel_rfl) (L' := [(4, .bool false)]) ?_ ?_
        · refine QRun_b [.bool false] 0 _ (by kernel_rfl) (fun w => by kernel_rfl) ?_
          exact QRun_done [4] (by kernel_rfl) (by kernel_rfl)
        have hB1 := M.ret_some hB1
        have gx1 := houty1 _ hB1.symm
        have hF := M.cont_inr' hF gx1
        have hF := M.ret_some hF
        subst hF
        exact Run_ret1 rfl (ResV_tmp (v := .bool false) (by kernel_rfl)) ⟨rfl, rfl⟩
      · have hB1 := (M.ite_some hB1).2 hb4
        refine Run_skip ?_
        refine Run_blk ?_
        refine Run_reg 3 (by kernel_rfl) (L' := [(0, .slice alist list.length clist), (1, .bool finite), (5, .int .i64 (i1 + 1))]) ?_ ?_
        · refine QRun_b [.int .i64 i1] 0 _ (by kernel_rfl) (fun w => by kernel_rfl) ?_
          refine QRun_y (.int .i64 (i1 + 1)) (by kernel_rfl) (Y_eq (v := .int .i64 (w64 (i1 + 1))) (Y_pure (fun w => by kernel_rfl)) (by rw [w64_eq _ (by omega)])) ?_
          refine QRun_b [.int .i64 (i1 + 1)] 2 _ (by kernel_rfl) (fun w => by kernel_rfl) ?_
          exact QRun_done [0, 1, 5] (by kernel_rfl) (by kernel_rfl)
        have hB1 := M.ret_some hB1
        have gx1 := hgoy1 _ hB1.symm
        exact Run_again [0, 1, 5] (by kernel_rfl) my1 (Nat.lt_succ_self _) ⟨i1 + 1, (), by omega, gx1, rfl, rfl⟩
    · have gx1 := M.for_end gx1 hb1
      subst gx1
      refine Run_exit (k' := _) rfl ?_
      exact Run_fall [] (by kernel_rfl) ⟨(), rfl, rfl, rfl⟩

set_option maxRecDepth 100000 in
set_option maxHeartbeats 4000000 in
theorem w_spec_IsPolynomial (h : Heap) (c_ : List Int) {Sc_ : Bs} (ac_ : Option Addr) (cc_ : Nat) (rc_ : Rd cd2 h Sc_ ac_ cc_ c_) (n : Nat) (r : Bool) (hF : spec_IsPolynomial c_ n = some r) :
    Fn Try.prog 116 #[.slice ac_ c_.length cc_] h fun v h' => v = .bool r ∧ h' = h := by
  unfold spec_IsPolynomial at hF
  refine Fn_enter (args := [.slice ac_ c_.length cc_]) Try.func116 rfl (by kernel_rfl) (by kernel_rfl) (fun w0 _ => ?_)
  refine Run_seq ?_
  refine Run_reg 1 (by kernel_rfl) (L' := [(0, .slice ac_ c_.length cc_)]) ?_ ?_
  · refine QRun_b [.bool false] 0 _ (by kernel_rfl) (fun w => by kernel_rfl) ?_
    exact QRun_done [0] (by kernel_rfl) (by kernel_rfl)
  refine Run_seq ?_
  refine Run_seq ?_
  obtain ⟨x1, gx1, hF⟩ := M.bind_some hF
  refine Run_reg 8 (by kernel_rfl) (L' := [(0, .slice ac_ c_.length cc_), (11, .bool x1)]) ?_ ?_
  · refine QRun_b [.slice ac_ c_.length cc_, .int .i64 (c_.length : Int), .bool (decide (12 < (c_.length : Int)))] 0 _ (by kernel_rfl) (fun w => by kernel_rfl) ?_
    refine QRun_seq 8 [(0, .slice ac_ c_.length cc_), (11, .bool x1)] ?_ ?_
    · rcases Bool.eq_false_or_eq_true (decide (12 < (c_.length : Int))) with hb1 | hb1
      · refine QRun_bool (decide (12 < (c_.length : Int))) true (by kernel_rfl) (fun w => by kernel_rfl) hb1 ?_
        have gx1 := M.ret_some ((M.ite_some gx1).1 hb1)
        refine QRun_n (by kernel_rfl) ?_
        refine QRun_n (by kernel_rfl) ?_
        refine QRun_n (by kernel_rfl) ?_
        refine QRun_bool true x1 (by kernel_rfl) (fun w => by kernel_rfl) gx1 ?_
        exact QRun_done [0, 11] (by kernel_rfl) (by kernel_rfl)
      · refine QRun_bool (decide (12 < (c_.length : Int))) false (by kernel_rfl) (fun w => by kernel_rfl) hb1 ?_
        have gx1 := (M.ite_some gx1).2 hb1
        obtain ⟨x2, hx1, gx1⟩ := M.bind_some gx1
        have gx1 := M.ret_some gx1
        refine QRun_b [.slice ac_ c_.length cc_] 4 _ (by kernel_rfl) (fun w => by kernel_rfl) ?_
        refine QRun_y (.bool x2) (by kernel_rfl) (Y_callq (f := 87) (args := #[.slice ac_ c_.length cc_, .bool false]) (v := .bool x2) (by kernel_rfl) (w_spec_l01All h c_ ac_ cc_ rc_ false _ _ hx1)) ?_
        refine QRun_b [.bool (!x2)] 6 _ (by kernel_rfl) (fun w => by kernel_rfl) ?_
        refine QRun_bool (!x2) x1 (by kernel_rfl) (fun w => by kernel_rfl) gx1 ?_
        exact QRun_done [0, 11] (by kernel_rfl) (by kernel_rfl)
    exact QRun_done [0, 11] (by kernel_rfl) (by kernel_rfl)
  refine Run_cond (b := x1) (by kernel_rfl) (fun hb2 => ?_) (fun hb2 => ?_)
  · have hF := (M.ite_some hF).1 hb2
    refine Run_seq ?_
    refine Run_reg 1 (by kernel_rfl) (L' := [(2, .bool false)]) ?_ ?_
    · refine QRun_b [.bool false] 0 _ (by kernel_rfl) (fun w => by kernel_rfl) ?_
      exact QRun_done [2] (by kernel_rfl) (by kernel_rfl)
    have hF := M.ret_some hF
    subst hF
    exact Run_ret1 rfl (ResV_tmp (v := .bool false) (by kernel_rfl)) ⟨rfl, rfl⟩
  · have hF := (M.ite_some hF).2 hb2
    refine Run_skip ?_
    refine Run_seq ?_
    refine Run_seq ?_
    refine Run_reg 1 (by kernel_rfl) (L' := [(0, .slice ac_ c_.length cc_), (3, .int .i64 0)]) ?_ ?_
    · refine QRun_b [.int .i64 0] 0 _ (by kernel_rfl) (fun w => by kernel_rfl) ?_
      exact QRun_done [0, 3] (by kernel_rfl) (by kernel_rfl)
    obtain ⟨x3, gx3, hF⟩ := M.bind_some hF
    obtain ⟨hloy1, hhiy1, gx3⟩ := M.for_start gx3
    refine Run_join (fun L' h' => ∃ (s2 : Unit), x3 = .inl s2 ∧ L' = [] ∧ h = h') ?_ ?_
    · rintro _ _ ⟨s2, es2, rfl, rfl⟩
      have hF := M.cont_inl' hF es2
      refine Run_seq ?_
      refine Run_reg 1 (by kernel_rfl) (L' := [(2, .bool false)]) ?_ ?_
      · refine QRun_b [.bool false] 0 _ (by kernel_rfl) (fun w => by kernel_rfl) ?_
        exact QRun_done [2] (by kernel_rfl) (by kernel_rfl)
      have hF := M.ret_some hF
      subst hF
      exact Run_ret1 rfl (ResV_tmp (v := .bool false) (by kernel_rfl)) ⟨rfl, rfl⟩
    · refine Run_block ?_
      refine Run_keep [0, 3] (L' := [(0, .slice ac_ c_.length cc_), (3, .int .i64 0)]) (by kernel_rfl) ?_
      refine Run_loop (fun m L' h' => ∃ (i1 : Int) (s1 : Unit), 0 ≤ i1 ∧ M.forN (c_.length : Int) _ _ n m i1 s1 = some x3 ∧ L' = [(0, .slice ac_ c_.length cc_), (3, .int .i64 i1)] ∧ h = h') ((c_.length : Int) - 0 : Int).toNat ⟨0, (), Int.le_refl _, gx3, rfl, rfl⟩ ?_
      rintro my1 _ _ ⟨i1, s1, hloy1', gx3, rfl, rfl⟩
      refine Run_seq ?_
      refine Run_seq ?_
      refine Run_reg 4 (by kernel_rfl) (L' := [(0, .slice ac_ c_.length cc_), (3, .int .i64 i1), (15, .bool (decide (i1 < (c_.length : Int))))]) ?_ ?_
      · refine QRun_b [.int .i64 i1, .slice ac_ c_.length cc_, .int .i64 (c_.length : Int), .bool (decide (i1 < (c_.length : Int)))] 0 _ (by kernel_rfl) (fun w => by kernel_rfl) ?_
        exact QRun_done [0, 3, 15] (by kernel_rfl) (by kernel_rfl)
      refine Run_cond (b := decide (i1 < (c_.length : Int))) (by kernel_rfl) (fun hb3 => ?_) (fun hb3 => ?_)
      · obtain ⟨my1, y1, rfl, hB1, hgoy1, houty1⟩ := M.for_go gx3 hb3
        have hlty1 := of_decide_eq_true hb3
        refine Run_skip ?_
        refine Run_seq ?_
        refine Run_block ?_
        refine Run_seq ?_
        obtain ⟨x4, hx2, hB1⟩ := M.bind_some hB1
        obtain ⟨hx2l, hx2u, hx2⟩ := M.idx_some hx2
        refine Run_reg 5 (by kernel_rfl) (L' := [(0, .slice ac_ c_.length cc_), (3, .int .i64 i1), (22, .bool (x4 != (-1000000000000000)))]) ?_ ?_
        · refine QRun_b [.slice ac_ c_.length cc_, .int .i64 i1] 0 _ (by kernel_rfl) (fun w => by kernel_rfl) ?_
          refine QRun_y (.pointer (some (adr ac_ (i1.toNat * 1)))) (by kernel_rfl) (Y_idx (t := 39) (e := 2) (sz := 1) (a := ac_) (n := c_.length) (cap := cc_) (kk := .i64) (i := i1) (by kernel_rfl) Try.underlying39 (by kernel_rfl) (rc_.cell hx2).1 hx2l hx2u) ?_
          refine QRun_y (.int .i64 x4) (by kernel_rfl) (Y_load1 (t := 2) (p := adr ac_ (i1.toNat * 1)) (v := .int .i64 x4) (by kernel_rfl) (fun w => by kernel_rfl) (cd2_cell rc_ hx2)) ?_
          refine QRun_b [.bool (x4 != (-1000000000000000))] 4 _ (by kernel_rfl) (fun w => by kernel_rfl) ?_
          exact QRun_done [0, 3, 22] (by kernel_rfl) (by kernel_rfl)
        refine Run_cond (b := x4 != (-1000000000000000)) (by kernel_rfl) (fun hb4 => ?_) (fun hb4 => ?_)
        · have hB1 := (M.ite_some hB1).1 hb4
          refine Run_seq ?_
          refine Run_reg 1 (by kernel_rfl) (L' := [(2, .bool true)]) ?_ ?_
          · refine QRun_b [.bool true] 0 _ (by kernel_rfl) (fun w => by kernel_rfl) ?_
            exact QRun_done [2] (by kernel_rfl) (by kernel_rfl)
          have hB1 := M.ret_some hB1
          have gx3 := houty1 _ hB1.symm
          have hF := M.cont_inr' hF gx3
          have hF := M.ret_some hF
          subst hF
          exact Run_ret1 rfl (ResV_tmp (v := .bool true) (by kernel_rfl)) ⟨rfl, rfl⟩
        · have hB1 := (M.ite_some hB1).2 hb4
          refine Run_skip ?_
          refine Run_blk ?_
          refine Run_reg 3 (by kernel_rfl) (L' := [(0, .slice ac_ c_.length cc_), (3, .int .i64 (i1 + 1))]) ?_ ?_
          · refine QRun_b [.int .i64 i1] 0 _ (by kernel_rfl) (fun w => by kernel_rfl) ?_
            refine QRun_y (.int .i64 (i1 + 1)) (by kernel_rfl) (Y_eq (v := .int .i64 (w64 (i1 + 1))) (Y_pure (fun w => by kernel_rfl)) (by rw [w64_eq _ (by omega)])) ?_
            refine QRun_b [.int .i64 (i1 + 1)] 2 _ (by kernel_rfl) (fun w => by kernel_rfl) ?_
            exact QRun_done [0, 3] (by kernel_rfl) (by kernel_rfl)
          have hB1 := M.ret_some hB1
          have gx3 := hgoy1 _ hB1.symm
          exact Run_again [0, 3] (by kernel_rfl) my1 (Nat.lt_succ_self _) ⟨i1 + 1, (), by omega, gx3, rfl, rfl⟩
      · have gx3 := M.for_end gx3 hb3
        subst gx3
        refine Run_exit (k' := _) rfl ?_
        exact Run_fall [] (by kernel_rfl) ⟨(), rfl, rfl, rfl⟩

set_option maxRecDepth 100000 in
set_option maxHeartbeats 4000000 in
theorem w_spec_l09Terms (h : Heap) (c_ : List Int) (ac_ : Option Addr) (cc_ : Nat) (rc_ : Rd cd2 h (Lt h) ac_ cc_ c_) (n : Nat) (r : (List Int)) (hF : spec_l09Terms c_ n = some r) :
    Fn Try.prog 122 #[.slice ac_ c_.length cc_] h fun v h' => ∃ (a0 : Option Addr) (c0 : Nat), v = .slice a0 r.length c0 ∧ Hold h h' [own cd2 a0 r.length c0 r] := by
  unfold spec_l09Terms at hF
  refine Fn_enter (args := [.slice ac_ c_.length cc_]) Try.func122 rfl (by kernel_rfl) (by kernel_rfl) (fun w0 _ => ?_)
  have H0 := Hold.init h
  refine Run_seq ?_
  refine Run_reg 1 (by kernel_rfl) (L' := [(0, .slice ac_ c_.length cc_)]) ?_ ?_
  · refine QRun_b [.slice none 0 0] 0 _ (by kernel_rfl) (fun w => by kernel_rfl) ?_
    exact QRun_done [0] (by kernel_rfl) (by kernel_rfl)
  refine Run_seq ?_
  refine Run_ops ?_
  refine Run_E (by kernel_rfl) ?_
  refine E_lit (C := cd2) (n := 0) (l := ([] : List Int)) (cs := []) H0 (fun w => by kernel_rfl) (Enc.nil _ _) rfl (by decide) (fun a1 h1 H1 => ?_)
  refine Run_b [.slice a1 0 0] 1 _ (by kernel_rfl) (fun w => by kernel_rfl) ?_
  refine Run_nil (by kernel_rfl) ?_
  refine Run_keep [0, 3] (L' := [(0, .slice ac_ c_.length cc_), (3, .slice a1 0 0)]) (by kernel_rfl) ?_
  refine Run_seq ?_
  refine Run_seq ?_
  refine Run_reg 1 (by kernel_rfl) (L' := [(0, .slice ac_ c_.length cc_), (3, .slice a1 0 0), (4, .int .i64 0)]) ?_ ?_
  · refine QRun_b [.int .i64 0] 0 _ (by kernel_rfl) (fun w => by kernel_rfl) ?_
    exact QRun_done [0, 3, 4] (by kernel_rfl) (by kernel_rfl)
  obtain ⟨x1, gx1, hF⟩ := M.bind_some hF
  obtain ⟨hloy1, hhiy1, gx1⟩ := M.for_start gx1
  refine Run_join (fun L' h' => ∃ (a3 : Option Addr) (c2 : Nat), L' = [(3, .slice a3 x1.length c2)] ∧ Hold h h' [own cd2 a3 x1.length c2 x1]) ?_ ?_
  · rintro _ h3 ⟨a3, c2, rfl, H3⟩
    refine Run_seq ?_
    refine Run_reg 2 (by kernel_rfl) (L' := [(2, .slice a3 x1.length c2)]) ?_ ?_
    · refine QRun_b [.slice a3 x1.length c2, .slice a3 x1.length c2] 0 _ (by kernel_rfl) (fun w => by kernel_rfl) ?_
      exact QRun_done [2] (by kernel_rfl) (by kernel_rfl)
    have hF := M.ret_some hF
    subst hF
    exact Run_ret1 rfl (ResV_tmp (v := .slice a3 x1.length c2) (by kernel_rfl)) ⟨a3, c2, rfl, H3⟩
  · refine Run_block ?_
    have hn1 := (H1.len 0 rfl)
    have H14 : Hold h h1 [own cd2 a1 (([] : List Int).length) 0 ([] : List Int)] := by rw [hn1]; exact H1
    refine Run_keep [0, 3, 4] (L' := [(0, .slice ac_ c_.length cc_), (3, .slice a1 (([] : List Int).length) 0), (4, .int .i64 0)]) (by first | (rw [hn1]; kernel_rfl) | (simp only [hn1]; kernel_rfl) | kernel_rfl) ?_
    refine Run_loop (fun m L' h' => ∃ (i1 : Int) (s1 : (List Int)) (a2 : Option Addr) (c1 : Nat), 0 ≤ i1 ∧ M.forN (c_.length : Int) _ _ n m i1 s1 = some x1 ∧ L' = [(0, .slice ac_ c_.length cc_), (3, .slice a2 s1.length c1), (4, .int .i64 i1)] ∧ Hold h h' [own cd2 a2 s1.length c1 s1]) ((c_.length : Int) - 0 : Int).toNat ⟨0, ([] : List Int), a1, 0, Int.le_refl _, gx1, rfl, H14⟩ ?_
    rintro my1 _ h2 ⟨i1, s1, a2, c1, hloy1', gx1, rfl, H2⟩
    refine Run_seq ?_
    refine Run_seq ?_
    refine Run_reg 4 (by kernel_rfl) (L' := [(0, .slice ac_ c_.length cc_), (3, .slice a2 s1.length c1), (4, .int .i64 i1), (11, .bool (decide (i1 < (c_.length : Int))))]) ?_ ?_
    · refine QRun_b [.int .i64 i1, .slice ac_ c_.length cc_, .int .i64 (c_.length : Int), .bool (decide (i1 < (c_.length : Int)))] 0 _ (by kernel_rfl) (fun w => by kernel_rfl) ?_
      exact QRun_done [0, 3, 4, 11] (by kernel_rfl) (by kernel_rfl)
    refine Run_cond (b := decide (i1 < (c_.length : Int))) (by kernel_rfl) (fun hb1 => ?_) (fun hb1 => ?_)
    · obtain ⟨my1, y1, rfl, hB1, hgoy1, houty1⟩ := M.for_go gx1 hb1
      have hlty1 := of_decide_eq_true hb1
      refine Run_skip ?_
      refine Run_seq ?_
      obtain ⟨s2, gs2, hB1⟩ := M.bind_some hB1
      refine Run_join (fun L' h' => ∃ (a8 : Option Addr), ∃ (c6 : Nat), L' = [(0, .slice ac_ c_.length cc_), (3, .slice a8 s2.length c6), (4, .int .i64 i1)] ∧ Hold h h' [own cd2 a8 s2.length c6 s2]) ?_ ?_
      · rintro _ h8 ⟨a8, c6, rfl, H13⟩
        refine Run_reg 3 (by kernel_rfl) (L' := [(0, .slice ac_ c_.length cc_), (3, .slice a8 s2.length c6), (4, .int .i64 (i1 + 1))]) ?_ ?_
        · refine QRun_b [.int .i64 i1] 0 _ (by kernel_rfl) (fun w => by kernel_rfl) ?_
          refine QRun_y (.int .i64 (i1 + 1)) (by kernel_rfl) (Y_eq (v := .int .i64 (w64 (i1 + 1))) (Y_pure (fun w => by kernel_rfl)) (by rw [w64_eq _ (by omega)])) ?_
          refine QRun_b [.int .i64 (i1 + 1)] 2 _ (by kernel_rfl) (fun w => by kernel_rfl) ?_
          exact QRun_done [0, 3, 4] (by kernel_rfl) (by kernel_rfl)
        have hB1 := M.ret_some hB1
        have gx1 := hgoy1 _ hB1.symm
        exact Run_again [0, 3, 4] (by kernel_rfl) my1 (Nat.lt_succ_self _) ⟨i1 + 1, s2, a8, c6, by omega, gx1, rfl, H13⟩
      · refine Run_block ?_
        refine Run_seq ?_
        refine Run_seq ?_
        obtain ⟨x2, hx1, gs2⟩ := M.bind_some gs2
        obtain ⟨hx1l, hx1u, hx1⟩ := M.idx_some hx1
        refine Run_reg 5 (by kernel_rfl) (L' := [(0, .slice ac_ c_.length cc_), (3, .slice a2 s1.length c1), (4, .int .i64 i1), (18, .bool (x2 == (-1000000000000000)))]) ?_ ?_
        · refine QRun_b [.slice ac_ c_.length cc_, .int .i64 i1] 0 _ (by kernel_rfl) (fun w => by kernel_rfl) ?_
          refine QRun_y (.pointer (some (adr ac_ (i1.toNat * 1)))) (by kernel_rfl) (Y_idx (t := 39) (e := 2) (sz := 1) (a := ac_) (n := c_.length) (cap := cc_) (kk := .i64) (i := i1) (by kernel_rfl) Try.underlying39 (by kernel_rfl) ((rc_.at H2.ext).cell hx1).1 hx1l hx1u) ?_
          refine QRun_y (.int .i64 x2) (by kernel_rfl) (Y_load1 (t := 2) (p := adr ac_ (i1.toNat * 1)) (v := .int .i64 x2) (by kernel_rfl) (fun w => by kernel_rfl) (cd2_cell (rc_.at H2.ext) hx1)) ?_
          refine QRun_b [.bool (x2 == (-1000000000000000))] 4 _ (by kernel_rfl) (fun w => by kernel_rfl) ?_
          exact QRun_done [0, 3, 4, 18] (by kernel_rfl) (by kernel_rfl)
        refine Run_cond (b := x2 == (-1000000000000000)) (by kernel_rfl) (fun hb2 => ?_) (fun hb2 => ?_)
        · have gs2 := (M.ite_some gs2).1 hb2
          refine Run_exit (k' := _) rfl ?_
          have gs2 := M.ret_some gs2
          subst gs2
          exact Run_fall [0, 3, 4] (by kernel_rfl) ⟨a2, c1, rfl, H2⟩
        · have gs2 := (M.ite_some gs2).2 hb2
          refine Run_skip ?_
          refine Run_seq ?_
          obtain ⟨x3, gx3, gs2⟩ := M.bind_some gs2
          refine Run_join (fun L' h' => ∃ (a5 : Option Addr) (c4 : Nat), L' = [(0, .slice ac_ c_.length cc_), (3, .slice a5 x3.length c4), (4, .int .i64 i1)] ∧ Hold h h' [own cd2 a5 x3.length c4 x3]) ?_ ?_
          · rintro _ h5 ⟨a5, c4, rfl, H5⟩
            refine Run_ops ?_
            refine Run_b [.slice a5 x3.length c4, .int .i64 i1] 0 _ (by kernel_rfl) (fun w => by kernel_rfl) ?_
            refine Run_E (by kernel_rfl) ?_
            refine E_lit (C := cd2) (n := 1) (l := ([i1] : List Int)) (cs := [.int .i64 i1]) H5 (fun w => by kernel_rfl) (Enc.consE (cd2_own i1 _) (Enc.nil _ _) rfl) rfl (by decide) (fun a6 h6 H8 => ?_)
            obtain ⟨l1, hl1, gs2⟩ := M.bind_some gs2
            have hl1 := M.app_some hl1
            have H9 : Hold h h6 [own cd2 a5 x3.length c4 x3, own cd2 a6 1 1 ([i1] : List Int)] := H8.pick [1, 0] (by kernel_rfl)
            have H10 : Hold h h6 [own cd2 a6 1 1 ([i1] : List Int), own cd2 a5 x3.length c4 x3] := H9.pick [1, 0] (by kernel_rfl)
            have H11 : Hold h h6 [own cd2 a5 x3.length c4 x3, own cd2 a6 1 1 ([i1] : List Int)] := H10.pick [1, 0] (by kernel_rfl)
            refine Run_E (by kernel_rfl) ?_
            refine E_app (C := cd2) (t := 39) (ty := 39) (n := x3.length) (m := 1) H11 cd2_ti rfl Try.underlying39 (by decide) (by kernel_rfl) hl1 (fun a7 c5 h7 H12 => ?_)
            refine Run_b [.slice a7 l1.length c5] 4 _ (by kernel_rfl) (fun w => by kernel_rfl) ?_
            refine Run_nil (by kernel_rfl) ?_
            refine Run_keep [0, 3, 4] (L' := [(0, .slice ac_ c_.length cc_), (3, .slice a7 l1.length c5), (4, .int .i64 i1)]) (by kernel_rfl) ?_
            refine Run_blk ?_
            have gs2 := M.ret_some gs2
            subst gs2
            exact Run_fall [0, 3, 4] (by kernel_rfl) ⟨a7, c5, rfl, H12⟩
          · refine Run_block ?_
            refine Run_keep [0, 3, 4] (L' := [(0, .slice ac_ c_.length cc_), (3, .slice a2 s1.length c1), (4, .int .i64 i1)]) (by kernel_rfl) ?_
            refine Run_loop (fun m L' h' => ∃ (s3 : (List Int)) (a4 : Option Addr) (c3 : Nat), M.loopN _ n m s3 = some x3 ∧ L' = [(0, .slice ac_ c_.length cc_), (3, .slice a4 s3.length c3), (4, .int .i64 i1)] ∧ Hold h h' [own cd2 a4 s3.length c3 s3]) n ⟨s1, a2, c1, gx3, rfl, H2⟩ ?_
            rintro my2 _ h4 ⟨s3, a4, c3, gx3, rfl, H4⟩
            obtain ⟨my2, y2, rfl, hB2, hgoy2, houty2⟩ := M.loop_some gx3
            refine Run_seq ?_
            refine Run_seq ?_
            refine Run_reg 3 (by kernel_rfl) (L' := [(0, .slice ac_ c_.length cc_), (3, .slice a4 s3.length c3), (4, .int .i64 i1), (21, .bool (decide (1 < (s3.length : Int))))]) ?_ ?_
            · refine QRun_b [.slice a4 s3.length c3, .int .i64 (s3.length : Int), .bool (decide (1 < (s3.length : Int)))] 0 _ (by kernel_rfl) (fun w => by kernel_rfl) ?_
              exact QRun_done [0, 3, 4, 21] (by kernel_rfl) (by kernel_rfl)
            refine Run_cond (b := decide (1 < (s3.length : Int))) (by kernel_rfl) (fun hb3 => ?_) (fun hb3 => ?_)
            · have hB2 := (M.ite_some hB2).1 hb3
              refine Run_skip ?_
              refine Run_block ?_
              refine Run_seq ?_
              obtain ⟨x4, hx2, hB2⟩ := M.bind_some hB2
              obtain ⟨hx2l, hx2u, hx2⟩ := M.idx_some hx2
              obtain ⟨x5, hx3, hB2⟩ := M.bind_some hB2
              obtain ⟨hx3l, hx3u, hx3⟩ := M.idx_some hx3
              refine Run_draw 14 mixed (by kernel_rfl) (by kernel_rfl) (L' := [(0, .slice ac_ c_.length cc_), (3, .slice a4 s3.length c3), (4, .int .i64 i1), (5, .int .i64 x4), (6, .int .i64 x5)]) ?_ ?_
              · refine QRun_b [.slice a4 s3.length c3, .slice a4 s3.length c3, .int .i64 (s3.length : Int), .int .i64 (w64 ((s3.length : Int) - 2))] 0 _ (by kernel_rfl) (fun w => by kernel_rfl) ?_
                refine QRun_y (.pointer (some (adr a4 ((w64 ((s3.length : Int) - 2)).toNat * 1)))) (by kernel_rfl) (Y_idx (t := 39) (e := 2) (sz := 1) (a := a4) (n := s3.length) (cap := c3) (kk := .i64) (i := w64 ((s3.length : Int) - 2)) (by kernel_rfl) Try.underlying39 (by kernel_rfl) ((H4.rd 0 rfl).cell hx2).1 hx2l hx2u) ?_
                refine QRun_y (.int .i64 x4) (by kernel_rfl) (Y_load1 (t := 2) (p := adr a4 ((w64 ((s3.length : Int) - 2)).toNat * 1)) (v := .int .i64 x4) (by kernel_rfl) (fun w => by kernel_rfl) (cd2_cell (H4.rd 0 rfl) hx2)) ?_
                refine QRun_b [.slice a4 s3.length c3, .slice a4 s3.length c3, .int .i64 (s3.length : Int), .int .i64 (w64 ((s3.length : Int) - 1))] 6 _ (by kernel_rfl) (fun w => by kernel_rfl) ?_
                refine QRun_y (.pointer (some (adr a4 ((w64 ((s3.length : Int) - 1)).toNat * 1)))) (by kernel_rfl) (Y_idx (t := 39) (e := 2) (sz := 1) (a := a4) (n := s3.length) (cap := c3) (kk := .i64) (i := w64 ((s3.length : Int) - 1)) (by kernel_rfl) Try.underlying39 (by kernel_rfl) ((H4.rd 0 rfl).cell hx3).1 hx3l hx3u) ?_
                refine QRun_y (.int .i64 x5) (by kernel_rfl) (Y_load1 (t := 2) (p := adr a4 ((w64 ((s3.length : Int) - 1)).toNat * 1)) (v := .int .i64 x5) (by kernel_rfl) (fun w => by kernel_rfl) (cd2_cell (H4.rd 0 rfl) hx3)) ?_
                refine QRun_b [.int .i64 x4, .int .i64 x5] 12 _ (by kernel_rfl) (fun w => by kernel_rfl) ?_
                exact QRun_done [0, 3, 4, 5, 6] (by kernel_rfl) (by kernel_rfl)
              refine Run_seq ?_
              refine Run_seq ?_
              obtain ⟨x6, hx4, hB2⟩ := M.bind_some hB2
              obtain ⟨hx4l, hx4u, hx4⟩ := M.idx_some hx4
              obtain ⟨x7, hx5, hB2⟩ := M.bind_some hB2
              obtain ⟨hx5l, hx5u, hx5⟩ := M.idx_some hx5
              obtain ⟨x8, hx6, hB2⟩ := M.bind_some hB2
              obtain ⟨hx6l, hx6u, hx6⟩ := M.idx_some hx6
              obtain ⟨x9, hx7, hB2⟩ := M.bind_some hB2
              obtain ⟨hx7l, hx7u, hx7⟩ := M.idx_some hx7
              refine Run_draw 27 mixed (by kernel_rfl) (by kernel_rfl) (L' := [(0, .slice ac_ c_.length cc_), (3, .slice a4 s3.length c3), (4, .int .i64 i1), (60, .bool (decide ((w64 ((w64 (x8 - x9)) * (w64 (x5 - x4)))) < (w64 ((w64 (x6 - x7)) * (w64 (i1 - x5)))))))]) ?_ ?_
              · refine QRun_b [.slice ac_ c_.length cc_, .int .i64 x5] 0 _ (by kernel_rfl) (fun w => by kernel_rfl) ?_
                refine QRun_y (.pointer (some (adr ac_ (x5.toNat * 1)))) (by kernel_rfl) (Y_idx (t := 39) (e := 2) (sz := 1) (a := ac_) (n := c_.length) (cap := cc_) (kk := .i64) (i := x5) (by kernel_rfl) Try.underlying39 (by kernel_rfl) ((rc_.at H4.ext).cell hx4).1 hx4l hx4u) ?_
                refine QRun_y (.int .i64 x6) (by kernel_rfl) (Y_load1 (t := 2) (p := adr ac_ (x5.toNat * 1)) (v := .int .i64 x6) (by kernel_rfl) (fun w => by kernel_rfl) (cd2_cell (rc_.at H4.ext) hx4)) ?_
                refine QRun_b [.slice ac_ c_.length cc_, .int .i64 x4] 4 _ (by kernel_rfl) (fun w => by kernel_rfl) ?_
                refine QRun_y (.pointer (some (adr ac_ (x4.toNat * 1)))) (by kernel_rfl) (Y_idx (t := 39) (e := 2) (sz := 1) (a := ac_) (n := c_.length) (cap := cc_) (kk := .i64) (i := x4) (by kernel_rfl) Try.underlying39 (by kernel_rfl) ((rc_.at H4.ext).cell hx5).1 hx5l hx5u) ?_
                refine QRun_y (.int .i64 x7) (by kernel_rfl) (Y_load1 (t := 2) (p := adr ac_ (x4.toNat * 1)) (v := .int .i64 x7) (by kernel_rfl) (fun w => by kernel_rfl) (cd2_cell (rc_.at H4.ext) hx5)) ?_
                refine QRun_b [.int .i64 (w64 (x6 - x7)), .int .i64 i1, .int .i64 x5, .int .i64 (w64 (i1 - x5)), .int .i64 (w64 ((w64 (x6 - x7)) * (w64 (i1 - x5)))), .slice ac_ c_.length cc_, .int .i64 i1] 8 _ (by kernel_rfl) (fun w => by kernel_rfl) ?_
                refine QRun_y (.pointer (some (adr ac_ (i1.toNat * 1)))) (by kernel_rfl) (Y_idx (t := 39) (e := 2) (sz := 1) (a := ac_) (n := c_.length) (cap := cc_) (kk := .i64) (i := i1) (by kernel_rfl) Try.underlying39 (by kernel_rfl) ((rc_.at H4.ext).cell hx6).1 hx6l hx6u) ?_
                refine QRun_y (.int .i64 x8) (by kernel_rfl) (Y_load1 (t := 2) (p := adr ac_ (i1.toNat * 1)) (v := .int .i64 x8) (by kernel_rfl) (fun w => by kernel_rfl) (cd2_cell (rc_.at H4.ext) hx6)) ?_
                refine QRun_b [.slice ac_ c_.length cc_, .int .i64 x5] 17 _ (by kernel_rfl) (fun w => by kernel_rfl) ?_
                refine QRun_y (.pointer (some (adr ac_ (x5.toNat * 1)))) (by kernel_rfl) (Y_idx (t := 39) (e := 2) (sz := 1) (a := ac_) (n := c_.length) (cap := cc_) (kk := .i64) (i := x5) (by kernel_rfl) Try.underlying39 (by kernel_rfl) ((rc_.at H4.ext).cell hx7).1 hx7l hx7u) ?_
                refine QRun_y (.int .i64 x9) (by kernel_rfl) (Y_load1 (t := 2) (p := adr ac_ (x5.toNat * 1)) (v := .int .i64 x9) (by kernel_rfl) (fun w => by kernel_rfl) (cd2_cell (rc_.at H4.ext) hx7)) ?_
                refine QRun_b [.int .i64 (w64 (x8 - x9)), .int .i64 x5, .int .i64 x4, .int .i64 (w64 (x5 - x4)), .int .i64 (w64 ((w64 (x8 - x9)) * (w64 (x5 - x4)))), .bool (decide ((w64 ((w64 (x8 - x9)) * (w64 (x5 - x4)))) < (w64 ((w64 (x6 - x7)) * (w64 (i1 - x5))))))] 21 _ (by kernel_rfl) (fun w => by kernel_rfl) ?_
                exact QRun_done [0, 3, 4, 60] (by kernel_rfl) (by kernel_rfl)
              refine Run_cond (b := decide ((w64 ((w64 (x8 - x9)) * (w64 (x5 - x4)))) < (w64 ((w64 (x6 - x7)) * (w64 (i1 - x5)))))) (by kernel_rfl) (fun hb4 => ?_) (fun hb4 => ?_)
              · have hB2 := (M.ite_some hB2).1 hb4
                refine Run_exit (k' := _) rfl ?_
                have hB2 := M.ret_some hB2
                have gx3 := houty2 _ hB2.symm
                subst gx3
                exact Run_fall [0, 3, 4] (by kernel_rfl) ⟨a4, c3, rfl, H4⟩
              · have hB2 := (M.ite_some hB2).2 hb4
                refine Run_skip ?_
                obtain ⟨x10, hx8, hB2⟩ := M.bind_some hB2
                obtain ⟨hx8a, hx8b, hx8c, hx8d⟩ := M.sub_some hx8
                obtain ⟨H6, e1⟩ := H4.cut (w64 ((s3.length : Int) - 1)).toNat
                have hx8q : x10 = s3.take (w64 ((s3.length : Int) - 1)).toNat := by rw [hx8d]; rfl
                have H7 : Hold h h4 [own cd2 a4 x10.length c3 x10] := by rw [hx8q]; exact H6
                refine Run_reg 6 (by kernel_rfl) (L' := [(0, .slice ac_ c_.length cc_), (3, .slice a4 x10.length c3), (4, .int .i64 i1)]) ?_ ?_
                · refine QRun_b [.slice a4 s3.length c3, .slice a4 s3.length c3, .int .i64 (s3.length : Int), .int .i64 (w64 ((s3.length : Int) - 1))] 0 _ (by kernel_rfl) (fun w => by kernel_rfl) ?_
                  refine QRun_y (.slice a4 x10.length c3) (by kernel_rfl) (Y_eq (Y_slice (t := 39) (e := 2) (sz := 1) (a := a4) (n := s3.length) (cap := c3) (lo := none) (hi := (some (.i64, w64 ((s3.length : Int) - 1)))) (x := 0) (y := w64 ((s3.length : Int) - 1)) (by kernel_rfl) Try.underlying39 (by kernel_rfl) (H4.rd 0 rfl).fits rfl rfl hx8a hx8b hx8c) (by rw [show sliceA a4 c3 (0 : Int).toNat 1 = a4 from e1]; simp only [hx8q, List.length_take]; congr 1; omega)) ?_
                  refine QRun_b [.slice a4 x10.length c3] 5 _ (by kernel_rfl) (fun w => by kernel_rfl) ?_
                  exact QRun_done [0, 3, 4] (by kernel_rfl) (by kernel_rfl)
                refine Run_blk ?_
                have hB2 := M.ret_some hB2
                have gx3 := hgoy2 _ hB2.symm
                exact Run_again [0, 3, 4] (by kernel_rfl) my2 (Nat.lt_succ_self _) ⟨x10, a4, c3, gx3, rfl, H7⟩
            · have hB2 := (M.ite_some hB2).2 hb3
              refine Run_exit (k' := _) rfl ?_
              have hB2 := M.ret_some hB2
              have gx3 := houty2 _ hB2.symm
              subst gx3
              exact Run_fall [0, 3, 4] (by kernel_rfl) ⟨a4, c3, rfl, H4⟩
    · have gx1 := M.for_end gx1 hb1
      subst gx1
      refine Run_exit (k' := _) rfl ?_
      exact Run_fall [3] (by kernel_rfl) ⟨a2, c1, rfl, H2⟩

set_option maxRecDepth 100000 in
set_option maxHeartbeats 4000000 in
theorem w_spec_l02Bottom (h : Heap) (m_ : Int) (n_ : Int) (n : Nat) (r : (List (List Int))) (hF : spec_l02Bottom m_ n_ n = some r) :
    Fn Try.prog 84 #[.int .i64 m_, .int .i64 n_] h fun v h' => ∃ (a0 : Option Addr) (c0 : Nat), v = .slice a0 r.length c0 ∧ Hold h h' [own cd39 a0 r.length c0 r] := by
  unfold spec_l02Bottom at hF
  refine Fn_enter (args := [.int .i64 m_, .int .i64 n_]) Try.func84 rfl (by kernel_rfl) (by kernel_rfl) (fun w0 _ => ?_)
  have H0 := Hold.init h
  refine Run_seq ?_
  refine Run_reg 1 (by kernel_rfl) (L' := [(0, .int .i64 m_), (1, .int .i64 n_)]) ?_ ?_
  · refine QRun_b [.slice none 0 0] 0 _ (by kernel_rfl) (fun w => by kernel_rfl) ?_
    exact QRun_done [0, 1] (by kernel_rfl) (by kernel_rfl)
  refine Run_seq ?_
  refine Run_ops ?_
  refine Run_E (by kernel_rfl) ?_
  refine E_lit (C := cd39) (n := 0) (l := []) (cs := []) H0 (fun w => by kernel_rfl) (Enc.nil _ _) rfl (by decide) (fun a1 h1 H1 => ?_)
  refine Run_b [.slice a1 0 0] 1 _ (by kernel_rfl) (fun w => by kernel_rfl) ?_
  refine Run_nil (by kernel_rfl) ?_
  refine Run_keep [0, 1, 5] (L' := [(0, .int .i64 m_), (1, .int .i64 n_), (5, .slice a1 0 0)]) (by kernel_rfl) ?_
  refine Run_seq ?_
  refine Run_seq ?_
  refine Run_reg 1 (by kernel_rfl) (L' := [(0, .int .i64 m_), (1, .int .i64 n_), (5, .slice a1 0 0), (6, .int .i64 0)]) ?_ ?_
  · refine QRun_b [.int .i64 0] 0 _ (by kernel_rfl) (fun w => by kernel_rfl) ?_
    exact QRun_done [0, 1, 5, 6] (by kernel_rfl) (by kernel_rfl)
  obtain ⟨x1, gx1, hF⟩ := M.bind_some hF
  obtain ⟨hloy1, hhiy1, gx1⟩ := M.for_start gx1
  refine Run_join (fun L' h' => ∃ (a3 : Option Addr) (c2 : Nat), L' = [(5, .slice a3 x1.length c2)] ∧ Hold h h' [own cd39 a3 x1.length c2 x1]) ?_ ?_
  · rintro _ h3 ⟨a3, c2, rfl, H3⟩
    refine Run_seq ?_
    refine Run_reg 2 (by kernel_rfl) (L' := [(4, .slice a3 x1.length c2)]) ?_ ?_
    · refine QRun_b [.slice a3 x1.length c2, .slice a3 x1.length c2] 0 _ (by kernel_rfl) (fun w => by kernel_rfl) ?_
      exact QRun_done [4] (by kernel_rfl) (by kernel_rfl)
    have hF := M.ret_some hF
    subst hF
    exact Run_ret1 rfl (ResV_tmp (v := .slice a3 x1.length c2) (by kernel_rfl)) ⟨a3, c2, rfl, H3⟩
  · refine Run_block ?_
    have hn2 := (H1.len 0 rfl)
    have H23 : Hold h h1 [own cd39 a1 (([] : List (List Int)).length) 0 ([] : List (List Int))] := by rw [hn2]; exact H1
    refine Run_keep [0, 1, 5, 6] (L' := [(0, .int .i64 m_), (1, .int .i64 n_), (5, .slice a1 (([] : List (List Int)).length) 0), (6, .int .i64 0)]) (by first | (rw [hn2]; kernel_rfl) | (simp only [hn2]; kernel_rfl) | kernel_rfl) ?_
    refine Run_loop (fun m L' h' => ∃ (i1 : Int) (s1 : (List (List Int))) (a2 : Option Addr) (c1 : Nat), 0 ≤ i1 ∧ M.forN m_ _ _ n m i1 s1 = some x1 ∧ L' = [(0, .int .i64 m_), (1, .int .i64 n_), (5, .slice a2 s1.length c1), (6, .int .i64 i1)] ∧ Hold h h' [own cd39 a2 s1.length c1 s1]) (m_ - 0 : Int).toNat ⟨0, ([] : List (List Int)), a1, 0, Int.le_refl _, gx1, rfl, H23⟩ ?_
    rintro my1 _ h2 ⟨i1, s1, a2, c1, hloy1', gx1, rfl, H2⟩
    refine Run_seq ?_
    refine Run_seq ?_
    refine Run_reg 3 (by kernel_rfl) (L' := [(0, .int .i64 m_), (1, .int .i64 n_), (5, .slice a2 s1.length c1), (6, .int .i64 i1), (12, .bool (decide (i1 < m_)))]) ?_ ?_
    · refine QRun_b [.int .i64 i1, .int .i64 m_, .bool (decide (i1 < m_))] 0 _ (by kernel_rfl) (fun w => by kernel_rfl) ?_
      exact QRun_done [0, 1, 5, 6, 12] (by kernel_rfl) (by kernel_rfl)
    refine Run_cond (b := decide (i1 < m_)) (by kernel_rfl) (fun hb1 => ?_) (fun hb1 => ?_)
    · obtain ⟨my1, y1, rfl, hB1, hgoy1, houty1⟩ := M.for_go gx1 hb1
      have hlty1 := of_decide_eq_true hb1
      refine Run_skip ?_
      refine Run_seq ?_
      refine Run_block ?_
      refine Run_seq ?_
      refine Run_ops ?_
      refine Run_E (by kernel_rfl) ?_
      refine E_lit (C := cd2) (n := 0) (l := ([] : List Int)) (cs := []) H2 (fun w => by kernel_rfl) (Enc.nil _ _) rfl (by decide) (fun a4 h4 H4 => ?_)
      refine Run_b [.slice a4 0 0] 1 _ (by kernel_rfl) (fun w => by kernel_rfl) ?_
      refine Run_nil (by kernel_rfl) ?_
      refine Run_keep [0, 1, 5, 6, 7] (L' := [(0, .int .i64 m_), (1, .int .i64 n_), (5, .slice a2 s1.length c1), (6, .int .i64 i1), (7, .slice a4 0 0)]) (by kernel_rfl) ?_
      refine Run_seq ?_
      refine Run_seq ?_
      refine Run_reg 1 (by kernel_rfl) (L' := [(0, .int .i64 m_), (1, .int .i64 n_), (5, .slice a2 s1.length c1), (6, .int .i64 i1), (7, .slice a4 0 0), (8, .int .i64 0)]) ?_ ?_
      · refine QRun_b [.int .i64 0] 0 _ (by kernel_rfl) (fun w => by kernel_rfl) ?_
        exact QRun_done [0, 1, 5, 6, 7, 8] (by kernel_rfl) (by kernel_rfl)
      obtain ⟨x2, gx2, hB1⟩ := M.bind_some hB1
      obtain ⟨hloy2, hhiy2, gx2⟩ := M.for_start gx2
      refine Run_join (fun L' h' => ∃ (a6 : Option Addr) (c4 : Nat), L' = [(0, .int .i64 m_), (1, .int .i64 n_), (5, .slice a2 s1.length c1), (6, .int .i64 i1), (7, .slice a6 x2.length c4)] ∧ Hold h h' [own cd39 a2 s1.length c1 s1, own cd2 a6 x2.length c4 x2]) ?_ ?_
      · rintro _ h6 ⟨a6, c4, rfl, H6⟩
        refine Run_ops ?_
        refine Run_b [.slice a2 s1.length c1, .slice a6 x2.length c4] 0 _ (by kernel_rfl) (fun w => by kernel_rfl) ?_
        have H16 : Hold h h6 [own cd2 a6 x2.length c4 x2, own cd39 a2 s1.length c1 s1] := H6.pick [1, 0] (by kernel_rfl)
        refine Run_E (by kernel_rfl) ?_
        refine E_lit1 (ey := 39) (n := x2.length) H16 (fun w => by kernel_rfl) rfl (fun a9 h9 H15 => ?_)
        obtain ⟨l2, hl2, hB1⟩ := M.bind_some hB1
        have hl2 := M.app_some hl2
        have H17 : Hold h h9 [own cd39 a2 s1.length c1 s1, own cd39 a9 1 1 [x2]] := H15.pick [1, 0] (by kernel_rfl)
        have H18 : Hold h h9 [own cd39 a9 1 1 [x2], own cd39 a2 s1.length c1 s1] := H17.pick [1, 0] (by kernel_rfl)
        have H19 : Hold h h9 [own cd39 a2 s1.length c1 s1, own cd39 a9 1 1 [x2]] := H18.pick [1, 0] (by kernel_rfl)
        refine Run_E (by kernel_rfl) ?_
        refine E_app (C := cd39) (t := 37) (ty := 37) (n := s1.length) (m := 1) H19 cd39_ti rfl Try.underlying37 (by decide) (by kernel_rfl) hl2 (fun a10 c6 h10 H20 => ?_)
        refine Run_b [.slice a10 l2.length c6] 4 _ (by kernel_rfl) (fun w => by kernel_rfl) ?_
        refine Run_nil (by kernel_rfl) ?_
        refine Run_keep [0, 1, 5, 6] (L' := [(0, .int .i64 m_), (1, .int .i64 n_), (5, .slice a10 l2.length c6), (6, .int .i64 i1)]) (by kernel_rfl) ?_
        refine Run_blk ?_
        refine Run_reg 3 (by kernel_rfl) (L' := [(0, .int .i64 m_), (1, .int .i64 n_), (5, .slice a10 l2.length c6), (6, .int .i64 (i1 + 1))]) ?_ ?_
        · refine QRun_b [.int .i64 i1] 0 _ (by kernel_rfl) (fun w => by kernel_rfl) ?_
          refine QRun_y (.int .i64 (i1 + 1)) (by kernel_rfl) (Y_eq (v := .int .i64 (w64 (i1 + 1))) (Y_pure (fun w => by kernel_rfl)) (by rw [w64_eq _ (by omega)])) ?_
          refine QRun_b [.int .i64 (i1 + 1)] 2 _ (by kernel_rfl) (fun w => by kernel_rfl) ?_
          exact QRun_done [0, 1, 5, 6] (by kernel_rfl) (by kernel_rfl)
        have hB1 := M.ret_some hB1
        have gx1 := hgoy1 _ hB1.symm
        exact Run_again [0, 1, 5, 6] (by kernel_rfl) my1 (Nat.lt_succ_self _) ⟨i1 + 1, l2, a10, c6, by omega, gx1, rfl, H20⟩
      · refine Run_block ?_
        have hn1 := (H4.len 0 rfl)
        have H21 : Hold h h4 [own cd2 a4 (([] : List Int).length) 0 ([] : List Int), own cd39 a2 s1.length c1 s1] := by rw [hn1]; exact H4
        have H22 : Hold h h4 [own cd39 a2 s1.length c1 s1, own cd2 a4 (([] : List Int).length) 0 ([] : List Int)] := H21.pick [1, 0] (by kernel_rfl)
        refine Run_keep [0, 1, 5, 6, 7, 8] (L' := [(0, .int .i64 m_), (1, .int .i64 n_), (5, .slice a2 s1.length c1), (6, .int .i64 i1), (7, .slice a4 (([] : List Int).length) 0), (8, .int .i64 0)]) (by first | (rw [hn1]; kernel_rfl) | (simp only [hn1]; kernel_rfl) | kernel_rfl) ?_
        refine Run_loop (fun m L' h' => ∃ (i2 : Int) (s2 : (List Int)) (a5 : Option Addr) (c3 : Nat), 0 ≤ i2 ∧ M.forN n_ _ _ n m i2 s2 = some x2 ∧ L' = [(0, .int .i64 m_), (1, .int .i64 n_), (5, .slice a2 s1.length c1), (6, .int .i64 i1), (7, .slice a5 s2.length c3), (8, .int .i64 i2)] ∧ Hold h h' [own cd39 a2 s1.length c1 s1, own cd2 a5 s2.length c3 s2]) (n_ - 0 : Int).toNat ⟨0, ([] : List Int), a4, 0, Int.le_refl _, gx2, rfl, H22⟩ ?_
        rintro my2 _ h5 ⟨i2, s2, a5, c3, hloy2', gx2, rfl, H5⟩
        refine Run_seq ?_
        refine Run_seq ?_
        refine Run_reg 3 (by kernel_rfl) (L' := [(0, .int .i64 m_), (1, .int .i64 n_), (5, .slice a2 s1.length c1), (6, .int .i64 i1), (7, .slice a5 s2.length c3), (8, .int .i64 i2), (18, .bool (decide (i2 < n_)))]) ?_ ?_
        · refine QRun_b [.int .i64 i2, .int .i64 n_, .bool (decide (i2 < n_))] 0 _ (by kernel_rfl) (fun w => by kernel_rfl) ?_
          exact QRun_done [0, 1, 5, 6, 7, 8, 18] (by kernel_rfl) (by kernel_rfl)
        refine Run_cond (b := decide (i2 < n_)) (by kernel_rfl) (fun hb2 => ?_) (fun hb2 => ?_)
        · obtain ⟨my2, y2, rfl, hB2, hgoy2, houty2⟩ := M.for_go gx2 hb2
          have hlty2 := of_decide_eq_true hb2
          refine Run_skip ?_
          refine Run_seq ?_
          refine Run_block ?_
          refine Run_ops ?_
          refine Run_b [.slice a5 s2.length c3] 0 _ (by kernel_rfl) (fun w => by kernel_rfl) ?_
          refine Run_E (by kernel_rfl) ?_
          refine E_lit (C := cd2) (n := 1) (l := ([(-1000000000000000)] : List Int)) (cs := [.int .i64 (-1000000000000000)]) H5 (fun w => by kernel_rfl) (Enc.consE (cd2_own (-1000000000000000) _) (Enc.nil _ _) rfl) rfl (by decide) (fun a7 h7 H7 => ?_)
          obtain ⟨l1, hl1, hB2⟩ := M.bind_some hB2
          have hl1 := M.app_some hl1
          have H8 : Hold h h7 [own cd2 a5 s2.length c3 s2, own cd2 a7 1 1 ([(-1000000000000000)] : List Int), own cd39 a2 s1.length c1 s1] := H7.pick [2, 0, 1] (by kernel_rfl)
          have H9 : Hold h h7 [own cd2 a7 1 1 ([(-1000000000000000)] : List Int), own cd2 a5 s2.length c3 s2, own cd39 a2 s1.length c1 s1] := H8.pick [1, 0, 2] (by kernel_rfl)
          have H10 : Hold h h7 [own cd2 a5 s2.length c3 s2, own cd2 a7 1 1 ([(-1000000000000000)] : List Int), own cd39 a2 s1.length c1 s1] := H9.pick [1, 0, 2] (by kernel_rfl)
          refine Run_E (by kernel_rfl) ?_
          refine E_app (C := cd2) (t := 39) (ty := 39) (n := s2.length) (m := 1) H10 cd2_ti rfl Try.underlying39 (by decide) (by kernel_rfl) hl1 (fun a8 c5 h8 H11 => ?_)
          refine Run_b [.slice a8 l1.length c5] 3 _ (by kernel_rfl) (fun w => by kernel_rfl) ?_
          refine Run_nil (by kernel_rfl) ?_
          refine Run_keep [0, 1, 5, 6, 7, 8] (L' := [(0, .int .i64 m_), (1, .int .i64 n_), (5, .slice a2 s1.length c1), (6, .int .i64 i1), (7, .slice a8 l1.length c5), (8, .int .i64 i2)]) (by kernel_rfl) ?_
          refine Run_blk ?_
          refine Run_reg 3 (by kernel_rfl) (L' := [(0, .int .i64 m_), (1, .int .i64 n_), (5, .slice a2 s1.length c1), (6, .int .i64 i1), (7, .slice a8 l1.length c5), (8, .int .i64 (i2 + 1))]) ?_ ?_
          · refine QRun_b [.int .i64 i2] 0 _ (by kernel_rfl) (fun w => by kernel_rfl) ?_
            refine QRun_y (.int .i64 (i2 + 1)) (by kernel_rfl) (Y_eq (v := .int .i64 (w64 (i2 + 1))) (Y_pure (fun w => by kernel_rfl)) (by rw [w64_eq _ (by omega)])) ?_
            refine QRun_b [.int .i64 (i2 + 1)] 2 _ (by kernel_rfl) (fun w => by kernel_rfl) ?_
            exact QRun_done [0, 1, 5, 6, 7, 8] (by kernel_rfl) (by kernel_rfl)
          have H12 : Hold h h8 [own cd39 a2 s1.length c1 s1, own cd2 a8 l1.length c5 l1] := H11.pick [1, 0] (by kernel_rfl)
          have hB2 := M.ret_some hB2
          have gx2 := hgoy2 _ hB2.symm
          exact Run_again [0, 1, 5, 6, 7, 8] (by kernel_rfl) my2 (Nat.lt_succ_self _) ⟨i2 + 1, l1, a8, c5, by omega, gx2, rfl, H12⟩
        · have gx2 := M.for_end gx2 hb2
          subst gx2
          refine Run_exit (k' := _) rfl ?_
          have H13 : Hold h h5 [own cd2 a5 s2.length c3 s2, own cd39 a2 s1.length c1 s1] := H5.pick [1, 0] (by kernel_rfl)
          have H14 : Hold h h5 [own cd39 a2 s1.length c1 s1, own cd2 a5 s2.length c3 s2] := H13.pick [1, 0] (by kernel_rfl)
          exact Run_fall [0, 1, 5, 6, 7] (by kernel_rfl) ⟨a5, c3, rfl, H14⟩
    · have gx1 := M.for_end gx1 hb1
      subst gx1
      refine Run_exit (k' := _) rfl ?_
      exact Run_fall [5] (by kernel_rfl) ⟨a2, c1, rfl, H2⟩

set_option maxRecDepth 100000 in
set_option maxHeartbeats 4000000 in
theorem w_spec_l01Floor (h : Heap) (a_ : Int) (b : Int) (n : Nat) (r : Int) (hF : spec_l01Floor a_ b n = some r) :
    Fn Try.prog 183 #[.int .i64 a_, .int .i64 b] h fun v h' => v = .int .i64 r ∧ h' = h := by
  unfold spec_l01Floor at hF
  refine Fn_enter (args := [.int .i64 a_, .int .i64 b]) Try.func183 rfl (by kernel_rfl) (by kernel_rfl) (fun w0 _ => ?_)
  refine Run_seq ?_
  refine Run_reg 1 (by kernel_rfl) (L' := [(0, .int .i64 a_), (1, .int .i64 b)]) ?_ ?_
  · refine QRun_b [.int .i64 0] 0 _ (by kernel_rfl) (fun w => by kernel_rfl) ?_
    exact QRun_done [0, 1] (by kernel_rfl) (by kernel_rfl)
  refine Run_seq ?_
  obtain ⟨u1, hz1, hF⟩ := M.bind_some hF
  have hz1 := M.guard_some hz1
  refine Run_reg 4 (by kernel_rfl) (L' := [(0, .int .i64 a_), (1, .int .i64 b), (5, .int .i64 (w64 (a_.tdiv b)))]) ?_ ?_
  · refine QRun_b [.int .i64 a_, .int .i64 b] 0 _ (by kernel_rfl) (fun w => by kernel_rfl) ?_
    refine QRun_y (.int .i64 (w64 (a_.tdiv b))) (by kernel_rfl) (Y_quo (op := .quo) (k := .i64) (x := a_) (y := b) (by kernel_rfl) hz1) ?_
    refine QRun_b [.int .i64 (w64 (a_.tdiv b))] 3 _ (by kernel_rfl) (fun w => by kernel_rfl) ?_
    exact QRun_done [0, 1, 5] (by kernel_rfl) (by kernel_rfl)
  refine Run_seq ?_
  refine Run_seq ?_
  obtain ⟨u2, hz2, hF⟩ := M.bind_some hF
  have hz2 := M.guard_some hz2
  refine Run_reg 4 (by kernel_rfl) (L' := [(5, .int .i64 (w64 (a_.tdiv b))), (12, .bool (decide ((a_.tmod b) < 0)))]) ?_ ?_
  · refine QRun_b [.int .i64 a_, .int .i64 b] 0 _ (by kernel_rfl) (fun w => by kernel_rfl) ?_
    refine QRun_y (.int .i64 (a_.tmod b)) (by kernel_rfl) (Y_rem (op := .rem) (k := .i64) (x := a_) (y := b) (by kernel_rfl) hz2) ?_
    refine QRun_b [.bool (decide ((a_.tmod b) < 0))] 3 _ (by kernel_rfl) (fun w => by kernel_rfl) ?_
    exact QRun_done [5, 12] (by kernel_rfl) (by kernel_rfl)
  obtain ⟨s1, gs1, hF⟩ := M.bind_some hF
  refine Run_join (fun L' h' => L' = [(5, .int .i64 s1)] ∧ h = h') ?_ ?_
  · rintro _ _ ⟨rfl, rfl⟩
    refine Run_seq ?_
    refine Run_reg 2 (by kernel_rfl) (L' := [(4, .int .i64 s1)]) ?_ ?_
    · refine QRun_b [.int .i64 s1, .int .i64 s1] 0 _ (by kernel_rfl) (fun w => by kernel_rfl) ?_
      exact QRun_done [4] (by kernel_rfl) (by kernel_rfl)
    have hF := M.ret_some hF
    subst hF
    exact Run_ret1 rfl (ResV_tmp (v := .int .i64 s1) (by kernel_rfl)) ⟨rfl, rfl⟩
  · refine Run_cond (b := decide ((a_.tmod b) < 0)) (by kernel_rfl) (fun hb1 => ?_) (fun hb1 => ?_)
    · have gs1 := (M.ite_some gs1).1 hb1
      refine Run_reg 3 (by kernel_rfl) (L' := [(5, .int .i64 (w64 ((w64 (a_.tdiv b)) - 1)))]) ?_ ?_
      · refine QRun_b [.int .i64 (w64 (a_.tdiv b)), .int .i64 (w64 ((w64 (a_.tdiv b)) - 1)), .int .i64 (w64 ((w64 (a_.tdiv b)) - 1))] 0 _ (by kernel_rfl) (fun w => by kernel_rfl) ?_
        exact QRun_done [5] (by kernel_rfl) (by kernel_rfl)
      have gs1 := M.ret_some gs1
      subst gs1
      exact Run_fall [5] (by kernel_rfl) ⟨rfl, rfl⟩
    · have gs1 := (M.ite_some gs1).2 hb1
      refine Run_skip ?_
      have gs1 := M.ret_some gs1
      subst gs1
      exact Run_fall [5] (by kernel_rfl) ⟨rfl, rfl⟩

set_option maxRecDepth 100000 in
set_option maxHeartbeats 4000000 in
theorem w_spec_FullPolynomial (h : Heap) (c_ : List Int) (ac_ : Option Addr) (cc_ : Nat) (rc_ : Rd cd2 h (Lt h) ac_ cc_ c_) (n : Nat) (r : (List Int) × Int) (hF : spec_FullPolynomial c_ n = some r) :
    Fn Try.prog 162 #[.slice ac_ c_.length cc_] h fun v h' => ∃ (a0 : Option Addr) (c0 : Nat), v = .tuple #[.slice a0 r.1.length c0, .int .i64 r.2] ∧ Hold h h' [own cd2 a0 r.1.length c0 r.1] := by
  unfold spec_FullPolynomial at hF
  refine Fn_enter (args := [.slice ac_ c_.length cc_]) Try.func162 rfl (by kernel_rfl) (by kernel_rfl) (fun w0 _ => ?_)
  have H0 := Hold.init h
  refine Run_seq ?_
  refine Run_reg 2 (by kernel_rfl) (L' := [(0, .slice ac_ c_.length cc_)]) ?_ ?_
  · refine QRun_b [.slice none 0 0, .int .i64 0] 0 _ (by kernel_rfl) (fun w => by kernel_rfl) ?_
    exact QRun_done [0] (by kernel_rfl) (by kernel_rfl)
  refine Run_seq ?_
  refine Run_seq ?_
  obtain ⟨x1, hx1, hF⟩ := M.bind_some hF
  refine Run_reg 3 (by kernel_rfl) (L' := [(0, .slice ac_ c_.length cc_), (12, .bool (!x1))]) ?_ ?_
  · refine QRun_b [.slice ac_ c_.length cc_] 0 _ (by kernel_rfl) (fun w => by kernel_rfl) ?_
    refine QRun_y (.bool x1) (by kernel_rfl) (Y_callq (f := 116) (args := #[.slice ac_ c_.length cc_]) (v := .bool x1) (by kernel_rfl) (w_spec_IsPolynomial h c_ ac_ cc_ rc_ _ _ hx1)) ?_
    refine QRun_b [.bool (!x1)] 2 _ (by kernel_rfl) (fun w => by kernel_rfl) ?_
    exact QRun_done [0, 12] (by kernel_rfl) (by kernel_rfl)
  refine Run_cond (b := !x1) (by kernel_rfl) (fun hb1 => ?_) (fun hb1 => ?_)
  · have hF := (M.ite_some hF).1 hb1
    refine Run_seq ?_
    refine Run_reg 2 (by kernel_rfl) (L' := [(2, .slice none 0 0), (3, .int .i64 1)]) ?_ ?_
    · refine QRun_b [.slice none 0 0, .int .i64 1] 0 _ (by kernel_rfl) (fun w => by kernel_rfl) ?_
      exact QRun_done [2, 3] (by kernel_rfl) (by kernel_rfl)
    have hF := M.ret_some hF
    subst hF
    have H1 := H0.empty cd2
    exact Run_ret2 rfl (ResV_tmp (v := .slice none 0 0) (by kernel_rfl)) (ResV_tmp (v := .int .i64 1) (by kernel_rfl)) ⟨none, 0, rfl, H1⟩
  · have hF := (M.ite_some hF).2 hb1
    refine Run_skip ?_
    refine Run_seq ?_
    refine Run_ops ?_
    refine Run_b [.slice ac_ c_.length cc_] 0 _ (by kernel_rfl) (fun w => by kernel_rfl) ?_
    obtain ⟨x2, hx2, hF⟩ := M.bind_some hF
    refine Run_E (by kernel_rfl) ?_
    refine E_call (f := 122) (args := #[.slice ac_ c_.length cc_]) (w_spec_l09Terms h c_ ac_ cc_ rc_ _ _ hx2) (by kernel_rfl) (fun v1 h1 hp1 => ?_)
    obtain ⟨a1, c1, rfl, H2⟩ := hp1
    have H3 : Hold h h1 [own cd2 a1 x2.length c1 x2] := H0.call H2 rfl
    refine Run_b [.slice a1 x2.length c1] 2 _ (by kernel_rfl) (fun w => by kernel_rfl) ?_
    refine Run_nil (by kernel_rfl) ?_
    refine Run_keep [0, 4] (L' := [(0, .slice ac_ c_.length cc_), (4, .slice a1 x2.length c1)]) (by kernel_rfl) ?_
    refine Run_seq ?_
    refine Run_ops ?_
    refine Run_b [.slice ac_ c_.length cc_, .int .i64 (c_.length : Int)] 0 _ (by kernel_rfl) (fun w => by kernel_rfl) ?_
    obtain ⟨x3, hx3, hF⟩ := M.bind_some hF
    refine Run_E (by kernel_rfl) ?_
    refine E_call (f := 84) (args := #[.int .i64 1, .int .i64 (c_.length : Int)]) (w_spec_l02Bottom h1 1 (c_.length : Int) _ _ hx3) (by kernel_rfl) (fun v2 h2 hp2 => ?_)
    obtain ⟨a2, c2, rfl, H4⟩ := hp2
    have H5 : Hold h h2 [own cd39 a2 x3.length c2 x3, own cd2 a1 x2.length c1 x2] := H3.call H4 rfl
    obtain ⟨x4, hx4, hF⟩ := M.bind_some hF
    obtain ⟨hx4l, hx4u, hx4⟩ := M.idx_some hx4
    obtain ⟨a3, c3, hc1, H6⟩ := H5.takeRow hx4
    refine Run_y (.pointer (some (adr a2 (0 * 1)))) (by kernel_rfl) (Y_idx (t := 37) (e := 39) (sz := 1) (a := a2) (n := x3.length) (cap := c2) (kk := .i64) (i := 0) (by kernel_rfl) Try.underlying37 (by kernel_rfl) ((H5.rd 0 rfl).cell hx4).1 hx4l hx4u) ?_
    refine Run_y (.slice a3 x4.length c3) (by kernel_rfl) (Y_load1 (t := 39) (p := adr a2 (0 * 1)) (v := .slice a3 x4.length c3) (by kernel_rfl) (fun w => by kernel_rfl) hc1) ?_
    refine Run_b [.slice a3 x4.length c3] 5 _ (by kernel_rfl) (fun w => by kernel_rfl) ?_
    refine Run_nil (by kernel_rfl) ?_
    refine Run_keep [0, 4, 5] (L' := [(0, .slice ac_ c_.length cc_), (4, .slice a1 x2.length c1), (5, .slice a3 x4.length c3)]) (by kernel_rfl) ?_
    refine Run_seq ?_
    obtain ⟨x5, hx5, hF⟩ := M.bind_some hF
    obtain ⟨hx5l, hx5u, hx5⟩ := M.idx_some hx5
    obtain ⟨x6, hx6, hF⟩ := M.bind_some hF
    obtain ⟨hx6l, hx6u, hx6⟩ := M.idx_some hx6
    obtain ⟨x7, hx7, hF⟩ := M.bind_some hF
    obtain ⟨hx7l, hx7u, hx7⟩ := M.idx_some hx7
    obtain ⟨x8, hx8, hF⟩ := M.bind_some hF
    obtain ⟨hx8l, hx8u, hx8⟩ := M.idx_some hx8
    refine Run_D (fun x => Hold h x [own cd2 a3 x4.length c3 x4, rest cd2 39 a2 x3.length c2 x3 0 a3 x4.length c3, own cd2 a1 x2.length c1 x2]) (fun x => Hold h x [own cd2 a3 x4.length c3 x4, rest cd2 39 a2 x3.length c2 x3 0 a3 x4.length c3, own cd2 a1 x2.length c1 x2]) mixed (by kernel_rfl) H6 Hold.stable (fun x Hy => (show Hold h x [own cd2 a3 x4.length c3 x4, rest cd2 39 a2 x3.length c2 x3 0 a3 x4.length c3, own cd2 a1 x2.length c1 x2] from Hy).pick [0, 1, 2] (by kernel_rfl)) ?_
    refine DR_b 10 [.slice a3 x4.length c3, .slice a1 x2.length c1] 0 (by kernel_rfl) (by kernel_rfl) (by kernel_rfl) (fun w => by kernel_rfl) ?_
    refine DR_y 9 (i := 2) (.pointer (some (adr a1 (0 * 1)))) (by kernel_rfl) (by kernel_rfl) (by kernel_rfl) (fun hx Hx => (YE.of (Y_idx (t := 39) (e := 2) (sz := 1) (a := a1) (n := x2.length) (cap := c1) (kk := .i64) (i := 0) (by kernel_rfl) Try.underlying39 (by kernel_rfl) ((H6.rd 2 rfl).cell hx5).1 hx5l hx5u))) ?_
    refine DR_y 8 (i := 3) (.int .i64 x5) (by kernel_rfl) (by kernel_rfl) (by kernel_rfl) (fun hx Hx => (YE.of (Y_load1 (t := 2) (p := adr a1 (0 * 1)) (v := .int .i64 x5) (by kernel_rfl) (fun w => by kernel_rfl) (cd2_cell (Hx.rd 2 rfl) hx5)))) ?_
    refine DR_b 6 [.slice ac_ c_.length cc_, .slice a1 x2.length c1] 4 (by kernel_rfl) (by kernel_rfl) (by kernel_rfl) (fun w => by kernel_rfl) ?_
    refine DR_y 5 (i := 6) (.pointer (some (adr a1 (0 * 1)))) (by kernel_rfl) (by kernel_rfl) (by kernel_rfl) (fun hx Hx => (YE.of (Y_idx (t := 39) (e := 2) (sz := 1) (a := a1) (n := x2.length) (cap := c1) (kk := .i64) (i := 0) (by kernel_rfl) Try.underlying39 (by kernel_rfl) ((H6.rd 2 rfl).cell hx6).1 hx6l hx6u))) ?_
    refine DR_y 4 (i := 7) (.int .i64 x6) (by kernel_rfl) (by kernel_rfl) (by kernel_rfl) (fun hx Hx => (YE.of (Y_load1 (t := 2) (p := adr a1 (0 * 1)) (v := .int .i64 x6) (by kernel_rfl) (fun w => by kernel_rfl) (cd2_cell (Hx.rd 2 rfl) hx6)))) ?_
    refine DR_y 3 (i := 8) (.pointer (some (adr ac_ (x6.toNat * 1)))) (by kernel_rfl) (by kernel_rfl) (by kernel_rfl) (fun hx Hx => (YE.of (Y_idx (t := 39) (e := 2) (sz := 1) (a := ac_) (n := c_.length) (cap := cc_) (kk := .i64) (i := x6) (by kernel_rfl) Try.underlying39 (by kernel_rfl) ((rc_.at H6.ext).cell hx7).1 hx7l hx7u))) ?_
    refine DR_y 2 (i := 9) (.int .i64 x7) (by kernel_rfl) (by kernel_rfl) (by kernel_rfl) (fun hx Hx => (YE.of (Y_load1 (t := 2) (p := adr ac_ (x6.toNat * 1)) (v := .int .i64 x7) (by kernel_rfl) (fun w => by kernel_rfl) (cd2_cell (rc_.at Hx.ext) hx7)))) ?_
    refine DR_y 1 (i := 10) (.pointer (some (adr a3 (x5.toNat * 1)))) (by kernel_rfl) (by kernel_rfl) (by kernel_rfl) (fun hx Hx => (YE.of (Y_idx (t := 39) (e := 2) (sz := 1) (a := a3) (n := x4.length) (cap := c3) (kk := .i64) (i := x5) (by kernel_rfl) Try.underlying39 (by kernel_rfl) ((H6.rd 0 rfl).cell hx8).1 hx8l hx8u))) ?_
    refine DR_tail (i := 11) (by kernel_rfl) (by kernel_rfl) (by kernel_rfl) (fun h3 H7 => ?_)
    have H8 : Hold h h3 [own cd2 a3 x4.length c3 x4, rest cd2 39 a2 x3.length c2 x3 0 a3 x4.length c3, own cd2 a1 x2.length c1 x2] := H7
    obtain ⟨l1, hu1, hF⟩ := M.bind_some hF
    have hu1 := M.upd_some hu1
    refine Run_E (by kernel_rfl) ?_
    refine E_put (C := cd2) (t := 2) (sz := 1) (j := x5) (x := x7) (v := .int .i64 x7) H8 cd2_flat (by kernel_rfl) rfl (cd2_own _) (by kernel_rfl) hu1 (fun h4 H9 => ?_)
    refine Run_nil (by kernel_rfl) ?_
    refine Run_keep [0, 4, 5] (L' := [(0, .slice ac_ c_.length cc_), (4, .slice a1 x2.length c1), (5, .slice a3 x4.length c3)]) (by kernel_rfl) ?_
    refine Run_seq ?_
    refine Run_seq ?_
    refine Run_reg 1 (by kernel_rfl) (L' := [(0, .slice ac_ c_.length cc_), (4, .slice a1 x2.length c1), (5, .slice a3 x4.length c3), (6, .int .i64 1)]) ?_ ?_
    · refine QRun_b [.int .i64 1] 0 _ (by kernel_rfl) (fun w => by kernel_rfl) ?_
      exact QRun_done [0, 4, 5, 6] (by kernel_rfl) (by kernel_rfl)
    obtain ⟨x9, gx9, hF⟩ := M.bind_some hF
    obtain ⟨hloy1, hhiy1, gx9⟩ := M.for_start gx9
    refine Run_join (fun L' h' => L' = [(5, .slice a3 x4.length c3)] ∧ Hold h h' [own cd2 a3 x4.length c3 x9]) ?_ ?_
    · rintro _ h6 ⟨rfl, H11⟩
      refine Run_seq ?_
      refine Run_reg 3 (by kernel_rfl) (L' := [(2, .slice a3 x4.length c3), (3, .int .i64 0)]) ?_ ?_
      · refine QRun_b [.slice a3 x4.length c3, .slice a3 x4.length c3, .int .i64 0] 0 _ (by kernel_rfl) (fun w => by kernel_rfl) ?_
        exact QRun_done [2, 3] (by kernel_rfl) (by kernel_rfl)
      have hF := M.ret_some hF
      subst hF
      have H20 := H11.norm
      exact Run_ret2 rfl (ResV_tmp (v := .slice a3 x4.length c3) (by kernel_rfl)) (ResV_tmp (v := .int .i64 0) (by kernel_rfl)) ⟨a3, c3, (by simp only [(H11.len 0 rfl)]), H20⟩
    · refine Run_block ?_
      have H21 : Hold h h4 [own cd2 a1 x2.length c1 x2, own cd2 a3 x4.length c3 l1] := H9.pick [2, 0] (by kernel_rfl)
      refine Run_keep [0, 4, 5, 6] (L' := [(0, .slice ac_ c_.length cc_), (4, .slice a1 x2.length c1), (5, .slice a3 x4.length c3), (6, .int .i64 1)]) (by kernel_rfl) ?_
      refine Run_loop (fun m L' h' => ∃ (i1 : Int) (s1 : (List Int)), 1 ≤ i1 ∧ M.forN (x2.length : Int) _ _ n m i1 s1 = some x9 ∧ L' = [(0, .slice ac_ c_.length cc_), (4, .slice a1 x2.length c1), (5, .slice a3 x4.length c3), (6, .int .i64 i1)] ∧ Hold h h' [own cd2 a1 x2.length c1 x2, own cd2 a3 x4.length c3 s1]) ((x2.length : Int) - 1 : Int).toNat ⟨1, l1, Int.le_refl _, gx9, rfl, H21⟩ ?_
      rintro my1 _ h5 ⟨i1, s1, hloy1', gx9, rfl, H10⟩
      refine Run_seq ?_
      refine Run_seq ?_
      refine Run_reg 4 (by kernel_rfl) (L' := [(0, .slice ac_ c_.length cc_), (4, .slice a1 x2.length c1), (5, .slice a3 x4.length c3), (6, .int .i64 i1), (34, .bool (decide (i1 < (x2.length : Int))))]) ?_ ?_
      · refine QRun_b [.int .i64 i1, .slice a1 x2.length c1, .int .i64 (x2.length : Int), .bool (decide (i1 < (x2.length : Int)))] 0 _ (by kernel_rfl) (fun w => by kernel_rfl) ?_
        exact QRun_done [0, 4, 5, 6, 34] (by kernel_rfl) (by kernel_rfl)
      refine Run_cond (b := decide (i1 < (x2.length : Int))) (by kernel_rfl) (fun hb2 => ?_) (fun hb2 => ?_)
      · obtain ⟨my1, y1, rfl, hB1, hgoy1, houty1⟩ := M.for_go gx9 hb2
        have hlty1 := of_decide_eq_true hb2
        refine Run_skip ?_
        refine Run_seq ?_
        refine Run_block ?_
        refine Run_seq ?_
        obtain ⟨x10, hx9, hB1⟩ := M.bind_some hB1
        obtain ⟨hx9l, hx9u, hx9⟩ := M.idx_some hx9
        obtain ⟨x11, hx10, hB1⟩ := M.bind_some hB1
        obtain ⟨hx10l, hx10u, hx10⟩ := M.idx_some hx10
        refine Run_draw 11 mixed (by kernel_rfl) (by kernel_rfl) (L' := [(0, .slice ac_ c_.length cc_), (4, .slice a1 x2.length c1), (5, .slice a3 x4.length c3), (6, .int .i64 i1), (7, .int .i64 x10), (8, .int .i64 x11)]) ?_ ?_
        · refine QRun_b [.slice a1 x2.length c1, .int .i64 i1, .int .i64 (w64 (i1 - 1))] 0 _ (by kernel_rfl) (fun w => by kernel_rfl) ?_
          refine QRun_y (.pointer (some (adr a1 ((w64 (i1 - 1)).toNat * 1)))) (by kernel_rfl) (Y_idx (t := 39) (e := 2) (sz := 1) (a := a1) (n := x2.length) (cap := c1) (kk := .i64) (i := w64 (i1 - 1)) (by kernel_rfl) Try.underlying39 (by kernel_rfl) ((H10.rd 0 rfl).cell hx9).1 hx9l hx9u) ?_
          refine QRun_y (.int .i64 x10) (by kernel_rfl) (Y_load1 (t := 2) (p := adr a1 ((w64 (i1 - 1)).toNat * 1)) (v := .int .i64 x10) (by kernel_rfl) (fun w => by kernel_rfl) (cd2_cell (H10.rd 0 rfl) hx9)) ?_
          refine QRun_b [.slice a1 x2.length c1, .int .i64 i1] 5 _ (by kernel_rfl) (fun w => by kernel_rfl) ?_
          refine QRun_y (.pointer (some (adr a1 (i1.toNat * 1)))) (by kernel_rfl) (Y_idx (t := 39) (e := 2) (sz := 1) (a := a1) (n := x2.length) (cap := c1) (kk := .i64) (i := i1) (by kernel_rfl) Try.underlying39 (by kernel_rfl) ((H10.rd 0 rfl).cell hx10).1 hx10l hx10u) ?_
          refine QRun_y (.int .i64 x11) (by kernel_rfl) (Y_load1 (t := 2) (p := adr a1 (i1.toNat * 1)) (v := .int .i64 x11) (by kernel_rfl) (fun w => by kernel_rfl) (cd2_cell (H10.rd 0 rfl) hx10)) ?_
          refine QRun_b [.int .i64 x10, .int .i64 x11] 9 _ (by kernel_rfl) (fun w => by kernel_rfl) ?_
          exact QRun_done [0, 4, 5, 6, 7, 8] (by kernel_rfl) (by kernel_rfl)
        refine Run_seq ?_
        refine Run_reg 3 (by kernel_rfl) (L' := [(0, .slice ac_ c_.length cc_), (4, .slice a1 x2.length c1), (5, .slice a3 x4.length c3), (6, .int .i64 i1), (7, .int .i64 x10), (8, .int .i64 x11), (9, .int .i64 (w64 (x10 + 1)))]) ?_ ?_
        · refine QRun_b [.int .i64 x10, .int .i64 (w64 (x10 + 1)), .int .i64 (w64 (x10 + 1))] 0 _ (by kernel_rfl) (fun w => by kernel_rfl) ?_
          exact QRun_done [0, 4, 5, 6, 7, 8, 9] (by kernel_rfl) (by kernel_rfl)
        obtain ⟨x12, gx12, hB1⟩ := M.bind_some hB1
        refine Run_join (fun L' h' => L' = [(0, .slice ac_ c_.length cc_), (4, .slice a1 x2.length c1), (5, .slice a3 x4.length c3), (6, .int .i64 i1)] ∧ Hold h h' [own cd2 a1 x2.length c1 x2, own cd2 a3 x4.length c3 x12.1]) ?_ ?_
        · rintro _ h8 ⟨rfl, H13⟩
          refine Run_blk ?_
          refine Run_reg 3 (by kernel_rfl) (L' := [(0, .slice ac_ c_.length cc_), (4, .slice a1 x2.length c1), (5, .slice a3 x4.length c3), (6, .int .i64 (i1 + 1))]) ?_ ?_
          · refine QRun_b [.int .i64 i1] 0 _ (by kernel_rfl) (fun w => by kernel_rfl) ?_
            refine QRun_y (.int .i64 (i1 + 1)) (by kernel_rfl) (Y_eq (v := .int .i64 (w64 (i1 + 1))) (Y_pure (fun w => by kernel_rfl)) (by rw [w64_eq _ (by omega)])) ?_
            refine QRun_b [.int .i64 (i1 + 1)] 2 _ (by kernel_rfl) (fun w => by kernel_rfl) ?_
            exact QRun_done [0, 4, 5, 6] (by kernel_rfl) (by kernel_rfl)
          have hB1 := M.ret_some hB1
          have gx9 := hgoy1 _ hB1.symm
          exact Run_again [0, 4, 5, 6] (by kernel_rfl) my1 (Nat.lt_succ_self _) ⟨i1 + 1, x12.1, by omega, gx9, rfl, H13⟩
        · refine Run_block ?_
          refine Run_keep [0, 4, 5, 6, 7, 8, 9] (L' := [(0, .slice ac_ c_.length cc_), (4, .slice a1 x2.length c1), (5, .slice a3 x4.length c3), (6, .int .i64 i1), (7, .int .i64 x10), (8, .int .i64 x11), (9, .int .i64 (w64 (x10 + 1)))]) (by kernel_rfl) ?_
          refine Run_loop (fun m L' h' => ∃ (s2 : (List Int) × Int), M.loopN _ n m s2 = some x12 ∧ L' = [(0, .slice ac_ c_.length cc_), (4, .slice a1 x2.length c1), (5, .slice a3 x4.length c3), (6, .int .i64 i1), (7, .int .i64 x10), (8, .int .i64 x11), (9, .int .i64 s2.2)] ∧ Hold h h' [own cd2 a1 x2.length c1 x2, own cd2 a3 x4.length c3 s2.1]) n ⟨(s1, (w64 (x10 + 1))), gx12, rfl, H10⟩ ?_
          rintro my2 _ h7 ⟨s2, gx12, rfl, H12⟩
          obtain ⟨my2, y2, rfl, hB2, hgoy2, houty2⟩ := M.loop_some gx12
          refine Run_seq ?_
          refine Run_seq ?_
          refine Run_reg 3 (by kernel_rfl) (L' := [(0, .slice ac_ c_.length cc_), (4, .slice a1 x2.length c1), (5, .slice a3 x4.length c3), (6, .int .i64 i1), (7, .int .i64 x10), (8, .int .i64 x11), (9, .int .i64 s2.2), (50, .bool (decide (s2.2 ≤ x11)))]) ?_ ?_
          · refine QRun_b [.int .i64 s2.2, .int .i64 x11, .bool (decide (s2.2 ≤ x11))] 0 _ (by kernel_rfl) (fun w => by kernel_rfl) ?_
            exact QRun_done [0, 4, 5, 6, 7, 8, 9, 50] (by kernel_rfl) (by kernel_rfl)
          refine Run_cond (b := decide (s2.2 ≤ x11)) (by kernel_rfl) (fun hb3 => ?_) (fun hb3 => ?_)
          · have hB2 := (M.ite_some hB2).1 hb3
            refine Run_skip ?_
            refine Run_seq ?_
            refine Run_block ?_
            obtain ⟨x13, hx11, hB2⟩ := M.bind_some hB2
            obtain ⟨hx11l, hx11u, hx11⟩ := M.idx_some hx11
            obtain ⟨x14, hx12, hB2⟩ := M.bind_some hB2
            obtain ⟨hx12l, hx12u, hx12⟩ := M.idx_some hx12
            obtain ⟨x15, hx13, hB2⟩ := M.bind_some hB2
            obtain ⟨x16, hx14, hB2⟩ := M.bind_some hB2
            obtain ⟨hx14l, hx14u, hx14⟩ := M.idx_some hx14
            refine Run_D (fun x => Hold h x [own cd2 a1 x2.length c1 x2, own cd2 a3 x4.length c3 s2.1]) (fun x => Hold h x [own cd2 a1 x2.length c1 x2, own cd2 a3 x4.length c3 s2.1]) mixed (by kernel_rfl) H12 Hold.stable (fun x Hy => (show Hold h x [own cd2 a1 x2.length c1 x2, own cd2 a3 x4.length c3 s2.1] from Hy).pick [0, 1] (by kernel_rfl)) ?_
            refine DR_b 21 [.slice a3 x4.length c3, .int .i64 s2.2, .slice ac_ c_.length cc_, .int .i64 x10] 0 (by kernel_rfl) (by kernel_rfl) (by kernel_rfl) (fun w => by kernel_rfl) ?_
            refine DR_y 20 (i := 4) (.pointer (some (adr ac_ (x10.toNat * 1)))) (by kernel_rfl) (by kernel_rfl) (by kernel_rfl) (fun hx Hx => (YE.of (Y_idx (t := 39) (e := 2) (sz := 1) (a := ac_) (n := c_.length) (cap := cc_) (kk := .i64) (i := x10) (by kernel_rfl) Try.underlying39 (by kernel_rfl) ((rc_.at H12.ext).cell hx11).1 hx11l hx11u))) ?_
            refine DR_y 19 (i := 5) (.int .i64 x13) (by kernel_rfl) (by kernel_rfl) (by kernel_rfl) (fun hx Hx => (YE.of (Y_load1 (t := 2) (p := adr ac_ (x10.toNat * 1)) (v := .int .i64 x13) (by kernel_rfl) (fun w => by kernel_rfl) (cd2_cell (rc_.at Hx.ext) hx11)))) ?_
            refine DR_b 13 [.int .i64 x11, .int .i64 s2.2, .int .i64 (w64 (x11 - s2.2)), .int .i64 (w64 (x13 * (w64 (x11 - s2.2)))), .slice ac_ c_.length cc_, .int .i64 x11] 6 (by kernel_rfl) (by kernel_rfl) (by kernel_rfl) (fun w => by kernel_rfl) ?_
            refine DR_y 12 (i := 12) (.pointer (some (adr ac_ (x11.toNat * 1)))) (by kernel_rfl) (by kernel_rfl) (by kernel_rfl) (fun hx Hx => (YE.of (Y_idx (t := 39) (e := 2) (sz := 1) (a := ac_) (n := c_.length) (cap := cc_) (kk := .i64) (i := x11) (by kernel_rfl) Try.underlying39 (by kernel_rfl) ((rc_.at H12.ext).cell hx12).1 hx12l hx12u))) ?_
            refine DR_y 11 (i := 13) (.int .i64 x14) (by kernel_rfl) (by kernel_rfl) (by kernel_rfl) (fun hx Hx => (YE.of (Y_load1 (t := 2) (p := adr ac_ (x11.toNat * 1)) (v := .int .i64 x14) (by kernel_rfl) (fun w => by kernel_rfl) (cd2_cell (rc_.at Hx.ext) hx12)))) ?_
            refine DR_b 3 [.int .i64 s2.2, .int .i64 x10, .int .i64 (w64 (s2.2 - x10)), .int .i64 (w64 (x14 * (w64 (s2.2 - x10)))), .int .i64 (w64 ((w64 (x13 * (w64 (x11 - s2.2)))) + (w64 (x14 * (w64 (s2.2 - x10)))))), .int .i64 x11, .int .i64 x10, .int .i64 (w64 (x11 - x10))] 14 (by kernel_rfl) (by kernel_rfl) (by kernel_rfl) (fun w => by kernel_rfl) ?_
            refine DR_y 2 (i := 22) (.int .i64 x15) (by kernel_rfl) (by kernel_rfl) (by kernel_rfl) (fun hx Hx => (YE.of (Y_callq (f := 183) (args := #[.int .i64 (w64 ((w64 (x13 * (w64 (x11 - s2.2)))) + (w64 (x14 * (w64 (s2.2 - x10)))))), .int .i64 (w64 (x11 - x10))]) (v := .int .i64 x15) (by kernel_rfl) (w_spec_l01Floor hx (w64 ((w64 (x13 * (w64 (x11 - s2.2)))) + (w64 (x14 * (w64 (s2.2 - x10)))))) (w64 (x11 - x10)) _ _ hx13)))) ?_
            refine DR_y 1 (i := 23) (.pointer (some (adr a3 (s2.2.toNat * 1)))) (by kernel_rfl) (by kernel_rfl) (by kernel_rfl) (fun hx Hx => (YE.of (Y_idx (t := 39) (e := 2) (sz := 1) (a := a3) (n := x4.length) (cap := c3) (kk := .i64) (i := s2.2) (by kernel_rfl) Try.underlying39 (by kernel_rfl) ((H12.rd 1 rfl).cell hx14).1 hx14l (by rw [← (H12.len 1 rfl)]; exact hx14u)))) ?_
            refine DR_tail (i := 24) (by kernel_rfl) (by kernel_rfl) (by kernel_rfl) (fun h9 H14 => ?_)
            have H15 : Hold h h9 [own cd2 a1 x2.length c1 x2, own cd2 a3 x4.length c3 s2.1] := H14
            obtain ⟨l2, hu2, hB2⟩ := M.bind_some hB2
            have hu2 := M.upd_some hu2
            have H17 : Hold h h9 [own cd2 a3 x4.length c3 s2.1, own cd2 a1 x2.length c1 x2] := H15.pick [1, 0] (by kernel_rfl)
            refine Run_E (by kernel_rfl) ?_
            refine E_put (C := cd2) (t := 2) (sz := 1) (j := s2.2) (x := x15) (v := .int .i64 x15) H17 cd2_flat (by kernel_rfl) rfl (cd2_own _) (by kernel_rfl) hu2 (fun h10 H16 => ?_)
            refine Run_nil (by kernel_rfl) ?_
            refine Run_keep [0, 4, 5, 6, 7, 8, 9] (L' := [(0, .slice ac_ c_.length cc_), (4, .slice a1 x2.length c1), (5, .slice a3 x4.length c3), (6, .int .i64 i1), (7, .int .i64 x10), (8, .int .i64 x11), (9, .int .i64 s2.2)]) (by kernel_rfl) ?_
            refine Run_blk ?_
            refine Run_reg 3 (by kernel_rfl) (L' := [(0, .slice ac_ c_.length cc_), (4, .slice a1 x2.length c1), (5, .slice a3 x4.length c3), (6, .int .i64 i1), (7, .int .i64 x10), (8, .int .i64 x11), (9, .int .i64 (w64 (s2.2 + 1)))]) ?_ ?_
            · refine QRun_b [.int .i64 s2.2, .int .i64 (w64 (s2.2 + 1)), .int .i64 (w64 (s2.2 + 1))] 0 _ (by kernel_rfl) (fun w => by kernel_rfl) ?_
              exact QRun_done [0, 4, 5, 6, 7, 8, 9] (by kernel_rfl) (by kernel_rfl)
            have H18 : Hold h h10 [own cd2 a1 x2.length c1 x2, own cd2 a3 x4.length c3 l2] := H16.pick [1, 0] (by kernel_rfl)
            have hB2 := M.ret_some hB2
            have gx12 := hgoy2 _ hB2.symm
            exact Run_again [0, 4, 5, 6, 7, 8, 9] (by kernel_rfl) my2 (Nat.lt_succ_self _) ⟨(l2, (w64 (s2.2 + 1))), gx12, rfl, H18⟩
          · have hB2 := (M.ite_some hB2).2 hb3
            refine Run_exit (k' := _) rfl ?_
            have hB2 := M.ret_some hB2
            have gx12 := houty2 _ hB2.symm
            subst gx12
            exact Run_fall [0, 4, 5, 6] (by kernel_rfl) ⟨rfl, H12⟩
      · have gx9 := M.for_end gx9 hb2
        subst gx9
        refine Run_exit (k' := _) rfl ?_
        have H19 : Hold h h5 [own cd2 a3 x4.length c3 s1] := H10.pick [1] (by kernel_rfl)
        exact Run_fall [5] (by kernel_rfl) ⟨rfl, H19⟩

set_option maxRecDepth 100000 in
set_option maxHeartbeats 4000000 in
theorem w_spec_l01Next (h hE : Heap) (it : Item) (s_ : TL01source) (bs_ : Nat) (as_code : Option Addr) (cs_code : Nat) (rs_code : Rd cd5 h (Lt h) as_code cs_code s_.code) (n_ : Int) (HM : Hold h hE [box bs_ 155 [.slice as_code s_.code.length cs_code, .int .i64 s_.at_, .int .i64 s_.seed], it]) (n : Nat) (r : Int × TL01source) (hF : spec_l01Next s_ n_ n = some r) :
    Fn Try.prog 106 #[.pointer (some ⟨bs_, 0, none⟩), .int .i64 n_] hE fun v h' => v = .int .i64 r.1 ∧ Hold h h' [box bs_ 155 [.slice as_code s_.code.length cs_code, .int .i64 r.2.at_, .int .i64 r.2.seed], it] := by
  unfold spec_l01Next at hF
  refine Fn_enter (args := [.pointer (some ⟨bs_, 0, none⟩), .int .i64 n_]) Try.func106 rfl (by kernel_rfl) (by kernel_rfl) (fun w0 _ => ?_)
  refine Run_seq ?_
  refine Run_reg 1 (by kernel_rfl) (L' := [(0, .pointer (some ⟨bs_, 0, none⟩)), (1, .int .i64 n_)]) ?_ ?_
  · refine QRun_b [.int .i64 0] 0 _ (by kernel_rfl) (fun w => by kernel_rfl) ?_
    exact QRun_done [0, 1] (by kernel_rfl) (by kernel_rfl)
  refine Run_seq ?_
  refine Run_seq ?_
  refine Run_reg 2 (by kernel_rfl) (L' := [(0, .pointer (some ⟨bs_, 0, none⟩)), (1, .int .i64 n_), (7, .bool (decide (n_ ≤ 1)))]) ?_ ?_
  · refine QRun_b [.int .i64 n_, .bool (decide (n_ ≤ 1))] 0 _ (by kernel_rfl) (fun w => by kernel_rfl) ?_
    exact QRun_done [0, 1, 7] (by kernel_rfl) (by kernel_rfl)
  refine Run_cond (b := decide (n_ ≤ 1)) (by kernel_rfl) (fun hb1 => ?_) (fun hb1 => ?_)
  · have hF := (M.ite_some hF).1 hb1
    refine Run_seq ?_
    refine Run_reg 1 (by kernel_rfl) (L' := [(4, .int .i64 0)]) ?_ ?_
    · refine QRun_b [.int .i64 0] 0 _ (by kernel_rfl) (fun w => by kernel_rfl) ?_
      exact QRun_done [4] (by kernel_rfl) (by kernel_rfl)
    have hF := M.ret_some hF
    subst hF
    exact Run_ret1 rfl (ResV_tmp (v := .int .i64 0) (by kernel_rfl)) ⟨rfl, HM⟩
  · have hF := (M.ite_some hF).2 hb1
    refine Run_skip ?_
    refine Run_seq ?_
    refine Run_ops ?_
    refine Run_b [.pointer (some ⟨bs_, 0, none⟩), .pointer (some ⟨bs_, 0, none⟩), .pointer (some ⟨bs_, 0, none⟩), .pointer (some ⟨bs_, 2, none⟩)] 0 _ (by kernel_rfl) (fun w => by kernel_rfl) ?_
    refine Run_y (.int .i64 s_.seed) (by kernel_rfl) (Y_load1 (t := 2) (p := ⟨bs_, 2, none⟩) (v := .int .i64 s_.seed) (by kernel_rfl) (fun w => by kernel_rfl) (HM.cell 0 rfl rfl)) ?_
    refine Run_b [.int .i64 (w64 (s_.seed * 48271)), .int .i64 (w64 ((w64 (s_.seed * 48271)) + 59)), .int .i64 ((w64 ((w64 (s_.seed * 48271)) + 59)).tmod 2147483647), .pointer (some ⟨bs_, 0, none⟩), .pointer (some ⟨bs_, 2, none⟩)] 5 _ (by kernel_rfl) (fun w => by kernel_rfl) ?_
    refine Run_E (by kernel_rfl) ?_
    refine E_bput (t := 2) (off := 2) (us := [.slice as_code s_.code.length cs_code, .int .i64 s_.at_, .int .i64 ((w64 ((w64 (s_.seed * 48271)) + 59)).tmod 2147483647)]) (v := .int .i64 ((w64 ((w64 (s_.seed * 48271)) + 59)).tmod 2147483647)) HM (by kernel_rfl) (by kernel_rfl) rfl (by kernel_rfl) rfl (fun h1 H1 => ?_)
    refine Run_nil (by kernel_rfl) ?_
    refine Run_keep [0, 1] (L' := [(0, .pointer (some ⟨bs_, 0, none⟩)), (1, .int .i64 n_)]) (by kernel_rfl) ?_
    refine Run_seq ?_
    refine Run_reg 6 (by kernel_rfl) (L' := [(0, .pointer (some ⟨bs_, 0, none⟩)), (1, .int .i64 n_), (5, .int .i64 (w64 (((w64 ((w64 (s_.seed * 48271)) + 59)).tmod 2147483647).tdiv 31)))]) ?_ ?_
    · refine QRun_b [.pointer (some ⟨bs_, 0, none⟩), .pointer (some ⟨bs_, 0, none⟩), .pointer (some ⟨bs_, 2, none⟩)] 0 _ (by kernel_rfl) (fun w => by kernel_rfl) ?_
      refine QRun_y (.int .i64 ((w64 ((w64 (s_.seed * 48271)) + 59)).tmod 2147483647)) (by kernel_rfl) (Y_load1 (t := 2) (p := ⟨bs_, 2, none⟩) (v := .int .i64 ((w64 ((w64 (s_.seed * 48271)) + 59)).tmod 2147483647)) (by kernel_rfl) (fun w => by kernel_rfl) (H1.cell 0 rfl rfl)) ?_
      refine QRun_b [.int .i64 (w64 (((w64 ((w64 (s_.seed * 48271)) + 59)).tmod 2147483647).tdiv 31)), .int .i64 (w64 (((w64 ((w64 (s_.seed * 48271)) + 59)).tmod 2147483647).tdiv 31))] 4 _ (by kernel_rfl) (fun w => by kernel_rfl) ?_
      exact QRun_done [0, 1, 5] (by kernel_rfl) (by kernel_rfl)
    refine Run_seq ?_
    refine Run_seq ?_
    refine Run_draw 10 mixed (by kernel_rfl) (by kernel_rfl) (L' := [(0, .pointer (some ⟨bs_, 0, none⟩)), (1, .int .i64 n_), (5, .int .i64 (w64 (((w64 ((w64 (s_.seed * 48271)) + 59)).tmod 2147483647).tdiv 31))), (32, .bool (decide (s_.at_ < (s_.code.length : Int))))]) ?_ ?_
    · refine QRun_b [.pointer (some ⟨bs_, 0, none⟩), .pointer (some ⟨bs_, 0, none⟩), .pointer (some ⟨bs_, 1, none⟩)] 0 _ (by kernel_rfl) (fun w => by kernel_rfl) ?_
      refine QRun_y (.int .i64 s_.at_) (by kernel_rfl) (Y_load1 (t := 3) (p := ⟨bs_, 1, none⟩) (v := .int .i64 s_.at_) (by kernel_rfl) (fun w => by kernel_rfl) (H1.cell 0 rfl rfl)) ?_
      refine QRun_b [.pointer (some ⟨bs_, 0, none⟩), .pointer (some ⟨bs_, 0, none⟩), .pointer (some ⟨bs_, 0, none⟩)] 4 _ (by kernel_rfl) (fun w => by kernel_rfl) ?_
      refine QRun_y (.slice as_code s_.code.length cs_code) (by kernel_rfl) (Y_load1 (t := 47) (p := ⟨bs_, 0, none⟩) (v := .slice as_code s_.code.length cs_code) (by kernel_rfl) (fun w => by kernel_rfl) (H1.cell 0 rfl rfl)) ?_
      refine QRun_b [.int .i64 (s_.code.length : Int), .bool (decide (s_.at_ < (s_.code.length : Int)))] 8 _ (by kernel_rfl) (fun w => by kernel_rfl) ?_
      exact QRun_done [0, 1, 5, 32] (by kernel_rfl) (by kernel_rfl)
    obtain ⟨s1, gs1, hF⟩ := M.bind_some hF
    refine Run_join (fun L' h' => L' = [(1, .int .i64 n_), (5, .int .i64 s1.1)] ∧ Hold h h' [box bs_ 155 [.slice as_code s_.code.length cs_code, .int .i64 s1.2, .int .i64 ((w64 ((w64 (s_.seed * 48271)) + 59)).tmod 2147483647)], it]) ?_ ?_
    · rintro _ h3 ⟨rfl, H3⟩
      refine Run_seq ?_
      obtain ⟨u1, hz1, hF⟩ := M.bind_some hF
      have hz1 := M.guard_some hz1
      refine Run_reg 4 (by kernel_rfl) (L' := [(4, .int .i64 (s1.1.tmod n_))]) ?_ ?_
      · refine QRun_b [.int .i64 s1.1, .int .i64 n_] 0 _ (by kernel_rfl) (fun w => by kernel_rfl) ?_
        refine QRun_y (.int .i64 (s1.1.tmod n_)) (by kernel_rfl) (Y_rem (op := .rem) (k := .i64) (x := s1.1) (y := n_) (by kernel_rfl) hz1) ?_
        refine QRun_b [.int .i64 (s1.1.tmod n_)] 3 _ (by kernel_rfl) (fun w => by kernel_rfl) ?_
        exact QRun_done [4] (by kernel_rfl) (by kernel_rfl)
      have hF := M.ret_some hF
      subst hF
      exact Run_ret1 rfl (ResV_tmp (v := .int .i64 (s1.1.tmod n_)) (by kernel_rfl)) ⟨rfl, H3⟩
    · refine Run_cond (b := decide (s_.at_ < (s_.code.length : Int))) (by kernel_rfl) (fun hb2 => ?_) (fun hb2 => ?_)
      · have gs1 := (M.ite_some gs1).1 hb2
        refine Run_seq ?_
        obtain ⟨x1, hx1, gs1⟩ := M.bind_some gs1
        obtain ⟨hx1l, hx1u, hx1⟩ := M.idx_some hx1
        refine Run_draw 14 mixed (by kernel_rfl) (by kernel_rfl) (L' := [(0, .pointer (some ⟨bs_, 0, none⟩)), (1, .int .i64 n_), (5, .int .i64 (w64 ((w64 (((w64 ((w64 (s_.seed * 48271)) + 59)).tmod 2147483647).tdiv 31)) + (w64 (x1)))))]) ?_ ?_
        · refine QRun_b [.int .i64 (w64 (((w64 ((w64 (s_.seed * 48271)) + 59)).tmod 2147483647).tdiv 31)), .pointer (some ⟨bs_, 0, none⟩), .pointer (some ⟨bs_, 0, none⟩), .pointer (some ⟨bs_, 0, none⟩)] 0 _ (by kernel_rfl) (fun w => by kernel_rfl) ?_
          refine QRun_y (.slice as_code s_.code.length cs_code) (by kernel_rfl) (Y_load1 (t := 47) (p := ⟨bs_, 0, none⟩) (v := .slice as_code s_.code.length cs_code) (by kernel_rfl) (fun w => by kernel_rfl) (H1.cell 0 rfl rfl)) ?_
          refine QRun_b [.pointer (some ⟨bs_, 0, none⟩), .pointer (some ⟨bs_, 0, none⟩), .pointer (some ⟨bs_, 1, none⟩)] 5 _ (by kernel_rfl) (fun w => by kernel_rfl) ?_
          refine QRun_y (.int .i64 s_.at_) (by kernel_rfl) (Y_load1 (t := 3) (p := ⟨bs_, 1, none⟩) (v := .int .i64 s_.at_) (by kernel_rfl) (fun w => by kernel_rfl) (H1.cell 0 rfl rfl)) ?_
          refine QRun_y (.pointer (some (adr as_code (s_.at_.toNat * 1)))) (by kernel_rfl) (Y_idx (t := 47) (e := 5) (sz := 1) (a := as_code) (n := s_.code.length) (cap := cs_code) (kk := .i64) (i := s_.at_) (by kernel_rfl) Try.underlying47 (by kernel_rfl) ((rs_code.at H1.ext).cell hx1).1 hx1l hx1u) ?_
          refine QRun_y (.int .u8 x1) (by kernel_rfl) (Y_load1 (t := 5) (p := adr as_code (s_.at_.toNat * 1)) (v := .int .u8 x1) (by kernel_rfl) (fun w => by kernel_rfl) (cd5_cell (rs_code.at H1.ext) hx1)) ?_
          refine QRun_b [.int .i64 (w64 (x1)), .int .i64 (w64 ((w64 (((w64 ((w64 (s_.seed * 48271)) + 59)).tmod 2147483647).tdiv 31)) + (w64 (x1)))), .int .i64 (w64 ((w64 (((w64 ((w64 (s_.seed * 48271)) + 59)).tmod 2147483647).tdiv 31)) + (w64 (x1))))] 11 _ (by kernel_rfl) (fun w => by kernel_rfl) ?_
          exact QRun_done [0, 1, 5] (by kernel_rfl) (by kernel_rfl)
        refine Run_seq ?_
        refine Run_ops ?_
        refine Run_b [.pointer (some ⟨bs_, 0, none⟩), .pointer (some ⟨bs_, 0, none⟩), .pointer (some ⟨bs_, 1, none⟩)] 0 _ (by kernel_rfl) (fun w => by kernel_rfl) ?_
        refine Run_y (.int .i64 s_.at_) (by kernel_rfl) (Y_load1 (t := 3) (p := ⟨bs_, 1, none⟩) (v := .int .i64 s_.at_) (by kernel_rfl) (fun w => by kernel_rfl) (H1.cell 0 rfl rfl)) ?_
        refine Run_b [.int .i64 (w64 (s_.at_ + 1)), .pointer (some ⟨bs_, 0, none⟩), .pointer (some ⟨bs_, 1, none⟩)] 4 _ (by kernel_rfl) (fun w => by kernel_rfl) ?_
        refine Run_E (by kernel_rfl) ?_
        refine E_bput (t := 3) (off := 1) (us := [.slice as_code s_.code.length cs_code, .int .i64 (w64 (s_.at_ + 1)), .int .i64 ((w64 ((w64 (s_.seed * 48271)) + 59)).tmod 2147483647)]) (v := .int .i64 (w64 (s_.at_ + 1))) H1 (by kernel_rfl) (by kernel_rfl) rfl (by kernel_rfl) rfl (fun h2 H2 => ?_)
        refine Run_nil (by kernel_rfl) ?_
        refine Run_keep [0, 1, 5] (L' := [(0, .pointer (some ⟨bs_, 0, none⟩)), (1, .int .i64 n_), (5, .int .i64 (w64 ((w64 (((w64 ((w64 (s_.seed * 48271)) + 59)).tmod 2147483647).tdiv 31)) + (w64 (x1)))))]) (by kernel_rfl) ?_
        refine Run_seq ?_
        refine Run_reg 10 (by kernel_rfl) (L' := [(0, .pointer (some ⟨bs_, 0, none⟩)), (1, .int .i64 n_), (5, .int .i64 (w64 ((w64 (((w64 ((w64 (s_.seed * 48271)) + 59)).tmod 2147483647).tdiv 31)) + (w64 (x1))))), (62, .bool ((decide (n_ ≤ 256)) && (((w64 (s_.at_ + 1)).tmod 2) == 0)))]) ?_ ?_
        · refine QRun_b [.int .i64 n_, .bool (decide (n_ ≤ 256))] 0 _ (by kernel_rfl) (fun w => by kernel_rfl) ?_
          refine QRun_seq 10 [(0, .pointer (some ⟨bs_, 0, none⟩)), (1, .int .i64 n_), (5, .int .i64 (w64 ((w64 (((w64 ((w64 (s_.seed * 48271)) + 59)).tmod 2147483647).tdiv 31)) + (w64 (x1))))), (62, .bool ((decide (n_ ≤ 256)) && (((w64 (s_.at_ + 1)).tmod 2) == 0)))] ?_ ?_
          · rcases Bool.eq_false_or_eq_true (decide (n_ ≤ 256)) with hb3 | hb3
            · refine QRun_bool (decide (n_ ≤ 256)) true (by kernel_rfl) (fun w => by kernel_rfl) hb3 ?_
              refine QRun_b [.pointer (some ⟨bs_, 0, none⟩), .pointer (some ⟨bs_, 0, none⟩), .pointer (some ⟨bs_, 1, none⟩)] 3 _ (by kernel_rfl) (fun w => by kernel_rfl) ?_
              refine QRun_y (.int .i64 (w64 (s_.at_ + 1))) (by kernel_rfl) (Y_load1 (t := 3) (p := ⟨bs_, 1, none⟩) (v := .int .i64 (w64 (s_.at_ + 1))) (by kernel_rfl) (fun w => by kernel_rfl) (H2.cell 0 rfl rfl)) ?_
              refine QRun_b [.int .i64 ((w64 (s_.at_ + 1)).tmod 2), .bool (((w64 (s_.at_ + 1)).tmod 2) == 0)] 7 _ (by kernel_rfl) (fun w => by kernel_rfl) ?_
              refine QRun_bool (((w64 (s_.at_ + 1)).tmod 2) == 0) ((decide (n_ ≤ 256)) && (((w64 (s_.at_ + 1)).tmod 2) == 0)) (by kernel_rfl) (fun w => by kernel_rfl) (by rw [hb3]; rfl) ?_
              exact QRun_done [0, 1, 5, 62] (by kernel_rfl) (by kernel_rfl)
            · refine QRun_bool (decide (n_ ≤ 256)) false (by kernel_rfl) (fun w => by kernel_rfl) hb3 ?_
              refine QRun_n (by kernel_rfl) ?_
              refine QRun_n (by kernel_rfl) ?_
              refine QRun_n (by kernel_rfl) ?_
              refine QRun_n (by kernel_rfl) ?_
              refine QRun_n (by kernel_rfl) ?_
              refine QRun_n (by kernel_rfl) ?_
              refine QRun_bool false ((decide (n_ ≤ 256)) && (((w64 (s_.at_ + 1)).tmod 2) == 0)) (by kernel_rfl) (fun w => by kernel_rfl) (by rw [hb3]; rfl) ?_
              exact QRun_done [0, 1, 5, 62] (by kernel_rfl) (by kernel_rfl)
          exact QRun_done [0, 1, 5, 62] (by kernel_rfl) (by kernel_rfl)
        refine Run_cond (b := (decide (n_ ≤ 256)) && (((w64 (s_.at_ + 1)).tmod 2) == 0)) (by kernel_rfl) (fun hb4 => ?_) (fun hb4 => ?_)
        · have gs1 := (M.ite_some gs1).1 hb4
          obtain ⟨x3, hx2, gs1⟩ := M.bind_some gs1
          obtain ⟨hx2l, hx2u, hx2⟩ := M.idx_some hx2
          refine Run_draw 13 mixed (by kernel_rfl) (by kernel_rfl) (L' := [(1, .int .i64 n_), (5, .int .i64 (w64 (x3)))]) ?_ ?_
          · refine QRun_b [.pointer (some ⟨bs_, 0, none⟩), .pointer (some ⟨bs_, 0, none⟩), .pointer (some ⟨bs_, 0, none⟩)] 0 _ (by kernel_rfl) (fun w => by kernel_rfl) ?_
            refine QRun_y (.slice as_code s_.code.length cs_code) (by kernel_rfl) (Y_load1 (t := 47) (p := ⟨bs_, 0, none⟩) (v := .slice as_code s_.code.length cs_code) (by kernel_rfl) (fun w => by kernel_rfl) (H2.cell 0 rfl rfl)) ?_
            refine QRun_b [.pointer (some ⟨bs_, 0, none⟩), .pointer (some ⟨bs_, 0, none⟩), .pointer (some ⟨bs_, 1, none⟩)] 4 _ (by kernel_rfl) (fun w => by kernel_rfl) ?_
            refine QRun_y (.int .i64 (w64 (s_.at_ + 1))) (by kernel_rfl) (Y_load1 (t := 3) (p := ⟨bs_, 1, none⟩) (v := .int .i64 (w64 (s_.at_ + 1))) (by kernel_rfl) (fun w => by kernel_rfl) (H2.cell 0 rfl rfl)) ?_
            refine QRun_b [.int .i64 (w64 ((w64 (s_.at_ + 1)) - 1))] 8 _ (by kernel_rfl) (fun w => by kernel_rfl) ?_
            refine QRun_y (.pointer (some (adr as_code ((w64 ((w64 (s_.at_ + 1)) - 1)).toNat * 1)))) (by kernel_rfl) (Y_idx (t := 47) (e := 5) (sz := 1) (a := as_code) (n := s_.code.length) (cap := cs_code) (kk := .i64) (i := w64 ((w64 (s_.at_ + 1)) - 1)) (by kernel_rfl) Try.underlying47 (by kernel_rfl) ((rs_code.at H2.ext).cell hx2).1 hx2l hx2u) ?_
            refine QRun_y (.int .u8 x3) (by kernel_rfl) (Y_load1 (t := 5) (p := adr as_code ((w64 ((w64 (s_.at_ + 1)) - 1)).toNat * 1)) (v := .int .u8 x3) (by kernel_rfl) (fun w => by kernel_rfl) (cd5_cell (rs_code.at H2.ext) hx2)) ?_
            refine QRun_b [.int .i64 (w64 (x3)), .int .i64 (w64 (x3))] 11 _ (by kernel_rfl) (fun w => by kernel_rfl) ?_
            exact QRun_done [1, 5] (by kernel_rfl) (by kernel_rfl)
          have gs1 := M.ret_some gs1
          subst gs1
          exact Run_fall [1, 5] (by kernel_rfl) ⟨rfl, H2⟩
        · have gs1 := (M.ite_some gs1).2 hb4
          refine Run_skip ?_
          have gs1 := M.ret_some gs1
          subst gs1
          exact Run_fall [1, 5] (by kernel_rfl) ⟨rfl, H2⟩
      · have gs1 := (M.ite_some gs1).2 hb2
        refine Run_skip ?_
        have gs1 := M.ret_some gs1
        subst gs1
        exact Run_fall [1, 5] (by kernel_rfl) ⟨rfl, H1⟩

set_option maxRecDepth 100000 in
set_option maxHeartbeats 4000000 in
theorem w_spec_l01Pick (h hE : Heap) (it : Item) (s_ : TL01source) (bs_ : Nat) (as_code : Option Addr) (cs_code : Nat) (rs_code : Rd cd5 h (Lt h) as_code cs_code s_.code) (list : List Int) (alist : Option Addr) (clist : Nat) (HM : Hold h hE [box bs_ 155 [.slice as_code s_.code.length cs_code, .int .i64 s_.at_, .int .i64 s_.seed], own cd2 alist list.length clist list, it]) (n : Nat) (r : Int × TL01source × (List Int)) (hF : spec_l01Pick s_ list n = some r) :
    Fn Try.prog 107 #[.pointer (some ⟨bs_, 0, none⟩), .slice alist list.length clist] hE fun v h' => v = .int .i64 r.1 ∧ Hold h h' [box bs_ 155 [.slice as_code s_.code.length cs_code, .int .i64 r.2.1.at_, .int .i64 r.2.1.seed], own cd2 alist list.length clist r.2.2, it] := by
  unfold spec_l01Pick at hF
  refine Fn_enter (args := [.pointer (some ⟨bs_, 0, none⟩), .slice alist list.length clist]) Try.func107 rfl (by kernel_rfl) (by kernel_rfl) (fun w0 _ => ?_)
  refine Run_seq ?_
  refine Run_reg 1 (by kernel_rfl) (L' := [(0, .pointer (some ⟨bs_, 0, none⟩)), (1, .slice alist list.length clist)]) ?_ ?_
  · refine QRun_b [.int .i64 0] 0 _ (by kernel_rfl) (fun w => by kernel_rfl) ?_
    exact QRun_done [0, 1] (by kernel_rfl) (by kernel_rfl)
  refine Run_seq ?_
  refine Run_ops ?_
  refine Run_b [.slice alist list.length clist, .pointer (some ⟨bs_, 0, none⟩), .slice alist list.length clist, .int .i64 (list.length : Int)] 0 _ (by kernel_rfl) (fun w => by kernel_rfl) ?_
  obtain ⟨x1, hx1, hF⟩ := M.bind_some hF
  have H1 : Hold h hE [box bs_ 155 [.slice as_code s_.code.length cs_code, .int .i64 s_.at_, .int .i64 s_.seed], bun [own cd2 alist list.length clist list, it]] := Hold.bundle (S := [box bs_ 155 [.slice as_code s_.code.length cs_code, .int .i64 s_.at_, .int .i64 s_.seed]]) (R := [own cd2 alist list.length clist list, it]) HM
  refine Run_E (by kernel_rfl) ?_
  refine E_call (f := 106) (args := #[.pointer (some ⟨bs_, 0, none⟩), .int .i64 (list.length : Int)]) (w_spec_l01Next h hE _ s_ bs_ as_code cs_code rs_code (list.length : Int) H1 _ _ hx1) (by kernel_rfl) (fun v1 h1 hp1 => ?_)
  obtain ⟨rfl, H2⟩ := hp1
  have H3 : Hold h h1 [box bs_ 155 [.slice as_code s_.code.length cs_code, .int .i64 x1.2.at_, .int .i64 x1.2.seed], own cd2 alist list.length clist list, it] := Hold.unbundle (S := [box bs_ 155 [.slice as_code s_.code.length cs_code, .int .i64 x1.2.at_, .int .i64 x1.2.seed]]) (R := [own cd2 alist list.length clist list, it]) H2 (Hold.tailBase (S := [box bs_ 155 [.slice as_code s_.code.length cs_code, .int .i64 s_.at_, .int .i64 s_.seed]]) (R := [own cd2 alist list.length clist list, it]) HM)
  obtain ⟨x2, hx2, hF⟩ := M.bind_some hF
  obtain ⟨hx2l, hx2u, hx2⟩ := M.idx_some hx2
  refine Run_y (.pointer (some (adr alist (x1.1.toNat * 1)))) (by kernel_rfl) (Y_idx (t := 39) (e := 2) (sz := 1) (a := alist) (n := list.length) (cap := clist) (kk := .i64) (i := x1.1) (by kernel_rfl) Try.underlying39 (by kernel_rfl) ((H3.rd 1 rfl).cell hx2).1 hx2l hx2u) ?_
  refine Run_y (.int .i64 x2) (by kernel_rfl) (Y_load1 (t := 2) (p := adr alist (x1.1.toNat * 1)) (v := .int .i64 x2) (by kernel_rfl) (fun w => by kernel_rfl) (cd2_cell (H3.rd 1 rfl) hx2)) ?_
  refine Run_b [.int .i64 x2] 7 _ (by kernel_rfl) (fun w => by kernel_rfl) ?_
  refine Run_nil (by kernel_rfl) ?_
  refine Run_keep [4] (L' := [(4, .int .i64 x2)]) (by kernel_rfl) ?_
  have hF := M.ret_some hF
  subst hF
  have H4 : Hold h h1 [own cd2 alist list.length clist list, box bs_ 155 [.slice as_code s_.code.length cs_code, .int .i64 x1.2.at_, .int .i64 x1.2.seed], it] := H3.pick [1, 0, 2] (by kernel_rfl)
  have H5 : Hold h h1 [box bs_ 155 [.slice as_code s_.code.length cs_code, .int .i64 x1.2.at_, .int .i64 x1.2.seed], own cd2 alist list.length clist list, it] := H4.pick [1, 0, 2] (by kernel_rfl)
  exact Run_ret1 rfl (ResV_tmp (v := .int .i64 x2) (by kernel_rfl)) ⟨rfl, H5⟩

set_option maxRecDepth 100000 in
set_option maxHeartbeats 4000000 in
theorem w_spec_l01DrawValue (h hE : Heap) (it : Item) (s_ : TL01source) (bs_ : Nat) (as_code : Option Addr) (cs_code : Nat) (rs_code : Rd cd5 h (Lt h) as_code cs_code s_.code) (HM : Hold h hE [box bs_ 155 [.slice as_code s_.code.length cs_code, .int .i64 s_.at_, .int .i64 s_.seed], it]) (n : Nat) (r : Int × TL01source) (hF : spec_l01DrawValue s_ n = some r) :
    Fn Try.prog 164 #[.pointer (some ⟨bs_, 0, none⟩)] hE fun v h' => v = .int .i64 r.1 ∧ Hold h h' [box bs_ 155 [.slice as_code s_.code.length cs_code, .int .i64 r.2.at_, .int .i64 r.2.seed], it] := by
  unfold spec_l01DrawValue at hF
  refine Fn_enter (args := [.pointer (some ⟨bs_, 0, none⟩)]) Try.func164 rfl (by kernel_rfl) (by kernel_rfl) (fun w0 _ => ?_)
  refine Run_seq ?_
  refine Run_reg 1 (by kernel_rfl) (L' := [(0, .pointer (some ⟨bs_, 0, none⟩))]) ?_ ?_
  · refine QRun_b [.int .i64 0] 0 _ (by kernel_rfl) (fun w => by kernel_rfl) ?_
    exact QRun_done [0] (by kernel_rfl) (by kernel_rfl)
  refine Run_seq ?_
  refine Run_seq ?_
  refine Run_ops ?_
  refine Run_b [.pointer (some ⟨bs_, 0, none⟩)] 0 _ (by kernel_rfl) (fun w => by kernel_rfl) ?_
  obtain ⟨x1, hx1, hF⟩ := M.bind_some hF
  have H1 : Hold h hE [box bs_ 155 [.slice as_code s_.code.length cs_code, .int .i64 s_.at_, .int .i64 s_.seed], bun [it]] := Hold.bundle (S := [box bs_ 155 [.slice as_code s_.code.length cs_code, .int .i64 s_.at_, .int .i64 s_.seed]]) (R := [it]) HM
  refine Run_E (by kernel_rfl) ?_
  refine E_call (f := 106) (args := #[.pointer (some ⟨bs_, 0, none⟩), .int .i64 24]) (w_spec_l01Next h hE _ s_ bs_ as_code cs_code rs_code 24 H1 _ _ hx1) (by kernel_rfl) (fun v1 h1 hp1 => ?_)
  obtain ⟨rfl, H2⟩ := hp1
  have H3 : Hold h h1 [box bs_ 155 [.slice as_code s_.code.length cs_code, .int .i64 x1.2.at_, .int .i64 x1.2.seed], it] := Hold.unbundle (S := [box bs_ 155 [.slice as_code s_.code.length cs_code, .int .i64 x1.2.at_, .int .i64 x1.2.seed]]) (R := [it]) H2 (Hold.tailBase (S := [box bs_ 155 [.slice as_code s_.code.length cs_code, .int .i64 s_.at_, .int .i64 s_.seed]]) (R := [it]) HM)
  refine Run_nil (by kernel_rfl) ?_
  refine Run_keep [0, 4] (L' := [(0, .pointer (some ⟨bs_, 0, none⟩)), (4, .int .i64 x1.1)]) (by kernel_rfl) ?_
  refine Run_block ?_
  refine Run_seq ?_
  refine Run_seq ?_
  refine Run_reg 2 (by kernel_rfl) (L' := [(0, .pointer (some ⟨bs_, 0, none⟩)), (4, .int .i64 x1.1), (5, .bool (x1.1 == 0))]) ?_ ?_
  · refine QRun_b [.bool (x1.1 == 0), .bool (x1.1 == 0)] 0 _ (by kernel_rfl) (fun w => by kernel_rfl) ?_
    exact QRun_done [0, 4, 5] (by kernel_rfl) (by kernel_rfl)
  obtain ⟨s1, gs1, hF⟩ := M.bind_some hF
  refine Run_join (fun L' h' => L' = [(0, .pointer (some ⟨bs_, 0, none⟩)), (4, .int .i64 x1.1), (5, .bool s1)] ∧ Hold h h' [box bs_ 155 [.slice as_code s_.code.length cs_code, .int .i64 x1.2.at_, .int .i64 x1.2.seed], it]) ?_ ?_
  · rintro _ h2 ⟨rfl, H4⟩
    refine Run_cond (b := s1) (by kernel_rfl) (fun hb3 => ?_) (fun hb3 => ?_)
    · have hF := (M.ite_some hF).1 hb3
      refine Run_seq ?_
      refine Run_reg 1 (by kernel_rfl) (L' := [(2, .int .i64 (-1000000000000000))]) ?_ ?_
      · refine QRun_b [.int .i64 (-1000000000000000)] 0 _ (by kernel_rfl) (fun w => by kernel_rfl) ?_
        exact QRun_done [2] (by kernel_rfl) (by kernel_rfl)
      have hF := M.ret_some hF
      subst hF
      exact Run_ret1 rfl (ResV_tmp (v := .int .i64 (-1000000000000000)) (by kernel_rfl)) ⟨rfl, H4⟩
    · have hF := (M.ite_some hF).2 hb3
      refine Run_seq ?_
      refine Run_reg 2 (by kernel_rfl) (L' := [(0, .pointer (some ⟨bs_, 0, none⟩)), (4, .int .i64 x1.1), (9, .bool (x1.1 == 3))]) ?_ ?_
      · refine QRun_b [.bool (x1.1 == 3), .bool (x1.1 == 3)] 0 _ (by kernel_rfl) (fun w => by kernel_rfl) ?_
        exact QRun_done [0, 4, 9] (by kernel_rfl) (by kernel_rfl)
      refine Run_cond (b := x1.1 == 3) (by kernel_rfl) (fun hb4 => ?_) (fun hb4 => ?_)
      · have hF := (M.ite_some hF).1 hb4
        refine Run_seq ?_
        refine Run_ops ?_
        refine Run_b [.pointer (some ⟨bs_, 0, none⟩)] 0 _ (by kernel_rfl) (fun w => by kernel_rfl) ?_
        refine Run_E (by kernel_rfl) ?_
        refine E_lit (C := cd2) (n := 7) (l := ([1000000, 1000001, (-1000000), (-1000001), (-999999999999999), (-1000000000000001), 9223372036854775807] : List Int)) (cs := [.int .i64 1000000, .int .i64 1000001, .int .i64 (-1000000), .int .i64 (-1000001), .int .i64 (-999999999999999), .int .i64 (-1000000000000001), .int .i64 9223372036854775807]) H4 (fun w => by kernel_rfl) (Enc.consE (cd2_own 1000000 _) (Enc.consE (cd2_own 1000001 _) (Enc.consE (cd2_own (-1000000) _) (Enc.consE (cd2_own (-1000001) _) (Enc.consE (cd2_own (-999999999999999) _) (Enc.consE (cd2_own (-1000000000000001) _) (Enc.consE (cd2_own 9223372036854775807 _) (Enc.nil _ _) rfl) rfl) rfl) rfl) rfl) rfl) rfl) rfl (by decide) (fun a1 h3 H5 => ?_)
        obtain ⟨x2, hx2, hF⟩ := M.bind_some hF
        have hn1 := (H5.len 0 rfl)
        have H6 : Hold h h3 [own cd2 a1 (([1000000, 1000001, (-1000000), (-1000001), (-999999999999999), (-1000000000000001), 9223372036854775807] : List Int).length) 7 ([1000000, 1000001, (-1000000), (-1000001), (-999999999999999), (-1000000000000001), 9223372036854775807] : List Int), box bs_ 155 [.slice as_code s_.code.length cs_code, .int .i64 x1.2.at_, .int .i64 x1.2.seed], it] := by rw [hn1]; exact H5
        have H7 : Hold h h3 [box bs_ 155 [.slice as_code s_.code.length cs_code, .int .i64 x1.2.at_, .int .i64 x1.2.seed], own cd2 a1 (([1000000, 1000001, (-1000000), (-1000001), (-999999999999999), (-1000000000000001), 9223372036854775807] : List Int).length) 7 ([1000000, 1000001, (-1000000), (-1000001), (-999999999999999), (-1000000000000001), 9223372036854775807] : List Int), it] := H6.pick [1, 0, 2] (by kernel_rfl)
        have H8 : Hold h h3 [box bs_ 155 [.slice as_code s_.code.length cs_code, .int .i64 x1.2.at_, .int .i64 x1.2.seed], own cd2 a1 (([1000000, 1000001, (-1000000), (-1000001), (-999999999999999), (-1000000000000001), 9223372036854775807] : List Int).length) 7 ([1000000, 1000001, (-1000000), (-1000001), (-999999999999999), (-1000000000000001), 9223372036854775807] : List Int), bun [it]] := Hold.bundle (S := [box bs_ 155 [.slice as_code s_.code.length cs_code, .int .i64 x1.2.at_, .int .i64 x1.2.seed], own cd2 a1 (([1000000, 1000001, (-1000000), (-1000001), (-999999999999999), (-1000000000000001), 9223372036854775807] : List Int).length) 7 ([1000000, 1000001, (-1000000), (-1000001), (-999999999999999), (-1000000000000001), 9223372036854775807] : List Int)]) (R := [it]) H7
        refine Run_E (by kernel_rfl) ?_
        refine E_call (f := 107) (args := #[.pointer (some ⟨bs_, 0, none⟩), .slice a1 7 7]) (Fn.arg (w_spec_l01Pick h h3 _ (⟨s_.code, x1.2.at_, x1.2.seed⟩ : TL01source) bs_ as_code cs_code rs_code ([1000000, 1000001, (-1000000), (-1000001), (-999999999999999), (-1000000000000001), 9223372036854775807] : List Int) a1 7 H8 _ _ hx2) (by simp only [hn1])) (by kernel_rfl) (fun v2 h4 hp2 => ?_)
        obtain ⟨rfl, H9⟩ := hp2
        have H10 : Hold h h4 [box bs_ 155 [.slice as_code s_.code.length cs_code, .int .i64 x2.2.1.at_, .int .i64 x2.2.1.seed], own cd2 a1 (([1000000, 1000001, (-1000000), (-1000001), (-999999999999999), (-1000000000000001), 9223372036854775807] : List Int).length) 7 x2.2.2, it] := Hold.unbundle (S := [box bs_ 155 [.slice as_code s_.code.length cs_code, .int .i64 x2.2.1.at_, .int .i64 x2.2.1.seed], own cd2 a1 (([1000000, 1000001, (-1000000), (-1000001), (-999999999999999), (-1000000000000001), 9223372036854775807] : List Int).length) 7 x2.2.2]) (R := [it]) H9 (Hold.tailBase (S := [box bs_ 155 [.slice as_code s_.code.length cs_code, .int .i64 x1.2.at_, .int .i64 x1.2.seed], own cd2 a1 (([1000000, 1000001, (-1000000), (-1000001), (-999999999999999), (-1000000000000001), 9223372036854775807] : List Int).length) 7 ([1000000, 1000001, (-1000000), (-1000001), (-999999999999999), (-1000000000000001), 9223372036854775807] : List Int)]) (R := [it]) H7)
        refine Run_b [.int .i64 x2.1] 3 _ (by kernel_rfl) (fun w => by kernel_rfl) ?_
        refine Run_nil (by kernel_rfl) ?_
        refine Run_keep [2] (L' := [(2, .int .i64 x2.1)]) (by kernel_rfl) ?_
        have hF := M.ret_some hF
        subst hF
        have H11 : Hold h h4 [box bs_ 155 [.slice as_code s_.code.length cs_code, .int .i64 x2.2.1.at_, .int .i64 x2.2.1.seed], it] := H10.pick [0, 2] (by kernel_rfl)
        exact Run_ret1 rfl (ResV_tmp (v := .int .i64 x2.1) (by kernel_rfl)) ⟨rfl, H11⟩
      · have hF := (M.ite_some hF).2 hb4
        refine Run_seq ?_
        refine Run_reg 2 (by kernel_rfl) (L' := [(0, .pointer (some ⟨bs_, 0, none⟩)), (14, .bool (x1.1 == 4))]) ?_ ?_
        · refine QRun_b [.bool (x1.1 == 4), .bool (x1.1 == 4)] 0 _ (by kernel_rfl) (fun w => by kernel_rfl) ?_
          exact QRun_done [0, 14] (by kernel_rfl) (by kernel_rfl)
        refine Run_cond (b := x1.1 == 4) (by kernel_rfl) (fun hb5 => ?_) (fun hb5 => ?_)
        · have hF := (M.ite_some hF).1 hb5
          refine Run_seq ?_
          refine Run_ops ?_
          refine Run_b [.pointer (some ⟨bs_, 0, none⟩)] 0 _ (by kernel_rfl) (fun w => by kernel_rfl) ?_
          obtain ⟨x3, hx3, hF⟩ := M.bind_some hF
          have H12 : Hold h h2 [box bs_ 155 [.slice as_code s_.code.length cs_code, .int .i64 x1.2.at_, .int .i64 x1.2.seed], bun [it]] := Hold.bundle (S := [box bs_ 155 [.slice as_code s_.code.length cs_code, .int .i64 x1.2.at_, .int .i64 x1.2.seed]]) (R := [it]) H4
          refine Run_E (by kernel_rfl) ?_
          refine E_call (f := 106) (args := #[.pointer (some ⟨bs_, 0, none⟩), .int .i64 2000]) (w_spec_l01Next h h2 _ (⟨s_.code, x1.2.at_, x1.2.seed⟩ : TL01source) bs_ as_code cs_code rs_code 2000 H12 _ _ hx3) (by kernel_rfl) (fun v3 h5 hp3 => ?_)
          obtain ⟨rfl, H13⟩ := hp3
          have H14 : Hold h h5 [box bs_ 155 [.slice as_code s_.code.length cs_code, .int .i64 x3.2.at_, .int .i64 x3.2.seed], it] := Hold.unbundle (S := [box bs_ 155 [.slice as_code s_.code.length cs_code, .int .i64 x3.2.at_, .int .i64 x3.2.seed]]) (R := [it]) H13 (Hold.tailBase (S := [box bs_ 155 [.slice as_code s_.code.length cs_code, .int .i64 x1.2.at_, .int .i64 x1.2.seed]]) (R := [it]) H4)
          refine Run_b [.int .i64 (w64 (x3.1 - 1000)), .int .i64 (w64 ((w64 (x3.1 - 1000)) * 701)), .int .i64 (w64 ((w64 (x3.1 - 1000)) * 701))] 2 _ (by kernel_rfl) (fun w => by kernel_rfl) ?_
          refine Run_nil (by kernel_rfl) ?_
          refine Run_keep [2] (L' := [(2, .int .i64 (w64 ((w64 (x3.1 - 1000)) * 701)))]) (by kernel_rfl) ?_
          have hF := M.ret_some hF
          subst hF
          exact Run_ret1 rfl (ResV_tmp (v := .int .i64 (w64 ((w64 (x3.1 - 1000)) * 701))) (by kernel_rfl)) ⟨rfl, H14⟩
        · have hF := (M.ite_some hF).2 hb5
          refine Run_skip ?_
          refine Run_blk ?_
          refine Run_seq ?_
          refine Run_ops ?_
          refine Run_b [.pointer (some ⟨bs_, 0, none⟩)] 0 _ (by kernel_rfl) (fun w => by kernel_rfl) ?_
          obtain ⟨x4, hx4, hF⟩ := M.bind_some hF
          have H15 : Hold h h2 [box bs_ 155 [.slice as_code s_.code.length cs_code, .int .i64 x1.2.at_, .int .i64 x1.2.seed], bun [it]] := Hold.bundle (S := [box bs_ 155 [.slice as_code s_.code.length cs_code, .int .i64 x1.2.at_, .int .i64 x1.2.seed]]) (R := [it]) H4
          refine Run_E (by kernel_rfl) ?_
          refine E_call (f := 106) (args := #[.pointer (some ⟨bs_, 0, none⟩), .int .i64 41]) (w_spec_l01Next h h2 _ (⟨s_.code, x1.2.at_, x1.2.seed⟩ : TL01source) bs_ as_code cs_code rs_code 41 H15 _ _ hx4) (by kernel_rfl) (fun v4 h6 hp4 => ?_)
          obtain ⟨rfl, H16⟩ := hp4
          have H17 : Hold h h6 [box bs_ 155 [.slice as_code s_.code.length cs_code, .int .i64 x4.2.at_, .int .i64 x4.2.seed], it] := Hold.unbundle (S := [box bs_ 155 [.slice as_code s_.code.length cs_code, .int .i64 x4.2.at_, .int .i64 x4.2.seed]]) (R := [it]) H16 (Hold.tailBase (S := [box bs_ 155 [.slice as_code s_.code.length cs_code, .int .i64 x1.2.at_, .int .i64 x1.2.seed]]) (R := [it]) H4)
          refine Run_b [.int .i64 (w64 (x4.1 - 20)), .int .i64 (w64 (x4.1 - 20))] 2 _ (by kernel_rfl) (fun w => by kernel_rfl) ?_
          refine Run_nil (by kernel_rfl) ?_
          refine Run_keep [2] (L' := [(2, .int .i64 (w64 (x4.1 - 20)))]) (by kernel_rfl) ?_
          have hF := M.ret_some hF
          subst hF
          exact Run_ret1 rfl (ResV_tmp (v := .int .i64 (w64 (x4.1 - 20))) (by kernel_rfl)) ⟨rfl, H17⟩
  · refine Run_cond (b := x1.1 == 0) (by kernel_rfl) (fun hb1 => ?_) (fun hb1 => ?_)
    · have gs1 := (M.ite_some gs1).1 hb1
      refine Run_skip ?_
      have gs1 := M.ret_some gs1
      subst gs1
      exact Run_fall [0, 4, 5] (by kernel_rfl) ⟨rfl, H3⟩
    · have gs1 := (M.ite_some gs1).2 hb1
      refine Run_seq ?_
      refine Run_reg 2 (by kernel_rfl) (L' := [(0, .pointer (some ⟨bs_, 0, none⟩)), (4, .int .i64 x1.1), (5, .bool (x1.1 == 1))]) ?_ ?_
      · refine QRun_b [.bool (x1.1 == 1), .bool (x1.1 == 1)] 0 _ (by kernel_rfl) (fun w => by kernel_rfl) ?_
        exact QRun_done [0, 4, 5] (by kernel_rfl) (by kernel_rfl)
      refine Run_cond (b := x1.1 == 1) (by kernel_rfl) (fun hb2 => ?_) (fun hb2 => ?_)
      · have gs1 := (M.ite_some gs1).1 hb2
        refine Run_skip ?_
        have gs1 := M.ret_some gs1
        subst gs1
        exact Run_fall [0, 4, 5] (by kernel_rfl) ⟨rfl, H3⟩
      · have gs1 := (M.ite_some gs1).2 hb2
        refine Run_reg 2 (by kernel_rfl) (L' := [(0, .pointer (some ⟨bs_, 0, none⟩)), (4, .int .i64 x1.1), (5, .bool (x1.1 == 2))]) ?_ ?_
        · refine QRun_b [.bool (x1.1 == 2), .bool (x1.1 == 2)] 0 _ (by kernel_rfl) (fun w => by kernel_rfl) ?_
          exact QRun_done [0, 4, 5] (by kernel_rfl) (by kernel_rfl)
        have gs1 := M.ret_some gs1
        subst gs1
        exact Run_fall [0, 4, 5] (by kernel_rfl) ⟨rfl, H3⟩

set_option maxRecDepth 100000 in
set_option maxHeartbeats 4000000 in
theorem w_spec_l09Draw (h hE : Heap) (it : Item) (s_ : TL01source) (bs_ : Nat) (as_code : Option Addr) (cs_code : Nat) (rs_code : Rd cd5 h (Lt h) as_code cs_code s_.code) (HM : Hold h hE [box bs_ 155 [.slice as_code s_.code.length cs_code, .int .i64 s_.at_, .int .i64 s_.seed], it]) (n : Nat) (r : (List Int) × TL01source) (hF : spec_l09Draw s_ n = some r) :
    Fn Try.prog 118 #[.pointer (some ⟨bs_, 0, none⟩)] hE fun v h' => ∃ (a0 : Option Addr) (c0 : Nat), v = .slice a0 r.1.length c0 ∧ Hold h h' [own cd2 a0 r.1.length c0 r.1, box bs_ 155 [.slice as_code s_.code.length cs_code, .int .i64 r.2.at_, .int .i64 r.2.seed], it] := by
  unfold spec_l09Draw at hF
  refine Fn_enter (args := [.pointer (some ⟨bs_, 0, none⟩)]) Try.func118 rfl (by kernel_rfl) (by kernel_rfl) (fun w0 _ => ?_)
  refine Run_seq ?_
  refine Run_reg 1 (by kernel_rfl) (L' := [(0, .pointer (some ⟨bs_, 0, none⟩))]) ?_ ?_
  · refine QRun_b [.slice none 0 0] 0 _ (by kernel_rfl) (fun w => by kernel_rfl) ?_
    exact QRun_done [0] (by kernel_rfl) (by kernel_rfl)
  refine Run_seq ?_
  refine Run_ops ?_
  refine Run_E (by kernel_rfl) ?_
  refine E_lit (C := cd2) (n := 0) (l := ([] : List Int)) (cs := []) HM (fun w => by kernel_rfl) (Enc.nil _ _) rfl (by decide) (fun a1 h1 H1 => ?_)
  refine Run_b [.slice a1 0 0] 1 _ (by kernel_rfl) (fun w => by kernel_rfl) ?_
  refine Run_nil (by kernel_rfl) ?_
  refine Run_keep [0, 3] (L' := [(0, .pointer (some ⟨bs_, 0, none⟩)), (3, .slice a1 0 0)]) (by kernel_rfl) ?_
  refine Run_seq ?_
  refine Run_seq ?_
  refine Run_ops ?_
  refine Run_b [.pointer (some ⟨bs_, 0, none⟩)] 0 _ (by kernel_rfl) (fun w => by kernel_rfl) ?_
  obtain ⟨x1, hx1, hF⟩ := M.bind_some hF
  have H2 : Hold h h1 [box bs_ 155 [.slice as_code s_.code.length cs_code, .int .i64 s_.at_, .int .i64 s_.seed], own cd2 a1 0 0 ([] : List Int), it] := H1.pick [1, 0, 2] (by kernel_rfl)
  have H3 : Hold h h1 [box bs_ 155 [.slice as_code s_.code.length cs_code, .int .i64 s_.at_, .int .i64 s_.seed], bun [own cd2 a1 0 0 ([] : List Int), it]] := Hold.bundle (S := [box bs_ 155 [.slice as_code s_.code.length cs_code, .int .i64 s_.at_, .int .i64 s_.seed]]) (R := [own cd2 a1 0 0 ([] : List Int), it]) H2
  refine Run_E (by kernel_rfl) ?_
  refine E_call (f := 106) (args := #[.pointer (some ⟨bs_, 0, none⟩), .int .i64 6]) (w_spec_l01Next h h1 _ s_ bs_ as_code cs_code rs_code 6 H3 _ _ hx1) (by kernel_rfl) (fun v1 h2 hp1 => ?_)
  obtain ⟨rfl, H4⟩ := hp1
  have H5 : Hold h h2 [box bs_ 155 [.slice as_code s_.code.length cs_code, .int .i64 x1.2.at_, .int .i64 x1.2.seed], own cd2 a1 0 0 ([] : List Int), it] := Hold.unbundle (S := [box bs_ 155 [.slice as_code s_.code.length cs_code, .int .i64 x1.2.at_, .int .i64 x1.2.seed]]) (R := [own cd2 a1 0 0 ([] : List Int), it]) H4 (Hold.tailBase (S := [box bs_ 155 [.slice as_code s_.code.length cs_code, .int .i64 s_.at_, .int .i64 s_.seed]]) (R := [own cd2 a1 0 0 ([] : List Int), it]) H2)
  refine Run_b [.int .i64 (w64 (1 + x1.1)), .int .i64 (w64 (1 + x1.1))] 2 _ (by kernel_rfl) (fun w => by kernel_rfl) ?_
  refine Run_nil (by kernel_rfl) ?_
  refine Run_keep [0, 3, 4] (L' := [(0, .pointer (some ⟨bs_, 0, none⟩)), (3, .slice a1 0 0), (4, .int .i64 (w64 (1 + x1.1)))]) (by kernel_rfl) ?_
  obtain ⟨x2, gx2, hF⟩ := M.bind_some hF
  refine Run_join (fun L' h' => ∃ (a3 : Option Addr) (c2 : Nat), L' = [(0, .pointer (some ⟨bs_, 0, none⟩)), (3, .slice a3 x2.2.2.1.length c2)] ∧ Hold h h' [box bs_ 155 [.slice as_code s_.code.length cs_code, .int .i64 x2.1, .int .i64 x2.2.1], own cd2 a3 x2.2.2.1.length c2 x2.2.2.1, it]) ?_ ?_
  · rintro _ h4 ⟨a3, c2, rfl, H7⟩
    refine Run_seq ?_
    refine Run_seq ?_
    refine Run_ops ?_
    refine Run_b [.pointer (some ⟨bs_, 0, none⟩)] 0 _ (by kernel_rfl) (fun w => by kernel_rfl) ?_
    obtain ⟨x6, hx5, hF⟩ := M.bind_some hF
    have H29 : Hold h h4 [box bs_ 155 [.slice as_code s_.code.length cs_code, .int .i64 x2.1, .int .i64 x2.2.1], bun [own cd2 a3 x2.2.2.1.length c2 x2.2.2.1, it]] := Hold.bundle (S := [box bs_ 155 [.slice as_code s_.code.length cs_code, .int .i64 x2.1, .int .i64 x2.2.1]]) (R := [own cd2 a3 x2.2.2.1.length c2 x2.2.2.1, it]) H7
    refine Run_E (by kernel_rfl) ?_
    refine E_call (f := 106) (args := #[.pointer (some ⟨bs_, 0, none⟩), .int .i64 60]) (w_spec_l01Next h h4 _ (⟨s_.code, x2.1, x2.2.1⟩ : TL01source) bs_ as_code cs_code rs_code 60 H29 _ _ hx5) (by kernel_rfl) (fun v4 h11 hp4 => ?_)
    obtain ⟨rfl, H30⟩ := hp4
    have H31 : Hold h h11 [box bs_ 155 [.slice as_code s_.code.length cs_code, .int .i64 x6.2.at_, .int .i64 x6.2.seed], own cd2 a3 x2.2.2.1.length c2 x2.2.2.1, it] := Hold.unbundle (S := [box bs_ 155 [.slice as_code s_.code.length cs_code, .int .i64 x6.2.at_, .int .i64 x6.2.seed]]) (R := [own cd2 a3 x2.2.2.1.length c2 x2.2.2.1, it]) H30 (Hold.tailBase (S := [box bs_ 155 [.slice as_code s_.code.length cs_code, .int .i64 x2.1, .int .i64 x2.2.1]]) (R := [own cd2 a3 x2.2.2.1.length c2 x2.2.2.1, it]) H7)
    refine Run_nil (by kernel_rfl) ?_
    refine Run_keep [0, 3, 28] (L' := [(0, .pointer (some ⟨bs_, 0, none⟩)), (3, .slice a3 x2.2.2.1.length c2), (28, .int .i64 x6.1)]) (by kernel_rfl) ?_
    refine Run_block ?_
    refine Run_seq ?_
    refine Run_reg 2 (by kernel_rfl) (L' := [(0, .pointer (some ⟨bs_, 0, none⟩)), (3, .slice a3 x2.2.2.1.length c2), (28, .int .i64 x6.1), (29, .bool (x6.1 == 0))]) ?_ ?_
    · refine QRun_b [.bool (x6.1 == 0), .bool (x6.1 == 0)] 0 _ (by kernel_rfl) (fun w => by kernel_rfl) ?_
      exact QRun_done [0, 3, 28, 29] (by kernel_rfl) (by kernel_rfl)
    refine Run_cond (b := x6.1 == 0) (by kernel_rfl) (fun hb3 => ?_) (fun hb3 => ?_)
    · have hF := (M.ite_some hF).1 hb3
      refine Run_seq ?_
      refine Run_ops ?_
      refine Run_E (by kernel_rfl) ?_
      refine E_lit (C := cd2) (n := 1) (l := ([(-1000000000000000)] : List Int)) (cs := [.int .i64 (-1000000000000000)]) H31 (fun w => by kernel_rfl) (Enc.consE (cd2_own (-1000000000000000) _) (Enc.nil _ _) rfl) rfl (by decide) (fun a6 h12 H32 => ?_)
      refine Run_b [.slice a6 1 1] 1 _ (by kernel_rfl) (fun w => by kernel_rfl) ?_
      refine Run_nil (by kernel_rfl) ?_
      refine Run_keep [2] (L' := [(2, .slice a6 1 1)]) (by kernel_rfl) ?_
      have hF := M.ret_some hF
      subst hF
      have H33 := H32.norm
      have H34 : Hold h h12 [own cd2 a6 (([(-1000000000000000)] : List Int).length) 1 ([(-1000000000000000)] : List Int), box bs_ 155 [.slice as_code s_.code.length cs_code, .int .i64 x6.2.at_, .int .i64 x6.2.seed], it] := H33.pick [0, 1, 3] (by kernel_rfl)
      exact Run_ret1 rfl (ResV_tmp (v := .slice a6 1 1) (by kernel_rfl)) ⟨a6, 1, (by simp only [(H32.len 0 rfl)]), H34⟩
    · have hF := (M.ite_some hF).2 hb3
      refine Run_seq ?_
      refine Run_reg 2 (by kernel_rfl) (L' := [(0, .pointer (some ⟨bs_, 0, none⟩)), (3, .slice a3 x2.2.2.1.length c2), (28, .int .i64 x6.1), (32, .bool (x6.1 == 1))]) ?_ ?_
      · refine QRun_b [.bool (x6.1 == 1), .bool (x6.1 == 1)] 0 _ (by kernel_rfl) (fun w => by kernel_rfl) ?_
        exact QRun_done [0, 3, 28, 32] (by kernel_rfl) (by kernel_rfl)
      refine Run_cond (b := x6.1 == 1) (by kernel_rfl) (fun hb4 => ?_) (fun hb4 => ?_)
      · have hF := (M.ite_some hF).1 hb4
        refine Run_seq ?_
        refine Run_ops ?_
        refine Run_b [.pointer (some ⟨bs_, 0, none⟩)] 0 _ (by kernel_rfl) (fun w => by kernel_rfl) ?_
        obtain ⟨x7, hx6, hF⟩ := M.bind_some hF
        have H35 : Hold h h11 [box bs_ 155 [.slice as_code s_.code.length cs_code, .int .i64 x6.2.at_, .int .i64 x6.2.seed], bun [own cd2 a3 x2.2.2.1.length c2 x2.2.2.1, it]] := Hold.bundle (S := [box bs_ 155 [.slice as_code s_.code.length cs_code, .int .i64 x6.2.at_, .int .i64 x6.2.seed]]) (R := [own cd2 a3 x2.2.2.1.length c2 x2.2.2.1, it]) H31
        refine Run_E (by kernel_rfl) ?_
        refine E_call (f := 106) (args := #[.pointer (some ⟨bs_, 0, none⟩), .int .i64 2]) (w_spec_l01Next h h11 _ (⟨s_.code, x6.2.at_, x6.2.seed⟩ : TL01source) bs_ as_code cs_code rs_code 2 H35 _ _ hx6) (by kernel_rfl) (fun v5 h13 hp5 => ?_)
        obtain ⟨rfl, H36⟩ := hp5
        have H37 : Hold h h13 [box bs_ 155 [.slice as_code s_.code.length cs_code, .int .i64 x7.2.at_, .int .i64 x7.2.seed], own cd2 a3 x2.2.2.1.length c2 x2.2.2.1, it] := Hold.unbundle (S := [box bs_ 155 [.slice as_code s_.code.length cs_code, .int .i64 x7.2.at_, .int .i64 x7.2.seed]]) (R := [own cd2 a3 x2.2.2.1.length c2 x2.2.2.1, it]) H36 (Hold.tailBase (S := [box bs_ 155 [.slice as_code s_.code.length cs_code, .int .i64 x6.2.at_, .int .i64 x6.2.seed]]) (R := [own cd2 a3 x2.2.2.1.length c2 x2.2.2.1, it]) H31)
        refine Run_b [.int .i64 (w64 (12 + x7.1))] 2 _ (by kernel_rfl) (fun w => by kernel_rfl) ?_
        obtain ⟨l3, hl2, hF⟩ := M.bind_some hF
        have hl2 := M.make_some hl2
        refine Run_E (by kernel_rfl) ?_
        refine E_make cd2 0 (kl := .i64) (kc := .i64) H37 cd2_ti Try.underlying39 (by decide) cd2_zero (by kernel_rfl) hl2 (fun a7 h14 H38 => ?_)
        refine Run_b [.slice a7 l3.length l3.length] 4 _ (by kernel_rfl) (fun w => by kernel_rfl) ?_
        refine Run_nil (by kernel_rfl) ?_
        refine Run_keep [2] (L' := [(2, .slice a7 l3.length l3.length)]) (by kernel_rfl) ?_
        have hF := M.ret_some hF
        subst hF
        have H39 : Hold h h14 [own cd2 a7 l3.length l3.length l3, box bs_ 155 [.slice as_code s_.code.length cs_code, .int .i64 x7.2.at_, .int .i64 x7.2.seed], it] := H38.pick [0, 1, 3] (by kernel_rfl)
        exact Run_ret1 rfl (ResV_tmp (v := .slice a7 l3.length l3.length) (by kernel_rfl)) ⟨a7, l3.length, rfl, H39⟩
      · have hF := (M.ite_some hF).2 hb4
        refine Run_seq ?_
        refine Run_reg 2 (by kernel_rfl) (L' := [(0, .pointer (some ⟨bs_, 0, none⟩)), (3, .slice a3 x2.2.2.1.length c2), (38, .bool (x6.1 == 2))]) ?_ ?_
        · refine QRun_b [.bool (x6.1 == 2), .bool (x6.1 == 2)] 0 _ (by kernel_rfl) (fun w => by kernel_rfl) ?_
          exact QRun_done [0, 3, 38] (by kernel_rfl) (by kernel_rfl)
        obtain ⟨s3, gs3, hF⟩ := M.bind_some hF
        refine Run_join (fun L' h' => L' = [(3, .slice a3 x2.2.2.1.length c2)] ∧ Hold h h' [own cd2 a3 x2.2.2.1.length c2 s3.1, box bs_ 155 [.slice as_code s_.code.length cs_code, .int .i64 s3.2.1, .int .i64 s3.2.2], it]) ?_ ?_
        · rintro _ h17 ⟨rfl, H45⟩
          refine Run_blk ?_
          refine Run_seq ?_
          refine Run_reg 2 (by kernel_rfl) (L' := [(2, .slice a3 x2.2.2.1.length c2)]) ?_ ?_
          · refine QRun_b [.slice a3 x2.2.2.1.length c2, .slice a3 x2.2.2.1.length c2] 0 _ (by kernel_rfl) (fun w => by kernel_rfl) ?_
            exact QRun_done [2] (by kernel_rfl) (by kernel_rfl)
          have hF := M.ret_some hF
          subst hF
          have H47 := H45.norm
          exact Run_ret1 rfl (ResV_tmp (v := .slice a3 x2.2.2.1.length c2) (by kernel_rfl)) ⟨a3, c2, (by simp only [(H45.len 0 rfl)]), H47⟩
        · refine Run_cond (b := x6.1 == 2) (by kernel_rfl) (fun hb5 => ?_) (fun hb5 => ?_)
          · have gs3 := (M.ite_some gs3).1 hb5
            refine Run_ops ?_
            refine Run_b [.slice a3 x2.2.2.1.length c2, .pointer (some ⟨bs_, 0, none⟩)] 0 _ (by kernel_rfl) (fun w => by kernel_rfl) ?_
            obtain ⟨x8, hx7, gs3⟩ := M.bind_some gs3
            have H40 : Hold h h11 [box bs_ 155 [.slice as_code s_.code.length cs_code, .int .i64 x6.2.at_, .int .i64 x6.2.seed], bun [own cd2 a3 x2.2.2.1.length c2 x2.2.2.1, it]] := Hold.bundle (S := [box bs_ 155 [.slice as_code s_.code.length cs_code, .int .i64 x6.2.at_, .int .i64 x6.2.seed]]) (R := [own cd2 a3 x2.2.2.1.length c2 x2.2.2.1, it]) H31
            refine Run_E (by kernel_rfl) ?_
            refine E_call (f := 164) (args := #[.pointer (some ⟨bs_, 0, none⟩)]) (w_spec_l01DrawValue h h11 _ (⟨s_.code, x6.2.at_, x6.2.seed⟩ : TL01source) bs_ as_code cs_code rs_code H40 _ _ hx7) (by kernel_rfl) (fun v6 h15 hp6 => ?_)
            obtain ⟨rfl, H41⟩ := hp6
            have H42 : Hold h h15 [box bs_ 155 [.slice as_code s_.code.length cs_code, .int .i64 x8.2.at_, .int .i64 x8.2.seed], own cd2 a3 x2.2.2.1.length c2 x2.2.2.1, it] := Hold.unbundle (S := [box bs_ 155 [.slice as_code s_.code.length cs_code, .int .i64 x8.2.at_, .int .i64 x8.2.seed]]) (R := [own cd2 a3 x2.2.2.1.length c2 x2.2.2.1, it]) H41 (Hold.tailBase (S := [box bs_ 155 [.slice as_code s_.code.length cs_code, .int .i64 x6.2.at_, .int .i64 x6.2.seed]]) (R := [own cd2 a3 x2.2.2.1.length c2 x2.2.2.1, it]) H31)
            obtain ⟨x9, hx8, gs3⟩ := M.bind_some gs3
            obtain ⟨hx8l, hx8u, hx8⟩ := M.idx_some hx8
            refine Run_y (.pointer (some (adr a3 (0 * 1)))) (by kernel_rfl) (Y_idx (t := 39) (e := 2) (sz := 1) (a := a3) (n := x2.2.2.1.length) (cap := c2) (kk := .i64) (i := 0) (by kernel_rfl) Try.underlying39 (by kernel_rfl) ((H42.rd 1 rfl).cell hx8).1 hx8l hx8u) ?_
            obtain ⟨l4, hu2, gs3⟩ := M.bind_some gs3
            have hu2 := M.upd_some hu2
            have H44 : Hold h h15 [own cd2 a3 x2.2.2.1.length c2 x2.2.2.1, box bs_ 155 [.slice as_code s_.code.length cs_code, .int .i64 x8.2.at_, .int .i64 x8.2.seed], it] := H42.pick [1, 0, 2] (by kernel_rfl)
            refine Run_E (by kernel_rfl) ?_
            refine E_put (C := cd2) (t := 2) (sz := 1) (j := 0) (x := x8.1) (v := .int .i64 x8.1) H44 cd2_flat (by kernel_rfl) rfl (cd2_own _) (by kernel_rfl) hu2 (fun h16 H43 => ?_)
            refine Run_nil (by kernel_rfl) ?_
            refine Run_keep [3] (L' := [(3, .slice a3 x2.2.2.1.length c2)]) (by kernel_rfl) ?_
            have gs3 := M.ret_some gs3
            subst gs3
            exact Run_fall [3] (by kernel_rfl) ⟨rfl, H43⟩
          · have gs3 := (M.ite_some gs3).2 hb5
            refine Run_skip ?_
            have H46 : Hold h h11 [own cd2 a3 x2.2.2.1.length c2 x2.2.2.1, box bs_ 155 [.slice as_code s_.code.length cs_code, .int .i64 x6.2.at_, .int .i64 x6.2.seed], it] := H31.pick [1, 0, 2] (by kernel_rfl)
            have gs3 := M.ret_some gs3
            subst gs3
            exact Run_fall [3] (by kernel_rfl) ⟨rfl, H46⟩
  · refine Run_block ?_
    have H48 : Hold h h2 [own cd2 a1 0 0 ([] : List Int), box bs_ 155 [.slice as_code s_.code.length cs_code, .int .i64 x1.2.at_, .int .i64 x1.2.seed], it] := H5.pick [1, 0, 2] (by kernel_rfl)
    have hn2 := (H48.len 0 rfl)
    have H49 : Hold h h2 [own cd2 a1 (([] : List Int).length) 0 ([] : List Int), box bs_ 155 [.slice as_code s_.code.length cs_code, .int .i64 x1.2.at_, .int .i64 x1.2.seed], it] := by rw [hn2]; exact H48
    have H50 : Hold h h2 [box bs_ 155 [.slice as_code s_.code.length cs_code, .int .i64 x1.2.at_, .int .i64 x1.2.seed], own cd2 a1 (([] : List Int).length) 0 ([] : List Int), it] := H49.pick [1, 0, 2] (by kernel_rfl)
    refine Run_keep [0, 3, 4] (L' := [(0, .pointer (some ⟨bs_, 0, none⟩)), (3, .slice a1 (([] : List Int).length) 0), (4, .int .i64 (w64 (1 + x1.1)))]) (by first | (rw [hn2]; kernel_rfl) | (simp only [hn2]; kernel_rfl) | kernel_rfl) ?_
    refine Run_loop (fun m L' h' => ∃ (s1 : Int × Int × (List Int) × Int) (a2 : Option Addr) (c1 : Nat), M.loopN _ n m s1 = some x2 ∧ L' = [(0, .pointer (some ⟨bs_, 0, none⟩)), (3, .slice a2 s1.2.2.1.length c1), (4, .int .i64 s1.2.2.2)] ∧ Hold h h' [box bs_ 155 [.slice as_code s_.code.length cs_code, .int .i64 s1.1, .int .i64 s1.2.1], own cd2 a2 s1.2.2.1.length c1 s1.2.2.1, it]) n ⟨(x1.2.at_, x1.2.seed, ([] : List Int), (w64 (1 + x1.1))), a1, 0, gx2, rfl, H50⟩ ?_
    rintro my1 _ h3 ⟨s1, a2, c1, gx2, rfl, H6⟩
    obtain ⟨my1, y1, rfl, hB1, hgoy1, houty1⟩ := M.loop_some gx2
    refine Run_seq ?_
    refine Run_seq ?_
    refine Run_reg 2 (by kernel_rfl) (L' := [(0, .pointer (some ⟨bs_, 0, none⟩)), (3, .slice a2 s1.2.2.1.length c1), (4, .int .i64 s1.2.2.2), (10, .bool (decide (0 < s1.2.2.2)))]) ?_ ?_
    · refine QRun_b [.int .i64 s1.2.2.2, .bool (decide (0 < s1.2.2.2))] 0 _ (by kernel_rfl) (fun w => by kernel_rfl) ?_
      exact QRun_done [0, 3, 4, 10] (by kernel_rfl) (by kernel_rfl)
    refine Run_cond (b := decide (0 < s1.2.2.2)) (by kernel_rfl) (fun hb1 => ?_) (fun hb1 => ?_)
    · have hB1 := (M.ite_some hB1).1 hb1
      refine Run_skip ?_
      refine Run_seq ?_
      refine Run_block ?_
      refine Run_seq ?_
      refine Run_ops ?_
      refine Run_b [.slice a2 s1.2.2.1.length c1, .pointer (some ⟨bs_, 0, none⟩)] 0 _ (by kernel_rfl) (fun w => by kernel_rfl) ?_
      obtain ⟨x3, hx2, hB1⟩ := M.bind_some hB1
      have H8 : Hold h h3 [box bs_ 155 [.slice as_code s_.code.length cs_code, .int .i64 s1.1, .int .i64 s1.2.1], bun [own cd2 a2 s1.2.2.1.length c1 s1.2.2.1, it]] := Hold.bundle (S := [box bs_ 155 [.slice as_code s_.code.length cs_code, .int .i64 s1.1, .int .i64 s1.2.1]]) (R := [own cd2 a2 s1.2.2.1.length c1 s1.2.2.1, it]) H6
      refine Run_E (by kernel_rfl) ?_
      refine E_call (f := 106) (args := #[.pointer (some ⟨bs_, 0, none⟩), .int .i64 21]) (w_spec_l01Next h h3 _ (⟨s_.code, s1.1, s1.2.1⟩ : TL01source) bs_ as_code cs_code rs_code 21 H8 _ _ hx2) (by kernel_rfl) (fun v2 h5 hp2 => ?_)
      obtain ⟨rfl, H9⟩ := hp2
      have H10 : Hold h h5 [box bs_ 155 [.slice as_code s_.code.length cs_code, .int .i64 x3.2.at_, .int .i64 x3.2.seed], own cd2 a2 s1.2.2.1.length c1 s1.2.2.1, it] := Hold.unbundle (S := [box bs_ 155 [.slice as_code s_.code.length cs_code, .int .i64 x3.2.at_, .int .i64 x3.2.seed]]) (R := [own cd2 a2 s1.2.2.1.length c1 s1.2.2.1, it]) H9 (Hold.tailBase (S := [box bs_ 155 [.slice as_code s_.code.length cs_code, .int .i64 s1.1, .int .i64 s1.2.1]]) (R := [own cd2 a2 s1.2.2.1.length c1 s1.2.2.1, it]) H6)
      refine Run_b [.int .i64 (w64 (x3.1 - 10))] 3 _ (by kernel_rfl) (fun w => by kernel_rfl) ?_
      refine Run_E (by kernel_rfl) ?_
      refine E_lit (C := cd2) (n := 1) (l := ([(w64 (x3.1 - 10))] : List Int)) (cs := [.int .i64 (w64 (x3.1 - 10))]) H10 (fun w => by kernel_rfl) (Enc.consE (cd2_own (w64 (x3.1 - 10)) _) (Enc.nil _ _) rfl) rfl (by decide) (fun a4 h6 H11 => ?_)
      obtain ⟨l1, hl1, hB1⟩ := M.bind_some hB1
      have hl1 := M.app_some hl1
      have H12 : Hold h h6 [own cd2 a2 s1.2.2.1.length c1 s1.2.2.1, own cd2 a4 1 1 ([(w64 (x3.1 - 10))] : List Int), box bs_ 155 [.slice as_code s_.code.length cs_code, .int .i64 x3.2.at_, .int .i64 x3.2.seed], it] := H11.pick [2, 0, 1, 3] (by kernel_rfl)
      have H13 : Hold h h6 [own cd2 a4 1 1 ([(w64 (x3.1 - 10))] : List Int), own cd2 a2 s1.2.2.1.length c1 s1.2.2.1, box bs_ 155 [.slice as_code s_.code.length cs_code, .int .i64 x3.2.at_, .int .i64 x3.2.seed], it] := H12.pick [1, 0, 2, 3] (by kernel_rfl)
      have H14 : Hold h h6 [own cd2 a2 s1.2.2.1.length c1 s1.2.2.1, own cd2 a4 1 1 ([(w64 (x3.1 - 10))] : List Int), box bs_ 155 [.slice as_code s_.code.length cs_code, .int .i64 x3.2.at_, .int .i64 x3.2.seed], it] := H13.pick [1, 0, 2, 3] (by kernel_rfl)
      refine Run_E (by kernel_rfl) ?_
      refine E_app (C := cd2) (t := 39) (ty := 39) (n := s1.2.2.1.length) (m := 1) H14 cd2_ti rfl Try.underlying39 (by decide) (by kernel_rfl) hl1 (fun a5 c3 h7 H15 => ?_)
      refine Run_b [.slice a5 l1.length c3] 6 _ (by kernel_rfl) (fun w => by kernel_rfl) ?_
      refine Run_nil (by kernel_rfl) ?_
      refine Run_keep [0, 3, 4] (L' := [(0, .pointer (some ⟨bs_, 0, none⟩)), (3, .slice a5 l1.length c3), (4, .int .i64 s1.2.2.2)]) (by kernel_rfl) ?_
      refine Run_seq ?_
      refine Run_ops ?_
      refine Run_b [.pointer (some ⟨bs_, 0, none⟩)] 0 _ (by kernel_rfl) (fun w => by kernel_rfl) ?_
      obtain ⟨x4, hx3, hB1⟩ := M.bind_some hB1
      have H16 : Hold h h7 [box bs_ 155 [.slice as_code s_.code.length cs_code, .int .i64 x3.2.at_, .int .i64 x3.2.seed], own cd2 a5 l1.length c3 l1, it] := H15.pick [1, 0, 2] (by kernel_rfl)
      have H17 : Hold h h7 [box bs_ 155 [.slice as_code s_.code.length cs_code, .int .i64 x3.2.at_, .int .i64 x3.2.seed], bun [own cd2 a5 l1.length c3 l1, it]] := Hold.bundle (S := [box bs_ 155 [.slice as_code s_.code.length cs_code, .int .i64 x3.2.at_, .int .i64 x3.2.seed]]) (R := [own cd2 a5 l1.length c3 l1, it]) H16
      refine Run_E (by kernel_rfl) ?_
      refine E_call (f := 106) (args := #[.pointer (some ⟨bs_, 0, none⟩), .int .i64 5]) (w_spec_l01Next h h7 _ (⟨s_.code, x3.2.at_, x3.2.seed⟩ : TL01source) bs_ as_code cs_code rs_code 5 H17 _ _ hx3) (by kernel_rfl) (fun v3 h8 hp3 => ?_)
      obtain ⟨rfl, H18⟩ := hp3
      have H19 : Hold h h8 [box bs_ 155 [.slice as_code s_.code.length cs_code, .int .i64 x4.2.at_, .int .i64 x4.2.seed], own cd2 a5 l1.length c3 l1, it] := Hold.unbundle (S := [box bs_ 155 [.slice as_code s_.code.length cs_code, .int .i64 x4.2.at_, .int .i64 x4.2.seed]]) (R := [own cd2 a5 l1.length c3 l1, it]) H18 (Hold.tailBase (S := [box bs_ 155 [.slice as_code s_.code.length cs_code, .int .i64 x3.2.at_, .int .i64 x3.2.seed]]) (R := [own cd2 a5 l1.length c3 l1, it]) H16)
      refine Run_b [.bool (x4.1 == 0)] 2 _ (by kernel_rfl) (fun w => by kernel_rfl) ?_
      refine Run_nil (by kernel_rfl) ?_
      refine Run_keep [0, 3, 4, 21] (L' := [(0, .pointer (some ⟨bs_, 0, none⟩)), (3, .slice a5 l1.length c3), (4, .int .i64 s1.2.2.2), (21, .bool (x4.1 == 0))]) (by kernel_rfl) ?_
      obtain ⟨s2, gs2, hB1⟩ := M.bind_some hB1
      refine Run_join (fun L' h' => L' = [(0, .pointer (some ⟨bs_, 0, none⟩)), (3, .slice a5 l1.length c3), (4, .int .i64 s1.2.2.2)] ∧ Hold h h' [box bs_ 155 [.slice as_code s_.code.length cs_code, .int .i64 x4.2.at_, .int .i64 x4.2.seed], own cd2 a5 l1.length c3 s2, it]) ?_ ?_
      · rintro _ h10 ⟨rfl, H22⟩
        refine Run_blk ?_
        refine Run_reg 3 (by kernel_rfl) (L' := [(0, .pointer (some ⟨bs_, 0, none⟩)), (3, .slice a5 l1.length c3), (4, .int .i64 (w64 (s1.2.2.2 - 1)))]) ?_ ?_
        · refine QRun_b [.int .i64 s1.2.2.2, .int .i64 (w64 (s1.2.2.2 - 1)), .int .i64 (w64 (s1.2.2.2 - 1))] 0 _ (by kernel_rfl) (fun w => by kernel_rfl) ?_
          exact QRun_done [0, 3, 4] (by kernel_rfl) (by kernel_rfl)
        have H24 : Hold h h10 [own cd2 a5 l1.length c3 s2, box bs_ 155 [.slice as_code s_.code.length cs_code, .int .i64 x4.2.at_, .int .i64 x4.2.seed], it] := H22.pick [1, 0, 2] (by kernel_rfl)
        have hn1 := (H24.len 0 rfl)
        have H25 : Hold h h10 [own cd2 a5 s2.length c3 s2, box bs_ 155 [.slice as_code s_.code.length cs_code, .int .i64 x4.2.at_, .int .i64 x4.2.seed], it] := by rw [hn1]; exact H24
        have H26 : Hold h h10 [box bs_ 155 [.slice as_code s_.code.length cs_code, .int .i64 x4.2.at_, .int .i64 x4.2.seed], own cd2 a5 s2.length c3 s2, it] := H25.pick [1, 0, 2] (by kernel_rfl)
        have hB1 := M.ret_some hB1
        have gx2 := hgoy1 _ hB1.symm
        exact Run_again [0, 3, 4] (by first | (rw [hn1]; kernel_rfl) | (simp only [hn1]; kernel_rfl) | kernel_rfl) my1 (Nat.lt_succ_self _) ⟨(x4.2.at_, x4.2.seed, s2, (w64 (s1.2.2.2 - 1))), a5, c3, gx2, rfl, H26⟩
      · refine Run_cond (b := x4.1 == 0) (by kernel_rfl) (fun hb2 => ?_) (fun hb2 => ?_)
        · have gs2 := (M.ite_some gs2).1 hb2
          refine Run_ops ?_
          obtain ⟨x5, hx4, gs2⟩ := M.bind_some gs2
          obtain ⟨hx4l, hx4u, hx4⟩ := M.idx_some hx4
          refine Run_b [.slice a5 l1.length c3, .slice a5 l1.length c3, .int .i64 (l1.length : Int), .int .i64 (w64 ((l1.length : Int) - 1))] 0 _ (by kernel_rfl) (fun w => by kernel_rfl) ?_
          refine Run_y (.pointer (some (adr a5 ((w64 ((l1.length : Int) - 1)).toNat * 1)))) (by kernel_rfl) (Y_idx (t := 39) (e := 2) (sz := 1) (a := a5) (n := l1.length) (cap := c3) (kk := .i64) (i := w64 ((l1.length : Int) - 1)) (by kernel_rfl) Try.underlying39 (by kernel_rfl) ((H19.rd 1 rfl).cell hx4).1 hx4l hx4u) ?_
          obtain ⟨l2, hu1, gs2⟩ := M.bind_some gs2
          have hu1 := M.upd_some hu1
          have H21 : Hold h h8 [own cd2 a5 l1.length c3 l1, box bs_ 155 [.slice as_code s_.code.length cs_code, .int .i64 x4.2.at_, .int .i64 x4.2.seed], it] := H19.pick [1, 0, 2] (by kernel_rfl)
          refine Run_E (by kernel_rfl) ?_
          refine E_put (C := cd2) (t := 2) (sz := 1) (j := w64 ((l1.length : Int) - 1)) (x := (-1000000000000000)) (v := .int .i64 (-1000000000000000)) H21 cd2_flat (by kernel_rfl) rfl (cd2_own _) (by kernel_rfl) hu1 (fun h9 H20 => ?_)
          refine Run_nil (by kernel_rfl) ?_
          refine Run_keep [0, 3, 4] (L' := [(0, .pointer (some ⟨bs_, 0, none⟩)), (3, .slice a5 l1.length c3), (4, .int .i64 s1.2.2.2)]) (by kernel_rfl) ?_
          have H23 : Hold h h9 [box bs_ 155 [.slice as_code s_.code.length cs_code, .int .i64 x4.2.at_, .int .i64 x4.2.seed], own cd2 a5 l1.length c3 l2, it] := H20.pick [1, 0, 2] (by kernel_rfl)
          have gs2 := M.ret_some gs2
          subst gs2
          exact Run_fall [0, 3, 4] (by kernel_rfl) ⟨rfl, H23⟩
        · have gs2 := (M.ite_some gs2).2 hb2
          refine Run_skip ?_
          have gs2 := M.ret_some gs2
          subst gs2
          exact Run_fall [0, 3, 4] (by kernel_rfl) ⟨rfl, H19⟩
    · have hB1 := (M.ite_some hB1).2 hb1
      refine Run_exit (k' := _) rfl ?_
      have H27 : Hold h h3 [own cd2 a2 s1.2.2.1.length c1 s1.2.2.1, box bs_ 155 [.slice as_code s_.code.length cs_code, .int .i64 s1.1, .int .i64 s1.2.1], it] := H6.pick [1, 0, 2] (by kernel_rfl)
      have H28 : Hold h h3 [box bs_ 155 [.slice as_code s_.code.length cs_code, .int .i64 s1.1, .int .i64 s1.2.1], own cd2 a2 s1.2.2.1.length c1 s1.2.2.1, it] := H27.pick [1, 0, 2] (by kernel_rfl)
      have hB1 := M.ret_some hB1
      have gx2 := houty1 _ hB1.symm
      subst gx2
      exact Run_fall [0, 3] (by kernel_rfl) ⟨a2, c1, rfl, H28⟩

set_option maxRecDepth 100000 in
set_option maxHeartbeats 4000000 in
theorem w_spec_l09DrawTwo (h hE : Heap) (it : Item) (s_ : TL01source) (bs_ : Nat) (as_code : Option Addr) (cs_code : Nat) (rs_code : Rd cd5 h (Lt h) as_code cs_code s_.code) (HM : Hold h hE [box bs_ 155 [.slice as_code s_.code.length cs_code, .int .i64 s_.at_, .int .i64 s_.seed], it]) (n : Nat) (r : (List Int) × (List Int) × TL01source) (hF : spec_l09DrawTwo s_ n = some r) :
    Fn Try.prog 113 #[.pointer (some ⟨bs_, 0, none⟩)] hE fun v h' => ∃ (a0 : Option Addr) (c0 : Nat), ∃ (a1 : Option Addr) (c1 : Nat), v = .tuple #[.slice a0 r.1.length c0, .slice a1 r.2.1.length c1] ∧ Hold h h' [own cd2 a0 r.1.length c0 r.1, own cd2 a1 r.2.1.length c1 r.2.1, box bs_ 155 [.slice as_code s_.code.length cs_code, .int .i64 r.2.2.at_, .int .i64 r.2.2.seed], it] := by
  unfold spec_l09DrawTwo at hF
  refine Fn_enter (args := [.pointer (some ⟨bs_, 0, none⟩)]) Try.func113 rfl (by kernel_rfl) (by kernel_rfl) (fun w0 _ => ?_)
  refine Run_seq ?_
  refine Run_reg 2 (by kernel_rfl) (L' := [(0, .pointer (some ⟨bs_, 0, none⟩))]) ?_ ?_
  · refine QRun_b [.slice none 0 0, .slice none 0 0] 0 _ (by kernel_rfl) (fun w => by kernel_rfl) ?_
    exact QRun_done [0] (by kernel_rfl) (by kernel_rfl)
  refine Run_seq ?_
  refine Run_ops ?_
  refine Run_b [.pointer (some ⟨bs_, 0, none⟩)] 0 _ (by kernel_rfl) (fun w => by kernel_rfl) ?_
  obtain ⟨x1, hx1, hF⟩ := M.bind_some hF
  have H1 : Hold h hE [box bs_ 155 [.slice as_code s_.code.length cs_code, .int .i64 s_.at_, .int .i64 s_.seed], bun [it]] := Hold.bundle (S := [box bs_ 155 [.slice as_code s_.code.length cs_code, .int .i64 s_.at_, .int .i64 s_.seed]]) (R := [it]) HM
  refine Run_E (by kernel_rfl) ?_
  refine E_call (f := 118) (args := #[.pointer (some ⟨bs_, 0, none⟩)]) (w_spec_l09Draw h hE _ s_ bs_ as_code cs_code rs_code H1 _ _ hx1) (by kernel_rfl) (fun v1 h1 hp1 => ?_)
  obtain ⟨a1, c1, rfl, H2⟩ := hp1
  have H3 : Hold h h1 [own cd2 a1 x1.1.length c1 x1.1, box bs_ 155 [.slice as_code s_.code.length cs_code, .int .i64 x1.2.at_, .int .i64 x1.2.seed], it] := Hold.unbundle (S := [own cd2 a1 x1.1.length c1 x1.1, box bs_ 155 [.slice as_code s_.code.length cs_code, .int .i64 x1.2.at_, .int .i64 x1.2.seed]]) (R := [it]) H2 (Hold.tailBase (S := [box bs_ 155 [.slice as_code s_.code.length cs_code, .int .i64 s_.at_, .int .i64 s_.seed]]) (R := [it]) HM)
  refine Run_b [.slice a1 x1.1.length c1] 2 _ (by kernel_rfl) (fun w => by kernel_rfl) ?_
  refine Run_nil (by kernel_rfl) ?_
  refine Run_keep [0, 4] (L' := [(0, .pointer (some ⟨bs_, 0, none⟩)), (4, .slice a1 x1.1.length c1)]) (by kernel_rfl) ?_
  refine Run_seq ?_
  refine Run_seq ?_
  refine Run_ops ?_
  refine Run_b [.pointer (some ⟨bs_, 0, none⟩)] 0 _ (by kernel_rfl) (fun w => by kernel_rfl) ?_
  obtain ⟨x2, hx2, hF⟩ := M.bind_some hF
  have H4 : Hold h h1 [box bs_ 155 [.slice as_code s_.code.length cs_code, .int .i64 x1.2.at_, .int .i64 x1.2.seed], own cd2 a1 x1.1.length c1 x1.1, it] := H3.pick [1, 0, 2] (by kernel_rfl)
  have H5 : Hold h h1 [box bs_ 155 [.slice as_code s_.code.length cs_code, .int .i64 x1.2.at_, .int .i64 x1.2.seed], bun [own cd2 a1 x1.1.length c1 x1.1, it]] := Hold.bundle (S := [box bs_ 155 [.slice as_code s_.code.length cs_code, .int .i64 x1.2.at_, .int .i64 x1.2.seed]]) (R := [own cd2 a1 x1.1.length c1 x1.1, it]) H4
  refine Run_E (by kernel_rfl) ?_
  refine E_call (f := 106) (args := #[.pointer (some ⟨bs_, 0, none⟩), .int .i64 3]) (w_spec_l01Next h h1 _ (⟨s_.code, x1.2.at_, x1.2.seed⟩ : TL01source) bs_ as_code cs_code rs_code 3 H5 _ _ hx2) (by kernel_rfl) (fun v2 h2 hp2 => ?_)
  obtain ⟨rfl, H6⟩ := hp2
  have H7 : Hold h h2 [box bs_ 155 [.slice as_code s_.code.length cs_code, .int .i64 x2.2.at_, .int .i64 x2.2.seed], own cd2 a1 x1.1.length c1 x1.1, it] := Hold.unbundle (S := [box bs_ 155 [.slice as_code s_.code.length cs_code, .int .i64 x2.2.at_, .int .i64 x2.2.seed]]) (R := [own cd2 a1 x1.1.length c1 x1.1, it]) H6 (Hold.tailBase (S := [box bs_ 155 [.slice as_code s_.code.length cs_code, .int .i64 x1.2.at_, .int .i64 x1.2.seed]]) (R := [own cd2 a1 x1.1.length c1 x1.1, it]) H4)
  obtain ⟨x3, gx3, hF⟩ := M.bind_some hF
  refine Run_b [.bool (x2.1 == 0)] 2 _ (by kernel_rfl) (fun w => by kernel_rfl) ?_
  refine Run_q1 7 (L' := [(0, .pointer (some ⟨bs_, 0, none⟩)), (4, .slice a1 x1.1.length c1), (15, .bool x3)]) ?_ ?_
  · rcases Bool.eq_false_or_eq_true (x2.1 == 0) with hb1 | hb1
    · refine QRun_bool (x2.1 == 0) true (by kernel_rfl) (fun w => by kernel_rfl) hb1 ?_
      have gx3 := (M.ite_some gx3).1 hb1
      obtain ⟨x4, hx3, gx3⟩ := M.bind_some gx3
      have gx3 := M.ret_some gx3
      refine QRun_b [.slice a1 x1.1.length c1] 4 _ (by kernel_rfl) (fun w => by kernel_rfl) ?_
      refine QRun_y (.bool x4) (by kernel_rfl) (Y_callq (f := 116) (args := #[.slice a1 x1.1.length c1]) (v := .bool x4) (by kernel_rfl) (w_spec_IsPolynomial h2 x1.1 a1 c1 (H7.rd 1 rfl) _ _ hx3)) ?_
      refine QRun_bool x4 x3 (by kernel_rfl) (fun w => by kernel_rfl) gx3 ?_
      exact QRun_done [0, 4, 15] (by kernel_rfl) (by kernel_rfl)
    · refine QRun_bool (x2.1 == 0) false (by kernel_rfl) (fun w => by kernel_rfl) hb1 ?_
      have gx3 := M.ret_some ((M.ite_some gx3).2 hb1)
      refine QRun_n (by kernel_rfl) ?_
      refine QRun_n (by kernel_rfl) ?_
      refine QRun_bool false x3 (by kernel_rfl) (fun w => by kernel_rfl) gx3 ?_
      exact QRun_done [0, 4, 15] (by kernel_rfl) (by kernel_rfl)
  refine Run_nil (by kernel_rfl) ?_
  refine Run_keep [0, 4, 15] (L' := [(0, .pointer (some ⟨bs_, 0, none⟩)), (4, .slice a1 x1.1.length c1), (15, .bool x3)]) (by kernel_rfl) ?_
  refine Run_cond (b := x3) (by kernel_rfl) (fun hb2 => ?_) (fun hb2 => ?_)
  · have hF := (M.ite_some hF).1 hb2
    refine Run_seq ?_
    refine Run_ops ?_
    refine Run_b [.slice a1 x1.1.length c1] 0 _ (by kernel_rfl) (fun w => by kernel_rfl) ?_
    obtain ⟨x5, hx4, hF⟩ := M.bind_some hF
    refine Run_E (by kernel_rfl) ?_
    refine E_call (f := 162) (args := #[.slice a1 x1.1.length c1]) (w_spec_FullPolynomial h2 x1.1 a1 c1 (H7.rd 1 rfl) _ _ hx4) (by kernel_rfl) (fun v3 h3 hp3 => ?_)
    obtain ⟨a2, c2, rfl, H8⟩ := hp3
    have H9 : Hold h h3 [own cd2 a2 x5.1.length c2 x5.1, box bs_ 155 [.slice as_code s_.code.length cs_code, .int .i64 x2.2.at_, .int .i64 x2.2.seed], own cd2 a1 x1.1.length c1 x1.1, it] := H7.call H8 rfl
    refine Run_b [.tuple #[.slice a2 x5.1.length c2, .int .i64 x5.2], .slice a2 x5.1.length c2, .int .i64 x5.2, .slice a2 x5.1.length c2, .int .i64 x5.2] 2 _ (by kernel_rfl) (fun w => by kernel_rfl) ?_
    refine Run_nil (by kernel_rfl) ?_
    refine Run_keep [0, 4, 5] (L' := [(0, .pointer (some ⟨bs_, 0, none⟩)), (4, .slice a1 x1.1.length c1), (5, .slice a2 x5.1.length c2)]) (by kernel_rfl) ?_
    refine Run_seq ?_
    refine Run_seq ?_
    refine Run_ops ?_
    refine Run_b [.pointer (some ⟨bs_, 0, none⟩)] 0 _ (by kernel_rfl) (fun w => by kernel_rfl) ?_
    obtain ⟨x6, hx5, hF⟩ := M.bind_some hF
    have H10 : Hold h h3 [box bs_ 155 [.slice as_code s_.code.length cs_code, .int .i64 x2.2.at_, .int .i64 x2.2.seed], own cd2 a2 x5.1.length c2 x5.1, own cd2 a1 x1.1.length c1 x1.1, it] := H9.pick [1, 0, 2, 3] (by kernel_rfl)
    have H11 : Hold h h3 [box bs_ 155 [.slice as_code s_.code.length cs_code, .int .i64 x2.2.at_, .int .i64 x2.2.seed], bun [own cd2 a2 x5.1.length c2 x5.1, own cd2 a1 x1.1.length c1 x1.1, it]] := Hold.bundle (S := [box bs_ 155 [.slice as_code s_.code.length cs_code, .int .i64 x2.2.at_, .int .i64 x2.2.seed]]) (R := [own cd2 a2 x5.1.length c2 x5.1, own cd2 a1 x1.1.length c1 x1.1, it]) H10
    refine Run_E (by kernel_rfl) ?_
    refine E_call (f := 106) (args := #[.pointer (some ⟨bs_, 0, none⟩), .int .i64 4]) (w_spec_l01Next h h3 _ (⟨s_.code, x2.2.at_, x2.2.seed⟩ : TL01source) bs_ as_code cs_code rs_code 4 H11 _ _ hx5) (by kernel_rfl) (fun v4 h4 hp4 => ?_)
    obtain ⟨rfl, H12⟩ := hp4
    have H13 : Hold h h4 [box bs_ 155 [.slice as_code s_.code.length cs_code, .int .i64 x6.2.at_, .int .i64 x6.2.seed], own cd2 a2 x5.1.length c2 x5.1, own cd2 a1 x1.1.length c1 x1.1, it] := Hold.unbundle (S := [box bs_ 155 [.slice as_code s_.code.length cs_code, .int .i64 x6.2.at_, .int .i64 x6.2.seed]]) (R := [own cd2 a2 x5.1.length c2 x5.1, own cd2 a1 x1.1.length c1 x1.1, it]) H12 (Hold.tailBase (S := [box bs_ 155 [.slice as_code s_.code.length cs_code, .int .i64 x2.2.at_, .int .i64 x2.2.seed]]) (R := [own cd2 a2 x5.1.length c2 x5.1, own cd2 a1 x1.1.length c1 x1.1, it]) H10)
    refine Run_b [.bool (x6.1 == 0)] 2 _ (by kernel_rfl) (fun w => by kernel_rfl) ?_
    refine Run_nil (by kernel_rfl) ?_
    refine Run_keep [0, 4, 5, 23] (L' := [(0, .pointer (some ⟨bs_, 0, none⟩)), (4, .slice a1 x1.1.length c1), (5, .slice a2 x5.1.length c2), (23, .bool (x6.1 == 0))]) (by kernel_rfl) ?_
    obtain ⟨s1, gs1, hF⟩ := M.bind_some hF
    refine Run_join (fun L' h' => L' = [(4, .slice a1 x1.1.length c1), (5, .slice a2 x5.1.length c2)] ∧ Hold h h' [own cd2 a1 x1.1.length c1 x1.1, own cd2 a2 x5.1.length c2 s1.1, box bs_ 155 [.slice as_code s_.code.length cs_code, .int .i64 s1.2.1, .int .i64 s1.2.2], it]) ?_ ?_
    · rintro _ h8 ⟨rfl, H22⟩
      refine Run_seq ?_
      refine Run_reg 4 (by kernel_rfl) (L' := [(2, .slice a1 x1.1.length c1), (3, .slice a2 x5.1.length c2)]) ?_ ?_
      · refine QRun_b [.slice a1 x1.1.length c1, .slice a2 x5.1.length c2, .slice a1 x1.1.length c1, .slice a2 x5.1.length c2] 0 _ (by kernel_rfl) (fun w => by kernel_rfl) ?_
        exact QRun_done [2, 3] (by kernel_rfl) (by kernel_rfl)
      have hF := M.ret_some hF
      subst hF
      have H25 : Hold h h8 [own cd2 a2 x5.1.length c2 s1.1, own cd2 a1 x1.1.length c1 x1.1, box bs_ 155 [.slice as_code s_.code.length cs_code, .int .i64 s1.2.1, .int .i64 s1.2.2], it] := H22.pick [1, 0, 2, 3] (by kernel_rfl)
      have H26 := H25.norm
      have H27 : Hold h h8 [own cd2 a1 x1.1.length c1 x1.1, own cd2 a2 s1.1.length c2 s1.1, box bs_ 155 [.slice as_code s_.code.length cs_code, .int .i64 s1.2.1, .int .i64 s1.2.2], it] := H26.pick [1, 0, 2, 3] (by kernel_rfl)
      exact Run_ret2 rfl (ResV_tmp (v := .slice a1 x1.1.length c1) (by kernel_rfl)) (ResV_tmp (v := .slice a2 x5.1.length c2) (by kernel_rfl)) ⟨a1, c1, a2, c2, (by simp only [(H25.len 0 rfl)]), H27⟩
    · refine Run_cond (b := x6.1 == 0) (by kernel_rfl) (fun hb3 => ?_) (fun hb3 => ?_)
      · have gs1 := (M.ite_some gs1).1 hb3
        refine Run_ops ?_
        refine Run_b [.slice a2 x5.1.length c2, .pointer (some ⟨bs_, 0, none⟩), .slice a2 x5.1.length c2, .int .i64 (x5.1.length : Int)] 0 _ (by kernel_rfl) (fun w => by kernel_rfl) ?_
        obtain ⟨x7, hx6, gs1⟩ := M.bind_some gs1
        have H14 : Hold h h4 [box bs_ 155 [.slice as_code s_.code.length cs_code, .int .i64 x6.2.at_, .int .i64 x6.2.seed], bun [own cd2 a2 x5.1.length c2 x5.1, own cd2 a1 x1.1.length c1 x1.1, it]] := Hold.bundle (S := [box bs_ 155 [.slice as_code s_.code.length cs_code, .int .i64 x6.2.at_, .int .i64 x6.2.seed]]) (R := [own cd2 a2 x5.1.length c2 x5.1, own cd2 a1 x1.1.length c1 x1.1, it]) H13
        refine Run_E (by kernel_rfl) ?_
        refine E_call (f := 106) (args := #[.pointer (some ⟨bs_, 0, none⟩), .int .i64 (x5.1.length : Int)]) (w_spec_l01Next h h4 _ (⟨s_.code, x6.2.at_, x6.2.seed⟩ : TL01source) bs_ as_code cs_code rs_code (x5.1.length : Int) H14 _ _ hx6) (by kernel_rfl) (fun v5 h5 hp5 => ?_)
        obtain ⟨rfl, H15⟩ := hp5
        have H16 : Hold h h5 [box bs_ 155 [.slice as_code s_.code.length cs_code, .int .i64 x7.2.at_, .int .i64 x7.2.seed], own cd2 a2 x5.1.length c2 x5.1, own cd2 a1 x1.1.length c1 x1.1, it] := Hold.unbundle (S := [box bs_ 155 [.slice as_code s_.code.length cs_code, .int .i64 x7.2.at_, .int .i64 x7.2.seed]]) (R := [own cd2 a2 x5.1.length c2 x5.1, own cd2 a1 x1.1.length c1 x1.1, it]) H15 (Hold.tailBase (S := [box bs_ 155 [.slice as_code s_.code.length cs_code, .int .i64 x6.2.at_, .int .i64 x6.2.seed]]) (R := [own cd2 a2 x5.1.length c2 x5.1, own cd2 a1 x1.1.length c1 x1.1, it]) H13)
        refine Run_b [.pointer (some ⟨bs_, 0, none⟩)] 5 _ (by kernel_rfl) (fun w => by kernel_rfl) ?_
        obtain ⟨x8, hx7, gs1⟩ := M.bind_some gs1
        have H17 : Hold h h5 [box bs_ 155 [.slice as_code s_.code.length cs_code, .int .i64 x7.2.at_, .int .i64 x7.2.seed], bun [own cd2 a2 x5.1.length c2 x5.1, own cd2 a1 x1.1.length c1 x1.1, it]] := Hold.bundle (S := [box bs_ 155 [.slice as_code s_.code.length cs_code, .int .i64 x7.2.at_, .int .i64 x7.2.seed]]) (R := [own cd2 a2 x5.1.length c2 x5.1, own cd2 a1 x1.1.length c1 x1.1, it]) H16
        refine Run_E (by kernel_rfl) ?_
        refine E_call (f := 106) (args := #[.pointer (some ⟨bs_, 0, none⟩), .int .i64 21]) (w_spec_l01Next h h5 _ (⟨s_.code, x7.2.at_, x7.2.seed⟩ : TL01source) bs_ as_code cs_code rs_code 21 H17 _ _ hx7) (by kernel_rfl) (fun v6 h6 hp6 => ?_)
        obtain ⟨rfl, H18⟩ := hp6
        have H19 : Hold h h6 [box bs_ 155 [.slice as_code s_.code.length cs_code, .int .i64 x8.2.at_, .int .i64 x8.2.seed], own cd2 a2 x5.1.length c2 x5.1, own cd2 a1 x1.1.length c1 x1.1, it] := Hold.unbundle (S := [box bs_ 155 [.slice as_code s_.code.length cs_code, .int .i64 x8.2.at_, .int .i64 x8.2.seed]]) (R := [own cd2 a2 x5.1.length c2 x5.1, own cd2 a1 x1.1.length c1 x1.1, it]) H18 (Hold.tailBase (S := [box bs_ 155 [.slice as_code s_.code.length cs_code, .int .i64 x7.2.at_, .int .i64 x7.2.seed]]) (R := [own cd2 a2 x5.1.length c2 x5.1, own cd2 a1 x1.1.length c1 x1.1, it]) H16)
        obtain ⟨x9, hx8, gs1⟩ := M.bind_some gs1
        obtain ⟨hx8l, hx8u, hx8⟩ := M.idx_some hx8
        refine Run_b [.int .i64 (w64 (x8.1 - 10))] 7 _ (by kernel_rfl) (fun w => by kernel_rfl) ?_
        refine Run_y (.pointer (some (adr a2 (x7.1.toNat * 1)))) (by kernel_rfl) (Y_idx (t := 39) (e := 2) (sz := 1) (a := a2) (n := x5.1.length) (cap := c2) (kk := .i64) (i := x7.1) (by kernel_rfl) Try.underlying39 (by kernel_rfl) ((H19.rd 1 rfl).cell hx8).1 hx8l hx8u) ?_
        obtain ⟨l1, hu1, gs1⟩ := M.bind_some gs1
        have hu1 := M.upd_some hu1
        have H21 : Hold h h6 [own cd2 a2 x5.1.length c2 x5.1, box bs_ 155 [.slice as_code s_.code.length cs_code, .int .i64 x8.2.at_, .int .i64 x8.2.seed], own cd2 a1 x1.1.length c1 x1.1, it] := H19.pick [1, 0, 2, 3] (by kernel_rfl)
        refine Run_E (by kernel_rfl) ?_
        refine E_put (C := cd2) (t := 2) (sz := 1) (j := x7.1) (x := (w64 (x8.1 - 10))) (v := .int .i64 (w64 (x8.1 - 10))) H21 cd2_flat (by kernel_rfl) rfl (cd2_own _) (by kernel_rfl) hu1 (fun h7 H20 => ?_)
        refine Run_nil (by kernel_rfl) ?_
        refine Run_keep [4, 5] (L' := [(4, .slice a1 x1.1.length c1), (5, .slice a2 x5.1.length c2)]) (by kernel_rfl) ?_
        have H23 : Hold h h7 [own cd2 a1 x1.1.length c1 x1.1, own cd2 a2 x5.1.length c2 l1, box bs_ 155 [.slice as_code s_.code.length cs_code, .int .i64 x8.2.at_, .int .i64 x8.2.seed], it] := H20.pick [2, 0, 1, 3] (by kernel_rfl)
        have gs1 := M.ret_some gs1
        subst gs1
        exact Run_fall [4, 5] (by kernel_rfl) ⟨rfl, H23⟩
      · have gs1 := (M.ite_some gs1).2 hb3
        refine Run_skip ?_
        have H24 : Hold h h4 [own cd2 a1 x1.1.length c1 x1.1, own cd2 a2 x5.1.length c2 x5.1, box bs_ 155 [.slice as_code s_.code.length cs_code, .int .i64 x6.2.at_, .int .i64 x6.2.seed], it] := H13.pick [2, 1, 0, 3] (by kernel_rfl)
        have gs1 := M.ret_some gs1
        subst gs1
        exact Run_fall [4, 5] (by kernel_rfl) ⟨rfl, H24⟩
  · have hF := (M.ite_some hF).2 hb2
    refine Run_skip ?_
    refine Run_seq ?_
    refine Run_ops ?_
    refine Run_b [.slice a1 x1.1.length c1, .pointer (some ⟨bs_, 0, none⟩)] 0 _ (by kernel_rfl) (fun w => by kernel_rfl) ?_
    obtain ⟨x10, hx9, hF⟩ := M.bind_some hF
    have H28 : Hold h h2 [box bs_ 155 [.slice as_code s_.code.length cs_code, .int .i64 x2.2.at_, .int .i64 x2.2.seed], bun [own cd2 a1 x1.1.length c1 x1.1, it]] := Hold.bundle (S := [box bs_ 155 [.slice as_code s_.code.length cs_code, .int .i64 x2.2.at_, .int .i64 x2.2.seed]]) (R := [own cd2 a1 x1.1.length c1 x1.1, it]) H7
    refine Run_E (by kernel_rfl) ?_
    refine E_call (f := 118) (args := #[.pointer (some ⟨bs_, 0, none⟩)]) (w_spec_l09Draw h h2 _ (⟨s_.code, x2.2.at_, x2.2.seed⟩ : TL01source) bs_ as_code cs_code rs_code H28 _ _ hx9) (by kernel_rfl) (fun v7 h9 hp7 => ?_)
    obtain ⟨a3, c3, rfl, H29⟩ := hp7
    have H30 : Hold h h9 [own cd2 a3 x10.1.length c3 x10.1, box bs_ 155 [.slice as_code s_.code.length cs_code, .int .i64 x10.2.at_, .int .i64 x10.2.seed], own cd2 a1 x1.1.length c1 x1.1, it] := Hold.unbundle (S := [own cd2 a3 x10.1.length c3 x10.1, box bs_ 155 [.slice as_code s_.code.length cs_code, .int .i64 x10.2.at_, .int .i64 x10.2.seed]]) (R := [own cd2 a1 x1.1.length c1 x1.1, it]) H29 (Hold.tailBase (S := [box bs_ 155 [.slice as_code s_.code.length cs_code, .int .i64 x2.2.at_, .int .i64 x2.2.seed]]) (R := [own cd2 a1 x1.1.length c1 x1.1, it]) H7)
    refine Run_b [.slice a1 x1.1.length c1, .slice a3 x10.1.length c3] 3 _ (by kernel_rfl) (fun w => by kernel_rfl) ?_
    refine Run_nil (by kernel_rfl) ?_
    refine Run_keep [2, 3] (L' := [(2, .slice a1 x1.1.length c1), (3, .slice a3 x10.1.length c3)]) (by kernel_rfl) ?_
    have hF := M.ret_some hF
    subst hF
    have H31 : Hold h h9 [own cd2 a1 x1.1.length c1 x1.1, own cd2 a3 x10.1.length c3 x10.1, box bs_ 155 [.slice as_code s_.code.length cs_code, .int .i64 x10.2.at_, .int .i64 x10.2.seed], it] := H30.pick [2, 0, 1, 3] (by kernel_rfl)
    have H32 : Hold h h9 [own cd2 a3 x10.1.length c3 x10.1, own cd2 a1 x1.1.length c1 x1.1, box bs_ 155 [.slice as_code s_.code.length cs_code, .int .i64 x10.2.at_, .int .i64 x10.2.seed], it] := H31.pick [1, 0, 2, 3] (by kernel_rfl)
    have H33 : Hold h h9 [own cd2 a1 x1.1.length c1 x1.1, own cd2 a3 x10.1.length c3 x10.1, box bs_ 155 [.slice as_code s_.code.length cs_code, .int .i64 x10.2.at_, .int .i64 x10.2.seed], it] := H32.pick [1, 0, 2, 3] (by kernel_rfl)
    exact Run_ret2 rfl (ResV_tmp (v := .slice a1 x1.1.length c1) (by kernel_rfl)) (ResV_tmp (v := .slice a3 x10.1.length c3) (by kernel_rfl)) ⟨a1, c1, a3, c3, rfl, H33⟩

set_option maxRecDepth 100000 in
set_option maxHeartbeats 4000000 in
theorem w_spec_DrawMultiplyPolynomials (h : Heap) (code : List Int) (acode : Option Addr) (ccode : Nat) (rcode : Rd cd5 h (Lt h) acode ccode code) (n : Nat) (r : (List Int) × (List Int)) (hF : spec_DrawMultiplyPolynomials code n = some r) :
    Fn Try.prog 41 #[.slice acode code.length ccode] h fun v h' => ∃ (a0 : Option Addr) (c0 : Nat), ∃ (a1 : Option Addr) (c1 : Nat), v = .tuple #[.slice a0 r.1.length c0, .slice a1 r.2.length c1] ∧ Hold h h' [own cd2 a0 r.1.length c0 r.1, own cd2 a1 r.2.length c1 r.2] := by
  unfold spec_DrawMultiplyPolynomials at hF
  refine Fn_enter (args := [.slice acode code.length ccode]) Try.func41 rfl (by kernel_rfl) (by kernel_rfl) (fun w0 _ => ?_)
  have H0 := Hold.init h
  refine Run_seq ?_
  refine Run_reg 2 (by kernel_rfl) (L' := [(0, .slice acode code.length ccode)]) ?_ ?_
  · refine QRun_b [.slice none 0 0, .slice none 0 0] 0 _ (by kernel_rfl) (fun w => by kernel_rfl) ?_
    exact QRun_done [0] (by kernel_rfl) (by kernel_rfl)
  refine Run_seq ?_
  refine Run_ops ?_
  refine Run_b [.slice acode code.length ccode] 0 _ (by kernel_rfl) (fun w => by kernel_rfl) ?_
  obtain ⟨x1, hx1, hF⟩ := M.bind_some hF
  refine Run_E (by kernel_rfl) ?_
  refine E_call (f := 98) (args := #[.slice acode code.length ccode]) (w_spec_l01From h code acode ccode rcode _ _ hx1) (by kernel_rfl) (fun v1 h1 hp1 => ?_)
  obtain ⟨b1, a1, c1, rfl, hd1, H1⟩ := hp1
  have H2 : Hold h h1 [box b1 155 [.slice a1 x1.code.length c1, .int .i64 x1.at_, .int .i64 x1.seed]] := H0.call H1 rfl
  have r1 := rcode.alias hd1
  obtain ⟨x2, hx2, hF⟩ := M.bind_some hF
  have H3 : Hold h h1 [box b1 155 [.slice a1 x1.code.length c1, .int .i64 x1.at_, .int .i64 x1.seed], bun []] := Hold.bundle (S := [box b1 155 [.slice a1 x1.code.length c1, .int .i64 x1.at_, .int .i64 x1.seed]]) (R := []) H2
  refine Run_E (by kernel_rfl) ?_
  refine E_call (f := 113) (args := #[.pointer (some ⟨b1, 0, none⟩)]) (w_spec_l09DrawTwo h h1 _ x1 b1 a1 c1 r1 H3 _ _ hx2) (by kernel_rfl) (fun v2 h2 hp2 => ?_)
  obtain ⟨a2, c2, a3, c3, rfl, H4⟩ := hp2
  have H5 : Hold h h2 [own cd2 a2 x2.1.length c2 x2.1, own cd2 a3 x2.2.1.length c3 x2.2.1, box b1 155 [.slice a1 x1.code.length c1, .int .i64 x2.2.2.at_, .int .i64 x2.2.2.seed]] := Hold.unbundle (S := [own cd2 a2 x2.1.length c2 x2.1, own cd2 a3 x2.2.1.length c3 x2.2.1, box b1 155 [.slice a1 x1.code.length c1, .int .i64 x2.2.2.at_, .int .i64 x2.2.2.seed]]) (R := []) H4 (Hold.tailBase (S := [box b1 155 [.slice a1 x1.code.length c1, .int .i64 x1.at_, .int .i64 x1.seed]]) (R := []) H2)
  refine Run_b [.slice a2 x2.1.length c2, .slice a3 x2.2.1.length c3, .slice a2 x2.1.length c2, .slice a3 x2.2.1.length c3] 3 _ (by kernel_rfl) (fun w => by kernel_rfl) ?_
  refine Run_nil (by kernel_rfl) ?_
  refine Run_keep [2, 3] (L' := [(2, .slice a2 x2.1.length c2), (3, .slice a3 x2.2.1.length c3)]) (by kernel_rfl) ?_
  have hF := M.ret_some hF
  subst hF
  have H6 : Hold h h2 [own cd2 a3 x2.2.1.length c3 x2.2.1, own cd2 a2 x2.1.length c2 x2.1, box b1 155 [.slice a1 x1.code.length c1, .int .i64 x2.2.2.at_, .int .i64 x2.2.2.seed]] := H5.pick [1, 0, 2] (by kernel_rfl)
  have H7 : Hold h h2 [own cd2 a2 x2.1.length c2 x2.1, own cd2 a3 x2.2.1.length c3 x2.2.1] := H6.pick [1, 0] (by kernel_rfl)
  exact Run_ret2 rfl (ResV_tmp (v := .slice a2 x2.1.length c2) (by kernel_rfl)) (ResV_tmp (v := .slice a3 x2.2.1.length c3) (by kernel_rfl)) ⟨a2, c2, a3, c3, rfl, H7⟩

set_option maxRecDepth 100000 in
set_option maxHeartbeats 4000000 in
theorem w_impl_within (h : Heap) (n_ : Int) (low : Int) (high : Int) (n : Nat) (r : Bool) (hF : impl_within n_ low high n = some r) :
    Fn Try.prog 108 #[.int .i64 n_, .int .i64 low, .int .i64 high] h fun v h' => v = .bool r ∧ h' = h := by
  unfold impl_within at hF
  refine Fn_enter (args := [.int .i64 n_, .int .i64 low, .int .i64 high]) Try.func108 rfl (by kernel_rfl) (by kernel_rfl) (fun w0 _ => ?_)
  refine Run_seq ?_
  refine Run_reg 1 (by kernel_rfl) (L' := [(0, .int .i64 n_), (1, .int .i64 low), (2, .int .i64 high)]) ?_ ?_
  · refine QRun_b [.bool false] 0 _ (by kernel_rfl) (fun w => by kernel_rfl) ?_
    exact QRun_done [0, 1, 2] (by kernel_rfl) (by kernel_rfl)
  refine Run_seq ?_
  refine Run_reg 9 (by kernel_rfl) (L' := [(6, .bool ((decide (low ≤ n_)) && (decide (n_ ≤ high))))]) ?_ ?_
  · refine QRun_b [.int .i64 n_, .int .i64 low, .bool (decide (low ≤ n_))] 0 _ (by kernel_rfl) (fun w => by kernel_rfl) ?_
    refine QRun_seq 8 [(14, .bool ((decide (low ≤ n_)) && (decide (n_ ≤ high))))] ?_ ?_
    · rcases Bool.eq_false_or_eq_true (decide (low ≤ n_)) with hb1 | hb1
      · refine QRun_bool (decide (low ≤ n_)) true (by kernel_rfl) (fun w => by kernel_rfl) hb1 ?_
        refine QRun_b [.int .i64 n_, .int .i64 high, .bool (decide (n_ ≤ high))] 4 _ (by kernel_rfl) (fun w => by kernel_rfl) ?_
        refine QRun_bool (decide (n_ ≤ high)) ((decide (low ≤ n_)) && (decide (n_ ≤ high))) (by kernel_rfl) (fun w => by kernel_rfl) (by rw [hb1]; rfl) ?_
        exact QRun_done [14] (by kernel_rfl) (by kernel_rfl)
      · refine QRun_bool (decide (low ≤ n_)) false (by kernel_rfl) (fun w => by kernel_rfl) hb1 ?_
        refine QRun_n (by kernel_rfl) ?_
        refine QRun_n (by kernel_rfl) ?_
        refine QRun_n (by kernel_rfl) ?_
        refine QRun_bool false ((decide (low ≤ n_)) && (decide (n_ ≤ high))) (by kernel_rfl) (fun w => by kernel_rfl) (by rw [hb1]; rfl) ?_
        exact QRun_done [14] (by kernel_rfl) (by kernel_rfl)
    refine QRun_b [.bool ((decide (low ≤ n_)) && (decide (n_ ≤ high)))] 8 _ (by kernel_rfl) (fun w => by kernel_rfl) ?_
    exact QRun_done [6] (by kernel_rfl) (by kernel_rfl)
  have hF := M.ret_some hF
  subst hF
  exact Run_ret1 rfl (ResV_tmp (v := .bool ((decide (low ≤ n_)) && (decide (n_ ≤ high)))) (by kernel_rfl)) ⟨rfl, rfl⟩

set_option maxRecDepth 100000 in
set_option maxHeartbeats 4000000 in
theorem w_impl_isFinite (h : Heap) (n_ : Int) (n : Nat) (r : Bool) (hF : impl_isFinite n_ n = some r) :
    Fn Try.prog 167 #[.int .i64 n_] h fun v h' => v = .bool r ∧ h' = h := by
  unfold impl_isFinite at hF
  refine Fn_enter (args := [.int .i64 n_]) Try.func167 rfl (by kernel_rfl) (by kernel_rfl) (fun w0 _ => ?_)
  refine Run_seq ?_
  refine Run_reg 1 (by kernel_rfl) (L' := [(0, .int .i64 n_)]) ?_ ?_
  · refine QRun_b [.bool false] 0 _ (by kernel_rfl) (fun w => by kernel_rfl) ?_
    exact QRun_done [0] (by kernel_rfl) (by kernel_rfl)
  refine Run_seq ?_
  obtain ⟨x1, hx1, hF⟩ := M.bind_some hF
  refine Run_reg 3 (by kernel_rfl) (L' := [(2, .bool x1)]) ?_ ?_
  · refine QRun_b [.int .i64 n_] 0 _ (by kernel_rfl) (fun w => by kernel_rfl) ?_
    refine QRun_y (.bool x1) (by kernel_rfl) (Y_callq (f := 108) (args := #[.int .i64 n_, .int .i64 (-1000000), .int .i64 1000000]) (v := .bool x1) (by kernel_rfl) (w_impl_within h n_ (-1000000) 1000000 _ _ hx1)) ?_
    refine QRun_b [.bool x1] 2 _ (by kernel_rfl) (fun w => by kernel_rfl) ?_
    exact QRun_done [2] (by kernel_rfl) (by kernel_rfl)
  have hF := M.ret_some hF
  subst hF
  exact Run_ret1 rfl (ResV_tmp (v := .bool x1) (by kernel_rfl)) ⟨rfl, rfl⟩

set_option maxRecDepth 100000 in
set_option maxHeartbeats 4000000 in
theorem w_impl_IsValue (h : Heap) (a_ : Int) (n : Nat) (r : Bool) (hF : impl_IsValue a_ n = some r) :
    Fn Try.prog 159 #[.int .i64 a_] h fun v h' => v = .bool r ∧ h' = h := by
  unfold impl_IsValue at hF
  refine Fn_enter (args := [.int .i64 a_]) Try.func159 rfl (by kernel_rfl) (by kernel_rfl) (fun w0 _ => ?_)
  refine Run_seq ?_
  refine Run_reg 1 (by kernel_rfl) (L' := [(0, .int .i64 a_)]) ?_ ?_
  · refine QRun_b [.bool false] 0 _ (by kernel_rfl) (fun w => by kernel_rfl) ?_
    exact QRun_done [0] (by kernel_rfl) (by kernel_rfl)
  refine Run_seq ?_
  obtain ⟨x1, gx1, hF⟩ := M.bind_some hF
  refine Run_reg 7 (by kernel_rfl) (L' := [(2, .bool x1)]) ?_ ?_
  · refine QRun_b [.int .i64 a_, .bool (a_ == (-1000000000000000))] 0 _ (by kernel_rfl) (fun w => by kernel_rfl) ?_
    refine QRun_seq 6 [(8, .bool x1)] ?_ ?_
    · rcases Bool.eq_false_or_eq_true (a_ == (-1000000000000000)) with hb1 | hb1
      · refine QRun_bool (a_ == (-1000000000000000)) true (by kernel_rfl) (fun w => by kernel_rfl) hb1 ?_
        have gx1 := M.ret_some ((M.ite_some gx1).1 hb1)
        refine QRun_n (by kernel_rfl) ?_
        refine QRun_n (by kernel_rfl) ?_
        refine QRun_bool true x1 (by kernel_rfl) (fun w => by kernel_rfl) gx1 ?_
        exact QRun_done [8] (by kernel_rfl) (by kernel_rfl)
      · refine QRun_bool (a_ == (-1000000000000000)) false (by kernel_rfl) (fun w => by kernel_rfl) hb1 ?_
        have gx1 := (M.ite_some gx1).2 hb1
        obtain ⟨x2, hx1, gx1⟩ := M.bind_some gx1
        have gx1 := M.ret_some gx1
        refine QRun_b [.int .i64 a_] 3 _ (by kernel_rfl) (fun w => by kernel_rfl) ?_
        refine QRun_y (.bool x2) (by kernel_rfl) (Y_callq (f := 167) (args := #[.int .i64 a_]) (v := .bool x2) (by kernel_rfl) (w_impl_isFinite h a_ _ _ hx1)) ?_
        refine QRun_bool x2 x1 (by kernel_rfl) (fun w => by kernel_rfl) gx1 ?_
        exact QRun_done [8] (by kernel_rfl) (by kernel_rfl)
    refine QRun_b [.bool x1] 6 _ (by kernel_rfl) (fun w => by kernel_rfl) ?_
    exact QRun_done [2] (by kernel_rfl) (by kernel_rfl)
  have hF := M.ret_some hF
  subst hF
  exact Run_ret1 rfl (ResV_tmp (v := .bool x1) (by kernel_rfl)) ⟨rfl, rfl⟩

set_option maxRecDepth 100000 in
set_option maxHeartbeats 4000000 in
theorem w_impl_areValues_1 (h : Heap) (n_ : Int) (n : Nat) (r : Bool) (hF : impl_areValues_1 n_ n = some r) :
    Fn Try.prog 158 #[.int .i64 n_] h fun v h' => v = .bool r ∧ h' = h := by
  unfold impl_areValues_1 at hF
  refine Fn_enter (args := [.int .i64 n_]) Try.func158 rfl (by kernel_rfl) (by kernel_rfl) (fun w0 _ => ?_)
  refine Run_seq ?_
  refine Run_reg 1 (by kernel_rfl) (L' := [(0, .int .i64 n_)]) ?_ ?_
  · refine QRun_b [.bool false] 0 _ (by kernel_rfl) (fun w => by kernel_rfl) ?_
    exact QRun_done [0] (by kernel_rfl) (by kernel_rfl)
  refine Run_seq ?_
  obtain ⟨x1, hx1, hF⟩ := M.bind_some hF
  refine Run_reg 4 (by kernel_rfl) (L' := [(2, .bool (!x1))]) ?_ ?_
  · refine QRun_b [.int .i64 n_] 0 _ (by kernel_rfl) (fun w => by kernel_rfl) ?_
    refine QRun_y (.bool x1) (by kernel_rfl) (Y_callq (f := 159) (args := #[.int .i64 n_]) (v := .bool x1) (by kernel_rfl) (w_impl_IsValue h n_ _ _ hx1)) ?_
    refine QRun_b [.bool (!x1), .bool (!x1)] 2 _ (by kernel_rfl) (fun w => by kernel_rfl) ?_
    exact QRun_done [2] (by kernel_rfl) (by kernel_rfl)
  have hF := M.ret_some hF
  subst hF
  exact Run_ret1 rfl (ResV_tmp (v := .bool (!x1)) (by kernel_rfl)) ⟨rfl, rfl⟩

set_option maxRecDepth 100000 in
set_option maxHeartbeats 4000000 in
theorem w_slices_IndexFunc_int_F_impl_areValues_1 (h : Heap) (s_ : List Int) {Ss_ : Bs} (as_ : Option Addr) (cs_ : Nat) (rs_ : Rd cd2 h Ss_ as_ cs_ s_) (n : Nat) (r : Int) (hF : slices_IndexFunc_int_F_impl_areValues_1 s_ n = some r) :
    Fn Try.prog 182 #[.slice as_ s_.length cs_, .func (.func 158) #[] #[]] h fun v h' => v = .int .i64 r ∧ h' = h := by
  unfold slices_IndexFunc_int_F_impl_areValues_1 at hF
  refine Fn_enter (args := [.slice as_ s_.length cs_, .func (.func 158) #[] #[]]) Try.func182 rfl (by kernel_rfl) (by kernel_rfl) (fun w0 _ => ?_)
  refine Run_seq ?_
  refine Run_reg 1 (by kernel_rfl) (L' := [(0, .slice as_ s_.length cs_), (1, .func (.func 158) #[] #[])]) ?_ ?_
  · refine QRun_b [.int .i64 0] 0 _ (by kernel_rfl) (fun w => by kernel_rfl) ?_
    exact QRun_done [0, 1] (by kernel_rfl) (by kernel_rfl)
  refine Run_seq ?_
  refine Run_seq ?_
  refine Run_reg 3 (by kernel_rfl) (L' := [(0, .slice as_ s_.length cs_), (1, .func (.func 158) #[] #[]), (7, .int .i64 (s_.length : Int)), (8, .int .i64 0)]) ?_ ?_
  · refine QRun_b [.slice as_ s_.length cs_, .int .i64 (s_.length : Int), .int .i64 0] 0 _ (by kernel_rfl) (fun w => by kernel_rfl) ?_
    exact QRun_done [0, 1, 7, 8] (by kernel_rfl) (by kernel_rfl)
  obtain ⟨x1, gx1, hF⟩ := M.bind_some hF
  obtain ⟨hloy1, hhiy1, gx1⟩ := M.for_start gx1
  refine Run_join (fun L' h' => ∃ (s2 : Unit), x1 = .inl s2 ∧ L' = [] ∧ h = h') ?_ ?_
  · rintro _ _ ⟨s2, es2, rfl, rfl⟩
    have hF := M.cont_inl' hF es2
    refine Run_seq ?_
    refine Run_reg 1 (by kernel_rfl) (L' := [(4, .int .i64 (-1))]) ?_ ?_
    · refine QRun_b [.int .i64 (-1)] 0 _ (by kernel_rfl) (fun w => by kernel_rfl) ?_
      exact QRun_done [4] (by kernel_rfl) (by kernel_rfl)
    have hF := M.ret_some hF
    subst hF
    exact Run_ret1 rfl (ResV_tmp (v := .int .i64 (-1)) (by kernel_rfl)) ⟨rfl, rfl⟩
  · refine Run_block ?_
    refine Run_keep [0, 1, 7, 8] (L' := [(0, .slice as_ s_.length cs_), (1, .func (.func 158) #[] #[]), (7, .int .i64 (s_.length : Int)), (8, .int .i64 0)]) (by kernel_rfl) ?_
    refine Run_loop (fun m L' h' => ∃ (i1 : Int) (s1 : Unit), 0 ≤ i1 ∧ M.forN (s_.length : Int) _ _ n m i1 s1 = some x1 ∧ L' = [(0, .slice as_ s_.length cs_), (1, .func (.func 158) #[] #[]), (7, .int .i64 (s_.length : Int)), (8, .int .i64 i1)] ∧ h = h') ((s_.length : Int) - 0 : Int).toNat ⟨0, (), Int.le_refl _, gx1, rfl, rfl⟩ ?_
    rintro my1 _ _ ⟨i1, s1, hloy1', gx1, rfl, rfl⟩
    refine Run_seq ?_
    refine Run_reg 1 (by kernel_rfl) (L' := [(0, .slice as_ s_.length cs_), (1, .func (.func 158) #[] #[]), (7, .int .i64 (s_.length : Int)), (8, .int .i64 i1), (9, .bool (decide (i1 < (s_.length : Int))))]) ?_ ?_
    · refine QRun_b [.bool (decide (i1 < (s_.length : Int)))] 0 _ (by kernel_rfl) (fun w => by kernel_rfl) ?_
      exact QRun_done [0, 1, 7, 8, 9] (by kernel_rfl) (by kernel_rfl)
    refine Run_seq ?_
    refine Run_cond (b := decide (i1 < (s_.length : Int))) (by kernel_rfl) (fun hb1 => ?_) (fun hb1 => ?_)
    · obtain ⟨my1, y1, rfl, hB1, hgoy1, houty1⟩ := M.for_go gx1 hb1
      have hlty1 := of_decide_eq_true hb1
      refine Run_skip ?_
      refine Run_seq ?_
      refine Run_block ?_
      refine Run_seq ?_
      refine Run_reg 2 (by kernel_rfl) (L' := [(0, .slice as_ s_.length cs_), (1, .func (.func 158) #[] #[]), (5, .int .i64 i1), (7, .int .i64 (s_.length : Int)), (8, .int .i64 i1)]) ?_ ?_
      · refine QRun_b [.int .i64 i1, .int .i64 i1] 0 _ (by kernel_rfl) (fun w => by kernel_rfl) ?_
        exact QRun_done [0, 1, 5, 7, 8] (by kernel_rfl) (by kernel_rfl)
      refine Run_seq ?_
      obtain ⟨x2, hx1, hB1⟩ := M.bind_some hB1
      obtain ⟨hx1l, hx1u, hx1⟩ := M.idx_some hx1
      obtain ⟨x3, hx2, hB1⟩ := M.bind_some hB1
      refine Run_reg 6 (by kernel_rfl) (L' := [(0, .slice as_ s_.length cs_), (1, .func (.func 158) #[] #[]), (5, .int .i64 i1), (7, .int .i64 (s_.length : Int)), (8, .int .i64 i1), (16, .bool x3)]) ?_ ?_
      · refine QRun_b [.func (.func 158) #[] #[], .slice as_ s_.length cs_, .int .i64 i1] 0 _ (by kernel_rfl) (fun w => by kernel_rfl) ?_
        refine QRun_y (.pointer (some (adr as_ (i1.toNat * 1)))) (by kernel_rfl) (Y_idx (t := 39) (e := 2) (sz := 1) (a := as_) (n := s_.length) (cap := cs_) (kk := .i64) (i := i1) (by kernel_rfl) Try.underlying39 (by kernel_rfl) (rs_.cell hx1).1 hx1l hx1u) ?_
        refine QRun_y (.int .i64 x2) (by kernel_rfl) (Y_load1 (t := 2) (p := adr as_ (i1.toNat * 1)) (v := .int .i64 x2) (by kernel_rfl) (fun w => by kernel_rfl) (cd2_cell rs_ hx1)) ?_
        refine QRun_y (.bool x3) (by kernel_rfl) (Y_callq (f := 158) (args := #[.int .i64 x2]) (v := .bool x3) (by kernel_rfl) (w_impl_areValues_1 h x2 _ _ hx2)) ?_
        exact QRun_done [0, 1, 5, 7, 8, 16] (by kernel_rfl) (by kernel_rfl)
      refine Run_cond (b := x3) (by kernel_rfl) (fun hb2 => ?_) (fun hb2 => ?_)
      · have hB1 := (M.ite_some hB1).1 hb2
        refine Run_seq ?_
        refine Run_reg 2 (by kernel_rfl) (L' := [(4, .int .i64 i1)]) ?_ ?_
        · refine QRun_b [.int .i64 i1, .int .i64 i1] 0 _ (by kernel_rfl) (fun w => by kernel_rfl) ?_
          exact QRun_done [4] (by kernel_rfl) (by kernel_rfl)
        have hB1 := M.ret_some hB1
        have gx1 := houty1 _ hB1.symm
        have hF := M.cont_inr' hF gx1
        have hF := M.ret_some hF
        subst hF
        exact Run_ret1 rfl (ResV_tmp (v := .int .i64 i1) (by kernel_rfl)) ⟨rfl, rfl⟩
      · have hB1 := (M.ite_some hB1).2 hb2
        refine Run_skip ?_
        refine Run_blk ?_
        refine Run_reg 2 (by kernel_rfl) (L' := [(0, .slice as_ s_.length cs_), (1, .func (.func 158) #[] #[]), (7, .int .i64 (s_.length : Int)), (8, .int .i64 (i1 + 1))]) ?_ ?_
        · refine QRun_y (.int .i64 (i1 + 1)) (by kernel_rfl) (Y_eq (v := .int .i64 (w64 (i1 + 1))) (Y_pure (fun w => by kernel_rfl)) (by rw [w64_eq _ (by omega)])) ?_
          refine QRun_b [.int .i64 (i1 + 1)] 1 _ (by kernel_rfl) (fun w => by kernel_rfl) ?_
          exact QRun_done [0, 1, 7, 8] (by kernel_rfl) (by kernel_rfl)
        have hB1 := M.ret_some hB1
        have gx1 := hgoy1 _ hB1.symm
        exact Run_again [0, 1, 7, 8] (by kernel_rfl) my1 (Nat.lt_succ_self _) ⟨i1 + 1, (), by omega, gx1, rfl, rfl⟩
    · have gx1 := M.for_end gx1 hb1
      subst gx1
      refine Run_exit (k' := _) rfl ?_
      exact Run_fall [] (by kernel_rfl) ⟨(), rfl, rfl, rfl⟩

set_option maxRecDepth 100000 in
set_option maxHeartbeats 4000000 in
theorem w_slices_ContainsFunc_int_F_impl_areValues_1 (h : Heap) (s_ : List Int) {Ss_ : Bs} (as_ : Option Addr) (cs_ : Nat) (rs_ : Rd cd2 h Ss_ as_ cs_ s_) (n : Nat) (r : Bool) (hF : slices_ContainsFunc_int_F_impl_areValues_1 s_ n = some r) :
    Fn Try.prog 157 #[.slice as_ s_.length cs_, .func (.func 158) #[] #[]] h fun v h' => v = .bool r ∧ h' = h := by
  unfold slices_ContainsFunc_int_F_impl_areValues_1 at hF
  refine Fn_enter (args := [.slice as_ s_.length cs_, .func (.func 158) #[] #[]]) Try.func157 rfl (by kernel_rfl) (by kernel_rfl) (fun w0 _ => ?_)
  refine Run_seq ?_
  refine Run_reg 1 (by kernel_rfl) (L' := [(0, .slice as_ s_.length cs_), (1, .func (.func 158) #[] #[])]) ?_ ?_
  · refine QRun_b [.bool false] 0 _ (by kernel_rfl) (fun w => by kernel_rfl) ?_
    exact QRun_done [0, 1] (by kernel_rfl) (by kernel_rfl)
  refine Run_seq ?_
  obtain ⟨x1, hx1, hF⟩ := M.bind_some hF
  refine Run_reg 5 (by kernel_rfl) (L' := [(4, .bool (decide (0 ≤ x1)))]) ?_ ?_
  · refine QRun_b [.slice as_ s_.length cs_, .func (.func 158) #[] #[]] 0 _ (by kernel_rfl) (fun w => by kernel_rfl) ?_
    refine QRun_y (.int .i64 x1) (by kernel_rfl) (Y_callq (f := 182) (args := #[.slice as_ s_.length cs_, .func (.func 158) #[] #[]]) (v := .int .i64 x1) (by kernel_rfl) (w_slices_IndexFunc_int_F_impl_areValues_1 h s_ as_ cs_ rs_ _ _ hx1)) ?_
    refine QRun_b [.bool (decide (0 ≤ x1)), .bool (decide (0 ≤ x1))] 3 _ (by kernel_rfl) (fun w => by kernel_rfl) ?_
    exact QRun_done [4] (by kernel_rfl) (by kernel_rfl)
  have hF := M.ret_some hF
  subst hF
  exact Run_ret1 rfl (ResV_tmp (v := .bool (decide (0 ≤ x1))) (by kernel_rfl)) ⟨rfl, rfl⟩

set_option maxRecDepth 100000 in
set_option maxHeartbeats 4000000 in
theorem w_impl_areValues (h : Heap) (list : List Int) {Slist : Bs} (alist : Option Addr) (clist : Nat) (rlist : Rd cd2 h Slist alist clist list) (n : Nat) (r : Bool) (hF : impl_areValues list n = some r) :
    Fn Try.prog 96 #[.slice alist list.length clist] h fun v h' => v = .bool r ∧ h' = h := by
  unfold impl_areValues at hF
  refine Fn_enter (args := [.slice alist list.length clist]) Try.func96 rfl (by kernel_rfl) (by kernel_rfl) (fun w0 _ => ?_)
  refine Run_seq ?_
  refine Run_reg 1 (by kernel_rfl) (L' := [(0, .slice alist list.length clist)]) ?_ ?_
  · refine QRun_b [.bool false] 0 _ (by kernel_rfl) (fun w => by kernel_rfl) ?_
    exact QRun_done [0] (by kernel_rfl) (by kernel_rfl)
  refine Run_seq ?_
  obtain ⟨x1, hx1, hF⟩ := M.bind_some hF
  refine Run_reg 4 (by kernel_rfl) (L' := [(2, .bool (!x1))]) ?_ ?_
  · refine QRun_b [.slice alist list.length clist] 0 _ (by kernel_rfl) (fun w => by kernel_rfl) ?_
    refine QRun_y (.bool x1) (by kernel_rfl) (Y_callq (f := 157) (args := #[.slice alist list.length clist, .func (.func 158) #[] #[]]) (v := .bool x1) (by kernel_rfl) (w_slices_ContainsFunc_int_F_impl_areValues_1 h list alist clist rlist _ _ hx1)) ?_
    refine QRun_b [.bool (!x1), .bool (!x1)] 2 _ (by kernel_rfl) (fun w => by kernel_rfl) ?_
    exact QRun_done [2] (by kernel_rfl) (by kernel_rfl)
  have hF := M.ret_some hF
  subst hF
  exact Run_ret1 rfl (ResV_tmp (v := .bool (!x1)) (by kernel_rfl)) ⟨rfl, rfl⟩

set_option maxRecDepth 100000 in
set_option maxHeartbeats 4000000 in
theorem w_impl_sumOf (h : Heap) (list : List Int) {Slist : Bs} (alist : Option Addr) (clist : Nat) (rlist : Rd cd2 h Slist alist clist list) (n : Nat) (r : Int) (hF : impl_sumOf list n = some r) :
    Fn Try.prog 163 #[.slice alist list.length clist] h fun v h' => v = .int .i64 r ∧ h' = h := by
  unfold impl_sumOf at hF
  refine Fn_enter (args := [.slice alist list.length clist]) Try.func163 rfl (by kernel_rfl) (by kernel_rfl) (fun w0 _ => ?_)
  refine Run_seq ?_
  refine Run_reg 1 (by kernel_rfl) (L' := [(0, .slice alist list.length clist)]) ?_ ?_
  · refine QRun_b [.int .i64 0] 0 _ (by kernel_rfl) (fun w => by kernel_rfl) ?_
    exact QRun_done [0] (by kernel_rfl) (by kernel_rfl)
  refine Run_seq ?_
  refine Run_reg 1 (by kernel_rfl) (L' := [(0, .slice alist list.length clist), (3, .int .i64 (-1000000000000000))]) ?_ ?_
  · refine QRun_b [.int .i64 (-1000000000000000)] 0 _ (by kernel_rfl) (fun w => by kernel_rfl) ?_
    exact QRun_done [0, 3] (by kernel_rfl) (by kernel_rfl)
  refine Run_seq ?_
  refine Run_seq ?_
  refine Run_reg 3 (by kernel_rfl) (L' := [(3, .int .i64 (-1000000000000000)), (6, .slice alist list.length clist), (7, .int .i64 (list.length : Int)), (8, .int .i64 0)]) ?_ ?_
  · refine QRun_b [.slice alist list.length clist, .int .i64 (list.length : Int), .int .i64 0] 0 _ (by kernel_rfl) (fun w => by kernel_rfl) ?_
    exact QRun_done [3, 6, 7, 8] (by kernel_rfl) (by kernel_rfl)
  obtain ⟨x1, gx1, hF⟩ := M.bind_some hF
  obtain ⟨hloy1, hhiy1, gx1⟩ := M.for_start gx1
  refine Run_join (fun L' h' => L' = [(3, .int .i64 x1)] ∧ h = h') ?_ ?_
  · rintro _ _ ⟨rfl, rfl⟩
    refine Run_seq ?_
    refine Run_reg 2 (by kernel_rfl) (L' := [(2, .int .i64 x1)]) ?_ ?_
    · refine QRun_b [.int .i64 x1, .int .i64 x1] 0 _ (by kernel_rfl) (fun w => by kernel_rfl) ?_
      exact QRun_done [2] (by kernel_rfl) (by kernel_rfl)
    have hF := M.ret_some hF
    subst hF
    exact Run_ret1 rfl (ResV_tmp (v := .int .i64 x1) (by kernel_rfl)) ⟨rfl, rfl⟩
  · refine Run_block ?_
    refine Run_keep [3, 6, 7, 8] (L' := [(3, .int .i64 (-1000000000000000)), (6, .slice alist list.length clist), (7, .int .i64 (list.length : Int)), (8, .int .i64 0)]) (by kernel_rfl) ?_
    refine Run_loop (fun m L' h' => ∃ (i1 : Int) (s1 : Int), 0 ≤ i1 ∧ M.forN (list.length : Int) _ _ n m i1 s1 = some x1 ∧ L' = [(3, .int .i64 s1), (6, .slice alist list.length clist), (7, .int .i64 (list.length : Int)), (8, .int .i64 i1)] ∧ h = h') ((list.length : Int) - 0 : Int).toNat ⟨0, (-1000000000000000), Int.le_refl _, gx1, rfl, rfl⟩ ?_
    rintro my1 _ _ ⟨i1, s1, hloy1', gx1, rfl, rfl⟩
    refine Run_seq ?_
    refine Run_reg 1 (by kernel_rfl) (L' := [(3, .int .i64 s1), (6, .slice alist list.length clist), (7, .int .i64 (list.length : Int)), (8, .int .i64 i1), (9, .bool (decide (i1 < (list.length : Int))))]) ?_ ?_
    · refine QRun_b [.bool (decide (i1 < (list.length : Int)))] 0 _ (by kernel_rfl) (fun w => by kernel_rfl) ?_
      exact QRun_done [3, 6, 7, 8, 9] (by kernel_rfl) (by kernel_rfl)
    refine Run_seq ?_
    refine Run_cond (b := decide (i1 < (list.length : Int))) (by kernel_rfl) (fun hb1 => ?_) (fun hb1 => ?_)
    · obtain ⟨my1, y1, rfl, hB1, hgoy1, houty1⟩ := M.for_go gx1 hb1
      have hlty1 := of_decide_eq_true hb1
      refine Run_skip ?_
      refine Run_seq ?_
      refine Run_block ?_
      refine Run_seq ?_
      obtain ⟨x2, hx1, hB1⟩ := M.bind_some hB1
      obtain ⟨hx1l, hx1u, hx1⟩ := M.idx_some hx1
      refine Run_reg 3 (by kernel_rfl) (L' := [(3, .int .i64 s1), (5, .int .i64 x2), (6, .slice alist list.length clist), (7, .int .i64 (list.length : Int)), (8, .int .i64 i1)]) ?_ ?_
      · refine QRun_y (.pointer (some (adr alist (i1.toNat * 1)))) (by kernel_rfl) (Y_idx (t := 39) (e := 2) (sz := 1) (a := alist) (n := list.length) (cap := clist) (kk := .i64) (i := i1) (by kernel_rfl) Try.underlying39 (by kernel_rfl) (rlist.cell hx1).1 hx1l hx1u) ?_
        refine QRun_y (.int .i64 x2) (by kernel_rfl) (Y_load1 (t := 2) (p := adr alist (i1.toNat * 1)) (v := .int .i64 x2) (by kernel_rfl) (fun w => by kernel_rfl) (cd2_cell rlist hx1)) ?_
        refine QRun_b [.int .i64 x2] 2 _ (by kernel_rfl) (fun w => by kernel_rfl) ?_
        exact QRun_done [3, 5, 6, 7, 8] (by kernel_rfl) (by kernel_rfl)
      refine Run_reg 4 (by kernel_rfl) (L' := [(3, .int .i64 (mx s1 x2)), (6, .slice alist list.length clist), (7, .int .i64 (list.length : Int)), (8, .int .i64 i1)]) ?_ ?_
      · refine QRun_b [.int .i64 s1, .int .i64 x2, .int .i64 (mx s1 x2), .int .i64 (mx s1 x2)] 0 _ (by kernel_rfl) (fun w => by kernel_rfl) ?_
        exact QRun_done [3, 6, 7, 8] (by kernel_rfl) (by kernel_rfl)
      refine Run_blk ?_
      refine Run_reg 2 (by kernel_rfl) (L' := [(3, .int .i64 (mx s1 x2)), (6, .slice alist list.length clist), (7, .int .i64 (list.length : Int)), (8, .int .i64 (i1 + 1))]) ?_ ?_
      · refine QRun_y (.int .i64 (i1 + 1)) (by kernel_rfl) (Y_eq (v := .int .i64 (w64 (i1 + 1))) (Y_pure (fun w => by kernel_rfl)) (by rw [w64_eq _ (by omega)])) ?_
        refine QRun_b [.int .i64 (i1 + 1)] 1 _ (by kernel_rfl) (fun w => by kernel_rfl) ?_
        exact QRun_done [3, 6, 7, 8] (by kernel_rfl) (by kernel_rfl)
      have hB1 := M.ret_some hB1
      have gx1 := hgoy1 _ hB1.symm
      exact Run_again [3, 6, 7, 8] (by kernel_rfl) my1 (Nat.lt_succ_self _) ⟨i1 + 1, (mx s1 x2), by omega, gx1, rfl, rfl⟩
    · have gx1 := M.for_end gx1 hb1
      subst gx1
      refine Run_exit (k' := _) rfl ?_
      exact Run_fall [3] (by kernel_rfl) ⟨rfl, rfl⟩

set_option maxRecDepth 100000 in
set_option maxHeartbeats 4000000 in
theorem w_impl_IsPolynomial (h : Heap) (c_ : List Int) {Sc_ : Bs} (ac_ : Option Addr) (cc_ : Nat) (rc_ : Rd cd2 h Sc_ ac_ cc_ c_) (n : Nat) (r : Bool) (hF : impl_IsPolynomial c_ n = some r) :
    Fn Try.prog 114 #[.slice ac_ c_.length cc_] h fun v h' => v = .bool r ∧ h' = h := by
  unfold impl_IsPolynomial at hF
  refine Fn_enter (args := [.slice ac_ c_.length cc_]) Try.func114 rfl (by kernel_rfl) (by kernel_rfl) (fun w0 _ => ?_)
  refine Run_seq ?_
  refine Run_reg 1 (by kernel_rfl) (L' := [(0, .slice ac_ c_.length cc_)]) ?_ ?_
  · refine QRun_b [.bool false] 0 _ (by kernel_rfl) (fun w => by kernel_rfl) ?_
    exact QRun_done [0] (by kernel_rfl) (by kernel_rfl)
  refine Run_seq ?_
  obtain ⟨x1, hx1, hF⟩ := M.bind_some hF
  obtain ⟨x2, gx2, hF⟩ := M.bind_some hF
  obtain ⟨x4, gx4, hF⟩ := M.bind_some hF
  refine Run_reg 13 (by kernel_rfl) (L' := [(2, .bool x4)]) ?_ ?_
  · refine QRun_b [.slice ac_ c_.length cc_, .int .i64 (c_.length : Int)] 0 _ (by kernel_rfl) (fun w => by kernel_rfl) ?_
    refine QRun_y (.bool x1) (by kernel_rfl) (Y_callq (f := 108) (args := #[.int .i64 (c_.length : Int), .int .i64 1, .int .i64 12]) (v := .bool x1) (by kernel_rfl) (w_impl_within h (c_.length : Int) 1 12 _ _ hx1)) ?_
    refine QRun_seq 7 [(0, .slice ac_ c_.length cc_), (9, .bool x2)] ?_ ?_
    · rcases Bool.eq_false_or_eq_true x1 with hb1 | hb1
      · refine QRun_bool x1 true (by kernel_rfl) (fun w => by kernel_rfl) hb1 ?_
        have gx2 := (M.ite_some gx2).1 hb1
        obtain ⟨x3, hx2, gx2⟩ := M.bind_some gx2
        have gx2 := M.ret_some gx2
        refine QRun_b [.slice ac_ c_.length cc_] 4 _ (by kernel_rfl) (fun w => by kernel_rfl) ?_
        refine QRun_y (.bool x3) (by kernel_rfl) (Y_callq (f := 96) (args := #[.slice ac_ c_.length cc_]) (v := .bool x3) (by kernel_rfl) (w_impl_areValues h c_ ac_ cc_ rc_ _ _ hx2)) ?_
        refine QRun_bool x3 x2 (by kernel_rfl) (fun w => by kernel_rfl) gx2 ?_
        exact QRun_done [0, 9] (by kernel_rfl) (by kernel_rfl)
      · refine QRun_bool x1 false (by kernel_rfl) (fun w => by kernel_rfl) hb1 ?_
        have gx2 := M.ret_some ((M.ite_some gx2).2 hb1)
        refine QRun_n (by kernel_rfl) ?_
        refine QRun_n (by kernel_rfl) ?_
        refine QRun_bool false x2 (by kernel_rfl) (fun w => by kernel_rfl) gx2 ?_
        exact QRun_done [0, 9] (by kernel_rfl) (by kernel_rfl)
    refine QRun_seq 12 [(14, .bool x4)] ?_ ?_
    · rcases Bool.eq_false_or_eq_true x2 with hb2 | hb2
      · refine QRun_bool x2 true (by kernel_rfl) (fun w => by kernel_rfl) hb2 ?_
        have gx4 := (M.ite_some gx4).1 hb2
        obtain ⟨x5, hx3, gx4⟩ := M.bind_some gx4
        have gx4 := M.ret_some gx4
        refine QRun_b [.slice ac_ c_.length cc_] 8 _ (by kernel_rfl) (fun w => by kernel_rfl) ?_
        refine QRun_y (.int .i64 x5) (by kernel_rfl) (Y_callq (f := 163) (args := #[.slice ac_ c_.length cc_]) (v := .int .i64 x5) (by kernel_rfl) (w_impl_sumOf h c_ ac_ cc_ rc_ _ _ hx3)) ?_
        refine QRun_b [.bool (x5 != (-1000000000000000))] 10 _ (by kernel_rfl) (fun w => by kernel_rfl) ?_
        refine QRun_bool (x5 != (-1000000000000000)) x4 (by kernel_rfl) (fun w => by kernel_rfl) gx4 ?_
        exact QRun_done [14] (by kernel_rfl) (by kernel_rfl)
      · refine QRun_bool x2 false (by kernel_rfl) (fun w => by kernel_rfl) hb2 ?_
        have gx4 := M.ret_some ((M.ite_some gx4).2 hb2)
        refine QRun_n (by kernel_rfl) ?_
        refine QRun_n (by kernel_rfl) ?_
        refine QRun_n (by kernel_rfl) ?_
        refine QRun_bool false x4 (by kernel_rfl) (fun w => by kernel_rfl) gx4 ?_
        exact QRun_done [14] (by kernel_rfl) (by kernel_rfl)
    refine QRun_b [.bool x4] 12 _ (by kernel_rfl) (fun w => by kernel_rfl) ?_
    exact QRun_done [2] (by kernel_rfl) (by kernel_rfl)
  have hF := M.ret_some hF
  subst hF
  exact Run_ret1 rfl (ResV_tmp (v := .bool x4) (by kernel_rfl)) ⟨rfl, rfl⟩

set_option maxRecDepth 100000 in
set_option maxHeartbeats 4000000 in
theorem w_impl_times (h : Heap) (a_ : Int) (b : Int) (n : Nat) (r : Int) (hF : impl_times a_ b n = some r) :
    Fn Try.prog 94 #[.int .i64 a_, .int .i64 b] h fun v h' => v = .int .i64 r ∧ h' = h := by
  unfold impl_times at hF
  refine Fn_enter (args := [.int .i64 a_, .int .i64 b]) Try.func94 rfl (by kernel_rfl) (by kernel_rfl) (fun w0 _ => ?_)
  refine Run_seq ?_
  refine Run_reg 1 (by kernel_rfl) (L' := [(0, .int .i64 a_), (1, .int .i64 b)]) ?_ ?_
  · refine QRun_b [.int .i64 0] 0 _ (by kernel_rfl) (fun w => by kernel_rfl) ?_
    exact QRun_done [0, 1] (by kernel_rfl) (by kernel_rfl)
  refine Run_seq ?_
  refine Run_seq ?_
  refine Run_reg 6 (by kernel_rfl) (L' := [(0, .int .i64 a_), (1, .int .i64 b), (10, .bool ((a_ == (-1000000000000000)) || (b == (-1000000000000000))))]) ?_ ?_
  · refine QRun_b [.int .i64 a_, .bool (a_ == (-1000000000000000))] 0 _ (by kernel_rfl) (fun w => by kernel_rfl) ?_
    refine QRun_seq 6 [(0, .int .i64 a_), (1, .int .i64 b), (10, .bool ((a_ == (-1000000000000000)) || (b == (-1000000000000000))))] ?_ ?_
    · rcases Bool.eq_false_or_eq_true (a_ == (-1000000000000000)) with hb1 | hb1
      · refine QRun_bool (a_ == (-1000000000000000)) true (by kernel_rfl) (fun w => by kernel_rfl) hb1 ?_
        refine QRun_n (by kernel_rfl) ?_
        refine QRun_n (by kernel_rfl) ?_
        refine QRun_bool true ((a_ == (-1000000000000000)) || (b == (-1000000000000000))) (by kernel_rfl) (fun w => by kernel_rfl) (by rw [hb1]; rfl) ?_
        exact QRun_done [0, 1, 10] (by kernel_rfl) (by kernel_rfl)
      · refine QRun_bool (a_ == (-1000000000000000)) false (by kernel_rfl) (fun w => by kernel_rfl) hb1 ?_
        refine QRun_b [.int .i64 b, .bool (b == (-1000000000000000))] 3 _ (by kernel_rfl) (fun w => by kernel_rfl) ?_
        refine QRun_bool (b == (-1000000000000000)) ((a_ == (-1000000000000000)) || (b == (-1000000000000000))) (by kernel_rfl) (fun w => by kernel_rfl) (by rw [hb1]; rfl) ?_
        exact QRun_done [0, 1, 10] (by kernel_rfl) (by kernel_rfl)
    exact QRun_done [0, 1, 10] (by kernel_rfl) (by kernel_rfl)
  refine Run_cond (b := (a_ == (-1000000000000000)) || (b == (-1000000000000000))) (by kernel_rfl) (fun hb2 => ?_) (fun hb2 => ?_)
  · have hF := (M.ite_some hF).1 hb2
    refine Run_seq ?_
    refine Run_reg 1 (by kernel_rfl) (L' := [(4, .int .i64 (-1000000000000000))]) ?_ ?_
    · refine QRun_b [.int .i64 (-1000000000000000)] 0 _ (by kernel_rfl) (fun w => by kernel_rfl) ?_
      exact QRun_done [4] (by kernel_rfl) (by kernel_rfl)
    have hF := M.ret_some hF
    subst hF
    exact Run_ret1 rfl (ResV_tmp (v := .int .i64 (-1000000000000000)) (by kernel_rfl)) ⟨rfl, rfl⟩
  · have hF := (M.ite_some hF).2 hb2
    refine Run_skip ?_
    refine Run_seq ?_
    refine Run_reg 4 (by kernel_rfl) (L' := [(4, .int .i64 (w64 (a_ + b)))]) ?_ ?_
    · refine QRun_b [.int .i64 a_, .int .i64 b, .int .i64 (w64 (a_ + b)), .int .i64 (w64 (a_ + b))] 0 _ (by kernel_rfl) (fun w => by kernel_rfl) ?_
      exact QRun_done [4] (by kernel_rfl) (by kernel_rfl)
    have hF := M.ret_some hF
    subst hF
    exact Run_ret1 rfl (ResV_tmp (v := .int .i64 (w64 (a_ + b))) (by kernel_rfl)) ⟨rfl, rfl⟩

set_option maxRecDepth 100000 in
set_option maxHeartbeats 4000000 in
theorem w_impl_checkedVector (h : Heap) (x_ : List Int) (ax_ : Option Addr) (cx_ : Nat) (rx_ : Rd cd2 h (Lt h) ax_ cx_ x_) (n : Nat) (r : (List Int) × Int) (hF : impl_checkedVector x_ n = some r) :
    Fn Try.prog 115 #[.slice ax_ x_.length cx_] h fun v h' => ∃ (a0 : Option Addr) (c0 : Nat), v = .tuple #[.slice a0 r.1.length c0, .int .i64 r.2] ∧ Ali a0 ax_ c0 cx_ r.1 x_ ∧ Hold h h' [] := by
  unfold impl_checkedVector at hF
  refine Fn_enter (args := [.slice ax_ x_.length cx_]) Try.func115 rfl (by kernel_rfl) (by kernel_rfl) (fun w0 _ => ?_)
  have H0 := Hold.init h
  refine Run_seq ?_
  refine Run_reg 2 (by kernel_rfl) (L' := [(0, .slice ax_ x_.length cx_)]) ?_ ?_
  · refine QRun_b [.slice none 0 0, .int .i64 0] 0 _ (by kernel_rfl) (fun w => by kernel_rfl) ?_
    exact QRun_done [0] (by kernel_rfl) (by kernel_rfl)
  refine Run_seq ?_
  refine Run_seq ?_
  obtain ⟨x1, hx1, hF⟩ := M.bind_some hF
  refine Run_reg 3 (by kernel_rfl) (L' := [(0, .slice ax_ x_.length cx_), (6, .bool (!x1))]) ?_ ?_
  · refine QRun_b [.slice ax_ x_.length cx_] 0 _ (by kernel_rfl) (fun w => by kernel_rfl) ?_
    refine QRun_y (.bool x1) (by kernel_rfl) (Y_callq (f := 96) (args := #[.slice ax_ x_.length cx_]) (v := .bool x1) (by kernel_rfl) (w_impl_areValues h x_ ax_ cx_ rx_ _ _ hx1)) ?_
    refine QRun_b [.bool (!x1)] 2 _ (by kernel_rfl) (fun w => by kernel_rfl) ?_
    exact QRun_done [0, 6] (by kernel_rfl) (by kernel_rfl)
  refine Run_cond (b := !x1) (by kernel_rfl) (fun hb1 => ?_) (fun hb1 => ?_)
  · have hF := (M.ite_some hF).1 hb1
    refine Run_seq ?_
    refine Run_reg 2 (by kernel_rfl) (L' := [(2, .slice none 0 0), (3, .int .i64 3)]) ?_ ?_
    · refine QRun_b [.slice none 0 0, .int .i64 3] 0 _ (by kernel_rfl) (fun w => by kernel_rfl) ?_
      exact QRun_done [2, 3] (by kernel_rfl) (by kernel_rfl)
    have hF := M.ret_some hF
    subst hF
    exact Run_ret2 rfl (ResV_tmp (v := .slice none 0 0) (by kernel_rfl)) (ResV_tmp (v := .int .i64 3) (by kernel_rfl)) ⟨none, 0, rfl, .inr ⟨rfl, rfl, rfl⟩, H0⟩
  · have hF := (M.ite_some hF).2 hb1
    refine Run_skip ?_
    refine Run_seq ?_
    refine Run_reg 3 (by kernel_rfl) (L' := [(2, .slice ax_ x_.length cx_), (3, .int .i64 0)]) ?_ ?_
    · refine QRun_b [.slice ax_ x_.length cx_, .slice ax_ x_.length cx_, .int .i64 0] 0 _ (by kernel_rfl) (fun w => by kernel_rfl) ?_
      exact QRun_done [2, 3] (by kernel_rfl) (by kernel_rfl)
    have hF := M.ret_some hF
    subst hF
    exact Run_ret2 rfl (ResV_tmp (v := .slice ax_ x_.length cx_) (by kernel_rfl)) (ResV_tmp (v := .int .i64 0) (by kernel_rfl)) ⟨ax_, cx_, rfl, .inl ⟨rfl, rfl, rfl⟩, H0⟩

set_option maxRecDepth 100000 in
set_option maxHeartbeats 4000000 in
theorem w_impl_MultiplyPolynomials (h : Heap) (c_ : List Int) (ac_ : Option Addr) (cc_ : Nat) (rc_ : Rd cd2 h (Lt h) ac_ cc_ c_) (d : List Int) (ad : Option Addr) (cd : Nat) (rd : Rd cd2 h (Lt h) ad cd d) (n : Nat) (r : (List Int) × Int) (hF : impl_MultiplyPolynomials c_ d n = some r) :
    Fn Try.prog 42 #[.slice ac_ c_.length cc_, .slice ad d.length cd] h fun v h' => ∃ (a0 : Option Addr) (c0 : Nat), v = .tuple #[.slice a0 r.1.length c0, .int .i64 r.2] ∧ Hold h h' [own cd2 a0 r.1.length c0 r.1] := by
  unfold impl_MultiplyPolynomials at hF
  refine Fn_enter (args := [.slice ac_ c_.length cc_, .slice ad d.length cd]) Try.func42 rfl (by kernel_rfl) (by kernel_rfl) (fun w0 _ => ?_)
  have H0 := Hold.init h
  refine Run_seq ?_
  refine Run_reg 2 (by kernel_rfl) (L' := [(0, .slice ac_ c_.length cc_), (1, .slice ad d.length cd)]) ?_ ?_
  · refine QRun_b [.slice none 0 0, .int .i64 0] 0 _ (by kernel_rfl) (fun w => by kernel_rfl) ?_
    exact QRun_done [0, 1] (by kernel_rfl) (by kernel_rfl)
  refine Run_seq ?_
  refine Run_seq ?_
  obtain ⟨x1, hx1, hF⟩ := M.bind_some hF
  obtain ⟨x2, gx2, hF⟩ := M.bind_some hF
  refine Run_reg 8 (by kernel_rfl) (L' := [(0, .slice ac_ c_.length cc_), (1, .slice ad d.length cd), (19, .bool x2)]) ?_ ?_
  · refine QRun_b [.slice ac_ c_.length cc_] 0 _ (by kernel_rfl) (fun w => by kernel_rfl) ?_
    refine QRun_y (.bool x1) (by kernel_rfl) (Y_callq (f := 114) (args := #[.slice ac_ c_.length cc_]) (v := .bool x1) (by kernel_rfl) (w_impl_IsPolynomial h c_ ac_ cc_ rc_ _ _ hx1)) ?_
    refine QRun_b [.bool (!x1)] 2 _ (by kernel_rfl) (fun w => by kernel_rfl) ?_
    refine QRun_seq 8 [(0, .slice ac_ c_.length cc_), (1, .slice ad d.length cd), (19, .bool x2)] ?_ ?_
    · rcases Bool.eq_false_or_eq_true (!x1) with hb1 | hb1
      · refine QRun_bool (!x1) true (by kernel_rfl) (fun w => by kernel_rfl) hb1 ?_
        have gx2 := M.ret_some ((M.ite_some gx2).1 hb1)
        refine QRun_n (by kernel_rfl) ?_
        refine QRun_n (by kernel_rfl) ?_
        refine QRun_n (by kernel_rfl) ?_
        refine QRun_bool true x2 (by kernel_rfl) (fun w => by kernel_rfl) gx2 ?_
        exact QRun_done [0, 1, 19] (by kernel_rfl) (by kernel_rfl)
      · refine QRun_bool (!x1) false (by kernel_rfl) (fun w => by kernel_rfl) hb1 ?_
        have gx2 := (M.ite_some gx2).2 hb1
        obtain ⟨x3, hx2, gx2⟩ := M.bind_some gx2
        have gx2 := M.ret_some gx2
        refine QRun_b [.slice ad d.length cd] 4 _ (by kernel_rfl) (fun w => by kernel_rfl) ?_
        refine QRun_y (.bool x3) (by kernel_rfl) (Y_callq (f := 114) (args := #[.slice ad d.length cd]) (v := .bool x3) (by kernel_rfl) (w_impl_IsPolynomial h d ad cd rd _ _ hx2)) ?_
        refine QRun_b [.bool (!x3)] 6 _ (by kernel_rfl) (fun w => by kernel_rfl) ?_
        refine QRun_bool (!x3) x2 (by kernel_rfl) (fun w => by kernel_rfl) gx2 ?_
        exact QRun_done [0, 1, 19] (by kernel_rfl) (by kernel_rfl)
    exact QRun_done [0, 1, 19] (by kernel_rfl) (by kernel_rfl)
  refine Run_cond (b := x2) (by kernel_rfl) (fun hb2 => ?_) (fun hb2 => ?_)
  · have hF := (M.ite_some hF).1 hb2
    refine Run_seq ?_
    refine Run_reg 2 (by kernel_rfl) (L' := [(4, .slice none 0 0), (5, .int .i64 1)]) ?_ ?_
    · refine QRun_b [.slice none 0 0, .int .i64 1] 0 _ (by kernel_rfl) (fun w => by kernel_rfl) ?_
      exact QRun_done [4, 5] (by kernel_rfl) (by kernel_rfl)
    have hF := M.ret_some hF
    subst hF
    have H1 := H0.empty cd2
    exact Run_ret2 rfl (ResV_tmp (v := .slice none 0 0) (by kernel_rfl)) (ResV_tmp (v := .int .i64 1) (by kernel_rfl)) ⟨none, 0, rfl, H1⟩
  · have hF := (M.ite_some hF).2 hb2
    refine Run_skip ?_
    refine Run_seq ?_
    refine Run_ops ?_
    refine Run_b [.slice ac_ c_.length cc_, .int .i64 (c_.length : Int), .slice ad d.length cd, .int .i64 (d.length : Int), .int .i64 (w64 ((c_.length : Int) + (d.length : Int))), .int .i64 (w64 ((w64 ((c_.length : Int) + (d.length : Int))) - 1))] 0 _ (by kernel_rfl) (fun w => by kernel_rfl) ?_
    obtain ⟨l1, hl1, hF⟩ := M.bind_some hF
    have hl1 := M.make_some hl1
    refine Run_E (by kernel_rfl) ?_
    refine E_make cd2 0 (kl := .i64) (kc := .i64) H0 cd2_ti Try.underlying39 (by decide) cd2_zero (by kernel_rfl) hl1 (fun a1 h1 H2 => ?_)
    refine Run_b [.slice a1 l1.length l1.length] 7 _ (by kernel_rfl) (fun w => by kernel_rfl) ?_
    refine Run_nil (by kernel_rfl) ?_
    refine Run_keep [0, 1, 6] (L' := [(0, .slice ac_ c_.length cc_), (1, .slice ad d.length cd), (6, .slice a1 l1.length l1.length)]) (by kernel_rfl) ?_
    refine Run_seq ?_
    refine Run_seq ?_
    refine Run_reg 3 (by kernel_rfl) (L' := [(0, .slice ac_ c_.length cc_), (1, .slice ad d.length cd), (6, .slice a1 l1.length l1.length), (29, .bool (decide (12 < (l1.length : Int))))]) ?_ ?_
    · refine QRun_b [.slice a1 l1.length l1.length, .int .i64 (l1.length : Int), .bool (decide (12 < (l1.length : Int)))] 0 _ (by kernel_rfl) (fun w => by kernel_rfl) ?_
      exact QRun_done [0, 1, 6, 29] (by kernel_rfl) (by kernel_rfl)
    refine Run_cond (b := decide (12 < (l1.length : Int))) (by kernel_rfl) (fun hb3 => ?_) (fun hb3 => ?_)
    · have hF := (M.ite_some hF).1 hb3
      refine Run_seq ?_
      refine Run_reg 2 (by kernel_rfl) (L' := [(4, .slice none 0 0), (5, .int .i64 3)]) ?_ ?_
      · refine QRun_b [.slice none 0 0, .int .i64 3] 0 _ (by kernel_rfl) (fun w => by kernel_rfl) ?_
        exact QRun_done [4, 5] (by kernel_rfl) (by kernel_rfl)
      have hF := M.ret_some hF
      subst hF
      have H3 := H2.empty cd2
      have H4 : Hold h h1 [own cd2 none 0 0 []] := H3.pick [0] (by kernel_rfl)
      exact Run_ret2 rfl (ResV_tmp (v := .slice none 0 0) (by kernel_rfl)) (ResV_tmp (v := .int .i64 3) (by kernel_rfl)) ⟨none, 0, rfl, H4⟩
    · have hF := (M.ite_some hF).2 hb3
      refine Run_skip ?_
      refine Run_seq ?_
      refine Run_seq ?_
      refine Run_reg 3 (by kernel_rfl) (L' := [(0, .slice ac_ c_.length cc_), (1, .slice ad d.length cd), (6, .slice a1 l1.length l1.length), (31, .int .i64 (l1.length : Int)), (32, .int .i64 0)]) ?_ ?_
      · refine QRun_b [.slice a1 l1.length l1.length, .int .i64 (l1.length : Int), .int .i64 0] 0 _ (by kernel_rfl) (fun w => by kernel_rfl) ?_
        exact QRun_done [0, 1, 6, 31, 32] (by kernel_rfl) (by kernel_rfl)
      obtain ⟨x4, gx4, hF⟩ := M.bind_some hF
      obtain ⟨hloy1, hhiy1, gx4⟩ := M.for_start gx4
      refine Run_join (fun L' h' => L' = [(0, .slice ac_ c_.length cc_), (1, .slice ad d.length cd), (6, .slice a1 l1.length l1.length)] ∧ Hold h h' [own cd2 a1 l1.length l1.length x4]) ?_ ?_
      · rintro _ h3 ⟨rfl, H6⟩
        refine Run_seq ?_
        refine Run_seq ?_
        refine Run_reg 3 (by kernel_rfl) (L' := [(1, .slice ad d.length cd), (6, .slice a1 l1.length l1.length), (39, .slice ac_ c_.length cc_), (40, .int .i64 (c_.length : Int)), (41, .int .i64 0)]) ?_ ?_
        · refine QRun_b [.slice ac_ c_.length cc_, .int .i64 (c_.length : Int), .int .i64 0] 0 _ (by kernel_rfl) (fun w => by kernel_rfl) ?_
          exact QRun_done [1, 6, 39, 40, 41] (by kernel_rfl) (by kernel_rfl)
        obtain ⟨x6, gx6, hF⟩ := M.bind_some hF
        obtain ⟨hloy2, hhiy2, gx6⟩ := M.for_start gx6
        refine Run_join (fun L' h' => L' = [(6, .slice a1 l1.length l1.length)] ∧ Hold h h' [own cd2 a1 l1.length l1.length x6]) ?_ ?_
        · rintro _ h6 ⟨rfl, H9⟩
          refine Run_seq ?_
          refine Run_ops ?_
          refine Run_b [.slice a1 l1.length l1.length] 0 _ (by kernel_rfl) (fun w => by kernel_rfl) ?_
          obtain ⟨x13, hx9, hF⟩ := M.bind_some hF
          refine Run_E (by kernel_rfl) ?_
          refine E_call (f := 115) (args := #[.slice a1 l1.length l1.length]) (Fn.arg (w_impl_checkedVector h6 x6 a1 l1.length (H9.rd 0 rfl) _ _ hx9) (by simp only [(H9.len 0 rfl)])) (by kernel_rfl) (fun v1 h11 hp1 => ?_)
          obtain ⟨a2, c1, rfl, hd1, H15⟩ := hp1
          have H16 : Hold h h11 [own cd2 a1 l1.length l1.length x6] := H9.call H15 rfl
          have H17 := H16.alias hd1
          refine Run_b [.slice a2 x13.1.length c1, .int .i64 x13.2, .slice a2 x13.1.length c1, .int .i64 x13.2] 2 _ (by kernel_rfl) (fun w => by kernel_rfl) ?_
          refine Run_nil (by kernel_rfl) ?_
          refine Run_keep [4, 5] (L' := [(4, .slice a2 x13.1.length c1), (5, .int .i64 x13.2)]) (by kernel_rfl) ?_
          have hF := M.ret_some hF
          subst hF
          exact Run_ret2 rfl (ResV_tmp (v := .slice a2 x13.1.length c1) (by kernel_rfl)) (ResV_tmp (v := .int .i64 x13.2) (by kernel_rfl)) ⟨a2, c1, rfl, H17⟩
        · refine Run_block ?_
          refine Run_keep [1, 6, 39, 40, 41] (L' := [(1, .slice ad d.length cd), (6, .slice a1 l1.length l1.length), (39, .slice ac_ c_.length cc_), (40, .int .i64 (c_.length : Int)), (41, .int .i64 0)]) (by kernel_rfl) ?_
          refine Run_loop (fun m L' h' => ∃ (i2 : Int) (s2 : (List Int)), 0 ≤ i2 ∧ M.forN (c_.length : Int) _ _ n m i2 s2 = some x6 ∧ L' = [(1, .slice ad d.length cd), (6, .slice a1 l1.length l1.length), (39, .slice ac_ c_.length cc_), (40, .int .i64 (c_.length : Int)), (41, .int .i64 i2)] ∧ Hold h h' [own cd2 a1 l1.length l1.length s2]) ((c_.length : Int) - 0 : Int).toNat ⟨0, x4, Int.le_refl _, gx6, rfl, H6⟩ ?_
          rintro my2 _ h5 ⟨i2, s2, hloy2', gx6, rfl, H8⟩
          refine Run_seq ?_
          refine Run_reg 1 (by kernel_rfl) (L' := [(1, .slice ad d.length cd), (6, .slice a1 l1.length l1.length), (39, .slice ac_ c_.length cc_), (40, .int .i64 (c_.length : Int)), (41, .int .i64 i2), (42, .bool (decide (i2 < (c_.length : Int))))]) ?_ ?_
          · refine QRun_b [.bool (decide (i2 < (c_.length : Int)))] 0 _ (by kernel_rfl) (fun w => by kernel_rfl) ?_
            exact QRun_done [1, 6, 39, 40, 41, 42] (by kernel_rfl) (by kernel_rfl)
          refine Run_seq ?_
          refine Run_cond (b := decide (i2 < (c_.length : Int))) (by kernel_rfl) (fun hb5 => ?_) (fun hb5 => ?_)
          · obtain ⟨my2, y2, rfl, hB2, hgoy2, houty2⟩ := M.for_go gx6 hb5
            have hlty2 := of_decide_eq_true hb5
            refine Run_skip ?_
            refine Run_seq ?_
            refine Run_block ?_
            refine Run_seq ?_
            obtain ⟨x7, hx4, hB2⟩ := M.bind_some hB2
            obtain ⟨hx4l, hx4u, hx4⟩ := M.idx_some hx4
            refine Run_reg 5 (by kernel_rfl) (L' := [(1, .slice ad d.length cd), (6, .slice a1 l1.length l1.length), (8, .int .i64 i2), (9, .int .i64 x7), (39, .slice ac_ c_.length cc_), (40, .int .i64 (c_.length : Int)), (41, .int .i64 i2)]) ?_ ?_
            · refine QRun_b [.int .i64 i2] 0 _ (by kernel_rfl) (fun w => by kernel_rfl) ?_
              refine QRun_y (.pointer (some (adr ac_ (i2.toNat * 1)))) (by kernel_rfl) (Y_idx (t := 39) (e := 2) (sz := 1) (a := ac_) (n := c_.length) (cap := cc_) (kk := .i64) (i := i2) (by kernel_rfl) Try.underlying39 (by kernel_rfl) ((rc_.at H8.ext).cell hx4).1 hx4l hx4u) ?_
              refine QRun_y (.int .i64 x7) (by kernel_rfl) (Y_load1 (t := 2) (p := adr ac_ (i2.toNat * 1)) (v := .int .i64 x7) (by kernel_rfl) (fun w => by kernel_rfl) (cd2_cell (rc_.at H8.ext) hx4)) ?_
              refine QRun_b [.int .i64 i2, .int .i64 x7] 3 _ (by kernel_rfl) (fun w => by kernel_rfl) ?_
              exact QRun_done [1, 6, 8, 9, 39, 40, 41] (by kernel_rfl) (by kernel_rfl)
            refine Run_seq ?_
            refine Run_reg 3 (by kernel_rfl) (L' := [(1, .slice ad d.length cd), (6, .slice a1 l1.length l1.length), (8, .int .i64 i2), (9, .int .i64 x7), (39, .slice ac_ c_.length cc_), (40, .int .i64 (c_.length : Int)), (41, .int .i64 i2), (46, .slice ad d.length cd), (47, .int .i64 (d.length : Int)), (48, .int .i64 0)]) ?_ ?_
            · refine QRun_b [.slice ad d.length cd, .int .i64 (d.length : Int), .int .i64 0] 0 _ (by kernel_rfl) (fun w => by kernel_rfl) ?_
              exact QRun_done [1, 6, 8, 9, 39, 40, 41, 46, 47, 48] (by kernel_rfl) (by kernel_rfl)
            obtain ⟨x8, gx8, hB2⟩ := M.bind_some hB2
            obtain ⟨hloy3, hhiy3, gx8⟩ := M.for_start gx8
            refine Run_join (fun L' h' => L' = [(1, .slice ad d.length cd), (6, .slice a1 l1.length l1.length), (39, .slice ac_ c_.length cc_), (40, .int .i64 (c_.length : Int)), (41, .int .i64 i2)] ∧ Hold h h' [own cd2 a1 l1.length l1.length x8]) ?_ ?_
            · rintro _ h8 ⟨rfl, H11⟩
              refine Run_blk ?_
              refine Run_reg 2 (by kernel_rfl) (L' := [(1, .slice ad d.length cd), (6, .slice a1 l1.length l1.length), (39, .slice ac_ c_.length cc_), (40, .int .i64 (c_.length : Int)), (41, .int .i64 (i2 + 1))]) ?_ ?_
              · refine QRun_y (.int .i64 (i2 + 1)) (by kernel_rfl) (Y_eq (v := .int .i64 (w64 (i2 + 1))) (Y_pure (fun w => by kernel_rfl)) (by rw [w64_eq _ (by omega)])) ?_
                refine QRun_b [.int .i64 (i2 + 1)] 1 _ (by kernel_rfl) (fun w => by kernel_rfl) ?_
                exact QRun_done [1, 6, 39, 40, 41] (by kernel_rfl) (by kernel_rfl)
              have hB2 := M.ret_some hB2
              have gx6 := hgoy2 _ hB2.symm
              exact Run_again [1, 6, 39, 40, 41] (by kernel_rfl) my2 (Nat.lt_succ_self _) ⟨i2 + 1, x8, by omega, gx6, rfl, H11⟩
            · refine Run_block ?_
              refine Run_keep [1, 6, 8, 9, 39, 40, 41, 46, 47, 48] (L' := [(1, .slice ad d.length cd), (6, .slice a1 l1.length l1.length), (8, .int .i64 i2), (9, .int .i64 x7), (39, .slice ac_ c_.length cc_), (40, .int .i64 (c_.length : Int)), (41, .int .i64 i2), (46, .slice ad d.length cd), (47, .int .i64 (d.length : Int)), (48, .int .i64 0)]) (by kernel_rfl) ?_
              refine Run_loop (fun m L' h' => ∃ (i3 : Int) (s3 : (List Int)), 0 ≤ i3 ∧ M.forN (d.length : Int) _ _ n m i3 s3 = some x8 ∧ L' = [(1, .slice ad d.length cd), (6, .slice a1 l1.length l1.length), (8, .int .i64 i2), (9, .int .i64 x7), (39, .slice ac_ c_.length cc_), (40, .int .i64 (c_.length : Int)), (41, .int .i64 i2), (46, .slice ad d.length cd), (47, .int .i64 (d.length : Int)), (48, .int .i64 i3)] ∧ Hold h h' [own cd2 a1 l1.length l1.length s3]) ((d.length : Int) - 0 : Int).toNat ⟨0, s2, Int.le_refl _, gx8, rfl, H8⟩ ?_
              rintro my3 _ h7 ⟨i3, s3, hloy3', gx8, rfl, H10⟩
              refine Run_seq ?_
              refine Run_reg 1 (by kernel_rfl) (L' := [(1, .slice ad d.length cd), (6, .slice a1 l1.length l1.length), (8, .int .i64 i2), (9, .int .i64 x7), (39, .slice ac_ c_.length cc_), (40, .int .i64 (c_.length : Int)), (41, .int .i64 i2), (46, .slice ad d.length cd), (47, .int .i64 (d.length : Int)), (48, .int .i64 i3), (49, .bool (decide (i3 < (d.length : Int))))]) ?_ ?_
              · refine QRun_b [.bool (decide (i3 < (d.length : Int)))] 0 _ (by kernel_rfl) (fun w => by kernel_rfl) ?_
                exact QRun_done [1, 6, 8, 9, 39, 40, 41, 46, 47, 48, 49] (by kernel_rfl) (by kernel_rfl)
              refine Run_seq ?_
              refine Run_cond (b := decide (i3 < (d.length : Int))) (by kernel_rfl) (fun hb6 => ?_) (fun hb6 => ?_)
              · obtain ⟨my3, y3, rfl, hB3, hgoy3, houty3⟩ := M.for_go gx8 hb6
                have hlty3 := of_decide_eq_true hb6
                refine Run_skip ?_
                refine Run_seq ?_
                refine Run_block ?_
                refine Run_seq ?_
                obtain ⟨x9, hx5, hB3⟩ := M.bind_some hB3
                obtain ⟨hx5l, hx5u, hx5⟩ := M.idx_some hx5
                refine Run_reg 5 (by kernel_rfl) (L' := [(1, .slice ad d.length cd), (6, .slice a1 l1.length l1.length), (8, .int .i64 i2), (9, .int .i64 x7), (10, .int .i64 i3), (11, .int .i64 x9), (39, .slice ac_ c_.length cc_), (40, .int .i64 (c_.length : Int)), (41, .int .i64 i2), (46, .slice ad d.length cd), (47, .int .i64 (d.length : Int)), (48, .int .i64 i3)]) ?_ ?_
                · refine QRun_b [.int .i64 i3] 0 _ (by kernel_rfl) (fun w => by kernel_rfl) ?_
                  refine QRun_y (.pointer (some (adr ad (i3.toNat * 1)))) (by kernel_rfl) (Y_idx (t := 39) (e := 2) (sz := 1) (a := ad) (n := d.length) (cap := cd) (kk := .i64) (i := i3) (by kernel_rfl) Try.underlying39 (by kernel_rfl) ((rd.at H10.ext).cell hx5).1 hx5l hx5u) ?_
                  refine QRun_y (.int .i64 x9) (by kernel_rfl) (Y_load1 (t := 2) (p := adr ad (i3.toNat * 1)) (v := .int .i64 x9) (by kernel_rfl) (fun w => by kernel_rfl) (cd2_cell (rd.at H10.ext) hx5)) ?_
                  refine QRun_b [.int .i64 i3, .int .i64 x9] 3 _ (by kernel_rfl) (fun w => by kernel_rfl) ?_
                  exact QRun_done [1, 6, 8, 9, 10, 11, 39, 40, 41, 46, 47, 48] (by kernel_rfl) (by kernel_rfl)
                obtain ⟨x10, hx6, hB3⟩ := M.bind_some hB3
                obtain ⟨hx6l, hx6u, hx6⟩ := M.idx_some hx6
                obtain ⟨x11, hx7, hB3⟩ := M.bind_some hB3
                obtain ⟨x12, hx8, hB3⟩ := M.bind_some hB3
                obtain ⟨hx8l, hx8u, hx8⟩ := M.idx_some hx8
                refine Run_D (fun x => Hold h x [own cd2 a1 l1.length l1.length s3]) (fun x => Hold h x [own cd2 a1 l1.length l1.length s3]) mixed (by kernel_rfl) H10 Hold.stable (fun x Hy => (show Hold h x [own cd2 a1 l1.length l1.length s3] from Hy).pick [0] (by kernel_rfl)) ?_
                refine DR_b 8 [.slice a1 l1.length l1.length, .int .i64 i2, .int .i64 i3, .int .i64 (w64 (i2 + i3)), .slice a1 l1.length l1.length, .int .i64 i2, .int .i64 i3, .int .i64 (w64 (i2 + i3))] 0 (by kernel_rfl) (by kernel_rfl) (by kernel_rfl) (fun w => by kernel_rfl) ?_
                refine DR_y 7 (i := 8) (.pointer (some (adr a1 ((w64 (i2 + i3)).toNat * 1)))) (by kernel_rfl) (by kernel_rfl) (by kernel_rfl) (fun hx Hx => (YE.of (Y_idx (t := 39) (e := 2) (sz := 1) (a := a1) (n := l1.length) (cap := l1.length) (kk := .i64) (i := w64 (i2 + i3)) (by kernel_rfl) Try.underlying39 (by kernel_rfl) ((H10.rd 0 rfl).cell hx6).1 hx6l (by rw [← (H10.len 0 rfl)]; exact hx6u)))) ?_
                refine DR_y 6 (i := 9) (.int .i64 x10) (by kernel_rfl) (by kernel_rfl) (by kernel_rfl) (fun hx Hx => (YE.of (Y_load1 (t := 2) (p := adr a1 ((w64 (i2 + i3)).toNat * 1)) (v := .int .i64 x10) (by kernel_rfl) (fun w => by kernel_rfl) (cd2_cell (Hx.rd 0 rfl) hx6)))) ?_
                refine DR_b 4 [.int .i64 x7, .int .i64 x9] 10 (by kernel_rfl) (by kernel_rfl) (by kernel_rfl) (fun w => by kernel_rfl) ?_
                refine DR_y 3 (i := 12) (.int .i64 x11) (by kernel_rfl) (by kernel_rfl) (by kernel_rfl) (fun hx Hx => (YE.of (Y_callq (f := 94) (args := #[.int .i64 x7, .int .i64 x9]) (v := .int .i64 x11) (by kernel_rfl) (w_impl_times hx x7 x9 _ _ hx7)))) ?_
                refine DR_b 2 [.int .i64 (mx x10 x11)] 13 (by kernel_rfl) (by kernel_rfl) (by kernel_rfl) (fun w => by kernel_rfl) ?_
                refine DR_y 1 (i := 14) (.pointer (some (adr a1 ((w64 (i2 + i3)).toNat * 1)))) (by kernel_rfl) (by kernel_rfl) (by kernel_rfl) (fun hx Hx => (YE.of (Y_idx (t := 39) (e := 2) (sz := 1) (a := a1) (n := l1.length) (cap := l1.length) (kk := .i64) (i := w64 (i2 + i3)) (by kernel_rfl) Try.underlying39 (by kernel_rfl) ((H10.rd 0 rfl).cell hx8).1 hx8l (by rw [← (H10.len 0 rfl)]; exact hx8u)))) ?_
                refine DR_tail (i := 15) (by kernel_rfl) (by kernel_rfl) (by kernel_rfl) (fun h9 H12 => ?_)
                have H13 : Hold h h9 [own cd2 a1 l1.length l1.length s3] := H12
                obtain ⟨l3, hu2, hB3⟩ := M.bind_some hB3
                have hu2 := M.upd_some hu2
                refine Run_E (by kernel_rfl) ?_
                refine E_put (C := cd2) (t := 2) (sz := 1) (j := w64 (i2 + i3)) (x := (mx x10 x11)) (v := .int .i64 (mx x10 x11)) H13 cd2_flat (by kernel_rfl) rfl (cd2_own _) (by kernel_rfl) hu2 (fun h10 H14 => ?_)
                refine Run_nil (by kernel_rfl) ?_
                refine Run_keep [1, 6, 8, 9, 39, 40, 41, 46, 47, 48] (L' := [(1, .slice ad d.length cd), (6, .slice a1 l1.length l1.length), (8, .int .i64 i2), (9, .int .i64 x7), (39, .slice ac_ c_.length cc_), (40, .int .i64 (c_.length : Int)), (41, .int .i64 i2), (46, .slice ad d.length cd), (47, .int .i64 (d.length : Int)), (48, .int .i64 i3)]) (by kernel_rfl) ?_
                refine Run_blk ?_
                refine Run_reg 2 (by kernel_rfl) (L' := [(1, .slice ad d.length cd), (6, .slice a1 l1.length l1.length), (8, .int .i64 i2), (9, .int .i64 x7), (39, .slice ac_ c_.length cc_), (40, .int .i64 (c_.length : Int)), (41, .int .i64 i2), (46, .slice ad d.length cd), (47, .int .i64 (d.length : Int)), (48, .int .i64 (i3 + 1))]) ?_ ?_
                · refine QRun_y (.int .i64 (i3 + 1)) (by kernel_rfl) (Y_eq (v := .int .i64 (w64 (i3 + 1))) (Y_pure (fun w => by kernel_rfl)) (by rw [w64_eq _ (by omega)])) ?_
                  refine QRun_b [.int .i64 (i3 + 1)] 1 _ (by kernel_rfl) (fun w => by kernel_rfl) ?_
                  exact QRun_done [1, 6, 8, 9, 39, 40, 41, 46, 47, 48] (by kernel_rfl) (by kernel_rfl)
                have hB3 := M.ret_some hB3
                have gx8 := hgoy3 _ hB3.symm
                exact Run_again [1, 6, 8, 9, 39, 40, 41, 46, 47, 48] (by kernel_rfl) my3 (Nat.lt_succ_self _) ⟨i3 + 1, l3, by omega, gx8, rfl, H14⟩
              · have gx8 := M.for_end gx8 hb6
                subst gx8
                refine Run_exit (k' := _) rfl ?_
                exact Run_fall [1, 6, 39, 40, 41] (by kernel_rfl) ⟨rfl, H10⟩
          · have gx6 := M.for_end gx6 hb5
            subst gx6
            refine Run_exit (k' := _) rfl ?_
            exact Run_fall [6] (by kernel_rfl) ⟨rfl, H8⟩
      · refine Run_block ?_
        refine Run_keep [0, 1, 6, 31, 32] (L' := [(0, .slice ac_ c_.length cc_), (1, .slice ad d.length cd), (6, .slice a1 l1.length l1.length), (31, .int .i64 (l1.length : Int)), (32, .int .i64 0)]) (by kernel_rfl) ?_
        refine Run_loop (fun m L' h' => ∃ (i1 : Int) (s1 : (List Int)), 0 ≤ i1 ∧ M.forN (l1.length : Int) _ _ n m i1 s1 = some x4 ∧ L' = [(0, .slice ac_ c_.length cc_), (1, .slice ad d.length cd), (6, .slice a1 l1.length l1.length), (31, .int .i64 (l1.length : Int)), (32, .int .i64 i1)] ∧ Hold h h' [own cd2 a1 l1.length l1.length s1]) ((l1.length : Int) - 0 : Int).toNat ⟨0, l1, Int.le_refl _, gx4, rfl, H2⟩ ?_
        rintro my1 _ h2 ⟨i1, s1, hloy1', gx4, rfl, H5⟩
        refine Run_seq ?_
        refine Run_reg 1 (by kernel_rfl) (L' := [(0, .slice ac_ c_.length cc_), (1, .slice ad d.length cd), (6, .slice a1 l1.length l1.length), (31, .int .i64 (l1.length : Int)), (32, .int .i64 i1), (33, .bool (decide (i1 < (l1.length : Int))))]) ?_ ?_
        · refine QRun_b [.bool (decide (i1 < (l1.length : Int)))] 0 _ (by kernel_rfl) (fun w => by kernel_rfl) ?_
          exact QRun_done [0, 1, 6, 31, 32, 33] (by kernel_rfl) (by kernel_rfl)
        refine Run_seq ?_
        refine Run_cond (b := decide (i1 < (l1.length : Int))) (by kernel_rfl) (fun hb4 => ?_) (fun hb4 => ?_)
        · obtain ⟨my1, y1, rfl, hB1, hgoy1, houty1⟩ := M.for_go gx4 hb4
          have hlty1 := of_decide_eq_true hb4
          refine Run_skip ?_
          refine Run_seq ?_
          refine Run_block ?_
          refine Run_seq ?_
          refine Run_reg 2 (by kernel_rfl) (L' := [(0, .slice ac_ c_.length cc_), (1, .slice ad d.length cd), (6, .slice a1 l1.length l1.length), (7, .int .i64 i1), (31, .int .i64 (l1.length : Int)), (32, .int .i64 i1)]) ?_ ?_
          · refine QRun_b [.int .i64 i1, .int .i64 i1] 0 _ (by kernel_rfl) (fun w => by kernel_rfl) ?_
            exact QRun_done [0, 1, 6, 7, 31, 32] (by kernel_rfl) (by kernel_rfl)
          refine Run_ops ?_
          obtain ⟨x5, hx3, hB1⟩ := M.bind_some hB1
          obtain ⟨hx3l, hx3u, hx3⟩ := M.idx_some hx3
          refine Run_b [.slice a1 l1.length l1.length, .int .i64 i1] 0 _ (by kernel_rfl) (fun w => by kernel_rfl) ?_
          refine Run_y (.pointer (some (adr a1 (i1.toNat * 1)))) (by kernel_rfl) (Y_idx (t := 39) (e := 2) (sz := 1) (a := a1) (n := l1.length) (cap := l1.length) (kk := .i64) (i := i1) (by kernel_rfl) Try.underlying39 (by kernel_rfl) ((H5.rd 0 rfl).cell hx3).1 hx3l (by rw [← (H5.len 0 rfl)]; exact hx3u)) ?_
          obtain ⟨l2, hu1, hB1⟩ := M.bind_some hB1
          have hu1 := M.upd_some hu1
          refine Run_E (by kernel_rfl) ?_
          refine E_put (C := cd2) (t := 2) (sz := 1) (j := i1) (x := (-1000000000000000)) (v := .int .i64 (-1000000000000000)) H5 cd2_flat (by kernel_rfl) rfl (cd2_own _) (by kernel_rfl) hu1 (fun h4 H7 => ?_)
          refine Run_nil (by kernel_rfl) ?_
          refine Run_keep [0, 1, 6, 31, 32] (L' := [(0, .slice ac_ c_.length cc_), (1, .slice ad d.length cd), (6, .slice a1 l1.length l1.length), (31, .int .i64 (l1.length : Int)), (32, .int .i64 i1)]) (by kernel_rfl) ?_
          refine Run_blk ?_
          refine Run_reg 2 (by kernel_rfl) (L' := [(0, .slice ac_ c_.length cc_), (1, .slice ad d.length cd), (6, .slice a1 l1.length l1.length), (31, .int .i64 (l1.length : Int)), (32, .int .i64 (i1 + 1))]) ?_ ?_
          · refine QRun_y (.int .i64 (i1 + 1)) (by kernel_rfl) (Y_eq (v := .int .i64 (w64 (i1 + 1))) (Y_pure (fun w => by kernel_rfl)) (by rw [w64_eq _ (by omega)])) ?_
            refine QRun_b [.int .i64 (i1 + 1)] 1 _ (by kernel_rfl) (fun w => by kernel_rfl) ?_
            exact QRun_done [0, 1, 6, 31, 32] (by kernel_rfl) (by kernel_rfl)
          have hB1 := M.ret_some hB1
          have gx4 := hgoy1 _ hB1.symm
          exact Run_again [0, 1, 6, 31, 32] (by kernel_rfl) my1 (Nat.lt_succ_self _) ⟨i1 + 1, l2, by omega, gx4, rfl, H7⟩
        · have gx4 := M.for_end gx4 hb4
          subst gx4
          refine Run_exit (k' := _) rfl ?_
          exact Run_fall [0, 1, 6] (by kernel_rfl) ⟨rfl, H5⟩

end Go.Proofs.Ytipdgiljgbjjkaa
