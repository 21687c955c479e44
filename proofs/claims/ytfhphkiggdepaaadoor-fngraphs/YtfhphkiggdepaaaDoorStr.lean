/-
  Strings, and the library's decimal numerals by the kit's contract.
-/
import Derived.Test.YtfhphkiggdepaaaDoorRow
import Derived.Laws.BytesString
import Derived.Shelf.Strconv.Itoa4
import Derived.Shelf.Strconv.ParseIntPublic10
import Derived.Shelf.Strings.Split
import Derived.Shelf.Strings.Cut
namespace Go.Proofs.YtfhphkiggdepaaaDoor
open Go
section
variable {P : Program} {w0 : World} {L : Env} {D : Heap → Prop} {o : Oper}
theorem Y_cat {a b x : ByteArray} {k : Nat} (h : M.cat a b k = some x) (he : execOp (rho L) o = (do pure (.value (← Op.stringOp .add a b)))) : Y P w0 D L o (.string x) := by
  obtain ⟨h1, rfl⟩ := M.cat_some h
  have h2 : ¬ (((a.size + b.size : Nat) : Int) > IntKind.i64.max) := by
    have : IntKind.i64.max = 9223372036854775807 := by kernel_rfl
    omega
  intro w _
  rw [he]
  simp only [Op.stringOp, if_neg h2]
  simp [Oper.quietUpon]
theorem Y_sidx {s : ByteArray} {kk : IntKind} {i x : Int} {k t : Nat} (h : M.sidx s i k = some x) (ht : P.underlying t = some .string) (he : execOp (rho L) o = (do pure (.value (← Instr.index t (.string s) (.int kk i))))) : Y P w0 D L o (.int .u8 x) := by
  obtain ⟨h0, b, hb, rfl⟩ := M.sidx_some h
  intro w _
  rw [he]
  simp [Instr.index, asIntOf, run_underlying ht, h0, hb, Oper.quietUpon]
theorem Y_ssub {s r : ByteArray} {k t : Nat} {lo hi : Option (IntKind × Int)} {x y : Int} (h : M.ssub s x y k = some r) (ex : x = (lo.map (·.2)).getD 0) (ey : y = (hi.map (·.2)).getD ((s.size : Nat) : Int)) (ht : P.underlying t = some .string)
    (he : execOp (rho L) o = (do pure (.value (← Instr.sliceAt t (.string s) (lo.map fun p => .int p.1 p.2) (hi.map fun p => .int p.1 p.2) none)))) : Y P w0 D L o (.string r) := by
  obtain ⟨b0, b1, b2, rfl⟩ := M.ssub_some h
  intro w _
  rw [he]
  have key : (Instr.sliceBounds false s.size s.size (lo.map fun p => .int p.1 p.2) (hi.map fun p => .int p.1 p.2) none).run P w = .ok (x.toNat, y.toNat, s.size) w := by
    have c1 : ((y.toNat : Nat) : Int) = y := by omega
    cases lo with
    | none =>
      simp only [Option.map_none, Option.getD_none] at ex
      subst ex
      cases hi with
      | none => simp only [Option.map_none, Option.getD_none] at ey; subst ey; simp [Instr.sliceBounds]
      | some q => simp only [Option.map_some, Option.getD_some] at ey; subst ey; simp [Instr.sliceBounds, Instr.sliceBound, asIntOf, b2, show (0:Int) ≤ q.2 by omega]
    | some p =>
      simp only [Option.map_some, Option.getD_some] at ex
      subst ex
      cases hi with
      | none => simp only [Option.map_none, Option.getD_none] at ey; subst ey; simp [Instr.sliceBounds, Instr.sliceBound, asIntOf, b0, b1]
      | some q => simp only [Option.map_some, Option.getD_some] at ey; subst ey; simp [Instr.sliceBounds, Instr.sliceBound, asIntOf, b0, b1, b2, show (0:Int) ≤ q.2 by omega, c1]
  simp only [Instr.sliceAt, Instr.slice, Sem.run_bind, run_underlying ht, Result.andThen_ok, Option.isSome_none, Bool.false_eq_true, if_false, key, Sem.run_pure]
  simp [Oper.quietUpon]
/-- bytes as a string -/
theorem Y_toS {C : Cd Int} {h : Heap} {B : Bs} {a : Option Addr} {cap n t s e : Nat} {l : List Int} (r : Rd C h B a cap l) (hz : C.sz = 1) (hC : ∀ vs x, C.rd h B x vs → vs = [.int .u8 x]) (hn : n = l.length) (ht : P.underlying t = some (.slice e)) (hs : P.underlying s = some .string) (hE : P.underlying e = some (.int .u8))
    (he : execOp (rho L) o = (do pure (.value (← convert t s (.slice a n cap))))) : Y P w0 (· = h) L o (.string (toS l)) := by
  subst hn
  intro w hw
  rw [he]
  have hrun : (Conv.bytesToString (.slice a l.length cap)).run P w = .ok (.string (toS l)) w := by
    cases a with
    | none =>
      have : l = [] := r.isNone rfl
      subst this
      simp [Conv.bytesToString, toS]
    | some p =>
      refine run_bytesToString w p l.length cap l ?_
      have := run_loadCells (P := P) (w := w) (p := p) l.length (l.map (Value.int .u8)) [] 0 (List.length_map _) fun j v hj => ?_
      · unfold loadCells
        simpa using this
      · rw [List.getElem?_map] at hj
        obtain ⟨x, hx, rfl⟩ := Option.map_eq_some_iff.1 hj
        have hc := r.cell1 (v := .int .u8 x) hx fun vs hv => by rw [hC vs x hv]; rfl
        have hh := hw.heap
        rw [Nat.zero_add]
        show cellH w.heap _ = _
        rw [hh]
        rw [hz] at hc
        simpa [adr] using hc
  simp [run_convert_bytes_string w t s e a l.length cap ht hE hs, hrun, Oper.quietUpon]
/-- the table of powers lies where the library looks for it -/
def Tab (P : Program) (h : Heap) : Prop := ∀ w : World, w.heap = h → Lib.TabIs P w "internal/strconv.uint64pow10" .u64 Lib.pow10Tab
theorem Tab.at {h h' : Heap} (t : Tab P h) (e : Ext h h') : Tab P h' := fun w hw => by
  have := t { w with heap := h } rfl
  unfold Lib.TabIs World.var? at *
  cases hg : P.globalNamed "internal/strconv.uint64pow10" with
  | none => simp [hg] at this
  | some g =>
    simp only [hg, Option.bind_some] at this ⊢
    have hlt : g < h.size := by
      apply Classical.byContradiction
      intro hno
      rw [Array.getElem?_eq_none (by omega)] at this
      cases this
    rw [hw, e.block g hlt (by simp)]
    exact this
theorem Fn_itoa {ρ : Go.Shelf.Ren} (Ly : LaysM.n173 P ρ) {f : FuncId} (hf : ρ.f 173 = f) (hb : (match P.funcs[f]? with | some fn => fn.body.isSome && (fn.name != "runtime.NumGoroutine") | none => false) = true) {h : Heap} (t : Tab P h) {n : Int} (hn : -9223372036854775808 ≤ n ∧ n ≤ 9223372036854775807) :
    Fn P f #[.int .i64 n, .int .i64 10] h fun v h' => v = .string ⟨(Lib.itoa n).toArray⟩ ∧ Hold h h' [] := by
  refine ⟨hb, fun w hw => ?_⟩
  subst hw
  have c := Any.strconv_FormatInt_10 Ly n hn.1 hn.2 w (t w rfl)
  rw [hf] at c
  refine c.mono ?_
  rintro e w' ⟨rfl, k, os, rfl⟩
  have hE : Ext w.heap (w.heap ++ os) := ⟨by simp, fun b hb _ => Array.getElem?_append_left hb⟩
  exact ⟨_, _, rfl, ⟨rfl, rfl, rfl, rfl, DrLe.add _ _⟩, rfl, ⟨hE, rfl, [], trivial, Sep.nil _ _⟩⟩
/-! ### errors, and the variables that the library looks at -/
def ErrV (v : Value) (b : Bool) : Prop := (b = false ∧ v = .nilIface) ∨ (b = true ∧ ∃ te p, v = .iface te (.pointer (some p)))
theorem run_equal_nil {t : Nat} {ms : Array (String × TypeId)} (ht : P.underlying t = some (.interface ms)) (w : World) : (Op.equal t .nilIface .nilIface).run P w = .ok true w := by
  unfold Op.equal
  rw [show Op.maxDepth = (Op.maxDepth - 1) + 1 by kernel_rfl, Op.equalIn]
  simp [run_underlying ht]
theorem run_equal_ifnil {t te : Nat} {p : Addr} {ms : Array (String × TypeId)} (ht : P.underlying t = some (.interface ms)) (w : World) : (Op.equal t (.iface te (.pointer (some p))) .nilIface).run P w = .ok false w := by
  unfold Op.equal
  rw [show Op.maxDepth = (Op.maxDepth - 1) + 1 by kernel_rfl, Op.equalIn]
  simp [run_underlying ht]
theorem Y_errne {v : Value} {b : Bool} {t : Nat} {ox : Operand} {ms : Array (String × TypeId)} (h : ErrV v b) (ht : P.underlying t = some (.interface ms)) (he : execOp (rho L) o = (do pure (.value (← (do eqGuard .neq t ox (.const .nilIface) v .nilIface; binOp .neq t v .nilIface))))) : Y P w0 D L o (.bool b) := by
  intro w _
  rw [he]
  rcases h with ⟨rfl, rfl⟩ | ⟨rfl, te, p, rfl⟩
  · simp [eqGuard, binOp, run_equal_nil ht, Oper.quietUpon]
  · simp [eqGuard, binOp, run_equal_ifnil ht, Oper.quietUpon]
def IfV (ev : Value) : Prop := ev = .nilIface ∨ ∃ te pe, ev = .iface te pe
structure Gl (P : Program) (h : Heap) : Prop where
  pow : Tab P h
  mx : ∀ g, P.globalNamed "internal/bytealg.MaxLen" = some g → ∃ m, cellH h ⟨g, 0, none⟩ = some (.int .i64 m)
  syn : ∀ g, P.globalNamed "strconv.ErrSyntax" = some g → ∃ ev, cellH h ⟨g, 0, none⟩ = some ev ∧ IfV ev
  rng : ∀ g, P.globalNamed "strconv.ErrRange" = some g → ∃ ev, cellH h ⟨g, 0, none⟩ = some ev ∧ IfV ev
theorem Gl.at {h h' : Heap} (t : Gl P h) (e : Ext h h') : Gl P h' :=
  ⟨t.pow.at e, fun g hg => let ⟨m, hm⟩ := t.mx g hg; ⟨m, cell_at e hm⟩, fun g hg => let ⟨m, hm, hi⟩ := t.syn g hg; ⟨m, cell_at e hm, hi⟩, fun g hg => let ⟨m, hm, hi⟩ := t.rng g hg; ⟨m, cell_at e hm, hi⟩⟩
theorem hold_ext {h h' : Heap} (e : Ext h h') : Hold h h' [] := ⟨e, rfl, [], trivial, Sep.nil _ _⟩
theorem below_ext {w w' : World} (b : RowKit.Below w.heap.size w w') : Ext w.heap w'.heap := ⟨b.size, fun k hk _ => b.block k hk⟩
/-- where draws are not counted -/
theorem below_at {w w' : World} (b : RowKit.Below w.heap.size w w') : At w w'.heap w' := ⟨rfl, b.os, b.tape, b.output, by unfold DrLe; trivial⟩
theorem Fn_cut {ρ : Go.Shelf.Ren} (Ly : Lays.n145 P ρ) {f : FuncId} (hf : ρ.f 145 = f) (hg : P.globalNamed "internal/bytealg.MaxLen" = some (ρ.g 1)) (hb : (match P.funcs[f]? with | some fn => fn.body.isSome && (fn.name != "runtime.NumGoroutine") | none => false) = true) {h : Heap} (gl : Gl P h) {s sep : ByteArray} (hs : s.size < 4294967281) :
    Fn P f #[.string s, .string sep] h fun v h' => v = .tuple #[.string ⟨(Lib.cut s.data.toList sep.data.toList).1.toArray⟩, .string ⟨(Lib.cut s.data.toList sep.data.toList).2.1.toArray⟩, .bool (Lib.cut s.data.toList sep.data.toList).2.2] ∧ h' = h := by
  refine ⟨hb, fun w hw => ?_⟩
  subst hw
  obtain ⟨m, hm⟩ := gl.mx _ hg
  have c := Any.strings_Cut Ly s sep m w hs hm
  rw [hf] at c
  refine c.mono ?_
  rintro e w' ⟨rfl, n, rfl⟩
  exact ⟨_, _, rfl, ⟨rfl, rfl, rfl, rfl, DrLe.add _ _⟩, rfl, rfl⟩
theorem Fn_split {ρ : Go.Shelf.Ren} (Ly : Lays.n146 P ρ) {f : FuncId} (hf : ρ.f 146 = f) (hi9 : (P.info? (ρ.t 9)).map (fun i => (i.zero, i.size, i.bytes)) = some (some (.string ByteArray.empty), 1, 16)) (hg : P.globalNamed "internal/bytealg.MaxLen" = some (ρ.g 1)) (hb : (match P.funcs[f]? with | some fn => fn.body.isSome && (fn.name != "runtime.NumGoroutine") | none => false) = true)
    {C : Cd ByteArray} (hty : C.ty = ρ.t 9) (hz : C.sz = 1) (ho : ∀ h x, C.own h x [.string x] []) {h : Heap} (gl : Gl P h) {s sep : ByteArray} (hs : s.size < 4294967281) (h1 : 1 ≤ sep.size) :
    Fn P f #[.string s, .string sep] h fun v h' => ∃ (a0 : Option Addr) (c0 : Nat), v = .slice a0 (Lib.splitB sep 0 (Lib.countB s sep) s).length c0 ∧ Hold h h' [own C a0 (Lib.splitB sep 0 (Lib.countB s sep) s).length c0 (Lib.splitB sep 0 (Lib.countB s sep) s)] := by
  refine ⟨hb, fun w hw => ?_⟩
  subst hw
  obtain ⟨m, hm⟩ := gl.mx _ hg
  have c := Any.strings_Split Ly hi9 s sep m w hs hm h1
  have hle := Lib.countB_le sep h1 s.size s (Nat.le_refl _)
  have hlen := Lib.splitB_all sep h1 0 _ s rfl
  rw [hf] at c
  refine c.mono ?_
  rintro e w' ⟨rfl, rfl⟩
  generalize Lib.splitB sep 0 (Lib.countB s sep) s = l at *
  rw [← hlen]
  have hfl : (l.map fun _ => ([] : List Nat)).flatten = [] := flatten_nil fun F hF => by
    obtain ⟨_, _, rfl⟩ := List.mem_map.1 hF; rfl
  have en : Enc C w.heap l (l.map Value.string) (l.map fun _ => []) := by
    refine ⟨by rw [hz]; simp, by simp, fun i x hi => ⟨[.string x], [], by simp [hi], ho _ _, fun j v hj => ?_⟩⟩
    have h0 : j = 0 := by
      have := (List.getElem?_eq_some_iff.1 hj).1
      simpa using this
    subst h0
    rw [hz, Nat.mul_one, Nat.add_zero, List.getElem?_map, hi]
    simpa using hj
  have hH := (Hold.init w.heap).add (i := own C (some ⟨w.heap.size, 0, none⟩) l.length l.length l) (Ext.push w.heap (.cells (l.map Value.string).toArray C.ty)) (F := [w.heap.size]) ⟨by
    have := Own.fresh (C := C) (h := w.heap) (cs := (l.map Value.string).toArray) (l := l) (Fs := l.map fun _ => []) (by omega) (by simpa using en) (by rw [hfl]; simp)
    rw [hfl] at this; exact this, rfl⟩ (Sep.fresh _) (Nat.zero_le _)
  refine ⟨_, (w.heap.push (.cells (l.map Value.string).toArray C.ty)), rfl, ⟨?_, rfl, rfl, rfl, DrLe.refl _⟩, some ⟨w.heap.size, 0, none⟩, l.length, rfl, hH⟩
  rw [hty]; rfl
theorem Fn_parse {ρ : Go.Shelf.Ren} (Ly : LaysC.n174 P ρ) {f : FuncId} (hf : ρ.f 174 = f) (hg1 : P.globalNamed "strconv.ErrSyntax" = some (ρ.g 15)) (hg2 : P.globalNamed "strconv.ErrRange" = some (ρ.g 16)) (hb : (match P.funcs[f]? with | some fn => fn.body.isSome && (fn.name != "runtime.NumGoroutine") | none => false) = true) {h : Heap} (gl : Gl P h) {s : ByteArray} (hs : s.size ≤ 281474976710656) :
    Fn P f #[.string s, .int .i64 10, .int .i64 64] h fun v h' => ∃ ev, ErrV ev (parseR s).2 ∧ v = .tuple #[.int .i64 (parseR s).1, ev] ∧ Hold h h' [] := by
  refine ⟨hb, fun w hw => ?_⟩
  subst hw
  obtain ⟨e1, k1, i1⟩ := gl.syn _ hg1
  obtain ⟨e2, k2, i2⟩ := gl.rng _ hg2
  unfold parseR
  cases hp : Lib.parseIntB 64 s.data.toList
  · rename_i v
    have c := Any.strconv_ParseInt_10_at64_ok Ly s (by omega) v hp w
    rw [hf] at c
    refine c.mono ?_
    rintro e w' ⟨rfl, hw⟩
    have hb : RowKit.Below w.heap.size w w' := by
      rcases hw with rfl | ⟨t, rfl⟩
      · exact RowKit.Below.refl _ _
      · exact Lib.bytesWorld_below _ _ _
    exact ⟨_, _, rfl, below_at hb, _, .inl ⟨rfl, rfl⟩, rfl, hold_ext (below_ext hb)⟩
  · have c := Any.strconv_ParseInt_10_at64_syntax Ly s hs hp e1 w k1 i1
    rw [hf] at c
    refine c.mono ?_
    rintro e w' ⟨N, rfl, _, _, hb⟩
    exact ⟨_, _, rfl, below_at hb, _, .inr ⟨rfl, _, _, rfl⟩, rfl, hold_ext (below_ext hb)⟩
  · have c := Any.strconv_ParseInt_10_at64_range Ly s hs hp e2 w k2 i2
    rw [hf] at c
    refine c.mono ?_
    rintro e w' ⟨N, rfl, _, _, hb⟩
    exact ⟨_, _, rfl, below_at hb, _, .inr ⟨rfl, _, _, rfl⟩, rfl, hold_ext (below_ext hb)⟩
end
end Go.Proofs.YtfhphkiggdepaaaDoor
