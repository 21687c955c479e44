/-
  Strings, and the library's decimal numerals by the kit's contract.
-/
import Derived.Test.YtelopfgolahlpaaDoorRow
import Derived.Laws.BytesString
import Derived.Shelf.Strconv.Itoa4
namespace Go.Proofs.YtelopfgolahlpaaDoor
open Go
section
variable {P : Program} {w0 : World} {L : Env} {D : Heap → Prop} {o : Oper}
theorem Y_cat {a b x : ByteArray} {k : Nat} (h : M.cat a b k = some x) (he : execOp (rho L) o = (do pure (.value (← Op.stringOp .add a b)))) : Y P w0 D L o (.string x) := by
  obtain ⟨h1, rfl⟩ := M.cat_some h
  have h2 : ¬ (((a.size + b.size : Nat) : Int) > IntKind.i64.max) := by
    have : IntKind.i64.max = 9223372036854775807 := by kernel_rfl
    omega
  intro w _
  rw [he]
  simp only [Op.stringOp, if_neg h2]
  simp [Oper.quietUpon]
/-- bytes as a string -/
theorem Y_toS {C : Cd Int} {h : Heap} {B : Bs} {a : Option Addr} {cap n t s e : Nat} {l : List Int} (r : Rd C h B a cap l) (hz : C.sz = 1) (hC : ∀ vs x, C.rd h B x vs → vs = [.int .u8 x]) (hn : n = l.length) (ht : P.underlying t = some (.slice e)) (hs : P.underlying s = some .string) (hE : P.underlying e = some (.int .u8))
    (he : execOp (rho L) o = (do pure (.value (← convert t s (.slice a n cap))))) : Y P w0 (· = h) L o (.string (toS l)) := by
  subst hn
  intro w hw
  rw [he]
  have hrun : (Conv.bytesToString (.slice a l.length cap)).run P w = .ok (.string (toS l)) w := by
    cases a with
    | none =>
      have : l = [] := r.isNone rfl
      subst this
      simp [Conv.bytesToString, toS]
    | some p =>
      refine run_bytesToString w p l.length cap l ?_
      have := run_loadCells (P := P) (w := w) (p := p) l.length (l.map (Value.int .u8)) [] 0 (List.length_map _) fun j v hj => ?_
      · unfold loadCells
        simpa using this
      · rw [List.getElem?_map] at hj
        obtain ⟨x, hx, rfl⟩ := Option.map_eq_some_iff.1 hj
        have hc := r.cell1 (v := .int .u8 x) hx fun vs hv => by rw [hC vs x hv]; rfl
        have hh := hw.heap
        rw [Nat.zero_add]
        show cellH w.heap _ = _
        rw [hh]
        rw [hz] at hc
        simpa [adr] using hc
  simp [run_convert_bytes_string w t s e a l.length cap ht hE hs, hrun, Oper.quietUpon]
/-- the table of powers lies where the library looks for it -/
def Tab (P : Program) (h : Heap) : Prop := ∀ w : World, w.heap = h → Lib.TabIs P w "internal/strconv.uint64pow10" .u64 Lib.pow10Tab
theorem Tab.at {h h' : Heap} (t : Tab P h) (e : Ext h h') : Tab P h' := fun w hw => by
  have := t { w with heap := h } rfl
  unfold Lib.TabIs World.var? at *
  cases hg : P.globalNamed "internal/strconv.uint64pow10" with
  | none => simp [hg] at this
  | some g =>
    simp only [hg, Option.bind_some] at this ⊢
    have hlt : g < h.size := by
      apply Classical.byContradiction
      intro hno
      rw [Array.getElem?_eq_none (by omega)] at this
      cases this
    rw [hw, e.block g hlt (by simp)]
    exact this
theorem Fn_itoa {ρ : Go.Shelf.Ren} (Ly : LaysM.n173 P ρ) {f : FuncId} (hf : ρ.f 173 = f) (hb : (match P.funcs[f]? with | some fn => fn.body.isSome && (fn.name != "runtime.NumGoroutine") | none => false) = true) {h : Heap} (t : Tab P h) {n : Int} (hn : -9223372036854775808 ≤ n ∧ n ≤ 9223372036854775807) :
    Fn P f #[.int .i64 n, .int .i64 10] h fun v h' => v = .string ⟨(Lib.itoa n).toArray⟩ ∧ Hold h h' [] := by
  refine ⟨hb, fun w hw => ?_⟩
  subst hw
  have c := Any.strconv_FormatInt_10 Ly n hn.1 hn.2 w (t w rfl)
  rw [hf] at c
  refine c.mono ?_
  rintro e w' ⟨rfl, k, os, rfl⟩
  have hE : Ext w.heap (w.heap ++ os) := ⟨by simp, fun b hb _ => Array.getElem?_append_left hb⟩
  exact ⟨_, _, rfl, ⟨rfl, rfl, rfl, rfl, Nat.le_add_right _ _⟩, rfl, ⟨hE, rfl, [], trivial, Sep.nil _ _⟩⟩
end
end Go.Proofs.YtelopfgolahlpaaDoor
