/-
  A law's arguments, opened; its end, shut: whatever the walk has proved of plain lists is said of the given row.
-/
import Derived.Test.YtfhphkiggdepaaaDoorVar
import Derived.ProofKit
namespace Go.Proofs.YtfhphkiggdepaaaDoor
open Go Go.ChangeShapes Go.RowKit
variable {α : Type}

section
variable {H : Type} {enc : TypeId × Value → H} {P : Program} {w : World} {base fuel : Nat} {spare : Nat → Bool} {held : Bool}
/-- whatever is read at type e is some y of the codec C; y is good -/
def Dec (P : Program) (w : World) (C : Cd α) (e : TypeId) (good : α → Prop) : Prop :=
  ∀ (H : Type) (enc : TypeId × Value → H) (spare : Nat → Bool) (held : Bool) (n : Nat) (cs : List Value) (x : DataW H × List MemPlace), DataW.trod enc P w 0 spare held n e cs = some x → ∃ y, C.rd w.heap (Lt w.heap) y cs ∧ good y
theorem trod_u8 {e : TypeId} (he : P.underlying e = some (.int .u8)) {cs : List Value} {x : DataW H × List MemPlace} (h : DataW.trod enc P w base spare held fuel e cs = some x) : ∃ y : Int, cs = [.int .u8 y] ∧ inU8 y := by
  obtain ⟨n, h1, _, h3⟩ := DataW.trod_int he h
  refine ⟨n, h1, ?_⟩
  simp [Lit.wf, IntKind.min, IntKind.max, IntKind.signed, IntKind.bits] at h3
  unfold inU8; omega
theorem cells_get {a : Addr} {n : Nat} {vs : List Value} (h : w.cells? base a n = some vs) {j : Nat} {v : Value} (hv : vs[j]? = some v) : w.cell? (a.add j) = some v := by
  unfold World.cells? at h
  split at h
  · have hl := mapM_some_length h
    have hj : j < n := by
      have := (List.getElem?_eq_some_iff.1 hv).1
      rw [List.length_range] at hl
      omega
    have := mapM_some_get h j j (by simp [hj])
    rw [this]; exact hv
  · cases h
theorem dec_slice {C : Cd α} {t e : TypeId} {good : α → Prop} (ht : P.underlying t = some (.slice e)) (hc : P.cellsOf e = C.sz) (el : Dec P w C e good)
    {cs : List Value} {x : DataW H × List MemPlace} (h : DataW.trod enc P w 0 spare held fuel t cs = some x) :
    ∃ (a : Option Addr) (cap : Nat) (l : List α), cs = [.slice a l.length cap] ∧ Rd C w.heap (Lt w.heap) a cap l ∧ fitL good l := by
  rcases DataW.trod_slice ht h with ⟨h1, _⟩ | ⟨a, len, cap, elems, rest, n, rfl, rfl, rfl, hb, hl, hm, hlen, hel, _, _⟩
  · exact ⟨none, 0, [], h1, Rd.nil _ _ _ _ _, by simp [fitL]⟩
  have each : ∀ i, i < len → ∃ y vs, w.cells? 0 (a.add (i * C.sz)) C.sz = some vs ∧ C.rd w.heap (Lt w.heap) y vs ∧ good y := by
    intro i hi
    have h2 := hel i hi
    rw [List.getElem?_eq_getElem (by omega), Option.bind_eq_some_iff, hc] at h2
    obtain ⟨vs, h3, h4⟩ := h2
    obtain ⟨y, h5, h6⟩ := el _ _ _ _ _ _ _ h4
    exact ⟨y, vs, h3, h5, h6⟩
  have hlf : (List.ofFn (fun i : Fin len => (each i.1 i.2).choose)).length = len := List.length_ofFn
  refine ⟨some a, cap, List.ofFn (fun i : Fin len => (each i.1 i.2).choose), by rw [hlf], ⟨by rw [hlf]; unfold maxLen at hm; omega, by rw [hlf]; exact hl, ?_⟩, ⟨by rw [hlf]; unfold maxLen at hm; omega, fun y hy => ?_⟩⟩
  · by_cases h0 : len = 0
    · left; subst h0; rfl
    right
    obtain ⟨_, vs, h1, h2, _⟩ := each 0 (by omega)
    have hp := C.pos
    have hv0 : 0 < vs.length := by rw [C.rd_len h2]; exact hp
    have h3 : w.cell? ((a.add (0 * C.sz)).add 0) = some vs[0] := cells_get h1 (List.getElem?_eq_getElem hv0)
    obtain ⟨b, off, spot⟩ := a
    have hspot : spot = none := by simpa [Addr.add] using World.cell?_spot h3
    subst hspot
    have hadd : ∀ (o k : Nat), (⟨b, o, none⟩ : Addr).add k = ⟨b, o + k, none⟩ := fun o k => by unfold Addr.add; split <;> simp_all
    rw [hadd, hadd] at h3
    rw [cell?_eq] at h3
    unfold cellH at h3
    simp only at h3
    split at h3
    · rename_i cs' ty fr hg
      refine ⟨b, off, cs', ty, fr, rfl, ?_, hg, fun i x hi => ?_⟩
      · exact (Array.getElem?_eq_some_iff.1 hg).1
      · have hil : i < len := by rw [← hlf]; exact (List.getElem?_eq_some_iff.1 hi).1
        have hx : x = (each i hil).choose := by
          rw [List.getElem?_ofFn] at hi
          simpa [hil] using hi.symm
        obtain ⟨vs', k1, k2, _⟩ := (each i hil).choose_spec
        refine ⟨vs', hx ▸ k2, fun j v hj => ?_⟩
        have h4 := cells_get k1 hj
        rw [hadd, hadd, cell?_eq] at h4
        unfold cellH at h4
        simpa [hg] using h4
    · cases h3
  · obtain ⟨i, hi⟩ := List.mem_ofFn.1 hy
    obtain ⟨vs', k1, k2, k3⟩ := (each i.1 i.2).choose_spec
    exact hi ▸ k3
theorem arg_slice {C : Cd α} {t e : TypeId} {good : α → Prop} {b0 : Nat} {v : Value} {d : DataW H} {ps : List MemPlace} (ht : P.underlying t = some (.slice e)) (hc : P.cellsOf e = C.sz) (el : Dec P w C e good) (hval : Value.okWide P w .any b0 t v)
    (h : DataW.Trod enc P w 0 spare held t v d ps) : ∃ (a : Option Addr) (cap : Nat) (l : List α), v = .slice a l.length cap ∧ Rd C w.heap (Lt w.heap) a cap l ∧ fitL good l := by
  obtain ⟨a0, n0, c0, rfl⟩ := WideShapes.okWide_slice ht hval
  obtain ⟨fuel, h⟩ := h
  obtain ⟨a, cap, l, h1, h2, h3⟩ := dec_slice ht hc el h
  simp only [Value.cells, List.cons.injEq, and_true] at h1
  exact ⟨a, cap, l, h1, h2, h3⟩
end

/-! ### the end -/
theorem Ext.below {w w' : World} {h' : Heap} (a : At w h' w') (e : Ext w.heap h') : Below w.heap.size w w' := by
  refine ⟨a.os, a.tape, a.output, by rw [a.heap]; exact e.size, fun k hk => ?_⟩
  rw [a.heap]
  exact e.block k hk (by simp)
theorem args_again {H : Type} {enc : TypeId × Value → H} {P : Program} {W W' : World} (hlo : laidOutB P = true) (bel : Below W.heap.size W W') :
    ∀ {ts : List TypeId} {vs : List Value} {ds : List (DataW H)} {ps : List MemPlace}, ts.all (fun t => P.readableRec t && decide (t < P.types.size)) = true → (∀ p ∈ ps, p.block < W.heap.size) →
      DataW.TrodAll enc P W 0 (fun _ => true) true ts vs ds ps → DataW.TrodAll enc P W' 0 (fun b => decide (b < W.heap.size)) true ts vs ds ps
  | [], [], [], _, _, _, h => h
  | t :: ts, v :: vs, d :: ds, ps, hr, hlt, h => by
    obtain ⟨p, q, h1, h2, rfl⟩ := h
    simp only [List.all_cons, Bool.and_eq_true, decide_eq_true_eq] at hr
    exact ⟨p, q, Below.trod hlo hr.1.1 hr.1.2 h1 bel (fun x hx => hlt x (List.mem_append.2 (.inl hx))), args_again hlo bel hr.2 (fun x hx => hlt x (List.mem_append.2 (.inr hx))) h2, rfl⟩
  | [], [], _ :: _, _, _, _, h => h.elim
  | [], _ :: _, _, _, _, _, h => h.elim
  | _ :: _, [], _, _, _, _, h => h.elim
  | _ :: _, _ :: _, [], _, _, _, h => h.elim
/-- a law's end: true; the arguments as they were -/
theorem law_post {H : Type} {enc : TypeId × Value → H} {P : Program} {fn : Func} {s : ChangeSpec} {apart fresh handsOn : Bool} {W W' : World} {h' : Heap} {args : Array Value} {ds gs : List (DataW H)} {before : List MemPlace}
    (hlo : laidOutB P = true) (hread : fn.params.toList.all (fun t => P.readableRec t && decide (t < P.types.size)) = true) (hvars : s.vars = []) {tb : TypeId} (hres : fn.resultTypes = #[tb]) (htb : P.underlying tb = some .bool)
    (hW : DataW.Whole enc P fn.params.toList s.vars apart W args.toList ds gs before) (hfn : gs = [] → s.fn H ds = { results := [.lit (.bool true)], args := ds }) (a : At W h' W') (e : Ext W.heap h') :
    s.post enc P fn apart fresh handsOn false W args (.bool true) W' := by
  have bel := Ext.below a e
  have hlt := hW.lt
  have hW' := hW
  obtain ⟨p, q, hA, hV, rfl, _, _⟩ := hW
  rw [hvars] at hV
  obtain ⟨rfl, rfl⟩ := trodVars_none hV
  have hfn := hfn rfl
  refine ⟨ds, [], p ++ [], [], p, [], hW', ?_, ?_, ?_, bel.frame _, fun h => by cases h⟩
  · rw [hres, List.append_nil, hfn]
    exact trodAll_mk1 ⟨1, by unfold DataW.trod; simp [htb, Value.cells]⟩
  · rw [List.append_nil, hfn]
    exact args_again hlo bel hread (fun x hx => hlt x (by simpa using hx)) hA
  · rw [hvars, List.append_nil, hfn]; rfl
end Go.Proofs.YtfhphkiggdepaaaDoor
