/-
  A law's arguments, opened; its end, shut: whatever the walk has proved of plain lists is said of the given row.
-/
import Derived.Test.YtfhphkiggdepaaaDoorVar
import Derived.ProofKit
namespace Go.Proofs.YtfhphkiggdepaaaDoor
open Go Go.ChangeShapes Go.RowKit
variable {α : Type}

section
variable {H : Type} {enc : TypeId × Value → H} {P : Program} {w : World} {base fuel : Nat} {spare : Nat → Bool} {held : Bool}
theorem arg_string {t : TypeId} {b0 : Nat} {v : Value} {d : DataW H} {ps : List MemPlace} (ht : P.underlying t = some .string) (hval : Value.okWide P w .any b0 t v)
    (h : DataW.Trod enc P w 0 spare held t v d ps) : ∃ s : ByteArray, v = .string s ∧ s.size ≤ 9223372036854775807 := by
  obtain ⟨s0, rfl⟩ := WideShapes.okWide_string ht hval
  obtain ⟨fuel, h⟩ := h
  obtain ⟨s, h1, _, h3⟩ := DataW.trod_string ht h
  simp only [Value.cells, List.cons.injEq, and_true, Value.string.injEq] at h1
  subst h1
  exact ⟨_, rfl, by unfold maxLen at h3; omega⟩
end

/-! ### the end -/
theorem Ext.below {w w' : World} {h' : Heap} (a : At w h' w') (e : Ext w.heap h') : Below w.heap.size w w' := by
  refine ⟨a.os, a.tape, a.output, by rw [a.heap]; exact e.size, fun k hk => ?_⟩
  rw [a.heap]
  exact e.block k hk (by simp)
theorem args_again {H : Type} {enc : TypeId × Value → H} {P : Program} {W W' : World} (hlo : laidOutB P = true) (bel : Below W.heap.size W W') :
    ∀ {ts : List TypeId} {vs : List Value} {ds : List (DataW H)} {ps : List MemPlace}, ts.all (fun t => P.readableRec t && decide (t < P.types.size)) = true → (∀ p ∈ ps, p.block < W.heap.size) →
      DataW.TrodAll enc P W 0 (fun _ => true) true ts vs ds ps → DataW.TrodAll enc P W' 0 (fun b => decide (b < W.heap.size)) true ts vs ds ps
  | [], [], [], _, _, _, h => h
  | t :: ts, v :: vs, d :: ds, ps, hr, hlt, h => by
    obtain ⟨p, q, h1, h2, rfl⟩ := h
    simp only [List.all_cons, Bool.and_eq_true, decide_eq_true_eq] at hr
    exact ⟨p, q, Below.trod hlo hr.1.1 hr.1.2 h1 bel (fun x hx => hlt x (List.mem_append.2 (.inl hx))), args_again hlo bel hr.2 (fun x hx => hlt x (List.mem_append.2 (.inr hx))) h2, rfl⟩
  | [], [], _ :: _, _, _, _, h => h.elim
  | [], _ :: _, _, _, _, _, h => h.elim
  | _ :: _, [], _, _, _, _, h => h.elim
  | _ :: _, _ :: _, [], _, _, _, h => h.elim
/-- a law's end: true; the arguments as they were -/
theorem law_post {H : Type} {enc : TypeId × Value → H} {P : Program} {fn : Func} {s : ChangeSpec} {apart fresh handsOn : Bool} {W W' : World} {h' : Heap} {args : Array Value} {ds gs : List (DataW H)} {before : List MemPlace}
    (hlo : laidOutB P = true) (hread : fn.params.toList.all (fun t => P.readableRec t && decide (t < P.types.size)) = true) (hvars : s.vars = []) {tb : TypeId} (hres : fn.resultTypes = #[tb]) (htb : P.underlying tb = some .bool)
    (hW : DataW.Whole enc P fn.params.toList s.vars apart W args.toList ds gs before) (hfn : gs = [] → s.fn H ds = { results := [.lit (.bool true)], args := ds }) (a : At W h' W') (e : Ext W.heap h') :
    s.post enc P fn apart fresh handsOn false W args (.bool true) W' := by
  have bel := Ext.below a e
  have hlt := hW.lt
  have hW' := hW
  obtain ⟨p, q, hA, hV, rfl, _, _⟩ := hW
  rw [hvars] at hV
  obtain ⟨rfl, rfl⟩ := trodVars_none hV
  have hfn := hfn rfl
  refine ⟨ds, [], p ++ [], [], p, [], hW', ?_, ?_, ?_, bel.frame _, fun h => by cases h⟩
  · rw [hres, List.append_nil, hfn]
    exact trodAll_mk1 ⟨1, by unfold DataW.trod; simp [htb, Value.cells]⟩
  · rw [List.append_nil, hfn]
    exact args_again hlo bel hread (fun x hx => hlt x (by simpa using hx)) hA
  · rw [hvars, List.append_nil, hfn]; rfl
end Go.Proofs.YtfhphkiggdepaaaDoor
