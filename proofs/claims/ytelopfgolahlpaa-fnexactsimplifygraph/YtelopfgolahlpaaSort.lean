/-
  The library's sorts, met by the kit's contracts: an own slice sorted in place.
-/
import Derived.Test.YtelopfgolahlpaaRow
import Derived.Shelf.SortM.Plain
import Derived.Shelf.SortM.SortNone
namespace Go.Proofs.Ytelopfgolahlpaa
open Go Go.Sort
variable {α : Type}
/-- elements that are laid cell by cell, and have no blocks -/
structure IsEnc (C : Cd α) (enc : α → List Value) : Prop where
  len : ∀ x, (enc x).length = C.sz
  inv : ∀ h x vs F, C.own h x vs F → vs = enc x ∧ F = []
  own : ∀ h x, C.own h x (enc x) []
variable [Inhabited α]
/-- cell p of the elements l, laid one behind the other -/
def cellOf (enc : α → List Value) (k : Nat) (l : List α) (p : Nat) : Value := (enc (l.toArray[p / k]!))[p % k]!
theorem list_get! {l : List α} {i : Nat} (h : i < l.length) : l.toArray[i]! = l[i] := by
  rw [getElem!_pos _ i (by simpa using h)]; simp
theorem enc_cell {C : Cd α} {enc : α → List Value} (he : IsEnc C enc) {h : Heap} {l : List α} {xs : List Value} {Fs : List (List Nat)} (n : Enc C h l xs Fs) {p : Nat} (hp : p < l.length * C.sz) : xs[p]? = some (cellOf enc C.sz l p) := by
  have hs := C.pos
  have hq : p / C.sz < l.length := (Nat.div_lt_iff_lt_mul hs).2 hp
  have hr : p % C.sz < C.sz := Nat.mod_lt _ hs
  obtain ⟨vs, Fx, _, ho, hv⟩ := n.elem _ _ (List.getElem?_eq_getElem hq)
  obtain ⟨rfl, _⟩ := he.inv _ _ _ _ ho
  have hl := he.len l[p / C.sz]
  have := hv (p % C.sz) _ (List.getElem?_eq_getElem (by omega))
  rw [Nat.mul_comm, Nat.div_add_mod] at this
  rw [this]
  unfold cellOf
  rw [list_get! hq, getElem!_pos _ _ (by omega)]
theorem cell_enc {C : Cd α} {enc : α → List Value} (he : IsEnc C enc) {h : Heap} {l : List α} {xs : List Value} (hl : xs.length = l.length * C.sz) (hx : ∀ p, p < l.length * C.sz → xs[p]? = some (cellOf enc C.sz l p)) : Enc C h l xs (List.replicate l.length []) := by
  refine ⟨hl, by simp, fun i x hi => ?_⟩
  have hi' := (List.getElem?_eq_some_iff.1 hi).1
  refine ⟨enc x, [], by simp [hi'], he.own h x, fun j v hj => ?_⟩
  have hj' := (List.getElem?_eq_some_iff.1 hj).1
  rw [he.len] at hj'
  rw [hx _ (mul_lt hi' hj')]
  have e1 : (i * C.sz + j) / C.sz = i := by
    rw [Nat.mul_comm, Nat.mul_add_div C.pos, Nat.div_eq_of_lt hj', Nat.add_zero]
  have e2 : (i * C.sz + j) % C.sz = j := by
    rw [Nat.mul_comm, Nat.mul_add_mod, Nat.mod_eq_of_lt hj']
  unfold cellOf
  rw [e1, e2, list_get! hi']
  have : l[i] = x := by
    rw [List.getElem?_eq_getElem hi'] at hi; exact Option.some.inj hi
  rw [this, getElem!_pos _ _ (by rw [he.len]; exact hj')]
  rw [List.getElem?_eq_getElem (by rw [he.len]; exact hj')] at hj
  exact hj
/-- the cells of a block, the first ones put anew -/
theorem sort_hold {C : Cd α} {enc : α → List Value} (he : IsEnc C enc) {h hE : Heap} {R : List Item} {g cap n : Nat} {l l' : List α} {os : Array Obj} (HM : Hold h hE (own C (some ⟨g, 0, none⟩) n cap l :: R)) (hl : l'.length = l.length) {f : Array Value → Array Value} (hf : ∀ cs : Array Value, (f cs).size = cs.size ∧ ∀ p, (f cs)[p]? = if p < l.length * C.sz ∧ p < cs.size then some (cellOf enc C.sz l' p) else cs[p]?) :
    Hold h (hE.modify g (onCells f) ++ os) (own C (some ⟨g, 0, none⟩) n cap l' :: R) := by
  obtain ⟨F, ⟨p, hn⟩, s, back⟩ := HM.open
  have p : Own C hE (some ⟨g, 0, none⟩) cap l F := p
  rcases p.cells with ⟨h0, _⟩ | ⟨g', cs, Fs, hg0, hg, h1, h2, h3, rfl, en⟩
  · cases h0
  · simp only [Option.some.injEq, Addr.mk.injEq, and_true] at hg0
    subst hg0
    have hgs : g < hE.size := s.hi g List.mem_cons_self
    have hFs : Fs.flatten = [] := flatten_nil (en.flat fun h x vs F o => (he.inv h x vs F o).2)
    rw [hFs] at s back
    have hnew : (hE.modify g (onCells f) ++ os)[g]? = some (.cells (f cs) C.ty (0, 0)) := by
      rw [Array.getElem?_append_left (by simpa using hgs), Array.getElem?_modify, if_pos rfl, hg]; rfl
    refine back _ (own C (some ⟨g, 0, none⟩) n cap l') [g] ⟨by simp, fun b hb hF => ?_⟩ ⟨⟨by rw [hl]; exact p.small, .inr ⟨g, f cs, List.replicate l'.length [], rfl, hnew, ?_, by rw [hl]; exact h2, h3, by rw [flatten_replicate_nil], ?_⟩⟩, by rw [hl]; exact hn⟩ ?_ (fun b hb => .inl hb) (Nat.zero_le _)
    · have hne : b ≠ g := fun e => hF (by rw [e]; exact List.mem_cons_self)
      rw [Array.getElem?_append_left (by simpa using hb), Array.getElem?_modify, if_neg (Ne.symm hne)]
    · rw [(hf cs).1]; exact h1
    · have hle : l'.length * C.sz ≤ cs.size := by rw [hl, h1]; exact Nat.mul_le_mul_right _ h2
      refine cell_enc he (by rw [List.length_take]; have h9 := (hf cs).1; simp only [Array.length_toList]; omega) fun q hq => ?_
      rw [List.getElem?_take, if_pos hq, Array.getElem?_toList, (hf cs).2, if_pos ⟨by rw [← hl]; exact hq, by omega⟩]
    · exact ⟨by simp, fun b hb => s.lo b (by simpa using hb), fun b hb => by
        have := s.hi b (by simpa using hb)
        simp; omega⟩
/-- what a row of one's own holds, in the kit's words -/
theorem own_holds {C : Cd α} {enc : α → List Value} (he : IsEnc C enc) {w : World} {g cap : Nat} {l : List α} {F : List Nat} (p : Own C w.heap (some ⟨g, 0, none⟩) cap l F) (j : Nat) (hj : j < l.length * C.sz) : w.cell? ⟨g, 0 + j, none⟩ = some (cellOf enc C.sz l j) ∧ w.frozen? ⟨g, 0 + j, none⟩ = false := by
  rcases p.cells with ⟨h0, _⟩ | ⟨g', cs, Fs, hg0, hg, h1, h2, h3, rfl, en⟩
  · cases h0
  · simp only [Option.some.injEq, Addr.mk.injEq, and_true] at hg0
    subst hg0
    constructor
    · have := take_get (enc_cell he en hj)
      rw [cell?_eq, cellH]
      simp only [hg, Option.isSome_none, Bool.false_eq_true, if_false, Nat.zero_add]
      simpa using this
    · simp [World.frozen?, hg]
theorem Fn_of {P : Program} {f : FuncId} {args : Array Value} {h : Heap} {Post : Value → Heap → Prop} (hb : (match P.funcs[f]? with | some fn => fn.body.isSome && (fn.name != "runtime.NumGoroutine") | none => false) = true)
    (c : ∀ w, w.heap = h → Calls P f args w fun e w' => ∃ v h', e = .returned v ∧ At w h' w' ∧ Post v h') : Fn P f args h Post := ⟨hb, c⟩
end Go.Proofs.Ytelopfgolahlpaa
