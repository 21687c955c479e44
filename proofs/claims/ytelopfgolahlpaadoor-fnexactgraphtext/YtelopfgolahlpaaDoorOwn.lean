/-
  What turns the heap: make, append, literals, stores; boxes.
-/
import Derived.Test.YtelopfgolahlpaaDoorMem
namespace Go.Proofs.YtelopfgolahlpaaDoor
open Go
variable {α : Type}

/-- the streams of w' are those of w -/
structure Str (w w' : World) : Prop where
  os : w'.os = w.os
  tape : w'.tape = w.tape
  output : w'.output = w.output
  drs : w.drawn ≤ w'.drawn
theorem At.str {w0 w w' : World} {h : Heap} (a : At w0 h w) (s : Str w w') : At w0 w'.heap w' := ⟨rfl, s.os.trans a.os, s.tape.trans a.tape, s.output.trans a.output, Nat.le_trans a.drs s.drs⟩

theorem Ext.push (h : Heap) (o : Obj) : Ext h (h.push o) := ⟨by simp, fun b hb _ => by rw [Array.getElem?_push, if_neg (by omega)]⟩
theorem heap_push_new (h : Heap) (o : Obj) : (h.push o)[h.size]? = some o := by simp
/-! ### an element of one's own -/
theorem Own.cell {C : Cd α} {h : Heap} {a : Option Addr} {cap : Nat} {l : List α} {F : List Nat} (o : Own C h a cap l F) {i : Nat} {x : α} (hi : l[i]? = some x) :
    a.isSome = true ∧ ∃ vs Fx, C.own h x vs Fx ∧ (∀ b ∈ Fx, b ∈ F) ∧ ∀ j v, vs[j]? = some v → cellH h (adr a (i * C.sz + j)) = some v := by
  rcases o.cells with ⟨_, _, rfl, _⟩ | ⟨g, cs, Fs, rfl, hg, h1, h2, h3, rfl, n⟩
  · simp at hi
  · obtain ⟨vs, Fx, hF, ho, hv⟩ := n.elem i x hi
    refine ⟨rfl, vs, Fx, ho, fun b hb => List.mem_cons_of_mem _ (List.mem_flatten.2 ⟨Fx, List.mem_of_getElem? hF, hb⟩), fun j v hj => ?_⟩
    have := take_get (hv j v hj)
    rw [adr_some, cellH]
    simp only [hg, Option.isSome_none, Bool.false_eq_true, if_false, Nat.zero_add]
    simpa using this
theorem Own.cell1 {C : Cd α} {h : Heap} {a : Option Addr} {cap : Nat} {l : List α} {F : List Nat} {v : Value} (o : Own C h a cap l F) {i : Nat} {x : α} (hi : l[i]? = some x) (e : ∀ vs Fx, C.own h x vs Fx → vs[0]? = some v) :
    cellH h (adr a (i * C.sz)) = some v := by
  obtain ⟨_, vs, Fx, h1, _, h2⟩ := o.cell hi
  exact h2 0 v (e vs Fx h1)
/-- a row of one's own -/
theorem Own.row {C : Cd α} {ty : Nat} {h : Heap} {a : Option Addr} {cap : Nat} {l : List (List α)} {F : List Nat} (o : Own (rowCd C ty) h a cap l F) {i : Nat} {x : List α} (hi : l[i]? = some x) :
    ∃ a' c' Fx, cellH h (adr a (i * 1)) = some (.slice a' x.length c') ∧ Own C h a' c' x Fx ∧ ∀ b ∈ Fx, b ∈ F := by
  obtain ⟨_, vs, Fx, ⟨a', c', rfl, h1⟩, hF, h2⟩ := o.cell hi
  exact ⟨a', c', Fx, h2 0 _ rfl, h1, hF⟩

/-! ### make -/
theorem Enc.replicate {C : Cd α} {h : Heap} {x : α} {vs : List Value} (o : C.own h x vs []) (n : Nat) : Enc C h (List.replicate n x) ((List.replicate n vs).flatten) (List.replicate n []) := by
  have hl := C.own_len o
  induction n with
  | zero => exact Enc.nil C h
  | succ n ih =>
    have h1 : Enc C h [x] vs [[]] := ⟨by simp [hl], rfl, fun i y hi => by
      have hi0 : i = 0 := by
        rcases Nat.eq_zero_or_pos i with h0 | h0
        · exact h0
        · rw [List.getElem?_eq_none (by simp; omega)] at hi; cases hi
      subst hi0
      simp at hi; subst hi
      exact ⟨vs, [], rfl, o, fun j v hj => by simpa using hj⟩⟩
    have := h1.append ih
    simpa [List.replicate_succ] using this
theorem toList_madeCells (z : Array Value) (n : Nat) : (madeCells z (n * z.size)).toList = (List.replicate n z.toList).flatten := by
  apply List.ext_getElem?
  intro p
  rcases Nat.eq_zero_or_pos z.size with h0 | h0
  · have : z = #[] := by simpa using h0
    subst this
    simp [madeCells]
  · by_cases hp : p < n * z.size
    · have hq : p / z.size < n := (Nat.div_lt_iff_lt_mul h0).2 hp
      have hr : p % z.size < z.size := Nat.mod_lt _ h0
      have key : ∀ (n p : Nat), p < n * z.size → ((List.replicate n z.toList).flatten)[p]? = z.toList[p % z.size]? := by
        intro n
        induction n with
        | zero => intro p hp; simp at hp
        | succ n ih =>
          intro p hp
          rw [List.replicate_succ, List.flatten_cons]
          by_cases hlt : p < z.size
          · rw [List.getElem?_append_left (by simpa using hlt), Nat.mod_eq_of_lt hlt]
          · rw [List.getElem?_append_right (by simpa using Nat.le_of_not_lt hlt)]
            simp only [Array.length_toList]
            rw [ih (p - z.size) (by rw [Nat.add_mul, Nat.one_mul] at hp; omega)]
            congr 1
            rw [Nat.mod_eq_sub_mod (a := p) (by omega)]
      rw [key n p hp]
      simp [madeCells, hp, hr]
    · rw [List.getElem?_eq_none (by simp [madeCells]; omega), List.getElem?_eq_none (by simp; omega)]
/-- a fresh block that holds l -/
theorem Own.fresh {C : Cd α} {h : Heap} {cs : Array Value} {l : List α} {Fs : List (List Nat)} (hs : l.length ≤ 9223372036854775807) (n : Enc C h l cs.toList Fs) (hF : ∀ b ∈ Fs.flatten, b < h.size) :
    Own C (h.push (.cells cs C.ty)) (some ⟨h.size, 0, none⟩) l.length l (h.size :: Fs.flatten) := by
  refine ⟨hs, .inr ⟨h.size, cs, Fs, rfl, heap_push_new h _, by have := n.len; simpa using this, Nat.le_refl _, by simp only [maxLen]; omega, rfl, ?_⟩⟩
  rw [List.take_of_length_le (by rw [n.len]; exact Nat.le_refl _)]
  exact n.ext fun b hb => (Ext.push h _).block b (hF b hb) (by simp)
theorem Sep.fresh {h : Heap} (o : Obj) : Sep h.size (h.push o) [h.size] := ⟨by simp, fun b hb => by simp at hb; omega, fun b hb => by simp at hb; simp; omega⟩
theorem run_made {P : Program} {C : Cd α} {w : World} {t : Nat} {i : TypeInfo} {z : Value} {x : α} (ht : P.underlying t = some (.slice C.ty)) (hi : P.info? C.ty = some i) (hz : i.zero = some z) (hsz : i.size = C.sz)
    (hx : ∀ h, C.own h x z.cells.toList []) (kl kc : IntKind) (n : Int) (h0 : 0 ≤ n) (hn : n * (i.bytes : Int) ≤ 281474976710656) (h60 : n ≤ 9223372036854775807) :
    ∃ w', (Instr.makeSlice t (.int kl n) (.int kc n)).run P w = .ok (.slice (some ⟨w.heap.size, 0, none⟩) (List.replicate n.toNat x).length (List.replicate n.toNat x).length) w' ∧
      Own C w'.heap (some ⟨w.heap.size, 0, none⟩) (List.replicate n.toNat x).length (List.replicate n.toNat x) [w.heap.size] ∧ Sep w.heap.size w'.heap [w.heap.size] ∧ Ext w.heap w'.heap ∧ Str w w' := by
  have hr := run_make (P := P) w t C.ty i z ht hi hz kl kc n n h0 (Int.le_refl _) (by rw [Int.mul_comm]; exact hn) (by omega)
  have hcs : z.cells.size = C.sz := by have := C.own_len (hx w.heap); simpa using this
  refine ⟨w.alloc (.cells (madeCells z.cells (n.toNat * i.size)) C.ty), by rw [hr, List.length_replicate], ?_, Sep.fresh _, Ext.push _ _, ⟨rfl, rfl, rfl, by first | exact Nat.le_refl _ | exact Nat.le_succ _⟩⟩
  have n1 := Enc.replicate (hx w.heap) n.toNat
  have e1 : (madeCells z.cells (n.toNat * i.size)).toList = (List.replicate n.toNat z.cells.toList).flatten := by rw [hsz, ← hcs]; exact toList_madeCells _ _
  rw [← e1] at n1
  have h1 := Own.fresh (C := C) (h := w.heap) (by simp; omega) n1 (by simp)
  have e2 : w.heap.size :: (List.replicate n.toNat ([] : List Nat)).flatten = [w.heap.size] := by simp
  rw [e2] at h1
  exact h1

/-! ### append -/
/-! ### stores -/
/-- elements without blocks of their own -/
def Flat (C : Cd α) : Prop := ∀ h x vs F, C.own h x vs F → F = []
theorem flatten_nil {Fs : List (List Nat)} (h : ∀ F ∈ Fs, F = []) : Fs.flatten = [] := by
  induction Fs with
  | nil => rfl
  | cons F Fs ih => rw [List.flatten_cons, h F List.mem_cons_self, ih fun G hG => h G (List.mem_cons_of_mem _ hG)]; rfl
theorem Enc.flat {C : Cd α} (hf : Flat C) {h : Heap} {l : List α} {xs : List Value} {Fs : List (List Nat)} (n : Enc C h l xs Fs) : ∀ F ∈ Fs, F = [] := by
  intro F hF
  obtain ⟨i, hi, rfl⟩ := List.mem_iff_getElem.1 hF
  have hl : i < l.length := by rw [← n.fp]; exact hi
  obtain ⟨vs, Fx, h1, h2, _⟩ := n.elem i _ (List.getElem?_eq_getElem hl)
  rw [List.getElem?_eq_getElem hi] at h1
  rw [Option.some.inj h1]
  exact hf _ _ _ _ h2
/-- cells put in the place of the i-th element -/
theorem Enc.put {C : Cd α} {h : Heap} {l : List α} {xs : List Value} {Fs : List (List Nat)} (n : Enc C h l xs Fs) {i : Nat} (hi : i < l.length) {x : α} {vs : List Value} {Fx : List Nat} (ho : C.own h x vs Fx) :
    Enc C h (l.set i x) (xs.take (i * C.sz) ++ vs ++ xs.drop (i * C.sz + vs.length)) (Fs.set i Fx) := by
  have hl := C.own_len ho
  have hb : i * C.sz + C.sz ≤ xs.length := by
    rw [n.len, ← Nat.succ_mul]; exact Nat.mul_le_mul_right _ hi
  refine ⟨(by have := n.len; simp [hl]; omega), by simp [n.fp], fun k y hk => ?_⟩
  by_cases hki : k = i
  · subst hki
    rw [List.getElem?_set_self (by simpa using hi)] at hk
    cases hk
    refine ⟨vs, Fx, by rw [List.getElem?_set_self (by rw [n.fp]; exact hi)], ho, fun j v hj => ?_⟩
    have hjl := (List.getElem?_eq_some_iff.1 hj).1
    rw [List.append_assoc, List.getElem?_append_right (by simp; omega), List.getElem?_append_left (by simp; omega)]
    simp only [List.length_take]
    rw [show k * C.sz + j - min (k * C.sz) xs.length = j by omega]
    exact hj
  · rw [List.getElem?_set_ne (Ne.symm hki)] at hk
    obtain ⟨us, Fy, hF, hoy, hv⟩ := n.elem k y hk
    refine ⟨us, Fy, by rw [List.getElem?_set_ne (Ne.symm hki)]; exact hF, hoy, fun j v hj => ?_⟩
    have hjl : j < C.sz := by rw [← C.own_len hoy]; exact (List.getElem?_eq_some_iff.1 hj).1
    have := hv j v hj
    rcases Nat.lt_or_ge k i with hlt | hge
    · have h1 : k * C.sz + C.sz ≤ i * C.sz := by rw [← Nat.succ_mul]; exact Nat.mul_le_mul_right _ hlt
      rw [List.append_assoc, List.getElem?_append_left (by simp; omega), List.getElem?_take, if_pos (by omega)]
      exact this
    · have h1 : i * C.sz + C.sz ≤ k * C.sz := by rw [← Nat.succ_mul]; exact Nat.mul_le_mul_right _ (by omega)
      rw [List.getElem?_append_right (by simp; omega), List.getElem?_drop]
      simp only [List.length_append, List.length_take]
      rw [show i * C.sz + vs.length + (k * C.sz + j - (min (i * C.sz) xs.length + vs.length)) = k * C.sz + j by omega]
      exact this
theorem take_put {xs vs : List Value} {p n : Nat} (hp : p + vs.length ≤ n) (hn : n ≤ xs.length) : (xs.take p ++ vs ++ xs.drop (p + vs.length)).take n = (xs.take n).take p ++ vs ++ (xs.take n).drop (p + vs.length) := by
  have hl : (xs.take p ++ vs).length = p + vs.length := by simp; omega
  rw [List.take_append, List.take_of_length_le (by rw [hl]; exact hp), List.take_take, Nat.min_eq_left (by omega), List.drop_take, hl]
/-- a store of a whole element, at heap level -/
theorem run_put {P : Program} {C : Cd α} {w : World} {a : Option Addr} {cap lo : Nat} {l : List α} {F : List Nat} (o : Own C w.heap a cap l F) (s : Sep lo w.heap F) {t : Nat} {inf : TypeInfo} (hinf : P.info? t = some inf) (hsz : inf.size = C.sz)
    {i : Nat} (hi : i < l.length) {x : α} {v : Value} {Gx : List Nat} (ho : C.own w.heap x v.cells.toList Gx) (sG : Sep lo w.heap Gx) (dj : Dj F Gx) :
    ∃ F' w', (Instr.storeAt t (.pointer (some (adr a (i * C.sz)))) v).run P w = .ok () w' ∧ Own C w'.heap a cap (l.set i x) F' ∧ Sep lo w'.heap F' ∧ Fr F w.heap w'.heap ∧ Str w w' ∧ w'.heap.size = w.heap.size ∧ (∀ b ∈ F', b ∈ F ∨ b ∈ Gx) ∧
      (Flat C → F' = F) := by
  rcases o.cells with ⟨_, _, rfl, _⟩ | ⟨g, cs, Fs, rfl, hg, h1, h2, h3, rfl, n⟩
  · simp at hi
  · have hl := C.own_len ho
    have hb : i * C.sz + C.sz ≤ l.length * C.sz := by rw [← Nat.succ_mul]; exact Nat.mul_le_mul_right _ hi
    have hb2 : l.length * C.sz ≤ cs.size := by rw [h1]; exact Nat.mul_le_mul_right _ h2
    have hst := run_storeCells_at P g (i * C.sz) C.ty v.cells.toList 0 cs w hg (by rw [hl]; omega) (C.own_one ho)
    simp only [Nat.add_zero] at hst
    have hnd := List.nodup_cons.1 s.nodup
    have hrun : (Instr.storeAt t (.pointer (some (adr (some ⟨g, 0, none⟩) (i * C.sz)))) v).run P w = .ok () (w.setRow g (cs.toList.take (i * C.sz) ++ v.cells.toList ++ cs.toList.drop (i * C.sz + v.cells.toList.length)).toArray) := by
      have hvs : v.cells.size = inf.size := by rw [hsz, ← hl]; simp
      rw [adr_some]
      simp only [Nat.zero_add] at hst ⊢
      simp only [Instr.storeAt, Instr.sureAddr, storeVar, sizeOf, typeInfo, Sem.run_bind, Sem.run_pure, Result.andThen_ok, program, Sem.run, hinf, hvs, ne_eq, not_true_eq_false, if_false]
      exact hst
    have hgF : g ∉ Gx := fun hm => dj g List.mem_cons_self hm
    have hperm : ∀ b ∈ (Fs.set i Gx).flatten, b ∈ Fs.flatten ∨ b ∈ Gx := by
      intro b hb
      obtain ⟨G, hG, hbG⟩ := List.mem_flatten.1 hb
      rcases List.mem_or_eq_of_mem_set hG with h | rfl
      · exact .inl (List.mem_flatten.2 ⟨G, h, hbG⟩)
      · exact .inr hbG
    have hsep : (Fs.set i Gx).flatten.Nodup := by
      have hil : i < Fs.length := by rw [n.fp]; exact hi
      have e1 : Fs.set i Gx = Fs.take i ++ Gx :: Fs.drop (i + 1) := List.set_eq_take_append_cons_drop.trans (if_pos hil)
      have e2 : Fs = Fs.take i ++ Fs[i] :: Fs.drop (i + 1) := by
        conv => lhs; rw [← List.take_append_drop i Fs, List.drop_eq_getElem_cons hil]
      have hn2 := hnd.2
      rw [e2] at hn2
      rw [e1]
      rw [List.flatten_append, List.flatten_cons, List.nodup_append, List.nodup_append] at hn2 ⊢
      obtain ⟨p1, ⟨p2, p3, p4⟩, p5⟩ := hn2
      have inF : ∀ b, b ∈ (Fs.take i).flatten ∨ b ∈ (Fs.drop (i + 1)).flatten → b ∈ Fs.flatten := by
        intro b hb
        rw [e2, List.flatten_append, List.flatten_cons]
        simp only [List.mem_append]
        rcases hb with hb | hb
        · exact .inl hb
        · exact .inr (.inr hb)
      refine ⟨p1, ⟨sG.nodup, p3, fun b hb b' hb' e => ?_⟩, fun b hb b' hb' e => ?_⟩
      · subst e; exact dj b (List.mem_cons_of_mem _ (inF b (.inr hb'))) hb
      · subst e
        rw [List.mem_append] at hb'
        rcases hb' with hb' | hb'
        · exact dj b (List.mem_cons_of_mem _ (inF b (.inl hb))) hb'
        · exact p5 b hb b (List.mem_append.2 (.inr hb')) rfl
    refine ⟨g :: (Fs.set i Gx).flatten, _, hrun, ⟨by simpa using o.small, .inr ⟨g, _, Fs.set i Gx, rfl, setRow_heap w g cs _ C.ty _ hg, ?_, by simpa using h2, h3, rfl, ?_⟩⟩, ⟨?_, ?_, ?_⟩, ⟨by simp, fun b _ hF => setRow_other w g b _ (fun e => hF (by rw [e]; exact List.mem_cons_self))⟩, ⟨rfl, rfl, rfl, by first | exact Nat.le_refl _ | exact Nat.le_succ _⟩, by simp, ?_, ?_⟩
    · simp; rw [← h1]; simp at hl; omega
    · have n2 := n.put hi ho
      rw [List.toList_toArray, List.length_set, take_put (by rw [hl]; exact hb) (by simpa using hb2)]
      refine n2.ext fun b hb => setRow_other w g b _ ?_
      rintro rfl
      rcases hperm _ hb with h | h
      · exact hnd.1 h
      · exact hgF h
    · rw [List.nodup_cons]
      exact ⟨fun hm => by rcases hperm _ hm with h | h; exact hnd.1 h; exact hgF h, hsep⟩
    · intro b hb
      simp only [List.mem_cons] at hb
      rcases hb with rfl | hb
      · exact s.lo _ List.mem_cons_self
      · rcases hperm b hb with h | h
        · exact s.lo b (List.mem_cons_of_mem _ h)
        · exact sG.lo b h
    · intro b hb
      rw [size_setRow]
      simp only [List.mem_cons] at hb
      rcases hb with rfl | hb
      · exact s.hi _ List.mem_cons_self
      · rcases hperm b hb with h | h
        · exact s.hi b (List.mem_cons_of_mem _ h)
        · exact sG.hi b h
    · intro b hb
      simp only [List.mem_cons] at hb
      rcases hb with rfl | hb
      · exact .inl List.mem_cons_self
      · rcases hperm b hb with h | h
        · exact .inl (List.mem_cons_of_mem _ h)
        · exact .inr h
    · intro hf
      have e1 := n.flat hf
      have e2 : Gx = [] := hf _ _ _ _ ho
      subst e2
      rw [flatten_nil e1, flatten_nil]
      intro G hG
      rcases List.mem_or_eq_of_mem_set hG with h | rfl
      · exact e1 G h
      · rfl
end Go.Proofs.YtelopfgolahlpaaDoor
