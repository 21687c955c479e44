/-
  What turns the heap: make, append, literals, stores; boxes.
-/
import Derived.Test.YtfhphkiggdepaaaDoorMem
namespace Go.Proofs.YtfhphkiggdepaaaDoor
open Go
variable {α : Type}

/-- the streams of w' are those of w -/
structure Str (w w' : World) : Prop where
  os : w'.os = w.os
  tape : w'.tape = w.tape
  output : w'.output = w.output
  drs : DrLe w.drawn w'.drawn
theorem At.str {w0 w w' : World} {h : Heap} (a : At w0 h w) (s : Str w w') : At w0 w'.heap w' := ⟨rfl, s.os.trans a.os, s.tape.trans a.tape, s.output.trans a.output, a.drs.trans s.drs⟩

theorem Ext.push (h : Heap) (o : Obj) : Ext h (h.push o) := ⟨by simp, fun b hb _ => by rw [Array.getElem?_push, if_neg (by omega)]⟩
theorem heap_push_new (h : Heap) (o : Obj) : (h.push o)[h.size]? = some o := by simp
theorem cell_at {h h' : Heap} {p : Addr} {v : Value} (e : Ext h h') (hc : cellH h p = some v) : cellH h' p = some v := by
  unfold cellH at *
  have hlt : p.block < h.size := by
    rcases Nat.lt_or_ge p.block h.size with h1 | h1
    · exact h1
    · simp [Array.getElem?_eq_none h1] at hc
  rw [e.block p.block hlt (by simp)]
  exact hc

/-! ### an element of one's own -/
theorem Own.cell {C : Cd α} {h : Heap} {a : Option Addr} {cap : Nat} {l : List α} {F : List Nat} (o : Own C h a cap l F) {i : Nat} {x : α} (hi : l[i]? = some x) :
    a.isSome = true ∧ ∃ vs Fx, C.own h x vs Fx ∧ (∀ b ∈ Fx, b ∈ F) ∧ ∀ j v, vs[j]? = some v → cellH h (adr a (i * C.sz + j)) = some v := by
  rcases o.cells with ⟨_, _, rfl, _⟩ | ⟨g, cs, Fs, rfl, hg, h1, h2, h3, rfl, n⟩
  · simp at hi
  · obtain ⟨vs, Fx, hF, ho, hv⟩ := n.elem i x hi
    refine ⟨rfl, vs, Fx, ho, fun b hb => List.mem_cons_of_mem _ (List.mem_flatten.2 ⟨Fx, List.mem_of_getElem? hF, hb⟩), fun j v hj => ?_⟩
    have := take_get (hv j v hj)
    rw [adr_some, cellH]
    simp only [hg, Option.isSome_none, Bool.false_eq_true, if_false, Nat.zero_add]
    simpa using this
theorem Own.cell1 {C : Cd α} {h : Heap} {a : Option Addr} {cap : Nat} {l : List α} {F : List Nat} {v : Value} (o : Own C h a cap l F) {i : Nat} {x : α} (hi : l[i]? = some x) (e : ∀ vs Fx, C.own h x vs Fx → vs[0]? = some v) :
    cellH h (adr a (i * C.sz)) = some v := by
  obtain ⟨_, vs, Fx, h1, _, h2⟩ := o.cell hi
  exact h2 0 v (e vs Fx h1)
/-- a row of one's own -/
theorem Own.row {C : Cd α} {ty : Nat} {h : Heap} {a : Option Addr} {cap : Nat} {l : List (List α)} {F : List Nat} (o : Own (rowCd C ty) h a cap l F) {i : Nat} {x : List α} (hi : l[i]? = some x) :
    ∃ a' c' Fx, cellH h (adr a (i * 1)) = some (.slice a' x.length c') ∧ Own C h a' c' x Fx ∧ ∀ b ∈ Fx, b ∈ F := by
  obtain ⟨_, vs, Fx, ⟨a', c', rfl, h1⟩, hF, h2⟩ := o.cell hi
  exact ⟨a', c', Fx, h2 0 _ rfl, h1, hF⟩

/-! ### make -/
theorem Enc.replicate {C : Cd α} {h : Heap} {x : α} {vs : List Value} (o : C.own h x vs []) (n : Nat) : Enc C h (List.replicate n x) ((List.replicate n vs).flatten) (List.replicate n []) := by
  have hl := C.own_len o
  induction n with
  | zero => exact Enc.nil C h
  | succ n ih =>
    have h1 : Enc C h [x] vs [[]] := ⟨by simp [hl], rfl, fun i y hi => by
      have hi0 : i = 0 := by
        rcases Nat.eq_zero_or_pos i with h0 | h0
        · exact h0
        · rw [List.getElem?_eq_none (by simp; omega)] at hi; cases hi
      subst hi0
      simp at hi; subst hi
      exact ⟨vs, [], rfl, o, fun j v hj => by simpa using hj⟩⟩
    have := h1.append ih
    simpa [List.replicate_succ] using this
/-- a fresh block that holds l -/
theorem Own.fresh {C : Cd α} {h : Heap} {cs : Array Value} {l : List α} {Fs : List (List Nat)} (hs : l.length ≤ 9223372036854775807) (n : Enc C h l cs.toList Fs) (hF : ∀ b ∈ Fs.flatten, b < h.size) :
    Own C (h.push (.cells cs C.ty)) (some ⟨h.size, 0, none⟩) l.length l (h.size :: Fs.flatten) := by
  refine ⟨hs, .inr ⟨h.size, cs, Fs, rfl, heap_push_new h _, by have := n.len; simpa using this, Nat.le_refl _, by simp only [maxLen]; omega, rfl, ?_⟩⟩
  rw [List.take_of_length_le (by rw [n.len]; exact Nat.le_refl _)]
  exact n.ext fun b hb => (Ext.push h _).block b (hF b hb) (by simp)
theorem Sep.fresh {h : Heap} (o : Obj) : Sep h.size (h.push o) [h.size] := ⟨by simp, fun b hb => by simp at hb; omega, fun b hb => by simp at hb; simp; omega⟩
/-! ### append -/
theorem run_app {P : Program} {C : Cd α} {w : World} {a : Option Addr} {cap lo : Nat} {l : List α} {F : List Nat} (o : Own C w.heap a cap l F) (s : Sep lo w.heap F) (hlo : lo ≤ w.heap.size)
    {t ty : Nat} {i : TypeInfo} {z : Value} (ht : P.underlying t = some (.slice C.ty)) (hi : P.info? C.ty = some i) (hz : i.zero = some z) (hsz : i.size = C.sz) (hzc : z.cells.size = C.sz)
    {ad : Addr} {m c : Nat} {ys : List α} {news : List Value} {Gs : List (List Nat)} (en : Enc C w.heap ys news Gs) (hm : ys.length = m) (hn : ∀ j u, news[j]? = some u → w.cell? (ad.add j) = some u)
    (sG : Sep lo w.heap Gs.flatten) (dj : Dj F Gs.flatten) (hb : (l.length + m) * i.bytes ≤ 140737488355328) (h60 : l.length + m ≤ 9223372036854775807) :
    ∃ a' cap' F' w', (Builtin.append_ #[t, t] ty #[.slice a l.length cap, .slice (some ad) m c]).run P w = .ok (.slice a' (l ++ ys).length cap') w' ∧ Own C w'.heap a' cap' (l ++ ys) F' ∧ Sep lo w'.heap F' ∧ Fr F w.heap w'.heap ∧ Str w w' ∧
      (∀ b ∈ F', b ∈ F ∨ b ∈ Gs.flatten ∨ w.heap.size ≤ b) ∧ (∀ p v, p < l.length * C.sz → cellH w.heap (adr a p) = some v → cellH w'.heap (adr a' p) = some v) := by
  subst hm
  have hnl : news.length = ys.length * i.size := by rw [en.len, hsz]
  have hle : (l ++ ys).length = l.length + ys.length := List.length_append
  have ext1 : ∀ (cs : Array Value), Ext w.heap (w.drew.alloc (.cells cs C.ty)).heap := fun cs => Ext.push w.heap _
  -- a new block
  have grown : ∀ (xs : List Value) (Fs : List (List Nat)) (old : Nat), Enc C w.heap l xs Fs → (∀ b ∈ Fs.flatten, b ∈ F) → Fs.flatten.Nodup → 
      let nc := grownCap w (l.length + ys.length) old C.ty
      let w' := w.drew.alloc (.cells (xs.toArray ++ news.toArray ++ Builtin.zeroCells z.cells (nc - (l.length + ys.length))) C.ty)
      Own C w'.heap (some ⟨w.heap.size, 0, none⟩) nc (l ++ ys) (w.heap.size :: (Fs ++ Gs).flatten) ∧ Sep lo w'.heap (w.heap.size :: (Fs ++ Gs).flatten) ∧ Fr F w.heap w'.heap ∧ Str w w' ∧ (∀ b ∈ w.heap.size :: (Fs ++ Gs).flatten, b ∈ F ∨ b ∈ Gs.flatten ∨ w.heap.size ≤ b) ∧ (∀ p v, xs[p]? = some v → cellH w'.heap (adr (some ⟨w.heap.size, 0, none⟩) p) = some v) := by
    intro xs Fs old n1 hFs hnd nc w'
    have hnc : l.length + ys.length ≤ nc := grownCap_ge _ _ _ _
    have hnm : nc ≤ maxLen := grownCap_le_maxLen w _ _ _ (by simp only [maxLen]; omega)
    have n2 := n1.append en
    have hlt : ∀ b ∈ (Fs ++ Gs).flatten, b < w.heap.size := fun b hb => by
      rw [List.flatten_append, List.mem_append] at hb
      rcases hb with hb | hb
      · exact s.hi b (hFs b hb)
      · exact sG.hi b hb
    refine ⟨⟨by rw [hle]; exact h60, .inr ⟨w.heap.size, _, Fs ++ Gs, rfl, heap_push_new w.heap _, ?_, by rw [hle]; exact hnc, hnm, rfl, ?_⟩⟩, ⟨?_, ?_, ?_⟩, (ext1 _).fr, ⟨rfl, rfl, rfl, by first | exact DrLe.refl _ | exact DrLe.succ _⟩, ?_, fun p v hp => ?_⟩
    · simp only [Array.size_append, List.size_toArray, size_zeroCells, hzc, n1.len, en.len, ← Nat.add_mul]
      congr 1; omega
    · have e1 : (xs.toArray ++ news.toArray ++ Builtin.zeroCells z.cells (nc - (l.length + ys.length))).toList.take ((l ++ ys).length * C.sz) = xs ++ news := by
        simp only [Array.toList_append]
        rw [List.take_append_of_le_length (by simp [n1.len, en.len, Nat.add_mul]), List.take_of_length_le (by simp [n1.len, en.len, Nat.add_mul])]
      rw [e1]
      exact n2.ext fun b hb => (ext1 _).block b (hlt b hb) (by simp)
    · rw [List.nodup_cons]
      refine ⟨fun hm => by have := hlt _ hm; omega, ?_⟩
      rw [List.flatten_append, List.nodup_append]
      exact ⟨hnd, sG.nodup, fun b hb b' hb' e => dj b (hFs b hb) (e ▸ hb')⟩
    · intro b hb
      simp only [List.mem_cons] at hb
      rcases hb with rfl | hb
      · exact hlo
      · rw [List.flatten_append, List.mem_append] at hb
        rcases hb with hb | hb
        · exact s.lo b (hFs b hb)
        · exact sG.lo b hb
    · intro b hb
      simp only [List.mem_cons] at hb
      have hsz : w'.heap.size = w.heap.size + 1 := Array.size_push _
      rcases hb with rfl | hb
      · omega
      · have := hlt b hb; omega
    · intro b hb
      simp only [List.mem_cons] at hb
      rcases hb with rfl | hb
      · exact .inr (.inr (Nat.le_refl _))
      · rw [List.flatten_append, List.mem_append] at hb
        rcases hb with hb | hb
        · exact .inl (hFs b hb)
        · exact .inr (.inl hb)
    · have hg := heap_push_new w.heap (.cells (xs.toArray ++ news.toArray ++ Builtin.zeroCells z.cells (nc - (l.length + ys.length))) C.ty)
      have hg : w'.heap[w.heap.size]? = _ := hg
      have hpl := (List.getElem?_eq_some_iff.1 hp).1
      rw [adr_some, cellH]
      simp only [hg, Option.isSome_none, Bool.false_eq_true, if_false, Nat.zero_add]
      rw [Array.append_assoc, Array.getElem?_append_left (by simpa using hpl)]
      simpa using hp
  rcases o.cells with ⟨rfl, rfl, rfl, rfl⟩ | ⟨g, cs, Fs, rfl, hg, h1, h2, h3, rfl, n1⟩
  · by_cases hm : ys.length = 0
    · have hy : ys = [] := List.eq_nil_of_length_eq_zero hm
      subst hy
      refine ⟨none, 0, [], w, ?_, Own.nil C _, Sep.nil _ _, Fr.refl _ _, ⟨rfl, rfl, rfl, by first | exact DrLe.refl _ | exact DrLe.succ _⟩, by simp, fun p v hp => by simp at hp⟩
      simp [Builtin.append_, run_underlying ht, sizeOf, typeInfo, hi, Builtin.lenOf, Builtin.firstCells, loadCells, loadCellsFrom]
    · have hr := run_append_nil (P := P) w t ty C.ty i z ht hi hz ad ys.length c news hnl hn (by omega) (by simp at h60; omega) (by simp at hb; omega)
      have hgr := grown [] [] 0 (Enc.nil C _) (by simp) (by simp)
      simp only [List.length_nil, Nat.zero_add, List.nil_append] at hgr
      refine ⟨_, _, _, _, ?_, hgr.1, hgr.2.1, hgr.2.2.1, hgr.2.2.2.1, hgr.2.2.2.2.1, fun p v hp => by simp at hp⟩
      simpa using hr
  · by_cases hroom : l.length + ys.length ≤ cap
    · have hfit : l.length * i.size + news.length ≤ cs.size := by rw [hnl, h1, ← Nat.add_mul, hsz]; exact Nat.mul_le_mul_right _ hroom
      have hr := run_append_room (P := P) w t ty C.ty i ht hi g l.length cap cs hg ad ys.length c news hnl hn en.one hroom hfit
      have hnd := s.nodup
      rw [List.nodup_cons] at hnd
      have fr1 : Fr (g :: Fs.flatten) w.heap (w.setRow g (cs.toList.take (l.length * i.size) ++ news ++ cs.toList.drop (l.length * i.size + news.length)).toArray).heap :=
        ⟨by simp, fun b _ hF => setRow_other w g b _ (fun e => hF (by rw [e]; exact List.mem_cons_self))⟩
      refine ⟨_, cap, g :: (Fs ++ Gs).flatten, _, by rw [hle]; exact hr, ⟨by rw [hle]; exact h60, .inr ⟨g, _, Fs ++ Gs, rfl, setRow_heap w g cs _ C.ty _ hg, ?_, by rw [hle]; exact hroom, h3, rfl, ?_⟩⟩, ⟨?_, ?_, ?_⟩, fr1, ⟨rfl, rfl, rfl, by first | exact DrLe.refl _ | exact DrLe.succ _⟩, ?_, fun p v hp hv => ?_⟩
      · simp only [List.size_toArray, List.length_append, List.length_take, List.length_drop, Array.length_toList]
        rw [← h1]; omega
      · have n2 := n1.append en
        have e1 : ((cs.toList.take (l.length * i.size) ++ news ++ cs.toList.drop (l.length * i.size + news.length)).toArray.toList.take ((l ++ ys).length * C.sz)) = cs.toList.take (l.length * C.sz) ++ news := by
          rw [hsz] at hfit hnl ⊢
          rw [List.toList_toArray, List.take_append_of_le_length (by simp [en.len, Nat.add_mul]; omega), List.take_of_length_le (by simp [en.len, Nat.add_mul]; omega)]
        rw [e1]
        refine n2.ext fun b hb => setRow_other w g b _ ?_
        rw [List.flatten_append, List.mem_append] at hb
        rintro rfl
        rcases hb with hb | hb
        · exact hnd.1 hb
        · exact dj _ List.mem_cons_self hb
      · rw [List.nodup_cons]
        refine ⟨fun hm => ?_, ?_⟩
        · rw [List.flatten_append, List.mem_append] at hm
          rcases hm with hm | hm
          · exact hnd.1 hm
          · exact dj _ List.mem_cons_self hm
        · rw [List.flatten_append, List.nodup_append]
          exact ⟨hnd.2, sG.nodup, fun b hb b' hb' e => dj b (List.mem_cons_of_mem _ hb) (e ▸ hb')⟩
      · intro b hb
        simp only [List.mem_cons] at hb
        rcases hb with rfl | hb
        · exact s.lo _ List.mem_cons_self
        · rw [List.flatten_append, List.mem_append] at hb
          rcases hb with hb | hb
          · exact s.lo b (List.mem_cons_of_mem _ hb)
          · exact sG.lo b hb
      · intro b hb
        rw [size_setRow]
        simp only [List.mem_cons] at hb
        rcases hb with rfl | hb
        · exact s.hi _ List.mem_cons_self
        · rw [List.flatten_append, List.mem_append] at hb
          rcases hb with hb | hb
          · exact s.hi b (List.mem_cons_of_mem _ hb)
          · exact sG.hi b hb
      · intro b hb
        simp only [List.mem_cons] at hb
        rcases hb with rfl | hb
        · exact .inl List.mem_cons_self
        · rw [List.flatten_append, List.mem_append] at hb
          rcases hb with hb | hb
          · exact .inl (List.mem_cons_of_mem _ hb)
          · exact .inr (.inl hb)
      · rw [adr_some, cellH] at hv ⊢
        simp only [hg, setRow_heap w g cs _ C.ty _ hg, Option.isSome_none, Bool.false_eq_true, if_false, Nat.zero_add] at hv ⊢
        have hpc := (Array.getElem?_eq_some_iff.1 hv).1
        rw [List.getElem?_toArray, List.append_assoc, List.getElem?_append_left (by rw [List.length_take, hsz]; simp; omega), List.getElem?_take, if_pos (by rw [hsz]; exact hp)]
        simpa using hv
    · have holds : ∀ j u, (cs.toList.take (l.length * C.sz))[j]? = some u → w.cell? ((⟨g, 0, none⟩ : Addr).add j) = some u := by
        intro j u hu
        have hadd : (⟨g, 0, none⟩ : Addr).add j = ⟨g, j, none⟩ := by unfold Addr.add; split <;> simp_all
        rw [hadd, cell_of_row w g j cs C.ty (0, 0) hg]
        simpa using take_get hu
      have hr := run_append_grow (P := P) w t ty C.ty i z ht hi hz ⟨g, 0, none⟩ l.length cap _ (by rw [n1.len, hsz]) holds ad ys.length c news hnl hn (by omega) (by omega) (growslice_fits (by omega) hb)
      have hgr := grown _ Fs cap n1 (fun b hb => List.mem_cons_of_mem _ hb) (List.nodup_cons.1 s.nodup).2
      refine ⟨_, _, _, _, by rw [hle]; exact hr, hgr.1, hgr.2.1, hgr.2.2.1, hgr.2.2.2.1, hgr.2.2.2.2.1, fun p v hp hv => hgr.2.2.2.2.2 p v ?_⟩
      rw [adr_some, cellH] at hv
      simp only [hg, Option.isSome_none, Bool.false_eq_true, if_false, Nat.zero_add] at hv
      rw [List.getElem?_take, if_pos hp]
      simpa using hv

/-! ### stores -/
/-- elements without blocks of their own -/
def Flat (C : Cd α) : Prop := ∀ h x vs F, C.own h x vs F → F = []
theorem flatten_nil {Fs : List (List Nat)} (h : ∀ F ∈ Fs, F = []) : Fs.flatten = [] := by
  induction Fs with
  | nil => rfl
  | cons F Fs ih => rw [List.flatten_cons, h F List.mem_cons_self, ih fun G hG => h G (List.mem_cons_of_mem _ hG)]; rfl
theorem Enc.flat {C : Cd α} (hf : Flat C) {h : Heap} {l : List α} {xs : List Value} {Fs : List (List Nat)} (n : Enc C h l xs Fs) : ∀ F ∈ Fs, F = [] := by
  intro F hF
  obtain ⟨i, hi, rfl⟩ := List.mem_iff_getElem.1 hF
  have hl : i < l.length := by rw [← n.fp]; exact hi
  obtain ⟨vs, Fx, h1, h2, _⟩ := n.elem i _ (List.getElem?_eq_getElem hl)
  rw [List.getElem?_eq_getElem hi] at h1
  rw [Option.some.inj h1]
  exact hf _ _ _ _ h2
/-- cells put in the place of the i-th element -/
theorem Enc.put {C : Cd α} {h : Heap} {l : List α} {xs : List Value} {Fs : List (List Nat)} (n : Enc C h l xs Fs) {i : Nat} (hi : i < l.length) {x : α} {vs : List Value} {Fx : List Nat} (ho : C.own h x vs Fx) :
    Enc C h (l.set i x) (xs.take (i * C.sz) ++ vs ++ xs.drop (i * C.sz + vs.length)) (Fs.set i Fx) := by
  have hl := C.own_len ho
  have hb : i * C.sz + C.sz ≤ xs.length := by
    rw [n.len, ← Nat.succ_mul]; exact Nat.mul_le_mul_right _ hi
  refine ⟨(by have := n.len; simp [hl]; omega), by simp [n.fp], fun k y hk => ?_⟩
  by_cases hki : k = i
  · subst hki
    rw [List.getElem?_set_self (by simpa using hi)] at hk
    cases hk
    refine ⟨vs, Fx, by rw [List.getElem?_set_self (by rw [n.fp]; exact hi)], ho, fun j v hj => ?_⟩
    have hjl := (List.getElem?_eq_some_iff.1 hj).1
    rw [List.append_assoc, List.getElem?_append_right (by simp; omega), List.getElem?_append_left (by simp; omega)]
    simp only [List.length_take]
    rw [show k * C.sz + j - min (k * C.sz) xs.length = j by omega]
    exact hj
  · rw [List.getElem?_set_ne (Ne.symm hki)] at hk
    obtain ⟨us, Fy, hF, hoy, hv⟩ := n.elem k y hk
    refine ⟨us, Fy, by rw [List.getElem?_set_ne (Ne.symm hki)]; exact hF, hoy, fun j v hj => ?_⟩
    have hjl : j < C.sz := by rw [← C.own_len hoy]; exact (List.getElem?_eq_some_iff.1 hj).1
    have := hv j v hj
    rcases Nat.lt_or_ge k i with hlt | hge
    · have h1 : k * C.sz + C.sz ≤ i * C.sz := by rw [← Nat.succ_mul]; exact Nat.mul_le_mul_right _ hlt
      rw [List.append_assoc, List.getElem?_append_left (by simp; omega), List.getElem?_take, if_pos (by omega)]
      exact this
    · have h1 : i * C.sz + C.sz ≤ k * C.sz := by rw [← Nat.succ_mul]; exact Nat.mul_le_mul_right _ (by omega)
      rw [List.getElem?_append_right (by simp; omega), List.getElem?_drop]
      simp only [List.length_append, List.length_take]
      rw [show i * C.sz + vs.length + (k * C.sz + j - (min (i * C.sz) xs.length + vs.length)) = k * C.sz + j by omega]
      exact this
end Go.Proofs.YtfhphkiggdepaaaDoor
