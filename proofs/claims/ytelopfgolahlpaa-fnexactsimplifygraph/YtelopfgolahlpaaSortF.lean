/-
  slices.SortFunc at structs, met by the kit's contract: an own slice sorted in place by a function of the program.
-/
import Derived.Test.YtelopfgolahlpaaSort
import Derived.Shelf.SlSortCmp.NoneTotal
namespace Go.Proofs.Ytelopfgolahlpaa
open Go Go.Sort
variable {α : Type} [Inhabited α]
theorem flat_cell {enc : α → List Value} {k : Nat} {x : List α} {j : Nat} (hj : j < x.length * k) : (flatK enc k x.toArray)[j]! = cellOf enc k x j := by
  rw [getElem!_pos _ _ (by simpa using hj)]
  simp [flatK, cellOf]
/-- a world that has only grown -/
theorem At.grown {w w' : World} {h' : Heap} (a : At w h' w') (e : Ext w.heap h') : ∃ q os, w' = grow (w.drewN q) os := by
  refine ⟨w'.drawn - w.drawn, h'.extract w.heap.size h'.size, ?_⟩
  obtain ⟨a1, a2, a3, a4, a5⟩ := a
  have hh : w.heap ++ h'.extract w.heap.size h'.size = h' := by
    have hs := e.size
    refine Array.ext (by simp; omega) fun i h1 h2 => ?_
    by_cases hi : i < w.heap.size
    · have := e.block i hi (by simp)
      rw [Array.getElem?_eq_getElem h2, Array.getElem?_eq_getElem hi] at this
      rw [Array.getElem_append_left hi]
      exact (Option.some.inj this).symm
    · rw [Array.getElem_append_right (by omega), Array.getElem_extract]
      congr 1; omega
  unfold grow World.drewN
  cases w'
  simp only at a1 a2 a3 a4 a5 ⊢
  subst a1 a2 a3 a4
  simp only [World.mk.injEq, hh, true_and, and_true]
  omega
/-- slices.SortFunc at structs -/
theorem Fn_sortK {P : Program} {ρ : Go.Shelf.Ren} (Ly : SlLaysF0.n6 P ρ) {f g : FuncId} (hf : ρ.f 6 = f) {C : Cd α} {enc : α → List Value} (he : IsEnc C enc) (h1 : ∀ x, ∀ v ∈ enc x, v.oneCell' = true)
    (aE : ∀ w, (isAgg (ρ.t 24)).run P w = .ok true w) (zE : ∀ w, (Go.sizeOf (ρ.t 24)).run P w = .ok C.sz w) (cf : α → α → Int) (hO : SWO (ltOf cf)) (hT : ∀ x y, (ltOf cf) x y = false → (ltOf cf) y x = false → x = y)
    (hb : (match P.funcs[f]? with | some fn => fn.body.isSome && (fn.name != "runtime.NumGoroutine") | none => false) = true)
    (hcmp : ∀ h x y, Fn P g #[.agg (enc x).toArray, .agg (enc y).toArray] h fun v h' => v = .int .i64 (cf x y) ∧ Hold h h' [])
    {h hE : Heap} {R : List Item} {x : List α} {a : Option Addr} {cap : Nat} (HM : Hold h hE (own C a x.length cap x :: R)) (hx : x.length ≤ 1099511627776) :
    Fn P f #[.slice a x.length cap, .func (.func g) #[] #[]] hE fun v h' => v = .tuple #[] ∧ Hold h h' (own C a x.length cap (x.mergeSort fun x y => !(ltOf cf) y x) :: R) := by
  refine Fn_of hb fun w hw => ?_
  subst hw
  obtain ⟨F, ⟨p, hn⟩, s, back⟩ := HM.open
  have p : Own C w.heap a cap x F := p
  rcases p.cells with ⟨rfl, rfl, rfl, _⟩ | ⟨b, cs, Fs, rfl, hg, h2, h3, h4, rfl, en⟩
  · have c := AnyF.slices_SortFunc_none Ly none 0 (.func (.func g) #[] #[]) w
    rw [hf] at c
    refine c.mono ?_
    rintro e w' ⟨rfl, rfl⟩
    exact ⟨_, _, rfl, At.refl _, rfl, by simpa using HM⟩
  · have hH : HoldsK enc C.sz w b 0 x.toArray := fun j hj => by
      have hj : j < x.length * C.sz := by simpa using hj
      have := own_holds he p j hj
      rw [flat_cell hj]
      exact this
    have hC : CmpLays P g #[] enc C.sz cf b 0 x.toArray.size w := fun m os dk _ u v => by
      refine ((hcmp (sortWorldK enc C.sz w b 0 m dk os).heap u v).2 _ rfl).mono ?_
      rintro e w' ⟨v', h', rfl, at_, rfl, H⟩
      exact ⟨rfl, at_.grown H.ext⟩
    have c := AnyQ.slices_SortFunc_total Ly C.sz aE zE enc he.len h1 cf hO g #[] b 0 cap x.toArray w (fun args w => run_callFunc args w (hcmp #[] default default).1) hC hH (s.hi b List.mem_cons_self) (by simp; omega) hT
    rw [hf] at c
    refine c.mono ?_
    rintro e w' ⟨rfl, m, os, rfl⟩
    refine ⟨_, _, rfl, ⟨rfl, rfl, rfl, rfl, Nat.le_add_right _ _⟩, rfl, ?_⟩
    refine sort_hold (os := os) he HM (List.length_mergeSort x) (f := putCells id 0 (flatK enc C.sz (x.toArray.toList.mergeSort fun x y => !(ltOf cf) y x).toArray)) fun cs => ⟨by simp [putCells], fun q => ?_⟩
    unfold putCells
    rw [Array.getElem?_mapIdx]
    by_cases hq : q < cs.size
    · rw [Array.getElem?_eq_getElem hq]
      simp only [Option.map_some, Nat.zero_le, true_and, Nat.zero_add, size_flatK, List.size_toArray, List.length_mergeSort, hq, and_true, Nat.sub_zero, id]
      by_cases hq2 : q < x.length * C.sz
      · rw [if_pos hq2, if_pos hq2, flat_cell (by rw [List.length_mergeSort]; exact hq2)]
      · rw [if_neg hq2, if_neg hq2]
    · rw [Array.getElem?_eq_none (by omega), if_neg (by omega)]; rfl
end Go.Proofs.Ytelopfgolahlpaa
