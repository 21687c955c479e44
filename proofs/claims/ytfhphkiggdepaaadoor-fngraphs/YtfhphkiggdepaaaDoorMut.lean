/-
  Functions that turn what they are handed: the things that they do not know are bundled into one; a row is taken out of its rows and put back; a field of an element is stored.
-/
import Derived.Test.YtfhphkiggdepaaaDoorVar
import Derived.Laws.StructEq
namespace Go.Proofs.YtfhphkiggdepaaaDoor
open Go
variable {α : Type}

/-! ### many things as one -/
theorem All.app {h : Heap} : ∀ {xs : List Item} {As : List (List Nat)} {ys : List Item} {Bs : List (List Nat)}, All h xs As → All h ys Bs → All h (xs ++ ys) (As ++ Bs)
  | [], [], _, _, _, b => b
  | _ :: _, _ :: _, _, _, a, b => ⟨a.1, a.2.app b⟩
  | [], _ :: _, _, _, a, _ => a.elim
  | _ :: _, [], _, _, a, _ => a.elim
theorem All.split {h : Heap} : ∀ {xs : List Item} {ys : List Item} {Fs : List (List Nat)}, All h (xs ++ ys) Fs → ∃ As Bs, Fs = As ++ Bs ∧ All h xs As ∧ All h ys Bs
  | [], _, Fs, a => ⟨[], Fs, rfl, trivial, a⟩
  | x :: xs, ys, F :: Fs, a => by
    obtain ⟨As, Bs, rfl, a1, a2⟩ := All.split (xs := xs) a.2
    exact ⟨F :: As, Bs, rfl, ⟨a.1, a1⟩, a2⟩
  | _ :: _, _, [], a => a.elim
def maxBase : List Item → Nat
  | [] => 0
  | i :: is => max i.base (maxBase is)
theorem maxBase_le : ∀ {is : List Item} {i : Item}, i ∈ is → i.base ≤ maxBase is
  | j :: is, i, h => by
    rcases List.mem_cons.1 h with rfl | h
    · exact Nat.le_max_left _ _
    · exact Nat.le_trans (maxBase_le h) (Nat.le_max_right _ _)
theorem le_maxBase : ∀ {is : List Item} {n : Nat}, is.all (fun i => Nat.ble i.base n) = true → maxBase is ≤ n
  | [], n, _ => Nat.zero_le n
  | i :: is, n, h => by
    simp only [List.all_cons, Bool.and_eq_true] at h
    exact Nat.max_le.2 ⟨Nat.le_of_ble_eq_true h.1, le_maxBase h.2⟩
def bun (R : List Item) : Item := ⟨maxBase R, fun h F => ∃ Fs, All h R Fs ∧ F = Fs.flatten, fun {h h' F} e1 e2 ⟨Fs, a, hF⟩ => ⟨Fs, a.loc (fun i hi b hb => e1 b (Nat.lt_of_lt_of_le hb (maxBase_le hi))) (fun b hb => e2 b (by rw [hF]; exact hb)), hF⟩⟩
theorem Hold.bundle {h0 h : Heap} {S R : List Item} (H : Hold h0 h (S ++ R)) : Hold h0 h (S ++ [bun R]) := by
  obtain ⟨Fs, a, s⟩ := H.fs
  obtain ⟨As, Bs, rfl, a1, a2⟩ := a.split
  have hb := H.base
  rw [List.all_append, Bool.and_eq_true] at hb
  refine ⟨H.ext, ?_, As ++ [Bs.flatten], a1.app (ys := [bun R]) (Bs := [Bs.flatten]) ⟨⟨Bs, a2, rfl⟩, trivial⟩, by simpa using s⟩
  rw [List.all_append, Bool.and_eq_true]
  refine ⟨hb.1, ?_⟩
  simp only [List.all_cons, List.all_nil, Bool.and_true]
  exact Nat.ble_eq_true_of_le (le_maxBase hb.2)
theorem Hold.unbundle {h0 h : Heap} {S R : List Item} (H : Hold h0 h (S ++ [bun R])) (hR : R.all (fun i => Nat.ble i.base h0.size) = true) : Hold h0 h (S ++ R) := by
  obtain ⟨Fs, a, s⟩ := H.fs
  obtain ⟨As, Bs, rfl, a1, a2⟩ := a.split
  match Bs, a2 with
  | [F], ⟨⟨Gs, b1, hF⟩, _⟩ =>
    subst hF
    have hb := H.base
    rw [List.all_append, Bool.and_eq_true] at hb
    refine ⟨H.ext, ?_, As ++ Gs, a1.app b1, by simpa using s⟩
    rw [List.all_append, Bool.and_eq_true]
    exact ⟨hb.1, hR⟩
theorem Hold.tailBase {h0 h : Heap} {S R : List Item} (H : Hold h0 h (S ++ R)) : R.all (fun i => Nat.ble i.base h0.size) = true := by
  have hb := H.base
  rw [List.all_append, Bool.and_eq_true] at hb
  exact hb.2

/-! ### one row, taken out -/
section
variable {h0 h : Heap} {R : List Item}
/-- rows, but for number i, whose blocks are not among these -/
def rest (C : Cd α) (ty : Nat) (a : Option Addr) (n cap : Nat) (m : List (List α)) (i : Nat) (a' : Option Addr) (k' c' : Nat) : Item :=
  ⟨0, fun h F => m.length = n ∧ m.length ≤ 9223372036854775807 ∧ i < m.length ∧ ∃ (g : Nat) (cs : Array Value) (Fs : List (List Nat)), a = some ⟨g, 0, none⟩ ∧ h[g]? = some (.cells cs ty (0, 0)) ∧ cs.size = cap ∧ m.length ≤ cap ∧ cap ≤ maxLen ∧
      Fs.length = m.length ∧ F = g :: (Fs.take i).flatten ++ (Fs.drop (i + 1)).flatten ∧ cs[i]? = some (.slice a' k' c') ∧
      ∀ k x, m[k]? = some x → k ≠ i → ∃ b c Fx, Fs[k]? = some Fx ∧ Own C h b c x Fx ∧ cs[k]? = some (.slice b x.length c),
    fun {h h' F} _ e ⟨hn, hs, hi, g, cs, Fs, ha, hg, h1, h2, h3, h4, hF, h5, h6⟩ => ⟨hn, hs, hi, g, cs, Fs, ha, (e g (by rw [hF]; simp)).trans hg, h1, h2, h3, h4, hF, h5, fun k x hk hne => by
      obtain ⟨b, c, Fx, k1, k2, k3⟩ := h6 k x hk hne
      refine ⟨b, c, Fx, k1, k2.ext fun u hu => e u ?_, k3⟩
      rw [hF]
      simp only [List.cons_append, List.mem_cons, List.mem_append, List.mem_flatten]
      rcases Nat.lt_or_ge k i with hlt | hge
      · exact .inr (.inl ⟨Fx, List.mem_of_getElem? (i := k) (by rw [List.getElem?_take, if_pos hlt]; exact k1), hu⟩)
      · exact .inr (.inr ⟨Fx, List.mem_of_getElem? (i := k - (i + 1)) (by rw [List.getElem?_drop, show i + 1 + (k - (i + 1)) = k by omega]; exact k1), hu⟩)⟩⟩
end

/-! ### one cell of an element -/
/-! ### rows of which some are looked at, while others are added -/
section
variable {h0 h : Heap} {R is : List Item}
end
section
variable {P : Program} {w0 : World} {L : Env} {h0 h : Heap} {R : List Item} {o : Oper} {K : Value → Heap → Prop}
end
section
variable {P : Program} {w0 : World} {L : Env} {o : Oper}
theorem Y_sne {C : Heap → Prop} {t : Nat} {ox oy : Operand} {xs ys : Array Value} {b : Bool} (he : execOp (rho L) o = (do pure (.value (← (do eqGuard .neq t ox oy (.agg xs) (.agg ys); binOp .neq t (.agg xs) (.agg ys)))))) (hg : P.eqGuardType P.depth t = false) (hq : ∀ w, (Op.equalIn 10000 t (.agg xs) (.agg ys)).run P w = .ok b w) : Y P w0 C L o (.bool (!b)) :=
  Y_pure fun w => by
    rw [he]
    simp only [Sem.run_bind, run_eqGuard_agg w .neq t ox oy xs ys hg, Result.andThen_ok, run_neq_struct, hq, Sem.run_pure]
end
/-! ### elements taken out, elements cleared -/
section
variable {P : Program} {w0 : World} {L : Env} {h0 h : Heap} {R : List Item} {o : Oper} {K : Value → Heap → Prop}
/-- the same elements at other places -/
theorem Enc.remap {C : Cd α} (hf : Flat C) {h : Heap} {l l' : List α} {xs xs' : List Value} {Fs : List (List Nat)} (n : Enc C h l xs Fs) (hl : xs'.length = l'.length * C.sz) (src : Nat → Nat) (h1 : ∀ (p : Nat) (x : α), l'[p]? = some x → l[src p]? = some x)
    (h2 : ∀ p j, p < l'.length → j < C.sz → xs'[p * C.sz + j]? = xs[src p * C.sz + j]?) : Enc C h l' xs' (List.replicate l'.length []) := by
  refine ⟨hl, by simp, fun i x hi => ?_⟩
  have hi' := (List.getElem?_eq_some_iff.1 hi).1
  obtain ⟨vs, Fx, hF, ho, hv⟩ := n.elem (src i) x (h1 i x hi)
  have e := hf _ _ _ _ ho
  subst e
  refine ⟨vs, [], by rw [List.getElem?_replicate, if_pos hi'], ho, fun j v hj => ?_⟩
  have hjl := (List.getElem?_eq_some_iff.1 hj).1
  rw [C.own_len ho] at hjl
  rw [h2 i j hi' hjl]
  exact hv j v hj
theorem put_get {xs news : List Value} {k q : Nat} (hk : k + news.length ≤ xs.length) : (xs.take k ++ news ++ xs.drop (k + news.length))[q]? = if q < k then xs[q]? else if q < k + news.length then news[q - k]? else xs[q]? := by
  have hl : (xs.take k).length = k := by rw [List.length_take]; omega
  by_cases h1 : q < k
  · rw [if_pos h1, List.append_assoc, List.getElem?_append_left (by omega), List.getElem?_take, if_pos h1]
  · rw [if_neg h1]
    by_cases h2 : q < k + news.length
    · rw [if_pos h2, List.append_assoc, List.getElem?_append_right (by omega), List.getElem?_append_left (by omega), hl]
    · rw [if_neg h2, List.getElem?_append_right (by rw [List.length_append]; omega), List.getElem?_drop, List.length_append, hl, show k + news.length + (q - (k + news.length)) = q by omega]
theorem mul_lt {p i sz q : Nat} (hp : p < i) (hq : q < sz) : p * sz + q < i * sz := by
  have := Nat.mul_le_mul_right sz (show p + 1 ≤ i by omega)
  rw [Nat.add_mul] at this
  omega
theorem mul_ge {p i sz q : Nat} (hp : i ≤ p) : i * sz ≤ p * sz + q := by
  have := Nat.mul_le_mul_right sz hp
  omega
/-- the elements i .. j - 1 taken out: those behind move up, the last ones stay as they are -/
theorem E_del {C : Cd α} {z : Value} {b t ty n m cap c2 sz i j : Nat} {a : Option Addr} {l : List α} (H : Hold h0 h (own C a n cap l :: R)) (hfl : Flat C) (hti : TI P C.ty z C.sz b) (ht : P.underlying t = some (.slice C.ty)) (hz : sz = C.sz)
    (he : execOp (rho L) o = (do pure (.value (← Builtin.append_ #[t, t] ty #[.slice a i cap, .slice (sliceA a cap j sz) m c2])))) (hi : i ≤ j) (hj : j ≤ l.length) (hm : m = l.length - j)
    (g : ∀ h', Hold h0 h' (own C a n cap (l.take i ++ l.drop j ++ l.drop (i + (l.length - j))) :: R) → K (.slice a (i + m) cap) h') : Eff P w0 L h o K := by
  obtain ⟨inf, i1, i2, i3, i4⟩ := hti.get
  subst hz
  refine E_run fun w hw => ?_
  have hw1 := hw.heap
  subst hw1
  obtain ⟨F, ⟨p, hn⟩, s, back⟩ := H.open
  have p : Own C w.heap a cap l F := p
  have hlen : (l.take i ++ l.drop j ++ l.drop (i + (l.length - j))).length = l.length := by simp; omega
  rcases p.cells with ⟨rfl, rfl, rfl, rfl⟩ | ⟨g2, cs, Fs, rfl, hg, h1, h2, h3, rfl, en⟩
  · simp only [List.length_nil] at hj hm
    obtain rfl : j = 0 := by omega
    obtain rfl : i = 0 := by omega
    obtain rfl : m = 0 := by omega
    refine ⟨_, w, w.heap, .inl (by rw [he]; simp [sliceA, Builtin.append_, run_underlying ht, sizeOf, typeInfo, i1, Builtin.lenOf, Builtin.firstCells]), hw, g _ (by simpa using H)⟩
  · have hszl : cs.toList.length = cap * C.sz := by simpa using h1
    have hnews : ((cs.toList.drop (j * C.sz)).take (m * C.sz)).length = m * C.sz := by
      have := Nat.mul_le_mul_right C.sz (show j + m ≤ cap by omega)
      rw [Nat.add_mul] at this
      rw [List.length_take, List.length_drop, hszl]; omega
    obtain ⟨ad, had, hcell⟩ : ∃ ad, sliceA (some ⟨g2, 0, none⟩) cap j C.sz = some ad ∧ ∀ q u, ((cs.toList.drop (j * C.sz)).take (m * C.sz))[q]? = some u → w.cell? (ad.add q) = some u := by
      unfold sliceA
      by_cases e : cap = j
      · rw [if_pos e]
        refine ⟨_, rfl, fun q u hq => ?_⟩
        obtain rfl : m = 0 := by omega
        simp at hq
      · rw [if_neg e]
        refine ⟨_, rfl, fun q u hq => ?_⟩
        have e2 : ((⟨g2, 0, none⟩ : Addr).add (j * C.sz)).add q = ⟨g2, j * C.sz + q, none⟩ := by rw [add_add]; unfold Addr.add; split <;> simp_all
        rw [e2, cell_of_row w g2 (j * C.sz + q) cs C.ty (0, 0) hg]
        have := take_get hq
        rw [List.getElem?_drop] at this
        simpa using this
    have hfit : i * inf.size + ((cs.toList.drop (j * C.sz)).take (m * C.sz)).length ≤ cs.size := by
      rw [hnews, i3, h1, ← Nat.add_mul]
      exact Nat.mul_le_mul_right _ (by omega)
    have hone : ∀ u ∈ (cs.toList.drop (j * C.sz)).take (m * C.sz), u.oneCell' = true := fun u hu => by
      refine en.one u ?_
      obtain ⟨q, hq, rfl⟩ := List.mem_iff_getElem.1 hu
      have hq2 : q < m * C.sz := by omega
      have h5 : j * C.sz + q < l.length * C.sz := by
        have := Nat.mul_le_mul_right C.sz (show j + m ≤ l.length by omega)
        rw [Nat.add_mul] at this
        omega
      rw [List.getElem_take, List.getElem_drop]
      exact List.mem_of_getElem? (i := j * C.sz + q) (by rw [List.getElem?_take, if_pos h5, List.getElem?_eq_getElem])
    have hr := run_append_room (P := P) w t ty C.ty inf ht i1 g2 i cap cs hg ad m c2 ((cs.toList.drop (j * C.sz)).take (m * C.sz)) (by rw [hnews, i3]) hcell hone (by omega) hfit
    have fr1 : Fr (g2 :: Fs.flatten) w.heap (w.setRow g2 (cs.toList.take (i * inf.size) ++ (cs.toList.drop (j * C.sz)).take (m * C.sz) ++ cs.toList.drop (i * inf.size + ((cs.toList.drop (j * C.sz)).take (m * C.sz)).length)).toArray).heap :=
      ⟨by simp, fun b _ hF => setRow_other w g2 b _ (fun e => hF (by rw [e]; exact List.mem_cons_self))⟩
    rw [i3] at hr fr1 hfit
    have hput : ∀ q, (cs.toList.take (i * C.sz) ++ (cs.toList.drop (j * C.sz)).take (m * C.sz) ++ cs.toList.drop (i * C.sz + ((cs.toList.drop (j * C.sz)).take (m * C.sz)).length))[q]? = if q < i * C.sz then cs.toList[q]? else if q < i * C.sz + m * C.sz then cs.toList[j * C.sz + (q - i * C.sz)]? else cs.toList[q]? := fun q => by
      rw [put_get (by simpa using hfit), hnews]
      by_cases h5 : q < i * C.sz
      · rw [if_pos h5, if_pos h5]
      · rw [if_neg h5, if_neg h5]
        by_cases h6 : q < i * C.sz + m * C.sz
        · rw [if_pos h6, if_pos h6, List.getElem?_take, if_pos (by omega), List.getElem?_drop]
        · rw [if_neg h6, if_neg h6]
    have hlp : (cs.toList.take (i * C.sz) ++ (cs.toList.drop (j * C.sz)).take (m * C.sz) ++ cs.toList.drop (i * C.sz + ((cs.toList.drop (j * C.sz)).take (m * C.sz)).length)).length = cap * C.sz := by
      rw [List.length_append, List.length_append, hnews, List.length_take, List.length_drop, hszl]
      have := Nat.mul_le_mul_right C.sz (show i + m ≤ cap by omega)
      rw [Nat.add_mul] at this
      omega
    generalize cs.toList.take (i * C.sz) ++ (cs.toList.drop (j * C.sz)).take (m * C.sz) ++ cs.toList.drop (i * C.sz + ((cs.toList.drop (j * C.sz)).take (m * C.sz)).length) = ys at hr fr1 hput hlp
    have hFs : Fs.flatten = [] := flatten_nil (en.flat hfl)
    have henc : Enc C w.heap (l.take i ++ l.drop j ++ l.drop (i + (l.length - j))) (ys.toArray.toList.take ((l.take i ++ l.drop j ++ l.drop (i + (l.length - j))).length * C.sz)) (List.replicate (l.take i ++ l.drop j ++ l.drop (i + (l.length - j))).length []) := by
      refine en.remap hfl ?_ (fun p => if p < i then p else if p < i + m then p - i + j else p) (fun p x hp => ?_) (fun p q hp hq => ?_)
      · rw [hlen, List.length_take, List.toList_toArray, hlp]
        have := Nat.mul_le_mul_right C.sz h2
        omega
      · by_cases e1 : p < i
        · rw [if_pos e1]
          rw [List.append_assoc, List.getElem?_append_left (by simp; omega), List.getElem?_take, if_pos e1] at hp
          exact hp
        · rw [if_neg e1]
          by_cases e2 : p < i + m
          · rw [if_pos e2]
            rw [List.append_assoc, List.getElem?_append_right (by simp; omega), List.getElem?_append_left (by simp; omega), List.getElem?_drop] at hp
            rw [← hp]; congr 1; simp; omega
          · rw [if_neg e2]
            rw [List.getElem?_append_right (by simp; omega), List.getElem?_drop] at hp
            rw [← hp]; congr 1; simp; omega
      · rw [hlen] at hp
        have hpl : p * C.sz + q < l.length * C.sz := mul_lt hp hq
        rw [hlen, List.getElem?_take, if_pos hpl, List.toList_toArray, hput]
        by_cases e1 : p < i
        · rw [if_pos (mul_lt e1 hq), if_pos e1, List.getElem?_take, if_pos hpl]
        · have e4 : ¬ p * C.sz + q < i * C.sz := by
            have := mul_ge (sz := C.sz) (q := q) (show i ≤ p by omega); omega
          rw [if_neg e4, if_neg e1]
          by_cases e2 : p < i + m
          · have e5 : p * C.sz + q < i * C.sz + m * C.sz := by rw [← Nat.add_mul]; exact mul_lt e2 hq
            have e6 : (p - i + j) * C.sz + q = j * C.sz + (p * C.sz + q - i * C.sz) := by
              have : p * C.sz = (p - i) * C.sz + i * C.sz := by rw [← Nat.add_mul]; congr 1; omega
              rw [Nat.add_mul]; omega
            rw [if_pos e5, if_pos e2, e6, List.getElem?_take, if_pos (by rw [← e6]; exact mul_lt (by omega) hq)]
          · have e5 : ¬ p * C.sz + q < i * C.sz + m * C.sz := by
              rw [← Nat.add_mul]
              have := mul_ge (sz := C.sz) (q := q) (show i + m ≤ p by omega); omega
            rw [if_neg e5, if_neg e2, List.getElem?_take, if_pos hpl]
    refine ⟨_, w.setRow g2 ys.toArray, (w.setRow g2 ys.toArray).heap, .inl (by rw [he, had]; simp [hr]), hw.str ⟨rfl, rfl, rfl, by first | exact DrLe.refl _ | exact DrLe.succ _⟩, g _ (back _ (own C _ n cap _) (g2 :: (List.replicate (l.take i ++ l.drop j ++ l.drop (i + (l.length - j))).length ([] : List Nat)).flatten) (fr1.weak fun b _ hb => hb) ⟨⟨by rw [hlen]; exact p.small, .inr ⟨g2, ys.toArray, _, rfl, setRow_heap w g2 cs _ C.ty _ hg, ?_, by rw [hlen]; exact h2, h3, rfl, ?_⟩⟩, by rw [hlen]; exact hn⟩ ?_ (fun b hb => ?_) (Nat.zero_le _))⟩
    · simpa using hlp
    · exact henc.ext fun b hb => by rw [flatten_replicate_nil] at hb; cases hb
    · rw [flatten_replicate_nil]
      exact ⟨by simp, fun b hb => s.lo b (by simp at hb; subst hb; exact List.mem_cons_self), fun b hb => by rw [size_setRow]; exact s.hi b (by simp at hb; subst hb; exact List.mem_cons_self)⟩
    · rw [flatten_replicate_nil] at hb
      exact .inl (by simp at hb; subst hb; exact List.mem_cons_self)
theorem E_del2 {C : Cd α} {z : Value} {b t ty n m cap c2 sz i i0 j : Nat} {a : Option Addr} {l x1 x2 r : List α} (H : Hold h0 h (own C a n cap l :: R)) (hfl : Flat C) (hti : TI P C.ty z C.sz b) (ht : P.underlying t = some (.slice C.ty)) (hz : sz = C.sz)
    (he : execOp (rho L) o = (do pure (.value (← Builtin.append_ #[t, t] ty #[.slice (sliceA a cap 0 sz) i0 (cap - 0), .slice (sliceA a cap j sz) m c2])))) (ei : i0 = i) (hi : i ≤ j) (hj : j ≤ l.length) (hm : m = l.length - j)
    (e1 : x1 = l.take i) (e2 : x2 = l.drop j) (hr : l.length ≤ l.length ∧ r = x1 ++ x2) (g : ∀ h', Hold h0 h' (own C a n cap (r ++ l.drop r.length) :: R) → K (.slice a r.length cap) h') : Eff P w0 L h o K := by
  subst ei; subst e1; subst e2
  obtain ⟨_, rfl⟩ := hr
  have hl : (l.take i0 ++ l.drop j).length = i0 + m := by simp; omega
  have hs : sliceA a cap 0 sz = a := by rw [hz]; exact (H.cut 0).2
  rw [hs] at he
  refine E_del H hfl hti ht hz he hi hj hm fun h' H' => ?_
  have := g h' (by rw [hl, hm]; exact H')
  rwa [hl] at this
/-- the elements from k on cleared -/
theorem E_clear {C : Cd α} {z : Value} {b t ty n m cap c2 sz k : Nat} {a : Option Addr} {l : List α} (x : α) (H : Hold h0 h (own C a n cap l :: R)) (hfl : Flat C) (hti : TI P C.ty z C.sz b) (hzc : z.cells.size = C.sz) (ht : P.underlying t = some (.slice C.ty)) (hz : sz = C.sz)
    (hx : ∀ h, C.own h x z.cells.toList []) (he : execOp (rho L) o = (do pure (.value (← Builtin.clear_ #[t] ty #[.slice (sliceA a cap k sz) m c2])))) (hk : k ≤ l.length) (hm : m = l.length - k)
    (g : ∀ h', Hold h0 h' (own C a n cap (l.take k ++ List.replicate m x) :: R) → K (.tuple #[]) h') : Eff P w0 L h o K := by
  obtain ⟨inf, i1, i2, i3, i4⟩ := hti.get
  subst hz
  refine E_run fun w hw => ?_
  have hw1 := hw.heap
  subst hw1
  obtain ⟨F, ⟨p, hn⟩, s, back⟩ := H.open
  have p : Own C w.heap a cap l F := p
  have hlen : (l.take k ++ List.replicate m x).length = l.length := by simp; omega
  by_cases hm0 : m = 0
  · subst hm0
    refine ⟨_, w, w.heap, .inl ?_, hw, g _ ?_⟩
    · rw [he]
      cases sliceA a cap k C.sz <;> simp [Builtin.clear_, run_underlying ht]
    · have : l.take k ++ List.replicate 0 x = l := by rw [List.replicate_zero, List.append_nil, List.take_of_length_le (by omega)]
      rw [this]; exact H
  rcases p.cells with ⟨rfl, rfl, rfl, rfl⟩ | ⟨g2, cs, Fs, rfl, hg, h1, h2, h3, rfl, en⟩
  · simp at hm; omega
  · have hszl : cs.toList.length = cap * C.sz := by simpa using h1
    have had : sliceA (some ⟨g2, 0, none⟩) cap k C.sz = some ⟨g2, k * C.sz, none⟩ := by
      unfold sliceA
      rw [if_neg (by omega)]
      simp only [Option.map_some]
      unfold Addr.add; split <;> simp_all
    have hzl : (Builtin.zeroCells z.cells m).toList.length = m * C.sz := by simp [size_zeroCells, hzc]
    have hzget : ∀ p q, p < m → q < C.sz → (Builtin.zeroCells z.cells m).toList[p * C.sz + q]? = z.cells.toList[q]? := fun p q hp hq => by
      have hlt : p * C.sz + q < m * C.sz := mul_lt hp hq
      have hmod : (p * C.sz + q) % z.cells.size = q := by rw [hzc, Nat.mul_comm, Nat.mul_add_mod, Nat.mod_eq_of_lt hq]
      rw [Array.getElem?_toList, Array.getElem?_toList, Builtin.zeroCells, Array.getElem?_map, Array.getElem?_range, if_pos (by rw [hzc]; exact hlt)]
      simp only [Option.map_some, hmod]
      have : q < z.cells.size := by omega
      simp [this]
    have hone : ∀ v ∈ (Builtin.zeroCells z.cells m).toList, v.oneCell' = true := fun v hv => by
      obtain ⟨q, hq, rfl⟩ := List.mem_iff_getElem.1 hv
      have hs := C.pos
      have h5 := hzget (q / C.sz) (q % C.sz) ((Nat.div_lt_iff_lt_mul hs).2 (by omega)) (Nat.mod_lt _ hs)
      rw [Nat.mul_comm, Nat.div_add_mod, List.getElem?_eq_getElem hq] at h5
      exact C.own_one (hx w.heap) _ (List.mem_of_getElem? h5.symm)
    have hfit : k * C.sz + m * C.sz ≤ cs.size := by
      rw [h1, ← Nat.add_mul]
      exact Nat.mul_le_mul_right _ (by omega)
    have hst := run_storeCells_at P g2 (k * C.sz) C.ty (Builtin.zeroCells z.cells m).toList 0 cs w hg (by rw [hzl]; omega) hone
    simp only [Nat.add_zero] at hst
    have hzv : (zeroValue C.ty).run P w = .ok z w := by simp [zeroValue, typeInfo, i1, i2]
    have hrun : (Builtin.clear_ #[t] ty #[.slice (some ⟨g2, k * C.sz, none⟩) m c2]).run P w = .ok (.tuple #[]) (w.setRow g2 (cs.toList.take (k * C.sz) ++ (Builtin.zeroCells z.cells m).toList ++ cs.toList.drop (k * C.sz + (Builtin.zeroCells z.cells m).toList.length)).toArray) := by
      obtain ⟨m', rfl⟩ : ∃ q, m = q + 1 := ⟨m - 1, by omega⟩
      simp [Builtin.clear_, run_underlying ht, hzv, hst]
    have hput : ∀ q, (cs.toList.take (k * C.sz) ++ (Builtin.zeroCells z.cells m).toList ++ cs.toList.drop (k * C.sz + (Builtin.zeroCells z.cells m).toList.length))[q]? = if q < k * C.sz then cs.toList[q]? else if q < k * C.sz + m * C.sz then (Builtin.zeroCells z.cells m).toList[q - k * C.sz]? else cs.toList[q]? := fun q => by
      rw [put_get (by rw [hzl]; simpa using hfit), hzl]
    have hlp : (cs.toList.take (k * C.sz) ++ (Builtin.zeroCells z.cells m).toList ++ cs.toList.drop (k * C.sz + (Builtin.zeroCells z.cells m).toList.length)).length = cap * C.sz := by
      rw [List.length_append, List.length_append, hzl, List.length_take, List.length_drop, hszl]
      have := Nat.mul_le_mul_right C.sz (show k + m ≤ cap by omega)
      rw [Nat.add_mul] at this
      omega
    generalize cs.toList.take (k * C.sz) ++ (Builtin.zeroCells z.cells m).toList ++ cs.toList.drop (k * C.sz + (Builtin.zeroCells z.cells m).toList.length) = ys at hrun hput hlp
    have fr1 : Fr (g2 :: Fs.flatten) w.heap (w.setRow g2 ys.toArray).heap := ⟨by simp, fun b _ hF => setRow_other w g2 b _ (fun e => hF (by rw [e]; exact List.mem_cons_self))⟩
    have henc : Enc C w.heap (l.take k ++ List.replicate m x) (ys.toArray.toList.take ((l.take k ++ List.replicate m x).length * C.sz)) (List.replicate (l.take k ++ List.replicate m x).length []) := by
      refine ⟨?_, by simp, fun p y hp => ?_⟩
      · rw [hlen, List.length_take, List.toList_toArray, hlp]
        have := Nat.mul_le_mul_right C.sz h2
        omega
      · have hp' := (List.getElem?_eq_some_iff.1 hp).1
        rw [hlen] at hp'
        by_cases e1 : p < k
        · rw [List.getElem?_append_left (by simp; omega), List.getElem?_take, if_pos e1] at hp
          obtain ⟨vs, Fx, hF, ho, hv⟩ := en.elem p y hp
          have e := hfl _ _ _ _ ho
          subst e
          refine ⟨vs, [], by rw [List.getElem?_replicate, if_pos (by rw [hlen]; exact hp')], ho, fun q v hq => ?_⟩
          have hql := (List.getElem?_eq_some_iff.1 hq).1
          rw [C.own_len ho] at hql
          have h6 := take_get (hv q v hq)
          rw [hlen, List.getElem?_take, if_pos (mul_lt hp' hql), List.toList_toArray, hput, if_pos (mul_lt e1 hql)]
          exact h6
        · rw [List.getElem?_append_right (by simp; omega), List.getElem?_replicate, if_pos (by simp; omega)] at hp
          cases hp
          refine ⟨z.cells.toList, [], by rw [List.getElem?_replicate, if_pos (by rw [hlen]; exact hp')], hx _, fun q v hq => ?_⟩
          have hql := (List.getElem?_eq_some_iff.1 hq).1
          rw [Array.length_toList, hzc] at hql
          have e4 : ¬ p * C.sz + q < k * C.sz := by
            have := mul_ge (sz := C.sz) (q := q) (show k ≤ p by omega); omega
          have e5 : p * C.sz + q < k * C.sz + m * C.sz := by rw [← Nat.add_mul]; exact mul_lt (by omega) hql
          have e6 : p * C.sz + q - k * C.sz = (p - k) * C.sz + q := by
            have : p * C.sz = (p - k) * C.sz + k * C.sz := by rw [← Nat.add_mul]; congr 1; omega
            omega
          rw [hlen, List.getElem?_take, if_pos (mul_lt hp' hql), List.toList_toArray, hput, if_neg e4, if_pos e5, e6, hzget (p - k) q (by omega) hql]
          exact hq
    refine ⟨_, w.setRow g2 ys.toArray, (w.setRow g2 ys.toArray).heap, .inl (by rw [he, had]; simp [hrun]), hw.str ⟨rfl, rfl, rfl, by first | exact DrLe.refl _ | exact DrLe.succ _⟩, g _ (back _ (own C _ n cap _) (g2 :: (List.replicate (l.take k ++ List.replicate m x).length ([] : List Nat)).flatten) (fr1.weak fun b _ hb => hb) ⟨⟨by rw [hlen]; exact p.small, .inr ⟨g2, ys.toArray, _, rfl, setRow_heap w g2 cs _ C.ty _ hg, ?_, by rw [hlen]; exact h2, h3, rfl, ?_⟩⟩, by rw [hlen]; exact hn⟩ ?_ (fun b hb => ?_) (Nat.zero_le _))⟩
    · simpa using hlp
    · exact henc.ext fun b hb => by rw [flatten_replicate_nil] at hb; cases hb
    · rw [flatten_replicate_nil]
      exact ⟨by simp, fun b hb => s.lo b (by simp at hb; subst hb; exact List.mem_cons_self), fun b hb => by rw [size_setRow]; exact s.hi b (by simp at hb; subst hb; exact List.mem_cons_self)⟩
    · rw [flatten_replicate_nil] at hb
      exact .inl (by simp at hb; subst hb; exact List.mem_cons_self)
/-- a slice with three bounds -/
theorem Y_slice3 {C : Heap → Prop} {t e sz : Nat} {a : Option Addr} {n cap : Nat} {kx ky kz : IntKind} {x y z : Int} (he : execOp (rho L) o = (do pure (.value (← Instr.sliceAt t (.slice a n cap) (some (.int kx x)) (some (.int ky y)) (some (.int kz z))))))
    (h1 : P.underlying t = some (.slice e)) (h2 : (P.info? e).map (·.size) = some sz) (b0 : 0 ≤ x) (b1 : x ≤ y) (b2 : y ≤ z) (b3 : z ≤ cap) :
    Y P w0 C L o (.slice (sliceA a z.toNat x.toNat sz) (y.toNat - x.toNat) (z.toNat - x.toNat)) := by
  intro w _
  obtain ⟨inf, hi', hs⟩ := Option.map_eq_some_iff.1 h2
  rw [he]
  have c1 : ((y.toNat : Nat) : Int) = y := by omega
  have c2 : ((z.toNat : Nat) : Int) = z := by omega
  have key : (Instr.sliceBounds true n cap (some (.int kx x)) (some (.int ky y)) (some (.int kz z))).run P w = .ok (x.toNat, y.toNat, z.toNat) w := by
    simp [Instr.sliceBounds, Instr.sliceBound, asIntOf, b0, b1, b3, show (0 : Int) ≤ z by omega, show (0 : Int) ≤ y by omega, c1, c2, b2]
  simp only [Instr.sliceAt, Instr.slice, Sem.run_bind, run_underlying h1, Result.andThen_ok]
  simp only [key, Result.andThen_ok, sizeOf, typeInfo, program, Sem.run, hi', hs, Sem.run_bind, Sem.run_pure]
  simp only [Oper.quietUpon, sliceA]
  exact ⟨trivial, trivial⟩
/-- a slice within its room -/
theorem Y_sliceC {C : Heap → Prop} {t e sz : Nat} {a : Option Addr} {n cap : Nat} {kx ky : IntKind} {x y : Int} (he : execOp (rho L) o = (do pure (.value (← Instr.sliceAt t (.slice a n cap) (some (.int kx x)) (some (.int ky y)) none))))
    (h1 : P.underlying t = some (.slice e)) (h2 : (P.info? e).map (·.size) = some sz) (b0 : 0 ≤ x) (b1 : x ≤ y) (b3 : y ≤ cap) :
    Y P w0 C L o (.slice (sliceA a cap x.toNat sz) (y.toNat - x.toNat) (cap - x.toNat)) := by
  intro w _
  obtain ⟨inf, hi', hs⟩ := Option.map_eq_some_iff.1 h2
  rw [he]
  have c1 : ((y.toNat : Nat) : Int) = y := by omega
  have key : (Instr.sliceBounds true n cap (some (.int kx x)) (some (.int ky y)) none).run P w = .ok (x.toNat, y.toNat, cap) w := by
    simp [Instr.sliceBounds, Instr.sliceBound, asIntOf, b0, b1, b3, show (0 : Int) ≤ y by omega, c1]
  simp only [Instr.sliceAt, Instr.slice, Sem.run_bind, run_underlying h1, Result.andThen_ok]
  simp only [key, Result.andThen_ok, sizeOf, typeInfo, program, Sem.run, hi', hs, Sem.run_bind, Sem.run_pure]
  simp only [Oper.quietUpon, sliceA]
  exact ⟨trivial, trivial⟩
end
/-! ### slices of slices that are read -/
end Go.Proofs.YtfhphkiggdepaaaDoor
