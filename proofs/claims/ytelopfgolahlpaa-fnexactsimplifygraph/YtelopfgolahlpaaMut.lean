/-
  Functions that turn what they are handed: the things that they do not know are bundled into one; a row is taken out of its rows and put back; a field of an element is stored.
-/
import Derived.Test.YtelopfgolahlpaaVar
import Derived.Laws.StructEq
namespace Go.Proofs.Ytelopfgolahlpaa
open Go
variable {α : Type}

/-! ### many things as one -/
theorem All.app {h : Heap} : ∀ {xs : List Item} {As : List (List Nat)} {ys : List Item} {Bs : List (List Nat)}, All h xs As → All h ys Bs → All h (xs ++ ys) (As ++ Bs)
  | [], [], _, _, _, b => b
  | _ :: _, _ :: _, _, _, a, b => ⟨a.1, a.2.app b⟩
  | [], _ :: _, _, _, a, _ => a.elim
  | _ :: _, [], _, _, a, _ => a.elim
theorem All.split {h : Heap} : ∀ {xs : List Item} {ys : List Item} {Fs : List (List Nat)}, All h (xs ++ ys) Fs → ∃ As Bs, Fs = As ++ Bs ∧ All h xs As ∧ All h ys Bs
  | [], _, Fs, a => ⟨[], Fs, rfl, trivial, a⟩
  | x :: xs, ys, F :: Fs, a => by
    obtain ⟨As, Bs, rfl, a1, a2⟩ := All.split (xs := xs) a.2
    exact ⟨F :: As, Bs, rfl, ⟨a.1, a1⟩, a2⟩
  | _ :: _, _, [], a => a.elim
def maxBase : List Item → Nat
  | [] => 0
  | i :: is => max i.base (maxBase is)
theorem maxBase_le : ∀ {is : List Item} {i : Item}, i ∈ is → i.base ≤ maxBase is
  | j :: is, i, h => by
    rcases List.mem_cons.1 h with rfl | h
    · exact Nat.le_max_left _ _
    · exact Nat.le_trans (maxBase_le h) (Nat.le_max_right _ _)
theorem le_maxBase : ∀ {is : List Item} {n : Nat}, is.all (fun i => Nat.ble i.base n) = true → maxBase is ≤ n
  | [], n, _ => Nat.zero_le n
  | i :: is, n, h => by
    simp only [List.all_cons, Bool.and_eq_true] at h
    exact Nat.max_le.2 ⟨Nat.le_of_ble_eq_true h.1, le_maxBase h.2⟩
def bun (R : List Item) : Item := ⟨maxBase R, fun h F => ∃ Fs, All h R Fs ∧ F = Fs.flatten, fun {h h' F} e1 e2 ⟨Fs, a, hF⟩ => ⟨Fs, a.loc (fun i hi b hb => e1 b (Nat.lt_of_lt_of_le hb (maxBase_le hi))) (fun b hb => e2 b (by rw [hF]; exact hb)), hF⟩⟩
theorem Hold.bundle {h0 h : Heap} {S R : List Item} (H : Hold h0 h (S ++ R)) : Hold h0 h (S ++ [bun R]) := by
  obtain ⟨Fs, a, s⟩ := H.fs
  obtain ⟨As, Bs, rfl, a1, a2⟩ := a.split
  have hb := H.base
  rw [List.all_append, Bool.and_eq_true] at hb
  refine ⟨H.ext, ?_, As ++ [Bs.flatten], a1.app (ys := [bun R]) (Bs := [Bs.flatten]) ⟨⟨Bs, a2, rfl⟩, trivial⟩, by simpa using s⟩
  rw [List.all_append, Bool.and_eq_true]
  refine ⟨hb.1, ?_⟩
  simp only [List.all_cons, List.all_nil, Bool.and_true]
  exact Nat.ble_eq_true_of_le (le_maxBase hb.2)
theorem Hold.unbundle {h0 h : Heap} {S R : List Item} (H : Hold h0 h (S ++ [bun R])) (hR : R.all (fun i => Nat.ble i.base h0.size) = true) : Hold h0 h (S ++ R) := by
  obtain ⟨Fs, a, s⟩ := H.fs
  obtain ⟨As, Bs, rfl, a1, a2⟩ := a.split
  match Bs, a2 with
  | [F], ⟨⟨Gs, b1, hF⟩, _⟩ =>
    subst hF
    have hb := H.base
    rw [List.all_append, Bool.and_eq_true] at hb
    refine ⟨H.ext, ?_, As ++ Gs, a1.app b1, by simpa using s⟩
    rw [List.all_append, Bool.and_eq_true]
    exact ⟨hb.1, hR⟩
theorem Hold.tailBase {h0 h : Heap} {S R : List Item} (H : Hold h0 h (S ++ R)) : R.all (fun i => Nat.ble i.base h0.size) = true := by
  have hb := H.base
  rw [List.all_append, Bool.and_eq_true] at hb
  exact hb.2

/-! ### one row, taken out -/
section
variable {h0 h : Heap} {R : List Item}
/-- rows, but for number i, whose blocks are not among these -/
def rest (C : Cd α) (ty : Nat) (a : Option Addr) (n cap : Nat) (m : List (List α)) (i : Nat) (a' : Option Addr) (k' c' : Nat) : Item :=
  ⟨0, fun h F => m.length = n ∧ m.length ≤ 9223372036854775807 ∧ i < m.length ∧ ∃ (g : Nat) (cs : Array Value) (Fs : List (List Nat)), a = some ⟨g, 0, none⟩ ∧ h[g]? = some (.cells cs ty (0, 0)) ∧ cs.size = cap ∧ m.length ≤ cap ∧ cap ≤ maxLen ∧
      Fs.length = m.length ∧ F = g :: (Fs.take i).flatten ++ (Fs.drop (i + 1)).flatten ∧ cs[i]? = some (.slice a' k' c') ∧
      ∀ k x, m[k]? = some x → k ≠ i → ∃ b c Fx, Fs[k]? = some Fx ∧ Own C h b c x Fx ∧ cs[k]? = some (.slice b x.length c),
    fun {h h' F} _ e ⟨hn, hs, hi, g, cs, Fs, ha, hg, h1, h2, h3, h4, hF, h5, h6⟩ => ⟨hn, hs, hi, g, cs, Fs, ha, (e g (by rw [hF]; simp)).trans hg, h1, h2, h3, h4, hF, h5, fun k x hk hne => by
      obtain ⟨b, c, Fx, k1, k2, k3⟩ := h6 k x hk hne
      refine ⟨b, c, Fx, k1, k2.ext fun u hu => e u ?_, k3⟩
      rw [hF]
      simp only [List.cons_append, List.mem_cons, List.mem_append, List.mem_flatten]
      rcases Nat.lt_or_ge k i with hlt | hge
      · exact .inr (.inl ⟨Fx, List.mem_of_getElem? (i := k) (by rw [List.getElem?_take, if_pos hlt]; exact k1), hu⟩)
      · exact .inr (.inr ⟨Fx, List.mem_of_getElem? (i := k - (i + 1)) (by rw [List.getElem?_drop, show i + 1 + (k - (i + 1)) = k by omega]; exact k1), hu⟩)⟩⟩
end

/-! ### one cell of an element -/
theorem run_putF {P : Program} {C : Cd α} {w : World} {a : Option Addr} {cap lo : Nat} {l : List α} {F : List Nat} (o : Own C w.heap a cap l F) (s : Sep lo w.heap F) {t : Nat} {inf : TypeInfo} (hinf : P.info? t = some inf) (hsz : inf.size = 1)
    {i f : Nat} {y y' : α} (hy : l[i]? = some y) (hf : f < C.sz) {v : Value} (hv : v.cells.toList = [v]) (h1v : v.oneCell' = true) (hx : ∀ h vs G, C.own h y vs G → C.own h y' (vs.set f v) G) :
    ∃ w', (Instr.storeAt t (.pointer (some ((adr a (i * C.sz)).add f))) v).run P w = .ok () w' ∧ Own C w'.heap a cap (l.set i y') F ∧ Sep lo w'.heap F ∧ Fr F w.heap w'.heap ∧ Str w w' := by
  rcases o.cells with ⟨_, _, rfl, _⟩ | ⟨g, cs, Fs, rfl, hg, h1, h2, h3, rfl, n⟩
  · simp at hy
  · have hi : i < l.length := (List.getElem?_eq_some_iff.1 hy).1
    have hb : i * C.sz + C.sz ≤ l.length * C.sz := by rw [← Nat.succ_mul]; exact Nat.mul_le_mul_right _ hi
    have hb2 : l.length * C.sz ≤ cs.size := by rw [h1]; exact Nat.mul_le_mul_right _ h2
    have hst := run_storeCells_at P g (i * C.sz + f) C.ty [v] 0 cs w hg (by simp; omega) (by simpa using h1v)
    simp only [Nat.add_zero] at hst
    have hnd := List.nodup_cons.1 s.nodup
    have hvc : v.cells.size = 1 := by rw [← Array.length_toList, hv]; rfl
    have eset : cs.toList.take (i * C.sz + f) ++ [v] ++ cs.toList.drop (i * C.sz + f + [v].length) = cs.toList.set (i * C.sz + f) v := by
      rw [List.set_eq_take_append_cons_drop, if_pos (by simp; omega)]; simp
    rw [eset] at hst
    have hadd : (adr (some ⟨g, 0, none⟩) (i * C.sz)).add f = ⟨g, i * C.sz + f, none⟩ := by rw [adr_some]; unfold Addr.add; split <;> simp_all
    have hrun : (Instr.storeAt t (.pointer (some ((adr (some ⟨g, 0, none⟩) (i * C.sz)).add f))) v).run P w = .ok () (w.setRow g (cs.toList.set (i * C.sz + f) v).toArray) := by
      rw [hadd]
      simp only [Instr.storeAt, Instr.sureAddr, storeVar, sizeOf, typeInfo, Sem.run_bind, Sem.run_pure, Result.andThen_ok, program, Sem.run, hinf, hvc, hsz, ne_eq, not_true_eq_false, if_false, hv]
      exact hst
    refine ⟨_, hrun, ⟨by simpa using o.small, .inr ⟨g, _, Fs, rfl, setRow_heap w g cs _ C.ty _ hg, by simpa using h1, by simpa using h2, h3, rfl, ?_⟩⟩, s.mono (Nat.le_refl _) (by simp), ⟨by simp, fun b _ hF => setRow_other w g b _ (fun e => hF (by rw [e]; exact List.mem_cons_self))⟩, ⟨rfl, rfl, rfl, by first | exact Nat.le_refl _ | exact Nat.le_succ _⟩⟩
    have keep : ∀ {x vs Fx}, Fx ∈ Fs → C.own w.heap x vs Fx → C.own (w.setRow g (cs.toList.set (i * C.sz + f) v).toArray).heap x vs Fx := fun {x vs Fx} hF ho => C.own_ext (fun b hb => setRow_other w g b _ (fun e => hnd.1 (List.mem_flatten.2 ⟨Fx, hF, e ▸ hb⟩))) ho
    refine ⟨by simp [n.len]; omega, by simpa using n.fp, fun k x hk => ?_⟩
    by_cases hki : i = k
    · subst hki
      rw [List.getElem?_set_self (by simpa using hi)] at hk
      cases hk
      obtain ⟨vs, Fx, hF, ho, hvs⟩ := n.elem i y hy
      have hlen := C.own_len ho
      refine ⟨vs.set f v, Fx, hF, hx _ _ _ (keep (List.mem_of_getElem? hF) ho), fun j u hj => ?_⟩
      have hjl : j < vs.length := by
        have := (List.getElem?_eq_some_iff.1 hj).1
        simpa using this
      rw [List.length_set, List.getElem?_take, if_pos (by omega)]
      simp only [List.toList_toArray]
      by_cases e : f = j
      · subst e
        rw [List.getElem?_set_self hjl] at hj
        rw [List.getElem?_set_self (by simp; omega)]; exact hj
      · rw [List.getElem?_set_ne e] at hj
        rw [List.getElem?_set_ne (by omega)]
        exact take_get (hvs j u hj)
    · rw [List.getElem?_set_ne hki] at hk
      obtain ⟨vs, Fx, hF, ho, hvs⟩ := n.elem k x hk
      refine ⟨vs, Fx, hF, keep (List.mem_of_getElem? hF) ho, fun j u hj => ?_⟩
      have hlen := C.own_len ho
      have hjl : j < vs.length := (List.getElem?_eq_some_iff.1 hj).1
      have h7 := hvs j u hj
      rw [List.getElem?_take] at h7
      split at h7
      · rename_i hlt
        rw [List.length_set, List.getElem?_take, if_pos hlt]
        simp only [List.toList_toArray]
        rw [List.getElem?_set_ne, h7]
        intro e
        rcases Nat.lt_or_gt_of_ne hki with hlt' | hlt'
        · have h8 : (i + 1) * C.sz ≤ k * C.sz := Nat.mul_le_mul_right _ hlt'
          rw [Nat.succ_mul] at h8
          omega
        · have h8 : (k + 1) * C.sz ≤ i * C.sz := Nat.mul_le_mul_right _ hlt'
          rw [Nat.succ_mul] at h8
          omega
      · cases h7
theorem E_putF {P : Program} {w0 : World} {L : Env} {h0 h : Heap} {o : Oper} {K : Value → Heap → Prop} {R : List Item} {C : Cd α} {t sz n cap f : Nat} {a : Option Addr} {l l2 : List α} (H : Hold h0 h (own C a n cap l :: R)) {j : Int} {y y' : α} {v : Value}
    (hsz : (P.info? t).map (·.size) = some 1) (hz : sz = C.sz) (hf : Nat.blt f C.sz = true) (hv : v.cells.toList = [v]) (h1v : v.oneCell' = true) (hx : ∀ h vs G, C.own h y vs G → C.own h y' (vs.set f v) G)
    (he : execOp (rho L) o = (do Instr.storeAt t (.pointer (some ((adr a (j.toNat * sz)).add f))) v; pure .skip)) (hy : l[j.toNat]? = some y) (hr : 0 ≤ j ∧ j < l.length ∧ l2 = l.set j.toNat y')
    (g : ∀ h', Hold h0 h' (own C a n cap l2 :: R) → K undef h') : Eff P w0 L h o K := by
  subst hz
  obtain ⟨j0, j1, rfl⟩ := hr
  obtain ⟨inf, i1, i2⟩ := Option.map_eq_some_iff.1 hsz
  refine E_run fun w hw => ?_
  have hw1 := hw.heap
  subst hw1
  obtain ⟨F, ⟨p, hn⟩, s, back⟩ := H.open
  have p : Own C w.heap a cap l F := p
  obtain ⟨w', r1, r2, r3, r4, r5⟩ := run_putF (P := P) p s i1 i2 hy (Nat.le_of_ble_eq_true hf) hv h1v hx
  exact ⟨undef, w', w'.heap, .inr ⟨rfl, by rw [he]; simp [r1]⟩, hw.str r5, g _ (back w'.heap (own C a n cap (l.set j.toNat y')) F r4 ⟨r2, by rw [List.length_set]; exact hn⟩ r3 (fun b hb => .inl hb) (Nat.zero_le _))⟩

/-! ### rows of which some are looked at, while others are added -/
section
variable {h0 h : Heap} {R is : List Item}
end
section
variable {P : Program} {w0 : World} {L : Env} {h0 h : Heap} {R : List Item} {o : Oper} {K : Value → Heap → Prop}
end
section
variable {P : Program} {w0 : World} {L : Env} {o : Oper}
end
/-! ### elements taken out, elements cleared -/
section
variable {P : Program} {w0 : World} {L : Env} {h0 h : Heap} {R : List Item} {o : Oper} {K : Value → Heap → Prop}
theorem put_get {xs news : List Value} {k q : Nat} (hk : k + news.length ≤ xs.length) : (xs.take k ++ news ++ xs.drop (k + news.length))[q]? = if q < k then xs[q]? else if q < k + news.length then news[q - k]? else xs[q]? := by
  have hl : (xs.take k).length = k := by rw [List.length_take]; omega
  by_cases h1 : q < k
  · rw [if_pos h1, List.append_assoc, List.getElem?_append_left (by omega), List.getElem?_take, if_pos h1]
  · rw [if_neg h1]
    by_cases h2 : q < k + news.length
    · rw [if_pos h2, List.append_assoc, List.getElem?_append_right (by omega), List.getElem?_append_left (by omega), hl]
    · rw [if_neg h2, List.getElem?_append_right (by rw [List.length_append]; omega), List.getElem?_drop, List.length_append, hl, show k + news.length + (q - (k + news.length)) = q by omega]
theorem mul_lt {p i sz q : Nat} (hp : p < i) (hq : q < sz) : p * sz + q < i * sz := by
  have := Nat.mul_le_mul_right sz (show p + 1 ≤ i by omega)
  rw [Nat.add_mul] at this
  omega
theorem mul_ge {p i sz q : Nat} (hp : i ≤ p) : i * sz ≤ p * sz + q := by
  have := Nat.mul_le_mul_right sz hp
  omega
/-- the elements from k on cleared -/
theorem E_clear {C : Cd α} {z : Value} {b t ty n m cap c2 sz k : Nat} {a : Option Addr} {l : List α} (x : α) (H : Hold h0 h (own C a n cap l :: R)) (hfl : Flat C) (hti : TI P C.ty z C.sz b) (hzc : z.cells.size = C.sz) (ht : P.underlying t = some (.slice C.ty)) (hz : sz = C.sz)
    (hx : ∀ h, C.own h x z.cells.toList []) (he : execOp (rho L) o = (do pure (.value (← Builtin.clear_ #[t] ty #[.slice (sliceA a cap k sz) m c2])))) (hk : k ≤ l.length) (hm : m = l.length - k)
    (g : ∀ h', Hold h0 h' (own C a n cap (l.take k ++ List.replicate m x) :: R) → K (.tuple #[]) h') : Eff P w0 L h o K := by
  obtain ⟨inf, i1, i2, i3, i4⟩ := hti.get
  subst hz
  refine E_run fun w hw => ?_
  have hw1 := hw.heap
  subst hw1
  obtain ⟨F, ⟨p, hn⟩, s, back⟩ := H.open
  have p : Own C w.heap a cap l F := p
  have hlen : (l.take k ++ List.replicate m x).length = l.length := by simp; omega
  by_cases hm0 : m = 0
  · subst hm0
    refine ⟨_, w, w.heap, .inl ?_, hw, g _ ?_⟩
    · rw [he]
      cases sliceA a cap k C.sz <;> simp [Builtin.clear_, run_underlying ht]
    · have : l.take k ++ List.replicate 0 x = l := by rw [List.replicate_zero, List.append_nil, List.take_of_length_le (by omega)]
      rw [this]; exact H
  rcases p.cells with ⟨rfl, rfl, rfl, rfl⟩ | ⟨g2, cs, Fs, rfl, hg, h1, h2, h3, rfl, en⟩
  · simp at hm; omega
  · have hszl : cs.toList.length = cap * C.sz := by simpa using h1
    have had : sliceA (some ⟨g2, 0, none⟩) cap k C.sz = some ⟨g2, k * C.sz, none⟩ := by
      unfold sliceA
      rw [if_neg (by omega)]
      simp only [Option.map_some]
      unfold Addr.add; split <;> simp_all
    have hzl : (Builtin.zeroCells z.cells m).toList.length = m * C.sz := by simp [size_zeroCells, hzc]
    have hzget : ∀ p q, p < m → q < C.sz → (Builtin.zeroCells z.cells m).toList[p * C.sz + q]? = z.cells.toList[q]? := fun p q hp hq => by
      have hlt : p * C.sz + q < m * C.sz := mul_lt hp hq
      have hmod : (p * C.sz + q) % z.cells.size = q := by rw [hzc, Nat.mul_comm, Nat.mul_add_mod, Nat.mod_eq_of_lt hq]
      rw [Array.getElem?_toList, Array.getElem?_toList, Builtin.zeroCells, Array.getElem?_map, Array.getElem?_range, if_pos (by rw [hzc]; exact hlt)]
      simp only [Option.map_some, hmod]
      have : q < z.cells.size := by omega
      simp [this]
    have hone : ∀ v ∈ (Builtin.zeroCells z.cells m).toList, v.oneCell' = true := fun v hv => by
      obtain ⟨q, hq, rfl⟩ := List.mem_iff_getElem.1 hv
      have hs := C.pos
      have h5 := hzget (q / C.sz) (q % C.sz) ((Nat.div_lt_iff_lt_mul hs).2 (by omega)) (Nat.mod_lt _ hs)
      rw [Nat.mul_comm, Nat.div_add_mod, List.getElem?_eq_getElem hq] at h5
      exact C.own_one (hx w.heap) _ (List.mem_of_getElem? h5.symm)
    have hfit : k * C.sz + m * C.sz ≤ cs.size := by
      rw [h1, ← Nat.add_mul]
      exact Nat.mul_le_mul_right _ (by omega)
    have hst := run_storeCells_at P g2 (k * C.sz) C.ty (Builtin.zeroCells z.cells m).toList 0 cs w hg (by rw [hzl]; omega) hone
    simp only [Nat.add_zero] at hst
    have hzv : (zeroValue C.ty).run P w = .ok z w := by simp [zeroValue, typeInfo, i1, i2]
    have hrun : (Builtin.clear_ #[t] ty #[.slice (some ⟨g2, k * C.sz, none⟩) m c2]).run P w = .ok (.tuple #[]) (w.setRow g2 (cs.toList.take (k * C.sz) ++ (Builtin.zeroCells z.cells m).toList ++ cs.toList.drop (k * C.sz + (Builtin.zeroCells z.cells m).toList.length)).toArray) := by
      obtain ⟨m', rfl⟩ : ∃ q, m = q + 1 := ⟨m - 1, by omega⟩
      simp [Builtin.clear_, run_underlying ht, hzv, hst]
    have hput : ∀ q, (cs.toList.take (k * C.sz) ++ (Builtin.zeroCells z.cells m).toList ++ cs.toList.drop (k * C.sz + (Builtin.zeroCells z.cells m).toList.length))[q]? = if q < k * C.sz then cs.toList[q]? else if q < k * C.sz + m * C.sz then (Builtin.zeroCells z.cells m).toList[q - k * C.sz]? else cs.toList[q]? := fun q => by
      rw [put_get (by rw [hzl]; simpa using hfit), hzl]
    have hlp : (cs.toList.take (k * C.sz) ++ (Builtin.zeroCells z.cells m).toList ++ cs.toList.drop (k * C.sz + (Builtin.zeroCells z.cells m).toList.length)).length = cap * C.sz := by
      rw [List.length_append, List.length_append, hzl, List.length_take, List.length_drop, hszl]
      have := Nat.mul_le_mul_right C.sz (show k + m ≤ cap by omega)
      rw [Nat.add_mul] at this
      omega
    generalize cs.toList.take (k * C.sz) ++ (Builtin.zeroCells z.cells m).toList ++ cs.toList.drop (k * C.sz + (Builtin.zeroCells z.cells m).toList.length) = ys at hrun hput hlp
    have fr1 : Fr (g2 :: Fs.flatten) w.heap (w.setRow g2 ys.toArray).heap := ⟨by simp, fun b _ hF => setRow_other w g2 b _ (fun e => hF (by rw [e]; exact List.mem_cons_self))⟩
    have henc : Enc C w.heap (l.take k ++ List.replicate m x) (ys.toArray.toList.take ((l.take k ++ List.replicate m x).length * C.sz)) (List.replicate (l.take k ++ List.replicate m x).length []) := by
      refine ⟨?_, by simp, fun p y hp => ?_⟩
      · rw [hlen, List.length_take, List.toList_toArray, hlp]
        have := Nat.mul_le_mul_right C.sz h2
        omega
      · have hp' := (List.getElem?_eq_some_iff.1 hp).1
        rw [hlen] at hp'
        by_cases e1 : p < k
        · rw [List.getElem?_append_left (by simp; omega), List.getElem?_take, if_pos e1] at hp
          obtain ⟨vs, Fx, hF, ho, hv⟩ := en.elem p y hp
          have e := hfl _ _ _ _ ho
          subst e
          refine ⟨vs, [], by rw [List.getElem?_replicate, if_pos (by rw [hlen]; exact hp')], ho, fun q v hq => ?_⟩
          have hql := (List.getElem?_eq_some_iff.1 hq).1
          rw [C.own_len ho] at hql
          have h6 := take_get (hv q v hq)
          rw [hlen, List.getElem?_take, if_pos (mul_lt hp' hql), List.toList_toArray, hput, if_pos (mul_lt e1 hql)]
          exact h6
        · rw [List.getElem?_append_right (by simp; omega), List.getElem?_replicate, if_pos (by simp; omega)] at hp
          cases hp
          refine ⟨z.cells.toList, [], by rw [List.getElem?_replicate, if_pos (by rw [hlen]; exact hp')], hx _, fun q v hq => ?_⟩
          have hql := (List.getElem?_eq_some_iff.1 hq).1
          rw [Array.length_toList, hzc] at hql
          have e4 : ¬ p * C.sz + q < k * C.sz := by
            have := mul_ge (sz := C.sz) (q := q) (show k ≤ p by omega); omega
          have e5 : p * C.sz + q < k * C.sz + m * C.sz := by rw [← Nat.add_mul]; exact mul_lt (by omega) hql
          have e6 : p * C.sz + q - k * C.sz = (p - k) * C.sz + q := by
            have : p * C.sz = (p - k) * C.sz + k * C.sz := by rw [← Nat.add_mul]; congr 1; omega
            omega
          rw [hlen, List.getElem?_take, if_pos (mul_lt hp' hql), List.toList_toArray, hput, if_neg e4, if_pos e5, e6, hzget (p - k) q (by omega) hql]
          exact hq
    refine ⟨_, w.setRow g2 ys.toArray, (w.setRow g2 ys.toArray).heap, .inl (by rw [he, had]; simp [hrun]), hw.str ⟨rfl, rfl, rfl, by first | exact Nat.le_refl _ | exact Nat.le_succ _⟩, g _ (back _ (own C _ n cap _) (g2 :: (List.replicate (l.take k ++ List.replicate m x).length ([] : List Nat)).flatten) (fr1.weak fun b _ hb => hb) ⟨⟨by rw [hlen]; exact p.small, .inr ⟨g2, ys.toArray, _, rfl, setRow_heap w g2 cs _ C.ty _ hg, ?_, by rw [hlen]; exact h2, h3, rfl, ?_⟩⟩, by rw [hlen]; exact hn⟩ ?_ (fun b hb => ?_) (Nat.zero_le _))⟩
    · simpa using hlp
    · exact henc.ext fun b hb => by rw [flatten_replicate_nil] at hb; cases hb
    · rw [flatten_replicate_nil]
      exact ⟨by simp, fun b hb => s.lo b (by simp at hb; subst hb; exact List.mem_cons_self), fun b hb => by rw [size_setRow]; exact s.hi b (by simp at hb; subst hb; exact List.mem_cons_self)⟩
    · rw [flatten_replicate_nil] at hb
      exact .inl (by simp at hb; subst hb; exact List.mem_cons_self)
end
/-! ### slices of slices that are read -/
end Go.Proofs.Ytelopfgolahlpaa
