/-
  Functions that turn what they are handed: the things that they do not know are bundled into one; a row is taken out of its rows and put back; a field of an element is stored.
-/
import Derived.Test.YtfhphkiggdepaaaDoorVar
import Derived.Laws.StructEq
namespace Go.Proofs.YtfhphkiggdepaaaDoor
open Go
variable {α : Type}

/-! ### many things as one -/
theorem All.app {h : Heap} : ∀ {xs : List Item} {As : List (List Nat)} {ys : List Item} {Bs : List (List Nat)}, All h xs As → All h ys Bs → All h (xs ++ ys) (As ++ Bs)
  | [], [], _, _, _, b => b
  | _ :: _, _ :: _, _, _, a, b => ⟨a.1, a.2.app b⟩
  | [], _ :: _, _, _, a, _ => a.elim
  | _ :: _, [], _, _, a, _ => a.elim
theorem All.split {h : Heap} : ∀ {xs : List Item} {ys : List Item} {Fs : List (List Nat)}, All h (xs ++ ys) Fs → ∃ As Bs, Fs = As ++ Bs ∧ All h xs As ∧ All h ys Bs
  | [], _, Fs, a => ⟨[], Fs, rfl, trivial, a⟩
  | x :: xs, ys, F :: Fs, a => by
    obtain ⟨As, Bs, rfl, a1, a2⟩ := All.split (xs := xs) a.2
    exact ⟨F :: As, Bs, rfl, ⟨a.1, a1⟩, a2⟩
  | _ :: _, _, [], a => a.elim
def maxBase : List Item → Nat
  | [] => 0
  | i :: is => max i.base (maxBase is)
theorem maxBase_le : ∀ {is : List Item} {i : Item}, i ∈ is → i.base ≤ maxBase is
  | j :: is, i, h => by
    rcases List.mem_cons.1 h with rfl | h
    · exact Nat.le_max_left _ _
    · exact Nat.le_trans (maxBase_le h) (Nat.le_max_right _ _)
theorem le_maxBase : ∀ {is : List Item} {n : Nat}, is.all (fun i => Nat.ble i.base n) = true → maxBase is ≤ n
  | [], n, _ => Nat.zero_le n
  | i :: is, n, h => by
    simp only [List.all_cons, Bool.and_eq_true] at h
    exact Nat.max_le.2 ⟨Nat.le_of_ble_eq_true h.1, le_maxBase h.2⟩
def bun (R : List Item) : Item := ⟨maxBase R, fun h F => ∃ Fs, All h R Fs ∧ F = Fs.flatten, fun {h h' F} e1 e2 ⟨Fs, a, hF⟩ => ⟨Fs, a.loc (fun i hi b hb => e1 b (Nat.lt_of_lt_of_le hb (maxBase_le hi))) (fun b hb => e2 b (by rw [hF]; exact hb)), hF⟩⟩
theorem Hold.bundle {h0 h : Heap} {S R : List Item} (H : Hold h0 h (S ++ R)) : Hold h0 h (S ++ [bun R]) := by
  obtain ⟨Fs, a, s⟩ := H.fs
  obtain ⟨As, Bs, rfl, a1, a2⟩ := a.split
  have hb := H.base
  rw [List.all_append, Bool.and_eq_true] at hb
  refine ⟨H.ext, ?_, As ++ [Bs.flatten], a1.app (ys := [bun R]) (Bs := [Bs.flatten]) ⟨⟨Bs, a2, rfl⟩, trivial⟩, by simpa using s⟩
  rw [List.all_append, Bool.and_eq_true]
  refine ⟨hb.1, ?_⟩
  simp only [List.all_cons, List.all_nil, Bool.and_true]
  exact Nat.ble_eq_true_of_le (le_maxBase hb.2)
theorem Hold.unbundle {h0 h : Heap} {S R : List Item} (H : Hold h0 h (S ++ [bun R])) (hR : R.all (fun i => Nat.ble i.base h0.size) = true) : Hold h0 h (S ++ R) := by
  obtain ⟨Fs, a, s⟩ := H.fs
  obtain ⟨As, Bs, rfl, a1, a2⟩ := a.split
  match Bs, a2 with
  | [F], ⟨⟨Gs, b1, hF⟩, _⟩ =>
    subst hF
    have hb := H.base
    rw [List.all_append, Bool.and_eq_true] at hb
    refine ⟨H.ext, ?_, As ++ Gs, a1.app b1, by simpa using s⟩
    rw [List.all_append, Bool.and_eq_true]
    exact ⟨hb.1, hR⟩
theorem Hold.tailBase {h0 h : Heap} {S R : List Item} (H : Hold h0 h (S ++ R)) : R.all (fun i => Nat.ble i.base h0.size) = true := by
  have hb := H.base
  rw [List.all_append, Bool.and_eq_true] at hb
  exact hb.2

/-! ### one row, taken out -/
section
variable {h0 h : Heap} {R : List Item}
/-- rows, but for number i, whose blocks are not among these -/
def rest (C : Cd α) (ty : Nat) (a : Option Addr) (n cap : Nat) (m : List (List α)) (i : Nat) (a' : Option Addr) (k' c' : Nat) : Item :=
  ⟨0, fun h F => m.length = n ∧ m.length ≤ 9223372036854775807 ∧ i < m.length ∧ ∃ (g : Nat) (cs : Array Value) (Fs : List (List Nat)), a = some ⟨g, 0, none⟩ ∧ h[g]? = some (.cells cs ty (0, 0)) ∧ cs.size = cap ∧ m.length ≤ cap ∧ cap ≤ maxLen ∧
      Fs.length = m.length ∧ F = g :: (Fs.take i).flatten ++ (Fs.drop (i + 1)).flatten ∧ cs[i]? = some (.slice a' k' c') ∧
      ∀ k x, m[k]? = some x → k ≠ i → ∃ b c Fx, Fs[k]? = some Fx ∧ Own C h b c x Fx ∧ cs[k]? = some (.slice b x.length c),
    fun {h h' F} _ e ⟨hn, hs, hi, g, cs, Fs, ha, hg, h1, h2, h3, h4, hF, h5, h6⟩ => ⟨hn, hs, hi, g, cs, Fs, ha, (e g (by rw [hF]; simp)).trans hg, h1, h2, h3, h4, hF, h5, fun k x hk hne => by
      obtain ⟨b, c, Fx, k1, k2, k3⟩ := h6 k x hk hne
      refine ⟨b, c, Fx, k1, k2.ext fun u hu => e u ?_, k3⟩
      rw [hF]
      simp only [List.cons_append, List.mem_cons, List.mem_append, List.mem_flatten]
      rcases Nat.lt_or_ge k i with hlt | hge
      · exact .inr (.inl ⟨Fx, List.mem_of_getElem? (i := k) (by rw [List.getElem?_take, if_pos hlt]; exact k1), hu⟩)
      · exact .inr (.inr ⟨Fx, List.mem_of_getElem? (i := k - (i + 1)) (by rw [List.getElem?_drop, show i + 1 + (k - (i + 1)) = k by omega]; exact k1), hu⟩)⟩⟩
end

/-! ### one cell of an element -/
theorem run_putF {P : Program} {C : Cd α} {w : World} {a : Option Addr} {cap lo : Nat} {l : List α} {F : List Nat} (o : Own C w.heap a cap l F) (s : Sep lo w.heap F) {t : Nat} {inf : TypeInfo} (hinf : P.info? t = some inf) (hsz : inf.size = 1)
    {i f : Nat} {y y' : α} (hy : l[i]? = some y) (hf : f < C.sz) {v : Value} (hv : v.cells.toList = [v]) (h1v : v.oneCell' = true) (hx : ∀ h vs G, C.own h y vs G → C.own h y' (vs.set f v) G) :
    ∃ w', (Instr.storeAt t (.pointer (some ((adr a (i * C.sz)).add f))) v).run P w = .ok () w' ∧ Own C w'.heap a cap (l.set i y') F ∧ Sep lo w'.heap F ∧ Fr F w.heap w'.heap ∧ Str w w' := by
  rcases o.cells with ⟨_, _, rfl, _⟩ | ⟨g, cs, Fs, rfl, hg, h1, h2, h3, rfl, n⟩
  · simp at hy
  · have hi : i < l.length := (List.getElem?_eq_some_iff.1 hy).1
    have hb : i * C.sz + C.sz ≤ l.length * C.sz := by rw [← Nat.succ_mul]; exact Nat.mul_le_mul_right _ hi
    have hb2 : l.length * C.sz ≤ cs.size := by rw [h1]; exact Nat.mul_le_mul_right _ h2
    have hst := run_storeCells_at P g (i * C.sz + f) C.ty [v] 0 cs w hg (by simp; omega) (by simpa using h1v)
    simp only [Nat.add_zero] at hst
    have hnd := List.nodup_cons.1 s.nodup
    have hvc : v.cells.size = 1 := by rw [← Array.length_toList, hv]; rfl
    have eset : cs.toList.take (i * C.sz + f) ++ [v] ++ cs.toList.drop (i * C.sz + f + [v].length) = cs.toList.set (i * C.sz + f) v := by
      rw [List.set_eq_take_append_cons_drop, if_pos (by simp; omega)]; simp
    rw [eset] at hst
    have hadd : (adr (some ⟨g, 0, none⟩) (i * C.sz)).add f = ⟨g, i * C.sz + f, none⟩ := by rw [adr_some]; unfold Addr.add; split <;> simp_all
    have hrun : (Instr.storeAt t (.pointer (some ((adr (some ⟨g, 0, none⟩) (i * C.sz)).add f))) v).run P w = .ok () (w.setRow g (cs.toList.set (i * C.sz + f) v).toArray) := by
      rw [hadd]
      simp only [Instr.storeAt, Instr.sureAddr, storeVar, sizeOf, typeInfo, Sem.run_bind, Sem.run_pure, Result.andThen_ok, program, Sem.run, hinf, hvc, hsz, ne_eq, not_true_eq_false, if_false, hv]
      exact hst
    refine ⟨_, hrun, ⟨by simpa using o.small, .inr ⟨g, _, Fs, rfl, setRow_heap w g cs _ C.ty _ hg, by simpa using h1, by simpa using h2, h3, rfl, ?_⟩⟩, s.mono (Nat.le_refl _) (by simp), ⟨by simp, fun b _ hF => setRow_other w g b _ (fun e => hF (by rw [e]; exact List.mem_cons_self))⟩, ⟨rfl, rfl, rfl, by first | exact DrLe.refl _ | exact DrLe.succ _⟩⟩
    have keep : ∀ {x vs Fx}, Fx ∈ Fs → C.own w.heap x vs Fx → C.own (w.setRow g (cs.toList.set (i * C.sz + f) v).toArray).heap x vs Fx := fun {x vs Fx} hF ho => C.own_ext (fun b hb => setRow_other w g b _ (fun e => hnd.1 (List.mem_flatten.2 ⟨Fx, hF, e ▸ hb⟩))) ho
    refine ⟨by simp [n.len]; omega, by simpa using n.fp, fun k x hk => ?_⟩
    by_cases hki : i = k
    · subst hki
      rw [List.getElem?_set_self (by simpa using hi)] at hk
      cases hk
      obtain ⟨vs, Fx, hF, ho, hvs⟩ := n.elem i y hy
      have hlen := C.own_len ho
      refine ⟨vs.set f v, Fx, hF, hx _ _ _ (keep (List.mem_of_getElem? hF) ho), fun j u hj => ?_⟩
      have hjl : j < vs.length := by
        have := (List.getElem?_eq_some_iff.1 hj).1
        simpa using this
      rw [List.length_set, List.getElem?_take, if_pos (by omega)]
      simp only [List.toList_toArray]
      by_cases e : f = j
      · subst e
        rw [List.getElem?_set_self hjl] at hj
        rw [List.getElem?_set_self (by simp; omega)]; exact hj
      · rw [List.getElem?_set_ne e] at hj
        rw [List.getElem?_set_ne (by omega)]
        exact take_get (hvs j u hj)
    · rw [List.getElem?_set_ne hki] at hk
      obtain ⟨vs, Fx, hF, ho, hvs⟩ := n.elem k x hk
      refine ⟨vs, Fx, hF, keep (List.mem_of_getElem? hF) ho, fun j u hj => ?_⟩
      have hlen := C.own_len ho
      have hjl : j < vs.length := (List.getElem?_eq_some_iff.1 hj).1
      have h7 := hvs j u hj
      rw [List.getElem?_take] at h7
      split at h7
      · rename_i hlt
        rw [List.length_set, List.getElem?_take, if_pos hlt]
        simp only [List.toList_toArray]
        rw [List.getElem?_set_ne, h7]
        intro e
        rcases Nat.lt_or_gt_of_ne hki with hlt' | hlt'
        · have h8 : (i + 1) * C.sz ≤ k * C.sz := Nat.mul_le_mul_right _ hlt'
          rw [Nat.succ_mul] at h8
          omega
        · have h8 : (k + 1) * C.sz ≤ i * C.sz := Nat.mul_le_mul_right _ hlt'
          rw [Nat.succ_mul] at h8
          omega
      · cases h7
theorem E_putF {P : Program} {w0 : World} {L : Env} {h0 h : Heap} {o : Oper} {K : Value → Heap → Prop} {R : List Item} {C : Cd α} {t sz n cap f : Nat} {a : Option Addr} {l l2 : List α} (H : Hold h0 h (own C a n cap l :: R)) {j : Int} {y y' : α} {v : Value}
    (hsz : (P.info? t).map (·.size) = some 1) (hz : sz = C.sz) (hf : Nat.blt f C.sz = true) (hv : v.cells.toList = [v]) (h1v : v.oneCell' = true) (hx : ∀ h vs G, C.own h y vs G → C.own h y' (vs.set f v) G)
    (he : execOp (rho L) o = (do Instr.storeAt t (.pointer (some ((adr a (j.toNat * sz)).add f))) v; pure .skip)) (hy : l[j.toNat]? = some y) (hr : 0 ≤ j ∧ j < l.length ∧ l2 = l.set j.toNat y')
    (g : ∀ h', Hold h0 h' (own C a n cap l2 :: R) → K undef h') : Eff P w0 L h o K := by
  subst hz
  obtain ⟨j0, j1, rfl⟩ := hr
  obtain ⟨inf, i1, i2⟩ := Option.map_eq_some_iff.1 hsz
  refine E_run fun w hw => ?_
  have hw1 := hw.heap
  subst hw1
  obtain ⟨F, ⟨p, hn⟩, s, back⟩ := H.open
  have p : Own C w.heap a cap l F := p
  obtain ⟨w', r1, r2, r3, r4, r5⟩ := run_putF (P := P) p s i1 i2 hy (Nat.le_of_ble_eq_true hf) hv h1v hx
  exact ⟨undef, w', w'.heap, .inr ⟨rfl, by rw [he]; simp [r1]⟩, hw.str r5, g _ (back w'.heap (own C a n cap (l.set j.toNat y')) F r4 ⟨r2, by rw [List.length_set]; exact hn⟩ r3 (fun b hb => .inl hb) (Nat.zero_le _))⟩

/-! ### rows of which some are looked at, while others are added -/
section
variable {h0 h : Heap} {R is : List Item}
end
section
variable {P : Program} {w0 : World} {L : Env} {h0 h : Heap} {R : List Item} {o : Oper} {K : Value → Heap → Prop}
end
section
variable {P : Program} {w0 : World} {L : Env} {o : Oper}
end
/-! ### elements taken out, elements cleared -/
section
variable {P : Program} {w0 : World} {L : Env} {h0 h : Heap} {R : List Item} {o : Oper} {K : Value → Heap → Prop}
end
/-! ### slices of slices that are read -/
end Go.Proofs.YtfhphkiggdepaaaDoor
