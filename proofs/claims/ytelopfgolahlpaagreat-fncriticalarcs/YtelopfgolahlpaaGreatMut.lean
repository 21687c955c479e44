/-
  Functions that turn what they are handed: the things that they do not know are bundled into one; a row is taken out of its rows and put back; a field of an element is stored.
-/
import Derived.Test.YtelopfgolahlpaaGreatVar
import Derived.Laws.StructEq
namespace Go.Proofs.YtelopfgolahlpaaGreat
open Go
variable {α : Type}

/-! ### many things as one -/
theorem All.app {h : Heap} : ∀ {xs : List Item} {As : List (List Nat)} {ys : List Item} {Bs : List (List Nat)}, All h xs As → All h ys Bs → All h (xs ++ ys) (As ++ Bs)
  | [], [], _, _, _, b => b
  | _ :: _, _ :: _, _, _, a, b => ⟨a.1, a.2.app b⟩
  | [], _ :: _, _, _, a, _ => a.elim
  | _ :: _, [], _, _, a, _ => a.elim
theorem All.split {h : Heap} : ∀ {xs : List Item} {ys : List Item} {Fs : List (List Nat)}, All h (xs ++ ys) Fs → ∃ As Bs, Fs = As ++ Bs ∧ All h xs As ∧ All h ys Bs
  | [], _, Fs, a => ⟨[], Fs, rfl, trivial, a⟩
  | x :: xs, ys, F :: Fs, a => by
    obtain ⟨As, Bs, rfl, a1, a2⟩ := All.split (xs := xs) a.2
    exact ⟨F :: As, Bs, rfl, ⟨a.1, a1⟩, a2⟩
  | _ :: _, _, [], a => a.elim
def maxBase : List Item → Nat
  | [] => 0
  | i :: is => max i.base (maxBase is)
theorem maxBase_le : ∀ {is : List Item} {i : Item}, i ∈ is → i.base ≤ maxBase is
  | j :: is, i, h => by
    rcases List.mem_cons.1 h with rfl | h
    · exact Nat.le_max_left _ _
    · exact Nat.le_trans (maxBase_le h) (Nat.le_max_right _ _)
theorem le_maxBase : ∀ {is : List Item} {n : Nat}, is.all (fun i => Nat.ble i.base n) = true → maxBase is ≤ n
  | [], n, _ => Nat.zero_le n
  | i :: is, n, h => by
    simp only [List.all_cons, Bool.and_eq_true] at h
    exact Nat.max_le.2 ⟨Nat.le_of_ble_eq_true h.1, le_maxBase h.2⟩
def bun (R : List Item) : Item := ⟨maxBase R, fun h F => ∃ Fs, All h R Fs ∧ F = Fs.flatten, fun {h h' F} e1 e2 ⟨Fs, a, hF⟩ => ⟨Fs, a.loc (fun i hi b hb => e1 b (Nat.lt_of_lt_of_le hb (maxBase_le hi))) (fun b hb => e2 b (by rw [hF]; exact hb)), hF⟩⟩
theorem Hold.bundle {h0 h : Heap} {S R : List Item} (H : Hold h0 h (S ++ R)) : Hold h0 h (S ++ [bun R]) := by
  obtain ⟨Fs, a, s⟩ := H.fs
  obtain ⟨As, Bs, rfl, a1, a2⟩ := a.split
  have hb := H.base
  rw [List.all_append, Bool.and_eq_true] at hb
  refine ⟨H.ext, ?_, As ++ [Bs.flatten], a1.app (ys := [bun R]) (Bs := [Bs.flatten]) ⟨⟨Bs, a2, rfl⟩, trivial⟩, by simpa using s⟩
  rw [List.all_append, Bool.and_eq_true]
  refine ⟨hb.1, ?_⟩
  simp only [List.all_cons, List.all_nil, Bool.and_true]
  exact Nat.ble_eq_true_of_le (le_maxBase hb.2)
theorem Hold.unbundle {h0 h : Heap} {S R : List Item} (H : Hold h0 h (S ++ [bun R])) (hR : R.all (fun i => Nat.ble i.base h0.size) = true) : Hold h0 h (S ++ R) := by
  obtain ⟨Fs, a, s⟩ := H.fs
  obtain ⟨As, Bs, rfl, a1, a2⟩ := a.split
  match Bs, a2 with
  | [F], ⟨⟨Gs, b1, hF⟩, _⟩ =>
    subst hF
    have hb := H.base
    rw [List.all_append, Bool.and_eq_true] at hb
    refine ⟨H.ext, ?_, As ++ Gs, a1.app b1, by simpa using s⟩
    rw [List.all_append, Bool.and_eq_true]
    exact ⟨hb.1, hR⟩
theorem Hold.tailBase {h0 h : Heap} {S R : List Item} (H : Hold h0 h (S ++ R)) : R.all (fun i => Nat.ble i.base h0.size) = true := by
  have hb := H.base
  rw [List.all_append, Bool.and_eq_true] at hb
  exact hb.2

/-! ### one row, taken out -/
section
variable {h0 h : Heap} {R : List Item}
/-- rows, but for number i, whose blocks are not among these -/
def rest (C : Cd α) (ty : Nat) (a : Option Addr) (n cap : Nat) (m : List (List α)) (i : Nat) (a' : Option Addr) (k' c' : Nat) : Item :=
  ⟨0, fun h F => m.length = n ∧ m.length ≤ 9223372036854775807 ∧ i < m.length ∧ ∃ (g : Nat) (cs : Array Value) (Fs : List (List Nat)), a = some ⟨g, 0, none⟩ ∧ h[g]? = some (.cells cs ty (0, 0)) ∧ cs.size = cap ∧ m.length ≤ cap ∧ cap ≤ maxLen ∧
      Fs.length = m.length ∧ F = g :: (Fs.take i).flatten ++ (Fs.drop (i + 1)).flatten ∧ cs[i]? = some (.slice a' k' c') ∧
      ∀ k x, m[k]? = some x → k ≠ i → ∃ b c Fx, Fs[k]? = some Fx ∧ Own C h b c x Fx ∧ cs[k]? = some (.slice b x.length c),
    fun {h h' F} _ e ⟨hn, hs, hi, g, cs, Fs, ha, hg, h1, h2, h3, h4, hF, h5, h6⟩ => ⟨hn, hs, hi, g, cs, Fs, ha, (e g (by rw [hF]; simp)).trans hg, h1, h2, h3, h4, hF, h5, fun k x hk hne => by
      obtain ⟨b, c, Fx, k1, k2, k3⟩ := h6 k x hk hne
      refine ⟨b, c, Fx, k1, k2.ext fun u hu => e u ?_, k3⟩
      rw [hF]
      simp only [List.cons_append, List.mem_cons, List.mem_append, List.mem_flatten]
      rcases Nat.lt_or_ge k i with hlt | hge
      · exact .inr (.inl ⟨Fx, List.mem_of_getElem? (i := k) (by rw [List.getElem?_take, if_pos hlt]; exact k1), hu⟩)
      · exact .inr (.inr ⟨Fx, List.mem_of_getElem? (i := k - (i + 1)) (by rw [List.getElem?_drop, show i + 1 + (k - (i + 1)) = k by omega]; exact k1), hu⟩)⟩⟩
end

/-! ### one cell of an element -/
/-! ### rows of which some are looked at, while others are added -/
section
variable {h0 h : Heap} {R is : List Item}
end
section
variable {P : Program} {w0 : World} {L : Env} {h0 h : Heap} {R : List Item} {o : Oper} {K : Value → Heap → Prop}
end
section
variable {P : Program} {w0 : World} {L : Env} {o : Oper}
/-- structs, compared -/
theorem Y_seq {C : Heap → Prop} {t : Nat} {ox oy : Operand} {xs ys : Array Value} {b : Bool} (he : execOp (rho L) o = (do pure (.value (← (do eqGuard .eql t ox oy (.agg xs) (.agg ys); binOp .eql t (.agg xs) (.agg ys)))))) (hg : P.eqGuardType P.depth t = false) (hq : ∀ w, (Op.equalIn 10000 t (.agg xs) (.agg ys)).run P w = .ok b w) : Y P w0 C L o (.bool b) :=
  Y_pure fun w => by
    rw [he]
    simp only [Sem.run_bind, run_eqGuard_agg w .eql t ox oy xs ys hg, Result.andThen_ok, run_eql_struct, hq, Sem.run_pure]
end
/-! ### elements taken out, elements cleared -/
section
variable {P : Program} {w0 : World} {L : Env} {h0 h : Heap} {R : List Item} {o : Oper} {K : Value → Heap → Prop}
theorem put_get {xs news : List Value} {k q : Nat} (hk : k + news.length ≤ xs.length) : (xs.take k ++ news ++ xs.drop (k + news.length))[q]? = if q < k then xs[q]? else if q < k + news.length then news[q - k]? else xs[q]? := by
  have hl : (xs.take k).length = k := by rw [List.length_take]; omega
  by_cases h1 : q < k
  · rw [if_pos h1, List.append_assoc, List.getElem?_append_left (by omega), List.getElem?_take, if_pos h1]
  · rw [if_neg h1]
    by_cases h2 : q < k + news.length
    · rw [if_pos h2, List.append_assoc, List.getElem?_append_right (by omega), List.getElem?_append_left (by omega), hl]
    · rw [if_neg h2, List.getElem?_append_right (by rw [List.length_append]; omega), List.getElem?_drop, List.length_append, hl, show k + news.length + (q - (k + news.length)) = q by omega]
theorem mul_lt {p i sz q : Nat} (hp : p < i) (hq : q < sz) : p * sz + q < i * sz := by
  have := Nat.mul_le_mul_right sz (show p + 1 ≤ i by omega)
  rw [Nat.add_mul] at this
  omega
end
/-! ### slices of slices that are read -/
end Go.Proofs.YtelopfgolahlpaaGreat
