/-
  Functions that turn what they are handed: the things that they do not know are bundled into one; a row is taken out of its rows and put back; a field of an element is stored.
-/
import Derived.Test.YtelopfgolahlpaaDoorVar
import Derived.Laws.StructEq
namespace Go.Proofs.YtelopfgolahlpaaDoor
open Go
variable {α : Type}

/-! ### many things as one -/
theorem All.app {h : Heap} : ∀ {xs : List Item} {As : List (List Nat)} {ys : List Item} {Bs : List (List Nat)}, All h xs As → All h ys Bs → All h (xs ++ ys) (As ++ Bs)
  | [], [], _, _, _, b => b
  | _ :: _, _ :: _, _, _, a, b => ⟨a.1, a.2.app b⟩
  | [], _ :: _, _, _, a, _ => a.elim
  | _ :: _, [], _, _, a, _ => a.elim
theorem All.split {h : Heap} : ∀ {xs : List Item} {ys : List Item} {Fs : List (List Nat)}, All h (xs ++ ys) Fs → ∃ As Bs, Fs = As ++ Bs ∧ All h xs As ∧ All h ys Bs
  | [], _, Fs, a => ⟨[], Fs, rfl, trivial, a⟩
  | x :: xs, ys, F :: Fs, a => by
    obtain ⟨As, Bs, rfl, a1, a2⟩ := All.split (xs := xs) a.2
    exact ⟨F :: As, Bs, rfl, ⟨a.1, a1⟩, a2⟩
  | _ :: _, _, [], a => a.elim
/-! ### one row, taken out -/
section
variable {h0 h : Heap} {R : List Item}
/-- rows, but for number i, whose blocks are not among these -/
def rest (C : Cd α) (ty : Nat) (a : Option Addr) (n cap : Nat) (m : List (List α)) (i : Nat) (a' : Option Addr) (k' c' : Nat) : Item :=
  ⟨0, fun h F => m.length = n ∧ m.length ≤ 9223372036854775807 ∧ i < m.length ∧ ∃ (g : Nat) (cs : Array Value) (Fs : List (List Nat)), a = some ⟨g, 0, none⟩ ∧ h[g]? = some (.cells cs ty (0, 0)) ∧ cs.size = cap ∧ m.length ≤ cap ∧ cap ≤ maxLen ∧
      Fs.length = m.length ∧ F = g :: (Fs.take i).flatten ++ (Fs.drop (i + 1)).flatten ∧ cs[i]? = some (.slice a' k' c') ∧
      ∀ k x, m[k]? = some x → k ≠ i → ∃ b c Fx, Fs[k]? = some Fx ∧ Own C h b c x Fx ∧ cs[k]? = some (.slice b x.length c),
    fun {h h' F} _ e ⟨hn, hs, hi, g, cs, Fs, ha, hg, h1, h2, h3, h4, hF, h5, h6⟩ => ⟨hn, hs, hi, g, cs, Fs, ha, (e g (by rw [hF]; simp)).trans hg, h1, h2, h3, h4, hF, h5, fun k x hk hne => by
      obtain ⟨b, c, Fx, k1, k2, k3⟩ := h6 k x hk hne
      refine ⟨b, c, Fx, k1, k2.ext fun u hu => e u ?_, k3⟩
      rw [hF]
      simp only [List.cons_append, List.mem_cons, List.mem_append, List.mem_flatten]
      rcases Nat.lt_or_ge k i with hlt | hge
      · exact .inr (.inl ⟨Fx, List.mem_of_getElem? (i := k) (by rw [List.getElem?_take, if_pos hlt]; exact k1), hu⟩)
      · exact .inr (.inr ⟨Fx, List.mem_of_getElem? (i := k - (i + 1)) (by rw [List.getElem?_drop, show i + 1 + (k - (i + 1)) = k by omega]; exact k1), hu⟩)⟩⟩
end

/-! ### one cell of an element -/
/-! ### rows of which some are looked at, while others are added -/
section
variable {h0 h : Heap} {R is : List Item}
end
section
variable {P : Program} {w0 : World} {L : Env} {h0 h : Heap} {R : List Item} {o : Oper} {K : Value → Heap → Prop}
end
section
variable {P : Program} {w0 : World} {L : Env} {o : Oper}
end
/-! ### elements taken out, elements cleared -/
section
variable {P : Program} {w0 : World} {L : Env} {h0 h : Heap} {R : List Item} {o : Oper} {K : Value → Heap → Prop}
end
/-! ### slices of slices that are read -/
end Go.Proofs.YtelopfgolahlpaaDoor
