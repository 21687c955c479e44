/-
  Rows that may show twice: a slice of rows that are read in other own blocks, with its loads, stores and lengths.
-/
import Derived.Test.YtfhphkiggdepaaaDoorMut
namespace Go.Proofs.YtfhphkiggdepaaaDoor
open Go
variable {α : Type}
/-! ### rows that may show twice (under way: the things that slices.DeleteFunc on rows needs) -/
/-- the outer array is the holder's own; every row is read in other blocks of the holder, and may show in two cells -/
def LR (C : Cd α) (ty : Nat) (h : Heap) (a : Option Addr) (n cap : Nat) (l : List (List α)) (F : List Nat) : Prop :=
  l.length = n ∧ l.length ≤ 9223372036854775807 ∧ ((a = none ∧ cap = 0 ∧ l = []) ∨ ∃ (g : Nat) (cs : Array Value) (G : List Nat), a = some ⟨g, 0, none⟩ ∧ F = g :: G ∧ h[g]? = some (.cells cs ty (0, 0)) ∧ cs.size = cap ∧ l.length ≤ cap ∧ cap ≤ maxLen ∧ ∀ (i : Nat) (x : List α), l[i]? = some x → ∃ a' c', cs[i]? = some (Value.slice a' x.length c') ∧ Rd C h (· ∈ G) a' c' x)
theorem LR.ext {C : Cd α} {ty n cap : Nat} {h h' : Heap} {a : Option Addr} {l : List (List α)} {F : List Nat} (r : LR C ty h a n cap l F) (e : ∀ b ∈ F, h'[b]? = h[b]?) : LR C ty h' a n cap l F := by
  obtain ⟨h1, h2, h3 | ⟨g, cs, G, h3, rfl, h4, h5, h6, h7, h8⟩⟩ := r
  · exact ⟨h1, h2, .inl h3⟩
  · exact ⟨h1, h2, .inr ⟨g, cs, G, h3, rfl, (e g List.mem_cons_self).trans h4, h5, h6, h7, fun i x hx => let ⟨a', c', q1, q2⟩ := h8 i x hx; ⟨a', c', q1, q2.ext fun b hb => e b (List.mem_cons_of_mem _ hb)⟩⟩⟩
theorem LR.rd {C : Cd α} {ty n cap : Nat} {h : Heap} {a : Option Addr} {l : List (List α)} {F : List Nat} (r : LR C ty h a n cap l F) : Rd (rowCd C ty) h (· ∈ F) a cap l := by
  obtain ⟨h1, h2, ⟨_, _, rfl⟩ | ⟨g, cs, G, h3, rfl, h4, h5, h6, h7, h8⟩⟩ := r
  · exact Rd.nil _ _ _ _ _
  · refine ⟨h2, h6, .inr ⟨g, 0, cs, ty, (0, 0), h3, List.mem_cons_self, h4, fun i x hx => ?_⟩⟩
    obtain ⟨a', c', q1, q2⟩ := h8 i x hx
    refine ⟨[Value.slice a' x.length c'], ⟨a', c', rfl, q2.mono fun b hb => List.mem_cons_of_mem _ hb⟩, fun j v hj => ?_⟩
    have e1 : (rowCd C ty).sz = 1 := rfl
    cases j with
    | zero =>
      simp only [List.getElem?_cons_zero, Option.some.injEq] at hj
      rw [← hj, e1, Nat.mul_one, Nat.zero_add, Nat.add_zero]; exact q1
    | succ j => simp at hj
/-- one row shown in another cell too -/
theorem LR.store {C : Cd α} {ty n cap : Nat} {h h' : Heap} {l : List (List α)} {g : Nat} {cs : Array Value} {G : List Nat} (hn : l.length = n) (hs : l.length ≤ 9223372036854775807) (hc : cs.size = cap) (h6 : l.length ≤ cap) (h7 : cap ≤ maxLen) (h8 : ∀ (i : Nat) (x : List α), l[i]? = some x → ∃ a' c', cs[i]? = some (Value.slice a' x.length c') ∧ Rd C h (· ∈ G) a' c' x)
    {i : Nat} {x : List α} {a' : Option Addr} {c' : Nat} (hi : i < l.length) (hx : Rd C h (· ∈ G) a' c' x) (hg : h'[g]? = some (.cells (cs.setIfInBounds i (Value.slice a' x.length c')) ty (0, 0))) (hG : ∀ b ∈ G, h'[b]? = h[b]?) : LR C ty h' (some ⟨g, 0, none⟩) n cap (l.set i x) (g :: G) := by
  refine ⟨by rw [List.length_set]; exact hn, by rw [List.length_set]; exact hs, .inr ⟨g, _, G, rfl, rfl, hg, by simp [hc], by rw [List.length_set]; exact h6, h7, fun j y hy => ?_⟩⟩
  by_cases e : j = i
  · subst e
    rw [List.getElem?_set_self hi, Option.some.injEq] at hy
    subst hy
    exact ⟨a', c', by simp [show j < cs.size by omega], hx.ext hG⟩
  · rw [List.getElem?_set_ne (fun h => e h.symm)] at hy
    obtain ⟨a2, c2, q1, q2⟩ := h8 j y hy
    exact ⟨a2, c2, by rw [Array.getElem?_setIfInBounds_ne (fun h => e h.symm)]; exact q1, q2.ext hG⟩
section
variable {P : Program} {w0 : World} {L : Env} {h0 h : Heap} {R : List Item} {o : Oper} {K : Value → Heap → Prop}
end

section
variable {P : Program} {w0 : World} {L : Env} {h0 h : Heap} {R : List Item} {o : Oper} {K : Value → Heap → Prop}
end
end Go.Proofs.YtfhphkiggdepaaaDoor
