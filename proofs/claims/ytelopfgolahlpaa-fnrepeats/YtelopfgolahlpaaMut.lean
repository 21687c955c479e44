/-
  Functions that turn what they are handed: the things that they do not know are bundled into one; a row is taken out of its rows and put back; a field of an element is stored.
-/
import Derived.Test.YtelopfgolahlpaaVar
import Derived.Laws.StructEq
namespace Go.Proofs.Ytelopfgolahlpaa
open Go
variable {α : Type}

/-! ### many things as one -/
theorem All.app {h : Heap} : ∀ {xs : List Item} {As : List (List Nat)} {ys : List Item} {Bs : List (List Nat)}, All h xs As → All h ys Bs → All h (xs ++ ys) (As ++ Bs)
  | [], [], _, _, _, b => b
  | _ :: _, _ :: _, _, _, a, b => ⟨a.1, a.2.app b⟩
  | [], _ :: _, _, _, a, _ => a.elim
  | _ :: _, [], _, _, a, _ => a.elim
theorem All.split {h : Heap} : ∀ {xs : List Item} {ys : List Item} {Fs : List (List Nat)}, All h (xs ++ ys) Fs → ∃ As Bs, Fs = As ++ Bs ∧ All h xs As ∧ All h ys Bs
  | [], _, Fs, a => ⟨[], Fs, rfl, trivial, a⟩
  | x :: xs, ys, F :: Fs, a => by
    obtain ⟨As, Bs, rfl, a1, a2⟩ := All.split (xs := xs) a.2
    exact ⟨F :: As, Bs, rfl, ⟨a.1, a1⟩, a2⟩
  | _ :: _, _, [], a => a.elim
def maxBase : List Item → Nat
  | [] => 0
  | i :: is => max i.base (maxBase is)
theorem maxBase_le : ∀ {is : List Item} {i : Item}, i ∈ is → i.base ≤ maxBase is
  | j :: is, i, h => by
    rcases List.mem_cons.1 h with rfl | h
    · exact Nat.le_max_left _ _
    · exact Nat.le_trans (maxBase_le h) (Nat.le_max_right _ _)
theorem le_maxBase : ∀ {is : List Item} {n : Nat}, is.all (fun i => Nat.ble i.base n) = true → maxBase is ≤ n
  | [], n, _ => Nat.zero_le n
  | i :: is, n, h => by
    simp only [List.all_cons, Bool.and_eq_true] at h
    exact Nat.max_le.2 ⟨Nat.le_of_ble_eq_true h.1, le_maxBase h.2⟩
def bun (R : List Item) : Item := ⟨maxBase R, fun h F => ∃ Fs, All h R Fs ∧ F = Fs.flatten, fun {h h' F} e1 e2 ⟨Fs, a, hF⟩ => ⟨Fs, a.loc (fun i hi b hb => e1 b (Nat.lt_of_lt_of_le hb (maxBase_le hi))) (fun b hb => e2 b (by rw [hF]; exact hb)), hF⟩⟩
theorem Hold.bundle {h0 h : Heap} {S R : List Item} (H : Hold h0 h (S ++ R)) : Hold h0 h (S ++ [bun R]) := by
  obtain ⟨Fs, a, s⟩ := H.fs
  obtain ⟨As, Bs, rfl, a1, a2⟩ := a.split
  have hb := H.base
  rw [List.all_append, Bool.and_eq_true] at hb
  refine ⟨H.ext, ?_, As ++ [Bs.flatten], a1.app (ys := [bun R]) (Bs := [Bs.flatten]) ⟨⟨Bs, a2, rfl⟩, trivial⟩, by simpa using s⟩
  rw [List.all_append, Bool.and_eq_true]
  refine ⟨hb.1, ?_⟩
  simp only [List.all_cons, List.all_nil, Bool.and_true]
  exact Nat.ble_eq_true_of_le (le_maxBase hb.2)
theorem Hold.unbundle {h0 h : Heap} {S R : List Item} (H : Hold h0 h (S ++ [bun R])) (hR : R.all (fun i => Nat.ble i.base h0.size) = true) : Hold h0 h (S ++ R) := by
  obtain ⟨Fs, a, s⟩ := H.fs
  obtain ⟨As, Bs, rfl, a1, a2⟩ := a.split
  match Bs, a2 with
  | [F], ⟨⟨Gs, b1, hF⟩, _⟩ =>
    subst hF
    have hb := H.base
    rw [List.all_append, Bool.and_eq_true] at hb
    refine ⟨H.ext, ?_, As ++ Gs, a1.app b1, by simpa using s⟩
    rw [List.all_append, Bool.and_eq_true]
    exact ⟨hb.1, hR⟩
theorem Hold.tailBase {h0 h : Heap} {S R : List Item} (H : Hold h0 h (S ++ R)) : R.all (fun i => Nat.ble i.base h0.size) = true := by
  have hb := H.base
  rw [List.all_append, Bool.and_eq_true] at hb
  exact hb.2

/-! ### one row, taken out -/
section
variable {h0 h : Heap} {R : List Item}
/-- rows, but for number i, whose blocks are not among these -/
def rest (C : Cd α) (ty : Nat) (a : Option Addr) (n cap : Nat) (m : List (List α)) (i : Nat) (a' : Option Addr) (k' c' : Nat) : Item :=
  ⟨0, fun h F => m.length = n ∧ m.length ≤ 9223372036854775807 ∧ i < m.length ∧ ∃ (g : Nat) (cs : Array Value) (Fs : List (List Nat)), a = some ⟨g, 0, none⟩ ∧ h[g]? = some (.cells cs ty (0, 0)) ∧ cs.size = cap ∧ m.length ≤ cap ∧ cap ≤ maxLen ∧
      Fs.length = m.length ∧ F = g :: (Fs.take i).flatten ++ (Fs.drop (i + 1)).flatten ∧ cs[i]? = some (.slice a' k' c') ∧
      ∀ k x, m[k]? = some x → k ≠ i → ∃ b c Fx, Fs[k]? = some Fx ∧ Own C h b c x Fx ∧ cs[k]? = some (.slice b x.length c),
    fun {h h' F} _ e ⟨hn, hs, hi, g, cs, Fs, ha, hg, h1, h2, h3, h4, hF, h5, h6⟩ => ⟨hn, hs, hi, g, cs, Fs, ha, (e g (by rw [hF]; simp)).trans hg, h1, h2, h3, h4, hF, h5, fun k x hk hne => by
      obtain ⟨b, c, Fx, k1, k2, k3⟩ := h6 k x hk hne
      refine ⟨b, c, Fx, k1, k2.ext fun u hu => e u ?_, k3⟩
      rw [hF]
      simp only [List.cons_append, List.mem_cons, List.mem_append, List.mem_flatten]
      rcases Nat.lt_or_ge k i with hlt | hge
      · exact .inr (.inl ⟨Fx, List.mem_of_getElem? (i := k) (by rw [List.getElem?_take, if_pos hlt]; exact k1), hu⟩)
      · exact .inr (.inr ⟨Fx, List.mem_of_getElem? (i := k - (i + 1)) (by rw [List.getElem?_drop, show i + 1 + (k - (i + 1)) = k by omega]; exact k1), hu⟩)⟩⟩
end

/-! ### one cell of an element -/
/-! ### rows of which some are looked at, while others are added -/
abbrev Pk (α : Type) := Option Addr × Nat × List α
def PeekOK (h : Heap) (a : Option Addr) (l : List (List α)) (q : Pk α) : Prop := (∃ p, l[p]? = some q.2.2 ∧ cellH h (adr a (p * 1)) = some (.slice q.1 q.2.2.length q.2.1)) ∨ (q.1 = none ∧ q.2.1 = 0 ∧ q.2.2 = [])
def rowsQ (C : Cd α) (ty : Nat) (a : Option Addr) (n cap : Nat) (l : List (List α)) (qs : List (Pk α)) : Item :=
  ⟨0, fun h F => (Own (rowCd C ty) h a cap l F ∧ l.length = n) ∧ ∀ q ∈ qs, PeekOK h a l q, fun {h h' F} _ e ⟨⟨o, hn⟩, q⟩ => ⟨⟨o.ext e, hn⟩, fun p hp => by
    rcases q p hp with ⟨i, q1, q2⟩ | q
    · refine .inl ⟨i, q1, ?_⟩
      rcases o.cells with ⟨_, _, rfl, _⟩ | ⟨g, cs, Fs, rfl, hg, h1, h2, h3, rfl, n⟩
      · simp at q1
      · rw [adr_some, cellH] at q2 ⊢
        simp only [e g List.mem_cons_self]
        exact q2
    · exact .inr q⟩⟩
section
variable {h0 h : Heap} {R is : List Item}
theorem Hold.toQ {C : Cd α} {ty n cap : Nat} {a : Option Addr} {l : List (List α)} (H : Hold h0 h (own (rowCd C ty) a n cap l :: R)) : Hold h0 h (rowsQ C ty a n cap l [] :: R) := H.turn (j := rowsQ C ty a n cap l []) (fun _ p => ⟨p, by simp⟩) (Nat.zero_le _)
theorem Hold.ofQ {C : Cd α} {ty n cap : Nat} {a : Option Addr} {l : List (List α)} {qs : List (Pk α)} (H : Hold h0 h (rowsQ C ty a n cap l qs :: R)) : Hold h0 h (own (rowCd C ty) a n cap l :: R) := H.turn (j := own (rowCd C ty) a n cap l) (fun _ p => p.1) (Nat.zero_le _)
theorem Hold.pickQ {C : Cd α} {ty n cap : Nat} {a : Option Addr} {l : List (List α)} {qs : List (Pk α)} (H : Hold h0 h (rowsQ C ty a n cap l qs :: R)) (qs' : List (Pk α)) (hs : ∀ q ∈ qs', q ∈ qs) : Hold h0 h (rowsQ C ty a n cap l qs' :: R) := H.turn (j := rowsQ C ty a n cap l qs') (fun _ p => ⟨p.1, fun q hq => p.2 q (hs q hq)⟩) (Nat.zero_le _)
theorem Hold.nilPeek {C : Cd α} {ty n cap : Nat} {a : Option Addr} {l : List (List α)} {qs : List (Pk α)} (H : Hold h0 h (rowsQ C ty a n cap l qs :: R)) : Hold h0 h (rowsQ C ty a n cap l ((none, 0, []) :: qs) :: R) := H.turn (j := rowsQ C ty a n cap l ((none, 0, []) :: qs)) (fun _ p => ⟨p.1, fun q hq => by
  rcases List.mem_cons.1 hq with rfl | hq
  · exact .inr ⟨rfl, rfl, rfl⟩
  · exact p.2 q hq⟩) (Nat.zero_le _)
theorem Hold.peekRow {C : Cd α} {ty n cap : Nat} {a : Option Addr} {l : List (List α)} {qs : List (Pk α)} (H : Hold h0 h (rowsQ C ty a n cap l qs :: R)) {p : Nat} {x : List α} (hx : l[p]? = some x) :
    ∃ a' c', cellH h (adr a (p * 1)) = some (.slice a' x.length c') ∧ Hold h0 h (rowsQ C ty a n cap l ((a', c', x) :: qs) :: R) := by
  obtain ⟨F, ⟨o, q⟩, s, back⟩ := H.open
  obtain ⟨a', c', h1, h2⟩ := o.1.rd.row hx
  exact ⟨a', c', h1, back h (rowsQ C ty a n cap l ((a', c', x) :: qs)) F (Fr.refl _ _) ⟨o, fun r hr => by
    rcases List.mem_cons.1 hr with rfl | hr
    · exact .inl ⟨p, hx, h1⟩
    · exact q r hr⟩ s (fun b hb => .inl hb) (Nat.zero_le _)⟩
theorem Hold.rdQ {C : Cd α} {ty m cap : Nat} {a : Option Addr} {l : List (List α)} {qs : List (Pk α)} (H : Hold h0 h is) (n : Nat) (e : is[n]? = some (rowsQ C ty a m cap l qs)) : Rd (rowCd C ty) h (Lt h) a cap l :=
  let ⟨_, o, s⟩ := H.get n e
  o.1.1.rd.mono fun b hb => (s b hb).2
theorem Hold.rdPeek {C : Cd α} {ty m cap : Nat} {a : Option Addr} {l : List (List α)} {qs : List (Pk α)} (H : Hold h0 h is) (n : Nat) (e : is[n]? = some (rowsQ C ty a m cap l qs)) (i : Nat) {a' : Option Addr} {c' : Nat} {x : List α} (hm : qs[i]? = some (a', c', x)) : Rd C h (Lt h) a' c' x := by
  obtain ⟨F, ⟨o, q⟩, s⟩ := H.get n e
  rcases q _ (List.mem_of_getElem? hm) with ⟨p, q1, q2⟩ | ⟨_, _, q3⟩
  · obtain ⟨a1, c1, h1, h2⟩ := o.1.rd.row q1
    rw [q2] at h1
    simp only [Option.some.injEq, Value.slice.injEq, true_and] at h1
    obtain ⟨rfl, rfl⟩ := h1
    exact h2.mono fun b hb => (s b hb).2
  · have q3 : x = [] := q3
    subst q3
    exact Rd.nil C h _ _ _
end
section
variable {P : Program} {w0 : World} {L : Env} {h0 h : Heap} {R : List Item} {o : Oper} {K : Value → Heap → Prop}
/-- append to rows; what is looked at stays -/
theorem E_appQ {C : Cd α} {z : Value} {b t ty tr n m cap c2 : Nat} {a a2 : Option Addr} {l ys r : List (List α)} {qs : List (Pk α)} (H : Hold h0 h (rowsQ C tr a n cap l qs :: own (rowCd C tr) a2 m c2 ys :: R)) (hti : TI P (rowCd C tr).ty z (rowCd C tr).sz b) (hzc : z.cells.size = (rowCd C tr).sz) (ht : P.underlying t = some (.slice (rowCd C tr).ty)) (hb : b ≤ 64)
    (he : execOp (rho L) o = (do pure (.value (← Builtin.append_ #[t, t] ty #[.slice a n cap, .slice a2 m c2])))) (hr : l.length + ys.length ≤ 1099511627776 ∧ r = l ++ ys)
    (g : ∀ a' cap' h', Hold h0 h' (rowsQ C tr a' r.length cap' r qs :: R) → K (.slice a' r.length cap') h') : Eff P w0 L h o K := by
  obtain ⟨inf, i1, i2, i3, i4⟩ := hti.get
  obtain ⟨h1, rfl⟩ := hr
  refine E_run fun w hw => ?_
  have hw1 := hw.heap
  subst hw1
  obtain ⟨F, G, ⟨⟨p, hn⟩, pk⟩, ⟨q, hm⟩, s, u, d, back⟩ := H.open2
  subst hn
  subst hm
  have p : Own (rowCd C tr) w.heap a cap l F := p
  have q : Own (rowCd C tr) w.heap a2 c2 ys G := q
  have hbz : (l.length + ys.length) * inf.bytes ≤ 140737488355328 := by
    rw [i4]; exact Nat.le_trans (Nat.mul_le_mul h1 hb) (by decide)
  rcases q.cells with ⟨rfl, rfl, rfl, rfl⟩ | ⟨g2, cs, Gs, rfl, hg2, k1, k2, k3, rfl, en⟩
  · have hfit : l.length ≤ cap := (p.at s).fits
    have e0 : l ++ [] = l := List.append_nil l
    have g0 := g a cap w.heap (back w.heap (rowsQ C tr a (l ++ []).length cap (l ++ []) qs) F (Fr.refl _ _) (by rw [e0]; exact ⟨⟨p, rfl⟩, pk⟩) s (fun b hb => .inl hb) (Nat.zero_le _))
    rw [e0] at g0
    refine ⟨.slice a l.length cap, w, w.heap, .inl ?_, hw, g0⟩
    rw [he]
    rcases p.cells with ⟨rfl, rfl, rfl, _⟩ | ⟨g2, cs, Gs, rfl, _⟩
    · simp [Builtin.append_, run_underlying ht, sizeOf, typeInfo, i1, Builtin.lenOf, Builtin.firstCells]
    · simp [Builtin.append_, run_underlying ht, sizeOf, typeInfo, i1, Builtin.lenOf, Builtin.firstCells, hfit, storeCells]
  · have sG : Sep h0.size w.heap Gs.flatten := ⟨(List.nodup_cons.1 u.nodup).2, fun b hb => u.lo b (List.mem_cons_of_mem _ hb), fun b hb => u.hi b (List.mem_cons_of_mem _ hb)⟩
    have hcell : ∀ j v, (cs.toList.take (ys.length * (rowCd C tr).sz))[j]? = some v → w.cell? ((⟨g2, 0, none⟩ : Addr).add j) = some v := by
      intro j v hv
      have hadd : (⟨g2, 0, none⟩ : Addr).add j = ⟨g2, j, none⟩ := by unfold Addr.add; split <;> simp_all
      rw [hadd, cell_of_row w g2 j _ _ _ hg2]
      simpa using take_get hv
    obtain ⟨a', cap', F', w', r1, r2, r3, r4, r5, r6, r7⟩ := run_app (P := P) p s H.lo (ty := ty) ht i1 i2 i3 hzc en rfl hcell sG (fun b hb hg => d b hb (List.mem_cons_of_mem _ hg)) hbz (by omega) (c := c2)
    refine ⟨_, w', w'.heap, .inl (by rw [he]; simp [r1]), hw.str r5, g _ _ _ (back w'.heap (rowsQ C tr a' (l ++ ys).length cap' (l ++ ys) qs) F' (r4.weak fun b _ hb => List.mem_append.2 (.inl hb)) ⟨⟨r2, rfl⟩, fun x hx => ?_⟩ r3
      (fun b hb => by rcases r6 b hb with h | h | h; exact .inl h; exact .inr (.inl (List.mem_cons_of_mem _ h)); exact .inr (.inr h)) (Nat.zero_le _))⟩
    rcases pk x hx with ⟨i, q1, q2⟩ | q
    · have hi := (List.getElem?_eq_some_iff.1 q1).1
      exact .inl ⟨i, by rw [List.getElem?_append_left hi]; exact q1, r7 _ _ (by simp only [rowCd]; omega) q2⟩
    · exact .inr q
end
section
variable {P : Program} {w0 : World} {L : Env} {o : Oper}
end
/-! ### elements taken out, elements cleared -/
section
variable {P : Program} {w0 : World} {L : Env} {h0 h : Heap} {R : List Item} {o : Oper} {K : Value → Heap → Prop}
theorem put_get {xs news : List Value} {k q : Nat} (hk : k + news.length ≤ xs.length) : (xs.take k ++ news ++ xs.drop (k + news.length))[q]? = if q < k then xs[q]? else if q < k + news.length then news[q - k]? else xs[q]? := by
  have hl : (xs.take k).length = k := by rw [List.length_take]; omega
  by_cases h1 : q < k
  · rw [if_pos h1, List.append_assoc, List.getElem?_append_left (by omega), List.getElem?_take, if_pos h1]
  · rw [if_neg h1]
    by_cases h2 : q < k + news.length
    · rw [if_pos h2, List.append_assoc, List.getElem?_append_right (by omega), List.getElem?_append_left (by omega), hl]
    · rw [if_neg h2, List.getElem?_append_right (by rw [List.length_append]; omega), List.getElem?_drop, List.length_append, hl, show k + news.length + (q - (k + news.length)) = q by omega]
end
/-! ### slices of slices that are read -/
theorem Hold.trans0 {h0 h1 h2 : Heap} (H : Hold h0 h1 []) (G : Hold h1 h2 []) : Hold h0 h2 [] := ⟨H.ext.trans G.ext, rfl, [], trivial, Sep.nil _ _⟩
end Go.Proofs.Ytelopfgolahlpaa
