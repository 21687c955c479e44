/-
  Plain proofs: the plain program of the law ends with true.
  Conditions: None beyond the given statement.
-/
import Derived.Test.YtbemhgddkkggmaaP
namespace Go.Proofs.Ytbemhgddkkggmaa
open Go
/-! ### plain programs: loops over a list -/
namespace M
variable {α β σ ρ : Type}
/-- rounds over the elements of a list, each with its place; a round may leave -/
def run (g : Nat → α → σ → σ ⊕ ρ) (fin : σ → ρ) : Nat → List α → σ → ρ
  | _, [], s => fin s
  | i, x :: xs, s => match g i x s with
    | .inl s' => run g fin (i + 1) xs s'
    | .inr r => r
theorem Conv_forN {l : List α} {f : Int → σ → M (σ ⊕ ρ)} (g : Nat → α → σ → σ ⊕ ρ) (fin : σ → ρ) (I : Nat → σ → Prop) (hi : Int) :
    ∀ (xs : List α) (i : Nat) (s : σ), hi = (i + xs.length : Nat) → I i s → (∀ (j : Nat) x s, xs[j]? = some x → I (i + j) s → Conv (f (i + j : Nat) s) (g (i + j) x s) ∧ ∀ s', g (i + j) x s = .inl s' → I (i + j + 1) s') →
      ∃ N, ∀ n, N ≤ n → forN hi fin f n xs.length i s = some (run g fin i xs s)
  | [], i, s, hh, _, _ => ⟨0, fun n _ => by
      have : ¬ (i : Int) < hi := by rw [hh]; simp
      simp [forN, run, this]⟩
  | x :: xs, i, s, hh, h0, H => by
    have hlt : (i : Int) < hi := by rw [hh]; simp; omega
    obtain ⟨⟨N, hN⟩, hI⟩ := H 0 x s rfl h0
    simp only [Nat.add_zero] at hN hI
    cases hg : g i x s with
    | inl s' =>
      have hi' := hI s' hg
      obtain ⟨N', hN'⟩ := Conv_forN (l := l) g fin I hi xs (i + 1) s' (by rw [hh, List.length_cons]; congr 1; omega) hi' (fun j y s hy hIs => by
        have := H (j + 1) y s (by simpa using hy) (by rw [← Nat.add_assoc, Nat.add_right_comm]; exact hIs)
        rw [show i + (j + 1) = i + 1 + j by omega] at this
        exact this)
      refine ⟨max N N', fun n hn => ?_⟩
      have h1 := hN n (by omega)
      rw [hg] at h1
      simp only [List.length_cons, forN, hlt, decide_true, cond_true, h1, run, hg]
      have := hN' n (by omega)
      simpa using this
    | inr r =>
      refine ⟨N, fun n hn => ?_⟩
      have h1 := hN n hn
      rw [hg] at h1
      simp only [List.length_cons, forN, hlt, decide_true, cond_true, h1, run, hg]
/-- a loop over a list, with an invariant -/
theorem Conv_forI {l : List α} {f : Int → σ → M (σ ⊕ ρ)} {fin : σ → ρ} {s : σ} (g : Nat → α → σ → σ ⊕ ρ) (I : Nat → σ → Prop) (hl : l.length ≤ 9223372036854775807) (h0 : I 0 s)
    (H : ∀ (i : Nat) x s, l[i]? = some x → I i s → Conv (f i s) (g i x s) ∧ ∀ s', g i x s = .inl s' → I (i + 1) s') : Conv (forI 0 (l.length : Int) fin f s) (run g fin 0 l s) := by
  obtain ⟨N, hN⟩ := Conv_forN (l := l) (f := f) g fin I (l.length : Int) l 0 s (by simp) h0 (fun j x s hx hI => by simpa using H j x s hx (by simpa using hI))
  refine ⟨N, fun n hn => ?_⟩
  have h1 : (l.length : Int) ≤ 9223372036854775807 := by omega
  simp only [forI, h1, decide_true, Bool.and_true, show (-9223372036854775808 : Int) ≤ 0 by decide, cond_true]
  have := hN n hn
  simpa using this
/-- .. without one -/
theorem Conv_forL {l : List α} {f : Int → σ → M (σ ⊕ ρ)} {fin : σ → ρ} {s : σ} (g : Nat → α → σ → σ ⊕ ρ) (hl : l.length ≤ 9223372036854775807)
    (H : ∀ (i : Nat) x s, l[i]? = some x → Conv (f i s) (g i x s)) : Conv (forI 0 (l.length : Int) fin f s) (run g fin 0 l s) :=
  Conv_forI g (fun _ _ => True) hl trivial fun i x s hx _ => ⟨H i x s hx, fun _ _ => trivial⟩
theorem Conv.of {m : M α} {r r' : α} (h : Conv m r) (e : r = r') : Conv m r' := e ▸ h
theorem Conv_ite {b : Bool} {x y : M α} {r : α} (h1 : b = true → Conv x r) (h2 : b = false → Conv y r) : Conv (ite b x y) r := by
  cases b
  · exact h2 rfl
  · exact h1 rfl
theorem Conv_ite2 {b : Bool} {x y : M α} {r s : α} (h1 : b = true → Conv x r) (h2 : b = false → Conv y s) : Conv (ite b x y) (bif b then r else s) := by
  cases b
  · exact h2 rfl
  · exact h1 rfl
theorem Conv_guard {b : Bool} (h : b = true) : Conv (guard b) () := ⟨0, fun _ _ => by simp [guard, h]⟩
theorem Conv_upd {l : List α} {i : Nat} {x : α} (h : i < l.length) : Conv (upd l i x) (l.set i x) := ⟨0, fun _ _ => by simp [upd, h]⟩
theorem Conv_get {l : List α} {i : Int} {x : α} (h0 : 0 ≤ i) (h : l[i.toNat]? = some x) : Conv (idx l i) x := ⟨0, fun _ _ => by simp [idx, h0, h]⟩
/-- a value told in both ways of a test, then the rest -/
theorem Conv_bite {b : Bool} {x y : M α} {f : α → M β} {u v : α} {r : β} (h1 : b = true → Conv x u) (h2 : b = false → Conv y v) (g : Conv (f (bif b then u else v)) r) : Conv (bind (ite b x y) f) r :=
  Conv_bind (Conv_ite2 h1 h2) g

/-! searches: a loop that leaves at the first element of a kind -/
theorem run_all (p : α → Bool) (u : Unit ⊕ ρ) : ∀ (i : Nat) (l : List α), run (ρ := Unit ⊕ ρ) (fun _ x _ => bif p x then .inl () else .inr u) (fun s => .inl s) i l () = bif l.all p then .inl () else u
  | _, [] => rfl
  | i, x :: xs => by
    simp only [run, List.all_cons]
    cases p x
    · rfl
    · simpa using run_all p u (i + 1) xs
/-- 'for .. if not p x, return v' -/
theorem Conv_all {l : List α} {f : Int → Unit → M (Unit ⊕ (Unit ⊕ ρ))} (p : α → Bool) (v : ρ) (hl : l.length ≤ 9223372036854775807) (H : ∀ (i : Nat) x, l[i]? = some x → Conv (f i ()) (bif p x then .inl () else .inr (.inr v))) :
    Conv (forI 0 (l.length : Int) (fun s => .inl s) f ()) (bif l.all p then .inl () else .inr v) :=
  (Conv_forL (fun _ x _ => bif p x then .inl () else .inr (.inr v)) hl fun i x _ hx => H i x hx).of (run_all p (.inr v) 0 l)
/-- the same, where the element's place matters to the test -/
theorem run_allI (p : Nat → α → Bool) (u : Unit ⊕ ρ) : ∀ (i : Nat) (l : List α), run (ρ := Unit ⊕ ρ) (fun j x _ => bif p j x then .inl () else .inr u) (fun s => .inl s) i l () = bif (l.zipIdx i).all (fun q => p q.2 q.1) then .inl () else u
  | _, [] => rfl
  | i, x :: xs => by
    simp only [run, List.zipIdx_cons, List.all_cons]
    cases p i x
    · rfl
    · simpa using run_allI p u (i + 1) xs
theorem Conv_allI {l : List α} {f : Int → Unit → M (Unit ⊕ (Unit ⊕ ρ))} (p : Nat → α → Bool) (v : ρ) (hl : l.length ≤ 9223372036854775807) (H : ∀ (i : Nat) x, l[i]? = some x → Conv (f i ()) (bif p i x then .inl () else .inr (.inr v))) :
    Conv (forI 0 (l.length : Int) (fun s => .inl s) f ()) (bif (l.zipIdx 0).all (fun q => p q.2 q.1) then .inl () else .inr v) :=
  (Conv_forL (fun j x _ => bif p j x then .inl () else .inr (.inr v)) hl fun i x _ hx => H i x hx).of (run_allI p (.inr v) 0 l)
/-- 'for i .. if p x, return i' -/
theorem run_find (p : α → Bool) : ∀ (i : Nat) (l : List α), run (σ := Unit) (ρ := Unit ⊕ Int) (fun j x _ => bif p x then .inr (.inr (j : Int)) else .inl ()) (fun s => .inl s) i l () = match l.findIdx? p with
    | some j => .inr ((i + j : Nat) : Int)
    | none => .inl ()
  | _, [] => rfl
  | i, x :: xs => by
    simp only [run, List.findIdx?_cons]
    cases hp : p x
    · simp only [cond_false, run_find p (i + 1) xs, Bool.false_eq_true, if_false]
      cases xs.findIdx? p with
      | none => rfl
      | some j => simp only [Option.map_some]; congr 2; omega
    · simp
theorem Conv_find {l : List α} {f : Int → Unit → M (Unit ⊕ (Unit ⊕ Int))} (p : α → Bool) (hl : l.length ≤ 9223372036854775807) (H : ∀ (i : Nat) x, l[i]? = some x → Conv (f i ()) (bif p x then .inr (.inr (i : Int)) else .inl ())) :
    Conv (forI 0 (l.length : Int) (fun s => .inl s) f ()) (match l.findIdx? p with | some j => .inr (j : Int) | none => .inl ()) :=
  (Conv_forL (fun j x _ => bif p x then .inr (.inr (j : Int)) else .inl ()) hl fun i x _ hx => H i x hx).of (by rw [run_find]; simp)
/-- sums: each round turns what has been gathered -/
theorem run_fold (g : σ → α → σ) : ∀ (i : Nat) (l : List α) (s : σ), run (fun _ x s => .inl (g s x)) (fun s => s) i l s = l.foldl g s
  | _, [], _ => rfl
  | i, x :: xs, s => by simpa [run] using run_fold g (i + 1) xs (g s x)
theorem Conv_fold {l : List α} {f : Int → σ → M (σ ⊕ σ)} {s : σ} (g : σ → α → σ) (hl : l.length ≤ 9223372036854775807) (H : ∀ (i : Nat) x s, l[i]? = some x → Conv (f i s) (.inl (g s x))) :
    Conv (forI 0 (l.length : Int) (fun s => s) f s) (l.foldl g s) :=
  (Conv_forL (fun _ x s => .inl (g s x)) hl fun i x s hx => H i x s hx).of (run_fold g 0 l s)
theorem get_set_append {l r : List α} {x y : α} : (l ++ y :: r).set l.length x = l ++ x :: r := by simp
/-- a loop that fills a list of the same length, element by element -/
theorem run_fill (g : Nat → α → β) (z : β) : ∀ (i : Nat) (l : List α) (d : List β), d.length = i →
    run (fun j x s => .inl (s.set j (g j x))) (fun s => s) i l (d ++ List.replicate l.length z) = d ++ (l.zipIdx i).map (fun q => g q.2 q.1)
  | _, [], d, _ => by simp [run]
  | i, x :: xs, d, hd => by
    subst hd
    simp only [run, List.length_cons, List.replicate_succ, get_set_append]
    have := run_fill g z (d.length + 1) xs (d ++ [g d.length x]) (by simp)
    simp only [List.append_assoc, List.singleton_append] at this
    rw [this]
    simp
theorem Conv_fill {l : List α} {f : Int → List β → M (List β ⊕ List β)} (g : Nat → α → β) (z : β) (hl : l.length ≤ 9223372036854775807)
    (H : ∀ (i : Nat) x s, l[i]? = some x → s.length = l.length → Conv (f i s) (.inl (s.set i (g i x)))) :
    Conv (forI 0 (l.length : Int) (fun s => s) f (List.replicate l.length z)) ((l.zipIdx 0).map (fun q => g q.2 q.1)) := by
  refine (Conv_forI (fun j x s => .inl (s.set j (g j x))) (fun _ s => s.length = l.length) hl (by simp) fun i x s hx hI => ⟨H i x s hx hI, fun s' e => ?_⟩).of ?_
  · cases e; simpa using hI
  · simpa using run_fill g z 0 l [] rfl
theorem zipIdx_map_fst {l : List α} {g : α → β} {i : Nat} : ((l.zipIdx i).map fun q => g q.1) = l.map g := by
  have h : List.map (g ∘ Prod.fst) (l.zipIdx i) = List.map g l := by rw [← List.map_map, List.zipIdx_map_fst]
  exact h
theorem findIdx_any {l : List α} {p : α → Bool} : (decide ((0:Int) ≤ match l.findIdx? p with | some j => (j : Int) | none => -1)) = l.any p := by
  cases h : l.findIdx? p with
  | none => rw [List.findIdx?_eq_none_iff] at h; simp; exact fun x hx => by simpa using h x hx
  | some j =>
    obtain ⟨hj, hp, _⟩ := List.findIdx?_eq_some_iff_getElem.1 h
    simp
    exact ⟨_, List.getElem_mem hj, hp⟩
end M
def finB (x : Int) : Bool := decide (-1000000 ≤ x) && decide (x ≤ 1000000)
def valB (x : Int) : Bool := x == (-1000000000000000) || finB x
theorem spec_l01In_ok (x lo hi : Int) : M.Conv (spec_l01In x lo hi) (decide (lo ≤ x) && decide (x ≤ hi)) := M.Conv_ret _
theorem impl_within_ok (x lo hi : Int) : M.Conv (impl_within x lo hi) (decide (lo ≤ x) && decide (x ≤ hi)) := M.Conv_ret _
/-- 'slices.ContainsFunc', behind 'slices.IndexFunc' -/
theorem contains_ok {α : Type} {l : List α} {f : Int → Unit → M (Unit ⊕ (Unit ⊕ Int))} (p : α → Bool) (hl : l.length ≤ 9223372036854775807) (H : ∀ (i : Nat) x, l[i]? = some x → M.Conv (f i ()) (bif p x then .inr (.inr (i : Int)) else .inl ())) :
    M.Conv (M.bind (M.bind (M.forI 0 (l.length : Int) (fun s => .inl s) f ()) (fun x1 => M.cont x1 (fun _ => M.ret (-1)) (fun r => M.ret r))) (fun x1 => M.ret (decide (0 ≤ x1)))) (l.any p) := by
  rw [← M.findIdx_any]
  refine M.Conv_bind (M.Conv_bind (M.Conv_find p hl H) ?_) (M.Conv_ret _)
  cases l.findIdx? p <;> exact M.Conv_ret _
theorem any_not {α : Type} {l : List α} {p : α → Bool} : (!l.any fun x => !p x) = l.all p := by
  induction l with
  | nil => rfl
  | cons x xs ih => simp only [List.any_cons, List.all_cons, Bool.not_or, Bool.not_not, ih]
theorem mx_eq (a b : Int) : mx a b = max a b := by unfold mx; split <;> omega
/-- marks: element i becomes e (k + w * i) -/
theorem Conv_mark {α : Type} {l : List α} {f : Int → List α × Int → M ((List α × Int) ⊕ (List α × Int))} (w : Int) (e : Int → α) (k : Int) (hl : l.length ≤ 9223372036854775807)
    (H : ∀ (i : Nat) (s : List α), i < l.length → s.length = l.length → M.Conv (f i (s, k + w * i)) (.inl (s.set i (e (k + w * i)), k + w * (i + 1)))) :
    M.Conv (M.forI 0 (l.length : Int) (fun s => s) f (l, k)) ((List.range l.length).map (fun (i : Nat) => e (k + w * i)), k + w * l.length) := by
  refine (M.Conv_forI (l := l) (fun i _ s => .inl (s.1.set i (e (k + w * i)), k + w * (i + 1))) (fun i s => s.1.length = l.length ∧ s.2 = k + w * i) hl ⟨rfl, by simp⟩ fun i x s hx hI => ?_).of ?_
  · obtain ⟨s, q⟩ := s
    obtain ⟨h1, h2⟩ := hI
    simp only at h1 h2
    subst h2
    refine ⟨H i s (List.getElem?_eq_some_iff.1 hx).1 h1, fun s' es => ?_⟩
    cases es
    exact ⟨by simpa using h1, by simp⟩
  · have key : ∀ (xs : List α) (i : Nat) (d : List α), d.length = i → M.run (ρ := List α × Int) (fun i _ s => .inl (s.1.set i (e (k + w * i)), k + w * ((i : Int) + 1))) (fun s => s) i xs (d ++ xs, k + w * i) = (d ++ (List.range xs.length).map (fun (j : Nat) => e (k + w * (i + j : Nat))), k + w * (i + xs.length : Nat)) := by
      intro xs
      induction xs with
      | nil => intro i d hd; simp [M.run]
      | cons x xs ih =>
        intro i d hd
        subst hd
        simp only [M.run]
        have := ih (d.length + 1) (d ++ [e (k + w * d.length)]) (by simp)
        rw [show (d ++ x :: xs).set d.length (e (k + w * d.length)) = d ++ [e (k + w * d.length)] ++ xs by simp]
        rw [show ((d.length : Int) + 1) = ((d.length + 1 : Nat) : Int) by omega, this]
        simp only [List.length_cons, List.range_succ_eq_map, List.map_cons, List.map_map, List.append_assoc, List.singleton_append, Prod.mk.injEq, List.append_cancel_left_eq, List.cons.injEq]
        refine ⟨⟨by simp, List.map_congr_left fun j _ => ?_⟩, by congr 2; omega⟩
        simp only [Function.comp]
        congr 3; omega
    have := key l 0 [] rfl
    simpa using this
theorem Conv_held {α : Type} {l : List α} {f : Int → Int → M (Int ⊕ (Int ⊕ Int))} (w k : Int) (hl : l.length ≤ 9223372036854775807) (H : ∀ (i : Nat) x, l[i]? = some x → M.Conv (f i (k + w * i)) (.inl (k + w * (i + 1)))) :
    M.Conv (M.forI 0 (l.length : Int) (fun s => .inl s) f k) (.inl (k + w * l.length)) := by
  refine (M.Conv_forI (l := l) (fun i _ _ => .inl (k + w * (i + 1))) (fun i s => s = k + w * i) hl (by simp) fun i x s hx hI => ?_).of ?_
  · subst hI
    exact ⟨H i x hx, fun s' es => by cases es; simp⟩
  · have key : ∀ (xs : List α) (i : Nat), M.run (σ := Int) (ρ := Int ⊕ Int) (fun i _ _ => .inl (k + w * ((i : Int) + 1))) (fun s => .inl s) i xs (k + w * i) = .inl (k + w * (i + xs.length : Nat)) := by
      intro xs
      induction xs with
      | nil => intro i; simp [M.run]
      | cons x xs ih =>
        intro i
        simp only [M.run, List.length_cons]
        rw [show ((i : Int) + 1) = ((i + 1 : Nat) : Int) by omega, ih (i + 1)]
        congr 3; omega
    have := key l 0
    simpa using this
theorem finB_bd {x : Int} (h : finB x = true) : -1000000 ≤ x ∧ x ≤ 1000000 := by simpa [finB] using h
theorem val_ne {x : Int} (h : valB x = true) (hn : (x == (-1000000000000000)) = false) : finB x = true := by simpa [valB, hn] using h
/-- an index below k, whose coefficient is finite -/
def termB (c : List Int) (k : Nat) (t : Int) : Prop := 0 ≤ t ∧ t < k ∧ ∃ x, c[t.toNat]? = some x ∧ finB x = true
/-- two programs, one answer -/
def Two {α : Type} (m m' : M α) (Post : α → Prop) : Prop := ∃ r, M.Conv m r ∧ M.Conv m' r ∧ Post r
theorem Two.mk {α : Type} {m m' : M α} {Post : α → Prop} {r : α} (h : M.Conv m r) (h' : M.Conv m' r) (p : Post r) : Two m m' Post := ⟨r, h, h', p⟩
theorem Two.ret {α : Type} {Post : α → Prop} (r : α) (p : Post r) : Two (M.ret r) (M.ret r) Post := ⟨r, M.Conv_ret _, M.Conv_ret _, p⟩
theorem Two.bind {α β : Type} {m m' : M α} {f f' : α → M β} {P : α → Prop} {Q : β → Prop} (h : Two m m' P) (g : ∀ x, P x → Two (f x) (f' x) Q) : Two (M.bind m f) (M.bind m' f') Q := by
  obtain ⟨x, h1, h2, p⟩ := h
  obtain ⟨r, g1, g2, q⟩ := g x p
  exact ⟨r, M.Conv_bind h1 g1, M.Conv_bind h2 g2, q⟩
theorem Two.left {α β : Type} {m : M α} {m' : M β} {f : α → M β} {Q : β → Prop} {x : α} (h : M.Conv m x) (g : Two (f x) m' Q) : Two (M.bind m f) m' Q := by
  obtain ⟨r, g1, g2, q⟩ := g
  exact ⟨r, M.Conv_bind h g1, g2, q⟩
theorem Two.right {α β : Type} {m : M α} {m' : M β} {f : α → M β} {Q : β → Prop} {x : α} (h : M.Conv m x) (g : Two m' (f x) Q) : Two m' (M.bind m f) Q := by
  obtain ⟨r, g1, g2, q⟩ := g
  exact ⟨r, g1, M.Conv_bind h g2, q⟩
theorem Two.ite {α : Type} {b : Bool} {x y x' y' : M α} {Q : α → Prop} (h1 : b = true → Two x x' Q) (h2 : b = false → Two y y' Q) : Two (M.ite b x y) (M.ite b x' y') Q := by
  cases b
  · exact h2 rfl
  · exact h1 rfl
theorem Two.iteL {α : Type} {b : Bool} {x y m' : M α} {Q : α → Prop} (h1 : b = true → Two x m' Q) (h2 : b = false → Two y m' Q) : Two (M.ite b x y) m' Q := by
  cases b
  · exact h2 rfl
  · exact h1 rfl
theorem Two.iteR {α : Type} {b : Bool} {x y m' : M α} {Q : α → Prop} (h1 : b = true → Two m' x Q) (h2 : b = false → Two m' y Q) : Two m' (M.ite b x y) Q := by
  cases b
  · exact h2 rfl
  · exact h1 rfl
theorem two_forN {σ ρ : Type} {hi : Int} {fin : σ → ρ} {f f' : Int → σ → M (σ ⊕ ρ)} {Post : ρ → Prop} (I : Int → σ → Prop) (lo : Int)
    (round : ∀ i s, lo ≤ i → i < hi → I i s → Two (f i s) (f' i s) fun y => (∃ s', y = .inl s' ∧ I (i + 1) s') ∨ (∃ r, y = .inr r ∧ Post r)) :
    ∀ (d : Nat) (i : Int) (s : σ), (hi - i).toNat = d → lo ≤ i → (i ≤ hi ∨ i = lo) → I i s → (∀ i s, (i = hi ∨ i = lo ∧ hi ≤ lo) → I i s → Post (fin s)) → ∃ r, (∃ N, ∀ n, N ≤ n → M.forN hi fin f n d i s = some r) ∧ (∃ N, ∀ n, N ≤ n → M.forN hi fin f' n d i s = some r) ∧ Post r
  | 0, i, s, hd, h1, h2, hI, fi => by
    have hge : ¬ i < hi := by omega
    exact ⟨fin s, ⟨0, fun n _ => by simp [M.forN, hge]⟩, ⟨0, fun n _ => by simp [M.forN, hge]⟩, fi i s (by omega) hI⟩
  | d + 1, i, s, hd, h1, h2, hI, fi => by
    have hlt : i < hi := by omega
    obtain ⟨y, ⟨N, hy⟩, ⟨N', hy'⟩, hc⟩ := round i s h1 hlt hI
    rcases hc with ⟨s', rfl, hI'⟩ | ⟨r, rfl, hp⟩
    · obtain ⟨r, ⟨N1, h3⟩, ⟨N2, h4⟩, hp⟩ := two_forN (fin := fin) I lo round d (i + 1) s' (by omega) (by omega) (by omega) hI' fi
      exact ⟨r, ⟨max N N1, fun n hn => by simp [M.forN, hlt, hy n (by omega), h3 n (by omega)]⟩, ⟨max N' N2, fun n hn => by simp [M.forN, hlt, hy' n (by omega), h4 n (by omega)]⟩, hp⟩
    · exact ⟨r, ⟨N, fun n hn => by simp [M.forN, hlt, hy n hn]⟩, ⟨N', fun n hn => by simp [M.forN, hlt, hy' n hn]⟩, hp⟩
theorem Two.for {σ ρ : Type} {lo hi : Int} {fin : σ → ρ} {f f' : Int → σ → M (σ ⊕ ρ)} {s : σ} {Post : ρ → Prop} (I : Int → σ → Prop) (hlo : -9223372036854775808 ≤ lo) (hhi : hi ≤ 9223372036854775807) (h0 : I lo s)
    (round : ∀ i s, lo ≤ i → i < hi → I i s → Two (f i s) (f' i s) fun y => (∃ s', y = .inl s' ∧ I (i + 1) s') ∨ (∃ r, y = .inr r ∧ Post r)) (done : ∀ i s, (i = hi ∨ i = lo ∧ hi ≤ lo) → I i s → Post (fin s)) :
    Two (M.forI lo hi fin f s) (M.forI lo hi fin f' s) Post := by
  obtain ⟨r, ⟨N, h1⟩, ⟨N', h2⟩, hp⟩ := two_forN (fin := fin) I lo round _ lo s rfl (Int.le_refl _) (.inr rfl) h0 done
  exact ⟨r, ⟨N, fun n hn => by simp [M.forI, hlo, hhi, h1 n hn]⟩, ⟨N', fun n hn => by simp [M.forI, hlo, hhi, h2 n hn]⟩, hp⟩
def timesI (a b : Int) : Int := bif (a == (-1000000000000000)) || (b == (-1000000000000000)) then (-1000000000000000) else w64 (a + b)
def okTPlace (p : TPlace) : Prop := inI64 p.From ∧ inI64 p.To ∧ inI64 p.Delay ∧ inI64 p.Tokens
def okTGraph (g : TGraph) : Prop := inI64 g.Events ∧ fitL okTPlace g.Places
def smP (l : List TPlace) : Prop := l.length ≤ 1099511627
def smG (g : TGraph) : Prop := smP g.Places
theorem szG_ok {g : TGraph} (h : okTGraph g) : ∃ z, M.Conv (laws_szEventGraph g 1048576) z ∧ (decide (z < 0) = false → smG g) := by
  have hl := h.2.1
  unfold laws_szEventGraph laws_szPlaceS
  have e : w64 (1048576 - (g.Places.length : Int)) = 1048576 - g.Places.length := w64_eq _ (by omega)
  rw [e]
  by_cases h1 : (1048576 : Int) - g.Places.length < 0
  · refine ⟨-1, M.Conv_bind (x := -1) (M.Conv_ite (fun _ => M.Conv_ret _) (fun q => by have := of_decide_eq_false q; omega)) (M.Conv_ite (fun _ => M.Conv_ret _) (fun q => by simp at q)), fun q => by simp at q⟩
  · refine ⟨1048576 - (g.Places.length : Int), M.Conv_bind (x := 1048576 - (g.Places.length : Int)) (M.Conv_ite (fun q => absurd (of_decide_eq_true q) h1) (fun _ => M.Conv_ret _)) (M.Conv_ite (fun q => absurd (of_decide_eq_true q) h1) (fun _ => M.Conv_ret _)), fun _ => ?_⟩
    simp only [smG, smP]; omega
theorem toPlace_ok {p : TPlace} : M.Conv (laws_toPlace p) p := M.Conv_ret _
theorem toPlaceS_ok {a : List TPlace} (h : smP a) : M.Conv (laws_toPlaceS a) a := by
  unfold smP at h
  unfold laws_toPlaceS
  refine M.Conv_bind (M.Conv_make (by omega) (by omega)) ?_
  refine M.Conv_bind (x := a) (((M.Conv_fill (l := a) (f := _) (fun _ x => x) _ (by omega) fun i x s hx hs => ?_)).of ?_) (M.Conv_ret _)
  · have hi := (List.getElem?_eq_some_iff.1 hx).1
    refine M.Conv_bind (M.Conv_get (by omega) (by simpa using hx)) (M.Conv_bind toPlace_ok ?_)
    refine M.Conv_bind (M.Conv_get (x := s[i]) (by omega) (by simp [show i < s.length by omega])) ?_
    exact M.Conv_bind (M.Conv_upd (by omega)) (M.Conv_ret _)
  · exact M.zipIdx_map_fst.trans (List.map_id' _)
theorem toG_ok {g : TGraph} (h : smG g) : M.Conv (laws_toEventGraph g) g := M.Conv_bind (toPlaceS_ok h) (M.Conv_ret _)
theorem eqPlace_refl {p : TPlace} : M.Conv (laws_eqPlace p p) true := by
  unfold laws_eqPlace
  refine M.Conv_ite (fun q => by simp at q) (fun _ => M.Conv_ite (fun q => by simp at q) (fun _ => M.Conv_ite (fun q => by simp at q) (fun _ => M.Conv_ite (fun q => by simp at q) (fun _ => M.Conv_ret _))))
theorem eqPlaceS_refl {a : List TPlace} (h : smP a) : M.Conv (laws_eqPlaceS a a) true := by
  unfold smP at h
  unfold laws_eqPlaceS
  refine M.Conv_ite (fun q => by simp at q) (fun _ => M.Conv_bind (M.Conv_all (fun _ => true) false (by omega) fun i x hx => ?_) ?_)
  case refine_2 => rw [show (a.all fun _ => true) = true by simp]; exact M.Conv_ret _
  have hg : M.Conv (M.idx a i) x := M.Conv_get (by omega) (by simpa using hx)
  exact M.Conv_bind hg (M.Conv_bind hg (M.Conv_bind eqPlace_refl (M.Conv_ite (fun q => by simp at q) (fun _ => M.Conv_ret _))))
theorem eqG_refl {g : TGraph} (h : smG g) : M.Conv (laws_eqEventGraph g g) true := by
  unfold laws_eqEventGraph
  refine M.Conv_ite (fun q => by simp at q) (fun _ => M.Conv_bind (eqPlaceS_refl h) (M.Conv_ite (fun q => by simp at q) (fun _ => M.Conv_ret _)))
theorem Conv_and {b v : Bool} {m : M Bool} (h : b = true → M.Conv m v) : M.Conv (M.ite b (M.bind m (fun x => M.ret x)) (M.ret false)) (b && v) := by
  refine M.Conv_ite (fun q => ?_) (fun q => ?_)
  · rw [q]; exact M.Conv_bind (h q) (M.Conv_ret _)
  · rw [q]; exact M.Conv_ret _
def inB (x lo hi : Int) : Bool := decide (lo ≤ x) && decide (x ≤ hi)
def placeB (e : Int) (p : TPlace) : Bool := ((inB p.From 0 (w64 (e - 1)) && inB p.To 0 (w64 (e - 1))) && inB p.Delay 0 1000) && inB p.Tokens 0 5
theorem spec_l11Place_ok (p : TPlace) (e : Int) : M.Conv (spec_l11Place p e) (placeB e p) :=
  M.Conv_bind (spec_l01In_ok _ _ _) (M.Conv_bind (Conv_and fun _ => spec_l01In_ok _ _ _) (M.Conv_bind (Conv_and fun _ => spec_l01In_ok _ _ _) (M.Conv_bind (Conv_and fun _ => spec_l01In_ok _ _ _) (M.Conv_ret _))))
theorem impl_isEvent_ok (g : TGraph) (e : Int) : M.Conv (impl_isEvent g e) (inB e 0 (w64 (g.Events - 1))) := M.Conv_bind (impl_within_ok _ _ _) (M.Conv_ret _)
theorem impl_isPlace_ok (g : TGraph) (p : TPlace) : M.Conv (impl_isPlace g p) (placeB g.Events p) :=
  M.Conv_bind (impl_isEvent_ok _ _) (M.Conv_bind (Conv_and fun _ => impl_isEvent_ok _ _) (M.Conv_bind (Conv_and fun _ => impl_within_ok _ _ _) (M.Conv_bind (Conv_and fun _ => impl_within_ok _ _ _) (M.Conv_ret _))))
def graphB (g : TGraph) : Bool := (inB g.Events 1 10 && decide (g.Places.length ≤ 30)) && g.Places.all (placeB g.Events)
/-- 'for i < len(l)', the counter a variable; a round may leave -/
def runO {α ρ : Type} (g : Nat → α → Option ρ) (e : ρ) : Nat → List α → ρ
  | _, [] => e
  | i, x :: xs => match g i x with | none => runO g e (i + 1) xs | some r => r
theorem Conv_while {α ρ : Type} {l : List α} {f : Int → M (Int ⊕ ρ)} (g : Nat → α → Option ρ) (e : ρ) (step : ∀ (i : Nat) x, l[i]? = some x → M.Conv (f i) (match g i x with | none => .inl ((i : Int) + 1) | some r => .inr r)) (stop : M.Conv (f (l.length : Int)) (.inr e)) :
    M.Conv (M.loop f 0) (runO g e 0 l) := by
  have key : ∀ (xs : List α) (i : Nat), (∀ (j : Nat) x, xs[j]? = some x → M.Conv (f (i + j : Nat)) (match g (i + j) x with | none => .inl (((i + j : Nat) : Int) + 1) | some r => .inr r)) → M.Conv (f (i + xs.length : Nat)) (.inr e) →
      ∃ N m0, ∀ n, N ≤ n → ∀ m, m0 ≤ m → M.loopN f n m (i : Int) = some (runO g e i xs) := by
    intro xs
    induction xs with
    | nil =>
      intro i _ ⟨N, h⟩
      refine ⟨N, 1, fun n hn m hm => ?_⟩
      obtain ⟨m, rfl⟩ : ∃ q, m = q + 1 := ⟨m - 1, by omega⟩
      have := h n hn
      simp only [List.length_nil, Nat.add_zero] at this
      simp [M.loopN, this, runO]
    | cons x xs ih =>
      intro i hs hst
      obtain ⟨N, h⟩ := hs 0 x rfl
      simp only [Nat.add_zero] at h
      cases hg : g i x with
      | none =>
        obtain ⟨N', m0, h'⟩ := ih (i + 1) (fun j y hy => by have := hs (j + 1) y (by simpa using hy); rw [show i + (j + 1) = i + 1 + j by omega] at this; exact this) (by rw [show i + 1 + xs.length = i + (x :: xs).length by simp; omega]; exact hst)
        refine ⟨max N N', m0 + 1, fun n hn m hm => ?_⟩
        obtain ⟨m, rfl⟩ : ∃ q, m = q + 1 := ⟨m - 1, by omega⟩
        have h1 := h n (by omega)
        rw [hg] at h1
        simp only [M.loopN, h1, runO, hg]
        exact h' n (by omega) m (by omega)
      | some r =>
        refine ⟨N, 1, fun n hn m hm => ?_⟩
        obtain ⟨m, rfl⟩ : ∃ q, m = q + 1 := ⟨m - 1, by omega⟩
        have h1 := h n hn
        rw [hg] at h1
        simp only [M.loopN, h1, runO, hg]
  obtain ⟨N, m0, h⟩ := key l 0 (fun j x hx => by simpa using step j x hx) (by simpa using stop)
  exact ⟨max N m0, fun n hn => h n (by omega) n (by omega)⟩
theorem runO_all {α ρ : Type} (p : α → Bool) (r e : ρ) : ∀ (l : List α) (i : Nat), runO (fun _ x => bif p x then none else some r) e i l = bif l.all p then e else r
  | [], _ => rfl
  | x :: xs, i => by
    simp only [runO, List.all_cons]
    cases p x with
    | true => simpa using runO_all p r e xs (i + 1)
    | false => rfl
theorem spec_IsEventGraph_ok {g : TGraph} (hl : g.Places.length ≤ 9223372036854775806) : M.Conv (spec_IsEventGraph g) (graphB g) := by
  unfold spec_IsEventGraph
  refine M.Conv_bind ((Conv_while (l := g.Places) (fun _ p => bif placeB g.Events p then none else some (.inr false)) (.inl (g.Places.length : Int)) (fun i p hp => ?_) ?_).of (runO_all _ _ _ _ _)) ?_
  · have hi := (List.getElem?_eq_some_iff.1 hp).1
    refine M.Conv_ite (fun _ => M.Conv_bind (M.Conv_get (by omega) (by simpa using hp)) (M.Conv_bind (spec_l11Place_ok _ _) (M.Conv_ite (fun q => ?_) (fun q => ?_)))) (fun q => by have := of_decide_eq_false q; omega)
    · simp only [Bool.not_eq_true'] at q; rw [q]; exact M.Conv_ret _
    · simp only [Bool.not_eq_false'] at q; rw [q]; exact (M.Conv_ret _).of (by rw [w64_eq _ (by omega)]; rfl)
  · exact M.Conv_ite (fun q => by have := of_decide_eq_true q; omega) (fun _ => M.Conv_ret _)
  · cases hb : g.Places.all (placeB g.Events) with
    | false => exact (M.Conv_ret _).of (by simp [graphB, hb])
    | true =>
      show M.Conv (M.bind (spec_l01In g.Events 1 10) (fun x4 => M.ret (x4 && (decide ((g.Places.length : Int) ≤ 30))))) _
      refine M.Conv_bind (spec_l01In_ok _ _ _) ((M.Conv_ret _).of ?_)
      simp only [graphB, hb, inB, Bool.and_true]
      rw [decide_eq_decide.2 (show (g.Places.length : Int) ≤ 30 ↔ g.Places.length ≤ 30 by omega)]
theorem impl_IsEventGraph_ok {g : TGraph} (hl : g.Places.length ≤ 9223372036854775806) : M.Conv (impl_IsEventGraph g) (graphB g) := by
  unfold impl_IsEventGraph slices_ContainsFunc_Place_F_impl_IsEventGraph_1 slices_IndexFunc_Place_F_impl_IsEventGraph_1
  refine M.Conv_bind (impl_within_ok _ _ _) (M.Conv_bind (x := graphB g) ?_ (M.Conv_ret _))
  have e : ((decide (1 ≤ g.Events) && decide (g.Events ≤ 10)) && decide ((g.Places.length : Int) ≤ 30)) = (inB g.Events 1 10 && decide (g.Places.length ≤ 30)) := by
    rw [decide_eq_decide.2 (show (g.Places.length : Int) ≤ 30 ↔ g.Places.length ≤ 30 by omega)]; rfl
  rw [e]
  refine M.Conv_ite (fun q => ?_) (fun q => (M.Conv_ret _).of (by simp [graphB, q]))
  refine M.Conv_bind (contains_ok (fun p => !placeB g.Events p) (by omega) fun i p hp => ?_) ((M.Conv_ret _).of ?_)
  · refine M.Conv_bind (M.Conv_get (by omega) (by simpa using hp)) (M.Conv_bind (x := !placeB g.Events p) (M.Conv_bind (impl_isPlace_ok _ _) (M.Conv_ret _)) ?_)
    cases placeB g.Events p <;> exact M.Conv_ret _
  · rw [any_not]; simp [graphB, q]
def widthN (a : List (List Int)) : Nat := (a.headD []).length
def matB (a : List (List Int)) : Bool := (decide (1 ≤ a.length) && decide (a.length ≤ 10)) && ((decide (1 ≤ widthN a) && decide (widthN a ≤ 10)) && a.all fun r => decide (r.length = widthN a) && r.all valB)
/-- a matrix of w columns -/
structure Mat (a : List (List Int)) (w : Nat) : Prop where
  rows : 1 ≤ a.length ∧ a.length ≤ 10
  cols : 1 ≤ w ∧ w ≤ 10
  row : ∀ r ∈ a, r.length = w ∧ ∀ x ∈ r, valB x = true
def foldI {α σ : Type} (g : Nat → α → σ → σ) : Nat → List α → σ → σ
  | _, [], s => s
  | i, x :: xs, s => foldI g (i + 1) xs (g i x s)
theorem val_cases {x : Int} (h : valB x = true) : x = -1000000000000000 ∨ (-1000000 ≤ x ∧ x ≤ 1000000) := by
  cases hb : (x == (-1000000000000000)) with
  | true => left; simpa using hb
  | false => right; exact finB_bd (val_ne h hb)
def dotL (x row : List Int) : Int := foldI (fun j v s => mx s (timesI v ((x[j]?).getD 0))) 0 row (-1000000000000000)
theorem markPlaceS_ok {a : List TPlace} (h : smP a) (k : Int) (h0 : 0 ≤ k) (hk : k ≤ 2305843009213693952) :
    ∃ (k' : Int) (a' : List TPlace), M.Conv (laws_markPlaceS a k) (k', a') ∧ k ≤ k' ∧ k' ≤ k + 1099511627776 ∧ a'.length = a.length ∧ M.Conv (laws_heldPlaceS a' k) k' := by
  unfold smP at h
  let e : Int → TPlace := fun q => ⟨q, q + 1, q + 2, q + 3⟩
  refine ⟨k + 4 * a.length, (List.range a.length).map (fun (i : Nat) => e (k + 4 * (i : Int))), ?_, by omega, by omega, by simp, ?_⟩
  · unfold laws_markPlaceS
    refine M.Conv_bind (Conv_mark 4 e k (by omega) fun i s hi hs => ?_) (M.Conv_ret _)
    have his : i < s.length := by omega
    have w1 : w64 (k + 4 * (i : Int) + 1) = k + 4 * i + 1 := w64_eq _ (by omega)
    have w2 : w64 (k + 4 * (i : Int) + 1 + 1) = k + 4 * i + 2 := (w64_eq _ (by omega)).trans (by omega)
    have w3 : w64 (k + 4 * (i : Int) + 2 + 1) = k + 4 * i + 3 := (w64_eq _ (by omega)).trans (by omega)
    have w4 : w64 (k + 4 * (i : Int) + 3 + 1) = k + 4 * (i + 1) := (w64_eq _ (by omega)).trans (by omega)
    have g : ∀ y : TPlace, M.Conv (M.idx (s.set i y) (i : Int)) y := fun y => M.Conv_get (by omega) (by simp [his])
    simp only [w1, w2, w3, w4]
    refine M.Conv_bind (M.Conv_get (x := s[i]) (by omega) (by simp [his])) (M.Conv_bind (M.Conv_upd his) (M.Conv_bind (g _) (M.Conv_bind (M.Conv_upd (by simpa using his)) ?_)))
    rw [List.set_set]
    refine M.Conv_bind (g _) (M.Conv_bind (M.Conv_upd (by simpa using his)) ?_)
    rw [List.set_set]
    refine M.Conv_bind (g _) (M.Conv_bind (M.Conv_upd (by simpa using his)) ?_)
    rw [List.set_set]
    exact M.Conv_ret _
  · unfold laws_heldPlaceS
    have hl : ((List.range a.length).map fun i : Nat => e (k + 4 * (i : Int))).length = a.length := by simp
    refine M.Conv_bind (Conv_held 4 k (by rw [hl]; omega) fun i x hx => ?_) ((M.Conv_ret _).of (by rw [hl]))
    have hi := (List.getElem?_eq_some_iff.1 hx).1
    rw [hl] at hi
    have ex : x = e (k + 4 * i) := by simp [hi] at hx; exact hx.symm
    have w1 : w64 (k + 4 * (i : Int) + 1) = k + 4 * i + 1 := w64_eq _ (by omega)
    have w2 : w64 (k + 4 * (i : Int) + 1 + 1) = k + 4 * i + 2 := (w64_eq _ (by omega)).trans (by omega)
    have w3 : w64 (k + 4 * (i : Int) + 2 + 1) = k + 4 * i + 3 := (w64_eq _ (by omega)).trans (by omega)
    have w4 : w64 (k + 4 * (i : Int) + 3 + 1) = k + 4 * (i + 1) := (w64_eq _ (by omega)).trans (by omega)
    have g := M.Conv_get (l := (List.range a.length).map fun i : Nat => e (k + 4 * (i : Int))) (i := (i : Int)) (by omega) (by simpa using hx)
    subst ex
    simp only [w1, w2, w3, w4]
    exact M.Conv_bind g (M.Conv_ite (fun q => by simp [e] at q) (fun _ => M.Conv_bind g (M.Conv_ite (fun q => by simp [e] at q) (fun _ => M.Conv_bind g (M.Conv_ite (fun q => by simp [e] at q) (fun _ => M.Conv_bind g (M.Conv_ite (fun q => by simp [e] at q) (fun _ => M.Conv_ret _))))))))
theorem markG_ok {g : TGraph} (h : smG g) (k : Int) (h0 : 0 ≤ k) (hk : k ≤ 2305843009213693952) :
    ∃ (k' : Int) (a' : List TPlace), M.Conv (laws_markEventGraph g k) (k', a') ∧ k ≤ k' ∧ k' ≤ k + 1099511627776 ∧ a'.length = g.Places.length ∧ M.Conv (laws_heldPlaceS a' k) k' := by
  obtain ⟨k', a', h1, h2, h3, h4, h5⟩ := markPlaceS_ok h k h0 hk
  exact ⟨k', a', M.Conv_bind h1 (M.Conv_ret _), h2, h3, h4, h5⟩
theorem heldG_of {a' : List TPlace} {k k' e : Int} (h0 : 0 ≤ k) (hk : k ≤ k') (h : M.Conv (laws_heldPlaceS a' k) k') : M.Conv (laws_heldEventGraph ⟨e, a'⟩ k) k' :=
  M.Conv_bind h (M.Conv_ite (fun q => by have := of_decide_eq_true q; omega) (fun _ => M.Conv_ret _))
def ConvL {σ ρ : Type} (f : σ → M (σ ⊕ ρ)) (s : σ) (r : ρ) : Prop := ∃ N m0, ∀ n, N ≤ n → ∀ m, m0 ≤ m → M.loopN f n m s = some r
theorem ConvL.conv {σ ρ : Type} {f : σ → M (σ ⊕ ρ)} {s : σ} {r : ρ} (h : ConvL f s r) : M.Conv (M.loop f s) r := by
  obtain ⟨N, m0, h⟩ := h
  exact ⟨max N m0, fun n hn => h n (by omega) n (by omega)⟩
theorem ConvL.step {σ ρ : Type} {f : σ → M (σ ⊕ ρ)} {s s' : σ} {r : ρ} (h1 : M.Conv (f s) (.inl s')) (h : ConvL f s' r) : ConvL f s r := by
  obtain ⟨N, h1⟩ := h1
  obtain ⟨N', m0, h⟩ := h
  refine ⟨max N N', m0 + 1, fun n hn m hm => ?_⟩
  obtain ⟨m, rfl⟩ : ∃ q, m = q + 1 := ⟨m - 1, by omega⟩
  simp only [M.loopN, h1 n (by omega)]
  exact h n (by omega) m (by omega)
theorem ConvL.stop {σ ρ : Type} {f : σ → M (σ ⊕ ρ)} {s : σ} {r : ρ} (h1 : M.Conv (f s) (.inr r)) : ConvL f s r := by
  obtain ⟨N, h1⟩ := h1
  refine ⟨N, 1, fun n hn m hm => ?_⟩
  obtain ⟨m, rfl⟩ : ∃ q, m = q + 1 := ⟨m - 1, by omega⟩
  simp only [M.loopN, h1 n hn]
theorem slices_Clone_Place_ok {l : List TPlace} (h : smP l) : M.Conv (slices_Clone_Place l) l := by
  unfold smP at h
  exact M.Conv_bind (M.Conv_app (by simp; omega)) ((M.Conv_ret _).of (by simp))
theorem impl_cloneGraph_ok {g : TGraph} (h : smG g) : M.Conv (impl_cloneGraph g) g := M.Conv_bind (slices_Clone_Place_ok h) (M.Conv_ret _)
def entA (a : List (List Int)) (i j : Nat) : Int := (((a[i]?).getD [])[j]?).getD 0
def tab {α : Type} (n : Nat) (h : Nat → α) : List α := (List.range n).map h
theorem tab_len {α : Type} (n : Nat) (h : Nat → α) : (tab n h).length = n := by simp [tab]
def matF (m n : Nat) (f : Nat → Nat → Int) : List (List Int) := tab m fun i => tab n (f i)
theorem matF_len (m n : Nat) (f : Nat → Nat → Int) : (matF m n f).length = m := tab_len _ _
structure Shp (a : List (List Int)) (w : Nat) : Prop where
  rows : 1 ≤ a.length ∧ a.length ≤ 10
  cols : 1 ≤ w ∧ w ≤ 10
  row : ∀ r ∈ a, r.length = w
theorem Mat.shp {a : List (List Int)} {w : Nat} (hm : Mat a w) : Shp a w := ⟨hm.rows, hm.cols, fun r hr => (hm.row r hr).1⟩
theorem shp_of {m n : Nat} {f : Nat → Nat → Int} (h1 : 1 ≤ m ∧ m ≤ 10) (h2 : 1 ≤ n ∧ n ≤ 10) : Shp (matF m n f) n := by
  refine ⟨by rw [matF_len]; exact h1, h2, fun r hr => ?_⟩
  simp only [matF, tab, List.mem_map, List.mem_range] at hr
  obtain ⟨i, hi, rfl⟩ := hr
  simp
theorem matB_shp {a : List (List Int)} {w : Nat} (h : Shp a w) : matB a = a.all fun r => r.all valB := by
  have h1 := h.rows
  have h2 := h.cols
  have hw : widthN a = w := by
    unfold widthN
    cases a with
    | nil => simp at h1
    | cons r rs => exact h.row r (by simp)
  unfold matB
  rw [hw, decide_eq_true h1.1, decide_eq_true h1.2, decide_eq_true h2.1, decide_eq_true h2.2]
  simp only [Bool.true_and]
  rw [Bool.eq_iff_iff, List.all_eq_true, List.all_eq_true]
  refine ⟨fun H r hr => ?_, fun H r hr => ?_⟩
  · have := H r hr; simp only [Bool.and_eq_true] at this; exact this.2
  · rw [decide_eq_true (h.row r hr), Bool.true_and]; exact H r hr
def colL (b : List (List Int)) (i : Nat) : List Int := tab b.length fun j => entA b j i
def Rel {α β : Type} (m : M α) (m' : M β) (Q : α → β → Prop) : Prop := ∃ r r', M.Conv m r ∧ M.Conv m' r' ∧ Q r r'
theorem Rel.of {α β : Type} {m : M α} {m' : M β} {Q : α → β → Prop} {r : α} {r' : β} (h : M.Conv m r) (h' : M.Conv m' r') (q : Q r r') : Rel m m' Q := ⟨r, r', h, h', q⟩
theorem Rel.bind {α β γ δ : Type} {m : M α} {m' : M β} {f : α → M γ} {f' : β → M δ} {P : α → β → Prop} {Q : γ → δ → Prop} (h : Rel m m' P) (g : ∀ x x', P x x' → Rel (f x) (f' x') Q) : Rel (M.bind m f) (M.bind m' f') Q := by
  obtain ⟨x, x', h1, h2, p⟩ := h
  obtain ⟨r, r', g1, g2, q⟩ := g x x' p
  exact ⟨r, r', M.Conv_bind h1 g1, M.Conv_bind h2 g2, q⟩
theorem Rel.left {α γ δ : Type} {m : M α} {f : α → M γ} {m' : M δ} {Q : γ → δ → Prop} {x : α} (h : M.Conv m x) (g : Rel (f x) m' Q) : Rel (M.bind m f) m' Q := by
  obtain ⟨r, r', g1, g2, q⟩ := g
  exact ⟨r, r', M.Conv_bind h g1, g2, q⟩
theorem Rel.right {α γ δ : Type} {m : M α} {f : α → M γ} {m' : M δ} {Q : δ → γ → Prop} {x : α} (h : M.Conv m x) (g : Rel m' (f x) Q) : Rel m' (M.bind m f) Q := by
  obtain ⟨r, r', g1, g2, q⟩ := g
  exact ⟨r, r', g1, M.Conv_bind h g2, q⟩
theorem Rel.two {α : Type} {m m' : M α} {P : α → Prop} (h : Rel m m' fun x y => x = y ∧ P x) : Two m m' P := by
  obtain ⟨r, r', h1, h2, rfl, p⟩ := h
  exact ⟨r, h1, h2, p⟩
theorem Rel.iteL {α β : Type} {b : Bool} {x y : M α} {m' : M β} {Q : α → β → Prop} (h1 : b = true → Rel x m' Q) (h2 : b = false → Rel y m' Q) : Rel (M.ite b x y) m' Q := by
  cases b
  · obtain ⟨r, r', g1, g2, q⟩ := h2 rfl
    exact ⟨r, r', M.Conv_ite (fun t => by simp at t) (fun _ => g1), g2, q⟩
  · obtain ⟨r, r', g1, g2, q⟩ := h1 rfl
    exact ⟨r, r', M.Conv_ite (fun _ => g1) (fun t => by simp at t), g2, q⟩
theorem Rel.iteR {α β : Type} {b : Bool} {x y : M β} {m' : M α} {Q : α → β → Prop} (h1 : b = true → Rel m' x Q) (h2 : b = false → Rel m' y Q) : Rel m' (M.ite b x y) Q := by
  cases b
  · obtain ⟨r, r', g1, g2, q⟩ := h2 rfl
    exact ⟨r, r', g1, M.Conv_ite (fun t => by simp at t) (fun _ => g2), q⟩
  · obtain ⟨r, r', g1, g2, q⟩ := h1 rfl
    exact ⟨r, r', g1, M.Conv_ite (fun _ => g2) (fun t => by simp at t), q⟩
theorem Rel.ite {α β : Type} {b b' : Bool} {x y : M α} {x' y' : M β} {Q : α → β → Prop} (e : b = b') (h1 : b = true → Rel x x' Q) (h2 : b = false → Rel y y' Q) : Rel (M.ite b x y) (M.ite b' x' y') Q := by
  subst e
  exact Rel.iteL (fun t => Rel.iteR (fun _ => h1 t) (fun t' => by rw [t] at t'; cases t')) (fun t => Rel.iteR (fun t' => by rw [t] at t'; cases t') (fun _ => h2 t))
theorem Rel.ret {α β : Type} {x : α} {y : β} {Q : α → β → Prop} (q : Q x y) : Rel (M.ret x) (M.ret y) Q := ⟨x, y, M.Conv_ret _, M.Conv_ret _, q⟩
/-- one round of two loops: both go on, or both stop -/
def Round {σ σ' ρ ρ' : Type} (R : σ → σ' → Prop) (Q : ρ → ρ' → Prop) (y : σ ⊕ ρ) (y' : σ' ⊕ ρ') : Prop := (∃ t t', y = .inl t ∧ y' = .inl t' ∧ R t t') ∨ (∃ r r', y = .inr r ∧ y' = .inr r' ∧ Q r r')
theorem Round.on {σ σ' ρ ρ' : Type} {R : σ → σ' → Prop} {Q : ρ → ρ' → Prop} {t : σ} {t' : σ'} (h : R t t') : Round R Q (.inl t) (.inl t') := .inl ⟨t, t', rfl, rfl, h⟩
theorem Rel.for {σ σ' ρ ρ' : Type} {n : Nat} {f : Int → σ → M (σ ⊕ ρ)} {f' : Int → σ' → M (σ' ⊕ ρ')} {fin : σ → ρ} {fin' : σ' → ρ'} {s : σ} {s' : σ'} {Q : ρ → ρ' → Prop} (R : Nat → σ → σ' → Prop) (hn : n ≤ 9223372036854775807) (h0 : R 0 s s')
    (step : ∀ (i : Nat) t t', i < n → R i t t' → Rel (f i t) (f' i t') (Round (R (i + 1)) Q)) (stop : ∀ t t', R n t t' → Q (fin t) (fin' t')) : Rel (M.forI 0 (n : Int) fin f s) (M.forI 0 (n : Int) fin' f' s') Q := by
  have H : ∀ (d i : Nat) t t', i + d = n → R i t t' → ∃ r r', (∃ N, ∀ m, N ≤ m → M.forN (n : Int) fin f m d (i : Int) t = some r) ∧ (∃ N, ∀ m, N ≤ m → M.forN (n : Int) fin' f' m d (i : Int) t' = some r') ∧ Q r r' := by
    intro d
    induction d with
    | zero =>
      intro i t t' e hR
      obtain rfl : i = n := by omega
      exact ⟨fin t, fin' t', ⟨0, fun m _ => by simp [M.forN]⟩, ⟨0, fun m _ => by simp [M.forN]⟩, stop t t' hR⟩
    | succ d ih =>
      intro i t t' e hR
      have hlt : (i : Int) < n := by omega
      obtain ⟨y, y', ⟨N, hy⟩, ⟨N', hy'⟩, hc⟩ := step i t t' (by omega) hR
      rcases hc with ⟨u, u', rfl, rfl, hR⟩ | ⟨r, r', rfl, rfl, hq⟩
      · obtain ⟨r, r', ⟨K, hr⟩, ⟨K', hr'⟩, hq⟩ := ih (i + 1) u u' (by omega) hR
        rw [Int.natCast_add] at hr hr'
        refine ⟨r, r', ⟨max N K, fun m hm => ?_⟩, ⟨max N' K', fun m hm => ?_⟩, hq⟩
        · simp [M.forN, hlt, hy m (by omega)]; exact hr m (by omega)
        · simp [M.forN, hlt, hy' m (by omega)]; exact hr' m (by omega)
      · exact ⟨r, r', ⟨N, fun m hm => by simp [M.forN, hlt, hy m hm]⟩, ⟨N', fun m hm => by simp [M.forN, hlt, hy' m hm]⟩, hq⟩
  obtain ⟨r, r', ⟨N, h1⟩, ⟨N', h2⟩, q⟩ := H n 0 s s' (by omega) h0
  refine ⟨r, r', ⟨N, fun m hm => ?_⟩, ⟨N', fun m hm => ?_⟩, q⟩
  · have := h1 m hm; have hn' : (n : Int) ≤ 9223372036854775807 := by omega
    simp [M.forI, hn']; exact this
  · have := h2 m hm; have hn' : (n : Int) ≤ 9223372036854775807 := by omega
    simp [M.forI, hn']; exact this
/-- a loop with a round count on the left, any loop on the right -/
theorem Rel.loop {σ σ' ρ ρ' : Type} {f : σ → M (σ ⊕ ρ)} {f' : σ' → M (σ' ⊕ ρ')} {s : σ} {s' : σ'} {Q : ρ → ρ' → Prop} (R : σ → σ' → Prop) (μ : σ → Nat) (h0 : R s s')
    (step : ∀ t t', R t t' → Rel (f t) (f' t') (Round (fun u u' => R u u' ∧ μ u < μ t) Q)) : Rel (M.loop f s) (M.loop f' s') Q := by
  have H : ∀ (d : Nat) t t', μ t < d → R t t' → ∃ r r', ConvL f t r ∧ ConvL f' t' r' ∧ Q r r' := by
    intro d
    induction d with
    | zero => intro t t' h; omega
    | succ d ih =>
      intro t t' h hR
      obtain ⟨y, y', hy, hy', hc⟩ := step t t' hR
      rcases hc with ⟨u, u', rfl, rfl, hR, hlt⟩ | ⟨r, r', rfl, rfl, hq⟩
      · obtain ⟨r, r', k1, k2, q⟩ := ih u u' (by omega) hR
        exact ⟨r, r', k1.step hy, k2.step hy', q⟩
      · exact ⟨r, r', ConvL.stop hy, ConvL.stop hy', hq⟩
  obtain ⟨r, r', h1, h2, q⟩ := H (μ s + 1) s s' (by omega) h0
  exact ⟨r, r', h1.conv, h2.conv, q⟩

def nd (l : List Int) (i : Nat) : Int := (l[i]?).getD 0
def OkNodes (n : Nat) (l : List Int) : Prop := ∀ i, i < l.length → (0 ≤ nd l i ∧ nd l i ≤ (n : Int) - 1) ∧ (0 < i → nd l (i - 1) < nd l i)
theorem OkNodes.len {n : Nat} {l : List Int} (h : OkNodes n l) : l.length ≤ n := by
  have key : ∀ i, i < l.length → (i : Int) ≤ nd l i := by
    intro i
    induction i with
    | zero => intro hi; have := (h 0 hi).1; omega
    | succ i ih => intro hi; have := (h (i + 1) hi).2 (by omega); have := ih (by omega); simp only [Nat.add_sub_cancel] at *; omega
  by_cases e : l.length = 0
  · omega
  · have := key (l.length - 1) (by omega)
    have := (h (l.length - 1) (by omega)).1
    omega
structure ByC (code : List Int) : Prop where
  len : code.length ≤ 4096
  byte : ∀ x ∈ code, 0 ≤ x ∧ x ≤ 255
/-- what a drawn matrix is at least: not large, of numbers -/
structure MatS (a : List (List Int)) : Prop where
  rows : a.length ≤ 11
  row : ∀ r ∈ a, r.length ≤ 10 ∧ ∀ x ∈ r, inI64 x
theorem MatS.of {m n : Nat} {f : Nat → Nat → Int} (hm : m ≤ 10) (hn : n ≤ 10) (hf : ∀ i j, inI64 (f i j)) : MatS (matF m n f) := by
  refine ⟨by rw [matF_len]; omega, fun r hr => ?_⟩
  simp only [matF, tab, List.mem_map, List.mem_range] at hr
  obtain ⟨i, hi, rfl⟩ := hr
  refine ⟨by simp; omega, fun x hx => ?_⟩
  simp only [List.mem_map, List.mem_range] at hx
  obtain ⟨j, hj, rfl⟩ := hx
  exact hf i j
structure VecS (x : List Int) : Prop where
  len : x.length ≤ 20
  mem : ∀ v ∈ x, inI64 v
theorem VecS.set {x : List Int} {v : Int} (i : Nat) (h : VecS x) (hv : inI64 v) : VecS (x.set i v) := ⟨by rw [List.length_set]; exact h.len, fun y hy => by
  rcases List.mem_or_eq_of_mem_set hy with hy | hy
  · exact h.mem y hy
  · subst hy; exact hv⟩
theorem ByC.of {code : List Int} (h : fitL inU8 code) (hb : decide (4096 < (code.length : Int)) = false) : ByC code := ⟨by have := of_decide_eq_false hb; omega, fun x hx => h.2 x hx⟩
def co (c : List Int) (i : Nat) : Int := (c[i]?).getD (-1000000000000000)
theorem co_get {c : List Int} {i : Nat} (h : i < c.length) : c[i]? = some (co c i) := by
  unfold co; rw [List.getElem?_eq_getElem h]; rfl
theorem co_out {c : List Int} {i : Nat} (h : c.length ≤ i) : co c i = -1000000000000000 := by
  unfold co; rw [List.getElem?_eq_none h]; rfl
theorem co_val {c : List Int} (hv : c.all valB = true) (i : Nat) : co c i = -1000000000000000 ∨ -1000000 ≤ co c i ∧ co c i ≤ 1000000 := by
  by_cases hi : i < c.length
  · rw [List.all_eq_true] at hv
    exact val_cases (hv _ (List.mem_of_getElem? (co_get hi)))
  · exact .inl (co_out (by omega))
theorem times_co {a p : Int} (h : a ≠ -1000000000000000) (ha : -1000000 ≤ a ∧ a ≤ 1000000) (hp : -1000000 ≤ p ∧ p ≤ 1000000) : timesI a p = a + p := by
  simp only [timesI]
  rw [show (a == (-1000000000000000)) = false by simpa using h, show (p == (-1000000000000000)) = false by simp; omega]
  exact w64_eq _ (by omega)
theorem times_bot (p : Int) : timesI (-1000000000000000) p = -1000000000000000 := by simp [timesI]
structure PartP (c d : List Int) (n i k : Nat) (s : List Int) : Prop where
  len : s.length = n
  up : ∀ p q : Nat, (p < i ∨ p = i ∧ q < k) → co c p ≠ -1000000000000000 → co d q ≠ -1000000000000000 → co c p + co d q ≤ co s (p + q)
  on : ∀ m : Nat, co s m = -1000000000000000 ∨ ∃ p q : Nat, p + q = m ∧ co c p ≠ -1000000000000000 ∧ co d q ≠ -1000000000000000 ∧ co s m = co c p + co d q
theorem co_set {s : List Int} {i m : Nat} {v : Int} (hi : i < s.length) : co (s.set i v) m = if m = i then v else co s m := by
  unfold co
  by_cases e : m = i
  · subst e; rw [if_pos rfl, List.getElem?_set_self hi]; rfl
  · rw [if_neg e, List.getElem?_set_ne (by omega)]
theorem PartP.step {c d s : List Int} {n i k : Nat} (hc : c.all valB = true) (hd : d.all valB = true) (h : PartP c d n i k s) (hn : i + k < n) : PartP c d n i (k + 1) (s.set (i + k) (mx (co s (i + k)) (timesI (co c i) (co d k)))) := by
  have hlt : i + k < s.length := by rw [h.len]; exact hn
  have vc := co_val hc i
  have vd := co_val hd k
  have vs : co s (i + k) = -1000000000000000 ∨ -2000000 ≤ co s (i + k) := by
    rcases h.on (i + k) with e | ⟨p, q, _, h1, h2, e⟩
    · exact .inl e
    · have := co_val hc p
      have := co_val hd q
      omega
  -- the new coefficient
  have hz : (mx (co s (i + k)) (timesI (co c i) (co d k)) = co s (i + k) ∧ (co c i = -1000000000000000 ∨ co d k = -1000000000000000 ∨ co c i + co d k ≤ co s (i + k))) ∨ (mx (co s (i + k)) (timesI (co c i) (co d k)) = co c i + co d k ∧ co c i ≠ -1000000000000000 ∧ co d k ≠ -1000000000000000 ∧ co s (i + k) ≤ co c i + co d k) := by
    rw [mx_eq]
    by_cases e1 : co c i = -1000000000000000
    · rw [e1, times_bot]; left; omega
    · by_cases e2 : co d k = -1000000000000000
      · rw [e2, show timesI (co c i) (-1000000000000000) = -1000000000000000 by simp [timesI]]; left; omega
      · rw [times_co e1 (by omega) (by omega)]
        by_cases e3 : co c i + co d k ≤ co s (i + k)
        · left; omega
        · right; omega
  refine ⟨by rw [List.length_set]; exact h.len, fun p q hpq h1 h2 => ?_, fun m => ?_⟩
  · rw [co_set hlt]
    by_cases e : p + q = i + k
    · rw [if_pos e]
      by_cases e2 : p = i ∧ q = k
      · obtain ⟨rfl, rfl⟩ := e2; omega
      · have := h.up p q (by omega) h1 h2
        rw [e] at this
        omega
    · rw [if_neg e]
      exact h.up p q (by omega) h1 h2
  · rw [co_set hlt]
    by_cases e : m = i + k
    · rw [if_pos e]
      rcases hz with ⟨hz, _⟩ | ⟨hz, h1, h2, _⟩
      · rw [hz]
        have := h.on m
        rw [e] at this ⊢
        exact this
      · exact .inr ⟨i, k, e.symm, h1, h2, hz⟩
    · rw [if_neg e]; exact h.on m
theorem shp_width {a : List (List Int)} {w : Nat} (h : Shp a w) : widthN a = w := by
  have h1 := h.rows
  unfold widthN
  cases a with
  | nil => simp at h1
  | cons r rs => exact h.row r (by simp)
theorem mat_matB {a : List (List Int)} {w : Nat} (h : Mat a w) : matB a = true := by
  rw [matB_shp h.shp, List.all_eq_true]
  intro r hr
  rw [List.all_eq_true]
  exact (h.row r hr).2
structure DotP (u v : Nat → Int) (n : Nat) (s : Int) : Prop where
  up : ∀ j, j < n → u j ≠ -1000000000000000 → v j ≠ -1000000000000000 → u j + v j ≤ s
  on : s = -1000000000000000 ∨ ∃ j, j < n ∧ u j ≠ -1000000000000000 ∧ v j ≠ -1000000000000000 ∧ s = u j + v j
def rowN (a : List (List Int)) (i : Nat) : List Int := (a[i]?).getD []
def mulM (a b : List (List Int)) : List (List Int) := matF a.length (widthN b) fun i k => dotL (colL b k) (rowN a i)
theorem mulM_shp {a b : List (List Int)} {n w : Nat} (ha : Shp a n) (hb : Shp b w) : Shp (mulM a b) w := by
  unfold mulM
  rw [shp_width hb]
  exact shp_of ha.rows hb.cols
theorem DotP.congr {u v u' v' : Nat → Int} {n : Nat} {s : Int} (h : DotP u v n s) (hu : ∀ j, j < n → u j = u' j) (hv : ∀ j, j < n → v j = v' j) : DotP u' v' n s := by
  refine ⟨fun j hj h1 h2 => ?_, ?_⟩
  · rw [← hu j hj] at h1 ⊢
    rw [← hv j hj] at h2 ⊢
    exact h.up j hj h1 h2
  · rcases h.on with e | ⟨j, hj, h1, h2, e⟩
    · exact .inl e
    · rw [hu j hj] at h1 e
      rw [hv j hj] at h2 e
      exact .inr ⟨j, hj, h1, h2, e⟩
def pw (a f : List (List Int)) : Nat → List (List Int)
  | 0 => f
  | k + 1 => mulM a (pw a f k)
structure Ser (a f : List (List Int)) (w : Nat) : Prop where
  mat : Mat a a.length
  fst : Mat f w
  len : f.length = a.length
theorem Ser.shp {a f : List (List Int)} {w : Nat} (h : Ser a f w) : ∀ k, Shp (pw a f k) w ∧ (pw a f k).length = a.length
  | 0 => ⟨h.fst.shp, h.len⟩
  | k + 1 => ⟨mulM_shp h.mat.shp (h.shp k).1, matF_len _ _ _⟩
def okTo (a f : List (List Int)) (k : Nat) : Prop := ∀ i, i ≤ k → matB (pw a f i) = true
theorem Ser.zero {a f : List (List Int)} {w : Nat} (h : Ser a f w) : okTo a f 0 := fun i hi => by
  obtain rfl : i = 0 := by omega
  exact mat_matB h.fst
inductive RK (E : Nat → Nat → Prop) (n v : Nat) : Nat → Nat → Prop
  | nil (k : Nat) : RK E n v k v
  | step (k j i : Nat) : RK E n v k j → j < n → i < n → E j i → RK E n v (k + 1) i
def Rch (E : Nat → Nat → Prop) (n v i : Nat) : Prop := ∃ k, RK E n v k i
theorem Rch.step {E : Nat → Nat → Prop} {n v j i : Nat} (h : Rch E n v j) (hj : j < n) (hi : i < n) (he : E j i) : Rch E n v i := let ⟨k, h⟩ := h; ⟨k + 1, .step k j i h hj hi he⟩
theorem Rch.trans {E : Nat → Nat → Prop} {n v j i : Nat} (h : Rch E n v j) (g : Rch E n j i) : Rch E n v i := by
  obtain ⟨k, g⟩ := g
  induction g with
  | nil => exact h
  | step k j' i' _ hj hi he ih => exact ih.step hj hi he
def yC (c : List Int) (p : Int) : Int := (c[p.toNat]?).getD 0
structure TsOK (c ts : List Int) : Prop where
  bd : ∀ t ∈ ts, termB c c.length t
  inc : List.Pairwise (fun a b => a < b) ts
  ne : ts ≠ []
theorem TsOK.at {c ts : List Int} (h : TsOK c ts) {q : Nat} {t : Int} (ht : ts[q]? = some t) : 0 ≤ t ∧ t < c.length ∧ (-1000000 ≤ yC c t ∧ yC c t ≤ 1000000) := by
  obtain ⟨a, b, x, hx, hb⟩ := h.bd t (List.mem_of_getElem? ht)
  refine ⟨a, b, ?_⟩
  unfold yC
  rw [hx]
  exact finB_bd hb
theorem sm0G : smG (⟨0, []⟩ : TGraph) := by simp [smG, smP]
theorem l11Index_ok (g : TGraph) (i : Int) (s : smG g) : M.Conv (spec_l11Index g i) (bif graphB g then bif inB i 0 (w64 ((g.Places.length : Int) - 1)) then 0 else 2 else 1) := by
  have hlen : g.Places.length ≤ 9223372036854775806 := by have := s; simp only [smG, smP] at this; omega
  unfold spec_l11Index
  refine M.Conv_bind (spec_IsEventGraph_ok hlen) ?_
  refine M.Conv_ite (fun t => (M.Conv_ret _).of (by cases h : graphB g <;> simp_all)) (fun t => ?_)
  rw [show graphB g = true by simpa using t]
  refine M.Conv_bind (spec_l01In_ok _ _ _) ?_
  exact M.Conv_ite (fun t => (M.Conv_ret _).of (by rw [Bool.not_eq_true'] at t; simp only [inB]; rw [t]; rfl)) (fun t => (M.Conv_ret _).of (by rw [Bool.not_eq_false'] at t; simp only [inB]; rw [t]; rfl))
def idxOK (g : TGraph) (i : Int) : Prop := graphB g = true ∧ 0 ≤ i ∧ i < g.Places.length
def dropG (g : TGraph) (i : Int) : TGraph := ⟨g.Events, g.Places.take i.toNat ++ g.Places.drop (i.toNat + 1)⟩
theorem dropG_sm {g : TGraph} (s : smG g) (i : Int) : smG (dropG g i) := by
  simp only [smG, smP, dropG, List.length_append, List.length_take, List.length_drop] at *; omega
theorem drop_impl {g : TGraph} {i : Int} (s : smG g) (h : idxOK g i) : M.Conv (impl_DropPlace g i) (dropG g i, 0) := by
  obtain ⟨h1, h2, h3⟩ := h
  have hs := s
  simp only [smG, smP] at hs
  unfold impl_DropPlace
  refine M.Conv_bind (impl_IsEventGraph_ok (by omega)) (M.Conv_ite (fun t => by rw [h1] at t; cases t) (fun _ => M.Conv_bind (impl_within_ok _ _ _) (M.Conv_ite (fun t => ?_) (fun _ => M.Conv_bind (impl_cloneGraph_ok s) (M.Conv_bind (x := g.Places.take i.toNat ++ g.Places.drop (i.toNat + 1)) ?_ (M.Conv_ret _))))))
  · rw [w64_eq _ (by omega)] at t; simp at t; omega
  · have ew : w64 (i + 1) = i + 1 := w64_eq _ (by omega)
    have e1 : (i + 1).toNat = i.toNat + 1 := by omega
    unfold slices_Delete_Place
    rw [ew]
    refine M.Conv_bind (M.Conv_sub (by omega) (by omega) (by omega)) (M.Conv_ite (fun t => by simp at t; omega) (fun _ => M.Conv_bind ((M.Conv_sub (by omega) (by omega) (by omega)).of (r' := g.Places.take i.toNat) (by simp)) (M.Conv_bind ((M.Conv_sub (by omega) (by omega) (by omega)).of (r' := g.Places.drop (i.toNat + 1)) ?_) (M.Conv_bind (M.Conv_app (by simp; omega)) (M.Conv_ret _)))))
    rw [e1]
    exact List.take_of_length_le (by rw [List.length_drop]; omega)
theorem drop_Two (g : TGraph) (i : Int) (s : smG g) : Two (spec_DropPlace g i) (impl_DropPlace g i) (fun w => smG w.1) := by
  have hs := s
  simp only [smG, smP] at hs
  have hI := l11Index_ok g i s
  cases hg : graphB g with
  | false =>
    rw [hg] at hI
    refine Two.mk (r := (⟨0, []⟩, 1)) ?_ ?_ sm0G
    · exact M.Conv_bind hI (M.Conv_ite (fun _ => M.Conv_ret _) (fun t => by simp at t))
    · exact M.Conv_bind (impl_IsEventGraph_ok (by omega)) (M.Conv_ite (fun _ => M.Conv_ret _) (fun t => by rw [hg] at t; cases t))
  | true =>
    rw [hg] at hI
    cases hi : inB i 0 (w64 ((g.Places.length : Int) - 1)) with
    | false =>
      rw [hi] at hI
      refine Two.mk (r := (⟨0, []⟩, 2)) ?_ ?_ sm0G
      · exact M.Conv_bind hI (M.Conv_ite (fun _ => M.Conv_ret _) (fun t => by simp at t))
      · refine M.Conv_bind (impl_IsEventGraph_ok (by omega)) (M.Conv_ite (fun t => by rw [hg] at t; cases t) (fun _ => M.Conv_bind (impl_within_ok _ _ _) (M.Conv_ite (fun _ => M.Conv_ret _) (fun t => ?_))))
        simp only [inB] at hi
        rw [hi] at t; cases t
    | true =>
      rw [hi] at hI
      have hi' := hi
      simp only [inB, Bool.and_eq_true, decide_eq_true_eq] at hi'
      rw [w64_eq _ (by omega)] at hi'
      refine Two.mk (r := (dropG g i, 0)) ?_ (drop_impl s ⟨hg, by omega, by omega⟩) (dropG_sm s i)
      have ew : w64 (i + 1) = i + 1 := w64_eq _ (by omega)
      have e1 : (i + 1).toNat = i.toNat + 1 := by omega
      unfold spec_DropPlace
      rw [ew]
      refine M.Conv_bind hI (M.Conv_ite (fun t => by simp at t) (fun _ => M.Conv_bind ((M.Conv_sub (by omega) (by omega) (by omega)).of (r' := g.Places.take i.toNat) (by simp)) (M.Conv_bind ((M.Conv_sub (by omega) (by omega) (by omega)).of (r' := g.Places.drop (i.toNat + 1)) ?_) (M.Conv_bind (M.Conv_app (by simp; omega)) (M.Conv_bind (M.Conv_app (by simp; omega)) (M.Conv_ret _))))))
      rw [e1]
      exact List.take_of_length_le (by rw [List.length_drop]; omega)
theorem same_DropPlace (g : TGraph) (_ : okTGraph g) (i : Int) (_ : inI64 i) (s : smG g) : Two (spec_DropPlace g i) (impl_DropPlace g i) (fun w => smG w.1) := drop_Two g i s

theorem FnExactDropPlace_ok (aG : TGraph) (gaG : okTGraph aG) (aI : Int) (gaI : inI64 aI) : M.Conv (laws_FnExactDropPlace aG aI) true := by
  unfold laws_FnExactDropPlace
  obtain ⟨zaG, hzaG, ssaG⟩ := szG_ok gaG
  refine M.Conv_bind hzaG ?_
  refine M.Conv_ite (fun _ => M.Conv_ret _) (fun qaG => ?_)
  have saG := ssaG qaG
  have nzaG := of_decide_eq_false qaG
  refine M.Conv_bind (toG_ok saG) ?_
  obtain ⟨w, hS, hI, hw⟩ := same_DropPlace aG gaG aI gaI saG
  refine M.Conv_bind hS ?_
  refine M.Conv_bind (toG_ok saG) ?_
  refine M.Conv_bind hI ?_
  refine M.Conv_bind (eqG_refl hw) ?_
  refine M.Conv_ite (fun q => ?_) (fun _ => ?_)
  · exfalso; revert q; simp
  refine M.Conv_bind (toG_ok saG) ?_
  refine M.Conv_bind (eqG_refl saG) ?_
  refine M.Conv_ite (fun q => ?_) (fun _ => ?_)
  · exfalso; revert q; simp
  obtain ⟨k1, mk1, hmk1, lek1, gek1, _, hek1⟩ := markG_ok saG _ (show (0 : Int) ≤ 1 by omega) (by omega)
  refine M.Conv_bind hmk1 ?_
  refine M.Conv_bind (x := false) (M.Conv_ite (fun q => ?_) (fun _ => M.Conv_bind (eqG_refl hw) (M.Conv_ret _))) ?_
  · exfalso; revert q; simp; omega
  refine M.Conv_ite (fun q => ?_) (fun _ => ?_)
  · exfalso; revert q; simp
  obtain ⟨k2, mk2, hmk2, lek2, gek2, _, hek2⟩ := markG_ok hw _ (show (0 : Int) ≤ 1 by omega) (by omega)
  refine M.Conv_bind hmk2 ?_
  refine M.Conv_bind (heldG_of (show (0 : Int) ≤ 1 by omega) lek2 hek2) ?_
  refine M.Conv_ite (fun q => ?_) (fun _ => ?_)
  · exfalso; revert q; simp; try omega
  refine M.Conv_ite (fun q => ?_) (fun _ => ?_)
  · exfalso; revert q; simp; try omega
  refine M.Conv_bind (toG_ok saG) ?_
  refine M.Conv_bind hI ?_
  refine M.Conv_bind (eqG_refl hw) ?_
  refine M.Conv_ite (fun q => ?_) (fun _ => ?_)
  · exfalso; revert q; simp; try omega
  refine M.Conv_bind (heldG_of (show (0 : Int) ≤ 1 by omega) lek2 hek2) ?_
  refine M.Conv_ite (fun q => ?_) (fun _ => ?_)
  · exfalso; revert q; simp; try omega
  refine M.Conv_ite (fun q => ?_) (fun _ => ?_)
  · exfalso; revert q; simp; try omega
  exact M.Conv_ret _

end Go.Proofs.Ytbemhgddkkggmaa
