/-
  Plain proofs: the plain program of the law ends with true.
  Conditions: None beyond the given statement.
-/
import Derived.Test.YtipdgiljgbjjkaaP
namespace Go.Proofs.Ytipdgiljgbjjkaa
open Go
/-! ### plain programs: loops over a list -/
namespace M
variable {α β σ ρ : Type}
/-- rounds over the elements of a list, each with its place; a round may leave -/
def run (g : Nat → α → σ → σ ⊕ ρ) (fin : σ → ρ) : Nat → List α → σ → ρ
  | _, [], s => fin s
  | i, x :: xs, s => match g i x s with
    | .inl s' => run g fin (i + 1) xs s'
    | .inr r => r
theorem Conv_forN {l : List α} {f : Int → σ → M (σ ⊕ ρ)} (g : Nat → α → σ → σ ⊕ ρ) (fin : σ → ρ) (I : Nat → σ → Prop) (hi : Int) :
    ∀ (xs : List α) (i : Nat) (s : σ), hi = (i + xs.length : Nat) → I i s → (∀ (j : Nat) x s, xs[j]? = some x → I (i + j) s → Conv (f (i + j : Nat) s) (g (i + j) x s) ∧ ∀ s', g (i + j) x s = .inl s' → I (i + j + 1) s') →
      ∃ N, ∀ n, N ≤ n → forN hi fin f n xs.length i s = some (run g fin i xs s)
  | [], i, s, hh, _, _ => ⟨0, fun n _ => by
      have : ¬ (i : Int) < hi := by rw [hh]; simp
      simp [forN, run, this]⟩
  | x :: xs, i, s, hh, h0, H => by
    have hlt : (i : Int) < hi := by rw [hh]; simp; omega
    obtain ⟨⟨N, hN⟩, hI⟩ := H 0 x s rfl h0
    simp only [Nat.add_zero] at hN hI
    cases hg : g i x s with
    | inl s' =>
      have hi' := hI s' hg
      obtain ⟨N', hN'⟩ := Conv_forN (l := l) g fin I hi xs (i + 1) s' (by rw [hh, List.length_cons]; congr 1; omega) hi' (fun j y s hy hIs => by
        have := H (j + 1) y s (by simpa using hy) (by rw [← Nat.add_assoc, Nat.add_right_comm]; exact hIs)
        rw [show i + (j + 1) = i + 1 + j by omega] at this
        exact this)
      refine ⟨max N N', fun n hn => ?_⟩
      have h1 := hN n (by omega)
      rw [hg] at h1
      simp only [List.length_cons, forN, hlt, decide_true, cond_true, h1, run, hg]
      have := hN' n (by omega)
      simpa using this
    | inr r =>
      refine ⟨N, fun n hn => ?_⟩
      have h1 := hN n hn
      rw [hg] at h1
      simp only [List.length_cons, forN, hlt, decide_true, cond_true, h1, run, hg]
/-- a loop over a list, with an invariant -/
theorem Conv_forI {l : List α} {f : Int → σ → M (σ ⊕ ρ)} {fin : σ → ρ} {s : σ} (g : Nat → α → σ → σ ⊕ ρ) (I : Nat → σ → Prop) (hl : l.length ≤ 9223372036854775807) (h0 : I 0 s)
    (H : ∀ (i : Nat) x s, l[i]? = some x → I i s → Conv (f i s) (g i x s) ∧ ∀ s', g i x s = .inl s' → I (i + 1) s') : Conv (forI 0 (l.length : Int) fin f s) (run g fin 0 l s) := by
  obtain ⟨N, hN⟩ := Conv_forN (l := l) (f := f) g fin I (l.length : Int) l 0 s (by simp) h0 (fun j x s hx hI => by simpa using H j x s hx (by simpa using hI))
  refine ⟨N, fun n hn => ?_⟩
  have h1 : (l.length : Int) ≤ 9223372036854775807 := by omega
  simp only [forI, h1, decide_true, Bool.and_true, show (-9223372036854775808 : Int) ≤ 0 by decide, cond_true]
  have := hN n hn
  simpa using this
/-- .. without one -/
theorem Conv_forL {l : List α} {f : Int → σ → M (σ ⊕ ρ)} {fin : σ → ρ} {s : σ} (g : Nat → α → σ → σ ⊕ ρ) (hl : l.length ≤ 9223372036854775807)
    (H : ∀ (i : Nat) x s, l[i]? = some x → Conv (f i s) (g i x s)) : Conv (forI 0 (l.length : Int) fin f s) (run g fin 0 l s) :=
  Conv_forI g (fun _ _ => True) hl trivial fun i x s hx _ => ⟨H i x s hx, fun _ _ => trivial⟩
theorem Conv.of {m : M α} {r r' : α} (h : Conv m r) (e : r = r') : Conv m r' := e ▸ h
theorem Conv_ite {b : Bool} {x y : M α} {r : α} (h1 : b = true → Conv x r) (h2 : b = false → Conv y r) : Conv (ite b x y) r := by
  cases b
  · exact h2 rfl
  · exact h1 rfl
theorem Conv_ite2 {b : Bool} {x y : M α} {r s : α} (h1 : b = true → Conv x r) (h2 : b = false → Conv y s) : Conv (ite b x y) (bif b then r else s) := by
  cases b
  · exact h2 rfl
  · exact h1 rfl
theorem Conv_guard {b : Bool} (h : b = true) : Conv (guard b) () := ⟨0, fun _ _ => by simp [guard, h]⟩
theorem Conv_upd {l : List α} {i : Nat} {x : α} (h : i < l.length) : Conv (upd l i x) (l.set i x) := ⟨0, fun _ _ => by simp [upd, h]⟩
theorem Conv_get {l : List α} {i : Int} {x : α} (h0 : 0 ≤ i) (h : l[i.toNat]? = some x) : Conv (idx l i) x := ⟨0, fun _ _ => by simp [idx, h0, h]⟩
/-- a value told in both ways of a test, then the rest -/
theorem Conv_bite {b : Bool} {x y : M α} {f : α → M β} {u v : α} {r : β} (h1 : b = true → Conv x u) (h2 : b = false → Conv y v) (g : Conv (f (bif b then u else v)) r) : Conv (bind (ite b x y) f) r :=
  Conv_bind (Conv_ite2 h1 h2) g

/-! searches: a loop that leaves at the first element of a kind -/
theorem run_all (p : α → Bool) (u : Unit ⊕ ρ) : ∀ (i : Nat) (l : List α), run (ρ := Unit ⊕ ρ) (fun _ x _ => bif p x then .inl () else .inr u) (fun s => .inl s) i l () = bif l.all p then .inl () else u
  | _, [] => rfl
  | i, x :: xs => by
    simp only [run, List.all_cons]
    cases p x
    · rfl
    · simpa using run_all p u (i + 1) xs
/-- 'for .. if not p x, return v' -/
theorem Conv_all {l : List α} {f : Int → Unit → M (Unit ⊕ (Unit ⊕ ρ))} (p : α → Bool) (v : ρ) (hl : l.length ≤ 9223372036854775807) (H : ∀ (i : Nat) x, l[i]? = some x → Conv (f i ()) (bif p x then .inl () else .inr (.inr v))) :
    Conv (forI 0 (l.length : Int) (fun s => .inl s) f ()) (bif l.all p then .inl () else .inr v) :=
  (Conv_forL (fun _ x _ => bif p x then .inl () else .inr (.inr v)) hl fun i x _ hx => H i x hx).of (run_all p (.inr v) 0 l)
/-- the same, where the element's place matters to the test -/
theorem run_allI (p : Nat → α → Bool) (u : Unit ⊕ ρ) : ∀ (i : Nat) (l : List α), run (ρ := Unit ⊕ ρ) (fun j x _ => bif p j x then .inl () else .inr u) (fun s => .inl s) i l () = bif (l.zipIdx i).all (fun q => p q.2 q.1) then .inl () else u
  | _, [] => rfl
  | i, x :: xs => by
    simp only [run, List.zipIdx_cons, List.all_cons]
    cases p i x
    · rfl
    · simpa using run_allI p u (i + 1) xs
theorem Conv_allI {l : List α} {f : Int → Unit → M (Unit ⊕ (Unit ⊕ ρ))} (p : Nat → α → Bool) (v : ρ) (hl : l.length ≤ 9223372036854775807) (H : ∀ (i : Nat) x, l[i]? = some x → Conv (f i ()) (bif p i x then .inl () else .inr (.inr v))) :
    Conv (forI 0 (l.length : Int) (fun s => .inl s) f ()) (bif (l.zipIdx 0).all (fun q => p q.2 q.1) then .inl () else .inr v) :=
  (Conv_forL (fun j x _ => bif p j x then .inl () else .inr (.inr v)) hl fun i x _ hx => H i x hx).of (run_allI p (.inr v) 0 l)
/-- 'for i .. if p x, return i' -/
theorem run_find (p : α → Bool) : ∀ (i : Nat) (l : List α), run (σ := Unit) (ρ := Unit ⊕ Int) (fun j x _ => bif p x then .inr (.inr (j : Int)) else .inl ()) (fun s => .inl s) i l () = match l.findIdx? p with
    | some j => .inr ((i + j : Nat) : Int)
    | none => .inl ()
  | _, [] => rfl
  | i, x :: xs => by
    simp only [run, List.findIdx?_cons]
    cases hp : p x
    · simp only [cond_false, run_find p (i + 1) xs, Bool.false_eq_true, if_false]
      cases xs.findIdx? p with
      | none => rfl
      | some j => simp only [Option.map_some]; congr 2; omega
    · simp
theorem Conv_find {l : List α} {f : Int → Unit → M (Unit ⊕ (Unit ⊕ Int))} (p : α → Bool) (hl : l.length ≤ 9223372036854775807) (H : ∀ (i : Nat) x, l[i]? = some x → Conv (f i ()) (bif p x then .inr (.inr (i : Int)) else .inl ())) :
    Conv (forI 0 (l.length : Int) (fun s => .inl s) f ()) (match l.findIdx? p with | some j => .inr (j : Int) | none => .inl ()) :=
  (Conv_forL (fun j x _ => bif p x then .inr (.inr (j : Int)) else .inl ()) hl fun i x _ hx => H i x hx).of (by rw [run_find]; simp)
/-- sums: each round turns what has been gathered -/
theorem run_fold (g : σ → α → σ) : ∀ (i : Nat) (l : List α) (s : σ), run (fun _ x s => .inl (g s x)) (fun s => s) i l s = l.foldl g s
  | _, [], _ => rfl
  | i, x :: xs, s => by simpa [run] using run_fold g (i + 1) xs (g s x)
theorem Conv_fold {l : List α} {f : Int → σ → M (σ ⊕ σ)} {s : σ} (g : σ → α → σ) (hl : l.length ≤ 9223372036854775807) (H : ∀ (i : Nat) x s, l[i]? = some x → Conv (f i s) (.inl (g s x))) :
    Conv (forI 0 (l.length : Int) (fun s => s) f s) (l.foldl g s) :=
  (Conv_forL (fun _ x s => .inl (g s x)) hl fun i x s hx => H i x s hx).of (run_fold g 0 l s)
theorem get_set_append {l r : List α} {x y : α} : (l ++ y :: r).set l.length x = l ++ x :: r := by simp
/-- a loop that fills a list of the same length, element by element -/
theorem run_fill (g : Nat → α → β) (z : β) : ∀ (i : Nat) (l : List α) (d : List β), d.length = i →
    run (fun j x s => .inl (s.set j (g j x))) (fun s => s) i l (d ++ List.replicate l.length z) = d ++ (l.zipIdx i).map (fun q => g q.2 q.1)
  | _, [], d, _ => by simp [run]
  | i, x :: xs, d, hd => by
    subst hd
    simp only [run, List.length_cons, List.replicate_succ, get_set_append]
    have := run_fill g z (d.length + 1) xs (d ++ [g d.length x]) (by simp)
    simp only [List.append_assoc, List.singleton_append] at this
    rw [this]
    simp
theorem Conv_fill {l : List α} {f : Int → List β → M (List β ⊕ List β)} (g : Nat → α → β) (z : β) (hl : l.length ≤ 9223372036854775807)
    (H : ∀ (i : Nat) x s, l[i]? = some x → s.length = l.length → Conv (f i s) (.inl (s.set i (g i x)))) :
    Conv (forI 0 (l.length : Int) (fun s => s) f (List.replicate l.length z)) ((l.zipIdx 0).map (fun q => g q.2 q.1)) := by
  refine (Conv_forI (fun j x s => .inl (s.set j (g j x))) (fun _ s => s.length = l.length) hl (by simp) fun i x s hx hI => ⟨H i x s hx hI, fun s' e => ?_⟩).of ?_
  · cases e; simpa using hI
  · simpa using run_fill g z 0 l [] rfl
theorem zipIdx_map_fst {l : List α} {g : α → β} {i : Nat} : ((l.zipIdx i).map fun q => g q.1) = l.map g := by
  have h : List.map (g ∘ Prod.fst) (l.zipIdx i) = List.map g l := by rw [← List.map_map, List.zipIdx_map_fst]
  exact h
theorem findIdx_any {l : List α} {p : α → Bool} : (decide ((0:Int) ≤ match l.findIdx? p with | some j => (j : Int) | none => -1)) = l.any p := by
  cases h : l.findIdx? p with
  | none => rw [List.findIdx?_eq_none_iff] at h; simp; exact fun x hx => by simpa using h x hx
  | some j =>
    obtain ⟨hj, hp, _⟩ := List.findIdx?_eq_some_iff_getElem.1 h
    simp
    exact ⟨_, List.getElem_mem hj, hp⟩
end M

def finB (x : Int) : Bool := decide (-1000000 ≤ x) && decide (x ≤ 1000000)
def valB (x : Int) : Bool := x == (-1000000000000000) || finB x
theorem spec_l01In_ok (x lo hi : Int) : M.Conv (spec_l01In x lo hi) (decide (lo ≤ x) && decide (x ≤ hi)) := M.Conv_ret _
theorem spec_l01Finite_ok (x : Int) : M.Conv (spec_l01Finite x) (finB x) := M.Conv_bind (spec_l01In_ok _ _ _) (M.Conv_ret _)
theorem spec_IsValue_ok (x : Int) : M.Conv (spec_IsValue x) (valB x) := by
  unfold spec_IsValue
  refine M.Conv_bind (M.Conv_ite (r := valB x) (fun h => ?_) (fun h => ?_)) (M.Conv_ret _)
  · simp only [valB, h, Bool.true_or]; exact M.Conv_ret _
  · simp only [valB, h, Bool.false_or]; exact M.Conv_bind (spec_l01Finite_ok x) (M.Conv_ret _)
theorem spec_l01All_ok {l : List Int} (f : Bool) (hl : l.length ≤ 9223372036854775807) : M.Conv (spec_l01All l f) (l.all fun x => valB x && !(f && x == (-1000000000000000))) := by
  unfold spec_l01All
  refine M.Conv_bind (M.Conv_all (fun x => valB x && !(f && x == (-1000000000000000))) false hl fun i x hx => ?_) ?_
  · refine M.Conv_bind (M.Conv_get (by omega) (by simpa using hx)) (M.Conv_bind (spec_IsValue_ok x) ?_)
    refine M.Conv_bind (x := !(valB x && !(f && x == (-1000000000000000)))) (M.Conv_ite (fun h => ?_) (fun h => ?_)) ?_
    · simp at h; simp [h]; exact M.Conv_ret _
    · simp at h
      refine M.Conv_bind (x := (f && x == (-1000000000000000))) (M.Conv_ite (fun h => ?_) (fun h => ?_)) (by simp [h]; exact M.Conv_ret _)
      · simp [h]; exact M.Conv_bind (M.Conv_get (by omega) (by simpa using hx)) (M.Conv_ret _)
      · simp [h]; exact M.Conv_ret _
    · cases (valB x && !(f && x == (-1000000000000000))) <;> exact M.Conv_ret _
  · cases (l.all fun x => valB x && !(f && x == (-1000000000000000))) <;> exact M.Conv_ret _
theorem impl_within_ok (x lo hi : Int) : M.Conv (impl_within x lo hi) (decide (lo ≤ x) && decide (x ≤ hi)) := M.Conv_ret _
theorem impl_isFinite_ok (x : Int) : M.Conv (impl_isFinite x) (finB x) := M.Conv_bind (impl_within_ok _ _ _) (M.Conv_ret _)
theorem impl_IsValue_ok (x : Int) : M.Conv (impl_IsValue x) (valB x) := by
  unfold impl_IsValue
  refine M.Conv_bind (M.Conv_ite (r := valB x) (fun h => ?_) (fun h => ?_)) (M.Conv_ret _)
  · simp only [valB, h, Bool.true_or]; exact M.Conv_ret _
  · simp only [valB, h, Bool.false_or]; exact M.Conv_bind (impl_isFinite_ok x) (M.Conv_ret _)
/-- 'slices.ContainsFunc', behind 'slices.IndexFunc' -/
theorem contains_ok {α : Type} {l : List α} {f : Int → Unit → M (Unit ⊕ (Unit ⊕ Int))} (p : α → Bool) (hl : l.length ≤ 9223372036854775807) (H : ∀ (i : Nat) x, l[i]? = some x → M.Conv (f i ()) (bif p x then .inr (.inr (i : Int)) else .inl ())) :
    M.Conv (M.bind (M.bind (M.forI 0 (l.length : Int) (fun s => .inl s) f ()) (fun x1 => M.cont x1 (fun _ => M.ret (-1)) (fun r => M.ret r))) (fun x1 => M.ret (decide (0 ≤ x1)))) (l.any p) := by
  rw [← M.findIdx_any]
  refine M.Conv_bind (M.Conv_bind (M.Conv_find p hl H) ?_) (M.Conv_ret _)
  cases l.findIdx? p <;> exact M.Conv_ret _
theorem any_not {α : Type} {l : List α} {p : α → Bool} : (!l.any fun x => !p x) = l.all p := by
  induction l with
  | nil => rfl
  | cons x xs ih => simp only [List.any_cons, List.all_cons, Bool.not_or, Bool.not_not, ih]
theorem impl_areValues_ok {l : List Int} (hl : l.length ≤ 9223372036854775807) : M.Conv (impl_areValues l) (l.all valB) := by
  unfold impl_areValues slices_ContainsFunc_int_F_impl_areValues_1 slices_IndexFunc_int_F_impl_areValues_1
  refine M.Conv_bind (contains_ok (fun x => !valB x) hl fun i x hx => ?_) ((M.Conv_ret _).of any_not)
  refine M.Conv_bind (M.Conv_get (by omega) (by simpa using hx)) ?_
  refine M.Conv_bind (x := !valB x) (M.Conv_bind (impl_IsValue_ok x) (M.Conv_ret _)) ?_
  cases valB x <;> exact M.Conv_ret _
theorem mx_eq (a b : Int) : mx a b = max a b := by unfold mx; split <;> omega
def smI (l : List Int) : Prop := l.length ≤ 1099511627776
theorem finB_bd {x : Int} (h : finB x = true) : -1000000 ≤ x ∧ x ≤ 1000000 := by simpa [finB] using h
theorem val_ne {x : Int} (h : valB x = true) (hn : (x == (-1000000000000000)) = false) : finB x = true := by simpa [valB, hn] using h
/-- an index below k, whose coefficient is finite -/
def termB (c : List Int) (k : Nat) (t : Int) : Prop := 0 ≤ t ∧ t < k ∧ ∃ x, c[t.toNat]? = some x ∧ finB x = true
/-- two programs, one answer -/
def Two {α : Type} (m m' : M α) (Post : α → Prop) : Prop := ∃ r, M.Conv m r ∧ M.Conv m' r ∧ Post r
theorem Two.mk {α : Type} {m m' : M α} {Post : α → Prop} {r : α} (h : M.Conv m r) (h' : M.Conv m' r) (p : Post r) : Two m m' Post := ⟨r, h, h', p⟩
theorem Two.ret {α : Type} {Post : α → Prop} (r : α) (p : Post r) : Two (M.ret r) (M.ret r) Post := ⟨r, M.Conv_ret _, M.Conv_ret _, p⟩
theorem Two.bind {α β : Type} {m m' : M α} {f f' : α → M β} {P : α → Prop} {Q : β → Prop} (h : Two m m' P) (g : ∀ x, P x → Two (f x) (f' x) Q) : Two (M.bind m f) (M.bind m' f') Q := by
  obtain ⟨x, h1, h2, p⟩ := h
  obtain ⟨r, g1, g2, q⟩ := g x p
  exact ⟨r, M.Conv_bind h1 g1, M.Conv_bind h2 g2, q⟩
theorem Two.bindC {α α' β : Type} {m : M α} {m' : M α'} {f : α → M β} {f' : α' → M β} {Q : β → Prop} {x : α} {x' : α'} (h : M.Conv m x) (h' : M.Conv m' x') (g : Two (f x) (f' x') Q) : Two (M.bind m f) (M.bind m' f') Q := by
  obtain ⟨r, g1, g2, q⟩ := g
  exact ⟨r, M.Conv_bind h g1, M.Conv_bind h' g2, q⟩
theorem Two.left {α β : Type} {m : M α} {m' : M β} {f : α → M β} {Q : β → Prop} {x : α} (h : M.Conv m x) (g : Two (f x) m' Q) : Two (M.bind m f) m' Q := by
  obtain ⟨r, g1, g2, q⟩ := g
  exact ⟨r, M.Conv_bind h g1, g2, q⟩
theorem Two.right {α β : Type} {m : M α} {m' : M β} {f : α → M β} {Q : β → Prop} {x : α} (h : M.Conv m x) (g : Two m' (f x) Q) : Two m' (M.bind m f) Q := by
  obtain ⟨r, g1, g2, q⟩ := g
  exact ⟨r, g1, M.Conv_bind h g2, q⟩
theorem Two.ite {α : Type} {b : Bool} {x y x' y' : M α} {Q : α → Prop} (h1 : b = true → Two x x' Q) (h2 : b = false → Two y y' Q) : Two (M.ite b x y) (M.ite b x' y') Q := by
  cases b
  · exact h2 rfl
  · exact h1 rfl
theorem Two.iteL {α : Type} {b : Bool} {x y m' : M α} {Q : α → Prop} (h1 : b = true → Two x m' Q) (h2 : b = false → Two y m' Q) : Two (M.ite b x y) m' Q := by
  cases b
  · exact h2 rfl
  · exact h1 rfl
theorem Two.iteR {α : Type} {b : Bool} {x y m' : M α} {Q : α → Prop} (h1 : b = true → Two m' x Q) (h2 : b = false → Two m' y Q) : Two m' (M.ite b x y) Q := by
  cases b
  · exact h2 rfl
  · exact h1 rfl
theorem Two.mono {α : Type} {m m' : M α} {P Q : α → Prop} (h : Two m m' P) (hp : ∀ r, P r → Q r) : Two m m' Q := let ⟨r, a, b, c⟩ := h; ⟨r, a, b, hp r c⟩
theorem two_forN {σ ρ : Type} {hi : Int} {fin : σ → ρ} {f f' : Int → σ → M (σ ⊕ ρ)} {Post : ρ → Prop} (I : Int → σ → Prop) (lo : Int)
    (round : ∀ i s, lo ≤ i → i < hi → I i s → Two (f i s) (f' i s) fun y => (∃ s', y = .inl s' ∧ I (i + 1) s') ∨ (∃ r, y = .inr r ∧ Post r)) :
    ∀ (d : Nat) (i : Int) (s : σ), (hi - i).toNat = d → lo ≤ i → (i ≤ hi ∨ i = lo) → I i s → (∀ i s, (i = hi ∨ i = lo ∧ hi ≤ lo) → I i s → Post (fin s)) → ∃ r, (∃ N, ∀ n, N ≤ n → M.forN hi fin f n d i s = some r) ∧ (∃ N, ∀ n, N ≤ n → M.forN hi fin f' n d i s = some r) ∧ Post r
  | 0, i, s, hd, h1, h2, hI, fi => by
    have hge : ¬ i < hi := by omega
    exact ⟨fin s, ⟨0, fun n _ => by simp [M.forN, hge]⟩, ⟨0, fun n _ => by simp [M.forN, hge]⟩, fi i s (by omega) hI⟩
  | d + 1, i, s, hd, h1, h2, hI, fi => by
    have hlt : i < hi := by omega
    obtain ⟨y, ⟨N, hy⟩, ⟨N', hy'⟩, hc⟩ := round i s h1 hlt hI
    rcases hc with ⟨s', rfl, hI'⟩ | ⟨r, rfl, hp⟩
    · obtain ⟨r, ⟨N1, h3⟩, ⟨N2, h4⟩, hp⟩ := two_forN (fin := fin) I lo round d (i + 1) s' (by omega) (by omega) (by omega) hI' fi
      exact ⟨r, ⟨max N N1, fun n hn => by simp [M.forN, hlt, hy n (by omega), h3 n (by omega)]⟩, ⟨max N' N2, fun n hn => by simp [M.forN, hlt, hy' n (by omega), h4 n (by omega)]⟩, hp⟩
    · exact ⟨r, ⟨N, fun n hn => by simp [M.forN, hlt, hy n hn]⟩, ⟨N', fun n hn => by simp [M.forN, hlt, hy' n hn]⟩, hp⟩
theorem Two.for {σ ρ : Type} {lo hi : Int} {fin : σ → ρ} {f f' : Int → σ → M (σ ⊕ ρ)} {s : σ} {Post : ρ → Prop} (I : Int → σ → Prop) (hlo : -9223372036854775808 ≤ lo) (hhi : hi ≤ 9223372036854775807) (h0 : I lo s)
    (round : ∀ i s, lo ≤ i → i < hi → I i s → Two (f i s) (f' i s) fun y => (∃ s', y = .inl s' ∧ I (i + 1) s') ∨ (∃ r, y = .inr r ∧ Post r)) (done : ∀ i s, (i = hi ∨ i = lo ∧ hi ≤ lo) → I i s → Post (fin s)) :
    Two (M.forI lo hi fin f s) (M.forI lo hi fin f' s) Post := by
  obtain ⟨r, ⟨N, h1⟩, ⟨N', h2⟩, hp⟩ := two_forN (fin := fin) I lo round _ lo s rfl (Int.le_refl _) (.inr rfl) h0 done
  exact ⟨r, ⟨N, fun n hn => by simp [M.forI, hlo, hhi, h1 n hn]⟩, ⟨N', fun n hn => by simp [M.forI, hlo, hhi, h2 n hn]⟩, hp⟩
def timesI (a b : Int) : Int := bif (a == (-1000000000000000)) || (b == (-1000000000000000)) then (-1000000000000000) else w64 (a + b)
theorem spec_l01Times_ok (a b : Int) : M.Conv (spec_l01Times a b) (timesI a b) := M.Conv_ite2 (fun _ => M.Conv_ret _) (fun _ => M.Conv_ret _)
/-- a vector: one to ten values -/
def vecB (x : List Int) : Bool := decide (1 ≤ x.length) && decide (x.length ≤ 10) && x.all valB
theorem spec_l02Vector_ok {x : List Int} (hl : x.length ≤ 9223372036854775807) : M.Conv (spec_l02Vector x) (vecB x) := by
  unfold spec_l02Vector
  refine M.Conv_bind (spec_l01In_ok _ _ _) (M.Conv_bind (x := vecB x) (M.Conv_ite (fun h => ?_) (fun h => ?_)) (M.Conv_ret _))
  · refine M.Conv_bind (spec_l01All_ok false hl) ((M.Conv_ret _).of ?_)
    simp at h
    simp [vecB, show 1 ≤ x.length by omega, show x.length ≤ 10 by omega]
  · refine (M.Conv_ret _).of ?_
    simp only [vecB]
    rw [show (decide (1 ≤ x.length) && decide (x.length ≤ 10)) = false by rw [← h]; congr 1 <;> simp <;> omega]; rfl
theorem spec_l01Value_ok (a : Int) : M.Conv (spec_l01Value a) (bif valB a then (a, 0) else (0, 3)) := by
  refine M.Conv_bind (spec_IsValue_ok a) (M.Conv_ite (fun h => ?_) (fun h => ?_))
  · simp only [Bool.not_eq_true'] at h; rw [h]; exact M.Conv_ret _
  · simp only [Bool.not_eq_false'] at h; rw [h]; exact M.Conv_ret _
theorem impl_checkedValue_ok (a : Int) : M.Conv (impl_checkedValue a) (bif valB a then (a, 0) else (0, 3)) := by
  refine M.Conv_bind (impl_IsValue_ok a) (M.Conv_ite (fun h => ?_) (fun h => ?_))
  · simp only [Bool.not_eq_true'] at h; rw [h]; exact M.Conv_ret _
  · simp only [Bool.not_eq_false'] at h; rw [h]; exact M.Conv_ret _
theorem Two.ofConv {α : Type} {m m' : M α} {P : α → Prop} {r : α} (h : M.Conv m r) (h' : M.Conv m' r) (p : P r) : Two m m' P := ⟨r, h, h', p⟩
def okTPlace (p : TPlace) : Prop := inI64 p.From ∧ inI64 p.To ∧ inI64 p.Delay ∧ inI64 p.Tokens
def okTGraph (g : TGraph) : Prop := inI64 g.Events ∧ fitL okTPlace g.Places
def smP (l : List TPlace) : Prop := l.length ≤ 1099511627
def smG (g : TGraph) : Prop := smP g.Places
def smII (a : List (List Int)) : Prop := a.length ≤ 1048576 ∧ ∀ r ∈ a, r.length ≤ 1048576
def widthN (a : List (List Int)) : Nat := (a.headD []).length
def matB (a : List (List Int)) : Bool := (decide (1 ≤ a.length) && decide (a.length ≤ 10)) && ((decide (1 ≤ widthN a) && decide (widthN a ≤ 10)) && a.all fun r => decide (r.length = widthN a) && r.all valB)
/-- a matrix of w columns -/
structure Mat (a : List (List Int)) (w : Nat) : Prop where
  rows : 1 ≤ a.length ∧ a.length ≤ 10
  cols : 1 ≤ w ∧ w ≤ 10
  row : ∀ r ∈ a, r.length = w ∧ ∀ x ∈ r, valB x = true
theorem matB_mat {a : List (List Int)} (h : matB a = true) : Mat a (widthN a) := by
  simp only [matB, Bool.and_eq_true, decide_eq_true_eq, List.all_eq_true] at h
  exact ⟨h.1, h.2.1, fun r hr => ⟨(h.2.2 r hr).1, (h.2.2 r hr).2⟩⟩
theorem Mat.head {a : List (List Int)} {w : Nat} (h : Mat a w) : ∃ r, a[0]? = some r ∧ r.length = w := by
  have := h.rows
  exact ⟨a[0], List.getElem?_eq_getElem (by omega), (h.row _ (List.getElem_mem (by omega))).1⟩
theorem spec_IsMatrix_ok {a : List (List Int)} (h : smII a) : M.Conv (spec_IsMatrix a) (matB a) := by
  unfold spec_IsMatrix
  have hl := h.1
  refine M.Conv_ite (fun q => (M.Conv_ret _).of ?_) (fun q => ?_)
  · simp only [Bool.or_eq_true, decide_eq_true_eq] at q
    have : (decide (1 ≤ a.length) && decide (a.length ≤ 10)) = false := by
      rcases q with q | q
      · rw [decide_eq_false (show ¬ 1 ≤ a.length by omega)]; rfl
      · rw [decide_eq_false (show ¬ a.length ≤ 10 by omega)]; simp
    simp [matB, this]
  · simp only [Bool.or_eq_false_iff, decide_eq_false_iff_not] at q
    obtain ⟨r0, rs, rfl⟩ := List.exists_cons_of_ne_nil (l := a) (by rintro rfl; simp at q)
    refine M.Conv_bind (M.Conv_all (fun r => vecB r && decide (r.length = r0.length)) false (by omega) fun i r hr => ?_) ?_
    · have hrl := h.2 r (List.mem_of_getElem? hr)
      have hg : M.Conv (M.idx (r0 :: rs) i) r := M.Conv_get (by omega) (by simpa using hr)
      refine M.Conv_bind hg (M.Conv_bind (spec_l02Vector_ok (by omega)) (M.Conv_bind (x := !(vecB r && decide (r.length = r0.length))) (M.Conv_ite (fun b => ?_) (fun b => ?_)) ?_))
      · simp only [Bool.not_eq_true'] at b; rw [b]; exact M.Conv_ret _
      · simp only [Bool.not_eq_false'] at b
        rw [b]
        refine M.Conv_bind hg (M.Conv_bind (M.Conv_get (x := r0) (by omega) rfl) ((M.Conv_ret _).of ?_))
        simp only [Bool.true_and, bne]
        congr 1
        rw [Bool.eq_iff_iff]; simp; omega
      · cases (vecB r && decide (r.length = r0.length)) <;> exact M.Conv_ret _
    · have e : matB (r0 :: rs) = (r0 :: rs).all fun r => vecB r && decide (r.length = r0.length) := by
        have L : matB (r0 :: rs) = true ↔ ((1 ≤ (r0 :: rs).length ∧ (r0 :: rs).length ≤ 10) ∧ ((1 ≤ r0.length ∧ r0.length ≤ 10) ∧ ∀ r ∈ r0 :: rs, r.length = r0.length ∧ r.all valB = true)) := by
          have e0 : matB (r0 :: rs) = ((decide (1 ≤ (r0 :: rs).length) && decide ((r0 :: rs).length ≤ 10)) && ((decide (1 ≤ r0.length) && decide (r0.length ≤ 10)) && (r0 :: rs).all fun r => decide (r.length = r0.length) && r.all valB)) := rfl
          rw [e0, Bool.and_eq_true, Bool.and_eq_true, Bool.and_eq_true, Bool.and_eq_true, List.all_eq_true]
          simp only [decide_eq_true_eq, Bool.and_eq_true]
        have R : ∀ r : List Int, (vecB r && decide (r.length = r0.length)) = true ↔ ((1 ≤ r.length ∧ r.length ≤ 10) ∧ r.all valB = true) ∧ r.length = r0.length := by
          intro r
          unfold vecB
          simp only [Bool.and_eq_true, decide_eq_true_eq]
        rw [Bool.eq_iff_iff, List.all_eq_true, L]
        constructor
        · rintro ⟨_, ⟨h1, h2⟩, h3⟩ r hr
          obtain ⟨e1, e2⟩ := h3 r hr
          exact (R r).2 ⟨⟨⟨by omega, by omega⟩, e2⟩, e1⟩
        · intro hh
          obtain ⟨⟨⟨e1, e2⟩, _⟩, _⟩ := (R r0).1 (hh r0 List.mem_cons_self)
          exact ⟨⟨by omega, by omega⟩, ⟨e1, e2⟩, fun r hr => ⟨((R r).1 (hh r hr)).2, ((R r).1 (hh r hr)).1.2⟩⟩
      rw [e]
      cases ((r0 :: rs).all fun r => vecB r && decide (r.length = r0.length)) <;> exact M.Conv_ret _
theorem impl_IsMatrix_ok {a : List (List Int)} (h : smII a) : M.Conv (impl_IsMatrix a) (matB a) := by
  unfold impl_IsMatrix slices_ContainsFunc_row_F_impl_IsMatrix_1 slices_IndexFunc_row_F_impl_IsMatrix_1
  have hl := h.1
  refine M.Conv_bind (impl_within_ok _ _ _) ?_
  have e0 : (decide (1 ≤ (a.length : Int)) && decide ((a.length : Int) ≤ 10)) = (decide (1 ≤ a.length) && decide (a.length ≤ 10)) := by
    rw [decide_eq_decide.2 (show (1 : Int) ≤ a.length ↔ 1 ≤ a.length by omega), decide_eq_decide.2 (show (a.length : Int) ≤ 10 ↔ a.length ≤ 10 by omega)]
  rw [e0]
  cases hb : (decide (1 ≤ a.length) && decide (a.length ≤ 10)) with
  | false => exact M.Conv_bind (x := true) (M.Conv_ret _) ((M.Conv_ret _).of (by simp [matB, hb]))
  | true =>
    simp only [Bool.and_eq_true, decide_eq_true_eq] at hb
    obtain ⟨r0, rs, rfl⟩ := List.exists_cons_of_ne_nil (l := a) (by rintro rfl; simp at hb)
    have e1 : (decide (1 ≤ (r0.length : Int)) && decide ((r0.length : Int) ≤ 10)) = (decide (1 ≤ widthN (r0 :: rs)) && decide (widthN (r0 :: rs) ≤ 10)) := by
      rw [decide_eq_decide.2 (show (1 : Int) ≤ r0.length ↔ 1 ≤ r0.length by omega), decide_eq_decide.2 (show (r0.length : Int) ≤ 10 ↔ r0.length ≤ 10 by omega)]; rfl
    refine M.Conv_bind (x := !(decide (1 ≤ widthN (r0 :: rs)) && decide (widthN (r0 :: rs) ≤ 10))) (M.Conv_ite (fun q => by simp at q) (fun _ => M.Conv_bind (M.Conv_get (x := r0) (by omega) rfl) (M.Conv_bind (impl_within_ok _ _ _) ((M.Conv_ret _).of (by rw [e1]))))) ?_
    have e2 : matB (r0 :: rs) = ((decide (1 ≤ widthN (r0 :: rs)) && decide (widthN (r0 :: rs) ≤ 10)) && (r0 :: rs).all fun r => decide (r.length = widthN (r0 :: rs)) && r.all valB) := by
      simp only [matB, decide_eq_true hb.1, decide_eq_true hb.2, Bool.true_and]
    rw [e2]
    cases (decide (1 ≤ widthN (r0 :: rs)) && decide (widthN (r0 :: rs) ≤ 10)) with
    | false => exact M.Conv_ret _
    | true =>
      refine M.Conv_ite (fun q => by simp at q) (fun _ => ?_)
      refine M.Conv_bind (contains_ok (fun r => !(decide (r.length = widthN (r0 :: rs)) && r.all valB)) (by omega) fun i r hr => ?_) ((M.Conv_ret _).of (by rw [any_not, Bool.true_and]))
      have hrl := h.2 r (List.mem_of_getElem? hr)
      refine M.Conv_bind (M.Conv_get (by omega) (by simpa using hr)) (M.Conv_bind (x := !(decide (r.length = widthN (r0 :: rs)) && r.all valB)) (M.Conv_bind (M.Conv_get (x := r0) (by omega) rfl) (M.Conv_bind (x := !(decide (r.length = widthN (r0 :: rs)) && r.all valB)) (M.Conv_ite (fun q => ?_) (fun q => ?_)) (M.Conv_ret _))) ?_)
      · have : r.length ≠ widthN (r0 :: rs) := fun e => by rw [show r.length = r0.length from e] at q; simp at q
        rw [decide_eq_false this]; exact M.Conv_ret _
      · have : r.length = widthN (r0 :: rs) := Int.ofNat.inj (show (r.length : Int) = r0.length by simpa using q)
        rw [decide_eq_true this]; exact M.Conv_bind (impl_areValues_ok (by omega)) (M.Conv_ret _)
      · cases (decide (r.length = widthN (r0 :: rs)) && r.all valB) <;> exact M.Conv_ret _

def foldI {α σ : Type} (g : Nat → α → σ → σ) : Nat → List α → σ → σ
  | _, [], s => s
  | i, x :: xs, s => foldI g (i + 1) xs (g i x s)
theorem val_cases {x : Int} (h : valB x = true) : x = -1000000000000000 ∨ (-1000000 ≤ x ∧ x ≤ 1000000) := by
  cases hb : (x == (-1000000000000000)) with
  | true => left; simpa using hb
  | false => right; exact finB_bd (val_ne h hb)
theorem Mat.get {a : List (List Int)} {w i : Nat} {row : List Int} (hm : Mat a w) (h : a[i]? = some row) {j : Nat} (hj : j < w) : M.Conv (M.idx row (j : Int)) ((row[j]?).getD 0) ∧ valB ((row[j]?).getD 0) = true := by
  obtain ⟨e1, e2⟩ := hm.row row (List.mem_of_getElem? h)
  rw [List.getElem?_eq_getElem (by omega)]
  exact ⟨M.Conv_get (by omega) (by simp [show j < row.length by omega]), e2 _ (List.getElem_mem _)⟩
theorem get_row {a : List (List Int)} {i : Nat} {row : List Int} (h : a[i]? = some row) : M.Conv (M.idx a (i : Int)) row := M.Conv_get (by omega) (by simpa using h)
def dotL (x row : List Int) : Int := foldI (fun j v s => mx s (timesI v ((x[j]?).getD 0))) 0 row (-1000000000000000)
theorem Conv_forV {σ : Type} {n : Nat} {f : Int → σ → M (σ ⊕ σ)} (val : Nat → σ) (hn : n ≤ 9223372036854775807) (h : ∀ i, i < n → M.Conv (f i (val i)) (.inl (val (i + 1)))) : M.Conv (M.forI 0 (n : Int) (fun s => s) f (val 0)) (val n) := by
  have := M.Conv_forI (l := List.range n) (f := f) (fin := fun s => s) (s := val 0) (ρ := σ) (fun i _ _ => .inl (val (i + 1))) (fun i s => s = val i) (by simpa using hn) rfl (fun i x s hx hs => by
    subst hs
    have hi := (List.getElem?_eq_some_iff.1 hx).1
    exact ⟨h i (by simpa using hi), fun s' e => by cases e; rfl⟩)
  simp only [List.length_range] at this
  refine this.of ?_
  have run : ∀ (m i : Nat), M.run (σ := σ) (ρ := σ) (fun i (_ : Nat) _ => .inl (val (i + 1))) (fun s => s) i (List.range m) (val i) = val (i + m) := by
    have g : ∀ (l : List Nat) (i : Nat), M.run (σ := σ) (ρ := σ) (fun i (_ : Nat) _ => .inl (val (i + 1))) (fun s => s) i l (val i) = val (i + l.length) := by
      intro l
      induction l with
      | nil => intro i; rfl
      | cons x xs ih => intro i; simp only [M.run, List.length_cons]; rw [ih (i + 1)]; congr 1; omega
    intro m i
    rw [g, List.length_range]
  simpa using run n 0
def sqB (a : List (List Int)) : Bool := matB a && decide (a.length = widthN a)
theorem head_of_mat {a : List (List Int)} (h : matB a = true) : ∃ r, a[0]? = some r ∧ r.length = widthN a := (matB_mat h).head
theorem spec_l02Square_ok {a : List (List Int)} (h : smII a) : M.Conv (spec_l02Square a) (sqB a) := by
  refine M.Conv_bind (spec_IsMatrix_ok h) (M.Conv_bind (x := sqB a) (M.Conv_ite (fun q => ?_) (fun q => (M.Conv_ret _).of (by simp [sqB, q]))) (M.Conv_ret _))
  obtain ⟨r, h0, hl⟩ := head_of_mat q
  refine M.Conv_bind (get_row h0) ((M.Conv_ret _).of ?_)
  rw [hl, sqB, q, Bool.true_and]
  rw [Bool.eq_iff_iff]; simp; omega
theorem impl_isSquare_ok {a : List (List Int)} (h : smII a) : M.Conv (impl_isSquare a) (sqB a) := by
  refine M.Conv_bind (impl_IsMatrix_ok h) (M.Conv_bind (x := sqB a) (M.Conv_ite (fun q => ?_) (fun q => (M.Conv_ret _).of (by simp [sqB, q]))) (M.Conv_ret _))
  obtain ⟨r, h0, hl⟩ := head_of_mat q
  refine M.Conv_bind (get_row h0) ((M.Conv_ret _).of ?_)
  rw [hl, sqB, q, Bool.true_and]
  rw [Bool.eq_iff_iff]; simp; omega
theorem sq_mat {a : List (List Int)} (h : sqB a = true) : Mat a a.length := by
  simp only [sqB, Bool.and_eq_true, decide_eq_true_eq] at h
  have := matB_mat h.1
  rwa [← h.2] at this
def ConvL {σ ρ : Type} (f : σ → M (σ ⊕ ρ)) (s : σ) (r : ρ) : Prop := ∃ N m0, ∀ n, N ≤ n → ∀ m, m0 ≤ m → M.loopN f n m s = some r
theorem ConvL.conv {σ ρ : Type} {f : σ → M (σ ⊕ ρ)} {s : σ} {r : ρ} (h : ConvL f s r) : M.Conv (M.loop f s) r := by
  obtain ⟨N, m0, h⟩ := h
  exact ⟨max N m0, fun n hn => h n (by omega) n (by omega)⟩
theorem ConvL.step {σ ρ : Type} {f : σ → M (σ ⊕ ρ)} {s s' : σ} {r : ρ} (h1 : M.Conv (f s) (.inl s')) (h : ConvL f s' r) : ConvL f s r := by
  obtain ⟨N, h1⟩ := h1
  obtain ⟨N', m0, h⟩ := h
  refine ⟨max N N', m0 + 1, fun n hn m hm => ?_⟩
  obtain ⟨m, rfl⟩ : ∃ q, m = q + 1 := ⟨m - 1, by omega⟩
  simp only [M.loopN, h1 n (by omega)]
  exact h n (by omega) m (by omega)
theorem ConvL.stop {σ ρ : Type} {f : σ → M (σ ⊕ ρ)} {s : σ} {r : ρ} (h1 : M.Conv (f s) (.inr r)) : ConvL f s r := by
  obtain ⟨N, h1⟩ := h1
  refine ⟨N, 1, fun n hn m hm => ?_⟩
  obtain ⟨m, rfl⟩ : ∃ q, m = q + 1 := ⟨m - 1, by omega⟩
  simp only [M.loopN, h1 n hn]
def bitN (s j : Nat) : Nat := s / 2 ^ j % 2
def popN (s : Nat) : Nat := (List.range 10).foldl (fun t j => t + bitN s j) 0
def chk1 (s j : Nat) : Bool :=
  (ibit .and .i64 (ishr .i64 (s : Int) (IntKind.u64.wrap (j : Int))) 1 == (bitN s j : Int)) && (ibit .and .i64 (ishr .i64 (s : Int) (j : Int)) 1 == (bitN s j : Int)) && (ishl .i64 1 (IntKind.u64.wrap (j : Int)) == ((2 ^ j : Nat) : Int)) && (ishl .i64 1 (j : Int) == ((2 ^ j : Nat) : Int)) &&
  (ibit .or .i64 (s : Int) (ishl .i64 1 (j : Int)) == (bif bitN s j == 1 then (s : Int) else ((s + 2 ^ j : Nat) : Int))) && (bif bitN s j == 1 then decide (2 ^ j ≤ s) && (popN (s - 2 ^ j) + 1 == popN s) && (bitN (s - 2 ^ j) j == 0) else bitN s j == 0) && decide (IntKind.u64.wrap (j : Int) = (j : Int))
theorem chk1_all : ((List.range 1024).all fun s => (List.range 10).all fun j => chk1 s j) = true := by decide +kernel
def chk2 (s : Nat) : Bool := (math_bits_OnesCount (IntKind.u64.wrap (s : Int)) 0 == some (popN s : Int)) && decide (popN s ≤ 10) && (decide (s = 0) || decide (1 ≤ popN s))
theorem chk2_all : ((List.range 1024).all chk2) = true := by decide +kernel
def chk3 (n s : Nat) : Bool := (popN (2 ^ n - 1 - s) + popN s == n) && (List.range n).all fun j => (bitN (2 ^ n - 1 - s) j + bitN s j == 1)
theorem chk3_all : ((List.range 11).all fun n => (List.range (2 ^ n)).all fun s => chk3 n s) = true := by decide +kernel
theorem chk4_all : ((List.range 11).all fun n => (ishl .i64 1 (IntKind.u64.wrap (n : Int)) == ((2 ^ n : Nat) : Int)) && (ishl .i64 1 (n : Int) == ((2 ^ n : Nat) : Int)) && decide (2 ^ n ≤ 1024) && decide (1 ≤ 2 ^ n) && decide (0 ≤ IntKind.u64.wrap (n : Int))) = true := by decide +kernel
structure Bit (s j : Nat) : Prop where
  andU : ibit .and .i64 (ishr .i64 (s : Int) (IntKind.u64.wrap (j : Int))) 1 = (bitN s j : Int)
  and : ibit .and .i64 (ishr .i64 (s : Int) (j : Int)) 1 = (bitN s j : Int)
  shlU : ishl .i64 1 (IntKind.u64.wrap (j : Int)) = ((2 ^ j : Nat) : Int)
  shl : ishl .i64 1 (j : Int) = ((2 ^ j : Nat) : Int)
  or : ibit .or .i64 (s : Int) (ishl .i64 1 (j : Int)) = (bif bitN s j == 1 then (s : Int) else ((s + 2 ^ j : Nat) : Int))
  one : bitN s j = 1 → 2 ^ j ≤ s ∧ popN (s - 2 ^ j) + 1 = popN s ∧ bitN (s - 2 ^ j) j = 0
  zero : bitN s j ≠ 1 → bitN s j = 0
  wrapU : IntKind.u64.wrap (j : Int) = (j : Int)
theorem bit_ok {s j : Nat} (hs : s < 1024) (hj : j < 10) : Bit s j := by
  have h := chk1_all
  rw [List.all_eq_true] at h
  have h := h s (List.mem_range.2 hs)
  rw [List.all_eq_true] at h
  have h := h j (List.mem_range.2 hj)
  simp only [chk1, Bool.and_eq_true, beq_iff_eq, decide_eq_true_eq] at h
  obtain ⟨⟨⟨⟨⟨⟨h1, h2⟩, h3⟩, h4⟩, h5⟩, h6⟩, h7⟩ := h
  refine ⟨h1, h2, h3, h4, h5, fun e => ?_, fun e => ?_, h7⟩
  · rw [e] at h6
    simp only [beq_self_eq_true, cond_true, Bool.and_eq_true, decide_eq_true_eq, beq_iff_eq] at h6
    exact ⟨h6.1.1, h6.1.2, h6.2⟩
  · rw [show (bitN s j == 1) = false by simpa using e] at h6
    simpa using h6
theorem pop_ok {s : Nat} (hs : s < 1024) : M.Conv (math_bits_OnesCount (IntKind.u64.wrap (s : Int))) (popN s : Int) ∧ popN s ≤ 10 ∧ (s = 0 ∨ 1 ≤ popN s) := by
  have h := chk2_all
  rw [List.all_eq_true] at h
  have h := h s (List.mem_range.2 hs)
  simp only [chk2, Bool.and_eq_true, beq_iff_eq, decide_eq_true_eq, Bool.or_eq_true] at h
  exact ⟨⟨0, fun n _ => h.1.1⟩, h.1.2, h.2⟩
theorem compl_ok {n s : Nat} (hn : n ≤ 10) (hs : s < 2 ^ n) : popN (2 ^ n - 1 - s) + popN s = n ∧ ∀ j, j < n → bitN (2 ^ n - 1 - s) j + bitN s j = 1 := by
  have h := chk3_all
  rw [List.all_eq_true] at h
  have h := h n (List.mem_range.2 (by omega))
  rw [List.all_eq_true] at h
  have h := h s (List.mem_range.2 hs)
  simp only [chk3, Bool.and_eq_true, beq_iff_eq, List.all_eq_true, List.mem_range] at h
  exact h
theorem pow_ok {n : Nat} (hn : n ≤ 10) : ishl .i64 1 (IntKind.u64.wrap (n : Int)) = ((2 ^ n : Nat) : Int) ∧ ishl .i64 1 (n : Int) = ((2 ^ n : Nat) : Int) ∧ 2 ^ n ≤ 1024 ∧ 1 ≤ 2 ^ n ∧ 0 ≤ IntKind.u64.wrap (n : Int) := by
  have h := chk4_all
  rw [List.all_eq_true] at h
  have h := h n (List.mem_range.2 (by omega))
  simp only [Bool.and_eq_true, beq_iff_eq, decide_eq_true_eq] at h
  exact ⟨h.1.1.1.1, h.1.1.1.2, h.1.1.2, h.1.2, h.2⟩
def entA (a : List (List Int)) (i j : Nat) : Int := (((a[i]?).getD [])[j]?).getD 0
def stepP (a : List (List Int)) (tab : List (Int × Int)) (s : Nat) (st : Int × Int) (j : Nat) : Int × Int :=
  bif bitN s j == 1 then
    bif (entA a (a.length - popN s) j == (-1000000000000000)) || (((tab[s - 2 ^ j]?).getD (0, 0)).1 == (-1000000000000000)) then st
    else bif decide (st.1 < entA a (a.length - popN s) j + ((tab[s - 2 ^ j]?).getD (0, 0)).1) then (entA a (a.length - popN s) j + ((tab[s - 2 ^ j]?).getD (0, 0)).1, ((tab[s - 2 ^ j]?).getD (0, 0)).2)
    else bif (entA a (a.length - popN s) j + ((tab[s - 2 ^ j]?).getD (0, 0)).1) == st.1 then (st.1, st.2 + ((tab[s - 2 ^ j]?).getD (0, 0)).2) else st
  else st
def cellP (a : List (List Int)) (tab : List (Int × Int)) (s m : Nat) : Int × Int := (List.range m).foldl (stepP a tab s) (-1000000000000000, 0)
def tabP (a : List (List Int)) : Nat → List (Int × Int)
  | 0 => []
  | k + 1 => tabP a k ++ [bif k == 0 then (0, 1) else cellP a (tabP a k) k a.length]
theorem tabP_len (a : List (List Int)) : ∀ k, (tabP a k).length = k
  | 0 => rfl
  | k + 1 => by simp [tabP, tabP_len a k]
theorem tabP_get (a : List (List Int)) {k m s : Nat} (hs : s < k) (hk : k ≤ m) : (tabP a m)[s]? = (tabP a k)[s]? := by
  induction m with
  | zero => omega
  | succ m ih =>
    by_cases e : k = m + 1
    · rw [e]
    · rw [tabP, List.getElem?_append_left (by rw [tabP_len]; omega)]
      exact ih (by omega)
/-- an entry for p rows: no assignment, or a weight and a number of them -/
def EntP (p : Nat) (e : Int × Int) : Prop := e = (-1000000000000000, 0) ∨ (-(1000000 * (p : Int)) ≤ e.1 ∧ e.1 ≤ 1000000 * p ∧ 1 ≤ e.2 ∧ e.2 ≤ 10 ^ p)
def TabOK (a : List (List Int)) (k : Nat) : Prop := ∀ s e, s < k → (tabP a k)[s]? = some e → EntP (popN s) e
theorem ent_val {a : List (List Int)} {n i j : Nat} (hm : Mat a n) (hi : i < a.length) (hj : j < n) : M.Conv (M.idx a (i : Int)) a[i] ∧ M.Conv (M.idx a[i] (j : Int)) (entA a i j) ∧ valB (entA a i j) = true := by
  have hr : a[i]? = some a[i] := List.getElem?_eq_getElem hi
  obtain ⟨g1, g2⟩ := hm.get hr hj
  have e : entA a i j = (a[i][j]?).getD 0 := by simp only [entA, hr, Option.getD_some]
  rw [e]
  exact ⟨get_row hr, g1, g2⟩
/-- one step, its bounds: K = 10 ^ (p - 1) -/
theorem stepP_bd {a : List (List Int)} {s j p : Nat} {st : Int × Int} (hm : Mat a a.length) (hs : s < 2 ^ a.length) (hj : j < a.length) (h0 : s ≠ 0) (ht : TabOK a s) (hp : popN s = p + 1)
    (hst : st = (-1000000000000000, 0) ∨ (-(1000000 * ((p : Int) + 1)) ≤ st.1 ∧ st.1 ≤ 1000000 * ((p : Int) + 1) ∧ 1 ≤ st.2 ∧ st.2 ≤ j * 10 ^ p)) :
    (stepP a (tabP a s) s st j = (-1000000000000000, 0) ∨ (-(1000000 * ((p : Int) + 1)) ≤ (stepP a (tabP a s) s st j).1 ∧ (stepP a (tabP a s) s st j).1 ≤ 1000000 * ((p : Int) + 1) ∧ 1 ≤ (stepP a (tabP a s) s st j).2 ∧ (stepP a (tabP a s) s st j).2 ≤ (j + 1 : Nat) * 10 ^ p)) ∧
    (bitN s j = 1 → ∃ e, (tabP a s)[s - 2 ^ j]? = some e ∧ EntP p e ∧ a.length - popN s < a.length) := by
  have hrows := hm.rows
  obtain ⟨_, _, hN, _, _⟩ := pow_ok (n := a.length) (by omega)
  have hb := bit_ok (s := s) (j := j) (by omega) (by omega)
  have hp9 : p ≤ 9 := by have := (pop_ok (s := s) (by omega)).2.1; omega
  have hK : (0 : Int) ≤ 10 ^ p := Int.le_of_lt (Int.pow_pos (by decide))
  have hjK : (j : Int) * 10 ^ p ≤ (j + 1 : Nat) * 10 ^ p := Int.mul_le_mul_of_nonneg_right (by omega) hK
  have hjK2 : ((j + 1 : Nat) : Int) * 10 ^ p = j * 10 ^ p + 10 ^ p := by rw [Int.natCast_add, Int.add_mul]; simp
  have weak : ∀ st : Int × Int, (st = (-1000000000000000, 0) ∨ (-(1000000 * ((p : Int) + 1)) ≤ st.1 ∧ st.1 ≤ 1000000 * ((p : Int) + 1) ∧ 1 ≤ st.2 ∧ st.2 ≤ j * 10 ^ p)) → (st = (-1000000000000000, 0) ∨ (-(1000000 * ((p : Int) + 1)) ≤ st.1 ∧ st.1 ≤ 1000000 * ((p : Int) + 1) ∧ 1 ≤ st.2 ∧ st.2 ≤ (j + 1 : Nat) * 10 ^ p)) := fun st h => h.imp id fun ⟨a, b, c, d⟩ => ⟨a, b, c, by omega⟩
  by_cases hbit : bitN s j = 1
  · obtain ⟨q1, q2, q3⟩ := hb.one hbit
    have hpos : 0 < 2 ^ j := Nat.pow_pos (by decide)
    have hlt : s - 2 ^ j < s := by omega
    have hge : (tabP a s)[s - 2 ^ j]? = some ((tabP a s)[s - 2 ^ j]'(by rw [tabP_len]; exact hlt)) := List.getElem?_eq_getElem _
    generalize (tabP a s)[s - 2 ^ j]'(by rw [tabP_len]; exact hlt) = e at hge
    have he := ht _ e hlt hge
    rw [show popN (s - 2 ^ j) = p by omega] at he
    have hrow : a.length - popN s < a.length := by omega
    refine ⟨?_, fun _ => ⟨e, hge, he, hrow⟩⟩
    unfold stepP
    rw [hbit, hge]
    simp only [beq_self_eq_true, cond_true, Option.getD_some]
    have hv := val_cases (ent_val hm hrow (j := j) hj).2.2
    generalize entA a (a.length - popN s) j = v at hv
    cases hskip : ((v == (-1000000000000000)) || (e.1 == (-1000000000000000))) with
    | true => exact weak _ hst
    | false =>
      simp only [Bool.or_eq_false_iff, beq_eq_false_iff_ne, ne_eq] at hskip
      rcases he with rfl | ⟨e1, e2, e3, e4⟩
      · exact absurd rfl hskip.2
      have hv : -1000000 ≤ v ∧ v ≤ 1000000 := by omega
      simp only [cond_false]
      cases h1 : decide (st.1 < v + e.1) with
      | true => right; simp only [cond_true]; refine ⟨by omega, by omega, e3, ?_⟩; have : (0 : Int) ≤ j * 10 ^ p := Int.mul_nonneg (by omega) hK; omega
      | false =>
        simp only [cond_false]
        cases h2 : (v + e.1 == st.1) with
        | false => exact weak _ hst
        | true =>
          have h2 : v + e.1 = st.1 := by simpa using h2
          rcases hst with rfl | ⟨s1, s2, s3, s4⟩
          · exfalso; simp only at h2; omega
          · right; simp only [cond_true]; exact ⟨s1, s2, by omega, by omega⟩
  · refine ⟨?_, fun h => absurd h hbit⟩
    unfold stepP
    rw [show (bitN s j == 1) = false by simpa using hbit]
    exact weak _ hst
theorem cellP_inv {a : List (List Int)} {s p : Nat} (hm : Mat a a.length) (hs : s < 2 ^ a.length) (h0 : s ≠ 0) (ht : TabOK a s) (hp : popN s = p + 1) :
    ∀ m, m ≤ a.length → (cellP a (tabP a s) s m = (-1000000000000000, 0) ∨ (-(1000000 * ((p : Int) + 1)) ≤ (cellP a (tabP a s) s m).1 ∧ (cellP a (tabP a s) s m).1 ≤ 1000000 * ((p : Int) + 1) ∧ 1 ≤ (cellP a (tabP a s) s m).2 ∧ (cellP a (tabP a s) s m).2 ≤ m * 10 ^ p))
  | 0, _ => .inl rfl
  | m + 1, h => by
    have e : cellP a (tabP a s) s (m + 1) = stepP a (tabP a s) s (cellP a (tabP a s) s m) m := by simp [cellP, List.range_succ]
    rw [e]
    exact (stepP_bd hm hs (by omega) h0 ht hp (cellP_inv hm hs h0 ht hp m (by omega))).1
theorem tabOK {a : List (List Int)} (hm : Mat a a.length) : ∀ k, k ≤ 2 ^ a.length → TabOK a k
  | 0, _ => fun s e h => by omega
  | k + 1, hk => by
    have ih := tabOK hm k (by omega)
    have hrows := hm.rows
    obtain ⟨_, _, hN, _, _⟩ := pow_ok (n := a.length) (by omega)
    intro s e hs he
    by_cases hsk : s < k
    · rw [tabP, List.getElem?_append_left (by rw [tabP_len]; exact hsk)] at he
      exact ih s e hsk he
    · obtain rfl : s = k := by omega
      rw [tabP, List.getElem?_append_right (by rw [tabP_len]; omega), tabP_len, Nat.sub_self] at he
      simp only [List.getElem?_cons_zero, Option.some.injEq] at he
      subst he
      by_cases h0 : s = 0
      · subst h0
        rw [show popN 0 = 0 by decide]; exact .inr ⟨by simp, by simp, by simp, by simp⟩
      · rw [show (s == 0) = false by simpa using h0]
        obtain ⟨_, hp10, hp⟩ := pop_ok (s := s) (by omega)
        obtain ⟨p, hp⟩ : ∃ p, popN s = p + 1 := ⟨popN s - 1, by omega⟩
        rw [hp]
        have := cellP_inv hm (by omega) h0 ih hp a.length (Nat.le_refl _)
        rcases this with h | ⟨h1, h2, h3, h4⟩
        · exact .inl h
        · refine .inr ⟨by simp only [cond_false]; omega, by simp only [cond_false]; omega, h3, ?_⟩
          simp only [cond_false]
          have hK : (0 : Int) ≤ 10 ^ p := Int.le_of_lt (Int.pow_pos (by decide))
          have : (a.length : Int) * 10 ^ p ≤ 10 * 10 ^ p := Int.mul_le_mul_of_nonneg_right (by omega) hK
          rw [Int.pow_succ]; omega

def popTo (s m : Nat) : Nat := (List.range m).foldl (fun t j => t + bitN s j) 0
theorem popTo_succ (s m : Nat) : popTo s (m + 1) = popTo s m + bitN s m := by simp [popTo, List.range_succ]
theorem bitN_le (s j : Nat) : bitN s j ≤ 1 := by unfold bitN; omega
theorem bitN_big {s n j : Nat} (h : s < 2 ^ n) (hj : n ≤ j) : bitN s j = 0 := by
  have : 2 ^ n ≤ 2 ^ j := Nat.pow_le_pow_right (by decide) hj
  unfold bitN
  rw [Nat.div_eq_of_lt (by omega)]
theorem popTo_le (s : Nat) : ∀ m, popTo s m ≤ m
  | 0 => Nat.le_refl _
  | m + 1 => by have := popTo_le s m; have := bitN_le s m; rw [popTo_succ]; omega
theorem popTo_n {s n : Nat} (h : s < 2 ^ n) (hn : n ≤ 10) : popTo s n = popN s := by
  have : ∀ d, n + d ≤ 10 → popTo s (n + d) = popTo s n := by
    intro d
    induction d with
    | zero => intro _; rfl
    | succ d ih => intro h'; rw [← Nat.add_assoc, popTo_succ, ih (by omega), bitN_big h (by omega), Nat.add_zero]
  rw [← this (10 - n) (by omega), show n + (10 - n) = 10 by omega]; rfl
theorem ten_pow {p : Nat} (h : p ≤ 9) : (10 : Int) ^ p ≤ 1000000000 := by
  have : ∀ q : Fin 10, (10 : Int) ^ q.val ≤ 1000000000 := by decide
  exact this ⟨p, by omega⟩
theorem timesI_val {v w : Int} (hv : v = -1000000000000000 ∨ (-1000000 ≤ v ∧ v ≤ 1000000)) (hw : w = -1000000000000000 ∨ (-10000000 ≤ w ∧ w ≤ 10000000)) :
    timesI v w = (bif (v == (-1000000000000000)) || (w == (-1000000000000000)) then -1000000000000000 else v + w) ∧ ((timesI v w == (-1000000000000000)) = ((v == (-1000000000000000)) || (w == (-1000000000000000)))) := by
  unfold timesI
  cases h : (v == (-1000000000000000)) || (w == (-1000000000000000)) with
  | true => simp
  | false =>
    simp only [Bool.or_eq_false_iff, beq_eq_false_iff_ne, ne_eq] at h
    simp only [cond_false]
    have e : w64 (v + w) = v + w := w64_eq _ (by omega)
    rw [e]
    exact ⟨rfl, by simp; omega⟩
theorem EntP.weight {p : Nat} {e : Int × Int} (h : EntP p e) (hp : p ≤ 9) : e.1 = -1000000000000000 ∨ (-10000000 ≤ e.1 ∧ e.1 ≤ 10000000) := by
  rcases h with rfl | ⟨h1, h2, _⟩
  · exact .inl rfl
  · exact .inr ⟨by omega, by omega⟩
/-- the inner loop of the specification: the state after m columns -/
theorem spec_cell {a : List (List Int)} {s p m : Nat} {st : Int × Int} (hm : Mat a a.length) (hs : s < 2 ^ a.length) (h0 : s ≠ 0) (ht : TabOK a s) (hp : popN s = p + 1) (hj : m < a.length)
    (hst : st = cellP a (tabP a s) s m) :
    M.Conv (M.bind (M.bind (M.guard (decide (0 ≤ (IntKind.u64.wrap ((m : Int)))))) (fun _ => M.ite ((ibit .and .i64 (ishr .i64 (s : Int) (IntKind.u64.wrap ((m : Int)))) 1) == 0) (M.ret (st.1, st.2)) (M.bind (M.guard (decide (0 ≤ (IntKind.u64.wrap ((m : Int)))))) (fun _ => M.bind (M.idx a (w64 ((a.length : Int) - (popN s : Int)))) (fun x4 => M.bind (M.idx x4 (m : Int)) (fun x5 => M.bind (M.idx ((tabP a s).map Prod.fst) (w64 ((s : Int) - (ishl .i64 1 (IntKind.u64.wrap ((m : Int))))))) (fun x6 => M.bind (spec_l01Times x5 x6) (fun x7 => M.ite (x7 == (-1000000000000000)) (M.ret (st.1, st.2)) (M.bind (M.ite (decide (st.1 < x7)) (M.bind (M.idx ((tabP a s).map Prod.snd) (w64 ((s : Int) - (ishl .i64 1 (IntKind.u64.wrap ((m : Int))))))) (fun x8 => M.ret (x7, x8))) (M.ite (x7 == st.1) (M.bind (M.idx ((tabP a s).map Prod.snd) (w64 ((s : Int) - (ishl .i64 1 (IntKind.u64.wrap ((m : Int))))))) (fun x9 => M.ret (st.1, (w64 (st.2 + x9))))) (M.ret (st.1, st.2)))) (fun (s5 : Int × Int) => M.ret (s5.1, s5.2))))))))))) (fun (s4 : Int × Int) => M.ret (.inl (s4.1, s4.2)) : Int × Int → M ((Int × Int) ⊕ (Int × Int)))) (.inl (cellP a (tabP a s) s (m + 1))) := by
  have hrows := hm.rows
  obtain ⟨_, _, hN, _, _⟩ := pow_ok (n := a.length) (by omega)
  have hb := bit_ok (s := s) (j := m) (by omega) (by omega)
  have hp9 : p ≤ 9 := by have := (pop_ok (s := s) (by omega)).2.1; omega
  have hinv := cellP_inv hm hs h0 ht hp m (by omega)
  rw [← hst] at hinv
  obtain ⟨hbd, hent⟩ := stepP_bd hm hs hj h0 ht hp hinv
  have e1 : cellP a (tabP a s) s (m + 1) = stepP a (tabP a s) s st m := by rw [hst]; simp [cellP, List.range_succ]
  rw [e1]
  refine M.Conv_bind (x := stepP a (tabP a s) s st m) ?_ (M.Conv_ret _)
  rw [hb.wrapU]
  refine M.Conv_bind (M.Conv_guard (by simp)) ?_
  rw [hb.and]
  refine M.Conv_ite (fun t => ?_) (fun t => ?_)
  · have t : bitN s m = 0 := by simpa using t
    refine (M.Conv_ret _).of ?_
    simp [stepP, t]
  · have hbit : bitN s m = 1 := Decidable.byContradiction fun c => by have := hb.zero c; simp [this] at t
    obtain ⟨q1, q2, q3⟩ := hb.one hbit
    obtain ⟨e, hge, he, hrow⟩ := hent hbit
    obtain ⟨c1, c2, c3⟩ := ent_val hm hrow hj
    have hpn := popTo_le s 10
    have hw1 : w64 ((a.length : Int) - (popN s : Int)) = ((a.length - popN s : Nat) : Int) := by
      have : popN s ≤ a.length := by have := popTo_le s a.length; rw [popTo_n hs (by omega)] at this; exact this
      rw [w64_eq _ (by omega)]; omega
    have hw2 : ∀ W : Nat, W ≤ s → w64 ((s : Int) - (W : Int)) = ((s - W : Nat) : Int) := fun W hW => by rw [w64_eq _ (by omega)]; omega
    rw [hb.shl, hw1, hw2 _ q1]
    refine M.Conv_bind (M.Conv_guard (by simp)) (M.Conv_bind c1 (M.Conv_bind c2 (M.Conv_bind (M.Conv_idx (x := e.1) (by rw [List.getElem?_map, hge]; rfl)) (M.Conv_bind (spec_l01Times_ok _ _) ?_))))
    have hv := val_cases c3
    generalize hvv : entA a (a.length - popN s) m = v at *
    obtain ⟨t1, t2⟩ := timesI_val hv (he.weight hp9)
    have es : stepP a (tabP a s) s st m = (bif (v == (-1000000000000000)) || (e.1 == (-1000000000000000)) then st
      else bif decide (st.1 < v + e.1) then (v + e.1, e.2) else bif (v + e.1) == st.1 then (st.1, st.2 + e.2) else st) := by
      unfold stepP; rw [hbit, hge, hvv]; rfl
    rw [es] at hbd ⊢
    rw [t2]
    cases hskip : ((v == (-1000000000000000)) || (e.1 == (-1000000000000000))) with
    | true => exact M.Conv_ite (fun _ => M.Conv_ret _) (fun t => by simp at t)
    | false =>
      rw [hskip] at t1 hbd
      simp only [cond_false] at t1 hbd ⊢
      rw [t1]
      refine M.Conv_ite (fun t => by simp at t) (fun _ => ?_)
      have hsnd : M.Conv (M.idx ((tabP a s).map Prod.snd) ((s - 2 ^ m : Nat) : Int)) e.2 := M.Conv_idx (by rw [List.getElem?_map, hge]; rfl)
      refine M.Conv_bind (M.Conv_ite2 (fun _ => M.Conv_bind hsnd (M.Conv_ret _)) fun h1 => M.Conv_ite2 (s := st) (fun h2 => M.Conv_bind hsnd ((M.Conv_ret _).of (r' := (st.1, st.2 + e.2)) ?_)) (fun _ => M.Conv_ret _)) (M.Conv_ret _)
      rw [h1, h2] at hbd
      simp only [cond_false, cond_true] at hbd
      have hK := ten_pow hp9
      have hK0 : (0 : Int) ≤ 10 ^ p := Int.le_of_lt (Int.pow_pos (by decide))
      have : ((m + 1 : Nat) : Int) * 10 ^ p ≤ 10 * 10 ^ p := Int.mul_le_mul_of_nonneg_right (by omega) hK0
      rcases hbd with hbd | hbd
      · have h2 : v + e.1 = st.1 := by simpa using h2
        have h3 := congrArg Prod.fst hbd
        simp only at h3
        simp only [Bool.or_eq_false_iff, beq_eq_false_iff_ne, ne_eq] at hskip
        have := he.weight hp9
        omega
      · rw [w64_eq _ (by omega)]
theorem conv_up {σ ρ : Type} {f : σ → M (σ ⊕ ρ)} {r : ρ} (st : Nat → σ) {n k0 : Nat} (hk : k0 ≤ n) (h : ∀ k, k0 ≤ k → k < n → M.Conv (f (st k)) (.inl (st (k + 1)))) (hs : M.Conv (f (st n)) (.inr r)) : M.Conv (M.loop f (st k0)) r := by
  have H : ∀ (d k : Nat), k0 ≤ k → k + d = n → ConvL f (st k) r := by
    intro d
    induction d with
    | zero => intro k _ e; obtain rfl : k = n := by omega
              exact ConvL.stop hs
    | succ d ih => intro k h1 e; exact ConvL.step (h k h1 (by omega)) (ih (k + 1) (by omega) (by omega))
  exact (H (n - k0) k0 (Nat.le_refl _) (by omega)).conv
theorem spec_l10Best_ok {a : List (List Int)} (hm : Mat a a.length) : M.Conv (spec_l10Best a) ((tabP a (2 ^ a.length)).map Prod.fst, (tabP a (2 ^ a.length)).map Prod.snd) := by
  have hrows := hm.rows
  obtain ⟨hsh, _, hN, hN1, hwr⟩ := pow_ok (n := a.length) (by omega)
  unfold spec_l10Best
  refine M.Conv_bind (x := ((tabP a (2 ^ a.length)).map Prod.fst, (tabP a (2 ^ a.length)).map Prod.snd, ((2 ^ a.length : Nat) : Int))) ?_ (M.Conv_ret _)
  rw [hsh]
  refine conv_up (fun k => (((tabP a k).map Prod.fst, (tabP a k).map Prod.snd, (k : Int)) : (List Int) × (List Int) × Int)) (k0 := 1) hN1 (fun k h1 hk2 => ?_) ?_
  · refine M.Conv_bind (M.Conv_guard (by simpa using hwr)) (M.Conv_ite (fun _ => ?_) (fun t => ?_))
    · have ht := tabOK hm k (by omega)
      obtain ⟨_, hp10, hp⟩ := pop_ok (s := k) (by omega)
      obtain ⟨p, hp⟩ : ∃ p, popN k = p + 1 := ⟨popN k - 1, by omega⟩
      refine M.Conv_bind (Conv_forV (fun m => (popTo k m : Int)) (by omega) fun m hj => ?_) ?_
      · have hb := bit_ok (s := k) (j := m) (by omega) (by omega)
        refine M.Conv_bind (M.Conv_guard (by rw [hb.wrapU]; simp)) ((M.Conv_ret _).of ?_)
        rw [hb.andU, popTo_succ, w64_eq _ (by have := popTo_le k m; have := bitN_le k m; omega), Int.natCast_add]
      · rw [popTo_n hk2 (by omega)]
        refine M.Conv_bind (Conv_forV (fun m => cellP a (tabP a k) k m) (by omega) fun m hj => spec_cell hm hk2 (by omega) ht hp hj rfl) ?_
        refine M.Conv_bind (M.Conv_app (by simp [tabP_len]; omega)) (M.Conv_bind (M.Conv_app (by simp [tabP_len]; omega)) ((M.Conv_ret _).of ?_))
        have e : (k == 0) = false := by simp; omega
        rw [tabP, e, w64_eq _ (by simp only; omega)]
        simp
    · have := of_decide_eq_false t
      simp only at this
      omega
  · refine M.Conv_bind (M.Conv_guard (by simpa using hwr)) (M.Conv_ite (fun t => ?_) fun _ => M.Conv_ret _)
    have := of_decide_eq_true t
    simp only at this
    omega
theorem conv_up0 {σ ρ : Type} {f : σ → M (σ ⊕ ρ)} {r : ρ} {s0 : σ} (st : Nat → σ) {n k0 : Nat} (e : s0 = st k0) (hk : k0 ≤ n) (h : ∀ k, k0 ≤ k → k < n → M.Conv (f (st k)) (.inl (st (k + 1)))) (hs : M.Conv (f (st n)) (.inr r)) : M.Conv (M.loop f s0) r := by
  subst e; exact conv_up st hk h hs

def mkP (e : Int × Int) : TPermanent := ⟨e.1, e.2⟩
/-- the program's table, filled from the top down to k entries -/
def lstP (a : List (List Int)) (k : Nat) : List TPermanent := (List.range (2 ^ a.length)).map fun s => bif decide (2 ^ a.length ≤ s + k) then mkP (((tabP a (2 ^ a.length))[2 ^ a.length - 1 - s]?).getD (0, 0)) else ⟨0, 0⟩
theorem lstP_len (a : List (List Int)) (k : Nat) : (lstP a k).length = 2 ^ a.length := by simp [lstP]
theorem lstP_get {a : List (List Int)} {k s : Nat} (h : s < 2 ^ a.length) : (lstP a k)[s]? = some (bif decide (2 ^ a.length ≤ s + k) then mkP (((tabP a (2 ^ a.length))[2 ^ a.length - 1 - s]?).getD (0, 0)) else ⟨0, 0⟩) := by
  simp [lstP, List.getElem?_map, List.getElem?_range h]
theorem lstP_set {a : List (List Int)} {k : Nat} {x : TPermanent} (h : k < 2 ^ a.length) (hx : x = mkP (((tabP a (2 ^ a.length))[k]?).getD (0, 0))) : (lstP a k).set (2 ^ a.length - 1 - k) x = lstP a (k + 1) := by
  apply List.ext_getElem?
  intro i
  by_cases hi : i < 2 ^ a.length
  · rw [List.getElem?_set, lstP_get hi, lstP_get hi, lstP_len]
    by_cases e : 2 ^ a.length - 1 - k = i
    · rw [if_pos e, if_pos (by omega), show decide (2 ^ a.length ≤ i + (k + 1)) = true by simp; omega, hx, show 2 ^ a.length - 1 - i = k by omega]; rfl
    · rw [if_neg e]
      congr 2
      rw [Bool.eq_iff_iff]; simp; omega
  · rw [List.getElem?_eq_none (by simp [lstP_len]; omega), List.getElem?_eq_none (by simp [lstP_len]; omega)]
theorem tab_last {a : List (List Int)} {k : Nat} (h : k < 2 ^ a.length) : ((tabP a (2 ^ a.length))[k]?).getD (0, 0) = bif k == 0 then (0, 1) else cellP a (tabP a k) k a.length := by
  rw [tabP_get (a := a) (k := k + 1) (m := 2 ^ a.length) (s := k) (by omega) (by omega), tabP, List.getElem?_append_right (by rw [tabP_len]; omega), tabP_len, Nat.sub_self]
  rfl
theorem impl_cell {a : List (List Int)} {k p m : Nat} {row : List Int} {st : Int × Int} (hm : Mat a a.length) (hs : k < 2 ^ a.length) (h0 : k ≠ 0) (ht : TabOK a k) (hp : popN k = p + 1) (hj : m < a.length)
    (hst : st = cellP a (tabP a k) k m) (hrow : a[a.length - popN k]? = some row) :
    M.Conv (M.bind (M.bind (M.idx row (m : Int)) (fun x6 => M.bind (M.guard (decide (0 ≤ (m : Int)))) (fun _ => M.bind (M.idx (lstP a k) (ibit .or .i64 ((2 ^ a.length - 1 - k : Nat) : Int) (ishl .i64 1 (m : Int)))) (fun x7 => M.bind (M.guard (decide (0 ≤ (m : Int)))) (fun _ => M.ite ((((ibit .and .i64 (ishr .i64 ((2 ^ a.length - 1 - k : Nat) : Int) (m : Int)) 1) == 1) || (x6 == (-1000000000000000))) || (x7.weight == (-1000000000000000))) (M.ret (mkP st)) (M.bind (M.ite (((mkP st).count == 0) || (decide ((mkP st).weight < (w64 (x6 + x7.weight))))) (M.ret (⟨(w64 (x6 + x7.weight)), x7.count⟩ : TPermanent)) (M.ite ((w64 (x6 + x7.weight)) == (mkP st).weight) (M.ret (⟨(mkP st).weight, (w64 ((mkP st).count + x7.count))⟩ : TPermanent)) (M.ret (mkP st)))) (fun (s5 : TPermanent) => M.ret s5))))))) (fun (s4 : TPermanent) => M.ret (.inl s4) : TPermanent → M (TPermanent ⊕ TPermanent))) (.inl (mkP (cellP a (tabP a k) k (m + 1)))) := by
  have hrows := hm.rows
  obtain ⟨_, _, hN, _, _⟩ := pow_ok (n := a.length) (by omega)
  have hb := bit_ok (s := k) (j := m) (by omega) (by omega)
  have hb' := bit_ok (s := 2 ^ a.length - 1 - k) (j := m) (by omega) (by omega)
  have hc := (compl_ok (n := a.length) (s := k) (by omega) hs).2 m hj
  have hp9 : p ≤ 9 := by have := (pop_ok (s := k) (by omega)).2.1; omega
  have hinv := cellP_inv hm hs h0 ht hp m (by omega)
  rw [← hst] at hinv
  obtain ⟨hbd, hent⟩ := stepP_bd hm hs hj h0 ht hp hinv
  have e1 : cellP a (tabP a k) k (m + 1) = stepP a (tabP a k) k st m := by rw [hst]; simp [cellP, List.range_succ]
  rw [e1]
  refine M.Conv_bind (x := mkP (stepP a (tabP a k) k st m)) ?_ (M.Conv_ret _)
  obtain ⟨c2, c3⟩ := hm.get hrow hj
  have hve : entA a (a.length - popN k) m = (row[m]?).getD 0 := by simp only [entA, hrow, Option.getD_some]
  rw [hb'.and, hb'.or]
  refine M.Conv_bind c2 (M.Conv_bind (M.Conv_guard (by simp)) ?_)
  by_cases hbit : bitN k m = 1
  · obtain ⟨q1, q2, q3⟩ := hb.one hbit
    obtain ⟨e, hge, he, hrow'⟩ := hent hbit
    have hz : bitN (2 ^ a.length - 1 - k) m = 0 := by omega
    have hpos : 0 < 2 ^ m := Nat.pow_pos (by decide)
    have hlt : 2 ^ a.length - 1 - k + 2 ^ m < 2 ^ a.length := by omega
    have hg := lstP_get (a := a) (k := k) hlt
    rw [show decide (2 ^ a.length ≤ 2 ^ a.length - 1 - k + 2 ^ m + k) = true by simp; omega, show 2 ^ a.length - 1 - (2 ^ a.length - 1 - k + 2 ^ m) = k - 2 ^ m by omega, tabP_get (a := a) (k := k) (m := 2 ^ a.length) (s := k - 2 ^ m) (by omega) (by omega), hge] at hg
    rw [hz]
    refine M.Conv_bind (M.Conv_idx hg) (M.Conv_bind (M.Conv_guard (by simp)) ?_)
    have hv := val_cases c3
    rw [← hve] at hv ⊢
    generalize hvv : entA a (a.length - popN k) m = v at *
    have es : stepP a (tabP a k) k st m = (bif (v == (-1000000000000000)) || (e.1 == (-1000000000000000)) then st
      else bif decide (st.1 < v + e.1) then (v + e.1, e.2) else bif (v + e.1) == st.1 then (st.1, st.2 + e.2) else st) := by
      unfold stepP; rw [hbit, hge, hvv]; rfl
    rw [es] at hbd ⊢
    show M.Conv (M.ite ((((0 : Nat) : Int) == 1 || (v == (-1000000000000000))) || (e.1 == (-1000000000000000))) _ _) _
    rw [show (((0 : Nat) : Int) == 1) = false by decide, Bool.false_or]
    cases hskip : ((v == (-1000000000000000)) || (e.1 == (-1000000000000000))) with
    | true => exact M.Conv_ite (fun _ => M.Conv_ret _) (fun t => by simp at t)
    | false =>
      rw [hskip] at hbd
      simp only [Bool.or_eq_false_iff, beq_eq_false_iff_ne, ne_eq] at hskip
      have hw := he.weight hp9
      have hwv : w64 (v + e.1) = v + e.1 := w64_eq _ (by omega)
      have hcz : (((mkP st).count == 0) || (decide ((mkP st).weight < v + e.1))) = decide (st.1 < v + e.1) := by
        rcases hinv with rfl | ⟨s1, s2, s3, s4⟩
        · simp [mkP]; omega
        · have : ((mkP st).count == 0) = false := by simp only [mkP, beq_eq_false_iff_ne]; omega
          rw [this, Bool.false_or]; rfl
      refine M.Conv_ite (fun t => by simp at t) (fun _ => ?_)
      show M.Conv (M.bind (M.ite (((mkP st).count == 0) || (decide ((mkP st).weight < (w64 (v + e.1))))) (M.ret (⟨(w64 (v + e.1)), e.2⟩ : TPermanent)) (M.ite ((w64 (v + e.1)) == (mkP st).weight) (M.ret (⟨(mkP st).weight, (w64 ((mkP st).count + e.2))⟩ : TPermanent)) (M.ret (mkP st)))) _) _
      simp only [cond_false] at hbd ⊢
      rw [hwv, hcz]
      refine M.Conv_bind (x := mkP (bif decide (st.1 < v + e.1) then (v + e.1, e.2) else bif (v + e.1) == st.1 then (st.1, st.2 + e.2) else st)) ?_ (M.Conv_ret _)
      cases h1 : decide (st.1 < v + e.1) with
      | true => exact M.Conv_ite (fun _ => M.Conv_ret _) (fun t => by simp at t)
      | false =>
        refine M.Conv_ite (fun t => by simp at t) (fun _ => ?_)
        cases h2 : ((v + e.1) == st.1) with
        | false => exact M.Conv_ite (fun t => by rw [show (mkP st).weight = st.1 from rfl, h2] at t; simp at t) (fun _ => M.Conv_ret _)
        | true =>
          refine M.Conv_ite (fun _ => (M.Conv_ret _).of ?_) (fun t => by rw [show (mkP st).weight = st.1 from rfl, h2] at t; simp at t)
          rw [h1, h2] at hbd
          simp only [cond_false, cond_true] at hbd
          have hK := ten_pow hp9
          have hK0 : (0 : Int) ≤ 10 ^ p := Int.le_of_lt (Int.pow_pos (by decide))
          have : ((m + 1 : Nat) : Int) * 10 ^ p ≤ 10 * 10 ^ p := Int.mul_le_mul_of_nonneg_right (by omega) hK0
          rcases hbd with hbd | hbd
          · have h2 : v + e.1 = st.1 := by simpa using h2
            have h3 := congrArg Prod.fst hbd
            simp only at h3
            omega
          · simp only [mkP, cond_false, cond_true]
            rw [w64_eq _ (by omega)]
  · have hz0 := hb.zero hbit
    have hz : bitN (2 ^ a.length - 1 - k) m = 1 := by omega
    rw [hz]
    have hg := lstP_get (a := a) (k := k) (s := 2 ^ a.length - 1 - k) (by omega)
    refine M.Conv_bind (M.Conv_idx hg) (M.Conv_bind (M.Conv_guard (by simp)) (M.Conv_ite (fun _ => (M.Conv_ret _).of ?_) (fun t => by simp at t)))
    unfold stepP
    rw [hz0]; rfl
theorem impl_permanents_ok {a : List (List Int)} (hm : Mat a a.length) : M.Conv (impl_permanents a) (lstP a (2 ^ a.length)) := by
  have hrows := hm.rows
  obtain ⟨_, hsh, hN, hN1, hwr⟩ := pow_ok (n := a.length) (by omega)
  unfold impl_permanents
  rw [hsh]
  refine M.Conv_bind (M.Conv_guard (by simp)) (M.Conv_bind ((M.Conv_make (by omega) (by omega)).of (r' := lstP a 0) ?_) (M.Conv_bind (M.Conv_guard (by simp)) (M.Conv_bind (x := (lstP a (2 ^ a.length), -1)) ?_ (M.Conv_ret _))))
  · apply List.ext_getElem?
    intro i
    by_cases hi : i < 2 ^ a.length
    · rw [lstP_get hi, show decide (2 ^ a.length ≤ i + 0) = false by simp; omega, List.getElem?_replicate, if_pos (by omega)]; rfl
    · rw [List.getElem?_eq_none (by rw [List.length_replicate, Int.toNat_natCast]; omega), List.getElem?_eq_none (by simp [lstP_len]; omega)]
  · have hw0 : w64 (((2 ^ a.length : Nat) : Int) - 1) = ((2 ^ a.length : Nat) : Int) - 1 := w64_eq _ (by omega)
    rw [hw0]
    refine conv_up0 (fun k => (lstP a k, ((2 ^ a.length : Nat) : Int) - 1 - (k : Int))) (n := 2 ^ a.length) (k0 := 0) (by simp) (by omega) (fun k _ hk => ?_) ?_
    · have es : ((2 ^ a.length : Nat) : Int) - 1 - (k : Int) = ((2 ^ a.length - 1 - k : Nat) : Int) := by omega
      simp only [es]
      refine M.Conv_ite (fun _ => M.Conv_bind (x := lstP a (k + 1)) ?_ ((M.Conv_ret _).of ?_)) (fun t => by have := of_decide_eq_false t; omega)
      · have hset : ∀ x, x = mkP (((tabP a (2 ^ a.length))[k]?).getD (0, 0)) → M.Conv (M.upd (lstP a k) ((2 ^ a.length - 1 - k : Nat) : Int) x) (lstP a (k + 1)) := fun x hx => (M.Conv_upd (by rw [lstP_len]; omega)).of (lstP_set hk hx)
        have hrd := lstP_get (a := a) (k := k) (s := 2 ^ a.length - 1 - k) (by omega)
        rw [tab_last hk] at hset
        by_cases h0 : k = 0
        · subst h0
          refine M.Conv_ite (fun _ => ?_) (fun t => absurd (by omega) (beq_eq_false_iff_ne.1 t))
          exact M.Conv_bind (M.Conv_idx hrd) (M.Conv_bind (hset _ rfl) (M.Conv_ret _))
        · refine M.Conv_ite (fun t => by have := eq_of_beq t; omega) (fun _ => ?_)
          have ht := tabOK hm k (by omega)
          obtain ⟨_, hp10, hp⟩ := pop_ok (s := k) (by omega)
          obtain ⟨p, hp⟩ : ∃ p, popN k = p + 1 := ⟨popN k - 1, by omega⟩
          have hcp := (compl_ok (n := a.length) (s := k) (by omega) hk).1
          have hr : a[a.length - popN k]? = some (a[a.length - popN k]'(by omega)) := List.getElem?_eq_getElem _
          generalize (a[a.length - popN k]'(by omega)) = row at hr
          have hl := (hm.row row (List.mem_of_getElem? hr)).1
          refine M.Conv_bind (pop_ok (by omega)).1 (M.Conv_bind (x := row) ?_ ?_)
          · rw [show popN (2 ^ a.length - 1 - k) = a.length - popN k by omega]; exact get_row hr
          · rw [hl]
            refine M.Conv_bind (Conv_forV (fun m => mkP (cellP a (tabP a k) k m)) (by omega) fun m hj => impl_cell hm hk h0 ht hp hj rfl hr) ?_
            exact M.Conv_bind (M.Conv_idx hrd) (M.Conv_bind (hset _ (by rw [show (k == 0) = false by simpa using h0]; rfl)) (M.Conv_ret _))
      · rw [w64_eq _ (by omega)]
        simp only [Sum.inl.injEq, Prod.mk.injEq, true_and]; omega
    · refine M.Conv_ite (fun t => ?_) fun _ => (M.Conv_ret _).of ?_
      · have := of_decide_eq_true t
        simp only at this
        omega
      · simp only [Sum.inr.injEq, Prod.mk.injEq, true_and]; omega

theorem same_sq {a : List (List Int)} (sa : smII a) {α : Type} {m m' : M α} {x : α} {P : α → Prop} (hx : P x) (h : sqB a = true → Two m m' P) :
    Two (M.bind (spec_l02Square a) (fun x1 => M.ite (!x1) (M.ret x) m)) (M.bind (impl_isSquare a) (fun x1 => M.ite (!x1) (M.ret x) m')) P := by
  refine Two.bindC (spec_l02Square_ok sa) (impl_isSquare_ok sa) (Two.ite (fun _ => Two.ret _ hx) (fun t => h (by simpa using t)))
def topE (a : List (List Int)) : Int × Int := ((tabP a (2 ^ a.length))[2 ^ a.length - 1]?).getD (0, 0)
theorem top_reads {a : List (List Int)} (hm : Mat a a.length) :
    M.Conv (M.idx ((tabP a (2 ^ a.length)).map Prod.fst) (w64 ((((tabP a (2 ^ a.length)).map Prod.fst).length : Int) - 1))) (topE a).1 ∧
    M.Conv (M.idx ((tabP a (2 ^ a.length)).map Prod.snd) (w64 ((((tabP a (2 ^ a.length)).map Prod.snd).length : Int) - 1))) (topE a).2 ∧
    M.Conv (M.idx (lstP a (2 ^ a.length)) 0) (mkP (topE a)) ∧ EntP a.length (topE a) := by
  have hrows := hm.rows
  obtain ⟨_, _, hN, hN1, hwr⟩ := pow_ok (n := a.length) (by omega)
  have hl : ((2 ^ a.length - 1 : Nat) : Int) = ((2 ^ a.length : Nat) : Int) - 1 := by omega
  have hg : (tabP a (2 ^ a.length))[2 ^ a.length - 1]? = some ((tabP a (2 ^ a.length))[2 ^ a.length - 1]'(by rw [tabP_len]; omega)) := List.getElem?_eq_getElem _
  generalize ((tabP a (2 ^ a.length))[2 ^ a.length - 1]'(by rw [tabP_len]; omega)) = e at hg
  have he : topE a = e := by unfold topE; rw [hg]; rfl
  rw [he]
  refine ⟨?_, ?_, ?_, ?_⟩
  · rw [List.length_map, tabP_len, w64_eq _ (by omega), ← hl]; exact M.Conv_idx (by rw [List.getElem?_map, hg]; rfl)
  · rw [List.length_map, tabP_len, w64_eq _ (by omega), ← hl]; exact M.Conv_idx (by rw [List.getElem?_map, hg]; rfl)
  · have := lstP_get (a := a) (k := 2 ^ a.length) (s := 0) (by omega)
    rw [show decide (2 ^ a.length ≤ 0 + 2 ^ a.length) = true by simp, Nat.sub_zero, hg] at this
    exact M.Conv_idx (i := 0) this
  · have := tabOK hm _ (Nat.le_refl _) _ _ (by omega) hg
    have hc := (compl_ok (n := a.length) (s := 0) (by omega) (by omega)).1
    rw [show popN 0 = 0 by decide, Nat.sub_zero, Nat.add_zero] at hc
    rwa [hc] at this
theorem sing_eq {w c : Int} (hw : w ≠ -1000000000000000) (hc : 1 ≤ c) : ((w == (-1000000000000000)) || decide (1 < c)) = (c != 1) := by
  rw [show (w == (-1000000000000000)) = false by simpa using hw, Bool.false_or, Bool.eq_iff_iff, decide_eq_true_eq, bne_iff_ne]
  omega
theorem same_IsSingular (a : List (List Int)) (_ : fitL (fitL inI64) a) (sa : smII a) : Two (spec_IsSingular a) (impl_IsSingular a) (fun _ => True) := by
  refine same_sq sa trivial fun hs => ?_
  have hm := sq_mat hs
  obtain ⟨r1, r2, r3, r4⟩ := top_reads hm
  refine Two.bindC (spec_l10Best_ok hm) (impl_permanents_ok hm) (Two.bindC r2 r3 (Two.ofConv (M.Conv_ret _) ((M.Conv_ret _).of ?_) trivial))
  rcases r4 with h | ⟨h1, h2, h3, h4⟩
  · rw [h]; rfl
  · exact congrArg (fun b : Bool => (b, (0 : Int))) (sing_eq (w := (topE a).1) (c := (topE a).2) (by have := hm.rows; omega) h3)
theorem same_PermanentOf (a : List (List Int)) (_ : fitL (fitL inI64) a) (sa : smII a) : Two (spec_PermanentOf a) (impl_PermanentOf a) (fun _ => True) := by
  refine same_sq sa trivial fun hs => ?_
  have hm := sq_mat hs
  obtain ⟨r1, r2, r3, r4⟩ := top_reads hm
  refine Two.left (M.Conv_bind (spec_l10Best_ok hm) (M.Conv_bind r1 (M.Conv_ret _))) (Two.right (impl_permanents_ok hm) (Two.right r3 (Two.bindC (spec_l01Value_ok _) (impl_checkedValue_ok _) ?_)))
  exact Two.ret _ trivial
theorem same_CountAssignments (a : List (List Int)) (_ : fitL (fitL inI64) a) (sa : smII a) : Two (spec_CountAssignments a) (impl_CountAssignments a) (fun _ => True) := by
  refine same_sq sa trivial fun hs => ?_
  have hm := sq_mat hs
  obtain ⟨r1, r2, r3, r4⟩ := top_reads hm
  refine Two.bindC (spec_l10Best_ok hm) (impl_permanents_ok hm) (Two.bindC r2 r3 (Two.iteR (fun t => ?_) (fun _ => ?_)))
  · rcases r4 with h | ⟨h1, h2, h3, h4⟩
    · rw [h]
      exact Two.ofConv (M.Conv_bind (spec_l01Value_ok _) ((M.Conv_ret _).of (r' := (0, 0)) (by decide))) (M.Conv_ret _) trivial
    · have : (topE a).1 = -1000000000000000 := by simpa [mkP] using t
      have := hm.rows
      omega
  · exact Two.bindC (spec_l01Value_ok _) (impl_checkedValue_ok _) (Two.ret _ trivial)

def tab {α : Type} (n : Nat) (h : Nat → α) : List α := (List.range n).map h
theorem tab_len {α : Type} (n : Nat) (h : Nat → α) : (tab n h).length = n := by simp [tab]
theorem tab_get {α : Type} {n i : Nat} {h : Nat → α} (hi : i < n) : (tab n h)[i]? = some (h i) := by simp [tab, List.getElem?_range hi]
theorem tab_none {α : Type} {n i : Nat} {h : Nat → α} (hi : n ≤ i) : (tab n h)[i]? = none := List.getElem?_eq_none (by rw [tab_len]; exact hi)
theorem tab_ext {α : Type} {n : Nat} {h : Nat → α} {l : List α} (hl : l.length = n) (e : ∀ i, i < n → l[i]? = some (h i)) : l = tab n h := by
  apply List.ext_getElem?
  intro i
  by_cases hi : i < n
  · rw [e i hi, tab_get hi]
  · rw [tab_none (by omega), List.getElem?_eq_none (by omega)]
theorem tab_congr {α : Type} {n : Nat} {h g : Nat → α} (e : ∀ i, i < n → h i = g i) : tab n h = tab n g := by
  refine tab_ext (tab_len _ _) fun i hi => ?_
  rw [tab_get hi, e i hi]
theorem tab_set {α : Type} {n i : Nat} {h g : Nat → α} {v : α} (hv : v = g i) (e : ∀ p, p < n → p ≠ i → h p = g p) : (tab n h).set i v = tab n g := by
  refine tab_ext (by rw [List.length_set, tab_len]) fun p hp => ?_
  rw [List.getElem?_set]
  by_cases q : i = p
  · subst q; rw [if_pos rfl, if_pos (by rw [tab_len]; exact hp), hv]
  · rw [if_neg q, tab_get hp, e p hp (fun c => q c.symm)]
theorem tab_snoc {α : Type} (n : Nat) (h : Nat → α) : tab n h ++ [h n] = tab (n + 1) h := by simp [tab, List.range_succ]
theorem idx_tab {α : Type} {n i : Nat} {h : Nat → α} (hi : i < n) : M.Conv (M.idx (tab n h) (i : Int)) (h i) := M.Conv_idx (tab_get hi)
def matF (m n : Nat) (f : Nat → Nat → Int) : List (List Int) := tab m fun i => tab n (f i)
theorem matF_len (m n : Nat) (f : Nat → Nat → Int) : (matF m n f).length = m := tab_len _ _
theorem matF_congr {m n : Nat} {f g : Nat → Nat → Int} (e : ∀ i j, i < m → j < n → f i j = g i j) : matF m n f = matF m n g := tab_congr fun i hi => tab_congr fun j hj => e i j hi hj
structure Shp (a : List (List Int)) (w : Nat) : Prop where
  rows : 1 ≤ a.length ∧ a.length ≤ 10
  cols : 1 ≤ w ∧ w ≤ 10
  row : ∀ r ∈ a, r.length = w
theorem Mat.shp {a : List (List Int)} {w : Nat} (hm : Mat a w) : Shp a w := ⟨hm.rows, hm.cols, fun r hr => (hm.row r hr).1⟩
theorem mat_eq {a : List (List Int)} {w : Nat} (hm : Shp a w) : a = matF a.length w (entA a) := by
  refine tab_ext rfl fun i hi => ?_
  have hr : a[i]? = some a[i] := List.getElem?_eq_getElem hi
  rw [hr]
  have hl := hm.row _ (List.mem_of_getElem? hr)
  congr 1
  refine tab_ext hl fun j hj => ?_
  have : a[i][j]? = some (a[i][j]'(by omega)) := List.getElem?_eq_getElem _
  rw [this]
  simp only [entA, hr, Option.getD_some, this]
theorem entA_matF {m n i j : Nat} {f : Nat → Nat → Int} (hi : i < m) (hj : j < n) : entA (matF m n f) i j = f i j := by
  simp only [entA, matF, tab_get hi, Option.getD_some, tab_get hj]
theorem shp_of {m n : Nat} {f : Nat → Nat → Int} (h1 : 1 ≤ m ∧ m ≤ 10) (h2 : 1 ≤ n ∧ n ≤ 10) : Shp (matF m n f) n := by
  refine ⟨by rw [matF_len]; exact h1, h2, fun r hr => ?_⟩
  simp only [matF, tab, List.mem_map, List.mem_range] at hr
  obtain ⟨i, hi, rfl⟩ := hr
  simp
theorem spec_l02Bottom_ok {m n : Nat} (hm : m ≤ 1048576) (hn : n ≤ 1048576) : M.Conv (spec_l02Bottom (m : Int) (n : Int)) (matF m n fun _ _ => -1000000000000000) := by
  unfold spec_l02Bottom
  refine M.Conv_bind (Conv_forV (fun i => tab i fun _ => tab n fun _ => (-1000000000000000 : Int)) (by omega) fun i hi => ?_) (M.Conv_ret _)
  refine M.Conv_bind (Conv_forV (fun j => tab j fun _ => (-1000000000000000 : Int)) (by omega) fun j hj => ?_) ?_
  · exact M.Conv_bind (M.Conv_app (by simp [tab_len]; omega)) ((M.Conv_ret _).of (congrArg Sum.inl (tab_snoc _ _)))
  · exact M.Conv_bind (M.Conv_app (by simp [tab_len]; omega)) ((M.Conv_ret _).of (congrArg Sum.inl (tab_snoc i _)))
/-- one entry set -/
theorem matF_set {m n i j : Nat} {f g : Nat → Nat → Int} (e : ∀ p q, p < m → q < n → ¬(p = i ∧ q = j) → f p q = g p q) : (matF m n f).set i ((tab n (f i)).set j (g i j)) = matF m n g := by
  by_cases hi : i < m
  · refine tab_set (tab_set rfl fun q hq hne => e i q hi hq (by omega)) fun p hp hne => tab_congr fun q hq => e p q hp hq (by omega)
  · rw [List.set_eq_of_length_le (by rw [matF_len]; omega)]
    exact matF_congr fun p q hp hq => e p q hp hq (by omega)
theorem matB_shp {a : List (List Int)} {w : Nat} (h : Shp a w) : matB a = a.all fun r => r.all valB := by
  have h1 := h.rows
  have h2 := h.cols
  have hw : widthN a = w := by
    unfold widthN
    cases a with
    | nil => simp at h1
    | cons r rs => exact h.row r (by simp)
  unfold matB
  rw [hw, decide_eq_true h1.1, decide_eq_true h1.2, decide_eq_true h2.1, decide_eq_true h2.2]
  simp only [Bool.true_and]
  rw [Bool.eq_iff_iff, List.all_eq_true, List.all_eq_true]
  refine ⟨fun H r hr => ?_, fun H r hr => ?_⟩
  · have := H r hr; simp only [Bool.and_eq_true] at this; exact this.2
  · rw [decide_eq_true (h.row r hr), Bool.true_and]; exact H r hr
theorem Shp.sm {a : List (List Int)} {w : Nat} (h : Shp a w) : smII a := ⟨by have := h.rows; omega, fun r hr => by have := h.row r hr; have := h.cols; omega⟩
def colL (b : List (List Int)) (i : Nat) : List Int := tab b.length fun j => entA b j i
def Rel {α β : Type} (m : M α) (m' : M β) (Q : α → β → Prop) : Prop := ∃ r r', M.Conv m r ∧ M.Conv m' r' ∧ Q r r'
theorem Rel.of {α β : Type} {m : M α} {m' : M β} {Q : α → β → Prop} {r : α} {r' : β} (h : M.Conv m r) (h' : M.Conv m' r') (q : Q r r') : Rel m m' Q := ⟨r, r', h, h', q⟩
theorem Rel.bind {α β γ δ : Type} {m : M α} {m' : M β} {f : α → M γ} {f' : β → M δ} {P : α → β → Prop} {Q : γ → δ → Prop} (h : Rel m m' P) (g : ∀ x x', P x x' → Rel (f x) (f' x') Q) : Rel (M.bind m f) (M.bind m' f') Q := by
  obtain ⟨x, x', h1, h2, p⟩ := h
  obtain ⟨r, r', g1, g2, q⟩ := g x x' p
  exact ⟨r, r', M.Conv_bind h1 g1, M.Conv_bind h2 g2, q⟩
theorem Rel.left {α γ δ : Type} {m : M α} {f : α → M γ} {m' : M δ} {Q : γ → δ → Prop} {x : α} (h : M.Conv m x) (g : Rel (f x) m' Q) : Rel (M.bind m f) m' Q := by
  obtain ⟨r, r', g1, g2, q⟩ := g
  exact ⟨r, r', M.Conv_bind h g1, g2, q⟩
theorem Rel.right {α γ δ : Type} {m : M α} {f : α → M γ} {m' : M δ} {Q : δ → γ → Prop} {x : α} (h : M.Conv m x) (g : Rel m' (f x) Q) : Rel m' (M.bind m f) Q := by
  obtain ⟨r, r', g1, g2, q⟩ := g
  exact ⟨r, r', g1, M.Conv_bind h g2, q⟩
theorem Rel.two {α : Type} {m m' : M α} {P : α → Prop} (h : Rel m m' fun x y => x = y ∧ P x) : Two m m' P := by
  obtain ⟨r, r', h1, h2, rfl, p⟩ := h
  exact ⟨r, h1, h2, p⟩
theorem Rel.mono {α β : Type} {m : M α} {m' : M β} {P Q : α → β → Prop} (h : Rel m m' P) (g : ∀ x y, P x y → Q x y) : Rel m m' Q := by
  obtain ⟨r, r', h1, h2, p⟩ := h
  exact ⟨r, r', h1, h2, g _ _ p⟩
theorem Rel.iteL {α β : Type} {b : Bool} {x y : M α} {m' : M β} {Q : α → β → Prop} (h1 : b = true → Rel x m' Q) (h2 : b = false → Rel y m' Q) : Rel (M.ite b x y) m' Q := by
  cases b
  · obtain ⟨r, r', g1, g2, q⟩ := h2 rfl
    exact ⟨r, r', M.Conv_ite (fun t => by simp at t) (fun _ => g1), g2, q⟩
  · obtain ⟨r, r', g1, g2, q⟩ := h1 rfl
    exact ⟨r, r', M.Conv_ite (fun _ => g1) (fun t => by simp at t), g2, q⟩
theorem Rel.iteR {α β : Type} {b : Bool} {x y : M β} {m' : M α} {Q : α → β → Prop} (h1 : b = true → Rel m' x Q) (h2 : b = false → Rel m' y Q) : Rel m' (M.ite b x y) Q := by
  cases b
  · obtain ⟨r, r', g1, g2, q⟩ := h2 rfl
    exact ⟨r, r', g1, M.Conv_ite (fun t => by simp at t) (fun _ => g2), q⟩
  · obtain ⟨r, r', g1, g2, q⟩ := h1 rfl
    exact ⟨r, r', g1, M.Conv_ite (fun _ => g2) (fun t => by simp at t), q⟩
theorem Rel.ite {α β : Type} {b b' : Bool} {x y : M α} {x' y' : M β} {Q : α → β → Prop} (e : b = b') (h1 : b = true → Rel x x' Q) (h2 : b = false → Rel y y' Q) : Rel (M.ite b x y) (M.ite b' x' y') Q := by
  subst e
  exact Rel.iteL (fun t => Rel.iteR (fun _ => h1 t) (fun t' => by rw [t] at t'; cases t')) (fun t => Rel.iteR (fun t' => by rw [t] at t'; cases t') (fun _ => h2 t))
theorem Rel.ret {α β : Type} {x : α} {y : β} {Q : α → β → Prop} (q : Q x y) : Rel (M.ret x) (M.ret y) Q := ⟨x, y, M.Conv_ret _, M.Conv_ret _, q⟩
/-- one round of two loops: both go on, or both stop -/
def Round {σ σ' ρ ρ' : Type} (R : σ → σ' → Prop) (Q : ρ → ρ' → Prop) (y : σ ⊕ ρ) (y' : σ' ⊕ ρ') : Prop := (∃ t t', y = .inl t ∧ y' = .inl t' ∧ R t t') ∨ (∃ r r', y = .inr r ∧ y' = .inr r' ∧ Q r r')
theorem Round.on {σ σ' ρ ρ' : Type} {R : σ → σ' → Prop} {Q : ρ → ρ' → Prop} {t : σ} {t' : σ'} (h : R t t') : Round R Q (.inl t) (.inl t') := .inl ⟨t, t', rfl, rfl, h⟩
theorem Round.off {σ σ' ρ ρ' : Type} {R : σ → σ' → Prop} {Q : ρ → ρ' → Prop} {r : ρ} {r' : ρ'} (h : Q r r') : Round R Q (.inr r : σ ⊕ ρ) (.inr r' : σ' ⊕ ρ') := .inr ⟨r, r', rfl, rfl, h⟩
theorem Rel.for {σ σ' ρ ρ' : Type} {n : Nat} {f : Int → σ → M (σ ⊕ ρ)} {f' : Int → σ' → M (σ' ⊕ ρ')} {fin : σ → ρ} {fin' : σ' → ρ'} {s : σ} {s' : σ'} {Q : ρ → ρ' → Prop} (R : Nat → σ → σ' → Prop) (hn : n ≤ 9223372036854775807) (h0 : R 0 s s')
    (step : ∀ (i : Nat) t t', i < n → R i t t' → Rel (f i t) (f' i t') (Round (R (i + 1)) Q)) (stop : ∀ t t', R n t t' → Q (fin t) (fin' t')) : Rel (M.forI 0 (n : Int) fin f s) (M.forI 0 (n : Int) fin' f' s') Q := by
  have H : ∀ (d i : Nat) t t', i + d = n → R i t t' → ∃ r r', (∃ N, ∀ m, N ≤ m → M.forN (n : Int) fin f m d (i : Int) t = some r) ∧ (∃ N, ∀ m, N ≤ m → M.forN (n : Int) fin' f' m d (i : Int) t' = some r') ∧ Q r r' := by
    intro d
    induction d with
    | zero =>
      intro i t t' e hR
      obtain rfl : i = n := by omega
      exact ⟨fin t, fin' t', ⟨0, fun m _ => by simp [M.forN]⟩, ⟨0, fun m _ => by simp [M.forN]⟩, stop t t' hR⟩
    | succ d ih =>
      intro i t t' e hR
      have hlt : (i : Int) < n := by omega
      obtain ⟨y, y', ⟨N, hy⟩, ⟨N', hy'⟩, hc⟩ := step i t t' (by omega) hR
      rcases hc with ⟨u, u', rfl, rfl, hR⟩ | ⟨r, r', rfl, rfl, hq⟩
      · obtain ⟨r, r', ⟨K, hr⟩, ⟨K', hr'⟩, hq⟩ := ih (i + 1) u u' (by omega) hR
        rw [Int.natCast_add] at hr hr'
        refine ⟨r, r', ⟨max N K, fun m hm => ?_⟩, ⟨max N' K', fun m hm => ?_⟩, hq⟩
        · simp [M.forN, hlt, hy m (by omega)]; exact hr m (by omega)
        · simp [M.forN, hlt, hy' m (by omega)]; exact hr' m (by omega)
      · exact ⟨r, r', ⟨N, fun m hm => by simp [M.forN, hlt, hy m hm]⟩, ⟨N', fun m hm => by simp [M.forN, hlt, hy' m hm]⟩, hq⟩
  obtain ⟨r, r', ⟨N, h1⟩, ⟨N', h2⟩, q⟩ := H n 0 s s' (by omega) h0
  refine ⟨r, r', ⟨N, fun m hm => ?_⟩, ⟨N', fun m hm => ?_⟩, q⟩
  · have := h1 m hm; have hn' : (n : Int) ≤ 9223372036854775807 := by omega
    simp [M.forI, hn']; exact this
  · have := h2 m hm; have hn' : (n : Int) ≤ 9223372036854775807 := by omega
    simp [M.forI, hn']; exact this
/-- a loop with a round count on the left, any loop on the right -/
theorem Rel.loop {σ σ' ρ ρ' : Type} {f : σ → M (σ ⊕ ρ)} {f' : σ' → M (σ' ⊕ ρ')} {s : σ} {s' : σ'} {Q : ρ → ρ' → Prop} (R : σ → σ' → Prop) (μ : σ → Nat) (h0 : R s s')
    (step : ∀ t t', R t t' → Rel (f t) (f' t') (Round (fun u u' => R u u' ∧ μ u < μ t) Q)) : Rel (M.loop f s) (M.loop f' s') Q := by
  have H : ∀ (d : Nat) t t', μ t < d → R t t' → ∃ r r', ConvL f t r ∧ ConvL f' t' r' ∧ Q r r' := by
    intro d
    induction d with
    | zero => intro t t' h; omega
    | succ d ih =>
      intro t t' h hR
      obtain ⟨y, y', hy, hy', hc⟩ := step t t' hR
      rcases hc with ⟨u, u', rfl, rfl, hR, hlt⟩ | ⟨r, r', rfl, rfl, hq⟩
      · obtain ⟨r, r', k1, k2, q⟩ := ih u u' (by omega) hR
        exact ⟨r, r', k1.step hy, k2.step hy', q⟩
      · exact ⟨r, r', ConvL.stop hy, ConvL.stop hy', hq⟩
  obtain ⟨r, r', h1, h2, q⟩ := H (μ s + 1) s s' (by omega) h0
  exact ⟨r, r', h1.conv, h2.conv, q⟩

def entS (a : List (List Int)) (s : Nat) : Int × Int := ((tabP a (2 ^ a.length))[s]?).getD (0, 0)
theorem entS_get {a : List (List Int)} {s : Nat} (h : s < 2 ^ a.length) : (tabP a (2 ^ a.length))[s]? = some (entS a s) := by
  unfold entS
  have : (tabP a (2 ^ a.length))[s]? = some ((tabP a (2 ^ a.length))[s]'(by rw [tabP_len]; exact h)) := List.getElem?_eq_getElem _
  rw [this]; rfl
theorem entS_ok {a : List (List Int)} (hm : Mat a a.length) {s : Nat} (h : s < 2 ^ a.length) : (entS a s).1 = -1000000000000000 ∨ (-10000000 ≤ (entS a s).1 ∧ (entS a s).1 ≤ 10000000) := by
  have hrows := hm.rows
  obtain ⟨_, _, hN, _, _⟩ := pow_ok (n := a.length) (by omega)
  have := tabOK hm _ (Nat.le_refl _) s _ h (entS_get h)
  have hp := (pop_ok (s := s) (by omega)).2.1
  rcases this with e | ⟨h1, h2, _⟩
  · rw [e]; exact .inl rfl
  · exact .inr ⟨by omega, by omega⟩
def AsgR (a : List (List Int)) (i : Nat) (t : Int × List Int) (t' : List Int × Int) : Prop :=
  ∃ s : Nat, s < 2 ^ a.length ∧ (entS a s).1 ≠ -1000000000000000 ∧ t.1 = (s : Int) ∧ t'.2 = ((2 ^ a.length - 1 - s : Nat) : Int) ∧ t'.1 = t.2 ∧ t.2.length ≤ i ∧ ∀ x : Int, x ∈ t.2 → 0 ≤ x ∧ x < (a.length : Int)
theorem same_l10 {a : List (List Int)} (hm : Mat a a.length) : Two (spec_l10Assignment a) (impl_bestAssignment a) (fun w => smI w.1 ∧ (w.2 = true → w.1.length ≤ a.length ∧ ∀ x : Int, x ∈ w.1 → 0 ≤ x ∧ x < (a.length : Int))) := by
  have hrows := hm.rows
  obtain ⟨_, _, hN, hN1, _⟩ := pow_ok (n := a.length) (by omega)
  obtain ⟨r1, r2, r3, r4⟩ := top_reads hm
  have rW : ∀ s : Nat, s < 2 ^ a.length → M.Conv (M.idx ((tabP a (2 ^ a.length)).map Prod.fst) (s : Int)) (entS a s).1 := fun s hs => M.Conv_idx (by rw [List.getElem?_map, entS_get hs]; rfl)
  have rL : ∀ s : Nat, s < 2 ^ a.length → M.Conv (M.idx (lstP a (2 ^ a.length)) ((2 ^ a.length - 1 - s : Nat) : Int)) (mkP (entS a s)) := fun s hs => M.Conv_idx (by
    rw [lstP_get (by omega), show decide (2 ^ a.length ≤ 2 ^ a.length - 1 - s + 2 ^ a.length) = true by simp, show 2 ^ a.length - 1 - (2 ^ a.length - 1 - s) = s by omega, entS_get hs]; rfl)
  have htop : topE a = entS a (2 ^ a.length - 1) := rfl
  refine Two.left (spec_l10Best_ok hm) (Two.left r1 (Two.right (impl_permanents_ok hm) (Two.right r3 ?_)))
  refine Rel.two (Rel.ite rfl (fun _ => Rel.ret ⟨rfl, by simp [smI], fun h => by simp at h⟩) (fun ht => ?_))
  have htb : (entS a (2 ^ a.length - 1)).1 ≠ -1000000000000000 := by rw [← htop]; simpa using ht
  have hw0 : w64 ((((tabP a (2 ^ a.length)).map Prod.fst).length : Int) - 1) = ((2 ^ a.length - 1 : Nat) : Int) := by rw [List.length_map, tabP_len, w64_eq _ (by omega)]; omega
  rw [hw0]
  -- the two walks down the table
  refine Rel.bind (Rel.for (fun i (t : Int × List Int) (t' : List Int × Int) => AsgR a i t t') (by omega) ⟨2 ^ a.length - 1, by omega, htb, rfl, by simp, rfl, by simp, by simp⟩ (fun i t t' hi hR => ?_) (fun t t' hR => hR)) (fun t t' hR => ?_)
  · have hrow : a[i]? = some a[i] := List.getElem?_eq_getElem hi
    have hrl := (hm.row _ (List.mem_of_getElem? hrow)).1
    refine Rel.right (get_row hrow) ?_
    rw [hrl]
    refine Rel.bind (P := fun t t' => AsgR a (i + 1) t t')
      (Rel.for (fun _ (t : Int × List Int) (t' : List Int × Int) => AsgR a i t t') (by omega) hR (fun j u u' hj hR => ?_) (fun u u' ⟨s, h1, h2, h3, h4, h5, h6, h7⟩ => ⟨s, h1, h2, h3, h4, h5, by omega, h7⟩)) (fun u u' hR => Rel.ret (Round.on hR))
    obtain ⟨s, hs, hsb, e1, e2, e3, hlen, hmem⟩ := hR
    rw [e1, e2, e3]
    have hb := bit_ok (s := s) (j := j) (by omega) (by omega)
    have hb' := bit_ok (s := 2 ^ a.length - 1 - s) (j := j) (by omega) (by omega)
    have hc := (compl_ok (n := a.length) (s := s) (by omega) hs).2 j hj
    obtain ⟨c2, c3⟩ := hm.get hrow hj
    have hv := val_cases c3
    generalize ((a[i][j]?).getD 0) = v at c2 hv
    have hpos : 0 < 2 ^ j := Nat.pow_pos (by decide)
    refine Rel.left (M.Conv_guard (by rw [hb.wrapU]; simp)) ?_
    rw [hb.wrapU, hb.and, hb'.and, hb'.or, hb.shl]
    refine Rel.right c2 (Rel.right (M.Conv_guard (by simp)) ?_)
    have stay : AsgR a i ((s : Int), u.2) (u.2, ((2 ^ a.length - 1 - s : Nat) : Int)) := ⟨s, hs, hsb, rfl, rfl, rfl, hlen, hmem⟩
    by_cases hbit : bitN s j = 1
    · obtain ⟨q1, q2, q3⟩ := hb.one hbit
      have hz : bitN (2 ^ a.length - 1 - s) j = 0 := by omega
      rw [hbit, hz]
      have hidx : (2 ^ a.length - 1 - s + 2 ^ j : Nat) = 2 ^ a.length - 1 - (s - 2 ^ j) := by omega
      have hw2 : ∀ W : Nat, W ≤ s → w64 ((s : Int) - (W : Int)) = ((s - W : Nat) : Int) := fun W hW => by rw [w64_eq _ (by omega)]; omega
      rw [hw2 _ q1, hidx]
      simp only [show ((0 : Nat) == 1) = false by decide, cond_false]
      have hE := entS_ok hm (s := s - 2 ^ j) (by omega)
      refine Rel.right (rL (s - 2 ^ j) (by omega)) (Rel.right (M.Conv_guard (by simp)) ?_)
      refine Rel.left (M.Conv_ite (r := (v != (-1000000000000000))) (fun _ => M.Conv_bind (get_row hrow) (M.Conv_bind c2 (M.Conv_ret _))) (fun t => by simp at t)) ?_
      obtain ⟨t1, t2⟩ := timesI_val hv hE
      cases hv0 : (v == (-1000000000000000)) with
      | true =>
        have hne : (v != (-1000000000000000)) = false := by rw [bne, hv0]; rfl
        rw [hne]
        refine Rel.left (x := false) (M.Conv_ite (fun t => by simp at t) (fun _ => M.Conv_ret _)) (Rel.right (x := false) (M.Conv_ite (fun t => by simp at t) (fun _ => M.Conv_ret _)) ?_)
        exact Rel.ite rfl (fun t => by simp at t) (fun _ => Rel.ret (Round.on stay))
      | false =>
        have hne : (v != (-1000000000000000)) = true := by rw [bne, hv0]; rfl
        rw [hne]
        rw [hv0] at t1
        refine Rel.left (x := timesI v (entS a (s - 2 ^ j)).1 == (entS a s).1) (M.Conv_ite (fun _ => M.Conv_bind (get_row hrow) (M.Conv_bind c2 (M.Conv_bind (M.Conv_guard (by simp)) (M.Conv_bind (rW _ (by omega)) (M.Conv_bind (spec_l01Times_ok _ _) (M.Conv_bind (rW _ hs) (M.Conv_ret _))))))) (fun t => by simp at t)) ?_
        cases he0 : ((entS a (s - 2 ^ j)).1 == (-1000000000000000)) with
        | true =>
          rw [he0] at t1
          rw [t1]
          have : ((-1000000000000000 : Int) == (entS a s).1) = false := by simp; omega
          rw [show (bif false || true then (-1000000000000000 : Int) else v + (entS a (s - 2 ^ j)).1) = -1000000000000000 by rfl, this]
          refine Rel.right (x := false) (M.Conv_ite (fun t => by simp [mkP, bne, he0] at t) (fun _ => M.Conv_ret _)) ?_
          exact Rel.ite rfl (fun t => by simp at t) (fun _ => Rel.ret (Round.on stay))
        | false =>
          rw [he0] at t1
          have hE2 : w64 (v + (entS a (s - 2 ^ j)).1) = v + (entS a (s - 2 ^ j)).1 := by
            simp only [beq_eq_false_iff_ne, ne_eq] at hv0 he0
            exact w64_eq _ (by omega)
          rw [t1, show (bif false || false then (-1000000000000000 : Int) else v + (entS a (s - 2 ^ j)).1) = v + (entS a (s - 2 ^ j)).1 by rfl]
          refine Rel.right (x := v + (entS a (s - 2 ^ j)).1 == (entS a s).1) (M.Conv_ite (fun _ => M.Conv_bind (rL s hs) ((M.Conv_ret _).of (by simp only [mkP]; rw [hE2]))) (fun t => by simp [mkP, bne, he0] at t)) ?_
          refine Rel.ite rfl (fun hq => ?_) (fun _ => Rel.ret (Round.on stay))
          have happ : M.Conv (M.app u.2 ([(j : Int)] : List Int)) (u.2 ++ [(j : Int)]) := M.Conv_app (by simp; omega)
          refine Rel.left happ (Rel.left (M.Conv_guard (by simp)) (Rel.right happ (Rel.right (M.Conv_guard (by simp)) (Rel.ret (Round.off ?_)))))
          have hq : v + (entS a (s - 2 ^ j)).1 = (entS a s).1 := by simpa using hq
          refine ⟨s - 2 ^ j, by omega, by simpa using he0, rfl, rfl, rfl, by simp; omega, fun x hx => ?_⟩
          rcases List.mem_append.1 hx with hx | hx
          · exact hmem x hx
          · simp at hx; omega
    · have hz0 := hb.zero hbit
      have hz : bitN (2 ^ a.length - 1 - s) j = 1 := by omega
      rw [hz0, hz]
      simp only [beq_self_eq_true, cond_true]
      refine Rel.right (rL s hs) (Rel.right (M.Conv_guard (by simp)) ?_)
      refine Rel.left (x := false) (M.Conv_ite (fun t => by simp at t) (fun _ => M.Conv_ret _)) ?_
      refine Rel.left (x := false) (M.Conv_ite (fun t => by simp at t) (fun _ => M.Conv_ret _)) (Rel.right (x := false) (M.Conv_ite (fun t => by simp at t) (fun _ => M.Conv_ret _)) ?_)
      exact Rel.ite rfl (fun t => by simp at t) (fun _ => Rel.ret (Round.on stay))
  · obtain ⟨s, hs, hsb, e1, e2, e3, hlen, hmem⟩ := hR
    rw [e3]
    exact Rel.ret ⟨rfl, by simp only [smI]; omega, fun _ => ⟨hlen, hmem⟩⟩
theorem same_BestAssignment (a : List (List Int)) (_ : fitL (fitL inI64) a) (sa : smII a) : Two (spec_BestAssignment a) (impl_BestAssignment a) (fun w => smI w.1) := by
  refine same_sq sa (by simp [smI]) fun hs => ?_
  refine Two.bind (same_l10 (sq_mat hs)) fun x hx => Two.ite (fun _ => Two.ret _ (by simp [smI])) (fun _ => Two.ret _ hx.1)

theorem Conv_check {ρ : Type} {n lo : Nat} {f : Int → Unit → M (Unit ⊕ (Unit ⊕ ρ))} (P : Nat → Prop) (v : ρ) (hn : n ≤ 9223372036854775807)
    (h : ∀ i : Nat, lo ≤ i → i < n → (P i ∧ M.Conv (f i ()) (.inl ())) ∨ (¬ P i ∧ M.Conv (f i ()) (.inr (.inr v)))) :
    ((∀ i, lo ≤ i → i < n → P i) ∧ M.Conv (M.forI (lo : Int) (n : Int) (fun s => .inl s) f ()) (.inl ())) ∨ ((∃ i, lo ≤ i ∧ i < n ∧ ¬ P i) ∧ M.Conv (M.forI (lo : Int) (n : Int) (fun s => .inl s) f ()) (.inr v)) := by
  have H : M.TC (M.forI (lo : Int) (n : Int) (fun s => .inl s) f ()) (fun r => ((∀ i, lo ≤ i → i < n → P i) ∧ r = .inl ()) ∨ ((∃ i, lo ≤ i ∧ i < n ∧ ¬ P i) ∧ r = .inr v)) := by
    refine M.TC_for (fun i _ => ∀ k : Nat, lo ≤ k → (k : Int) < i → P k) () (by omega) (by omega) (fun k h1 h2 => by omega) (fun i s h1 h2 hI => ?_) (fun i s hi hI => ?_)
    · obtain ⟨k, rfl⟩ : ∃ k : Nat, i = (k : Int) := ⟨i.toNat, by omega⟩
      rcases h k (by omega) (by omega) with ⟨hp, hc⟩ | ⟨hp, hc⟩
      · refine hc.tc (.inl ⟨(), rfl, fun q h3 h4 => ?_⟩)
        by_cases e : q = k
        · subst e; exact hp
        · exact hI q h3 (by omega)
      · exact hc.tc (.inr ⟨.inr v, rfl, .inr ⟨⟨k, by omega, by omega, hp⟩, rfl⟩⟩)
    · rcases hi with rfl | ⟨rfl, hle⟩
      · exact .inl ⟨fun q h1 h2 => hI q h1 (by omega), rfl⟩
      · exact .inl ⟨fun q h1 h2 => by omega, rfl⟩
  obtain ⟨r, hr, ⟨h1, rfl⟩ | ⟨h1, rfl⟩⟩ := H
  · exact .inl ⟨h1, hr⟩
  · exact .inr ⟨h1, hr⟩
def nd (l : List Int) (i : Nat) : Int := (l[i]?).getD 0
theorem nd_read {l : List Int} {i : Nat} (h : i < l.length) : M.Conv (M.idx l (i : Int)) (nd l i) := by
  have : l[i]? = some (l[i]'h) := List.getElem?_eq_getElem _
  refine M.Conv_idx ?_
  unfold nd; rw [this]; rfl
def OkNodes (n : Nat) (l : List Int) : Prop := ∀ i, i < l.length → (0 ≤ nd l i ∧ nd l i ≤ (n : Int) - 1) ∧ (0 < i → nd l (i - 1) < nd l i)
theorem OkNodes.len {n : Nat} {l : List Int} (h : OkNodes n l) : l.length ≤ n := by
  have key : ∀ i, i < l.length → (i : Int) ≤ nd l i := by
    intro i
    induction i with
    | zero => intro hi; have := (h 0 hi).1; omega
    | succ i ih => intro hi; have := (h (i + 1) hi).2 (by omega); have := ih (by omega); simp only [Nat.add_sub_cancel] at *; omega
  by_cases e : l.length = 0
  · omega
  · have := key (l.length - 1) (by omega)
    have := (h (l.length - 1) (by omega)).1
    omega
structure ByC (code : List Int) : Prop where
  len : code.length ≤ 4096
  byte : ∀ x ∈ code, 0 ≤ x ∧ x ≤ 255
structure Src (code : List Int) (s : TL01source) : Prop where
  code_ : s.code = code
  lo : 0 ≤ s.at_
  hi : s.at_ ≤ code.length
  seed : 0 ≤ s.seed ∧ s.seed < 2147483647
theorem Src.mk' {code : List Int} {s : TL01source} {c : List Int} (h : Src code s) (hc : c = code) : Src code ⟨c, s.at_, s.seed⟩ := ⟨hc, h.lo, h.hi, h.seed⟩
theorem tmod_in {x n : Int} (hx : 0 ≤ x) (hn : 0 < n) : 0 ≤ x.tmod n ∧ x.tmod n < n := ⟨Int.tmod_nonneg n hx, Int.tmod_lt_of_pos x hn⟩
theorem tdiv_in {x : Int} (hx : 0 ≤ x) (h : x < 2147483647) : 0 ≤ x.tdiv 31 ∧ x.tdiv 31 < 2147483647 := by
  rw [Int.tdiv_eq_ediv_of_nonneg hx]; omega
theorem from_ok {code : List Int} (hc : ByC code) : M.TC (spec_l01From code) (Src code) := by
  have hl := hc.len
  unfold spec_l01From
  refine M.TC_bind (Mid := fun x => 0 ≤ x.1 ∧ x.1 < 2147483647) (M.TC_loop (fun (s : Int × Int) => (0 ≤ s.1 ∧ s.1 < 2147483647) ∧ 0 ≤ s.2 ∧ s.2 ≤ 4096) (fun s => (4096 - s.2).toNat) (61403, 0) (by simp) fun s hs => ?_) fun x hx => M.TC_ret ⟨rfl, by simp, by simp, hx⟩
  refine M.TC_ite (fun t => ?_) (fun _ => M.TC_ret (.inr ⟨_, rfl, hs.1⟩))
  simp only [Bool.and_eq_true, decide_eq_true_eq] at t
  refine M.TC_bind (Mid := fun x => 0 ≤ x ∧ x ≤ 255) (M.TC_idx hs.2.1 t.1 fun x hx => hc.byte x (List.mem_of_getElem? hx)) fun x hx => M.TC_ret (.inl ⟨_, rfl, ?_, ?_⟩)
  · have e1 : w64 (s.1 * 67) = s.1 * 67 := w64_eq _ (by omega)
    have e2 : w64 x = x := w64_eq _ (by omega)
    have e3 : w64 (s.1 * 67 + x) = s.1 * 67 + x := w64_eq _ (by omega)
    have e4 : w64 (s.2 + 1) = s.2 + 1 := w64_eq _ (by omega)
    simp only [e1, e2, e3, e4]
    exact ⟨tmod_in (by omega) (by omega), by omega, by omega⟩
  · simp only
    rw [w64_eq _ (by omega)]; omega
theorem next_ok {code : List Int} (hc : ByC code) {s : TL01source} (hs : Src code s) (n : Int) (hn : n ≤ 1000000) : M.TC (spec_l01Next s n) (fun r => Src code r.2 ∧ 0 ≤ r.1 ∧ (r.1 < n ∨ (n ≤ 1 ∧ r.1 = 0))) := by
  have hl := hc.len
  obtain ⟨h1, h2, h3, h4⟩ := hs
  unfold spec_l01Next
  refine M.TC_ite (fun t => M.TC_ret ⟨⟨h1, h2, h3, h4⟩, by simp, .inr ⟨by simpa using t, rfl⟩⟩) (fun t => ?_)
  have t : 1 < n := by simpa using t
  have e1 : w64 (s.seed * 48271) = s.seed * 48271 := w64_eq _ (by omega)
  have e2 : w64 (s.seed * 48271 + 59) = s.seed * 48271 + 59 := w64_eq _ (by omega)
  have hsd := tmod_in (x := s.seed * 48271 + 59) (n := 2147483647) (by omega) (by omega)
  simp only [e1, e2]
  generalize (s.seed * 48271 + 59).tmod 2147483647 = sd at hsd ⊢
  have hq := tdiv_in hsd.1 hsd.2
  generalize sd.tdiv 31 = q at hq ⊢
  have e3 : w64 q = q := w64_eq _ (by omega)
  have e4 : w64 (s.at_ + 1) = s.at_ + 1 := w64_eq _ (by omega)
  simp only [e3, e4, h1]
  refine M.TC_bind (Mid := fun (x : Int × Int) => 0 ≤ x.1 ∧ 0 ≤ x.2 ∧ x.2 ≤ code.length) ?_ (fun x hx => M.TC_bind (M.TC_guard (Post := fun _ => True) (by simp; omega) trivial) fun _ _ => M.TC_ret ⟨⟨rfl, hx.2.1, hx.2.2, hsd⟩, (tmod_in hx.1 (by omega)).1, .inl (tmod_in hx.1 (by omega)).2⟩)
  refine M.TC_ite (fun t => ?_) (fun _ => M.TC_ret ⟨hq.1, h2, h3⟩)
  have t : s.at_ < code.length := by simpa using t
  refine M.TC_bind (Mid := fun x => 0 ≤ x ∧ x ≤ 255) (M.TC_idx h2 t fun x hx => hc.byte x (List.mem_of_getElem? hx)) fun x hx => ?_
  refine M.TC_ite (fun _ => ?_) (fun _ => M.TC_ret ⟨?_, by simp only; omega, by simp only; omega⟩)
  · have e5 : w64 (s.at_ + 1 - 1) = s.at_ := by rw [w64_eq _ (by omega)]; omega
    rw [e5]
    refine M.TC_bind (Mid := fun x => 0 ≤ x ∧ x ≤ 255) (M.TC_idx h2 t fun x hx => hc.byte x (List.mem_of_getElem? hx)) fun x hx => M.TC_ret ⟨?_, by simp only; omega, by simp only; omega⟩
    simp only
    rw [w64_eq _ (by omega)]; exact hx.1
  · simp only
    rw [w64_eq x (by omega), w64_eq _ (by omega)]; omega
theorem pick_ok {code : List Int} (hc : ByC code) {s : TL01source} (hs : Src code s) (l : List Int) (h1 : 1 ≤ l.length) (h2 : l.length ≤ 1000) (P : Int → Prop) (hP : ∀ x ∈ l, P x) : M.TC (spec_l01Pick s l) (fun r => Src code r.2.1 ∧ P r.1) := by
  unfold spec_l01Pick
  refine M.TC_bind (next_ok hc hs l.length (by omega)) fun x hx => M.TC_bind (Mid := P) (M.TC_idx hx.2.1 (by omega) fun y hy => hP y (List.mem_of_getElem? hy)) fun y hy => M.TC_ret ⟨hx.1.mk' hs.code_, hy⟩
theorem value_ok {code : List Int} (hc : ByC code) {s : TL01source} (hs : Src code s) : M.TC (spec_l01DrawValue s) (fun r => Src code r.2 ∧ inI64 r.1) := by
  unfold spec_l01DrawValue
  refine M.TC_bind (next_ok hc hs 24 (by omega)) fun x hx => ?_
  refine M.TC_bind (Mid := fun _ => True) (M.TC_ite (fun _ => M.TC_ret trivial) (fun _ => M.TC_ite (fun _ => M.TC_ret trivial) (fun _ => M.TC_ret trivial))) fun b _ => ?_
  refine M.TC_ite (fun _ => M.TC_ret ⟨hx.1.mk' hs.code_, by simp [inI64]⟩) (fun _ => M.TC_ite (fun _ => ?_) (fun _ => M.TC_ite (fun _ => ?_) (fun _ => ?_)))
  · exact M.TC_bind (pick_ok hc (hx.1.mk' hs.code_) _ (by simp) (by simp) inI64 (by simp [inI64])) fun y hy => M.TC_ret ⟨hy.1.mk' hs.code_, hy.2⟩
  · exact M.TC_bind (next_ok hc (hx.1.mk' hs.code_) 2000 (by omega)) fun y hy => M.TC_ret ⟨hy.1.mk' hs.code_, w64_bd _⟩
  · exact M.TC_bind (next_ok hc (hx.1.mk' hs.code_) 41 (by omega)) fun y hy => M.TC_ret ⟨hy.1.mk' hs.code_, w64_bd _⟩
/-- what a drawn matrix is at least: not large, of numbers -/
structure MatS (a : List (List Int)) : Prop where
  rows : a.length ≤ 11
  row : ∀ r ∈ a, r.length ≤ 10 ∧ ∀ x ∈ r, inI64 x
theorem MatS.sm {a : List (List Int)} (h : MatS a) : smII a := ⟨by have := h.rows; omega, fun r hr => by have := (h.row r hr).1; omega⟩
theorem MatS.fit {a : List (List Int)} (h : MatS a) : fitL (fitL inI64) a := ⟨by have := h.rows; omega, fun r hr => ⟨by have := (h.row r hr).1; omega, (h.row r hr).2⟩⟩
theorem MatS.of {m n : Nat} {f : Nat → Nat → Int} (hm : m ≤ 10) (hn : n ≤ 10) (hf : ∀ i j, inI64 (f i j)) : MatS (matF m n f) := by
  refine ⟨by rw [matF_len]; omega, fun r hr => ?_⟩
  simp only [matF, tab, List.mem_map, List.mem_range] at hr
  obtain ⟨i, hi, rfl⟩ := hr
  refine ⟨by simp; omega, fun x hx => ?_⟩
  simp only [List.mem_map, List.mem_range] at hx
  obtain ⟨j, hj, rfl⟩ := hx
  exact hf i j
theorem size_ok {code : List Int} (hc : ByC code) {s : TL01source} (hs : Src code s) (m n : Nat) (hm : 1 ≤ m ∧ m ≤ 10) (hn : 1 ≤ n ∧ n ≤ 10) : M.TC (spec_l02DrawSize s (m : Int) (n : Int)) (fun r => MatS r.1 ∧ Src code r.2) := by
  unfold spec_l02DrawSize
  rw [hs.code_]
  refine M.TC_bindC (spec_l02Bottom_ok (by omega) (by omega)) (M.TC_bind (pick_ok hc hs _ (by simp) (by simp) (fun x => 2 ≤ x ∧ x ≤ 5) (by simp)) fun p hp => ?_)
  refine M.TC_bind (Mid := fun (r : Int × Int × List (List Int)) => Src code ⟨code, r.1, r.2.1⟩ ∧ ∃ f, r.2.2 = matF m n f ∧ ∀ i j, inI64 (f i j)) (M.TC_for (fun _ (r : Int × Int × List (List Int)) => Src code ⟨code, r.1, r.2.1⟩ ∧ ∃ f, r.2.2 = matF m n f ∧ ∀ i j, inI64 (f i j)) _ (by omega) (by omega) ⟨hp.1.mk' rfl, _, rfl, fun _ _ => by simp [inI64]⟩ (fun i r h1 h2 hI => ?_) (fun _ _ _ hI => hI)) fun r hr => ?_
  · refine M.TC_bind (Mid := fun (r : Int × Int × List (List Int)) => Src code ⟨code, r.1, r.2.1⟩ ∧ ∃ f, r.2.2 = matF m n f ∧ ∀ i j, inI64 (f i j)) (M.TC_for (fun _ (r : Int × Int × List (List Int)) => Src code ⟨code, r.1, r.2.1⟩ ∧ ∃ f, r.2.2 = matF m n f ∧ ∀ i j, inI64 (f i j)) _ (by omega) (by omega) hI (fun j r h3 h4 hI => ?_) (fun _ _ _ hI => hI)) fun r hr => M.TC_ret (.inl ⟨_, rfl, hr⟩)
    obtain ⟨hsr, f, hf, hfi⟩ := hI
    refine M.TC_bind (next_ok hc hsr p.1 (by omega)) fun x hx => ?_
    refine M.TC_bind (Mid := fun (r : Int × Int × List (List Int)) => Src code ⟨code, r.1, r.2.1⟩ ∧ ∃ f, r.2.2 = matF m n f ∧ ∀ i j, inI64 (f i j)) (M.TC_ite (fun _ => ?_) (fun _ => M.TC_ret ⟨hx.1.mk' rfl, f, hf, hfi⟩)) fun r hr => M.TC_ret (.inl ⟨_, rfl, hr⟩)
    rw [hf]
    obtain ⟨i', rfl⟩ : ∃ q : Nat, i = (q : Int) := ⟨i.toNat, by omega⟩
    obtain ⟨j', rfl⟩ : ∃ q : Nat, j = (q : Int) := ⟨j.toNat, by omega⟩
    refine M.TC_bindC (idx_tab (by omega)) (M.TC_bind (next_ok hc (hx.1.mk' rfl) 26 (by omega)) fun y hy => ?_)
    refine M.TC_bindC (idx_tab (by omega)) (M.TC_bindC (M.Conv_upd (by rw [tab_len]; omega)) (M.TC_ret ⟨hy.1.mk' rfl, fun p q => if p = i' ∧ q = j' then w64 (y.1 - 10) else f p q, ?_, fun p q => ?_⟩))
    · simp only [Int.toNat_natCast]
      have := matF_set (m := m) (n := n) (i := i') (j := j') (f := f) (g := fun p q => if p = i' ∧ q = j' then w64 (y.1 - 10) else f p q) (fun p q _ _ hpq => by rw [if_neg hpq])
      simpa using this
    · simp only
      split
      · exact w64_bd _
      · exact hfi p q
  · obtain ⟨hsr, f, hf, hfi⟩ := hr
    refine M.TC_bind (next_ok hc hsr 60 (by omega)) fun x hx => ?_
    rw [hf]
    have hM := MatS.of (m := m) (n := n) hm.2 hn.2 hfi
    refine M.TC_ite (fun _ => ?_) (fun _ => M.TC_ite (fun _ => ?_) (fun _ => M.TC_ite (fun _ => ?_) (fun _ => M.TC_ret ⟨hM, hx.1.mk' rfl⟩)))
    · refine M.TC_bindC (idx_tab (i := 0) (by omega)) (M.TC_bind (value_ok hc (hx.1.mk' rfl)) fun y hy => ?_)
      refine M.TC_bindC (idx_tab (i := 0) (by omega)) (M.TC_bindC (M.Conv_upd (i := 0) (by rw [tab_len]; omega)) (M.TC_ret ⟨?_, hy.1.mk' rfl⟩))
      have := matF_set (m := m) (n := n) (i := 0) (j := 0) (f := f) (g := fun p q => if p = 0 ∧ q = 0 then y.1 else f p q) (fun p q _ _ hpq => by rw [if_neg hpq])
      rw [if_pos ⟨rfl, rfl⟩] at this
      rw [this]
      refine MatS.of hm.2 hn.2 fun p q => ?_
      split
      · exact hy.2
      · exact hfi p q
    · refine M.TC_bindC (M.Conv_app (by rw [matF_len]; simp; omega)) (M.TC_ret ⟨⟨by simp [matF_len]; omega, fun r hr => ?_⟩, hx.1.mk' rfl⟩)
      rcases List.mem_append.1 hr with hr | hr
      · exact hM.row r hr
      · simp at hr; subst hr; simp
    · exact M.TC_ret ⟨⟨by simp, by simp⟩, hx.1.mk' rfl⟩

structure VecS (x : List Int) : Prop where
  len : x.length ≤ 20
  mem : ∀ v ∈ x, inI64 v
theorem VecS.sm {x : List Int} (h : VecS x) : smI x := by have := h.len; unfold smI; omega
theorem VecS.fit {x : List Int} (h : VecS x) : fitL inI64 x := ⟨by have := h.len; omega, h.mem⟩
theorem VecS.snoc {x : List Int} {v : Int} (h : VecS x) (hl : x.length ≤ 19) (hv : inI64 v) : VecS (x ++ [v]) := ⟨by simp; omega, fun y hy => by
  rcases List.mem_append.1 hy with hy | hy
  · exact h.mem y hy
  · simp at hy; subst hy; exact hv⟩
theorem VecS.set {x : List Int} {v : Int} (i : Nat) (h : VecS x) (hv : inI64 v) : VecS (x.set i v) := ⟨by rw [List.length_set]; exact h.len, fun y hy => by
  rcases List.mem_or_eq_of_mem_set hy with hy | hy
  · exact h.mem y hy
  · subst hy; exact hv⟩
theorem likeInts_refl {a : List Int} (h : a.length ≤ 1099511627776) : M.Conv (laws_likeInts a a) true := by
  unfold laws_likeInts
  refine M.Conv_ite (fun t => by simp at t) (fun _ => ?_)
  rcases Conv_check (ρ := Bool) (n := a.length) (lo := 0) (f := (fun i1 => (fun (_ : Unit) => M.bind (M.idx a i1) (fun x2 => M.bind (M.idx a i1) (fun x3 => M.ite (x2 != x3) (M.ret (.inr (.inr false))) (M.ret (.inl ()))))))) (fun _ => True) false (by omega) (fun i _ hi => .inl ⟨trivial, M.Conv_bind (nd_read hi) (M.Conv_bind (nd_read hi) (M.Conv_ite (fun t => by simp at t) (fun _ => M.Conv_ret _)))⟩) with ⟨_, h2⟩ | ⟨⟨i, _, _, h3⟩, _⟩
  · exact M.Conv_bind h2 (M.Conv_ret _)
  · exact absurd trivial h3
theorem ent_at {a : List (List Int)} {i j : Nat} {row : List Int} (h : a[i]? = some row) : entA a i j = (row[j]?).getD 0 := by simp only [entA, h, Option.getD_some]
theorem big_ok (code : List Int) : M.Conv (laws_big code) (decide (4096 < (code.length : Int))) := M.Conv_ret _
theorem ByC.of {code : List Int} (h : fitL inU8 code) (hb : decide (4096 < (code.length : Int)) = false) : ByC code := ⟨by have := of_decide_eq_false hb; omega, fun x hx => h.2 x hx⟩
theorem cmp_list0 {l : List Int} {c : Int} (h : l.length ≤ 1099511627776) : M.Conv (M.ite (c != c) (M.ret true) (M.bind (laws_likeInts l l) (fun x12 => M.ret (!x12)))) false :=
  M.Conv_ite (fun t => by simp at t) (fun _ => M.Conv_bind (likeInts_refl h) (M.Conv_ret _))
def co (c : List Int) (i : Nat) : Int := (c[i]?).getD (-1000000000000000)
theorem co_get {c : List Int} {i : Nat} (h : i < c.length) : c[i]? = some (co c i) := by
  unfold co; rw [List.getElem?_eq_getElem h]; rfl
theorem co_out {c : List Int} {i : Nat} (h : c.length ≤ i) : co c i = -1000000000000000 := by
  unfold co; rw [List.getElem?_eq_none h]; rfl
theorem co_val {c : List Int} (hv : c.all valB = true) (i : Nat) : co c i = -1000000000000000 ∨ -1000000 ≤ co c i ∧ co c i ≤ 1000000 := by
  by_cases hi : i < c.length
  · rw [List.all_eq_true] at hv
    exact val_cases (hv _ (List.mem_of_getElem? (co_get hi)))
  · exact .inl (co_out (by omega))
theorem times_co {a p : Int} (h : a ≠ -1000000000000000) (ha : -1000000 ≤ a ∧ a ≤ 1000000) (hp : -1000000 ≤ p ∧ p ≤ 1000000) : timesI a p = a + p := by
  simp only [timesI]
  rw [show (a == (-1000000000000000)) = false by simpa using h, show (p == (-1000000000000000)) = false by simp; omega]
  exact w64_eq _ (by omega)
theorem times_bot (p : Int) : timesI (-1000000000000000) p = -1000000000000000 := by simp [timesI]
structure IsEv (c : List Int) (x v : Int) : Prop where
  up : ∀ i : Nat, co c i ≠ -1000000000000000 → co c i + i * x ≤ v
  on : ∃ i : Nat, co c i ≠ -1000000000000000 ∧ v = co c i + i * x
theorem IsEv.unique {c : List Int} {x v w : Int} (h : IsEv c x v) (g : IsEv c x w) : v = w := by
  obtain ⟨i, h1, h2⟩ := h.on
  obtain ⟨k, g1, g2⟩ := g.on
  have := h.up k g1
  have := g.up i h1
  omega
structure PartP (c d : List Int) (n i k : Nat) (s : List Int) : Prop where
  len : s.length = n
  up : ∀ p q : Nat, (p < i ∨ p = i ∧ q < k) → co c p ≠ -1000000000000000 → co d q ≠ -1000000000000000 → co c p + co d q ≤ co s (p + q)
  on : ∀ m : Nat, co s m = -1000000000000000 ∨ ∃ p q : Nat, p + q = m ∧ co c p ≠ -1000000000000000 ∧ co d q ≠ -1000000000000000 ∧ co s m = co c p + co d q
theorem co_set {s : List Int} {i m : Nat} {v : Int} (hi : i < s.length) : co (s.set i v) m = if m = i then v else co s m := by
  unfold co
  by_cases e : m = i
  · subst e; rw [if_pos rfl, List.getElem?_set_self hi]; rfl
  · rw [if_neg e, List.getElem?_set_ne (by omega)]
theorem PartP.step {c d s : List Int} {n i k : Nat} (hc : c.all valB = true) (hd : d.all valB = true) (h : PartP c d n i k s) (hn : i + k < n) : PartP c d n i (k + 1) (s.set (i + k) (mx (co s (i + k)) (timesI (co c i) (co d k)))) := by
  have hlt : i + k < s.length := by rw [h.len]; exact hn
  have vc := co_val hc i
  have vd := co_val hd k
  have vs : co s (i + k) = -1000000000000000 ∨ -2000000 ≤ co s (i + k) := by
    rcases h.on (i + k) with e | ⟨p, q, _, h1, h2, e⟩
    · exact .inl e
    · have := co_val hc p
      have := co_val hd q
      omega
  -- the new coefficient
  have hz : (mx (co s (i + k)) (timesI (co c i) (co d k)) = co s (i + k) ∧ (co c i = -1000000000000000 ∨ co d k = -1000000000000000 ∨ co c i + co d k ≤ co s (i + k))) ∨ (mx (co s (i + k)) (timesI (co c i) (co d k)) = co c i + co d k ∧ co c i ≠ -1000000000000000 ∧ co d k ≠ -1000000000000000 ∧ co s (i + k) ≤ co c i + co d k) := by
    rw [mx_eq]
    by_cases e1 : co c i = -1000000000000000
    · rw [e1, times_bot]; left; omega
    · by_cases e2 : co d k = -1000000000000000
      · rw [e2, show timesI (co c i) (-1000000000000000) = -1000000000000000 by simp [timesI]]; left; omega
      · rw [times_co e1 (by omega) (by omega)]
        by_cases e3 : co c i + co d k ≤ co s (i + k)
        · left; omega
        · right; omega
  refine ⟨by rw [List.length_set]; exact h.len, fun p q hpq h1 h2 => ?_, fun m => ?_⟩
  · rw [co_set hlt]
    by_cases e : p + q = i + k
    · rw [if_pos e]
      by_cases e2 : p = i ∧ q = k
      · obtain ⟨rfl, rfl⟩ := e2; omega
      · have := h.up p q (by omega) h1 h2
        rw [e] at this
        omega
    · rw [if_neg e]
      exact h.up p q (by omega) h1 h2
  · rw [co_set hlt]
    by_cases e : m = i + k
    · rw [if_pos e]
      rcases hz with ⟨hz, _⟩ | ⟨hz, h1, h2, _⟩
      · rw [hz]
        have := h.on m
        rw [e] at this ⊢
        exact this
      · exact .inr ⟨i, k, e.symm, h1, h2, hz⟩
    · rw [if_neg e]; exact h.on m
theorem shp_width {a : List (List Int)} {w : Nat} (h : Shp a w) : widthN a = w := by
  have h1 := h.rows
  unfold widthN
  cases a with
  | nil => simp at h1
  | cons r rs => exact h.row r (by simp)
theorem mat_matB {a : List (List Int)} {w : Nat} (h : Mat a w) : matB a = true := by
  rw [matB_shp h.shp, List.all_eq_true]
  intro r hr
  rw [List.all_eq_true]
  exact (h.row r hr).2
structure DotP (u v : Nat → Int) (n : Nat) (s : Int) : Prop where
  up : ∀ j, j < n → u j ≠ -1000000000000000 → v j ≠ -1000000000000000 → u j + v j ≤ s
  on : s = -1000000000000000 ∨ ∃ j, j < n ∧ u j ≠ -1000000000000000 ∧ v j ≠ -1000000000000000 ∧ s = u j + v j
def Bd (B : Int) (x : Int) : Prop := x = -1000000000000000 ∨ (-B ≤ x ∧ x ≤ B)
theorem DotP.unique {u v : Nat → Int} {n : Nat} {s t : Int} (hu : ∀ j, j < n → Bd 2000000 (u j)) (hv : ∀ j, j < n → Bd 2000000 (v j)) (h : DotP u v n s) (g : DotP u v n t) : s = t := by
  have key : ∀ {s t : Int}, DotP u v n s → DotP u v n t → t ≤ s := fun {s t} h g => by
    rcases g.on with e | ⟨j, hj, h1, h2, e⟩
    · rcases h.on with e' | ⟨j, hj, h1, h2, e'⟩
      · omega
      · have b1 := hu j hj
        have b2 := hv j hj
        unfold Bd at b1 b2
        omega
    · have := h.up j hj h1 h2
      omega
  have := key h g
  have := key g h
  omega
def rowN (a : List (List Int)) (i : Nat) : List Int := (a[i]?).getD []
theorem rowN_get {a : List (List Int)} {i : Nat} (h : i < a.length) : a[i]? = some (rowN a i) := by unfold rowN; rw [List.getElem?_eq_getElem h]; rfl
theorem nd_row {a : List (List Int)} {i j : Nat} (h : i < a.length) : nd (rowN a i) j = entA a i j := (ent_at (rowN_get h)).symm
def mulM (a b : List (List Int)) : List (List Int) := matF a.length (widthN b) fun i k => dotL (colL b k) (rowN a i)
theorem mulM_shp {a b : List (List Int)} {n w : Nat} (ha : Shp a n) (hb : Shp b w) : Shp (mulM a b) w := by
  unfold mulM
  rw [shp_width hb]
  exact shp_of ha.rows hb.cols
theorem DotP.congr {u v u' v' : Nat → Int} {n : Nat} {s : Int} (h : DotP u v n s) (hu : ∀ j, j < n → u j = u' j) (hv : ∀ j, j < n → v j = v' j) : DotP u' v' n s := by
  refine ⟨fun j hj h1 h2 => ?_, ?_⟩
  · rw [← hu j hj] at h1 ⊢
    rw [← hv j hj] at h2 ⊢
    exact h.up j hj h1 h2
  · rcases h.on with e | ⟨j, hj, h1, h2, e⟩
    · exact .inl e
    · rw [hu j hj] at h1 e
      rw [hv j hj] at h2 e
      exact .inr ⟨j, hj, h1, h2, e⟩
def pw (a f : List (List Int)) : Nat → List (List Int)
  | 0 => f
  | k + 1 => mulM a (pw a f k)
structure Ser (a f : List (List Int)) (w : Nat) : Prop where
  mat : Mat a a.length
  fst : Mat f w
  len : f.length = a.length
theorem Ser.shp {a f : List (List Int)} {w : Nat} (h : Ser a f w) : ∀ k, Shp (pw a f k) w ∧ (pw a f k).length = a.length
  | 0 => ⟨h.fst.shp, h.len⟩
  | k + 1 => ⟨mulM_shp h.mat.shp (h.shp k).1, matF_len _ _ _⟩
def okTo (a f : List (List Int)) (k : Nat) : Prop := ∀ i, i ≤ k → matB (pw a f i) = true
theorem Ser.zero {a f : List (List Int)} {w : Nat} (h : Ser a f w) : okTo a f 0 := fun i hi => by
  obtain rfl : i = 0 := by omega
  exact mat_matB h.fst
theorem okTo.mono {a f : List (List Int)} {k m : Nat} (h : okTo a f k) (hm : m ≤ k) : okTo a f m := fun i hi => h i (by omega)
theorem Ser.pm {a f : List (List Int)} {w k : Nat} (hs : Ser a f w) (ok : okTo a f k) {i : Nat} (hi : i ≤ k) : Mat (pw a f i) w := by
  have := matB_mat (ok i hi)
  rwa [shp_width (hs.shp i).1] at this
structure Gr (g : TGraph) (n : Nat) : Prop where
  ev : g.Events = (n : Int)
  lo : 1 ≤ n
  hi : n ≤ 10
  len : g.Places.length ≤ 30
  pl : ∀ p ∈ g.Places, (0 ≤ p.From ∧ p.From < n) ∧ (0 ≤ p.To ∧ p.To < n) ∧ 0 ≤ p.Tokens ∧ p.Tokens ≤ 5
/-- a way from s of at most k places -/
inductive Wk (ps : List TPlace) (s : Int) : Nat → Int → Int → Prop
  | nil (k : Nat) : Wk ps s k s 0
  | step (k : Nat) (p : TPlace) (w : Int) : p ∈ ps → Wk ps s k p.From w → Wk ps s (k + 1) p.To (w + p.Tokens)
theorem Wk.mono {ps : List TPlace} {s : Int} {k : Nat} {v w : Int} (h : Wk ps s k v w) : ∀ {m : Nat}, k ≤ m → Wk ps s m v w := by
  induction h with
  | nil k => exact fun _ => .nil _
  | step k p w hp _ ih =>
    intro m hm
    obtain ⟨m', rfl⟩ : ∃ m', m = m' + 1 := ⟨m - 1, by omega⟩
    exact .step m' p w hp (ih (by omega))
def muL : List Int → Nat
  | [] => 0
  | x :: xs => (if x < 0 then 1000 else x.toNat) + muL xs
def cntL : List Int → Nat
  | [] => 0
  | x :: xs => (if x < 0 then 0 else 1) + cntL xs
theorem cnt_le : ∀ d : List Int, cntL d ≤ d.length
  | [] => Nat.le_refl _
  | x :: xs => by
    have := cnt_le xs
    simp only [cntL, List.length_cons]
    split <;> omega
theorem nd_cons (x : Int) (xs : List Int) (i : Nat) : nd (x :: xs) (i + 1) = nd xs i := by simp [nd]
theorem mu_set : ∀ {d : List Int} {i : Nat} {x : Int}, i < d.length → 0 ≤ x → x ≤ 900 → (nd d i < 0 ∨ x < nd d i) → muL (d.set i x) < muL d ∧ cntL (d.set i x) = cntL d + (if nd d i < 0 then 1 else 0)
  | y :: ys, 0, x, _, h0, h1, h => by
    have e : nd (y :: ys) 0 = y := by simp [nd]
    rw [e] at h ⊢
    simp only [List.set_cons_zero, muL, cntL]
    rw [if_neg (show ¬ x < 0 by omega), if_neg (show ¬ x < 0 by omega)]
    by_cases hy : y < 0
    · simp only [if_pos hy]; omega
    · simp only [if_neg hy]; omega
  | y :: ys, i + 1, x, hi, h0, h1, h => by
    rw [nd_cons] at h ⊢
    have := mu_set (d := ys) (i := i) (by simpa using hi) h0 h1 h
    simp only [List.set_cons_succ, muL, cntL]
    omega
theorem nd_set {d : List Int} {i v : Nat} {x : Int} (hi : i < d.length) : nd (d.set i x) v = if v = i then x else nd d v := by
  unfold nd
  by_cases e : v = i
  · subst e; rw [if_pos rfl, List.getElem?_set_self hi]; rfl
  · rw [if_neg e, List.getElem?_set_ne (by omega)]
structure DInv (ps : List TPlace) (s : Int) (n : Nat) (d : List Int) : Prop where
  len : d.length = n
  src : nd d s.toNat = 0
  way : ∀ v : Int, 0 ≤ v → v < n → nd d v.toNat = -1 ∨ (0 ≤ nd d v.toNat ∧ ∃ k, Wk ps s k v (nd d v.toNat))
  bd : ∀ v : Nat, v < n → nd d v ≤ 5 * ((cntL d : Int) - 1)
  one : 1 ≤ cntL d
theorem DInv.upd {g : TGraph} {s : Int} {n : Nat} {d : List Int} (hg : Gr g n) (hs : 0 ≤ s ∧ s < n) (h : DInv g.Places s n d) {p : TPlace} (hp : p ∈ g.Places) (hf : 0 ≤ nd d p.From.toNat) (ht : nd d p.To.toNat < 0 ∨ nd d p.From.toNat + p.Tokens < nd d p.To.toNat) :
    DInv g.Places s n (d.set p.To.toNat (nd d p.From.toNat + p.Tokens)) ∧ muL (d.set p.To.toNat (nd d p.From.toNat + p.Tokens)) < muL d := by
  obtain ⟨f1, t1, k0, k5⟩ := hg.pl p hp
  have hlt : p.To.toNat < d.length := by rw [h.len]; omega
  have hb := h.bd p.From.toNat (by omega)
  have hc := cnt_le d
  have hn := hg.hi
  have hl := h.len
  obtain ⟨m1, m2⟩ := mu_set (x := nd d p.From.toNat + p.Tokens) hlt (by omega) (by omega) ht
  refine ⟨⟨by rw [List.length_set]; exact h.len, ?_, fun v v0 v1 => ?_, fun v hv => ?_, by rw [m2]; have := h.one; omega⟩, m1⟩
  · rw [nd_set hlt]
    by_cases e : s.toNat = p.To.toNat
    · have := h.src
      rw [e] at this
      omega
    · rw [if_neg e]; exact h.src
  · rw [nd_set hlt]
    by_cases e : v.toNat = p.To.toNat
    · rw [if_pos e]
      right
      refine ⟨by omega, ?_⟩
      rcases h.way p.From f1.1 f1.2 with h1 | ⟨_, k, h1⟩
      · omega
      · obtain rfl : v = p.To := by omega
        exact ⟨k + 1, .step k p _ hp h1⟩
    · rw [if_neg e]; exact h.way v v0 v1
  · rw [nd_set hlt, m2]
    have := h.bd v hv
    by_cases e : v = p.To.toNat
    · rw [if_pos e]
      by_cases e2 : nd d p.To.toNat < 0
      · rw [if_pos e2]; omega
      · rw [if_neg e2]
        have := h.bd p.To.toNat (by omega)
        omega
    · rw [if_neg e]
      split <;> omega
theorem nodup_lt : ∀ (n : Nat) (l : List Nat), l.Nodup → (∀ v ∈ l, v < n) → l.length ≤ n
  | 0, [], _, _ => Nat.le_refl _
  | 0, v :: _, _, h => absurd (h v List.mem_cons_self) (by omega)
  | n + 1, l, hd, h => by
    by_cases hm : n ∈ l
    · have := nodup_lt n (l.erase n) (hd.erase n) (fun v hv => by
        have h1 := (hd.mem_erase_iff).1 hv
        have := h v h1.2
        have := h1.1
        omega)
      rw [List.length_erase_of_mem hm] at this
      omega
    · have := nodup_lt n l hd (fun v hv => by
        have := h v hv
        have : v ≠ n := fun e => hm (e ▸ hv)
        omega)
      omega
theorem chain {P : Nat → Nat → Prop} {n s : Nat} (hs : s < n) (h0 : P 0 s) (mono : ∀ k v, P k v → P (k + 1) v) (step : ∀ k, (∀ v, v < n → P (k + 1) v → P k v) → ∀ v, v < n → P (k + 2) v → P (k + 1) v) : ∀ k v, v < n → P k v → P n v := by
  have key : ∀ k, k ≤ n → (∃ j, j < k ∧ ∀ v, v < n → P (j + 1) v → P j v) ∨ ∃ l : List Nat, l.Nodup ∧ l.length = k + 1 ∧ ∀ v ∈ l, v < n ∧ P k v := by
    intro k
    induction k with
    | zero => exact fun _ => .inr ⟨[s], by simp, rfl, fun v hv => by simp at hv; subst hv; exact ⟨hs, h0⟩⟩
    | succ k ih =>
      intro hk
      rcases ih (by omega) with ⟨j, hj, h⟩ | ⟨l, l1, l2, l3⟩
      · exact .inl ⟨j, by omega, h⟩
      · by_cases hst : ∀ v, v < n → P (k + 1) v → P k v
        · exact .inl ⟨k, by omega, hst⟩
        · right
          have : ∃ v, v < n ∧ P (k + 1) v ∧ ¬ P k v := by
            refine Classical.byContradiction fun hc => hst fun v hv hp => Classical.byContradiction fun hnp => hc ⟨v, hv, hp, hnp⟩
          obtain ⟨v, hv, hp, hnp⟩ := this
          refine ⟨v :: l, List.nodup_cons.2 ⟨fun hm => hnp (l3 v hm).2, l1⟩, by simp [l2], fun u hu => ?_⟩
          rcases List.mem_cons.1 hu with rfl | hu
          · exact ⟨hv, hp⟩
          · exact ⟨(l3 u hu).1, mono _ _ (l3 u hu).2⟩
  obtain ⟨j, hj, hst⟩ : ∃ j, j < n ∧ ∀ v, v < n → P (j + 1) v → P j v := by
    rcases key n (Nat.le_refl _) with h | ⟨l, l1, l2, l3⟩
    · exact h
    · have := nodup_lt n l l1 fun v hv => (l3 v hv).1
      omega
  have up : ∀ d k v, P k v → P (k + d) v := by
    intro d
    induction d with
    | zero => exact fun k v h => h
    | succ d ih => exact fun k v h => mono _ _ (ih k v h)
  have stay : ∀ d, ∀ v, v < n → P (j + d + 1) v → P (j + d) v := by
    intro d
    induction d with
    | zero => exact hst
    | succ d ih => exact step (j + d) ih
  have down : ∀ d v, v < n → P (j + d) v → P j v := by
    intro d
    induction d with
    | zero => exact fun v _ h => h
    | succ d ih => exact fun v hv h => ih v hv (stay d v hv h)
  intro k v hv hp
  have h1 : P (j + k) v := by have := up j k v hp; rwa [Nat.add_comm] at this
  have h2 := down k v hv h1
  have := up (n - j) j v h2
  rwa [show j + (n - j) = n by omega] at this
theorem M.TC_forN {σ : Type} {n : Nat} {f : Int → σ → M (σ ⊕ σ)} {s : σ} (I : Nat → σ → Prop) (hn : n ≤ 9223372036854775807) (h0 : I 0 s) (round : ∀ (i : Nat) s, i < n → I i s → M.TC (f (i : Int) s) fun y => ∃ s', y = .inl s' ∧ I (i + 1) s') : M.TC (M.forI 0 (n : Int) (fun s => s) f s) (I n) := by
  refine M.TC_for (fun i s => I i.toNat s) s (by omega) (by omega) h0 (fun i s h1 h2 hI => ?_) (fun i s hi hI => ?_)
  · obtain ⟨k, rfl⟩ : ∃ k : Nat, i = k := ⟨i.toNat, by omega⟩
    refine (round k s (by omega) (by simpa using hI)).mono fun y hy => ?_
    obtain ⟨s', e, h⟩ := hy
    exact .inl ⟨s', e, by rw [show ((k : Int) + 1).toNat = k + 1 by omega]; exact h⟩
  · have e : i.toNat = n := by omega
    rw [e] at hI; exact hI
inductive RK (E : Nat → Nat → Prop) (n v : Nat) : Nat → Nat → Prop
  | nil (k : Nat) : RK E n v k v
  | step (k j i : Nat) : RK E n v k j → j < n → i < n → E j i → RK E n v (k + 1) i
theorem RK.mono {E : Nat → Nat → Prop} {n v k i : Nat} (h : RK E n v k i) : ∀ {m : Nat}, k ≤ m → RK E n v m i := by
  induction h with
  | nil k => exact fun _ => .nil _
  | step k j i _ hj hi he ih =>
    intro m hm
    obtain ⟨m', rfl⟩ : ∃ m', m = m' + 1 := ⟨m - 1, by omega⟩
    exact .step m' j i (ih (by omega)) hj hi he
theorem RK.short {E : Nat → Nat → Prop} {n v k i : Nat} (hv : v < n) (h : RK E n v k i) (hi : i < n) : RK E n v n i := by
  refine chain (P := fun k i => RK E n v k i) hv (.nil 0) (fun k i h => h.mono (by omega)) (fun k hst i hi h => ?_) k i hi h
  generalize e : k + 2 = m at h
  cases h with
  | nil => exact .nil _
  | step k' j i hj1 hj hi he =>
    obtain rfl : k' = k + 1 := by omega
    exact .step k j i (hst j hj hj1) hj hi he
def Rch (E : Nat → Nat → Prop) (n v i : Nat) : Prop := ∃ k, RK E n v k i
theorem Rch.step {E : Nat → Nat → Prop} {n v j i : Nat} (h : Rch E n v j) (hj : j < n) (hi : i < n) (he : E j i) : Rch E n v i := let ⟨k, h⟩ := h; ⟨k + 1, .step k j i h hj hi he⟩
/-- below the line through i and j -/
def Sup (F : Int → Prop) (y : Int → Int) (i j : Int) : Prop := ∀ p, F p → (y p - y i) * (j - i) ≤ (y j - y i) * (p - i)
/-- the line through i and j is steeper than the line through j and k -/
abbrev Stp (y : Int → Int) (i j k : Int) : Prop := (y k - y j) * (j - i) < (y j - y i) * (k - j)
/-- vertices, the last one first -/
def HullR (F : Int → Prop) (y : Int → Int) : List Int → Prop
  | [] => True
  | [t] => F t ∧ ∀ p, F p → t ≤ p
  | j :: i :: r => F j ∧ i < j ∧ Sup F y i j ∧ (∀ h r', r = h :: r' → Stp y h i j) ∧ HullR F y (i :: r)
theorem HullR.head {F : Int → Prop} {y : Int → Int} {j : Int} {r : List Int} (h : HullR F y (j :: r)) : F j := by
  cases r <;> exact h.1
def yC (c : List Int) (p : Int) : Int := (c[p.toNat]?).getD 0
structure TsOK (c ts : List Int) : Prop where
  bd : ∀ t ∈ ts, termB c c.length t
  inc : List.Pairwise (fun a b => a < b) ts
  ne : ts ≠ []
theorem TsOK.at {c ts : List Int} (h : TsOK c ts) {q : Nat} {t : Int} (ht : ts[q]? = some t) : 0 ≤ t ∧ t < c.length ∧ (-1000000 ≤ yC c t ∧ yC c t ≤ 1000000) := by
  obtain ⟨a, b, x, hx, hb⟩ := h.bd t (List.mem_of_getElem? ht)
  refine ⟨a, b, ?_⟩
  unfold yC
  rw [hx]
  exact finB_bd hb
theorem TsOK.lt {c ts : List Int} (h : TsOK c ts) {p q : Nat} {s t : Int} (hs : ts[p]? = some s) (ht : ts[q]? = some t) (hpq : p < q) : s < t := by
  obtain ⟨h1, e1⟩ := List.getElem?_eq_some_iff.1 hs
  obtain ⟨h2, e2⟩ := List.getElem?_eq_some_iff.1 ht
  have := List.pairwise_iff_getElem.1 h.inc p q h1 h2 hpq
  rw [e1, e2] at this; exact this
structure GrS (g : TGraph) : Prop where
  ok : okTGraph g
  len : g.Places.length ≤ 40
theorem GrS.sm {g : TGraph} (h : GrS g) : smG g := by have := h.len; simp only [smG, smP]; omega
inductive Chn (a : List (List Int)) (n : Nat) : List Nat → Int → Prop
  | one (v : Nat) : v < n → Chn a n [v] 0
  | cons (u v : Nat) (r : List Nat) (w : Int) : u < n → entA a v u ≠ -1000000000000000 → Chn a n (v :: r) w → Chn a n (u :: v :: r) (entA a v u + w)
theorem Chn.lt {a : List (List Int)} {n : Nat} {l : List Nat} {w : Int} (h : Chn a n l w) : ∀ x ∈ l, x < n := by
  induction h with
  | one v hv => intro x hx; simp at hx; subst hx; exact hv
  | cons u v r w hu _ _ ih =>
    intro x hx
    rcases List.mem_cons.1 hx with rfl | hx
    · exact hu
    · exact ih x hx
theorem Chn.unique {a : List (List Int)} {n : Nat} {l : List Nat} {w : Int} (h : Chn a n l w) : ∀ {w' : Int}, Chn a n l w' → w = w' := by
  induction h with
  | one v hv => intro w' h'; cases h'; rfl
  | cons u v r w hu _ _ ih => intro w' h'; cases h' with | cons _ _ _ w2 _ _ h2 => rw [ih h2]
theorem Chn.append {a : List (List Int)} {n : Nat} {v : Nat} {z : List Nat} {w2 : Int} (h2 : Chn a n (v :: z) w2) : ∀ {x : List Nat} {w1 : Int}, Chn a n (x ++ [v]) w1 → Chn a n (x ++ v :: z) (w1 + w2)
  | [], w1, h1 => by cases h1; rw [Int.zero_add]; exact h2
  | [u], w1, h1 => by
    cases h1 with
    | cons _ _ _ w hu ha h =>
      have := Chn.append h2 (x := []) h
      rw [Int.add_assoc]; exact .cons u v z _ hu ha this
  | u :: u' :: x, w1, h1 => by
    cases h1 with
    | cons _ _ _ w hu ha h =>
      have := Chn.append h2 (x := u' :: x) h
      rw [Int.add_assoc]; exact .cons u u' _ _ hu ha this
theorem Chn.split {a : List (List Int)} {n : Nat} {v : Nat} {z : List Nat} : ∀ {x : List Nat} {w : Int}, Chn a n (x ++ v :: z) w → ∃ w1 w2, w = w1 + w2 ∧ Chn a n (x ++ [v]) w1 ∧ Chn a n (v :: z) w2
  | [], w, h => ⟨0, w, by omega, .one v (h.lt v (by simp)), h⟩
  | [u], w, h => by
    cases h with
    | cons _ _ _ w' hu ha h => exact ⟨entA a v u, w', rfl, by have := Chn.cons u v [] 0 hu ha (.one v (h.lt v (by simp))); rwa [Int.add_zero] at this, h⟩
  | u :: u' :: x, w, h => by
    cases h with
    | cons _ _ _ w' hu ha h =>
      obtain ⟨w1, w2, rfl, h1, h2⟩ := Chn.split (x := u' :: x) h
      exact ⟨entA a u' u + w1, w2, by omega, .cons u u' _ _ hu ha h1, h2⟩
/-- a closed chain -/
def Cl (a : List (List Int)) (n : Nat) (l : List Nat) (w : Int) : Prop := ∃ h r, l = h :: r ∧ Chn a n (l ++ [h]) w
theorem Cl.ne {a : List (List Int)} {n : Nat} {l : List Nat} {w : Int} (h : Cl a n l w) : l ≠ [] := by obtain ⟨_, _, rfl, _⟩ := h; simp
theorem Cl.lt {a : List (List Int)} {n : Nat} {l : List Nat} {w : Int} (h : Cl a n l w) : ∀ x ∈ l, x < n := by
  obtain ⟨_, _, rfl, h⟩ := h
  exact fun x hx => h.lt x (List.mem_append.2 (.inl hx))
theorem Cl.unique {a : List (List Int)} {n : Nat} {l : List Nat} {w w' : Int} (h : Cl a n l w) (h' : Cl a n l w') : w = w' := by
  obtain ⟨_, _, rfl, h⟩ := h
  obtain ⟨_, _, e, h'⟩ := h'
  cases e
  exact h.unique h'
theorem Cl.rot {a : List (List Int)} {n : Nat} {x y : List Nat} {w : Int} (h : Cl a n (x ++ y) w) : Cl a n (y ++ x) w := by
  cases x with
  | nil => simpa using h
  | cons h' x =>
    cases y with
    | nil => simpa using h
    | cons g y =>
      obtain ⟨h0, r, e, hc⟩ := h
      simp only [List.cons_append, List.cons.injEq] at e
      obtain ⟨rfl, rfl⟩ := e
      have hc : Chn a n ((h' :: x) ++ g :: (y ++ [h'])) w := by simpa using hc
      obtain ⟨w1, w2, rfl, c1, c2⟩ := hc.split
      refine ⟨g, y ++ h' :: x, rfl, ?_⟩
      have c1' : Chn a n (h' :: (x ++ [g])) w1 := by simpa using c1
      have := Chn.append c1' (x := g :: y) (by simpa using c2)
      rw [Int.add_comm]
      simpa using this
/-- a node met twice: two closed chains -/
theorem Cl.cut {a : List (List Int)} {n : Nat} {x y z : List Nat} {v : Nat} {w : Int} (h : Cl a n (x ++ v :: y ++ v :: z) w) : ∃ w1 w2, w = w1 + w2 ∧ Cl a n (v :: y) w1 ∧ Cl a n (v :: z ++ x) w2 := by
  have h' : Cl a n (x ++ (v :: y ++ v :: z)) w := by simpa using h
  obtain ⟨h0, r, e, hc⟩ := h'.rot
  simp only [List.cons_append, List.append_assoc, List.cons.injEq] at e
  obtain ⟨rfl, rfl⟩ := e
  have hc : Chn a n ((v :: y) ++ v :: (z ++ x ++ [v])) w := by simpa using hc
  obtain ⟨w1, w2, rfl, c1, c2⟩ := hc.split
  exact ⟨w1, w2, rfl, ⟨v, y, rfl, c1⟩, ⟨v, z ++ x, rfl, by simpa using c2⟩⟩
theorem dup_of : ∀ {l : List Nat}, ¬ l.Nodup → ∃ (x : List Nat) (v : Nat) (y z : List Nat), l = x ++ v :: y ++ v :: z
  | [], h => absurd List.nodup_nil h
  | u :: l, h => by
    by_cases hm : u ∈ l
    · obtain ⟨y, z, rfl⟩ := List.append_of_mem hm
      exact ⟨[], u, y, z, rfl⟩
    · have : ¬ l.Nodup := fun hd => h (List.nodup_cons.2 ⟨hm, hd⟩)
      obtain ⟨x, v, y, z, rfl⟩ := dup_of this
      exact ⟨u :: x, v, y, z, rfl⟩
/-- a written cycle: each node once, the smallest one first -/
structure WC (a : List (List Int)) (n : Nat) (l : List Nat) (w : Int) : Prop where
  cl : Cl a n l w
  nd : l.Nodup
  fst : ∀ h r, l = h :: r → ∀ x ∈ r, h < x
theorem min_mem : ∀ {l : List Nat}, l ≠ [] → ∃ m ∈ l, ∀ x ∈ l, m ≤ x
  | [], h => absurd rfl h
  | [u], _ => ⟨u, by simp, by simp⟩
  | u :: u' :: l, _ => by
    obtain ⟨m, hm, h⟩ := min_mem (l := u' :: l) (by simp)
    by_cases e : u ≤ m
    · exact ⟨u, by simp, fun x hx => by
        rcases List.mem_cons.1 hx with rfl | hx
        · exact Nat.le_refl _
        · exact Nat.le_trans e (h x hx)⟩
    · exact ⟨m, List.mem_cons_of_mem _ hm, fun x hx => by
        rcases List.mem_cons.1 hx with rfl | hx
        · omega
        · exact h x hx⟩
/-- from a closed chain to a written cycle, with a property that sums hand on to one of their parts -/
theorem Cl.written {a : List (List Int)} {n : Nat} {P : Nat → Int → Prop} (hP : ∀ k1 k2 w1 w2, P (k1 + k2) (w1 + w2) → P k1 w1 ∨ P k2 w2) : ∀ (k : Nat) {l : List Nat} {w : Int}, l.length = k → Cl a n l w → P l.length w → ∃ l' w', WC a n l' w' ∧ P l'.length w' ∧ ∀ x ∈ l', x ∈ l := by
  intro k
  induction k using Nat.strongRecOn with
  | _ k ih =>
    intro l w hk hc hp
    by_cases hd : l.Nodup
    · obtain ⟨m, hm, hmin⟩ := min_mem hc.ne
      obtain ⟨x, z, rfl⟩ := List.append_of_mem hm
      have hr := hc.rot
      refine ⟨m :: z ++ x, w, ⟨hr, ?_, fun h r e y hy => ?_⟩, by simpa [Nat.add_comm, Nat.add_left_comm, Nat.add_assoc] using hp, fun y hy => by
        simp only [List.mem_append, List.mem_cons] at hy ⊢
        rcases hy with (hy | hy) | hy
        · exact .inr (.inl hy)
        · exact .inr (.inr hy)
        · exact .inl hy⟩
      · rw [List.nodup_append] at hd ⊢
        exact ⟨hd.2.1, hd.1, fun b hb c hc e => hd.2.2 c hc b hb e.symm⟩
      · simp only [List.cons_append, List.cons.injEq] at e
        obtain ⟨rfl, rfl⟩ := e
        have h1 := hmin y (by
          simp only [List.mem_append, List.mem_cons] at hy ⊢
          rcases hy with hy | hy
          · exact .inr (.inr hy)
          · exact .inl hy)
        have h2 : y ≠ m := by
          rintro rfl
          rw [List.nodup_append] at hd
          rcases List.mem_append.1 hy with hy | hy
          · exact (List.nodup_cons.1 hd.2.1).1 hy
          · exact hd.2.2 y hy y List.mem_cons_self rfl
        omega
    · obtain ⟨x, v, y, z, rfl⟩ := dup_of hd
      obtain ⟨w1, w2, rfl, c1, c2⟩ := hc.cut
      have e : (x ++ v :: y ++ v :: z).length = (v :: y).length + (v :: z ++ x).length := by simp; omega
      rw [e] at hp hk
      rcases hP _ _ _ _ hp with hp | hp
      · obtain ⟨l', w', a1, a2, a3⟩ := ih _ (by rw [← hk]; simp) rfl c1 hp
        exact ⟨l', w', a1, a2, fun u hu => by
          have := a3 u hu
          simp only [List.mem_append, List.mem_cons] at this ⊢
          rcases this with h | h
          · exact .inl (.inr (.inl h))
          · exact .inl (.inr (.inr h))⟩
      · obtain ⟨l', w', a1, a2, a3⟩ := ih _ (by rw [← hk]; simp) rfl c2 hp
        exact ⟨l', w', a1, a2, fun u hu => by
          have := a3 u hu
          simp only [List.mem_append, List.mem_cons] at this ⊢
          rcases this with (h | h) | h
          · exact .inl (.inr (.inl h))
          · exact .inr (.inr h)
          · exact .inl (.inl h)⟩
namespace M
end M

abbrev toI (l : List Nat) : List Int := l.map fun (x : Nat) => (x : Int)
/-- entries that are Bottom or not large -/
def Ent (a : List (List Int)) (n : Nat) (B : Int) : Prop := ∀ i j, i < n → j < n → entA a i j = -1000000000000000 ∨ (-B ≤ entA a i j ∧ entA a i j ≤ B)
theorem Chn.bd {a : List (List Int)} {n : Nat} {B : Int} (hB : Ent a n B) (h0 : 0 ≤ B) {l : List Nat} {w : Int} (h : Chn a n l w) : -(B * ((l.length - 1 : Nat) : Int)) ≤ w ∧ w ≤ B * ((l.length - 1 : Nat) : Int) := by
  induction h with
  | one v hv => simp
  | cons u v r w hu ha h ih =>
    have hv := h.lt v List.mem_cons_self
    have := (hB v u hv hu).resolve_left ha
    have e : (((u :: v :: r).length - 1 : Nat) : Int) = (((v :: r).length - 1 : Nat) : Int) + 1 := by simp
    rw [e, Int.mul_add, Int.mul_one]
    omega
theorem Chn.last_lt {a : List (List Int)} {n : Nat} {x : List Nat} {t : Nat} {w : Int} (h : Chn a n (x ++ [t]) w) : t < n := h.lt t (by simp)
theorem Chn.snoc {a : List (List Int)} {n : Nat} {x : List Nat} {t v : Nat} {w : Int} (h : Chn a n (x ++ [t]) w) (hv : v < n) (ha : entA a v t ≠ -1000000000000000) : Chn a n (x ++ [t] ++ [v]) (w + entA a v t) := by
  have h2 : Chn a n [t, v] (entA a v t) := by have := Chn.cons t v [] 0 h.last_lt ha (.one v hv); rwa [Int.add_zero] at this
  have := Chn.append h2 (x := x) h
  simpa using this
theorem Chn.snoc_inv {a : List (List Int)} {n : Nat} {x : List Nat} {t v : Nat} {w : Int} (h : Chn a n (x ++ [t] ++ [v]) w) : ∃ w', w = w' + entA a v t ∧ Chn a n (x ++ [t]) w' ∧ entA a v t ≠ -1000000000000000 := by
  have h : Chn a n (x ++ t :: [v]) w := by simpa using h
  obtain ⟨w1, w2, rfl, h1, h2⟩ := h.split
  cases h2 with
  | cons _ _ _ w3 _ ha h3 => cases h3; exact ⟨w1, by omega, h1, ha⟩
/-- a walk from j of k arcs -/
inductive Wlk (a : List (List Int)) (n j : Nat) : Nat → Nat → Int → Prop
  | nil : j < n → Wlk a n j 0 j 0
  | step (k i i' : Nat) (w : Int) : Wlk a n j k i w → i' < n → entA a i' i ≠ -1000000000000000 → Wlk a n j (k + 1) i' (w + entA a i' i)
theorem Wlk.lt {a : List (List Int)} {n j k i : Nat} {w : Int} (h : Wlk a n j k i w) : j < n ∧ i < n := by
  induction h with
  | nil hj => exact ⟨hj, hj⟩
  | step k i i' w _ hi _ ih => exact ⟨ih.1, hi⟩
theorem Wlk.chn {a : List (List Int)} {n j k i : Nat} {w : Int} (h : Wlk a n j k i w) : ∃ x, Chn a n (x ++ [i]) w ∧ (x ++ [i]).head? = some j ∧ x.length = k := by
  induction h with
  | nil hj => exact ⟨[], .one j hj, rfl, rfl⟩
  | step k i i' w _ hi ha ih =>
    obtain ⟨x, h1, h2, h3⟩ := ih
    exact ⟨x ++ [i], h1.snoc hi ha, by rw [List.head?_append, h2]; rfl, by simp [h3]⟩
theorem Wlk.of_chn {a : List (List Int)} {n : Nat} : ∀ (k : Nat) {j i : Nat} {w : Int} {x : List Nat}, Chn a n (x ++ [i]) w → (x ++ [i]).head? = some j → x.length = k → Wlk a n j k i w
  | 0, j, i, w, x, h, hh, hl => by
    have := List.eq_nil_of_length_eq_zero hl
    subst this
    have e : i = j := by simpa using hh
    subst e
    cases h with
    | one _ hv => exact .nil hv
  | k + 1, j, i, w, x, h, hh, hl => by
    rcases List.eq_nil_or_concat x with rfl | ⟨y, t, e⟩
    · simp at hl
    · have e : x = y ++ [t] := by simpa using e
      subst e
      obtain ⟨w', rfl, h1, ha⟩ := h.snoc_inv
      rw [List.head?_append] at hh
      have hh2 : (y ++ [t]).head? = some j := by
        cases hy : (y ++ [t]).head? with
        | none => simp at hy
        | some v => rw [hy] at hh; simpa using hh
      exact .step k t i w' (Wlk.of_chn k h1 hh2 (by simpa using hl)) (h.lt i (by simp)) ha
theorem Cl.wlk {a : List (List Int)} {n : Nat} {l : List Nat} {w : Int} (h : Cl a n l w) : ∃ j r, l = j :: r ∧ Wlk a n j l.length j w := by
  obtain ⟨j, r, rfl, hc⟩ := h
  exact ⟨j, r, rfl, Wlk.of_chn _ hc rfl rfl⟩
theorem Wlk.cl {a : List (List Int)} {n j k : Nat} {w : Int} (h : Wlk a n j (k + 1) j w) : ∃ r, Cl a n (j :: r) w ∧ r.length = k := by
  obtain ⟨x, h1, h2, h3⟩ := h.chn
  cases x with
  | nil => simp at h3
  | cons v r =>
    have e : v = j := by simpa using h2
    subst e
    exact ⟨r, ⟨v, r, rfl, h1⟩, by simpa using h3⟩
def NoPos (a : List (List Int)) (n : Nat) : Prop := ∀ l w, Cl a n l w → w ≤ 0
/-- a walk of fewer than n arcs is as good as any -/
theorem Wlk.short {a : List (List Int)} {n : Nat} (hp : NoPos a n) : ∀ (k : Nat) {j i : Nat} {w : Int}, Wlk a n j k i w → ∃ k' w', Wlk a n j k' i w' ∧ k' < n ∧ k' ≤ k ∧ w ≤ w' := by
  intro k
  induction k using Nat.strongRecOn with
  | _ k ih =>
    intro j i w h
    by_cases hk : k < n
    · exact ⟨k, w, h, hk, Nat.le_refl _, Int.le_refl _⟩
    · obtain ⟨x, h1, h2, h3⟩ := h.chn
      have hnn : ¬ (x ++ [i]).Nodup := fun hd => by
        have := nodup_lt n _ hd h1.lt
        simp at this; omega
      obtain ⟨p, v, y, z, e⟩ := dup_of hnn
      have e' : x ++ [i] = p ++ v :: (y ++ v :: z) := by rw [e]; simp
      rw [e'] at h1
      obtain ⟨w1, w2, rfl, c1, c2⟩ := h1.split
      obtain ⟨w3, w4, rfl, c3, c4⟩ := Chn.split (x := v :: y) c2
      have hcyc := hp (v :: y) w3 ⟨v, y, rfl, c3⟩
      have hc := Chn.append c4 c1
      -- the last node is that of z
      have hlast : ∃ x', p ++ v :: z = x' ++ [i] ∧ x'.length < k := by
        have hl : (p ++ v :: (y ++ v :: z)).getLast? = some i := by rw [← e']; simp
        rcases List.eq_nil_or_concat (v :: z) with hz | ⟨z', t, hz⟩
        · simp at hz
        · have hz : v :: z = z' ++ [t] := by simpa using hz
          have ht : t = i := by
            have e3 : p ++ v :: (y ++ v :: z) = (p ++ v :: y ++ z') ++ [t] := by rw [hz]; simp
            rw [e3, List.getLast?_concat] at hl
            exact Option.some.inj hl
          subst ht
          refine ⟨p ++ z', by rw [hz]; simp, ?_⟩
          have e4 := congrArg List.length e'
          have e5 := congrArg List.length hz
          simp at e4 e5 ⊢
          omega
      obtain ⟨x', hx', hxl⟩ := hlast
      rw [hx'] at hc
      have hhd : (x' ++ [i]).head? = some j := by
        rw [← hx']
        rw [e'] at h2
        cases p with
        | nil => simpa using h2
        | cons q p => simpa using h2
      obtain ⟨k', w', g1, g2, g3, g4⟩ := ih _ hxl (Wlk.of_chn _ hc hhd rfl)
      exact ⟨k', w', g1, g2, by omega, by omega⟩
theorem Wlk.bd {a : List (List Int)} {n : Nat} {B : Int} (hB : Ent a n B) {j k i : Nat} {w : Int} (h : Wlk a n j k i w) : -(B * (k : Int)) ≤ w ∧ w ≤ B * (k : Int) := by
  induction h with
  | nil _ => simp
  | step k i i' w hw hi ha ih =>
    have := (hB i' i hi hw.lt.2).resolve_left ha
    rw [Int.natCast_add, Int.mul_add]
    simp only [Int.natCast_one, Int.mul_one]
    omega
/-- what the star of a matrix without positive cycles is -/
structure StarM (a : List (List Int)) (n : Nat) (S : List (List Int)) : Prop where
  shp : Shp S n
  len : S.length = n
  snd : ∀ i j, i < n → j < n → entA S i j = -1000000000000000 ∨ ∃ k, Wlk a n j k i (entA S i j)
  cpl : ∀ i j k w, Wlk a n j k i w → entA S i j ≠ -1000000000000000 ∧ w ≤ entA S i j
theorem StarM.bd {a S : List (List Int)} {n : Nat} {B : Int} (hp : NoPos a n) (hB : Ent a n B) (h0 : 0 ≤ B) (hn : n ≤ 10) (h : StarM a n S) {i j : Nat} (hi : i < n) (hj : j < n) : Bd (B * 10) (entA S i j) := by
  rcases h.snd i j hi hj with e | ⟨k, hk⟩
  · exact .inl e
  · right
    obtain ⟨k', w', g1, g2, _, g4⟩ := hk.short hp
    have b := g1.bd hB
    have c := (h.cpl i j k' w' g1).2
    have hkk : (k' : Int) ≤ 10 := by omega
    have := Int.mul_le_mul_of_nonneg_left hkk h0
    omega
theorem StarM.unique {a S T : List (List Int)} {n : Nat} (h : StarM a n S) (g : StarM a n T) : S = T := by
  rw [mat_eq h.shp, mat_eq g.shp, h.len, g.len]
  refine matF_congr fun i j hi hj => ?_
  by_cases e : entA S i j = -1000000000000000
  · rcases g.snd i j hi hj with e2 | ⟨k, hk⟩
    · rw [e, e2]
    · exact absurd e (h.cpl i j k _ hk).1
  · obtain ⟨k, hk⟩ := (h.snd i j hi hj).resolve_left e
    have c1 := g.cpl i j k _ hk
    obtain ⟨k2, hk2⟩ := (g.snd i j hi hj).resolve_left c1.1
    have c2 := h.cpl i j k2 _ hk2
    omega
structure StK (a : List (List Int)) (n k : Nat) (S : List (List Int)) : Prop where
  shp : Shp S n
  len : S.length = n
  snd : ∀ i j, i < n → j < n → entA S i j = -1000000000000000 ∨ ∃ k', k' ≤ k ∧ Wlk a n j k' i (entA S i j)
  cpl : ∀ i j k' w, k' ≤ k → Wlk a n j k' i w → entA S i j ≠ -1000000000000000 ∧ w ≤ entA S i j
theorem StK.bd {a S : List (List Int)} {n k : Nat} {B : Int} (hB : Ent a n B) (h0 : 0 ≤ B) (h : StK a n k S) {m : Int} (hm : (k : Int) ≤ m) {i j : Nat} (hi : i < n) (hj : j < n) : Bd (B * m) (entA S i j) := by
  rcases h.snd i j hi hj with e | ⟨k', h1, hk⟩
  · exact .inl e
  · right
    have b := hk.bd hB
    have := Int.mul_le_mul_of_nonneg_left (show (k' : Int) ≤ m by omega) h0
    omega
theorem StK.star {a S : List (List Int)} {n : Nat} (hp : NoPos a n) (h : StK a n n S) : StarM a n S :=
  ⟨h.shp, h.len, fun i j hi hj => (h.snd i j hi hj).imp id fun ⟨k, _, hk⟩ => ⟨k, hk⟩, fun i j k w hw => by
    obtain ⟨k', w', g1, g2, _, g4⟩ := hw.short hp
    have := h.cpl i j k' w' (by omega) g1
    exact ⟨this.1, by omega⟩⟩
theorem NoPos.closed {a : List (List Int)} {n j m : Nat} {w : Int} (hp : NoPos a n) (h : Wlk a n j m j w) : w ≤ 0 := by
  cases m with
  | zero => cases h; exact Int.le_refl _
  | succ m =>
    obtain ⟨r, hc, _⟩ := h.cl
    exact hp _ _ hc
def chk7 (s : Nat) : Bool := (List.range 10).all fun j => bitN s j == 1 || (decide (s + 2 ^ j < 1024) && (List.range 10).all fun k => bitN (s + 2 ^ j) k == (bif k == j then 1 else bitN s k))
theorem chk7_all : ((List.range 1024).all chk7) = true := by decide +kernel
theorem bit_add {s j : Nat} (hs : s < 1024) (hj : j < 10) (h : bitN s j ≠ 1) : s + 2 ^ j < 1024 ∧ ∀ k, k < 10 → bitN (s + 2 ^ j) k = if k = j then 1 else bitN s k := by
  have g := chk7_all
  rw [List.all_eq_true] at g
  have g := g s (List.mem_range.2 hs)
  unfold chk7 at g
  rw [List.all_eq_true] at g
  have g := g j (List.mem_range.2 hj)
  rw [show (bitN s j == 1) = false by simpa using h] at g
  simp only [Bool.false_or, Bool.and_eq_true, decide_eq_true_eq, List.all_eq_true, List.mem_range, beq_iff_eq] at g
  refine ⟨g.1, fun k hk => ?_⟩
  rw [g.2 k hk]
  by_cases e : k = j
  · simp [e]
  · rw [show (k == j) = false by simpa using e, if_neg e]; rfl
def setN : List Nat → Nat
  | [] => 0
  | j :: l => setN l + 2 ^ j
theorem setN_ok {n : Nat} (hn : n ≤ 10) : ∀ (l : List Nat), l.Nodup → (∀ j ∈ l, j < n) → setN l < 2 ^ n ∧ popN (setN l) = l.length ∧ ∀ k, k < 10 → bitN (setN l) k = if k ∈ l then 1 else 0
  | [], _, _ => ⟨Nat.pow_pos (by decide), by decide, fun k hk => by
      have : ∀ k : Fin 10, bitN 0 k.val = 0 := by decide
      simpa [setN] using this ⟨k, hk⟩⟩
  | j :: l, hd, hl => by
    obtain ⟨h1, h2, h3⟩ := setN_ok hn l (List.nodup_cons.1 hd).2 fun x hx => hl x (List.mem_cons_of_mem _ hx)
    have hj := hl j List.mem_cons_self
    have hnj := (List.nodup_cons.1 hd).1
    obtain ⟨_, _, hN, _, _⟩ := pow_ok (n := n) hn
    have h0 : bitN (setN l) j = 0 := by rw [h3 j (by omega), if_neg hnj]
    obtain ⟨c1, c2⟩ := compl_ok hn h1
    have c2 := c2 j hj
    rw [h0] at c2
    have hb := ((bit_ok (s := 2 ^ n - 1 - setN l) (j := j) (by omega) (by omega)).one (by omega)).1
    obtain ⟨a1, a2⟩ := bit_add (s := setN l) (j := j) (by omega) (by omega) (by omega)
    have a3 := ((bit_ok (s := setN l + 2 ^ j) (j := j) a1 (by omega)).one (by rw [a2 j (by omega), if_pos rfl])).2.1
    have hp : 0 < 2 ^ j := Nat.pow_pos (by decide)
    refine ⟨by simp only [setN]; omega, ?_, fun k hk => ?_⟩
    · rw [Nat.add_sub_cancel, h2] at a3
      simp only [setN, List.length_cons]; omega
    · unfold setN
      rw [a2 k hk, h3 k hk]
      by_cases e : k = j
      · simp [e]
      · simp [e]
def WL (a : List (List Int)) : Nat → List Nat → Int
  | _, [] => 0
  | i, j :: l => entA a i j + WL a (i + 1) l
def FinA (a : List (List Int)) : Nat → List Nat → Prop
  | _, [] => True
  | i, j :: l => entA a i j ≠ -1000000000000000 ∧ FinA a (i + 1) l
theorem WL_snoc (a : List (List Int)) (j : Nat) : ∀ (l : List Nat) (i : Nat), WL a i (l ++ [j]) = WL a i l + entA a (i + l.length) j
  | [], i => by simp [WL]
  | x :: l, i => by
    have := WL_snoc a j l (i + 1)
    simp only [List.cons_append, WL, this, List.length_cons]
    rw [show i + 1 + l.length = i + (l.length + 1) by omega]; omega
theorem FinA_snoc (a : List (List Int)) (j : Nat) : ∀ (l : List Nat) (i : Nat), FinA a i (l ++ [j]) ↔ FinA a i l ∧ entA a (i + l.length) j ≠ -1000000000000000
  | [], i => by simp [FinA]
  | x :: l, i => by
    have := FinA_snoc a j l (i + 1)
    simp only [List.cons_append, FinA, this, List.length_cons]
    rw [show i + 1 + l.length = i + (l.length + 1) by omega]
    constructor
    · rintro ⟨h1, h2, h3⟩; exact ⟨⟨h1, h2⟩, h3⟩
    · rintro ⟨⟨h1, h2⟩, h3⟩; exact ⟨h1, h2, h3⟩
theorem stepP_ge (a : List (List Int)) (tab : List (Int × Int)) (s : Nat) (st : Int × Int) (j : Nat) : st.1 ≤ (stepP a tab s st j).1 := by
  unfold stepP
  cases bitN s j == 1 with
  | false => exact Int.le_refl _
  | true =>
    simp only [cond_true]
    cases (entA a (a.length - popN s) j == (-1000000000000000)) || (((tab[s - 2 ^ j]?).getD (0, 0)).1 == (-1000000000000000)) with
    | true => exact Int.le_refl _
    | false =>
      simp only [cond_false]
      cases h : decide (st.1 < entA a (a.length - popN s) j + ((tab[s - 2 ^ j]?).getD (0, 0)).1) with
      | true => exact Int.le_of_lt (of_decide_eq_true h)
      | false =>
        simp only [cond_false]
        cases entA a (a.length - popN s) j + ((tab[s - 2 ^ j]?).getD (0, 0)).1 == st.1 with
        | true => exact Int.le_refl _
        | false => exact Int.le_refl _
theorem stepP_at {a : List (List Int)} {tab : List (Int × Int)} {s : Nat} {st : Int × Int} {j : Nat} (hb : bitN s j = 1) (h1 : entA a (a.length - popN s) j ≠ -1000000000000000) (h2 : ((tab[s - 2 ^ j]?).getD (0, 0)).1 ≠ -1000000000000000) :
    entA a (a.length - popN s) j + ((tab[s - 2 ^ j]?).getD (0, 0)).1 ≤ (stepP a tab s st j).1 := by
  unfold stepP
  rw [hb]
  rw [show (entA a (a.length - popN s) j == (-1000000000000000)) = false by simpa using h1, show (((tab[s - 2 ^ j]?).getD (0, 0)).1 == (-1000000000000000)) = false by simpa using h2]
  simp only [beq_self_eq_true, cond_true, Bool.or_self, cond_false]
  cases h : decide (st.1 < entA a (a.length - popN s) j + ((tab[s - 2 ^ j]?).getD (0, 0)).1) with
  | true => exact Int.le_refl _
  | false =>
    have h := of_decide_eq_false h
    simp only [cond_false]
    cases entA a (a.length - popN s) j + ((tab[s - 2 ^ j]?).getD (0, 0)).1 == st.1 with
    | true => simp only [cond_true]; omega
    | false => simp only [cond_false]; omega
theorem stepP_from (a : List (List Int)) (tab : List (Int × Int)) (s : Nat) (st : Int × Int) (j : Nat) : (stepP a tab s st j).1 = st.1 ∨ (bitN s j = 1 ∧ entA a (a.length - popN s) j ≠ -1000000000000000 ∧ ((tab[s - 2 ^ j]?).getD (0, 0)).1 ≠ -1000000000000000 ∧ (stepP a tab s st j).1 = entA a (a.length - popN s) j + ((tab[s - 2 ^ j]?).getD (0, 0)).1) := by
  unfold stepP
  cases hb : bitN s j == 1 with
  | false => exact .inl rfl
  | true =>
    simp only [cond_true]
    cases hz : (entA a (a.length - popN s) j == (-1000000000000000)) || (((tab[s - 2 ^ j]?).getD (0, 0)).1 == (-1000000000000000)) with
    | true => exact .inl rfl
    | false =>
      simp only [Bool.or_eq_false_iff, beq_eq_false_iff_ne, ne_eq] at hz
      simp only [cond_false]
      cases h : decide (st.1 < entA a (a.length - popN s) j + ((tab[s - 2 ^ j]?).getD (0, 0)).1) with
      | true => exact .inr ⟨by simpa using hb, hz.1, hz.2, rfl⟩
      | false =>
        simp only [cond_false]
        cases entA a (a.length - popN s) j + ((tab[s - 2 ^ j]?).getD (0, 0)).1 == st.1 with
        | true => exact .inl rfl
        | false => exact .inl rfl
theorem cellP_succ (a : List (List Int)) (tab : List (Int × Int)) (s m : Nat) : cellP a tab s (m + 1) = stepP a tab s (cellP a tab s m) m := by simp [cellP, List.range_succ]
theorem cellP_mono (a : List (List Int)) (tab : List (Int × Int)) (s : Nat) {m m' : Nat} (h : m ≤ m') : (cellP a tab s m).1 ≤ (cellP a tab s m').1 := by
  induction m' with
  | zero => rw [show m = 0 by omega]; exact Int.le_refl _
  | succ m' ih =>
    by_cases e : m = m' + 1
    · rw [e]; exact Int.le_refl _
    · have := ih (by omega)
      have := stepP_ge a tab s (cellP a tab s m') m'
      rw [cellP_succ]; omega
theorem cellP_from (a : List (List Int)) (tab : List (Int × Int)) (s : Nat) : ∀ m, (cellP a tab s m).1 = -1000000000000000 ∨ ∃ j, j < m ∧ bitN s j = 1 ∧ entA a (a.length - popN s) j ≠ -1000000000000000 ∧ ((tab[s - 2 ^ j]?).getD (0, 0)).1 ≠ -1000000000000000 ∧ (cellP a tab s m).1 = entA a (a.length - popN s) j + ((tab[s - 2 ^ j]?).getD (0, 0)).1
  | 0 => .inl rfl
  | m + 1 => by
    rw [cellP_succ]
    rcases stepP_from a tab s (cellP a tab s m) m with h | h
    · rw [h]
      rcases cellP_from a tab s m with g | ⟨j, g1, g2⟩
      · exact .inl g
      · exact .inr ⟨j, by omega, g2⟩
    · exact .inr ⟨m, by omega, h⟩
theorem entS_zero (a : List (List Int)) : entS a 0 = (0, 1) := by
  unfold entS
  rw [tabP_get a (k := 1) (by omega) (Nat.pow_pos (by decide))]
  rfl
theorem entS_cell {a : List (List Int)} {s : Nat} (h : s < 2 ^ a.length) (h0 : s ≠ 0) : entS a s = cellP a (tabP a s) s a.length := by
  unfold entS
  rw [tabP_get a (k := s + 1) (by omega) h, tabP, List.getElem?_append_right (by rw [tabP_len]; omega), tabP_len, Nat.sub_self, show (s == 0) = false by simpa using h0]
  rfl
theorem tab_entS {a : List (List Int)} {r s : Nat} (h : r < s) (hs : s ≤ 2 ^ a.length) : ((tabP a s)[r]?).getD (0, 0) = entS a r := by
  unfold entS
  rw [tabP_get a h hs]
/-- no assignment is heavier than the table says -/
theorem asg_le {a : List (List Int)} (hm : Mat a a.length) : ∀ (l : List Nat), l.Nodup → (∀ j ∈ l, j < a.length) → FinA a (a.length - l.length) l → (entS a (setN l)).1 ≠ -1000000000000000 ∧ WL a (a.length - l.length) l ≤ (entS a (setN l)).1
  | [], _, _, _ => by simp [setN, entS_zero, WL]
  | j :: l, hd, hl, hf => by
    have hrows := hm.rows
    have hlen := nodup_lt _ _ hd hl
    simp only [List.length_cons] at hlen hf ⊢
    have er : a.length - (l.length + 1) + 1 = a.length - l.length := by omega
    simp only [FinA, WL, er] at hf ⊢
    have hl' : ∀ x ∈ l, x < a.length := fun x hx => hl x (List.mem_cons_of_mem _ hx)
    obtain ⟨i1, i2⟩ := asg_le hm l (List.nodup_cons.1 hd).2 hl' hf.2
    obtain ⟨s1, s2, s3⟩ := setN_ok (n := a.length) (by omega) (j :: l) hd hl
    obtain ⟨t1, _, _⟩ := setN_ok (n := a.length) (by omega) l (List.nodup_cons.1 hd).2 hl'
    have hj := hl j List.mem_cons_self
    have hpos : 0 < 2 ^ j := Nat.pow_pos (by decide)
    have esub : setN (j :: l) - 2 ^ j = setN l := Nat.add_sub_cancel ..
    have hlt : setN l < setN (j :: l) := by simp only [setN]; omega
    have hcell := entS_cell s1 (by omega)
    have hst := stepP_at (a := a) (tab := tabP a (setN (j :: l))) (s := setN (j :: l)) (st := cellP a (tabP a (setN (j :: l))) (setN (j :: l)) j) (j := j) (by rw [s3 j (by omega)]; simp) (by rw [s2]; exact hf.1) (by rw [esub, tab_entS hlt (by omega)]; exact i1)
    rw [esub, tab_entS hlt (by omega), s2, ← cellP_succ] at hst
    have hmono := cellP_mono a (tabP a (setN (j :: l))) (setN (j :: l)) (show j + 1 ≤ a.length by omega)
    rw [← hcell] at hmono
    simp only [List.length_cons] at hst
    have hE := entS_ok hm t1
    have hv := val_cases (ent_val hm (i := a.length - (l.length + 1)) (by omega) hj).2.2
    omega
theorem setN_full {n : Nat} (hn : n ≤ 10) {l : List Nat} (hd : l.Nodup) (hl : ∀ j ∈ l, j < n) (h : l.length = n) : setN l = 2 ^ n - 1 := by
  obtain ⟨s1, s2, _⟩ := setN_ok hn l hd hl
  obtain ⟨_, _, hN, _, _⟩ := pow_ok (n := n) hn
  have := (compl_ok hn s1).1
  rcases (pop_ok (s := 2 ^ n - 1 - setN l) (by omega)).2.2 with e | e
  · omega
  · omega
theorem asg_top {a : List (List Int)} (hm : Mat a a.length) {l : List Nat} (hd : l.Nodup) (hl : ∀ j ∈ l, j < a.length) (h : l.length = a.length) (hf : FinA a 0 l) : (topE a).1 ≠ -1000000000000000 ∧ WL a 0 l ≤ (topE a).1 := by
  have := asg_le hm l hd hl (by rw [h, Nat.sub_self]; exact hf)
  rw [setN_full hm.rows.2 hd hl h, h, Nat.sub_self] at this
  exact this
/-- an entry of the table has its reason -/
theorem asg_why {a : List (List Int)} {s : Nat} (h : s < 2 ^ a.length) (h0 : s ≠ 0) (he : (entS a s).1 ≠ -1000000000000000) (hrows : a.length ≤ 10) : ∃ j, j < a.length ∧ bitN s j = 1 ∧ entA a (a.length - popN s) j ≠ -1000000000000000 ∧ (entS a (s - 2 ^ j)).1 ≠ -1000000000000000 ∧ (entS a s).1 = entA a (a.length - popN s) j + (entS a (s - 2 ^ j)).1 := by
  rw [entS_cell h h0] at he ⊢
  obtain ⟨_, _, hN, _, _⟩ := pow_ok (n := a.length) hrows
  obtain ⟨j, j1, j2, j3, j4, j5⟩ := (cellP_from a (tabP a s) s a.length).resolve_left he
  have hq := ((bit_ok (s := s) (j := j) (by omega) (by omega)).one j2).1
  have hpos : 0 < 2 ^ j := Nat.pow_pos (by decide)
  rw [tab_entS (by omega) (by omega)] at j4 j5
  exact ⟨j, j1, j2, j3, j4, j5⟩
/-- an assignment of the greatest weight -/
structure Asg (a : List (List Int)) (l : List Nat) : Prop where
  len : l.length = a.length
  nd : l.Nodup
  lt : ∀ j ∈ l, j < a.length
  fin : FinA a 0 l
  top : WL a 0 l = (topE a).1
def AsgJ (a : List (List Int)) (i : Nat) (t : Int × List Int) : Prop :=
  ∃ (s : Nat) (l : List Nat), s < 2 ^ a.length ∧ t = ((s : Int), toI l) ∧ l.length = i ∧ popN s + i = a.length ∧ l.Nodup ∧ (∀ j ∈ l, j < a.length ∧ bitN s j = 0) ∧ FinA a 0 l ∧ (entS a s).1 ≠ -1000000000000000 ∧ WL a 0 l + (entS a s).1 = (topE a).1
theorem l10_tc {a : List (List Int)} (hm : Mat a a.length) : M.TC (spec_l10Assignment a) (fun w => (w.2 = false ∧ (topE a).1 = -1000000000000000) ∨ (w.2 = true ∧ ∃ l, w.1 = toI l ∧ Asg a l)) := by
  have hrows := hm.rows
  obtain ⟨_, _, hN, hN1, _⟩ := pow_ok (n := a.length) (by omega)
  obtain ⟨r1, _, _, _⟩ := top_reads hm
  have rW : ∀ s : Nat, s < 2 ^ a.length → M.Conv (M.idx ((tabP a (2 ^ a.length)).map Prod.fst) (s : Int)) (entS a s).1 := fun s hs => M.Conv_idx (by rw [List.getElem?_map, entS_get hs]; rfl)
  unfold spec_l10Assignment
  refine M.TC_bindC (spec_l10Best_ok hm) (M.TC_bindC r1 (M.TC_ite (fun ht => M.TC_ret (.inl ⟨rfl, eq_of_beq ht⟩)) (fun ht => ?_)))
  have htb : (entS a (2 ^ a.length - 1)).1 ≠ -1000000000000000 := by simpa [topE, entS] using ht
  have hw0 : w64 ((((tabP a (2 ^ a.length)).map Prod.fst).length : Int) - 1) = ((2 ^ a.length - 1 : Nat) : Int) := by rw [List.length_map, tabP_len, w64_eq _ (by omega)]; omega
  rw [hw0]
  have hp0 := (compl_ok (n := a.length) (s := 2 ^ a.length - 1) (by omega) (by omega)).1
  rw [show 2 ^ a.length - 1 - (2 ^ a.length - 1) = 0 by omega, show popN 0 = 0 by decide] at hp0
  refine M.TC_bind (M.TC_forN (AsgJ a) (by omega) ⟨2 ^ a.length - 1, [], by omega, rfl, rfl, by omega, by simp, by simp, trivial, htb, by simp only [WL, Int.zero_add]; rfl⟩ (fun i t hi hJ => ?_)) (fun t hJ => ?_)
  · obtain ⟨s, l, hs, rfl, hl, hp, hd, hb, hf, he, hw⟩ := hJ
    have hrow : a[i]? = some a[i] := List.getElem?_eq_getElem hi
    have h0 : s ≠ 0 := fun e => by rw [e, show popN 0 = 0 by decide] at hp; omega
    obtain ⟨jj, g1, g2, g3, g4, g5⟩ := asg_why hs h0 he (by omega)
    rw [show a.length - popN s = i by omega] at g3 g5
    refine M.TC_bind (Mid := AsgJ a (i + 1)) (M.TC_for (fun j st => st = ((s : Int), toI l) ∧ ((jj : Nat) : Int) ≥ j) _ (by omega) (by omega) ⟨rfl, by omega⟩ (fun j st h1 h2 hI => ?_) (fun j st hj hI => ?_)) fun u hu => M.TC_ret ⟨_, rfl, hu⟩
    · obtain ⟨rfl, hjj⟩ := hI
      obtain ⟨j, rfl⟩ : ∃ q : Nat, j = q := ⟨j.toNat, by omega⟩
      have hj : j < a.length := by omega
      have hbit := bit_ok (s := s) (j := j) (by omega) (by omega)
      obtain ⟨c2, c3⟩ := hm.get hrow hj
      have ev : (a[i][j]?).getD 0 = entA a i j := by simp only [entA, hrow, Option.getD_some]
      rw [ev] at c2 c3
      have hv := val_cases c3
      refine M.TC_bindC (M.Conv_guard (by rw [hbit.wrapU]; simp)) ?_
      rw [hbit.wrapU]
      simp only [hbit.and, hbit.shl]
      have hpos : 0 < 2 ^ j := Nat.pow_pos (by decide)
      by_cases hgood : bitN s j = 1 ∧ entA a i j ≠ -1000000000000000 ∧ (entS a (s - 2 ^ j)).1 ≠ -1000000000000000 ∧ (entS a s).1 = entA a i j + (entS a (s - 2 ^ j)).1
      · obtain ⟨k1, k2, k3, k4⟩ := hgood
        obtain ⟨q1, q2, q3⟩ := hbit.one k1
        have hw2 : w64 ((s : Int) - ((2 ^ j : Nat) : Int)) = ((s - 2 ^ j : Nat) : Int) := by rw [w64_eq _ (by omega)]; omega
        have hE := entS_ok hm (s := s - 2 ^ j) (by omega)
        have t1 := (timesI_val hv hE).1
        rw [show (entA a i j == (-1000000000000000)) = false by simpa using k2, show ((entS a (s - 2 ^ j)).1 == (-1000000000000000)) = false by simpa using k3] at t1
        simp only [Bool.or_self, cond_false] at t1
        refine M.TC_bindC (x := true) (M.Conv_ite (fun _ => M.Conv_bind (get_row hrow) (M.Conv_bind c2 ((M.Conv_ret _).of (by simpa using k2)))) (fun t => by rw [k1] at t; simp at t)) ?_
        refine M.TC_bindC (x := true) (M.Conv_ite (fun _ => M.Conv_bind (get_row hrow) (M.Conv_bind c2 (M.Conv_bind (M.Conv_guard (by simp)) (M.Conv_bind (x := (entS a (s - 2 ^ j)).1) (by rw [hw2]; exact rW _ (by omega)) (M.Conv_bind (spec_l01Times_ok _ _) (M.Conv_bind (rW _ hs) ((M.Conv_ret _).of (by rw [t1, k4]; simp)))))))) (fun t => by cases t)) ?_
        refine M.TC_ite (fun _ => ?_) (fun t => by cases t)
        have hll : l.length ≤ 10 := by omega
        refine M.TC_bindC (x := toI l ++ [(j : Int)]) (M.Conv_app (by simp [toI]; omega)) (M.TC_bindC (M.Conv_guard (by simp)) (M.TC_ret (.inr ⟨_, rfl, ?_⟩)))
        refine ⟨s - 2 ^ j, l ++ [j], by omega, by rw [hw2]; simp [toI], by simp [hl], by omega, ?_, fun x hx => ?_, ?_, k3, ?_⟩
        · rw [List.nodup_append]
          refine ⟨hd, by simp, fun x hx y hy => ?_⟩
          have hx := (hb x hx).2
          have hy : y = j := by simpa using hy
          rintro rfl
          rw [hy] at hx; omega
        · obtain ⟨b1, b2⟩ := bit_add (s := s - 2 ^ j) (j := j) (by omega) (by omega) (by omega)
          rw [show s - 2 ^ j + 2 ^ j = s by omega] at b2
          rcases List.mem_append.1 hx with hx | hx
          · obtain ⟨y1, y2⟩ := hb x hx
            have := b2 x (by omega)
            refine ⟨y1, ?_⟩
            by_cases e : x = j
            · rw [e]; exact q3
            · rw [if_neg e, y2] at this; omega
          · have hx : x = j := by simpa using hx
            rw [hx]; exact ⟨hj, q3⟩
        · rw [FinA_snoc, Nat.zero_add, hl]; exact ⟨hf, k2⟩
        · rw [WL_snoc, Nat.zero_add, hl]; omega
      · have stay : ((jj : Nat) : Int) ≥ (j : Int) + 1 := by
          by_cases e : jj = j
          · subst e; exact absurd ⟨g2, g3, g4, g5⟩ hgood
          · omega
        refine M.TC_bindC (x := bitN s j == 1 && (entA a i j != -1000000000000000)) (M.Conv_ite (fun t => M.Conv_bind (get_row hrow) (M.Conv_bind c2 ((M.Conv_ret _).of (by
            have t : bitN s j = 1 := by have := eq_of_beq t; omega
            simp [t])))) (fun t => (M.Conv_ret _).of (by
            have t : bitN s j ≠ 1 := fun e => by rw [e] at t; simp at t
            simp [t]))) ?_
        refine M.TC_bindC (x := false) (M.Conv_ite (fun t => ?_) (fun _ => M.Conv_ret _)) (M.TC_ite (fun t => by cases t) (fun _ => M.TC_ret (.inl ⟨_, rfl, rfl, stay⟩)))
        simp only [Bool.and_eq_true, beq_iff_eq, bne_iff_ne, ne_eq] at t
        obtain ⟨k1, k2⟩ := t
        obtain ⟨q1, q2, q3⟩ := hbit.one k1
        have hw2 : w64 ((s : Int) - ((2 ^ j : Nat) : Int)) = ((s - 2 ^ j : Nat) : Int) := by rw [w64_eq _ (by omega)]; omega
        have hE := entS_ok hm (s := s - 2 ^ j) (by omega)
        have t1 := (timesI_val hv hE).1
        rw [show (entA a i j == (-1000000000000000)) = false by simpa using k2] at t1
        refine M.Conv_bind (get_row hrow) (M.Conv_bind c2 (M.Conv_bind (M.Conv_guard (by simp)) (M.Conv_bind (x := (entS a (s - 2 ^ j)).1) (by rw [hw2]; exact rW _ (by omega)) (M.Conv_bind (spec_l01Times_ok _ _) (M.Conv_bind (rW _ hs) ((M.Conv_ret _).of ?_))))))
        rw [t1]
        cases e : ((entS a (s - 2 ^ j)).1 == (-1000000000000000)) with
        | true => simp only [Bool.or_true, cond_true, beq_eq_false_iff_ne, ne_eq]; exact fun e => he e.symm
        | false =>
          simp only [Bool.or_self, cond_false, beq_eq_false_iff_ne, ne_eq]
          exact fun e2 => hgood ⟨k1, k2, by simpa using e, e2.symm⟩
    · have := hI.2
      omega
  · obtain ⟨s, l, hs, rfl, hl, hp, hd, hb, hf, he, hw⟩ := hJ
    have h0 : s = 0 := by
      rcases (pop_ok (s := s) (by omega)).2.2 with e | e
      · exact e
      · omega
    rw [h0, entS_zero] at hw
    exact M.TC_ret (.inr ⟨rfl, l, rfl, hl, hd, fun j hj => (hb j hj).1, hf, by simpa using hw⟩)

def smF (f : Nat → Int) : Nat → Int
  | 0 => 0
  | n + 1 => smF f n + f n
theorem smF_congr {f g : Nat → Int} : ∀ {n : Nat}, (∀ j, j < n → f j = g j) → smF f n = smF g n
  | 0, _ => rfl
  | n + 1, h => by rw [smF, smF, smF_congr fun j hj => h j (by omega), h n (by omega)]
/-- a one-to-one choice of columns -/
structure Inj (n : Nat) (q : Nat → Nat) : Prop where
  lt : ∀ i, i < n → q i < n
  inj : ∀ i j, i < n → j < n → q i = q j → i = j
def pf (l : List Nat) (k : Nat) : Nat := (l[k]?).getD 0
theorem WL_range (a : List (List Int)) (q : Nat → Nat) : ∀ n, WL a 0 ((List.range n).map q) = smF (fun j => entA a j (q j)) n
  | 0 => rfl
  | n + 1 => by rw [List.range_succ, List.map_append, List.map_cons, List.map_nil, WL_snoc, WL_range a q n]; simp [smF]
theorem FinA_range (a : List (List Int)) (q : Nat → Nat) : ∀ n, FinA a 0 ((List.range n).map q) ↔ ∀ i, i < n → entA a i (q i) ≠ -1000000000000000
  | 0 => by simp [FinA]
  | n + 1 => by
    rw [List.range_succ, List.map_append, List.map_cons, List.map_nil, FinA_snoc, FinA_range a q n]
    simp only [List.length_map, List.length_range, Nat.zero_add]
    constructor
    · rintro ⟨h1, h2⟩ i hi
      by_cases e : i = n
      · rw [e]; exact h2
      · exact h1 i (by omega)
    · exact fun h => ⟨fun i hi => h i (by omega), h n (by omega)⟩
theorem pf_range (l : List Nat) : l = (List.range l.length).map (pf l) := by
  apply List.ext_getElem?
  intro i
  by_cases h : i < l.length
  · simp [pf, h]
  · rw [List.getElem?_eq_none (by omega), List.getElem?_eq_none (by simp; omega)]
theorem pf_mem {l : List Nat} {k : Nat} (h : k < l.length) : pf l k ∈ l := by
  unfold pf; rw [List.getElem?_eq_getElem h]; exact List.getElem_mem h
theorem Asg.pinj {a : List (List Int)} {l : List Nat} (h : Asg a l) : Inj a.length (pf l) := by
  refine ⟨fun i hi => h.lt _ (pf_mem (by rw [h.len]; exact hi)), fun i j hi hj e => ?_⟩
  have hp := List.pairwise_iff_getElem.1 h.nd
  have hi' : i < l.length := by rw [h.len]; exact hi
  have hj' : j < l.length := by rw [h.len]; exact hj
  unfold pf at e
  rw [List.getElem?_eq_getElem hi', List.getElem?_eq_getElem hj'] at e
  rcases Nat.lt_trichotomy i j with c | c | c
  · exact absurd e (hp i j hi' hj' c)
  · exact c
  · exact absurd e.symm (hp j i hj' hi' c)
theorem Asg.pfin {a : List (List Int)} {l : List Nat} (h : Asg a l) : ∀ i, i < a.length → entA a i (pf l i) ≠ -1000000000000000 := by
  have := h.fin
  rw [pf_range l, FinA_range, h.len] at this
  exact this
theorem Asg.psum {a : List (List Int)} {l : List Nat} (h : Asg a l) : smF (fun j => entA a j (pf l j)) a.length = (topE a).1 := by
  have := h.top
  rw [pf_range l, WL_range, h.len] at this
  exact this
theorem inj_le {a : List (List Int)} (hm : Mat a a.length) {q : Nat → Nat} (hq : Inj a.length q) (hf : ∀ i, i < a.length → entA a i (q i) ≠ -1000000000000000) : (topE a).1 ≠ -1000000000000000 ∧ smF (fun j => entA a j (q j)) a.length ≤ (topE a).1 := by
  have := asg_top hm (l := (List.range a.length).map q) (by
    refine List.pairwise_map.2 ((List.nodup_range (n := a.length)).imp_of_mem fun {i j} hi hj hne e => hne (hq.inj i j (List.mem_range.1 hi) (List.mem_range.1 hj) e))) (fun j hj => by
    obtain ⟨i, hi, rfl⟩ := List.mem_map.1 hj
    exact hq.lt i (List.mem_range.1 hi)) (by simp) ((FinA_range a q _).2 hf)
  rw [WL_range] at this
  exact this
/-- the potentials -/
structure PotP (a : List (List Int)) (l : List Nat) (u : List Int) : Prop where
  len : u.length = a.length
  bd : ∀ i, i < a.length → 0 ≤ nd u i ∧ nd u i ≤ 20000000
  step : ∀ i k, i < a.length → k < a.length → entA a i (pf l k) ≠ -1000000000000000 → entA a i (pf l k) - entA a k (pf l k) + nd u k ≤ nd u i
structure DualP (a : List (List Int)) (l : List Nat) (u v : List Int) : Prop where
  asg : Asg a l
  pot : PotP a l u
  vlen : v.length = a.length
  fu : u.all finB = true
  fv : v.all finB = true
  val : ∀ k, k < a.length → nd v (pf l k) = entA a k (pf l k) - nd u k
theorem l10_two {a : List (List Int)} (hm : Mat a a.length) : ∃ w, M.Conv (spec_l10Assignment a) w ∧ M.Conv (impl_bestAssignment a) w ∧ ((w.2 = false ∧ (topE a).1 = -1000000000000000) ∨ (w.2 = true ∧ ∃ l, w.1 = toI l ∧ Asg a l)) := by
  obtain ⟨w, h1, h2, _⟩ := same_l10 hm
  obtain ⟨w', h3, h4⟩ := l10_tc hm
  have := M.Conv.unique h1 h3
  subst this
  exact ⟨w, h1, h2, h4⟩
theorem toI_read {l : List Nat} {k : Nat} (h : k < l.length) : M.Conv (M.idx (toI l) (k : Int)) (pf l k : Int) := M.Conv_idx (by simp [pf, h])
def smL (f : Nat → Int) : List Nat → Int
  | [] => 0
  | x :: l => f x + smL f l
theorem smL_app (f : Nat → Int) : ∀ (x y : List Nat), smL f (x ++ y) = smL f x + smL f y
  | [], y => by simp [smL]
  | v :: x, y => by simp only [List.cons_append, smL, smL_app f x y]; omega
theorem smL_range (f q : Nat → Int) (p : Nat → Nat) (e : ∀ i, f (p i) = q i) : ∀ n, smL f ((List.range n).map p) = smF q n
  | 0 => rfl
  | n + 1 => by rw [List.range_succ, List.map_append, List.map_cons, List.map_nil, smL_app, smL_range f q p e n]; simp [smL, smF, e]
theorem smL_full (f : Nat → Int) : ∀ (n : Nat) (l : List Nat), l.Nodup → (∀ x ∈ l, x < n) → l.length = n → smL f l = smF f n
  | 0, l, _, _, hl => by rw [List.eq_nil_of_length_eq_zero hl]; rfl
  | n + 1, l, hd, hlt, hl => by
    have hn : n ∈ l := by
      apply Classical.byContradiction
      intro hn
      have := nodup_lt n l hd fun x hx => by
        have := hlt x hx
        have : x ≠ n := fun e => hn (e ▸ hx)
        omega
      omega
    obtain ⟨x, y, rfl⟩ := List.append_of_mem hn
    have hp : (n :: (x ++ y)).Nodup := (List.perm_middle.nodup_iff).1 hd
    obtain ⟨h1, h2⟩ := List.nodup_cons.1 hp
    have ih := smL_full f n (x ++ y) h2 (fun z hz => by
      have := hlt z (by
        rcases List.mem_append.1 hz with h | h
        · exact List.mem_append_left _ h
        · exact List.mem_append_right _ (List.mem_cons_of_mem _ h))
      have : z ≠ n := fun e => h1 (e ▸ hz)
      omega) (by simp at hl ⊢; omega)
    rw [smL_app] at ih
    rw [smL_app, smL, smF, ← ih]; omega
theorem Asg.sum_perm {a : List (List Int)} {l : List Nat} (h : Asg a l) (f : Nat → Int) : smF (fun k => f (pf l k)) a.length = smF f a.length := by
  rw [← smL_full f a.length l h.nd h.lt h.len]
  rw [← smL_range f (fun k => f (pf l k)) (pf l) (fun _ => rfl) a.length]
  conv => rhs; rw [pf_range l, h.len]
theorem smF_add (f g : Nat → Int) : ∀ n, smF (fun k => f k + g k) n = smF f n + smF g n
  | 0 => rfl
  | n + 1 => by simp only [smF, smF_add f g n]; omega
theorem smF_bd {f : Nat → Int} : ∀ {n : Nat}, (∀ k, k < n → -1000000 ≤ f k ∧ f k ≤ 1000000) → -(1000000 * (n : Int)) ≤ smF f n ∧ smF f n ≤ 1000000 * (n : Int)
  | 0, _ => by simp [smF]
  | n + 1, h => by
    have := smF_bd (f := f) (n := n) fun k hk => h k (by omega)
    have := h n (by omega)
    simp only [smF]; omega
theorem perm_conv {a : List (List Int)} (sa : smII a) (hs : sqB a = true) : M.Conv (impl_PermanentOf a) (bif valB (topE a).1 then ((topE a).1, 0) else (0, 3)) := by
  have hm := sq_mat hs
  obtain ⟨r1, r2, r3, r4⟩ := top_reads hm
  unfold impl_PermanentOf
  refine M.Conv_bind (impl_isSquare_ok sa) (M.Conv_ite (fun t => by rw [hs] at t; cases t) (fun _ => M.Conv_bind (impl_permanents_ok hm) (M.Conv_bind r3 (M.Conv_bind (impl_checkedValue_ok _) ?_))))
  exact M.Conv_ret _
theorem top_asg {a : List (List Int)} (hm : Mat a a.length) (h : (topE a).1 ≠ -1000000000000000) : ∃ l, Asg a l := by
  obtain ⟨w, _, _, hw⟩ := l10_two hm
  exact (hw.resolve_left fun q => h q.2).2.imp fun l hl => hl.2
theorem DualP.sum {a : List (List Int)} {l : List Nat} {u v : List Int} (h : DualP a l u v) : smF (nd u) a.length + smF (nd v) a.length = (topE a).1 := by
  rw [← h.asg.psum, ← h.asg.sum_perm (nd v), ← smF_add]
  refine smF_congr fun k hk => ?_
  rw [h.val k hk]; omega
theorem drawSquare_ok {code : List Int} (hc : ByC code) {s : TL01source} (hs : Src code s) : M.TC (spec_l02DrawSquare s) (fun r => MatS r.1 ∧ Src code r.2) := by
  unfold spec_l02DrawSquare
  rw [hs.code_]
  refine M.TC_bind (next_ok hc hs 5 (by omega)) fun x hx => ?_
  obtain ⟨k, hk⟩ : ∃ k : Nat, w64 (1 + x.1) = k ∧ 1 ≤ k ∧ k ≤ 10 := by
    have := hx.2
    refine ⟨(w64 (1 + x.1)).toNat, ?_, ?_, ?_⟩ <;> rw [w64_eq _ (by omega)] <;> omega
  rw [hk.1]
  exact M.TC_bind (size_ok hc (hx.1.mk' rfl) k k (by omega) (by omega)) fun y hy => M.TC_ret ⟨hy.1, hy.2.mk' rfl⟩
def shF (a : List (List Int)) (L W : Int) (i j : Nat) : Int := bif entA a i j == (-1000000000000000) then -1000000000000000 else L * entA a i j - W
structure Sh (a : List (List Int)) (n : Nat) (L W : Int) : Prop where
  ent : Ent a n 1000000
  hL : 1 ≤ L ∧ L ≤ 10
  hW : -10000000 ≤ W ∧ W ≤ 10000000
theorem Sh.val {a : List (List Int)} {n : Nat} {L W : Int} (h : Sh a n L W) {i j : Nat} (hi : i < n) (hj : j < n) : (entA a i j = -1000000000000000 ∧ entA (matF n n (shF a L W)) i j = -1000000000000000) ∨ (entA a i j ≠ -1000000000000000 ∧ entA (matF n n (shF a L W)) i j = L * entA a i j - W ∧ -20000000 ≤ L * entA a i j - W ∧ L * entA a i j - W ≤ 20000000) := by
  rw [entA_matF hi hj]
  unfold shF
  rcases h.ent i j hi hj with e | e
  · left; rw [e]; exact ⟨rfl, rfl⟩
  · right
    have hL := h.hL
    have hW := h.hW
    have c1 := Int.mul_le_mul_of_nonneg_left e.2 (show 0 ≤ L by omega)
    have c2 := Int.mul_le_mul_of_nonneg_left e.1 (show 0 ≤ L by omega)
    have ne : entA a i j ≠ -1000000000000000 := by omega
    rw [show (entA a i j == (-1000000000000000)) = false by simpa using ne]
    exact ⟨ne, rfl, by omega, by omega⟩
theorem Sh.bd {a : List (List Int)} {n : Nat} {L W : Int} (h : Sh a n L W) : Ent (matF n n (shF a L W)) n 20000000 := by
  intro i j hi hj
  rcases h.val hi hj with e | e
  · exact .inl e.2
  · right; rw [e.2.1]; exact e.2.2
theorem Cl.bd {a : List (List Int)} {n : Nat} {B : Int} (hB : Ent a n B) {l : List Nat} {w : Int} (h : Cl a n l w) : -(B * (l.length : Int)) ≤ w ∧ w ≤ B * (l.length : Int) := by
  obtain ⟨j, r, rfl, hw⟩ := h.wlk
  exact hw.bd hB
theorem WC.len {a : List (List Int)} {n : Nat} {l : List Nat} {w : Int} (h : WC a n l w) : 1 ≤ l.length ∧ l.length ≤ n := by
  have := nodup_lt n l h.nd h.cl.lt
  obtain ⟨j, r, e, _⟩ := h.cl
  rw [e] at this ⊢
  exact ⟨by simp, this⟩
theorem Wlk.split {a : List (List Int)} {n j : Nat} (k : Nat) : ∀ (m : Nat) {w : Int} {i : Nat}, Wlk a n j (k + m) i w → ∃ x w1 w2, Wlk a n j k x w1 ∧ Wlk a n x m i w2 ∧ w = w1 + w2
  | 0, w, i, h => ⟨i, w, 0, h, .nil h.lt.2, by omega⟩
  | m + 1, w, i, h => by
    cases h with
    | step _ i1 _ w1 hw hi ha =>
      obtain ⟨x, u, v, h1, h2, rfl⟩ := Wlk.split k m hw
      exact ⟨x, u, _, h1, .step m i1 _ v h2 hi ha, by omega⟩
structure FkP (a : List (List Int)) (n k : Nat) (F : List Int) : Prop where
  len : F.length = n
  snd : ∀ i, i < n → nd F i = -1000000000000000 ∨ ∃ j, Wlk a n j k i (nd F i)
  cpl : ∀ i j w, Wlk a n j k i w → nd F i ≠ -1000000000000000 ∧ w ≤ nd F i
theorem FkP.bd {a : List (List Int)} {n k : Nat} (hB : Ent a n 1000000) {F : List Int} (h : FkP a n k F) (hk : k ≤ 10) {i : Nat} (hi : i < n) : nd F i = -1000000000000000 ∨ (-10000000 ≤ nd F i ∧ nd F i ≤ 10000000) := by
  rcases h.snd i hi with e | ⟨j, hw⟩
  · exact .inl e
  · have := hw.bd hB
    exact .inr (by omega)
theorem Inj.sum {n : Nat} {q : Nat → Nat} (h : Inj n q) (f : Nat → Int) : smF (fun k => f (q k)) n = smF f n := by
  rw [← smL_range f (fun k => f (q k)) q (fun _ => rfl) n]
  refine smL_full f n _ (List.pairwise_map.2 ((List.nodup_range (n := n)).imp_of_mem fun {i j} hi hj hne e => hne (h.inj i j (List.mem_range.1 hi) (List.mem_range.1 hj) e))) (fun j hj => ?_) (by simp)
  obtain ⟨i, hi, rfl⟩ := List.mem_map.1 hj
  exact h.lt i (List.mem_range.1 hi)
theorem top_turn {a b : List (List Int)} (ha : Mat a a.length) (hb : Mat b b.length) (hl : b.length = a.length) {σ : Nat → Nat} (hσ : Inj a.length σ) (he : ∀ i j, i < a.length → j < a.length → entA b i j = entA a (σ i) j) (ht : (topE a).1 ≠ -1000000000000000) : (topE b).1 ≠ -1000000000000000 ∧ (topE a).1 ≤ (topE b).1 := by
  obtain ⟨l, h⟩ := top_asg ha ht
  have hinj : Inj b.length (fun i => pf l (σ i)) := by
    rw [hl]
    exact ⟨fun i hi => h.pinj.lt _ (hσ.lt i hi), fun i j hi hj e => hσ.inj i j hi hj (h.pinj.inj _ _ (hσ.lt i hi) (hσ.lt j hj) e)⟩
  have ev : ∀ i, i < a.length → entA b i (pf l (σ i)) = entA a (σ i) (pf l (σ i)) := fun i hi => he i _ hi (h.pinj.lt _ (hσ.lt i hi))
  have := inj_le hb hinj (by rw [hl]; exact fun i hi => by rw [ev i hi]; exact h.pfin _ (hσ.lt i hi))
  rw [hl, smF_congr ev, hσ.sum (fun k => entA a k (pf l k)), h.psum] at this
  exact this
theorem turn_ok {r0 : List Int} {rest : List (List Int)} (hm : Mat (r0 :: rest) (r0 :: rest).length) : Mat (rest ++ [r0]) (rest ++ [r0]).length ∧ (topE (rest ++ [r0])).1 = (topE (r0 :: rest)).1 := by
  have hl : (rest ++ [r0]).length = (r0 :: rest).length := by simp
  have hrows := hm.rows
  have hb : Mat (rest ++ [r0]) (rest ++ [r0]).length := by
    rw [hl]
    refine ⟨by rw [hl]; exact hm.rows, hm.cols, fun r hr => hm.row r ?_⟩
    rcases List.mem_append.1 hr with hr | hr
    · exact List.mem_cons_of_mem _ hr
    · rw [List.mem_singleton.1 hr]; exact List.mem_cons_self
  refine ⟨hb, ?_⟩
  have hn : (r0 :: rest).length = rest.length + 1 := rfl
  -- the two turns
  have s1 : Inj (r0 :: rest).length (fun i => if i < rest.length then i + 1 else 0) := by
    rw [hn]
    refine ⟨fun i hi => ?_, fun i j hi hj e => ?_⟩
    · split <;> omega
    · split at e <;> split at e <;> omega
  have s2 : Inj (r0 :: rest).length (fun i => if i = 0 then rest.length else i - 1) := by
    rw [hn]
    refine ⟨fun i hi => ?_, fun i j hi hj e => ?_⟩
    · split <;> omega
    · split at e <;> split at e <;> omega
  have e1 : ∀ i j, i < (r0 :: rest).length → j < (r0 :: rest).length → entA (rest ++ [r0]) i j = entA (r0 :: rest) (if i < rest.length then i + 1 else 0) j := fun i j hi _ => by
    rw [hn] at hi
    unfold entA
    by_cases c : i < rest.length
    · rw [if_pos c, List.getElem?_append_left c, List.getElem?_cons_succ]
    · rw [if_neg c, List.getElem?_append_right (by omega), show i - rest.length = 0 by omega]; rfl
  have e2 : ∀ i j, i < (rest ++ [r0]).length → j < (rest ++ [r0]).length → entA (r0 :: rest) i j = entA (rest ++ [r0]) (if i = 0 then rest.length else i - 1) j := fun i j hi _ => by
    rw [hl, hn] at hi
    unfold entA
    by_cases c : i = 0
    · rw [if_pos c, c, List.getElem?_append_right (by omega), Nat.sub_self]; rfl
    · rw [if_neg c, List.getElem?_append_left (by omega)]
      obtain ⟨k, rfl⟩ : ∃ k, i = k + 1 := ⟨i - 1, by omega⟩
      rw [List.getElem?_cons_succ, Nat.add_sub_cancel]
  have k1 := top_turn hm hb hl s1 e1
  have k2 := top_turn hb hm hl.symm (by rw [hl]; exact s2) e2
  by_cases c : (topE (r0 :: rest)).1 = -1000000000000000
  · by_cases d : (topE (rest ++ [r0])).1 = -1000000000000000
    · rw [c, d]
    · exact absurd c (k2 d).1
  · have := k1 c
    have := (k2 this.1).2
    omega
theorem mat_sqB {a : List (List Int)} (h : Mat a a.length) : sqB a = true := by
  simp only [sqB, Bool.and_eq_true, decide_eq_true_eq]
  exact ⟨mat_matB h, (shp_width h.shp).symm⟩
theorem entA_64 {a : List (List Int)} (h : MatS a) (i j : Nat) : inI64 (entA a i j) := by
  unfold entA
  cases hi : a[i]? with
  | none => simp [inI64]
  | some r =>
    simp only [Option.getD_some]
    cases hj : r[j]? with
    | none => simp [inI64]
    | some x => exact (h.row r (List.mem_of_getElem? hi)).2 x (List.mem_of_getElem? hj)
theorem DrawCount_ok {code : List Int} (hc : ByC code) : M.TC (spec_DrawCountAssignments code) MatS := by
  unfold spec_DrawCountAssignments
  refine M.TC_bind (from_ok hc) fun x hx => M.TC_bind (drawSquare_ok hc hx) fun a ha => ?_
  rw [hx.code_]
  refine M.TC_bind (Mid := fun (r : Int × Int × Bool) => Src code ⟨code, r.1, r.2.1⟩ ∧ (r.2.2 = true → sqB a.1 = true)) (M.TC_bindC (spec_l02Square_ok ha.1.sm) (M.TC_ite (fun t => M.TC_bind (next_ok hc (ha.2.mk' rfl) 2 (by omega)) fun y hy => M.TC_ret ⟨hy.1.mk' rfl, fun _ => t⟩) (fun _ => M.TC_ret ⟨ha.2.mk' rfl, fun h => (by cases h)⟩))) fun s hs => ?_
  refine M.TC_bind (Mid := MatS) (M.TC_ite (fun t => ?_) (fun _ => M.TC_ret ha.1)) fun m hm => M.TC_ret hm
  have hm := sq_mat (hs.2 t)
  have hr := hm.rows
  refine M.TC_bind (Mid := fun (r : Int × Int × List (List Int)) => Src code ⟨code, r.1, r.2.1⟩ ∧ ∃ f, r.2.2 = matF a.1.length a.1.length f ∧ ∀ i j, inI64 (f i j)) (M.TC_for (fun _ (r : Int × Int × List (List Int)) => Src code ⟨code, r.1, r.2.1⟩ ∧ ∃ f, r.2.2 = matF a.1.length a.1.length f ∧ ∀ i j, inI64 (f i j)) _ (by omega) (by omega) ⟨hs.1, _, mat_eq hm.shp, entA_64 ha.1⟩ (fun i r h1 h2 hI => ?_) (fun _ _ _ hI => hI)) fun r hr => M.TC_ret ?_
  · refine M.TC_bind (Mid := fun (r : Int × Int × List (List Int)) => Src code ⟨code, r.1, r.2.1⟩ ∧ ∃ f, r.2.2 = matF a.1.length a.1.length f ∧ ∀ i j, inI64 (f i j)) (M.TC_for (fun _ (r : Int × Int × List (List Int)) => Src code ⟨code, r.1, r.2.1⟩ ∧ ∃ f, r.2.2 = matF a.1.length a.1.length f ∧ ∀ i j, inI64 (f i j)) _ (by omega) (by omega) hI (fun j r h3 h4 hI => ?_) (fun _ _ _ hI => hI)) fun r hr => M.TC_ret (.inl ⟨_, rfl, hr⟩)
    obtain ⟨hsr, f, hf, hfi⟩ := hI
    rw [hf]
    obtain ⟨i', rfl⟩ : ∃ q : Nat, i = (q : Int) := ⟨i.toNat, by omega⟩
    obtain ⟨j', rfl⟩ : ∃ q : Nat, j = (q : Int) := ⟨j.toNat, by omega⟩
    refine M.TC_bindC (idx_tab (by omega)) (M.TC_bindC (idx_tab (by omega)) ?_)
    refine M.TC_bind (Mid := fun (r : Int × Int × List (List Int)) => Src code ⟨code, r.1, r.2.1⟩ ∧ ∃ f, r.2.2 = matF a.1.length a.1.length f ∧ ∀ i j, inI64 (f i j)) (M.TC_ite (fun _ => ?_) (fun _ => M.TC_ret ⟨hsr, f, rfl, hfi⟩)) fun r hr => M.TC_ret (.inl ⟨_, rfl, hr⟩)
    refine M.TC_bindC (idx_tab (by omega)) (M.TC_bind (next_ok hc hsr 2 (by omega)) fun y hy => ?_)
    refine M.TC_bindC (idx_tab (by omega)) (M.TC_bindC (M.Conv_upd (by rw [tab_len]; omega)) (M.TC_ret ⟨hy.1.mk' rfl, fun p q => if p = i' ∧ q = j' then y.1 else f p q, ?_, fun p q => ?_⟩))
    · simp only [Int.toNat_natCast]
      have := matF_set (m := a.1.length) (n := a.1.length) (i := i') (j := j') (f := f) (g := fun p q => if p = i' ∧ q = j' then y.1 else f p q) (fun p q _ _ hpq => by rw [if_neg hpq])
      simpa using this
    · simp only
      split
      · have := hy.2
        unfold inI64; omega
      · exact hfi p q
  · obtain ⟨_, f, hf, hfi⟩ := hr
    rw [hf]
    exact MatS.of (by omega) (by omega) hfi
theorem count_single {a : List (List Int)} (ha : MatS a) : ∃ (c v : Int × Int) (b : Bool × Int), M.Conv (impl_CountAssignments a) c ∧ M.Conv (spec_CountAssignments a) c ∧ M.Conv (impl_IsSingular a) b ∧ M.Conv (spec_IsSingular a) b ∧ (b.2 = 0 → b.1 = (c.1 != 1)) := by
  obtain ⟨c, c1, c2, _⟩ := same_CountAssignments a ha.fit ha.sm
  obtain ⟨b, b1, b2, _⟩ := same_IsSingular a ha.fit ha.sm
  refine ⟨c, c, b, c2, c1, b2, b1, fun h0 => ?_⟩
  cases hs : sqB a with
  | false =>
    have : M.Conv (impl_IsSingular a) (false, 1) := M.Conv_bind (impl_isSquare_ok ha.sm) (M.Conv_ite (fun _ => M.Conv_ret _) (fun t => by rw [hs] at t; cases t))
    have := M.Conv.unique b2 this
    rw [this] at h0; simp at h0
  | true =>
    have hm := sq_mat hs
    obtain ⟨r1, r2, r3, r4⟩ := top_reads hm
    have k1 : M.Conv (impl_IsSingular a) (((topE a).1 == (-1000000000000000)) || decide (1 < (topE a).2), 0) := M.Conv_bind (impl_isSquare_ok ha.sm) (M.Conv_ite (fun t => by rw [hs] at t; cases t) (fun _ => M.Conv_bind (impl_permanents_ok hm) (M.Conv_bind r3 (M.Conv_ret _))))
    have e1 := M.Conv.unique b2 k1
    rcases r4 with h | ⟨h1, h2, h3, h4⟩
    · have k2 : M.Conv (impl_CountAssignments a) (0, 0) := M.Conv_bind (impl_isSquare_ok ha.sm) (M.Conv_ite (fun t => by rw [hs] at t; cases t) (fun _ => M.Conv_bind (impl_permanents_ok hm) (M.Conv_bind r3 (M.Conv_ite (fun _ => M.Conv_ret _) (fun t => by rw [h] at t; simp [mkP] at t)))))
      have e2 := M.Conv.unique c2 k2
      rw [e1, e2, h]; rfl
    · have hrows := hm.rows
      have hw : (topE a).1 ≠ -1000000000000000 := by omega
      have k2 : M.Conv (impl_CountAssignments a) (bif valB (topE a).2 then ((topE a).2, 0) else (0, 3)) := M.Conv_bind (impl_isSquare_ok ha.sm) (M.Conv_ite (fun t => by rw [hs] at t; cases t) (fun _ => M.Conv_bind (impl_permanents_ok hm) (M.Conv_bind r3 (M.Conv_ite (fun t => by simp [mkP] at t; exact absurd t hw) (fun _ => M.Conv_bind (impl_checkedValue_ok _) (M.Conv_ret _))))))
      have e2 := M.Conv.unique c2 k2
      rw [e1, e2, show ((topE a).1 == (-1000000000000000)) = false by simpa using hw, Bool.false_or]
      cases hv : valB (topE a).2 with
      | true =>
        simp only [cond_true]
        rw [Bool.eq_iff_iff, decide_eq_true_eq, bne_iff_ne]; omega
      | false =>
        simp only [cond_false]
        have : ¬ (-1000000 ≤ (topE a).2 ∧ (topE a).2 ≤ 1000000) := fun h => by simp [valB, finB, h.1, h.2] at hv
        rw [Bool.eq_iff_iff, decide_eq_true_eq, bne_iff_ne]; omega
theorem DrawBest_ok {code : List Int} (hc : ByC code) : M.TC (spec_DrawBestAssignment code) MatS :=
  M.TC_bind (from_ok hc) fun x hx => M.TC_bind (drawSquare_ok hc hx) fun y hy => M.TC_ret hy.1
theorem FnAssignments_ok (code : List Int) (h : fitL inU8 code) : M.Conv (laws_FnAssignments code) true := by
  apply M.TC.conv
  unfold laws_FnAssignments
  refine M.TC_bindC (big_ok code) (M.TC_ite (fun _ => M.TC_ret rfl) (fun hb => ?_))
  have hbc := ByC.of h hb
  refine M.TC_bind (DrawBest_ok hbc) fun a ha => ?_
  obtain ⟨w, w1, w2, hsm⟩ := same_BestAssignment a ha.fit ha.sm
  obtain ⟨pm, p1, p2, _⟩ := same_PermanentOf a ha.fit ha.sm
  have hsl : w.1.length ≤ 1099511627776 := hsm
  refine M.TC_bindC w2 (M.TC_bindC w1 (M.TC_bindC p2 (M.TC_bindC p1 (M.TC_bind (DrawCount_ok hbc) fun b hb2 => ?_))))
  obtain ⟨c, _, s, c1, c2, c3, c4, c5⟩ := count_single hb2
  refine M.TC_bindC c1 (M.TC_bindC c2 (M.TC_bindC c3 (M.TC_bindC c4 (M.TC_bindC (cmp_list0 hsl) (M.TC_ite (fun t => ?_) (fun _ => M.TC_ite (fun _ => M.TC_ret rfl) (fun t => ?_)))))))
  · exfalso
    simp only [bne_self_eq_false, Bool.or_self, Bool.false_or, beq_self_eq_true, Bool.not_true, Bool.and_eq_true, beq_iff_eq, Bool.not_eq_true'] at t
    have := c5 t.1
    rw [this] at t
    simp at t
  · cases hs : sqB a with
    | false =>
      have : M.Conv (impl_PermanentOf a) (0, 1) := M.Conv_bind (impl_isSquare_ok ha.sm) (M.Conv_ite (fun _ => M.Conv_ret _) (fun t => by rw [hs] at t; cases t))
      have := M.Conv.unique p2 this
      rw [this] at t; simp at t
    | true =>
      have hm := sq_mat hs
      have hrows := hm.rows
      have hmr := ha.rows
      have e1 := M.Conv.unique p2 (perm_conv ha.sm hs)
      have hv : valB (topE a).1 = true := by
        cases hv : valB (topE a).1 with
        | true => rfl
        | false => rw [e1, hv] at t; simp at t
      rw [hv] at e1
      simp only [cond_true] at e1
      obtain ⟨q, q1, q2, hq⟩ := l10_two hm
      -- the rows turned
      obtain ⟨r0, rest, hcons⟩ : ∃ r0 rest, a = r0 :: rest := by
        cases a with
        | nil => simp at hrows
        | cons r0 rest => exact ⟨r0, rest, rfl⟩
      have hturn : Mat (rest ++ [r0]) (rest ++ [r0]).length ∧ (topE (rest ++ [r0])).1 = (topE a).1 := by
        rw [hcons] at hm ⊢; exact turn_ok hm
      have hrl : a.length = rest.length + 1 := by rw [hcons]; rfl
      refine M.TC_bindC (x := rest ++ [r0]) (M.Conv_bind (x := rest) ?_ (M.Conv_bind (x := r0) ?_ (M.Conv_bind (x := rest) ?_ (M.Conv_bind (M.Conv_app (by simp; omega)) (M.Conv_ret _))))) ?_
      · refine (M.Conv_sub (by omega) (by omega) (by omega)).of ?_
        rw [hcons]
        simp
      · rw [hcons]; exact M.Conv_idx (i := 0) rfl
      · exact (M.Conv_app (by simp; omega)).of (by simp)
      have sturn : smII (rest ++ [r0]) := ⟨by simp; omega, fun r hr => by have := (hturn.1.row r hr).1; have := hturn.1.rows; omega⟩
      have k1 := perm_conv sturn (mat_sqB hturn.1)
      rw [hturn.2, hv] at k1
      simp only [cond_true] at k1
      rcases hq with ⟨hq1, hq2⟩ | ⟨hq1, l, hq2, hq3⟩
      · -- no assignment
        have k2 : M.Conv (impl_BestAssignment a) ([], 4) := M.Conv_bind (impl_isSquare_ok ha.sm) (M.Conv_ite (fun t => by rw [hs] at t; cases t) (fun _ => M.Conv_bind q2 (M.Conv_ite (fun _ => M.Conv_ret _) (fun t => by rw [hq1] at t; cases t))))
        have e2 := M.Conv.unique w2 k2
        rw [e2, e1]
        refine M.TC_bindC k1 (M.TC_ite (fun t => ?_) (fun _ => M.TC_bindC (x := .inl (0, 0)) ?_ ?_))
        · rw [hq2] at t; simp at t
        · exact conv_up0 (fun _ => (0, 0)) (n := 0) (k0 := 0) rfl (by omega) (fun k _ hk => by omega) (M.Conv_ite (fun t => by simp at t) (fun _ => M.Conv_ret _))
        · exact M.TC_ret rfl
      · have k2 : M.Conv (impl_BestAssignment a) (toI l, 0) := M.Conv_bind (impl_isSquare_ok ha.sm) (M.Conv_ite (fun t => by rw [hs] at t; cases t) (fun _ => M.Conv_bind q2 (M.Conv_ite (fun t => by rw [hq1] at t; cases t) (fun _ => (M.Conv_ret _).of (by rw [hq2])))))
        have e2 := M.Conv.unique w2 k2
        rw [e2, e1]
        have htop := (inj_le hm hq3.pinj hq3.pfin).1
        have hll := hq3.len
        have ent : ∀ i, i < a.length → M.Conv (M.idx a (i : Int)) (rowN a i) ∧ M.Conv (M.idx (toI l) (i : Int)) (pf l i : Int) ∧ M.Conv (M.idx (rowN a i) ((pf l i : Nat) : Int)) (entA a i (pf l i)) := fun i hi => by
          have hc := hq3.pinj.lt i hi
          have hrl := hm.shp.row _ (List.mem_of_getElem? (rowN_get hi))
          have := nd_read (l := rowN a i) (i := pf l i) (by omega)
          rw [nd_row hi] at this
          exact ⟨get_row (rowN_get hi), toI_read (by omega), this⟩
        have bd : ∀ i, i < a.length → -1000000 ≤ entA a i (pf l i) ∧ entA a i (pf l i) ≤ 1000000 := fun i hi => (val_cases (ent_val hm hi (hq3.pinj.lt i hi)).2.2).resolve_left (hq3.pfin i hi)
        have hlen : (((toI l).length : Nat) : Int) = (a.length : Int) := by simp [hll]
        refine M.TC_bindC k1 (M.TC_ite (fun t => ?_) (fun _ => M.TC_bindC (x := .inl (smF (fun j => entA a j (pf l j)) a.length, (a.length : Int))) ?_ ?_))
        · rw [show ((topE a).1 == (-1000000000000000)) = false by simpa using htop] at t; simp at t
        · refine conv_up0 (fun k => (smF (fun j => entA a j (pf l j)) k, (k : Int))) (n := a.length) (k0 := 0) rfl (by omega) (fun k _ hk => ?_) ?_
          · obtain ⟨g1, g2, g3⟩ := ent k hk
            have hf := hq3.pfin k hk
            have b1 := smF_bd (f := fun j => entA a j (pf l j)) (n := k) fun j hj => bd j (by omega)
            have b2 := bd k hk
            refine M.Conv_ite (fun _ => M.Conv_bind g1 (M.Conv_bind g2 (M.Conv_bind g3 (M.Conv_ite (fun t => absurd (eq_of_beq t) hf) (fun _ => M.Conv_bind g1 (M.Conv_bind g2 (M.Conv_bind g3 ((M.Conv_ret _).of ?_)))))))) (fun t => ?_)
            · simp only [smF]
              rw [w64_eq _ (by omega), w64_eq _ (by omega)]; rfl
            · rw [hlen] at t
              simp at t; omega
          · refine M.Conv_ite (fun t => ?_) (fun _ => M.Conv_ret _)
            rw [hlen] at t
            simp at t
        · exact M.TC_ret (by rw [hq3.psum]; simp)

end Go.Proofs.Ytipdgiljgbjjkaa
