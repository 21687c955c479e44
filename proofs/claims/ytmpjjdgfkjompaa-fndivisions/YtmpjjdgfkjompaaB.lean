/-
  Plain proofs: the plain program of the law ends with true.
  Conditions: None beyond the given statement.
-/
import Derived.Test.YtmpjjdgfkjompaaP
namespace Go.Proofs.Ytmpjjdgfkjompaa
open Go
/-! ### plain programs: loops over a list -/
namespace M
variable {α β σ ρ : Type}
/-- rounds over the elements of a list, each with its place; a round may leave -/
def run (g : Nat → α → σ → σ ⊕ ρ) (fin : σ → ρ) : Nat → List α → σ → ρ
  | _, [], s => fin s
  | i, x :: xs, s => match g i x s with
    | .inl s' => run g fin (i + 1) xs s'
    | .inr r => r
theorem Conv_forN {l : List α} {f : Int → σ → M (σ ⊕ ρ)} (g : Nat → α → σ → σ ⊕ ρ) (fin : σ → ρ) (I : Nat → σ → Prop) (hi : Int) :
    ∀ (xs : List α) (i : Nat) (s : σ), hi = (i + xs.length : Nat) → I i s → (∀ (j : Nat) x s, xs[j]? = some x → I (i + j) s → Conv (f (i + j : Nat) s) (g (i + j) x s) ∧ ∀ s', g (i + j) x s = .inl s' → I (i + j + 1) s') →
      ∃ N, ∀ n, N ≤ n → forN hi fin f n xs.length i s = some (run g fin i xs s)
  | [], i, s, hh, _, _ => ⟨0, fun n _ => by
      have : ¬ (i : Int) < hi := by rw [hh]; simp
      simp [forN, run, this]⟩
  | x :: xs, i, s, hh, h0, H => by
    have hlt : (i : Int) < hi := by rw [hh]; simp; omega
    obtain ⟨⟨N, hN⟩, hI⟩ := H 0 x s rfl h0
    simp only [Nat.add_zero] at hN hI
    cases hg : g i x s with
    | inl s' =>
      have hi' := hI s' hg
      obtain ⟨N', hN'⟩ := Conv_forN (l := l) g fin I hi xs (i + 1) s' (by rw [hh, List.length_cons]; congr 1; omega) hi' (fun j y s hy hIs => by
        have := H (j + 1) y s (by simpa using hy) (by rw [← Nat.add_assoc, Nat.add_right_comm]; exact hIs)
        rw [show i + (j + 1) = i + 1 + j by omega] at this
        exact this)
      refine ⟨max N N', fun n hn => ?_⟩
      have h1 := hN n (by omega)
      rw [hg] at h1
      simp only [List.length_cons, forN, hlt, decide_true, cond_true, h1, run, hg]
      have := hN' n (by omega)
      simpa using this
    | inr r =>
      refine ⟨N, fun n hn => ?_⟩
      have h1 := hN n hn
      rw [hg] at h1
      simp only [List.length_cons, forN, hlt, decide_true, cond_true, h1, run, hg]
/-- a loop over a list, with an invariant -/
theorem Conv_forI {l : List α} {f : Int → σ → M (σ ⊕ ρ)} {fin : σ → ρ} {s : σ} (g : Nat → α → σ → σ ⊕ ρ) (I : Nat → σ → Prop) (hl : l.length ≤ 9223372036854775807) (h0 : I 0 s)
    (H : ∀ (i : Nat) x s, l[i]? = some x → I i s → Conv (f i s) (g i x s) ∧ ∀ s', g i x s = .inl s' → I (i + 1) s') : Conv (forI 0 (l.length : Int) fin f s) (run g fin 0 l s) := by
  obtain ⟨N, hN⟩ := Conv_forN (l := l) (f := f) g fin I (l.length : Int) l 0 s (by simp) h0 (fun j x s hx hI => by simpa using H j x s hx (by simpa using hI))
  refine ⟨N, fun n hn => ?_⟩
  have h1 : (l.length : Int) ≤ 9223372036854775807 := by omega
  simp only [forI, h1, decide_true, Bool.and_true, show (-9223372036854775808 : Int) ≤ 0 by decide, cond_true]
  have := hN n hn
  simpa using this
/-- .. without one -/
theorem Conv_forL {l : List α} {f : Int → σ → M (σ ⊕ ρ)} {fin : σ → ρ} {s : σ} (g : Nat → α → σ → σ ⊕ ρ) (hl : l.length ≤ 9223372036854775807)
    (H : ∀ (i : Nat) x s, l[i]? = some x → Conv (f i s) (g i x s)) : Conv (forI 0 (l.length : Int) fin f s) (run g fin 0 l s) :=
  Conv_forI g (fun _ _ => True) hl trivial fun i x s hx _ => ⟨H i x s hx, fun _ _ => trivial⟩
theorem Conv.of {m : M α} {r r' : α} (h : Conv m r) (e : r = r') : Conv m r' := e ▸ h
theorem Conv_ite {b : Bool} {x y : M α} {r : α} (h1 : b = true → Conv x r) (h2 : b = false → Conv y r) : Conv (ite b x y) r := by
  cases b
  · exact h2 rfl
  · exact h1 rfl
theorem Conv_ite2 {b : Bool} {x y : M α} {r s : α} (h1 : b = true → Conv x r) (h2 : b = false → Conv y s) : Conv (ite b x y) (bif b then r else s) := by
  cases b
  · exact h2 rfl
  · exact h1 rfl
theorem Conv_guard {b : Bool} (h : b = true) : Conv (guard b) () := ⟨0, fun _ _ => by simp [guard, h]⟩
theorem Conv_upd {l : List α} {i : Nat} {x : α} (h : i < l.length) : Conv (upd l i x) (l.set i x) := ⟨0, fun _ _ => by simp [upd, h]⟩
theorem Conv_get {l : List α} {i : Int} {x : α} (h0 : 0 ≤ i) (h : l[i.toNat]? = some x) : Conv (idx l i) x := ⟨0, fun _ _ => by simp [idx, h0, h]⟩
/-- a value told in both ways of a test, then the rest -/
theorem Conv_bite {b : Bool} {x y : M α} {f : α → M β} {u v : α} {r : β} (h1 : b = true → Conv x u) (h2 : b = false → Conv y v) (g : Conv (f (bif b then u else v)) r) : Conv (bind (ite b x y) f) r :=
  Conv_bind (Conv_ite2 h1 h2) g

/-! searches: a loop that leaves at the first element of a kind -/
theorem run_all (p : α → Bool) (u : Unit ⊕ ρ) : ∀ (i : Nat) (l : List α), run (ρ := Unit ⊕ ρ) (fun _ x _ => bif p x then .inl () else .inr u) (fun s => .inl s) i l () = bif l.all p then .inl () else u
  | _, [] => rfl
  | i, x :: xs => by
    simp only [run, List.all_cons]
    cases p x
    · rfl
    · simpa using run_all p u (i + 1) xs
/-- 'for .. if not p x, return v' -/
theorem Conv_all {l : List α} {f : Int → Unit → M (Unit ⊕ (Unit ⊕ ρ))} (p : α → Bool) (v : ρ) (hl : l.length ≤ 9223372036854775807) (H : ∀ (i : Nat) x, l[i]? = some x → Conv (f i ()) (bif p x then .inl () else .inr (.inr v))) :
    Conv (forI 0 (l.length : Int) (fun s => .inl s) f ()) (bif l.all p then .inl () else .inr v) :=
  (Conv_forL (fun _ x _ => bif p x then .inl () else .inr (.inr v)) hl fun i x _ hx => H i x hx).of (run_all p (.inr v) 0 l)
/-- the same, where the element's place matters to the test -/
theorem run_allI (p : Nat → α → Bool) (u : Unit ⊕ ρ) : ∀ (i : Nat) (l : List α), run (ρ := Unit ⊕ ρ) (fun j x _ => bif p j x then .inl () else .inr u) (fun s => .inl s) i l () = bif (l.zipIdx i).all (fun q => p q.2 q.1) then .inl () else u
  | _, [] => rfl
  | i, x :: xs => by
    simp only [run, List.zipIdx_cons, List.all_cons]
    cases p i x
    · rfl
    · simpa using run_allI p u (i + 1) xs
theorem Conv_allI {l : List α} {f : Int → Unit → M (Unit ⊕ (Unit ⊕ ρ))} (p : Nat → α → Bool) (v : ρ) (hl : l.length ≤ 9223372036854775807) (H : ∀ (i : Nat) x, l[i]? = some x → Conv (f i ()) (bif p i x then .inl () else .inr (.inr v))) :
    Conv (forI 0 (l.length : Int) (fun s => .inl s) f ()) (bif (l.zipIdx 0).all (fun q => p q.2 q.1) then .inl () else .inr v) :=
  (Conv_forL (fun j x _ => bif p j x then .inl () else .inr (.inr v)) hl fun i x _ hx => H i x hx).of (run_allI p (.inr v) 0 l)
/-- 'for i .. if p x, return i' -/
theorem run_find (p : α → Bool) : ∀ (i : Nat) (l : List α), run (σ := Unit) (ρ := Unit ⊕ Int) (fun j x _ => bif p x then .inr (.inr (j : Int)) else .inl ()) (fun s => .inl s) i l () = match l.findIdx? p with
    | some j => .inr ((i + j : Nat) : Int)
    | none => .inl ()
  | _, [] => rfl
  | i, x :: xs => by
    simp only [run, List.findIdx?_cons]
    cases hp : p x
    · simp only [cond_false, run_find p (i + 1) xs, Bool.false_eq_true, if_false]
      cases xs.findIdx? p with
      | none => rfl
      | some j => simp only [Option.map_some]; congr 2; omega
    · simp
theorem Conv_find {l : List α} {f : Int → Unit → M (Unit ⊕ (Unit ⊕ Int))} (p : α → Bool) (hl : l.length ≤ 9223372036854775807) (H : ∀ (i : Nat) x, l[i]? = some x → Conv (f i ()) (bif p x then .inr (.inr (i : Int)) else .inl ())) :
    Conv (forI 0 (l.length : Int) (fun s => .inl s) f ()) (match l.findIdx? p with | some j => .inr (j : Int) | none => .inl ()) :=
  (Conv_forL (fun j x _ => bif p x then .inr (.inr (j : Int)) else .inl ()) hl fun i x _ hx => H i x hx).of (by rw [run_find]; simp)
/-- sums: each round turns what has been gathered -/
theorem run_fold (g : σ → α → σ) : ∀ (i : Nat) (l : List α) (s : σ), run (fun _ x s => .inl (g s x)) (fun s => s) i l s = l.foldl g s
  | _, [], _ => rfl
  | i, x :: xs, s => by simpa [run] using run_fold g (i + 1) xs (g s x)
theorem Conv_fold {l : List α} {f : Int → σ → M (σ ⊕ σ)} {s : σ} (g : σ → α → σ) (hl : l.length ≤ 9223372036854775807) (H : ∀ (i : Nat) x s, l[i]? = some x → Conv (f i s) (.inl (g s x))) :
    Conv (forI 0 (l.length : Int) (fun s => s) f s) (l.foldl g s) :=
  (Conv_forL (fun _ x s => .inl (g s x)) hl fun i x s hx => H i x s hx).of (run_fold g 0 l s)
theorem get_set_append {l r : List α} {x y : α} : (l ++ y :: r).set l.length x = l ++ x :: r := by simp
/-- a loop that fills a list of the same length, element by element -/
theorem run_fill (g : Nat → α → β) (z : β) : ∀ (i : Nat) (l : List α) (d : List β), d.length = i →
    run (fun j x s => .inl (s.set j (g j x))) (fun s => s) i l (d ++ List.replicate l.length z) = d ++ (l.zipIdx i).map (fun q => g q.2 q.1)
  | _, [], d, _ => by simp [run]
  | i, x :: xs, d, hd => by
    subst hd
    simp only [run, List.length_cons, List.replicate_succ, get_set_append]
    have := run_fill g z (d.length + 1) xs (d ++ [g d.length x]) (by simp)
    simp only [List.append_assoc, List.singleton_append] at this
    rw [this]
    simp
theorem Conv_fill {l : List α} {f : Int → List β → M (List β ⊕ List β)} (g : Nat → α → β) (z : β) (hl : l.length ≤ 9223372036854775807)
    (H : ∀ (i : Nat) x s, l[i]? = some x → s.length = l.length → Conv (f i s) (.inl (s.set i (g i x)))) :
    Conv (forI 0 (l.length : Int) (fun s => s) f (List.replicate l.length z)) ((l.zipIdx 0).map (fun q => g q.2 q.1)) := by
  refine (Conv_forI (fun j x s => .inl (s.set j (g j x))) (fun _ s => s.length = l.length) hl (by simp) fun i x s hx hI => ⟨H i x s hx hI, fun s' e => ?_⟩).of ?_
  · cases e; simpa using hI
  · simpa using run_fill g z 0 l [] rfl
theorem zipIdx_map_fst {l : List α} {g : α → β} {i : Nat} : ((l.zipIdx i).map fun q => g q.1) = l.map g := by
  have h : List.map (g ∘ Prod.fst) (l.zipIdx i) = List.map g l := by rw [← List.map_map, List.zipIdx_map_fst]
  exact h
theorem findIdx_any {l : List α} {p : α → Bool} : (decide ((0:Int) ≤ match l.findIdx? p with | some j => (j : Int) | none => -1)) = l.any p := by
  cases h : l.findIdx? p with
  | none => rw [List.findIdx?_eq_none_iff] at h; simp; exact fun x hx => by simpa using h x hx
  | some j =>
    obtain ⟨hj, hp, _⟩ := List.findIdx?_eq_some_iff_getElem.1 h
    simp
    exact ⟨_, List.getElem_mem hj, hp⟩
end M
def finB (x : Int) : Bool := decide (-1000000 ≤ x) && decide (x ≤ 1000000)
def valB (x : Int) : Bool := x == (-1000000000000000) || finB x
theorem spec_l01In_ok (x lo hi : Int) : M.Conv (spec_l01In x lo hi) (decide (lo ≤ x) && decide (x ≤ hi)) := M.Conv_ret _
theorem spec_l01Finite_ok (x : Int) : M.Conv (spec_l01Finite x) (finB x) := M.Conv_bind (spec_l01In_ok _ _ _) (M.Conv_ret _)
theorem spec_IsValue_ok (x : Int) : M.Conv (spec_IsValue x) (valB x) := by
  unfold spec_IsValue
  refine M.Conv_bind (M.Conv_ite (r := valB x) (fun h => ?_) (fun h => ?_)) (M.Conv_ret _)
  · simp only [valB, h, Bool.true_or]; exact M.Conv_ret _
  · simp only [valB, h, Bool.false_or]; exact M.Conv_bind (spec_l01Finite_ok x) (M.Conv_ret _)
theorem spec_l01All_ok {l : List Int} (f : Bool) (hl : l.length ≤ 9223372036854775807) : M.Conv (spec_l01All l f) (l.all fun x => valB x && !(f && x == (-1000000000000000))) := by
  unfold spec_l01All
  refine M.Conv_bind (M.Conv_all (fun x => valB x && !(f && x == (-1000000000000000))) false hl fun i x hx => ?_) ?_
  · refine M.Conv_bind (M.Conv_get (by omega) (by simpa using hx)) (M.Conv_bind (spec_IsValue_ok x) ?_)
    refine M.Conv_bind (x := !(valB x && !(f && x == (-1000000000000000)))) (M.Conv_ite (fun h => ?_) (fun h => ?_)) ?_
    · simp at h; simp [h]; exact M.Conv_ret _
    · simp at h
      refine M.Conv_bind (x := (f && x == (-1000000000000000))) (M.Conv_ite (fun h => ?_) (fun h => ?_)) (by simp [h]; exact M.Conv_ret _)
      · simp [h]; exact M.Conv_bind (M.Conv_get (by omega) (by simpa using hx)) (M.Conv_ret _)
      · simp [h]; exact M.Conv_ret _
    · cases (valB x && !(f && x == (-1000000000000000))) <;> exact M.Conv_ret _
  · cases (l.all fun x => valB x && !(f && x == (-1000000000000000))) <;> exact M.Conv_ret _
theorem impl_within_ok (x lo hi : Int) : M.Conv (impl_within x lo hi) (decide (lo ≤ x) && decide (x ≤ hi)) := M.Conv_ret _
theorem impl_isFinite_ok (x : Int) : M.Conv (impl_isFinite x) (finB x) := M.Conv_bind (impl_within_ok _ _ _) (M.Conv_ret _)
theorem impl_IsValue_ok (x : Int) : M.Conv (impl_IsValue x) (valB x) := by
  unfold impl_IsValue
  refine M.Conv_bind (M.Conv_ite (r := valB x) (fun h => ?_) (fun h => ?_)) (M.Conv_ret _)
  · simp only [valB, h, Bool.true_or]; exact M.Conv_ret _
  · simp only [valB, h, Bool.false_or]; exact M.Conv_bind (impl_isFinite_ok x) (M.Conv_ret _)
/-- 'slices.ContainsFunc', behind 'slices.IndexFunc' -/
theorem contains_ok {α : Type} {l : List α} {f : Int → Unit → M (Unit ⊕ (Unit ⊕ Int))} (p : α → Bool) (hl : l.length ≤ 9223372036854775807) (H : ∀ (i : Nat) x, l[i]? = some x → M.Conv (f i ()) (bif p x then .inr (.inr (i : Int)) else .inl ())) :
    M.Conv (M.bind (M.bind (M.forI 0 (l.length : Int) (fun s => .inl s) f ()) (fun x1 => M.cont x1 (fun _ => M.ret (-1)) (fun r => M.ret r))) (fun x1 => M.ret (decide (0 ≤ x1)))) (l.any p) := by
  rw [← M.findIdx_any]
  refine M.Conv_bind (M.Conv_bind (M.Conv_find p hl H) ?_) (M.Conv_ret _)
  cases l.findIdx? p <;> exact M.Conv_ret _
theorem any_not {α : Type} {l : List α} {p : α → Bool} : (!l.any fun x => !p x) = l.all p := by
  induction l with
  | nil => rfl
  | cons x xs ih => simp only [List.any_cons, List.all_cons, Bool.not_or, Bool.not_not, ih]
theorem impl_areValues_ok {l : List Int} (hl : l.length ≤ 9223372036854775807) : M.Conv (impl_areValues l) (l.all valB) := by
  unfold impl_areValues slices_ContainsFunc_int_F_impl_areValues_1 slices_IndexFunc_int_F_impl_areValues_1
  refine M.Conv_bind (contains_ok (fun x => !valB x) hl fun i x hx => ?_) ((M.Conv_ret _).of any_not)
  refine M.Conv_bind (M.Conv_get (by omega) (by simpa using hx)) ?_
  refine M.Conv_bind (x := !valB x) (M.Conv_bind (impl_IsValue_ok x) (M.Conv_ret _)) ?_
  cases valB x <;> exact M.Conv_ret _
theorem mx_eq (a b : Int) : mx a b = max a b := by unfold mx; split <;> omega
def smI (l : List Int) : Prop := l.length ≤ 1099511627776
theorem finB_bd {x : Int} (h : finB x = true) : -1000000 ≤ x ∧ x ≤ 1000000 := by simpa [finB] using h
theorem val_ne {x : Int} (h : valB x = true) (hn : (x == (-1000000000000000)) = false) : finB x = true := by simpa [valB, hn] using h
/-- two programs, one answer -/
def Two {α : Type} (m m' : M α) (Post : α → Prop) : Prop := ∃ r, M.Conv m r ∧ M.Conv m' r ∧ Post r
theorem Two.ret {α : Type} {Post : α → Prop} (r : α) (p : Post r) : Two (M.ret r) (M.ret r) Post := ⟨r, M.Conv_ret _, M.Conv_ret _, p⟩
theorem Two.bind {α β : Type} {m m' : M α} {f f' : α → M β} {P : α → Prop} {Q : β → Prop} (h : Two m m' P) (g : ∀ x, P x → Two (f x) (f' x) Q) : Two (M.bind m f) (M.bind m' f') Q := by
  obtain ⟨x, h1, h2, p⟩ := h
  obtain ⟨r, g1, g2, q⟩ := g x p
  exact ⟨r, M.Conv_bind h1 g1, M.Conv_bind h2 g2, q⟩
theorem Two.left {α β : Type} {m : M α} {m' : M β} {f : α → M β} {Q : β → Prop} {x : α} (h : M.Conv m x) (g : Two (f x) m' Q) : Two (M.bind m f) m' Q := by
  obtain ⟨r, g1, g2, q⟩ := g
  exact ⟨r, M.Conv_bind h g1, g2, q⟩
theorem Two.right {α β : Type} {m : M α} {m' : M β} {f : α → M β} {Q : β → Prop} {x : α} (h : M.Conv m x) (g : Two m' (f x) Q) : Two m' (M.bind m f) Q := by
  obtain ⟨r, g1, g2, q⟩ := g
  exact ⟨r, g1, M.Conv_bind h g2, q⟩
theorem Two.ite {α : Type} {b : Bool} {x y x' y' : M α} {Q : α → Prop} (h1 : b = true → Two x x' Q) (h2 : b = false → Two y y' Q) : Two (M.ite b x y) (M.ite b x' y') Q := by
  cases b
  · exact h2 rfl
  · exact h1 rfl
theorem Two.iteL {α : Type} {b : Bool} {x y m' : M α} {Q : α → Prop} (h1 : b = true → Two x m' Q) (h2 : b = false → Two y m' Q) : Two (M.ite b x y) m' Q := by
  cases b
  · exact h2 rfl
  · exact h1 rfl
theorem Two.iteR {α : Type} {b : Bool} {x y m' : M α} {Q : α → Prop} (h1 : b = true → Two m' x Q) (h2 : b = false → Two m' y Q) : Two m' (M.ite b x y) Q := by
  cases b
  · exact h2 rfl
  · exact h1 rfl
theorem two_forN {σ ρ : Type} {hi : Int} {fin : σ → ρ} {f f' : Int → σ → M (σ ⊕ ρ)} {Post : ρ → Prop} (I : Int → σ → Prop) (lo : Int)
    (round : ∀ i s, lo ≤ i → i < hi → I i s → Two (f i s) (f' i s) fun y => (∃ s', y = .inl s' ∧ I (i + 1) s') ∨ (∃ r, y = .inr r ∧ Post r)) :
    ∀ (d : Nat) (i : Int) (s : σ), (hi - i).toNat = d → lo ≤ i → (i ≤ hi ∨ i = lo) → I i s → (∀ i s, (i = hi ∨ i = lo ∧ hi ≤ lo) → I i s → Post (fin s)) → ∃ r, (∃ N, ∀ n, N ≤ n → M.forN hi fin f n d i s = some r) ∧ (∃ N, ∀ n, N ≤ n → M.forN hi fin f' n d i s = some r) ∧ Post r
  | 0, i, s, hd, h1, h2, hI, fi => by
    have hge : ¬ i < hi := by omega
    exact ⟨fin s, ⟨0, fun n _ => by simp [M.forN, hge]⟩, ⟨0, fun n _ => by simp [M.forN, hge]⟩, fi i s (by omega) hI⟩
  | d + 1, i, s, hd, h1, h2, hI, fi => by
    have hlt : i < hi := by omega
    obtain ⟨y, ⟨N, hy⟩, ⟨N', hy'⟩, hc⟩ := round i s h1 hlt hI
    rcases hc with ⟨s', rfl, hI'⟩ | ⟨r, rfl, hp⟩
    · obtain ⟨r, ⟨N1, h3⟩, ⟨N2, h4⟩, hp⟩ := two_forN (fin := fin) I lo round d (i + 1) s' (by omega) (by omega) (by omega) hI' fi
      exact ⟨r, ⟨max N N1, fun n hn => by simp [M.forN, hlt, hy n (by omega), h3 n (by omega)]⟩, ⟨max N' N2, fun n hn => by simp [M.forN, hlt, hy' n (by omega), h4 n (by omega)]⟩, hp⟩
    · exact ⟨r, ⟨N, fun n hn => by simp [M.forN, hlt, hy n hn]⟩, ⟨N', fun n hn => by simp [M.forN, hlt, hy' n hn]⟩, hp⟩
theorem Two.for {σ ρ : Type} {lo hi : Int} {fin : σ → ρ} {f f' : Int → σ → M (σ ⊕ ρ)} {s : σ} {Post : ρ → Prop} (I : Int → σ → Prop) (hlo : -9223372036854775808 ≤ lo) (hhi : hi ≤ 9223372036854775807) (h0 : I lo s)
    (round : ∀ i s, lo ≤ i → i < hi → I i s → Two (f i s) (f' i s) fun y => (∃ s', y = .inl s' ∧ I (i + 1) s') ∨ (∃ r, y = .inr r ∧ Post r)) (done : ∀ i s, (i = hi ∨ i = lo ∧ hi ≤ lo) → I i s → Post (fin s)) :
    Two (M.forI lo hi fin f s) (M.forI lo hi fin f' s) Post := by
  obtain ⟨r, ⟨N, h1⟩, ⟨N', h2⟩, hp⟩ := two_forN (fin := fin) I lo round _ lo s rfl (Int.le_refl _) (.inr rfl) h0 done
  exact ⟨r, ⟨N, fun n hn => by simp [M.forI, hlo, hhi, h1 n hn]⟩, ⟨N', fun n hn => by simp [M.forI, hlo, hhi, h2 n hn]⟩, hp⟩
def timesI (a b : Int) : Int := bif (a == (-1000000000000000)) || (b == (-1000000000000000)) then (-1000000000000000) else w64 (a + b)
theorem impl_times_ok (a b : Int) : M.Conv (impl_times a b) (timesI a b) := M.Conv_ite2 (fun _ => M.Conv_ret _) (fun _ => M.Conv_ret _)
/-- a vector: one to ten values -/
def vecB (x : List Int) : Bool := decide (1 ≤ x.length) && decide (x.length ≤ 10) && x.all valB
theorem spec_l02Vector_ok {x : List Int} (hl : x.length ≤ 9223372036854775807) : M.Conv (spec_l02Vector x) (vecB x) := by
  unfold spec_l02Vector
  refine M.Conv_bind (spec_l01In_ok _ _ _) (M.Conv_bind (x := vecB x) (M.Conv_ite (fun h => ?_) (fun h => ?_)) (M.Conv_ret _))
  · refine M.Conv_bind (spec_l01All_ok false hl) ((M.Conv_ret _).of ?_)
    simp at h
    simp [vecB, show 1 ≤ x.length by omega, show x.length ≤ 10 by omega]
  · refine (M.Conv_ret _).of ?_
    simp only [vecB]
    rw [show (decide (1 ≤ x.length) && decide (x.length ≤ 10)) = false by rw [← h]; congr 1 <;> simp <;> omega]; rfl
theorem impl_isVector_ok {x : List Int} (hl : x.length ≤ 9223372036854775807) : M.Conv (impl_isVector x) (vecB x) := by
  unfold impl_isVector
  refine M.Conv_bind (impl_within_ok _ _ _) (M.Conv_bind (x := vecB x) (M.Conv_ite (fun h => ?_) (fun h => ?_)) (M.Conv_ret _))
  · refine M.Conv_bind (impl_areValues_ok hl) ((M.Conv_ret _).of ?_)
    simp at h
    simp [vecB, show 1 ≤ x.length by omega, show x.length ≤ 10 by omega]
  · refine (M.Conv_ret _).of ?_
    simp only [vecB]
    rw [show (decide (1 ≤ x.length) && decide (x.length ≤ 10)) = false by rw [← h]; congr 1 <;> simp <;> omega]; rfl
theorem Two.ofConv {α : Type} {m m' : M α} {P : α → Prop} {r : α} (h : M.Conv m r) (h' : M.Conv m' r) (p : P r) : Two m m' P := ⟨r, h, h', p⟩
/-- 'for i < len(l)', the counter a variable; a round may leave -/
def runO {α ρ : Type} (g : Nat → α → Option ρ) (e : ρ) : Nat → List α → ρ
  | _, [] => e
  | i, x :: xs => match g i x with | none => runO g e (i + 1) xs | some r => r
theorem Conv_while {α ρ : Type} {l : List α} {f : Int → M (Int ⊕ ρ)} (g : Nat → α → Option ρ) (e : ρ) (step : ∀ (i : Nat) x, l[i]? = some x → M.Conv (f i) (match g i x with | none => .inl ((i : Int) + 1) | some r => .inr r)) (stop : M.Conv (f (l.length : Int)) (.inr e)) :
    M.Conv (M.loop f 0) (runO g e 0 l) := by
  have key : ∀ (xs : List α) (i : Nat), (∀ (j : Nat) x, xs[j]? = some x → M.Conv (f (i + j : Nat)) (match g (i + j) x with | none => .inl (((i + j : Nat) : Int) + 1) | some r => .inr r)) → M.Conv (f (i + xs.length : Nat)) (.inr e) →
      ∃ N m0, ∀ n, N ≤ n → ∀ m, m0 ≤ m → M.loopN f n m (i : Int) = some (runO g e i xs) := by
    intro xs
    induction xs with
    | nil =>
      intro i _ ⟨N, h⟩
      refine ⟨N, 1, fun n hn m hm => ?_⟩
      obtain ⟨m, rfl⟩ : ∃ q, m = q + 1 := ⟨m - 1, by omega⟩
      have := h n hn
      simp only [List.length_nil, Nat.add_zero] at this
      simp [M.loopN, this, runO]
    | cons x xs ih =>
      intro i hs hst
      obtain ⟨N, h⟩ := hs 0 x rfl
      simp only [Nat.add_zero] at h
      cases hg : g i x with
      | none =>
        obtain ⟨N', m0, h'⟩ := ih (i + 1) (fun j y hy => by have := hs (j + 1) y (by simpa using hy); rw [show i + (j + 1) = i + 1 + j by omega] at this; exact this) (by rw [show i + 1 + xs.length = i + (x :: xs).length by simp; omega]; exact hst)
        refine ⟨max N N', m0 + 1, fun n hn m hm => ?_⟩
        obtain ⟨m, rfl⟩ : ∃ q, m = q + 1 := ⟨m - 1, by omega⟩
        have h1 := h n (by omega)
        rw [hg] at h1
        simp only [M.loopN, h1, runO, hg]
        exact h' n (by omega) m (by omega)
      | some r =>
        refine ⟨N, 1, fun n hn m hm => ?_⟩
        obtain ⟨m, rfl⟩ : ∃ q, m = q + 1 := ⟨m - 1, by omega⟩
        have h1 := h n hn
        rw [hg] at h1
        simp only [M.loopN, h1, runO, hg]
  obtain ⟨N, m0, h⟩ := key l 0 (fun j x hx => by simpa using step j x hx) (by simpa using stop)
  exact ⟨max N m0, fun n hn => h n (by omega) n (by omega)⟩
def smII (a : List (List Int)) : Prop := a.length ≤ 1048576 ∧ ∀ r ∈ a, r.length ≤ 1048576
def widthN (a : List (List Int)) : Nat := (a.headD []).length
def matB (a : List (List Int)) : Bool := (decide (1 ≤ a.length) && decide (a.length ≤ 10)) && ((decide (1 ≤ widthN a) && decide (widthN a ≤ 10)) && a.all fun r => decide (r.length = widthN a) && r.all valB)
/-- a matrix of w columns -/
structure Mat (a : List (List Int)) (w : Nat) : Prop where
  rows : 1 ≤ a.length ∧ a.length ≤ 10
  cols : 1 ≤ w ∧ w ≤ 10
  row : ∀ r ∈ a, r.length = w ∧ ∀ x ∈ r, valB x = true
theorem matB_mat {a : List (List Int)} (h : matB a = true) : Mat a (widthN a) := by
  simp only [matB, Bool.and_eq_true, decide_eq_true_eq, List.all_eq_true] at h
  exact ⟨h.1, h.2.1, fun r hr => ⟨(h.2.2 r hr).1, (h.2.2 r hr).2⟩⟩
theorem Mat.head {a : List (List Int)} {w : Nat} (h : Mat a w) : ∃ r, a[0]? = some r ∧ r.length = w := by
  have := h.rows
  exact ⟨a[0], List.getElem?_eq_getElem (by omega), (h.row _ (List.getElem_mem (by omega))).1⟩
theorem spec_IsMatrix_ok {a : List (List Int)} (h : smII a) : M.Conv (spec_IsMatrix a) (matB a) := by
  unfold spec_IsMatrix
  have hl := h.1
  refine M.Conv_ite (fun q => (M.Conv_ret _).of ?_) (fun q => ?_)
  · simp only [Bool.or_eq_true, decide_eq_true_eq] at q
    have : (decide (1 ≤ a.length) && decide (a.length ≤ 10)) = false := by
      rcases q with q | q
      · rw [decide_eq_false (show ¬ 1 ≤ a.length by omega)]; rfl
      · rw [decide_eq_false (show ¬ a.length ≤ 10 by omega)]; simp
    simp [matB, this]
  · simp only [Bool.or_eq_false_iff, decide_eq_false_iff_not] at q
    obtain ⟨r0, rs, rfl⟩ := List.exists_cons_of_ne_nil (l := a) (by rintro rfl; simp at q)
    refine M.Conv_bind (M.Conv_all (fun r => vecB r && decide (r.length = r0.length)) false (by omega) fun i r hr => ?_) ?_
    · have hrl := h.2 r (List.mem_of_getElem? hr)
      have hg : M.Conv (M.idx (r0 :: rs) i) r := M.Conv_get (by omega) (by simpa using hr)
      refine M.Conv_bind hg (M.Conv_bind (spec_l02Vector_ok (by omega)) (M.Conv_bind (x := !(vecB r && decide (r.length = r0.length))) (M.Conv_ite (fun b => ?_) (fun b => ?_)) ?_))
      · simp only [Bool.not_eq_true'] at b; rw [b]; exact M.Conv_ret _
      · simp only [Bool.not_eq_false'] at b
        rw [b]
        refine M.Conv_bind hg (M.Conv_bind (M.Conv_get (x := r0) (by omega) rfl) ((M.Conv_ret _).of ?_))
        simp only [Bool.true_and, bne]
        congr 1
        rw [Bool.eq_iff_iff]; simp; omega
      · cases (vecB r && decide (r.length = r0.length)) <;> exact M.Conv_ret _
    · have e : matB (r0 :: rs) = (r0 :: rs).all fun r => vecB r && decide (r.length = r0.length) := by
        have L : matB (r0 :: rs) = true ↔ ((1 ≤ (r0 :: rs).length ∧ (r0 :: rs).length ≤ 10) ∧ ((1 ≤ r0.length ∧ r0.length ≤ 10) ∧ ∀ r ∈ r0 :: rs, r.length = r0.length ∧ r.all valB = true)) := by
          have e0 : matB (r0 :: rs) = ((decide (1 ≤ (r0 :: rs).length) && decide ((r0 :: rs).length ≤ 10)) && ((decide (1 ≤ r0.length) && decide (r0.length ≤ 10)) && (r0 :: rs).all fun r => decide (r.length = r0.length) && r.all valB)) := rfl
          rw [e0, Bool.and_eq_true, Bool.and_eq_true, Bool.and_eq_true, Bool.and_eq_true, List.all_eq_true]
          simp only [decide_eq_true_eq, Bool.and_eq_true]
        have R : ∀ r : List Int, (vecB r && decide (r.length = r0.length)) = true ↔ ((1 ≤ r.length ∧ r.length ≤ 10) ∧ r.all valB = true) ∧ r.length = r0.length := by
          intro r
          unfold vecB
          simp only [Bool.and_eq_true, decide_eq_true_eq]
        rw [Bool.eq_iff_iff, List.all_eq_true, L]
        constructor
        · rintro ⟨_, ⟨h1, h2⟩, h3⟩ r hr
          obtain ⟨e1, e2⟩ := h3 r hr
          exact (R r).2 ⟨⟨⟨by omega, by omega⟩, e2⟩, e1⟩
        · intro hh
          obtain ⟨⟨⟨e1, e2⟩, _⟩, _⟩ := (R r0).1 (hh r0 List.mem_cons_self)
          exact ⟨⟨by omega, by omega⟩, ⟨e1, e2⟩, fun r hr => ⟨((R r).1 (hh r hr)).2, ((R r).1 (hh r hr)).1.2⟩⟩
      rw [e]
      cases ((r0 :: rs).all fun r => vecB r && decide (r.length = r0.length)) <;> exact M.Conv_ret _
theorem impl_IsMatrix_ok {a : List (List Int)} (h : smII a) : M.Conv (impl_IsMatrix a) (matB a) := by
  unfold impl_IsMatrix slices_ContainsFunc_row_F_impl_IsMatrix_1 slices_IndexFunc_row_F_impl_IsMatrix_1
  have hl := h.1
  refine M.Conv_bind (impl_within_ok _ _ _) ?_
  have e0 : (decide (1 ≤ (a.length : Int)) && decide ((a.length : Int) ≤ 10)) = (decide (1 ≤ a.length) && decide (a.length ≤ 10)) := by
    rw [decide_eq_decide.2 (show (1 : Int) ≤ a.length ↔ 1 ≤ a.length by omega), decide_eq_decide.2 (show (a.length : Int) ≤ 10 ↔ a.length ≤ 10 by omega)]
  rw [e0]
  cases hb : (decide (1 ≤ a.length) && decide (a.length ≤ 10)) with
  | false => exact M.Conv_bind (x := true) (M.Conv_ret _) ((M.Conv_ret _).of (by simp [matB, hb]))
  | true =>
    simp only [Bool.and_eq_true, decide_eq_true_eq] at hb
    obtain ⟨r0, rs, rfl⟩ := List.exists_cons_of_ne_nil (l := a) (by rintro rfl; simp at hb)
    have e1 : (decide (1 ≤ (r0.length : Int)) && decide ((r0.length : Int) ≤ 10)) = (decide (1 ≤ widthN (r0 :: rs)) && decide (widthN (r0 :: rs) ≤ 10)) := by
      rw [decide_eq_decide.2 (show (1 : Int) ≤ r0.length ↔ 1 ≤ r0.length by omega), decide_eq_decide.2 (show (r0.length : Int) ≤ 10 ↔ r0.length ≤ 10 by omega)]; rfl
    refine M.Conv_bind (x := !(decide (1 ≤ widthN (r0 :: rs)) && decide (widthN (r0 :: rs) ≤ 10))) (M.Conv_ite (fun q => by simp at q) (fun _ => M.Conv_bind (M.Conv_get (x := r0) (by omega) rfl) (M.Conv_bind (impl_within_ok _ _ _) ((M.Conv_ret _).of (by rw [e1]))))) ?_
    have e2 : matB (r0 :: rs) = ((decide (1 ≤ widthN (r0 :: rs)) && decide (widthN (r0 :: rs) ≤ 10)) && (r0 :: rs).all fun r => decide (r.length = widthN (r0 :: rs)) && r.all valB) := by
      simp only [matB, decide_eq_true hb.1, decide_eq_true hb.2, Bool.true_and]
    rw [e2]
    cases (decide (1 ≤ widthN (r0 :: rs)) && decide (widthN (r0 :: rs) ≤ 10)) with
    | false => exact M.Conv_ret _
    | true =>
      refine M.Conv_ite (fun q => by simp at q) (fun _ => ?_)
      refine M.Conv_bind (contains_ok (fun r => !(decide (r.length = widthN (r0 :: rs)) && r.all valB)) (by omega) fun i r hr => ?_) ((M.Conv_ret _).of (by rw [any_not, Bool.true_and]))
      have hrl := h.2 r (List.mem_of_getElem? hr)
      refine M.Conv_bind (M.Conv_get (by omega) (by simpa using hr)) (M.Conv_bind (x := !(decide (r.length = widthN (r0 :: rs)) && r.all valB)) (M.Conv_bind (M.Conv_get (x := r0) (by omega) rfl) (M.Conv_bind (x := !(decide (r.length = widthN (r0 :: rs)) && r.all valB)) (M.Conv_ite (fun q => ?_) (fun q => ?_)) (M.Conv_ret _))) ?_)
      · have : r.length ≠ widthN (r0 :: rs) := fun e => by rw [show r.length = r0.length from e] at q; simp at q
        rw [decide_eq_false this]; exact M.Conv_ret _
      · have : r.length = widthN (r0 :: rs) := Int.ofNat.inj (show (r.length : Int) = r0.length by simpa using q)
        rw [decide_eq_true this]; exact M.Conv_bind (impl_areValues_ok (by omega)) (M.Conv_ret _)
      · cases (decide (r.length = widthN (r0 :: rs)) && r.all valB) <;> exact M.Conv_ret _

def foldI {α σ : Type} (g : Nat → α → σ → σ) : Nat → List α → σ → σ
  | _, [], s => s
  | i, x :: xs, s => foldI g (i + 1) xs (g i x s)
theorem run_foldI {α σ ρ : Type} (g : Nat → α → σ → σ) (fin : σ → ρ) : ∀ (l : List α) (i : Nat) (s : σ), M.run (fun i x s => .inl (g i x s)) fin i l s = fin (foldI g i l s)
  | [], _, _ => rfl
  | x :: xs, i, s => by simp only [M.run, foldI]; exact run_foldI g fin xs (i + 1) (g i x s)
theorem Conv_foldI {α σ : Type} {l : List α} {f : Int → σ → M (σ ⊕ σ)} {s : σ} (g : Nat → α → σ → σ) (I : Nat → σ → Prop) (hl : l.length ≤ 9223372036854775807) (h0 : I 0 s) (H : ∀ (i : Nat) x s, l[i]? = some x → I i s → M.Conv (f i s) (.inl (g i x s)) ∧ I (i + 1) (g i x s)) :
    M.Conv (M.forI 0 (l.length : Int) (fun s => s) f s) (foldI g 0 l s) :=
  (M.Conv_forI (fun i x s => .inl (g i x s)) I hl h0 fun i x s hx hI => ⟨(H i x s hx hI).1, fun s' e => by cases e; exact (H i x s hx hI).2⟩).of (run_foldI g _ l 0 s)
theorem foldI_inv {α σ : Type} (g : Nat → α → σ → σ) (I : Nat → σ → Prop) : ∀ (l : List α) (i : Nat) (s : σ), I i s → (∀ j x s, x ∈ l → I j s → I (j + 1) (g j x s)) → I (i + l.length) (foldI g i l s)
  | [], _, _, h, _ => h
  | x :: xs, i, s, h, H => by
    have := foldI_inv g I xs (i + 1) (g i x s) (H i x s List.mem_cons_self h) (fun j y s hy => H j y s (List.mem_cons_of_mem _ hy))
    rw [List.length_cons, show i + (xs.length + 1) = i + 1 + xs.length by omega]; exact this
/-- a loop whose state has a counter -/
theorem Conv_whileS {σ ρ : Type} {n : Nat} {f : σ × Int → M ((σ × Int) ⊕ ρ)} (g : Nat → σ → σ) (I : Nat → σ → Prop) (e : σ → ρ) (s0 : σ) (h0 : I 0 s0)
    (step : ∀ i s, i < n → I i s → M.Conv (f (s, (i : Int))) (.inl (g i s, (i : Int) + 1)) ∧ I (i + 1) (g i s)) (stop : ∀ s, I n s → M.Conv (f (s, (n : Int))) (.inr (e s))) : ∃ s, I n s ∧ M.Conv (M.loop f (s0, 0)) (e s) := by
  have key : ∀ (d i : Nat) (s : σ), i + d = n → I i s → ∃ s', I n s' ∧ ∃ N m0, ∀ k, N ≤ k → ∀ m, m0 ≤ m → M.loopN f k m (s, (i : Int)) = some (e s') := by
    intro d
    induction d with
    | zero =>
      intro i s hi hI
      obtain rfl : i = n := by omega
      obtain ⟨N, h⟩ := stop s hI
      refine ⟨s, hI, N, 1, fun k hk m hm => ?_⟩
      obtain ⟨m, rfl⟩ : ∃ q, m = q + 1 := ⟨m - 1, by omega⟩
      simp [M.loopN, h k hk]
    | succ d ih =>
      intro i s hi hI
      obtain ⟨⟨N, h⟩, hI'⟩ := step i s (by omega) hI
      obtain ⟨s', hs', N', m0, h'⟩ := ih (i + 1) (g i s) (by omega) hI'
      refine ⟨s', hs', max N N', m0 + 1, fun k hk m hm => ?_⟩
      obtain ⟨m, rfl⟩ : ∃ q, m = q + 1 := ⟨m - 1, by omega⟩
      simp only [M.loopN, h k (by omega)]
      have := h' k (by omega) m (by omega)
      simpa using this
  obtain ⟨s, hs, N, m0, h⟩ := key n 0 s0 (by omega) h0
  exact ⟨s, hs, max N m0, fun k hk => h k (by omega) k (by omega)⟩
theorem Conv_whileV {σ ρ : Type} {n : Nat} {f : σ × Int → M ((σ × Int) ⊕ ρ)} (val : Nat → σ) (r : ρ) (step : ∀ (i : Nat), i < n → M.Conv (f (val i, (i : Int))) (.inl (val (i + 1), (i : Int) + 1))) (stop : M.Conv (f (val n, (n : Int))) (.inr r)) : M.Conv (M.loop f (val 0, 0)) r := by
  obtain ⟨s, _, h⟩ := Conv_whileS (n := n) (f := f) (fun i _ => val (i + 1)) (fun i s => s = val i) (fun _ => r) (val 0) rfl (fun i s hi hs => by subst hs; exact ⟨step i hi, rfl⟩) (fun s hs => by subst hs; exact stop)
  exact h
/-- what one row says of the least difference in column j -/
def quoC (b : List Int) (i : Nat) (v : Int) : Int := bif ((b[i]?).getD 0) == (-1000000000000000) then (-1000000000000000) else w64 ((b[i]?).getD 0 - v)
def stepC (b : List Int) (j : Nat) (i : Nat) (row : List Int) (s : Int × Bool) : Int × Bool :=
  bif ((row[j]?).getD 0) == (-1000000000000000) then s else bif !s.2 || decide (quoC b i ((row[j]?).getD 0) < s.1) then (quoC b i ((row[j]?).getD 0), true) else s
def colS (a : List (List Int)) (b : List Int) (j : Nat) : Int × Bool := foldI (stepC b j) 0 a (0, false)
theorem stepC_snd (b : List Int) (j i : Nat) (row : List Int) (s : Int × Bool) : (stepC b j i row s).2 = (s.2 || (((row[j]?).getD 0) != (-1000000000000000))) := by
  unfold stepC
  simp only [bne]
  cases ((row[j]?).getD 0) == (-1000000000000000) with
  | true => simp
  | false =>
    cases hs : s.2 with
    | false => simp
    | true =>
      simp only [cond_false, Bool.not_true, Bool.false_or]
      cases decide (quoC b i ((row[j]?).getD 0) < s.1) <;> simp [hs]
theorem colS_found (a : List (List Int)) (b : List Int) (j : Nat) : (colS a b j).2 = a.any fun r => ((r[j]?).getD 0) != (-1000000000000000) := by
  have key : ∀ (l : List (List Int)) (i : Nat) (s : Int × Bool), (foldI (stepC b j) i l s).2 = (s.2 || l.any fun r => ((r[j]?).getD 0) != (-1000000000000000)) := by
    intro l
    induction l with
    | nil => intro i s; simp [foldI]
    | cons r rs ih => intro i s; rw [foldI, ih, stepC_snd, List.any_cons, Bool.or_assoc]
  simpa [colS] using key a 0 (0, false)
/-- differences of values lie in a narrow band, or are Bottom -/
def bandB (x : Int) : Prop := x = -1000000000000000 ∨ (-2000000 ≤ x ∧ x ≤ 2000000)
theorem val_cases {x : Int} (h : valB x = true) : x = -1000000000000000 ∨ (-1000000 ≤ x ∧ x ≤ 1000000) := by
  cases hb : (x == (-1000000000000000)) with
  | true => left; simpa using hb
  | false => right; exact finB_bd (val_ne h hb)
theorem colS_band {a : List (List Int)} {b : List Int} {w j : Nat} (hm : Mat a w) (hj : j < w) (hb : ∀ x ∈ b, valB x = true) : bandB (colS a b j).1 := by
  have := foldI_inv (stepC b j) (fun _ s => bandB s.1) a 0 (0, false) (.inr ⟨by decide, by decide⟩) (fun i row s hr hs => by
    unfold stepC
    obtain ⟨e1, e2⟩ := hm.row row hr
    have hv : valB ((row[j]?).getD 0) = true := by rw [List.getElem?_eq_getElem (by omega)]; exact e2 _ (List.getElem_mem _)
    cases hrb : ((row[j]?).getD 0) == (-1000000000000000) with
    | true => exact hs
    | false =>
      have hrv := finB_bd (val_ne hv hrb)
      have hq : bandB (quoC b i ((row[j]?).getD 0)) := by
        unfold quoC
        cases hbb : ((b[i]?).getD 0) == (-1000000000000000) with
        | true => exact .inl rfl
        | false =>
          have hbv : -1000000 ≤ (b[i]?).getD 0 ∧ (b[i]?).getD 0 ≤ 1000000 := by
            cases hbi : b[i]? with
            | none => simp
            | some y => rw [hbi] at hbb; exact finB_bd (val_ne (hb y (List.mem_of_getElem? hbi)) hbb)
          right
          simp only [cond_false]
          rw [w64_eq _ (by omega)]
          omega
      simp only [cond_false]
      cases (!s.2 || decide (quoC b i ((row[j]?).getD 0) < s.1)) with
      | true => exact hq
      | false => exact hs)
  exact this
theorem Mat.get {a : List (List Int)} {w i : Nat} {row : List Int} (hm : Mat a w) (h : a[i]? = some row) {j : Nat} (hj : j < w) : M.Conv (M.idx row (j : Int)) ((row[j]?).getD 0) ∧ valB ((row[j]?).getD 0) = true := by
  obtain ⟨e1, e2⟩ := hm.row row (List.mem_of_getElem? h)
  rw [List.getElem?_eq_getElem (by omega)]
  exact ⟨M.Conv_get (by omega) (by simp [show j < row.length by omega]), e2 _ (List.getElem_mem _)⟩
theorem get_row {a : List (List Int)} {i : Nat} {row : List Int} (h : a[i]? = some row) : M.Conv (M.idx a (i : Int)) row := M.Conv_get (by omega) (by simpa using h)
/-- the greatest subsolution's program, and its twin -/
def fitsB (a : List (List Int)) (b : List Int) : Bool := (List.range (widthN a)).all fun j => (colS a b j).2
theorem spec_l08Fits_ok {a : List (List Int)} {b : List Int} {w : Nat} (hm : Mat a w) (hw : widthN a = w) : M.Conv (spec_l08Fits a) (fitsB a b) := by
  unfold spec_l08Fits
  obtain ⟨r0, h0, hl⟩ := hm.head
  have hrows := hm.rows
  have hcols := hm.cols
  refine M.Conv_bind (x := (bif fitsB a b then .inl (w : Int) else .inr false : Int ⊕ Bool)) ((Conv_while (l := List.range w) (fun i _ => bif (colS a b i).2 then none else some (.inr false)) (.inl (w : Int)) (fun i x hx => ?_) ?_).of ?_) ?_
  · have hi : i < w := by have := (List.getElem?_eq_some_iff.1 hx).1; simpa using this
    refine M.Conv_bind (get_row h0) (M.Conv_ite (fun _ => ?_) (fun q => by have := of_decide_eq_false q; omega))
    refine M.Conv_bind (x := (colS a b i).2) ?_ ?_
    · rw [colS_found]
      refine (M.Conv_fold (l := a) (fun s r => s || (((r[i]?).getD 0) != (-1000000000000000))) (by omega) fun k r s hr => ?_).of ?_
      · refine M.Conv_bind (x := s || (((r[i]?).getD 0) != (-1000000000000000))) (M.Conv_ite (fun q => (M.Conv_ret _).of (by simp [q])) (fun q => ?_)) (M.Conv_ret _)
        exact M.Conv_bind (get_row hr) (M.Conv_bind (hm.get hr hi).1 ((M.Conv_ret _).of (by simp [q])))
      · have : ∀ (l : List (List Int)) (s : Bool), l.foldl (fun s r => s || (((r[i]?).getD 0) != (-1000000000000000))) s = (s || l.any fun r => ((r[i]?).getD 0) != (-1000000000000000)) := by
          intro l
          induction l with
          | nil => simp
          | cons r rs ih => intro s; rw [List.foldl_cons, ih, List.any_cons, Bool.or_assoc]
        simpa using this a false
    · cases (colS a b i).2 with
      | true => exact M.Conv_ite (fun q => by simp at q) (fun _ => (M.Conv_ret _).of (by rw [w64_eq _ (by omega)]; rfl))
      | false => exact M.Conv_ret _
  · simp only [List.length_range]
    exact M.Conv_bind (get_row h0) (M.Conv_ite (fun q => by have := of_decide_eq_true q; omega) (fun _ => M.Conv_ret _))
  · have key : ∀ (n i : Nat), runO (ρ := Int ⊕ Bool) (fun i (_ : Nat) => bif (colS a b i).2 then none else some (.inr false)) (.inl (w : Int)) i ((List.range n).map (i + ·)) = bif ((List.range n).map (i + ·)).all (fun j => (colS a b j).2) then .inl (w : Int) else .inr false := by
      intro n
      induction n with
      | zero => intro i; rfl
      | succ n ih =>
        intro i
        have e : (List.range (n + 1)).map (i + ·) = i :: (List.range n).map (i + 1 + ·) := by
          rw [List.range_succ_eq_map, List.map_cons, List.map_map]
          congr 1
          exact List.map_congr_left fun k _ => by simp only [Function.comp]; omega
        rw [e]
        simp only [runO, List.all_cons]
        cases (colS a b i).2 with
        | true => simpa using ih (i + 1)
        | false => rfl
    have := key w 0
    simpa [fitsB, hw] using this
  · cases fitsB a b <;> exact M.Conv_ret _
def subL (a : List (List Int)) (b : List Int) : List Int := (List.range (widthN a)).map fun j => (colS a b j).1
theorem subL_len (a : List (List Int)) (b : List Int) : (subL a b).length = widthN a := by simp [subL]
theorem spec_l08Sub_ok {a : List (List Int)} {b : List Int} {w : Nat} (hm : Mat a w) (hw : widthN a = w) (hb : b.length = a.length) : M.Conv (spec_l08Sub a b) (subL a b) := by
  unfold spec_l08Sub
  obtain ⟨r0, h0, hl⟩ := hm.head
  have hrows := hm.rows
  have hcols := hm.cols
  refine M.Conv_bind (x := (subL a b, (w : Int))) (Conv_whileV (n := w) (fun i => (List.range i).map fun j => (colS a b j).1) _ (fun j hj => ?_) ?_) (M.Conv_ret _)
  · refine M.Conv_bind (get_row h0) (M.Conv_ite (fun _ => ?_) (fun q => by have := of_decide_eq_false q; omega))
    refine M.Conv_bind (x := colS a b j) (Conv_foldI (stepC b j) (fun _ _ => True) (by omega) trivial fun i row s hr _ => ⟨?_, trivial⟩) (M.Conv_bind (M.Conv_app (by simp; omega)) ((M.Conv_ret _).of (by rw [w64_eq _ (by omega), List.range_succ, List.map_append]; rfl)))
    have hi := (List.getElem?_eq_some_iff.1 hr).1
    obtain ⟨rd, rv⟩ := hm.get hr hj
    have hbi : M.Conv (M.idx b (i : Int)) ((b[i]?).getD 0) := M.Conv_get (by omega) (by simp [show i < b.length by omega])
    refine M.Conv_bind (x := stepC b j i row s) (M.Conv_bind (get_row hr) (M.Conv_bind rd (M.Conv_ite (fun q => (M.Conv_ret _).of ?_) (fun q => M.Conv_bind hbi (M.Conv_bind (x := quoC b i ((row[j]?).getD 0)) ?_ ?_))))) (M.Conv_ret _)
    · simp only [stepC, q, cond_true]
    · refine M.Conv_ite (fun p => M.Conv_bind hbi (M.Conv_bind (get_row hr) (M.Conv_bind rd ((M.Conv_ret _).of ?_)))) (fun p => (M.Conv_ret _).of ?_)
      · simp only [bne, Bool.not_eq_true'] at p; simp only [quoC, p, cond_false]
      · simp only [bne, Bool.not_eq_false'] at p; simp only [quoC, p, cond_true]
    · refine M.Conv_ite (fun p => (M.Conv_ret _).of ?_) (fun p => (M.Conv_ret _).of ?_)
      · simp only [stepC, q, cond_false, p, cond_true]
      · simp only [stepC, q, cond_false, p]
  · exact M.Conv_bind (get_row h0) (M.Conv_ite (fun q => by have := of_decide_eq_true q; omega) (fun _ => (M.Conv_ret _).of (by rw [subL, hw])))
theorem impl_greatestSub_ok {a : List (List Int)} {b : List Int} (ha : smII a) (hbl : smI b) : M.Conv (impl_greatestSub a b) (bif matB a && vecB b then bif decide (a.length = b.length) then bif fitsB a b then (subL a b, 0) else ([], 5) else ([], 5) else ([], 1)) := by
  unfold impl_greatestSub
  unfold smI at hbl
  refine M.Conv_bind (impl_IsMatrix_ok ha) (M.Conv_bind (x := !(matB a && vecB b)) (M.Conv_ite (fun q => (M.Conv_ret _).of ?_) (fun q => M.Conv_bind (impl_isVector_ok (by omega)) ((M.Conv_ret _).of ?_))) ?_)
  · simp only [Bool.not_eq_true'] at q; rw [q]; rfl
  · simp only [Bool.not_eq_false'] at q; rw [q]; rfl
  cases hmv : (matB a && vecB b) with
  | false => exact M.Conv_ret _
  | true =>
    simp only [Bool.and_eq_true] at hmv
    have hm := matB_mat hmv.1
    obtain ⟨r0, h0, hl⟩ := hm.head
    have hrows := hm.rows
    have hcols := hm.cols
    have hbv : ∀ x ∈ b, valB x = true := by have := hmv.2; simp only [vecB, Bool.and_eq_true, List.all_eq_true] at this; exact this.2
    refine M.Conv_ite (fun q => by simp at q) (fun _ => M.Conv_ite (fun q => (M.Conv_ret _).of ?_) (fun q => ?_))
    · have : a.length ≠ b.length := fun e => by rw [e] at q; simp at q
      rw [decide_eq_false this]; rfl
    · have hab : a.length = b.length := Int.ofNat.inj (show (a.length : Int) = b.length by simpa using q)
      rw [decide_eq_true hab]
      refine M.Conv_bind (get_row h0) (M.Conv_bind (M.Conv_make (by omega) (by omega)) ?_)
      rw [hl, Int.toNat_natCast, List.length_replicate]
      -- column by column
      have key : ∀ (d j : Nat), j + d = widthN a → ∃ N, ∀ n, N ≤ n → M.forN (widthN a : Int) (fun s => .inl s) (fun i1 => (fun (s1 : (List Int)) => M.bind (M.forI 0 (a.length : Int) (fun s => s) (fun i2 => (fun (s3 : (List Int) × Bool) => M.bind (M.bind (M.idx a i2) (fun x7 => M.bind (M.idx x7 i1) (fun x8 => M.ite (x8 == (-1000000000000000)) (M.ret (s3.1, s3.2)) (M.bind (M.idx b i2) (fun x9 => M.bind (M.idx x7 i1) (fun x10 => M.bind (impl_times x9 (w64 (0 - x10))) (fun x11 => M.bind (M.ite (!s3.2) (M.ret true) (M.bind (M.idx s3.1 i1) (fun x13 => M.ret (decide (x11 < x13))))) (fun x12 => M.ite x12 (M.bind (M.idx s3.1 i1) (fun x14 => M.bind (M.upd s3.1 i1 x11) (fun l2 => M.ret (l2, true)))) (M.ret (s3.1, s3.2)))))))))) (fun (s4 : (List Int) × Bool) => M.ret (.inl (s4.1, s4.2))))) (s1, false)) (fun x6 => M.ite (!x6.2) (M.ret (.inr (.inr (([] : List Int), 5)))) (M.ret (.inl x6.1))))) n d (j : Int) ((subL a b).take j ++ List.replicate d 0) =
            some (bif ((List.range d).map (j + ·)).all (fun j => (colS a b j).2) then (.inl (subL a b) : List Int ⊕ (List Int × Int)) else .inr ([], 5)) := by
        intro d
        induction d with
        | zero =>
          intro j hj
          obtain rfl : j = widthN a := by omega
          have ht : (subL a b).take (widthN a) = subL a b := List.take_of_length_le (by rw [subL_len]; exact Nat.le_refl _)
          exact ⟨0, fun n _ => by simp [M.forN, ht]⟩
        | succ d ih =>
          intro j hj
          have hjw : j < widthN a := by omega
          have hjw' : (j : Int) < widthN a := by omega
          have htl : ((subL a b).take j).length = j := by rw [List.length_take, subL_len]; omega
          have hset : ∀ v, ((subL a b).take j ++ List.replicate (d + 1) 0).set j v = (subL a b).take j ++ v :: List.replicate d 0 := fun v => by
            rw [List.set_append_right _ _ (by omega), htl, Nat.sub_self, List.replicate_succ]; rfl
          have hinner : M.Conv (M.forI 0 (a.length : Int) (fun s => s) (fun i2 => (fun (s3 : (List Int) × Bool) => M.bind (M.bind (M.idx a i2) (fun x7 => M.bind (M.idx x7 (j : Int)) (fun x8 => M.ite (x8 == (-1000000000000000)) (M.ret (s3.1, s3.2)) (M.bind (M.idx b i2) (fun x9 => M.bind (M.idx x7 (j : Int)) (fun x10 => M.bind (impl_times x9 (w64 (0 - x10))) (fun x11 => M.bind (M.ite (!s3.2) (M.ret true) (M.bind (M.idx s3.1 (j : Int)) (fun x13 => M.ret (decide (x11 < x13))))) (fun x12 => M.ite x12 (M.bind (M.idx s3.1 (j : Int)) (fun x14 => M.bind (M.upd s3.1 (j : Int) x11) (fun l2 => M.ret (l2, true)))) (M.ret (s3.1, s3.2)))))))))) (fun (s4 : (List Int) × Bool) => M.ret (.inl (s4.1, s4.2))))) ((subL a b).take j ++ List.replicate (d + 1) 0, false)) ((subL a b).take j ++ (colS a b j).1 :: List.replicate d 0, (colS a b j).2) := by
            -- the state in the program's spelling
            let W : Int × Bool → List Int × Bool := fun s => ((subL a b).take j ++ s.1 :: List.replicate d 0, s.2)
            have hW0 : ((subL a b).take j ++ List.replicate (d + 1) 0, false) = W (0, false) := by simp only [W, List.replicate_succ]
            have hrd : ∀ s, M.Conv (M.idx (W s).1 (j : Int)) s.1 := fun s => M.Conv_get (by omega) (by simp only [W, Int.toNat_natCast]; rw [List.getElem?_append_right (by omega), htl]; simp)
            have hup : ∀ s v, M.Conv (M.upd (W s).1 (j : Int) v) ((subL a b).take j ++ v :: List.replicate d 0) := fun s v => (M.Conv_upd (by simp only [W, List.length_append, htl, List.length_cons]; omega)).of (by simp only [W]; rw [List.set_append_right _ _ (by omega), htl, Nat.sub_self]; rfl)
            rw [hW0]
            have main := M.Conv_forI (l := a) (f := (fun i2 => (fun (s3 : (List Int) × Bool) => M.bind (M.bind (M.idx a i2) (fun x7 => M.bind (M.idx x7 (j : Int)) (fun x8 => M.ite (x8 == (-1000000000000000)) (M.ret (s3.1, s3.2)) (M.bind (M.idx b i2) (fun x9 => M.bind (M.idx x7 (j : Int)) (fun x10 => M.bind (impl_times x9 (w64 (0 - x10))) (fun x11 => M.bind (M.ite (!s3.2) (M.ret true) (M.bind (M.idx s3.1 (j : Int)) (fun x13 => M.ret (decide (x11 < x13))))) (fun x12 => M.ite x12 (M.bind (M.idx s3.1 (j : Int)) (fun x14 => M.bind (M.upd s3.1 (j : Int) x11) (fun l2 => M.ret (l2, true)))) (M.ret (s3.1, s3.2)))))))))) (fun (s4 : (List Int) × Bool) => M.ret (.inl (s4.1, s4.2)))))) (fin := fun s => s) (s := W (0, false)) (ρ := List Int × Bool)
              (fun i row s => .inl (W (stepC b j i row (((s.1[j]?).getD 0), s.2)))) (fun _ s => ∃ q, s = W q) (by omega) ⟨_, rfl⟩ (fun i row s hr ⟨q, hq⟩ => by
                subst hq
                have hi := (List.getElem?_eq_some_iff.1 hr).1
                obtain ⟨rd, rv⟩ := hm.get hr hjw
                have hq1 : (((W q).1[j]?).getD 0, (W q).2) = q := by
                  simp only [W]; rw [List.getElem?_append_right (by omega), htl]; simp
                refine ⟨?_, fun s' e => by cases e; exact ⟨_, rfl⟩⟩
                rw [hq1]
                have hbi : M.Conv (M.idx b (i : Int)) ((b[i]?).getD 0) := M.Conv_get (by omega) (by simp [show i < b.length by omega])
                refine M.Conv_bind (x := W (stepC b j i row q)) (M.Conv_bind (get_row hr) (M.Conv_bind rd (M.Conv_ite (fun p => (M.Conv_ret _).of ?_) (fun p => M.Conv_bind hbi (M.Conv_bind rd (M.Conv_bind (x := quoC b i ((row[j]?).getD 0)) ((impl_times_ok _ _).of ?_) (M.Conv_bind (x := !q.2 || decide (quoC b i ((row[j]?).getD 0) < q.1)) (M.Conv_ite (fun t => (M.Conv_ret _).of ?_) (fun t => M.Conv_bind (hrd q) ((M.Conv_ret _).of ?_))) ?_))))))) (M.Conv_ret _)
                · simp only [stepC, p, cond_true]
                · have hv := finB_bd (val_ne rv p)
                  simp only [timesI, quoC]
                  rw [w64_eq (0 - _) (by omega)]
                  cases hbb : ((b[i]?).getD 0) == (-1000000000000000) with
                  | true => simp
                  | false =>
                    have : (0 - (row[j]?).getD 0 == (-1000000000000000)) = false := by simp; omega
                    rw [this]; simp only [Bool.or_false, cond_false]
                    rw [show (b[i]?).getD 0 + (0 - (row[j]?).getD 0) = (b[i]?).getD 0 - (row[j]?).getD 0 by omega]
                · have t : q.2 = false := by simpa using t
                  simp [t]
                · have t : q.2 = true := by simpa using t
                  simp [t]
                · refine M.Conv_ite (fun t => M.Conv_bind (hrd q) (M.Conv_bind (hup q _) ((M.Conv_ret _).of ?_))) (fun t => (M.Conv_ret _).of ?_)
                  · simp only [stepC, p, cond_false, t, cond_true]; rfl
                  · simp only [stepC, p, cond_false, t])
            refine main.of ?_
            have run : ∀ (l : List (List Int)) (i : Nat) (q : Int × Bool), M.run (ρ := List Int × Bool) (fun i row s => .inl (W (stepC b j i row (((s.1[j]?).getD 0), s.2)))) (fun s => s) i l (W q) = W (foldI (stepC b j) i l q) := by
              intro l
              induction l with
              | nil => intro i q; rfl
              | cons r rs ih =>
                intro i q
                have hq1 : (((W q).1[j]?).getD 0, (W q).2) = q := by
                  simp only [W]; rw [List.getElem?_append_right (by omega), htl]; simp
                simp only [M.run, foldI, hq1]
                exact ih (i + 1) _
            exact run a 0 (0, false)
          obtain ⟨N1, hin⟩ := hinner
          have eall : ((List.range (d + 1)).map (j + ·)).all (fun j => (colS a b j).2) = ((colS a b j).2 && ((List.range d).map (j + 1 + ·)).all (fun j => (colS a b j).2)) := by
            rw [List.range_succ_eq_map, List.map_cons, List.map_map, List.all_cons]
            congr 2
            exact List.map_congr_left fun k _ => by simp only [Function.comp]; omega
          rw [eall]
          cases hf : (colS a b j).2 with
          | false =>
            refine ⟨N1, fun n hn => ?_⟩
            have := hin n hn
            rw [hf] at this
            simp only [M.forN, hjw', decide_true, cond_true]
            simp only [M.bind] at this ⊢
            rw [this]
            rfl
          | true =>
            obtain ⟨N2, h2⟩ := ih (j + 1) (by omega)
            refine ⟨max N1 N2, fun n hn => ?_⟩
            have h1 := hin n (by omega)
            rw [hf] at h1
            have h3 := h2 n (by omega)
            have htk : (subL a b).take (j + 1) = (subL a b).take j ++ [(colS a b j).1] := by
              rw [List.take_add_one]; congr 1
              simp [subL, hjw]
            rw [htk, List.append_assoc, List.singleton_append] at h3
            simp only [M.forN, hjw', decide_true, cond_true]
            simp only [M.bind] at h1 ⊢
            rw [h1]
            simp only [Bool.not_true, M.ite, cond_false, M.ret]
            simpa [M.bind, M.ite, M.ret] using h3
      obtain ⟨N, h⟩ := key (widthN a) 0 (by omega)
      refine M.Conv_bind (x := bif fitsB a b then (.inl (subL a b) : List Int ⊕ (List Int × Int)) else .inr ([], 5)) ⟨N, fun n hn => ?_⟩ ?_
      · have h1 := h n hn
        simp only [M.forI, show decide ((widthN a : Int) ≤ 9223372036854775807) = true from decide_eq_true (by omega), show decide ((-9223372036854775808 : Int) ≤ 0) = true by decide, Bool.and_self, cond_true]
        simpa [fitsB] using h1
      · cases fitsB a b <;> exact M.Conv_ret _

def dotL (x row : List Int) : Int := foldI (fun j v s => mx s (timesI v ((x[j]?).getD 0))) 0 row (-1000000000000000)
theorem Conv_forV {σ : Type} {n : Nat} {f : Int → σ → M (σ ⊕ σ)} (val : Nat → σ) (hn : n ≤ 9223372036854775807) (h : ∀ i, i < n → M.Conv (f i (val i)) (.inl (val (i + 1)))) : M.Conv (M.forI 0 (n : Int) (fun s => s) f (val 0)) (val n) := by
  have := M.Conv_forI (l := List.range n) (f := f) (fin := fun s => s) (s := val 0) (ρ := σ) (fun i _ _ => .inl (val (i + 1))) (fun i s => s = val i) (by simpa using hn) rfl (fun i x s hx hs => by
    subst hs
    have hi := (List.getElem?_eq_some_iff.1 hx).1
    exact ⟨h i (by simpa using hi), fun s' e => by cases e; rfl⟩)
  simp only [List.length_range] at this
  refine this.of ?_
  have run : ∀ (m i : Nat), M.run (σ := σ) (ρ := σ) (fun i (_ : Nat) _ => .inl (val (i + 1))) (fun s => s) i (List.range m) (val i) = val (i + m) := by
    have g : ∀ (l : List Nat) (i : Nat), M.run (σ := σ) (ρ := σ) (fun i (_ : Nat) _ => .inl (val (i + 1))) (fun s => s) i l (val i) = val (i + l.length) := by
      intro l
      induction l with
      | nil => intro i; rfl
      | cons x xs ih => intro i; simp only [M.run, List.length_cons]; rw [ih (i + 1)]; congr 1; omega
    intro m i
    rw [g, List.length_range]
  simpa using run n 0
theorem head_of_mat {a : List (List Int)} (h : matB a = true) : ∃ r, a[0]? = some r ∧ r.length = widthN a := (matB_mat h).head
def ConvL {σ ρ : Type} (f : σ → M (σ ⊕ ρ)) (s : σ) (r : ρ) : Prop := ∃ N m0, ∀ n, N ≤ n → ∀ m, m0 ≤ m → M.loopN f n m s = some r
theorem ConvL.conv {σ ρ : Type} {f : σ → M (σ ⊕ ρ)} {s : σ} {r : ρ} (h : ConvL f s r) : M.Conv (M.loop f s) r := by
  obtain ⟨N, m0, h⟩ := h
  exact ⟨max N m0, fun n hn => h n (by omega) n (by omega)⟩
theorem ConvL.step {σ ρ : Type} {f : σ → M (σ ⊕ ρ)} {s s' : σ} {r : ρ} (h1 : M.Conv (f s) (.inl s')) (h : ConvL f s' r) : ConvL f s r := by
  obtain ⟨N, h1⟩ := h1
  obtain ⟨N', m0, h⟩ := h
  refine ⟨max N N', m0 + 1, fun n hn m hm => ?_⟩
  obtain ⟨m, rfl⟩ : ∃ q, m = q + 1 := ⟨m - 1, by omega⟩
  simp only [M.loopN, h1 n (by omega)]
  exact h n (by omega) m (by omega)
theorem ConvL.stop {σ ρ : Type} {f : σ → M (σ ⊕ ρ)} {s : σ} {r : ρ} (h1 : M.Conv (f s) (.inr r)) : ConvL f s r := by
  obtain ⟨N, h1⟩ := h1
  refine ⟨N, 1, fun n hn m hm => ?_⟩
  obtain ⟨m, rfl⟩ : ∃ q, m = q + 1 := ⟨m - 1, by omega⟩
  simp only [M.loopN, h1 n hn]
def entA (a : List (List Int)) (i j : Nat) : Int := (((a[i]?).getD [])[j]?).getD 0
theorem ent_val {a : List (List Int)} {n i j : Nat} (hm : Mat a n) (hi : i < a.length) (hj : j < n) : M.Conv (M.idx a (i : Int)) a[i] ∧ M.Conv (M.idx a[i] (j : Int)) (entA a i j) ∧ valB (entA a i j) = true := by
  have hr : a[i]? = some a[i] := List.getElem?_eq_getElem hi
  obtain ⟨g1, g2⟩ := hm.get hr hj
  have e : entA a i j = (a[i][j]?).getD 0 := by simp only [entA, hr, Option.getD_some]
  rw [e]
  exact ⟨get_row hr, g1, g2⟩
theorem conv_up {σ ρ : Type} {f : σ → M (σ ⊕ ρ)} {r : ρ} (st : Nat → σ) {n k0 : Nat} (hk : k0 ≤ n) (h : ∀ k, k0 ≤ k → k < n → M.Conv (f (st k)) (.inl (st (k + 1)))) (hs : M.Conv (f (st n)) (.inr r)) : M.Conv (M.loop f (st k0)) r := by
  have H : ∀ (d k : Nat), k0 ≤ k → k + d = n → ConvL f (st k) r := by
    intro d
    induction d with
    | zero => intro k _ e; obtain rfl : k = n := by omega
              exact ConvL.stop hs
    | succ d ih => intro k h1 e; exact ConvL.step (h k h1 (by omega)) (ih (k + 1) (by omega) (by omega))
  exact (H (n - k0) k0 (Nat.le_refl _) (by omega)).conv
theorem conv_up0 {σ ρ : Type} {f : σ → M (σ ⊕ ρ)} {r : ρ} {s0 : σ} (st : Nat → σ) {n k0 : Nat} (e : s0 = st k0) (hk : k0 ≤ n) (h : ∀ k, k0 ≤ k → k < n → M.Conv (f (st k)) (.inl (st (k + 1)))) (hs : M.Conv (f (st n)) (.inr r)) : M.Conv (M.loop f s0) r := by
  subst e; exact conv_up st hk h hs

def tab {α : Type} (n : Nat) (h : Nat → α) : List α := (List.range n).map h
theorem tab_len {α : Type} (n : Nat) (h : Nat → α) : (tab n h).length = n := by simp [tab]
theorem tab_get {α : Type} {n i : Nat} {h : Nat → α} (hi : i < n) : (tab n h)[i]? = some (h i) := by simp [tab, List.getElem?_range hi]
theorem tab_none {α : Type} {n i : Nat} {h : Nat → α} (hi : n ≤ i) : (tab n h)[i]? = none := List.getElem?_eq_none (by rw [tab_len]; exact hi)
theorem tab_ext {α : Type} {n : Nat} {h : Nat → α} {l : List α} (hl : l.length = n) (e : ∀ i, i < n → l[i]? = some (h i)) : l = tab n h := by
  apply List.ext_getElem?
  intro i
  by_cases hi : i < n
  · rw [e i hi, tab_get hi]
  · rw [tab_none (by omega), List.getElem?_eq_none (by omega)]
theorem tab_congr {α : Type} {n : Nat} {h g : Nat → α} (e : ∀ i, i < n → h i = g i) : tab n h = tab n g := by
  refine tab_ext (tab_len _ _) fun i hi => ?_
  rw [tab_get hi, e i hi]
theorem tab_set {α : Type} {n i : Nat} {h g : Nat → α} {v : α} (hv : v = g i) (e : ∀ p, p < n → p ≠ i → h p = g p) : (tab n h).set i v = tab n g := by
  refine tab_ext (by rw [List.length_set, tab_len]) fun p hp => ?_
  rw [List.getElem?_set]
  by_cases q : i = p
  · subst q; rw [if_pos rfl, if_pos (by rw [tab_len]; exact hp), hv]
  · rw [if_neg q, tab_get hp, e p hp (fun c => q c.symm)]
theorem tab_rep {α : Type} (n : Nat) (z : α) : List.replicate n z = tab n (fun _ => z) := tab_ext (by simp) fun i hi => by rw [List.getElem?_replicate, if_pos hi]
theorem tab_snoc {α : Type} (n : Nat) (h : Nat → α) : tab n h ++ [h n] = tab (n + 1) h := by simp [tab, List.range_succ]
theorem idx_tab {α : Type} {n i : Nat} {h : Nat → α} (hi : i < n) : M.Conv (M.idx (tab n h) (i : Int)) (h i) := M.Conv_idx (tab_get hi)
theorem upd_tab {α : Type} {n i : Nat} {h g : Nat → α} {v : α} (hi : i < n) (hv : v = g i) (e : ∀ p, p < n → p ≠ i → h p = g p) : M.Conv (M.upd (tab n h) (i : Int) v) (tab n g) :=
  (M.Conv_upd (by rw [tab_len]; exact hi)).of (tab_set hv e)
def matF (m n : Nat) (f : Nat → Nat → Int) : List (List Int) := tab m fun i => tab n (f i)
theorem matF_len (m n : Nat) (f : Nat → Nat → Int) : (matF m n f).length = m := tab_len _ _
theorem matF_congr {m n : Nat} {f g : Nat → Nat → Int} (e : ∀ i j, i < m → j < n → f i j = g i j) : matF m n f = matF m n g := tab_congr fun i hi => tab_congr fun j hj => e i j hi hj
structure Shp (a : List (List Int)) (w : Nat) : Prop where
  rows : 1 ≤ a.length ∧ a.length ≤ 10
  cols : 1 ≤ w ∧ w ≤ 10
  row : ∀ r ∈ a, r.length = w
theorem Mat.shp {a : List (List Int)} {w : Nat} (hm : Mat a w) : Shp a w := ⟨hm.rows, hm.cols, fun r hr => (hm.row r hr).1⟩
theorem mat_eq {a : List (List Int)} {w : Nat} (hm : Shp a w) : a = matF a.length w (entA a) := by
  refine tab_ext rfl fun i hi => ?_
  have hr : a[i]? = some a[i] := List.getElem?_eq_getElem hi
  rw [hr]
  have hl := hm.row _ (List.mem_of_getElem? hr)
  congr 1
  refine tab_ext hl fun j hj => ?_
  have : a[i][j]? = some (a[i][j]'(by omega)) := List.getElem?_eq_getElem _
  rw [this]
  simp only [entA, hr, Option.getD_some, this]
theorem entA_matF {m n i j : Nat} {f : Nat → Nat → Int} (hi : i < m) (hj : j < n) : entA (matF m n f) i j = f i j := by
  simp only [entA, matF, tab_get hi, Option.getD_some, tab_get hj]
theorem mat_of {m n : Nat} {f : Nat → Nat → Int} (h1 : 1 ≤ m ∧ m ≤ 10) (h2 : 1 ≤ n ∧ n ≤ 10) (hv : ∀ i j, i < m → j < n → valB (f i j) = true) : Mat (matF m n f) n := by
  refine ⟨by rw [matF_len]; exact h1, h2, fun r hr => ?_⟩
  simp only [matF, tab, List.mem_map, List.mem_range] at hr
  obtain ⟨i, hi, rfl⟩ := hr
  refine ⟨by simp, fun x hx => ?_⟩
  simp only [List.mem_map, List.mem_range] at hx
  obtain ⟨j, hj, rfl⟩ := hx
  exact hv i j hi hj
theorem shp_of {m n : Nat} {f : Nat → Nat → Int} (h1 : 1 ≤ m ∧ m ≤ 10) (h2 : 1 ≤ n ∧ n ≤ 10) : Shp (matF m n f) n := by
  refine ⟨by rw [matF_len]; exact h1, h2, fun r hr => ?_⟩
  simp only [matF, tab, List.mem_map, List.mem_range] at hr
  obtain ⟨i, hi, rfl⟩ := hr
  simp
theorem ent_read {a : List (List Int)} {w i j : Nat} (hm : Shp a w) (hi : i < a.length) (hj : j < w) : ∃ r, M.Conv (M.idx a (i : Int)) r ∧ r.length = w ∧ M.Conv (M.idx r (j : Int)) (entA a i j) := by
  have hr : a[i]? = some a[i] := List.getElem?_eq_getElem hi
  have hl := hm.row _ (List.mem_of_getElem? hr)
  have h2 : a[i][j]? = some (a[i][j]'(by omega)) := List.getElem?_eq_getElem _
  refine ⟨_, get_row hr, hl, (M.Conv_idx h2).of ?_⟩
  simp only [entA, hr, Option.getD_some, h2]
/-- a matrix filled by a function of its places -/
theorem matrixBy_ok {m n : Nat} (F : Int → Int → M Int) (g : Nat → Nat → Int) (hm : m ≤ 1048576) (hn : n ≤ 1048576) (hF : ∀ i j : Nat, i < m → j < n → M.Conv (F i j) (g i j)) :
    M.Conv (M.bind (M.make (m : Int) []) (fun l1 => M.bind (M.forI 0 (l1.length : Int) (fun s => s) (fun i1 => (fun (s1 : (List (List Int))) => M.bind (M.make (n : Int) 0) (fun l2 => M.bind (M.idx s1 i1) (fun x2 => M.bind (M.upd s1 i1 l2) (fun l3 => M.bind (M.idx l3 i1) (fun x3 => M.bind (M.forI 0 (x3.length : Int) (fun s => s) (fun i2 => (fun (s2 : (List (List Int))) => M.bind (M.idx s2 i1) (fun x5 => M.bind (F i1 i2) (fun x6 => M.bind (M.idx x5 i2) (fun x7 => M.bind (M.upd x5 i2 x6) (fun l4 => M.ret (.inl (s2.set i1.toNat l4)))))))) l3) (fun x4 => M.ret (.inl x4)))))))) l1) (fun x1 => M.ret x1))) (matF m n g) := by
  have e0 : List.replicate m ([] : List Int) = tab m (fun p => bif decide (p < 0) then tab n (g p) else []) := by
    rw [tab_rep]; exact tab_congr fun i _ => by simp
  refine M.Conv_bind ((M.Conv_make (by omega) (by omega)).of (r' := tab m (fun p => bif decide (p < 0) then tab n (g p) else [])) (by rw [Int.toNat_natCast, e0])) ?_
  rw [tab_len]
  refine M.Conv_bind (x := matF m n g) ((Conv_forV (fun i => tab m (fun p => bif decide (p < i) then tab n (g p) else [])) (by omega) fun i hi => ?_).of (tab_congr fun p hp => by rw [decide_eq_true hp]; rfl)) (M.Conv_ret _)
  refine M.Conv_bind ((M.Conv_make (by omega) (by omega)).of (r' := tab n (fun _ => 0)) (by rw [Int.toNat_natCast, tab_rep])) ?_
  refine M.Conv_bind (idx_tab hi) (M.Conv_bind (x := tab m (fun p => bif p == i then tab n (fun q => bif decide (q < 0) then g i q else 0) else bif decide (p < i) then tab n (g p) else [])) (upd_tab hi ?_ ?_) ?_)
  · simp
  · intro p hp hne
    rw [show (p == i) = false by simpa using hne]; rfl
  · refine M.Conv_bind (idx_tab hi) ?_
    rw [beq_self_eq_true, cond_true, tab_len]
    refine M.Conv_bind (x := tab m (fun p => bif decide (p < i + 1) then tab n (g p) else [])) ((Conv_forV (fun j => tab m (fun p => bif p == i then tab n (fun q => bif decide (q < j) then g i q else 0) else bif decide (p < i) then tab n (g p) else [])) (by omega) fun j hj => ?_).of ?_) (M.Conv_ret _)
    · refine M.Conv_bind (idx_tab hi) ?_
      rw [beq_self_eq_true, cond_true]
      refine M.Conv_bind (hF i j hi hj) (M.Conv_bind (idx_tab hj) (M.Conv_bind (x := tab n (fun q => bif decide (q < j + 1) then g i q else 0)) (upd_tab hj ?_ ?_) ((M.Conv_ret _).of (congrArg Sum.inl ?_))))
      · simp
      · intro q hq hne
        congr 1
        rw [Bool.eq_iff_iff]; simp; omega
      · rw [Int.toNat_natCast]
        refine tab_set ?_ ?_
        · simp
        · intro p hp hne
          rw [show (p == i) = false by simpa using hne]; rfl
    · refine tab_congr fun p hp => ?_
      by_cases e : p = i
      · subst e
        rw [beq_self_eq_true, cond_true, decide_eq_true (by omega)]
        exact tab_congr fun q hq => by rw [decide_eq_true hq]; rfl
      · rw [show (p == i) = false by simpa using e]
        simp only [cond_false]
        congr 1
        rw [Bool.eq_iff_iff]; simp; omega
theorem spec_l02Bottom_ok {m n : Nat} (hm : m ≤ 1048576) (hn : n ≤ 1048576) : M.Conv (spec_l02Bottom (m : Int) (n : Int)) (matF m n fun _ _ => -1000000000000000) := by
  unfold spec_l02Bottom
  refine M.Conv_bind (Conv_forV (fun i => tab i fun _ => tab n fun _ => (-1000000000000000 : Int)) (by omega) fun i hi => ?_) (M.Conv_ret _)
  refine M.Conv_bind (Conv_forV (fun j => tab j fun _ => (-1000000000000000 : Int)) (by omega) fun j hj => ?_) ?_
  · exact M.Conv_bind (M.Conv_app (by simp [tab_len]; omega)) ((M.Conv_ret _).of (congrArg Sum.inl (tab_snoc _ _)))
  · exact M.Conv_bind (M.Conv_app (by simp [tab_len]; omega)) ((M.Conv_ret _).of (congrArg Sum.inl (tab_snoc i _)))
/-- one entry set -/
theorem matF_set {m n i j : Nat} {f g : Nat → Nat → Int} (e : ∀ p q, p < m → q < n → ¬(p = i ∧ q = j) → f p q = g p q) : (matF m n f).set i ((tab n (f i)).set j (g i j)) = matF m n g := by
  by_cases hi : i < m
  · refine tab_set (tab_set rfl fun q hq hne => e i q hi hq (by omega)) fun p hp hne => tab_congr fun q hq => e p q hp hq (by omega)
  · rw [List.set_eq_of_length_le (by rw [matF_len]; omega)]
    exact matF_congr fun p q hp hq => e p q hp hq (by omega)
/-- transposes -/
theorem spec_l02Turn_ok {a : List (List Int)} {w : Nat} (hm : Shp a w) : M.Conv (spec_l02Turn a) (matF w a.length fun i j => entA a j i) := by
  have hrows := hm.rows
  have hcols := hm.cols
  obtain ⟨r0, h0, hl0, _⟩ := ent_read hm (i := 0) (j := 0) (by omega) (by omega)
  refine M.Conv_bind h0 ?_
  rw [hl0]
  refine M.Conv_bind (spec_l02Bottom_ok (by omega) (by omega)) ?_
  refine M.Conv_bind (x := matF w a.length fun i j => entA a j i) ?_ (M.Conv_ret _)
  refine ((Conv_forV (fun i => matF w a.length fun p q => bif decide (q < i) then entA a q p else -1000000000000000) (by omega) fun i hi => ?_) |> fun h => h.of ?_)
  · refine M.Conv_bind (x := (matF w a.length (fun p q => bif decide (q < i + 1) then entA a q p else -1000000000000000), (w : Int))) ?_ (M.Conv_ret _)
    refine conv_up0 (fun k => (matF w a.length (fun p q => bif decide (q < i) || (decide (q = i) && decide (p < k)) then entA a q p else -1000000000000000), (k : Int))) (n := w) (k0 := 0) ?_ (by omega) (fun k _ hk => ?_) ?_
    · refine Prod.ext (matF_congr fun p q _ _ => ?_) rfl
      congr 1
      simp
    · obtain ⟨r, h1, hl, h2⟩ := ent_read hm hi hk
      refine M.Conv_bind h1 ?_
      rw [hl]
      refine M.Conv_ite (fun _ => ?_) (fun t => by have := of_decide_eq_false t; simp only at this; omega)
      refine M.Conv_bind (idx_tab hk) (M.Conv_bind h1 (M.Conv_bind h2 (M.Conv_bind (idx_tab hi) (M.Conv_bind (M.Conv_upd (by rw [tab_len]; exact hi)) ((M.Conv_ret _).of ?_)))))
      refine congrArg Sum.inl (Prod.ext ?_ (by simp only; rw [w64_eq _ (by omega)]; omega))
      simp only [Int.toNat_natCast]
      refine Eq.trans (congrArg _ (congrArg (List.set _ i) ?_)) (matF_set (g := fun p q => bif decide (q < i) || (decide (q = i) && decide (p < k + 1)) then entA a q p else -1000000000000000) fun p q _ _ h => ?_)
      · simp
      · congr 1
        rw [Bool.eq_iff_iff]; simp; omega
    · refine M.Conv_bind (get_row (List.getElem?_eq_getElem hi)) ?_
      have hl := hm.row _ (List.getElem_mem hi)
      rw [hl]
      refine M.Conv_ite (fun t => by have := of_decide_eq_true t; simp only at this; omega) (fun _ => (M.Conv_ret _).of (congrArg Sum.inr (Prod.ext (matF_congr fun p q hp _ => ?_) rfl)))
      congr 1
      rw [Bool.eq_iff_iff]; simp; omega
  · exact matF_congr fun p q _ hq => by rw [decide_eq_true hq]; rfl
theorem impl_transposed_ok {a : List (List Int)} {w : Nat} (hm : Shp a w) : M.Conv (impl_transposed a) (matF w a.length fun i j => entA a j i) := by
  have hrows := hm.rows
  have hcols := hm.cols
  obtain ⟨r0, h0, hl0, _⟩ := ent_read hm (i := 0) (j := 0) (by omega) (by omega)
  refine M.Conv_bind h0 ?_
  rw [hl0]
  refine M.Conv_bind (matrixBy_ok (fun i j => impl_transposed_1 i j a) (fun i j => entA a j i) (by omega) (by omega) fun i j hi hj => ?_) (M.Conv_ret _)
  obtain ⟨r, h1, hl, h2⟩ := ent_read hm hj hi
  exact M.Conv_bind h1 (M.Conv_bind h2 (M.Conv_ret _))
theorem matB_shp {a : List (List Int)} {w : Nat} (h : Shp a w) : matB a = a.all fun r => r.all valB := by
  have h1 := h.rows
  have h2 := h.cols
  have hw : widthN a = w := by
    unfold widthN
    cases a with
    | nil => simp at h1
    | cons r rs => exact h.row r (by simp)
  unfold matB
  rw [hw, decide_eq_true h1.1, decide_eq_true h1.2, decide_eq_true h2.1, decide_eq_true h2.2]
  simp only [Bool.true_and]
  rw [Bool.eq_iff_iff, List.all_eq_true, List.all_eq_true]
  refine ⟨fun H r hr => ?_, fun H r hr => ?_⟩
  · have := H r hr; simp only [Bool.and_eq_true] at this; exact this.2
  · rw [decide_eq_true (h.row r hr), Bool.true_and]; exact H r hr
theorem Shp.sm {a : List (List Int)} {w : Nat} (h : Shp a w) : smII a := ⟨by have := h.rows; omega, fun r hr => by have := h.row r hr; have := h.cols; omega⟩
theorem spec_l03Result_ok {a : List (List Int)} {w : Nat} (h : Shp a w) : M.Conv (spec_l03Result a) (bif (a.all fun r => r.all valB) then (a, 0) else ([], 3)) := by
  refine M.Conv_bind (spec_IsMatrix_ok h.sm) ?_
  rw [matB_shp h]
  cases (a.all fun r => r.all valB)
  · exact M.Conv_ite (fun _ => M.Conv_ret _) (fun t => by simp at t)
  · exact M.Conv_ite (fun t => by simp at t) (fun _ => M.Conv_ret _)
theorem impl_checkedMatrix_ok {a : List (List Int)} {w : Nat} (h : Shp a w) : M.Conv (impl_checkedMatrix a) (bif (a.all fun r => r.all valB) then (a, 0) else ([], 3)) := by
  have h1 := h.rows
  have h2 := h.cols
  refine M.Conv_bind (contains_ok (fun r => !(r.all valB)) (by omega) fun i r hr => ?_) ?_
  · have hl := h.row r (List.mem_of_getElem? hr)
    refine M.Conv_bind (get_row hr) (M.Conv_bind (M.Conv_bind (impl_areValues_ok (by omega)) (M.Conv_ret _)) ?_)
    cases (!(r.all valB)) <;> exact M.Conv_ret _
  · have e : (a.any fun r => !(r.all valB)) = !(a.all fun r => r.all valB) := by rw [← any_not, Bool.not_not]
    rw [e]
    cases (a.all fun r => r.all valB)
    · exact M.Conv_ite (fun _ => M.Conv_ret _) (fun t => by simp at t)
    · exact M.Conv_ite (fun t => by simp at t) (fun _ => M.Conv_ret _)
theorem checked_sm {a : List (List Int)} {w : Nat} (h : Shp a w) : smII (bif (a.all fun r => r.all valB) then ((a, 0) : List (List Int) × Int) else ([], 3)).1 := by
  cases (a.all fun r => r.all valB)
  · exact ⟨by simp, by simp⟩
  · exact h.sm

def colL (b : List (List Int)) (i : Nat) : List Int := tab b.length fun j => entA b j i
theorem colL_vec {b : List (List Int)} {w i : Nat} (hm : Mat b w) (hi : i < w) : vecB (colL b i) = true ∧ (colL b i).length = b.length ∧ ∀ x ∈ colL b i, valB x = true := by
  have hv : ∀ x ∈ colL b i, valB x = true := fun x hx => by
    simp only [colL, tab, List.mem_map, List.mem_range] at hx
    obtain ⟨j, hj, rfl⟩ := hx
    exact (ent_val hm hj hi).2.2
  have hl : (colL b i).length = b.length := tab_len _ _
  refine ⟨?_, hl, hv⟩
  have := hm.rows
  simp only [vecB, Bool.and_eq_true, decide_eq_true_eq, List.all_eq_true, hl]
  exact ⟨⟨by omega, by omega⟩, hv⟩
theorem Conv_or {b v : Bool} {m : M Bool} (h : b = false → M.Conv m v) : M.Conv (M.ite b (M.ret true) m) (b || v) := by
  cases b with
  | true => exact M.Conv_ite (fun _ => M.Conv_ret _) (fun t => by simp at t)
  | false => exact M.Conv_ite (fun t => by simp at t) (fun _ => h rfl)
theorem fits_any (a : List (List Int)) (b c : List Int) : fitsB a b = fitsB a c := by
  unfold fitsB
  congr 1
  funext j
  rw [colS_found, colS_found]
theorem turn_rows {k w : Nat} {f : Nat → List Int} (hf : ∀ i, i < k → (f i).length = w) : tab k f = matF k w fun i j => ((f i)[j]?).getD 0 := by
  refine tab_congr fun i hi => tab_ext (hf i hi) fun j hj => ?_
  have : (f i)[j]? = some ((f i)[j]'(by rw [hf i hi]; exact hj)) := List.getElem?_eq_getElem _
  rw [this]; simp [this]
theorem same_LeftQuotient (a : List (List Int)) (_ : fitL (fitL inI64) a) (b : List (List Int)) (_ : fitL (fitL inI64) b) (sa : smII a) (sb : smII b) : Two (spec_LeftQuotient a b) (impl_LeftQuotient a b) (fun w => smII w.1) := by
  have s0 : smII ([] : List (List Int)) := ⟨by simp, by simp⟩
  unfold spec_LeftQuotient impl_LeftQuotient impl_leftQuotient
  have hbad : ∀ (X : M (Bool)), True := fun _ => trivial
  have hor1 : M.Conv (M.ite (!(matB a)) (M.ret true) (M.bind (spec_IsMatrix b) (fun x3 => M.ret (!x3)))) (!(matB a) || !(matB b)) := Conv_or fun _ => M.Conv_bind (spec_IsMatrix_ok sb) (M.Conv_ret _)
  have hor2 : M.Conv (M.ite (!(matB a)) (M.ret true) (M.bind (impl_IsMatrix b) (fun x3 => M.ret (!x3)))) (!(matB a) || !(matB b)) := Conv_or fun _ => M.Conv_bind (impl_IsMatrix_ok sb) (M.Conv_ret _)
  refine Two.left (spec_IsMatrix_ok sa) (Two.left hor1 ?_)
  cases hab : (!(matB a) || !(matB b)) with
  | true =>
    rw [hab] at hor2
    refine Two.right (M.Conv_bind (impl_IsMatrix_ok sa) (M.Conv_bind hor2 (M.Conv_ite (fun _ => M.Conv_ret _) (fun t => by simp at t)))) ?_
    exact Two.ofConv (M.Conv_ite (fun _ => M.Conv_ret _) (fun t => by simp at t)) (M.Conv_ite (fun _ => M.Conv_ret _) (fun t => by simp at t)) s0
  | false =>
    rw [hab] at hor2
    simp only [Bool.or_eq_false_iff, Bool.not_eq_false'] at hab
    have ha := matB_mat hab.1
    have hb := matB_mat hab.2
    have har := ha.rows
    have hac := ha.cols
    have hbr := hb.rows
    have hbc := hb.cols
    refine Two.iteL (fun t => by simp at t) (fun _ => ?_)
    by_cases hl : a.length = b.length
    · have hl1 : ((a.length : Int) != (b.length : Int)) = false := by simp [hl]
      have hlc : ∀ i, i < widthN b → (colL b i).length = a.length := fun i hi => by rw [(colL_vec hb hi).2.1, hl]
      rw [hl1]
      have hG : ∀ i, i < widthN b → M.Conv (impl_greatestSub a (colL b i)) (bif fitsB a [] then (subL a (colL b i), 0) else ([], 5)) := fun i hi => by
        refine (impl_greatestSub_ok sa (by unfold smI; rw [hlc i hi]; omega)).of ?_
        rw [hab.1, (colL_vec hb hi).1, decide_eq_true (hlc i hi).symm, fits_any a (colL b i) []]; rfl
      have hT := impl_transposed_ok hb.shp
      have hI : ∀ {v : List (List Int) × Int}, M.Conv (M.bind (M.forI 0 (((matF (widthN b) b.length fun i j => entA b j i).length : Int)) (fun s => .inl s) (fun i1 => (fun (s1 : (List (List Int))) => M.bind (M.idx (matF (widthN b) b.length fun i j => entA b j i) i1) (fun x6 => M.bind (impl_greatestSub a x6) (fun x7 => M.ite (x7.2 != 0) (M.ret (.inr (.inr (([] : List (List Int)), x7.2)))) (M.bind (M.app s1 [x7.1]) (fun l1 => M.ret (.inl l1))))))) []) (fun x5 => M.cont x5 (fun s2 => M.bind (impl_transposed s2) (fun x8 => M.ret (x8, 0))) (fun r => M.ret r)) : M (List (List Int) × Int)) v →
          M.Conv (M.bind (impl_IsMatrix a) (fun x1 => M.bind (M.ite (!x1) (M.ret true) (M.bind (impl_IsMatrix b) (fun x3 => M.ret (!x3)))) (fun x2 => M.ite x2 (M.ret (([] : List (List Int)), 1)) (M.ite false (M.ret (([] : List (List Int)), 5)) (M.bind (impl_transposed b) (fun x4 => M.bind (M.forI 0 (x4.length : Int) (fun s => .inl s) (fun i1 => (fun (s1 : (List (List Int))) => M.bind (M.idx x4 i1) (fun x6 => M.bind (impl_greatestSub a x6) (fun x7 => M.ite (x7.2 != 0) (M.ret (.inr (.inr (([] : List (List Int)), x7.2)))) (M.bind (M.app s1 [x7.1]) (fun l1 => M.ret (.inl l1))))))) []) (fun x5 => M.cont x5 (fun s2 => M.bind (impl_transposed s2) (fun x8 => M.ret (x8, 0))) (fun r => M.ret r)))))))) v := fun h =>
        M.Conv_bind (impl_IsMatrix_ok sa) (M.Conv_bind hor2 (M.Conv_ite (fun t => by simp at t) (fun _ => M.Conv_ite (fun t => by simp at t) (fun _ => M.Conv_bind hT h))))
      have hF : M.Conv (M.ite false (M.ret true) (M.bind (spec_l08Fits a) (fun x5 => M.ret (!x5)))) (!(fitsB a [])) := M.Conv_ite (fun t => by simp at t) (fun _ => M.Conv_bind (spec_l08Fits_ok ha rfl) (M.Conv_ret _))
      refine Two.left hF ?_
      cases hf : fitsB a [] with
      | false =>
        refine Two.iteL (fun _ => ?_) (fun t => by simp at t)
        refine Two.right (hI (v := ([], 5)) ?_) (Two.ofConv (M.Conv_ret _) (M.Conv_ite (fun _ => M.Conv_ret _) (fun t => by simp at t)) s0)
        rw [matF_len]
        refine M.Conv_bind (x := (Sum.inr ([], 5) : List (List Int) ⊕ (List (List Int) × Int))) ?_ (by exact M.Conv_ret (([], 5) : List (List Int) × Int))
        have := M.Conv_forI (l := List.range (widthN b)) (f := (fun i1 => (fun (s1 : (List (List Int))) => M.bind (M.idx (matF (widthN b) b.length fun i j => entA b j i) i1) (fun x6 => M.bind (impl_greatestSub a x6) (fun x7 => M.ite (x7.2 != 0) (M.ret (.inr (.inr (([] : List (List Int)), x7.2)))) (M.bind (M.app s1 [x7.1]) (fun l1 => M.ret (.inl l1)))))))) (fin := fun s => (.inl s : List (List Int) ⊕ (List (List Int) × Int))) (s := []) (fun _ _ _ => .inr (.inr ([], 5))) (fun _ _ => True) (by simp; omega) trivial (fun i x s hx _ => by
          have hi := (List.getElem?_eq_some_iff.1 hx).1
          rw [List.length_range] at hi
          refine ⟨?_, fun _ _ => trivial⟩
          refine M.Conv_bind (idx_tab hi) (M.Conv_bind (hG i hi) ?_)
          rw [hf]
          exact M.Conv_ite (fun _ => M.Conv_ret _) (fun t => by simp at t))
        rw [List.length_range] at this
        refine this.of ?_
        have hne : ∃ k, widthN b = k + 1 := ⟨widthN b - 1, by omega⟩
        obtain ⟨k, hk⟩ := hne
        rw [hk, List.range_succ_eq_map]; rfl
      | true =>
        refine Two.iteL (fun t => by simp at t) (fun _ => ?_)
        have hrow : ∀ i, i < widthN b → (subL a (colL b i)).length = widthN a := fun i _ => subL_len _ _
        have hx7 := turn_rows (k := widthN b) (w := widthN a) (f := fun i => subL a (colL b i)) hrow
        have hshp : Shp (tab (widthN b) fun i => subL a (colL b i)) (widthN a) := by rw [hx7]; exact shp_of hbc hac
        have hres : Shp (matF (widthN a) (tab (widthN b) fun i => subL a (colL b i)).length fun i j => entA (tab (widthN b) fun i => subL a (colL b i)) j i) (tab (widthN b) fun i => subL a (colL b i)).length := shp_of hac (by rw [tab_len]; exact hbc)
        refine Two.left (spec_l02Turn_ok hb.shp) (Two.left (x := tab (widthN b) fun i => subL a (colL b i)) ?_ (Two.left (spec_l02Turn_ok hshp) (Two.left (spec_l03Result_ok hres) ?_)))
        · rw [matF_len]
          refine Conv_forV (fun i => tab i fun i => subL a (colL b i)) (by omega) fun i hi => ?_
          exact M.Conv_bind (idx_tab hi) (M.Conv_bind (spec_l08Sub_ok ha rfl (hlc i hi)) (M.Conv_bind (M.Conv_app (by simp [tab_len]; omega)) ((M.Conv_ret _).of (congrArg Sum.inl (tab_snoc i _)))))
        · refine Two.right (hI (v := (_, 0)) ?_) (Two.iteR (fun t => by simp at t) (fun _ => Two.right (impl_checkedMatrix_ok hres) (Two.ret _ (checked_sm hres))))
          rw [matF_len]
          refine M.Conv_bind (x := (Sum.inl (tab (widthN b) fun i => subL a (colL b i)) : List (List Int) ⊕ (List (List Int) × Int))) ?_ (by exact M.Conv_bind (impl_transposed_ok hshp) (M.Conv_ret _))
          have := M.Conv_forI (l := List.range (widthN b)) (f := (fun i1 => (fun (s1 : (List (List Int))) => M.bind (M.idx (matF (widthN b) b.length fun i j => entA b j i) i1) (fun x6 => M.bind (impl_greatestSub a x6) (fun x7 => M.ite (x7.2 != 0) (M.ret (.inr (.inr (([] : List (List Int)), x7.2)))) (M.bind (M.app s1 [x7.1]) (fun l1 => M.ret (.inl l1)))))))) (fin := fun s => (.inl s : List (List Int) ⊕ (List (List Int) × Int))) (s := []) (fun i _ _ => .inl (tab (i + 1) fun i => subL a (colL b i))) (fun i s => s = tab i fun i => subL a (colL b i)) (by simp; omega) rfl (fun i x s hx hs => by
            subst hs
            have hi := (List.getElem?_eq_some_iff.1 hx).1
            rw [List.length_range] at hi
            refine ⟨?_, fun s' e => by cases e; rfl⟩
            refine M.Conv_bind (idx_tab hi) (M.Conv_bind (hG i hi) ?_)
            rw [hf]
            exact M.Conv_ite (fun t => by simp at t) (fun _ => M.Conv_bind (M.Conv_app (by simp [tab_len]; omega)) ((M.Conv_ret _).of (congrArg Sum.inl (tab_snoc i _)))))
          rw [List.length_range] at this
          refine this.of ?_
          have g : ∀ (l : List Nat) (i : Nat), M.run (σ := List (List Int)) (ρ := List (List Int) ⊕ (List (List Int) × Int)) (fun i (_ : Nat) _ => .inl (tab (i + 1) fun i => subL a (colL b i))) (fun s => .inl s) i l (tab i fun i => subL a (colL b i)) = .inl (tab (i + l.length) fun i => subL a (colL b i)) := by
            intro l
            induction l with
            | nil => intro i; rfl
            | cons x xs ih => intro i; simp only [M.run, List.length_cons]; rw [ih (i + 1)]; congr 2; omega
          have := g (List.range (widthN b)) 0
          rwa [List.length_range, Nat.zero_add] at this
    · have hl1 : ((a.length : Int) != (b.length : Int)) = true := by simp; omega
      rw [hl1]
      refine Two.left (M.Conv_ite (fun _ => M.Conv_ret _) (fun t => by simp at t)) (Two.iteL (fun _ => ?_) (fun t => by simp at t))
      refine Two.right (M.Conv_bind (impl_IsMatrix_ok sa) (M.Conv_bind hor2 (M.Conv_ite (fun t => by simp at t) (fun _ => M.Conv_ite (fun _ => M.Conv_ret _) (fun t => by simp at t))))) ?_
      exact Two.ofConv (M.Conv_ret _) (M.Conv_ite (fun _ => M.Conv_ret _) (fun t => by simp at t)) s0

def Rel {α β : Type} (m : M α) (m' : M β) (Q : α → β → Prop) : Prop := ∃ r r', M.Conv m r ∧ M.Conv m' r' ∧ Q r r'
theorem Rel.of {α β : Type} {m : M α} {m' : M β} {Q : α → β → Prop} {r : α} {r' : β} (h : M.Conv m r) (h' : M.Conv m' r') (q : Q r r') : Rel m m' Q := ⟨r, r', h, h', q⟩
theorem Rel.bind {α β γ δ : Type} {m : M α} {m' : M β} {f : α → M γ} {f' : β → M δ} {P : α → β → Prop} {Q : γ → δ → Prop} (h : Rel m m' P) (g : ∀ x x', P x x' → Rel (f x) (f' x') Q) : Rel (M.bind m f) (M.bind m' f') Q := by
  obtain ⟨x, x', h1, h2, p⟩ := h
  obtain ⟨r, r', g1, g2, q⟩ := g x x' p
  exact ⟨r, r', M.Conv_bind h1 g1, M.Conv_bind h2 g2, q⟩
theorem Rel.left {α γ δ : Type} {m : M α} {f : α → M γ} {m' : M δ} {Q : γ → δ → Prop} {x : α} (h : M.Conv m x) (g : Rel (f x) m' Q) : Rel (M.bind m f) m' Q := by
  obtain ⟨r, r', g1, g2, q⟩ := g
  exact ⟨r, r', M.Conv_bind h g1, g2, q⟩
theorem Rel.right {α γ δ : Type} {m : M α} {f : α → M γ} {m' : M δ} {Q : δ → γ → Prop} {x : α} (h : M.Conv m x) (g : Rel m' (f x) Q) : Rel m' (M.bind m f) Q := by
  obtain ⟨r, r', g1, g2, q⟩ := g
  exact ⟨r, r', g1, M.Conv_bind h g2, q⟩
theorem Rel.two {α : Type} {m m' : M α} {P : α → Prop} (h : Rel m m' fun x y => x = y ∧ P x) : Two m m' P := by
  obtain ⟨r, r', h1, h2, rfl, p⟩ := h
  exact ⟨r, h1, h2, p⟩
theorem Rel.iteL {α β : Type} {b : Bool} {x y : M α} {m' : M β} {Q : α → β → Prop} (h1 : b = true → Rel x m' Q) (h2 : b = false → Rel y m' Q) : Rel (M.ite b x y) m' Q := by
  cases b
  · obtain ⟨r, r', g1, g2, q⟩ := h2 rfl
    exact ⟨r, r', M.Conv_ite (fun t => by simp at t) (fun _ => g1), g2, q⟩
  · obtain ⟨r, r', g1, g2, q⟩ := h1 rfl
    exact ⟨r, r', M.Conv_ite (fun _ => g1) (fun t => by simp at t), g2, q⟩
theorem Rel.iteR {α β : Type} {b : Bool} {x y : M β} {m' : M α} {Q : α → β → Prop} (h1 : b = true → Rel m' x Q) (h2 : b = false → Rel m' y Q) : Rel m' (M.ite b x y) Q := by
  cases b
  · obtain ⟨r, r', g1, g2, q⟩ := h2 rfl
    exact ⟨r, r', g1, M.Conv_ite (fun t => by simp at t) (fun _ => g2), q⟩
  · obtain ⟨r, r', g1, g2, q⟩ := h1 rfl
    exact ⟨r, r', g1, M.Conv_ite (fun _ => g2) (fun t => by simp at t), q⟩
theorem Rel.ite {α β : Type} {b b' : Bool} {x y : M α} {x' y' : M β} {Q : α → β → Prop} (e : b = b') (h1 : b = true → Rel x x' Q) (h2 : b = false → Rel y y' Q) : Rel (M.ite b x y) (M.ite b' x' y') Q := by
  subst e
  exact Rel.iteL (fun t => Rel.iteR (fun _ => h1 t) (fun t' => by rw [t] at t'; cases t')) (fun t => Rel.iteR (fun t' => by rw [t] at t'; cases t') (fun _ => h2 t))
theorem Rel.ret {α β : Type} {x : α} {y : β} {Q : α → β → Prop} (q : Q x y) : Rel (M.ret x) (M.ret y) Q := ⟨x, y, M.Conv_ret _, M.Conv_ret _, q⟩
/-- one round of two loops: both go on, or both stop -/
def Round {σ σ' ρ ρ' : Type} (R : σ → σ' → Prop) (Q : ρ → ρ' → Prop) (y : σ ⊕ ρ) (y' : σ' ⊕ ρ') : Prop := (∃ t t', y = .inl t ∧ y' = .inl t' ∧ R t t') ∨ (∃ r r', y = .inr r ∧ y' = .inr r' ∧ Q r r')
theorem Round.on {σ σ' ρ ρ' : Type} {R : σ → σ' → Prop} {Q : ρ → ρ' → Prop} {t : σ} {t' : σ'} (h : R t t') : Round R Q (.inl t) (.inl t') := .inl ⟨t, t', rfl, rfl, h⟩
theorem Rel.for {σ σ' ρ ρ' : Type} {n : Nat} {f : Int → σ → M (σ ⊕ ρ)} {f' : Int → σ' → M (σ' ⊕ ρ')} {fin : σ → ρ} {fin' : σ' → ρ'} {s : σ} {s' : σ'} {Q : ρ → ρ' → Prop} (R : Nat → σ → σ' → Prop) (hn : n ≤ 9223372036854775807) (h0 : R 0 s s')
    (step : ∀ (i : Nat) t t', i < n → R i t t' → Rel (f i t) (f' i t') (Round (R (i + 1)) Q)) (stop : ∀ t t', R n t t' → Q (fin t) (fin' t')) : Rel (M.forI 0 (n : Int) fin f s) (M.forI 0 (n : Int) fin' f' s') Q := by
  have H : ∀ (d i : Nat) t t', i + d = n → R i t t' → ∃ r r', (∃ N, ∀ m, N ≤ m → M.forN (n : Int) fin f m d (i : Int) t = some r) ∧ (∃ N, ∀ m, N ≤ m → M.forN (n : Int) fin' f' m d (i : Int) t' = some r') ∧ Q r r' := by
    intro d
    induction d with
    | zero =>
      intro i t t' e hR
      obtain rfl : i = n := by omega
      exact ⟨fin t, fin' t', ⟨0, fun m _ => by simp [M.forN]⟩, ⟨0, fun m _ => by simp [M.forN]⟩, stop t t' hR⟩
    | succ d ih =>
      intro i t t' e hR
      have hlt : (i : Int) < n := by omega
      obtain ⟨y, y', ⟨N, hy⟩, ⟨N', hy'⟩, hc⟩ := step i t t' (by omega) hR
      rcases hc with ⟨u, u', rfl, rfl, hR⟩ | ⟨r, r', rfl, rfl, hq⟩
      · obtain ⟨r, r', ⟨K, hr⟩, ⟨K', hr'⟩, hq⟩ := ih (i + 1) u u' (by omega) hR
        rw [Int.natCast_add] at hr hr'
        refine ⟨r, r', ⟨max N K, fun m hm => ?_⟩, ⟨max N' K', fun m hm => ?_⟩, hq⟩
        · simp [M.forN, hlt, hy m (by omega)]; exact hr m (by omega)
        · simp [M.forN, hlt, hy' m (by omega)]; exact hr' m (by omega)
      · exact ⟨r, r', ⟨N, fun m hm => by simp [M.forN, hlt, hy m hm]⟩, ⟨N', fun m hm => by simp [M.forN, hlt, hy' m hm]⟩, hq⟩
  obtain ⟨r, r', ⟨N, h1⟩, ⟨N', h2⟩, q⟩ := H n 0 s s' (by omega) h0
  refine ⟨r, r', ⟨N, fun m hm => ?_⟩, ⟨N', fun m hm => ?_⟩, q⟩
  · have := h1 m hm; have hn' : (n : Int) ≤ 9223372036854775807 := by omega
    simp [M.forI, hn']; exact this
  · have := h2 m hm; have hn' : (n : Int) ≤ 9223372036854775807 := by omega
    simp [M.forI, hn']; exact this
/-- a loop with a round count on the left, any loop on the right -/
theorem Rel.loop {σ σ' ρ ρ' : Type} {f : σ → M (σ ⊕ ρ)} {f' : σ' → M (σ' ⊕ ρ')} {s : σ} {s' : σ'} {Q : ρ → ρ' → Prop} (R : σ → σ' → Prop) (μ : σ → Nat) (h0 : R s s')
    (step : ∀ t t', R t t' → Rel (f t) (f' t') (Round (fun u u' => R u u' ∧ μ u < μ t) Q)) : Rel (M.loop f s) (M.loop f' s') Q := by
  have H : ∀ (d : Nat) t t', μ t < d → R t t' → ∃ r r', ConvL f t r ∧ ConvL f' t' r' ∧ Q r r' := by
    intro d
    induction d with
    | zero => intro t t' h; omega
    | succ d ih =>
      intro t t' h hR
      obtain ⟨y, y', hy, hy', hc⟩ := step t t' hR
      rcases hc with ⟨u, u', rfl, rfl, hR, hlt⟩ | ⟨r, r', rfl, rfl, hq⟩
      · obtain ⟨r, r', k1, k2, q⟩ := ih u u' (by omega) hR
        exact ⟨r, r', k1.step hy, k2.step hy', q⟩
      · exact ⟨r, r', ConvL.stop hy, ConvL.stop hy', hq⟩
  obtain ⟨r, r', h1, h2, q⟩ := H (μ s + 1) s s' (by omega) h0
  exact ⟨r, r', h1.conv, h2.conv, q⟩

theorem Conv_check {ρ : Type} {n lo : Nat} {f : Int → Unit → M (Unit ⊕ (Unit ⊕ ρ))} (P : Nat → Prop) (v : ρ) (hn : n ≤ 9223372036854775807)
    (h : ∀ i : Nat, lo ≤ i → i < n → (P i ∧ M.Conv (f i ()) (.inl ())) ∨ (¬ P i ∧ M.Conv (f i ()) (.inr (.inr v)))) :
    ((∀ i, lo ≤ i → i < n → P i) ∧ M.Conv (M.forI (lo : Int) (n : Int) (fun s => .inl s) f ()) (.inl ())) ∨ ((∃ i, lo ≤ i ∧ i < n ∧ ¬ P i) ∧ M.Conv (M.forI (lo : Int) (n : Int) (fun s => .inl s) f ()) (.inr v)) := by
  have H : M.TC (M.forI (lo : Int) (n : Int) (fun s => .inl s) f ()) (fun r => ((∀ i, lo ≤ i → i < n → P i) ∧ r = .inl ()) ∨ ((∃ i, lo ≤ i ∧ i < n ∧ ¬ P i) ∧ r = .inr v)) := by
    refine M.TC_for (fun i _ => ∀ k : Nat, lo ≤ k → (k : Int) < i → P k) () (by omega) (by omega) (fun k h1 h2 => by omega) (fun i s h1 h2 hI => ?_) (fun i s hi hI => ?_)
    · obtain ⟨k, rfl⟩ : ∃ k : Nat, i = (k : Int) := ⟨i.toNat, by omega⟩
      rcases h k (by omega) (by omega) with ⟨hp, hc⟩ | ⟨hp, hc⟩
      · refine hc.tc (.inl ⟨(), rfl, fun q h3 h4 => ?_⟩)
        by_cases e : q = k
        · subst e; exact hp
        · exact hI q h3 (by omega)
      · exact hc.tc (.inr ⟨.inr v, rfl, .inr ⟨⟨k, by omega, by omega, hp⟩, rfl⟩⟩)
    · rcases hi with rfl | ⟨rfl, hle⟩
      · exact .inl ⟨fun q h1 h2 => hI q h1 (by omega), rfl⟩
      · exact .inl ⟨fun q h1 h2 => by omega, rfl⟩
  obtain ⟨r, hr, ⟨h1, rfl⟩ | ⟨h1, rfl⟩⟩ := H
  · exact .inl ⟨h1, hr⟩
  · exact .inr ⟨h1, hr⟩
def nd (l : List Int) (i : Nat) : Int := (l[i]?).getD 0
theorem nd_read {l : List Int} {i : Nat} (h : i < l.length) : M.Conv (M.idx l (i : Int)) (nd l i) := by
  have : l[i]? = some (l[i]'h) := List.getElem?_eq_getElem _
  refine M.Conv_idx ?_
  unfold nd; rw [this]; rfl
def OkNodes (n : Nat) (l : List Int) : Prop := ∀ i, i < l.length → (0 ≤ nd l i ∧ nd l i ≤ (n : Int) - 1) ∧ (0 < i → nd l (i - 1) < nd l i)
theorem OkNodes.len {n : Nat} {l : List Int} (h : OkNodes n l) : l.length ≤ n := by
  have key : ∀ i, i < l.length → (i : Int) ≤ nd l i := by
    intro i
    induction i with
    | zero => intro hi; have := (h 0 hi).1; omega
    | succ i ih => intro hi; have := (h (i + 1) hi).2 (by omega); have := ih (by omega); simp only [Nat.add_sub_cancel] at *; omega
  by_cases e : l.length = 0
  · omega
  · have := key (l.length - 1) (by omega)
    have := (h (l.length - 1) (by omega)).1
    omega
theorem get_row' {l : List Int} {i : Nat} {x : Int} (h : l[i]? = some x) : M.Conv (M.idx l (i : Int)) x := M.Conv_idx h
theorem Conv_forK {σ ρ : Type} {n k : Nat} {f : Int → σ → M (σ ⊕ ρ)} {fin : σ → ρ} {r : ρ} (st : Nat → σ) (hn : n ≤ 9223372036854775807) (hk : k ≤ n) (h : ∀ i, i < k → M.Conv (f i (st i)) (.inl (st (i + 1))))
    (hs : k < n → M.Conv (f k (st k)) (.inr r)) (he : k = n → fin (st k) = r) : M.Conv (M.forI 0 (n : Int) fin f (st 0)) r := by
  apply M.TC.conv
  refine M.TC_for (fun i s => ∃ q : Nat, i = (q : Int) ∧ q ≤ k ∧ s = st q) _ (by omega) (by omega) ⟨0, rfl, by omega, rfl⟩ (fun i s h1 h2 hI => ?_) (fun i s hi hI => ?_)
  · obtain ⟨q, rfl, hq, rfl⟩ := hI
    by_cases e : q < k
    · exact (h q e).tc (.inl ⟨_, rfl, q + 1, by omega, by omega, rfl⟩)
    · obtain rfl : q = k := by omega
      exact (hs (by omega)).tc (.inr ⟨_, rfl, rfl⟩)
  · obtain ⟨q, rfl, hq, rfl⟩ := hI
    obtain rfl : q = k := by omega
    exact he (by omega)
structure ByC (code : List Int) : Prop where
  len : code.length ≤ 4096
  byte : ∀ x ∈ code, 0 ≤ x ∧ x ≤ 255
structure Src (code : List Int) (s : TL01source) : Prop where
  code_ : s.code = code
  lo : 0 ≤ s.at_
  hi : s.at_ ≤ code.length
  seed : 0 ≤ s.seed ∧ s.seed < 2147483647
theorem Src.mk' {code : List Int} {s : TL01source} {c : List Int} (h : Src code s) (hc : c = code) : Src code ⟨c, s.at_, s.seed⟩ := ⟨hc, h.lo, h.hi, h.seed⟩
theorem tmod_in {x n : Int} (hx : 0 ≤ x) (hn : 0 < n) : 0 ≤ x.tmod n ∧ x.tmod n < n := ⟨Int.tmod_nonneg n hx, Int.tmod_lt_of_pos x hn⟩
theorem tdiv_in {x : Int} (hx : 0 ≤ x) (h : x < 2147483647) : 0 ≤ x.tdiv 31 ∧ x.tdiv 31 < 2147483647 := by
  rw [Int.tdiv_eq_ediv_of_nonneg hx]; omega
theorem from_ok {code : List Int} (hc : ByC code) : M.TC (spec_l01From code) (Src code) := by
  have hl := hc.len
  unfold spec_l01From
  refine M.TC_bind (Mid := fun x => 0 ≤ x.1 ∧ x.1 < 2147483647) (M.TC_loop (fun (s : Int × Int) => (0 ≤ s.1 ∧ s.1 < 2147483647) ∧ 0 ≤ s.2 ∧ s.2 ≤ 4096) (fun s => (4096 - s.2).toNat) (61403, 0) (by simp) fun s hs => ?_) fun x hx => M.TC_ret ⟨rfl, by simp, by simp, hx⟩
  refine M.TC_ite (fun t => ?_) (fun _ => M.TC_ret (.inr ⟨_, rfl, hs.1⟩))
  simp only [Bool.and_eq_true, decide_eq_true_eq] at t
  refine M.TC_bind (Mid := fun x => 0 ≤ x ∧ x ≤ 255) (M.TC_idx hs.2.1 t.1 fun x hx => hc.byte x (List.mem_of_getElem? hx)) fun x hx => M.TC_ret (.inl ⟨_, rfl, ?_, ?_⟩)
  · have e1 : w64 (s.1 * 67) = s.1 * 67 := w64_eq _ (by omega)
    have e2 : w64 x = x := w64_eq _ (by omega)
    have e3 : w64 (s.1 * 67 + x) = s.1 * 67 + x := w64_eq _ (by omega)
    have e4 : w64 (s.2 + 1) = s.2 + 1 := w64_eq _ (by omega)
    simp only [e1, e2, e3, e4]
    exact ⟨tmod_in (by omega) (by omega), by omega, by omega⟩
  · simp only
    rw [w64_eq _ (by omega)]; omega
theorem next_ok {code : List Int} (hc : ByC code) {s : TL01source} (hs : Src code s) (n : Int) (hn : n ≤ 1000000) : M.TC (spec_l01Next s n) (fun r => Src code r.2 ∧ 0 ≤ r.1 ∧ (r.1 < n ∨ (n ≤ 1 ∧ r.1 = 0))) := by
  have hl := hc.len
  obtain ⟨h1, h2, h3, h4⟩ := hs
  unfold spec_l01Next
  refine M.TC_ite (fun t => M.TC_ret ⟨⟨h1, h2, h3, h4⟩, by simp, .inr ⟨by simpa using t, rfl⟩⟩) (fun t => ?_)
  have t : 1 < n := by simpa using t
  have e1 : w64 (s.seed * 48271) = s.seed * 48271 := w64_eq _ (by omega)
  have e2 : w64 (s.seed * 48271 + 59) = s.seed * 48271 + 59 := w64_eq _ (by omega)
  have hsd := tmod_in (x := s.seed * 48271 + 59) (n := 2147483647) (by omega) (by omega)
  simp only [e1, e2]
  generalize (s.seed * 48271 + 59).tmod 2147483647 = sd at hsd ⊢
  have hq := tdiv_in hsd.1 hsd.2
  generalize sd.tdiv 31 = q at hq ⊢
  have e3 : w64 q = q := w64_eq _ (by omega)
  have e4 : w64 (s.at_ + 1) = s.at_ + 1 := w64_eq _ (by omega)
  simp only [e3, e4, h1]
  refine M.TC_bind (Mid := fun (x : Int × Int) => 0 ≤ x.1 ∧ 0 ≤ x.2 ∧ x.2 ≤ code.length) ?_ (fun x hx => M.TC_bind (M.TC_guard (Post := fun _ => True) (by simp; omega) trivial) fun _ _ => M.TC_ret ⟨⟨rfl, hx.2.1, hx.2.2, hsd⟩, (tmod_in hx.1 (by omega)).1, .inl (tmod_in hx.1 (by omega)).2⟩)
  refine M.TC_ite (fun t => ?_) (fun _ => M.TC_ret ⟨hq.1, h2, h3⟩)
  have t : s.at_ < code.length := by simpa using t
  refine M.TC_bind (Mid := fun x => 0 ≤ x ∧ x ≤ 255) (M.TC_idx h2 t fun x hx => hc.byte x (List.mem_of_getElem? hx)) fun x hx => ?_
  refine M.TC_ite (fun _ => ?_) (fun _ => M.TC_ret ⟨?_, by simp only; omega, by simp only; omega⟩)
  · have e5 : w64 (s.at_ + 1 - 1) = s.at_ := by rw [w64_eq _ (by omega)]; omega
    rw [e5]
    refine M.TC_bind (Mid := fun x => 0 ≤ x ∧ x ≤ 255) (M.TC_idx h2 t fun x hx => hc.byte x (List.mem_of_getElem? hx)) fun x hx => M.TC_ret ⟨?_, by simp only; omega, by simp only; omega⟩
    simp only
    rw [w64_eq _ (by omega)]; exact hx.1
  · simp only
    rw [w64_eq x (by omega), w64_eq _ (by omega)]; omega
theorem pick_ok {code : List Int} (hc : ByC code) {s : TL01source} (hs : Src code s) (l : List Int) (h1 : 1 ≤ l.length) (h2 : l.length ≤ 1000) (P : Int → Prop) (hP : ∀ x ∈ l, P x) : M.TC (spec_l01Pick s l) (fun r => Src code r.2.1 ∧ P r.1) := by
  unfold spec_l01Pick
  refine M.TC_bind (next_ok hc hs l.length (by omega)) fun x hx => M.TC_bind (Mid := P) (M.TC_idx hx.2.1 (by omega) fun y hy => hP y (List.mem_of_getElem? hy)) fun y hy => M.TC_ret ⟨hx.1.mk' hs.code_, hy⟩
theorem value_ok {code : List Int} (hc : ByC code) {s : TL01source} (hs : Src code s) : M.TC (spec_l01DrawValue s) (fun r => Src code r.2 ∧ inI64 r.1) := by
  unfold spec_l01DrawValue
  refine M.TC_bind (next_ok hc hs 24 (by omega)) fun x hx => ?_
  refine M.TC_bind (Mid := fun _ => True) (M.TC_ite (fun _ => M.TC_ret trivial) (fun _ => M.TC_ite (fun _ => M.TC_ret trivial) (fun _ => M.TC_ret trivial))) fun b _ => ?_
  refine M.TC_ite (fun _ => M.TC_ret ⟨hx.1.mk' hs.code_, by simp [inI64]⟩) (fun _ => M.TC_ite (fun _ => ?_) (fun _ => M.TC_ite (fun _ => ?_) (fun _ => ?_)))
  · exact M.TC_bind (pick_ok hc (hx.1.mk' hs.code_) _ (by simp) (by simp) inI64 (by simp [inI64])) fun y hy => M.TC_ret ⟨hy.1.mk' hs.code_, hy.2⟩
  · exact M.TC_bind (next_ok hc (hx.1.mk' hs.code_) 2000 (by omega)) fun y hy => M.TC_ret ⟨hy.1.mk' hs.code_, w64_bd _⟩
  · exact M.TC_bind (next_ok hc (hx.1.mk' hs.code_) 41 (by omega)) fun y hy => M.TC_ret ⟨hy.1.mk' hs.code_, w64_bd _⟩
/-- what a drawn matrix is at least: not large, of numbers -/
structure MatS (a : List (List Int)) : Prop where
  rows : a.length ≤ 11
  row : ∀ r ∈ a, r.length ≤ 10 ∧ ∀ x ∈ r, inI64 x
theorem MatS.sm {a : List (List Int)} (h : MatS a) : smII a := ⟨by have := h.rows; omega, fun r hr => by have := (h.row r hr).1; omega⟩
theorem MatS.fit {a : List (List Int)} (h : MatS a) : fitL (fitL inI64) a := ⟨by have := h.rows; omega, fun r hr => ⟨by have := (h.row r hr).1; omega, (h.row r hr).2⟩⟩
theorem MatS.of {m n : Nat} {f : Nat → Nat → Int} (hm : m ≤ 10) (hn : n ≤ 10) (hf : ∀ i j, inI64 (f i j)) : MatS (matF m n f) := by
  refine ⟨by rw [matF_len]; omega, fun r hr => ?_⟩
  simp only [matF, tab, List.mem_map, List.mem_range] at hr
  obtain ⟨i, hi, rfl⟩ := hr
  refine ⟨by simp; omega, fun x hx => ?_⟩
  simp only [List.mem_map, List.mem_range] at hx
  obtain ⟨j, hj, rfl⟩ := hx
  exact hf i j
theorem size_ok {code : List Int} (hc : ByC code) {s : TL01source} (hs : Src code s) (m n : Nat) (hm : 1 ≤ m ∧ m ≤ 10) (hn : 1 ≤ n ∧ n ≤ 10) : M.TC (spec_l02DrawSize s (m : Int) (n : Int)) (fun r => MatS r.1 ∧ Src code r.2) := by
  unfold spec_l02DrawSize
  rw [hs.code_]
  refine M.TC_bindC (spec_l02Bottom_ok (by omega) (by omega)) (M.TC_bind (pick_ok hc hs _ (by simp) (by simp) (fun x => 2 ≤ x ∧ x ≤ 5) (by simp)) fun p hp => ?_)
  refine M.TC_bind (Mid := fun (r : Int × Int × List (List Int)) => Src code ⟨code, r.1, r.2.1⟩ ∧ ∃ f, r.2.2 = matF m n f ∧ ∀ i j, inI64 (f i j)) (M.TC_for (fun _ (r : Int × Int × List (List Int)) => Src code ⟨code, r.1, r.2.1⟩ ∧ ∃ f, r.2.2 = matF m n f ∧ ∀ i j, inI64 (f i j)) _ (by omega) (by omega) ⟨hp.1.mk' rfl, _, rfl, fun _ _ => by simp [inI64]⟩ (fun i r h1 h2 hI => ?_) (fun _ _ _ hI => hI)) fun r hr => ?_
  · refine M.TC_bind (Mid := fun (r : Int × Int × List (List Int)) => Src code ⟨code, r.1, r.2.1⟩ ∧ ∃ f, r.2.2 = matF m n f ∧ ∀ i j, inI64 (f i j)) (M.TC_for (fun _ (r : Int × Int × List (List Int)) => Src code ⟨code, r.1, r.2.1⟩ ∧ ∃ f, r.2.2 = matF m n f ∧ ∀ i j, inI64 (f i j)) _ (by omega) (by omega) hI (fun j r h3 h4 hI => ?_) (fun _ _ _ hI => hI)) fun r hr => M.TC_ret (.inl ⟨_, rfl, hr⟩)
    obtain ⟨hsr, f, hf, hfi⟩ := hI
    refine M.TC_bind (next_ok hc hsr p.1 (by omega)) fun x hx => ?_
    refine M.TC_bind (Mid := fun (r : Int × Int × List (List Int)) => Src code ⟨code, r.1, r.2.1⟩ ∧ ∃ f, r.2.2 = matF m n f ∧ ∀ i j, inI64 (f i j)) (M.TC_ite (fun _ => ?_) (fun _ => M.TC_ret ⟨hx.1.mk' rfl, f, hf, hfi⟩)) fun r hr => M.TC_ret (.inl ⟨_, rfl, hr⟩)
    rw [hf]
    obtain ⟨i', rfl⟩ : ∃ q : Nat, i = (q : Int) := ⟨i.toNat, by omega⟩
    obtain ⟨j', rfl⟩ : ∃ q : Nat, j = (q : Int) := ⟨j.toNat, by omega⟩
    refine M.TC_bindC (idx_tab (by omega)) (M.TC_bind (next_ok hc (hx.1.mk' rfl) 26 (by omega)) fun y hy => ?_)
    refine M.TC_bindC (idx_tab (by omega)) (M.TC_bindC (M.Conv_upd (by rw [tab_len]; omega)) (M.TC_ret ⟨hy.1.mk' rfl, fun p q => if p = i' ∧ q = j' then w64 (y.1 - 10) else f p q, ?_, fun p q => ?_⟩))
    · simp only [Int.toNat_natCast]
      have := matF_set (m := m) (n := n) (i := i') (j := j') (f := f) (g := fun p q => if p = i' ∧ q = j' then w64 (y.1 - 10) else f p q) (fun p q _ _ hpq => by rw [if_neg hpq])
      simpa using this
    · simp only
      split
      · exact w64_bd _
      · exact hfi p q
  · obtain ⟨hsr, f, hf, hfi⟩ := hr
    refine M.TC_bind (next_ok hc hsr 60 (by omega)) fun x hx => ?_
    rw [hf]
    have hM := MatS.of (m := m) (n := n) hm.2 hn.2 hfi
    refine M.TC_ite (fun _ => ?_) (fun _ => M.TC_ite (fun _ => ?_) (fun _ => M.TC_ite (fun _ => ?_) (fun _ => M.TC_ret ⟨hM, hx.1.mk' rfl⟩)))
    · refine M.TC_bindC (idx_tab (i := 0) (by omega)) (M.TC_bind (value_ok hc (hx.1.mk' rfl)) fun y hy => ?_)
      refine M.TC_bindC (idx_tab (i := 0) (by omega)) (M.TC_bindC (M.Conv_upd (i := 0) (by rw [tab_len]; omega)) (M.TC_ret ⟨?_, hy.1.mk' rfl⟩))
      have := matF_set (m := m) (n := n) (i := 0) (j := 0) (f := f) (g := fun p q => if p = 0 ∧ q = 0 then y.1 else f p q) (fun p q _ _ hpq => by rw [if_neg hpq])
      rw [if_pos ⟨rfl, rfl⟩] at this
      rw [this]
      refine MatS.of hm.2 hn.2 fun p q => ?_
      split
      · exact hy.2
      · exact hfi p q
    · refine M.TC_bindC (M.Conv_app (by rw [matF_len]; simp; omega)) (M.TC_ret ⟨⟨by simp [matF_len]; omega, fun r hr => ?_⟩, hx.1.mk' rfl⟩)
      rcases List.mem_append.1 hr with hr | hr
      · exact hM.row r hr
      · simp at hr; subst hr; simp
    · exact M.TC_ret ⟨⟨by simp, by simp⟩, hx.1.mk' rfl⟩

structure VecS (x : List Int) : Prop where
  len : x.length ≤ 20
  mem : ∀ v ∈ x, inI64 v
theorem VecS.sm {x : List Int} (h : VecS x) : smI x := by have := h.len; unfold smI; omega
theorem VecS.fit {x : List Int} (h : VecS x) : fitL inI64 x := ⟨by have := h.len; omega, h.mem⟩
theorem VecS.set {x : List Int} {v : Int} (i : Nat) (h : VecS x) (hv : inI64 v) : VecS (x.set i v) := ⟨by rw [List.length_set]; exact h.len, fun y hy => by
  rcases List.mem_or_eq_of_mem_set hy with hy | hy
  · exact h.mem y hy
  · subst hy; exact hv⟩
theorem draw_ok {code : List Int} (hc : ByC code) {s : TL01source} (hs : Src code s) : M.TC (spec_l02Draw s) (fun r => MatS r.1 ∧ Src code r.2) := by
  unfold spec_l02Draw
  rw [hs.code_]
  refine M.TC_bind (next_ok hc hs 4 (by omega)) fun x hx => M.TC_bind (next_ok hc (hx.1.mk' rfl) 4 (by omega)) fun y hy => ?_
  have e1 : w64 (1 + x.1) = ((x.1.toNat + 1 : Nat) : Int) := by rw [w64_eq _ (by omega)]; omega
  have e2 : w64 (1 + y.1) = ((y.1.toNat + 1 : Nat) : Int) := by rw [w64_eq _ (by omega)]; omega
  rw [e1, e2]
  exact M.TC_bind (size_ok hc (hy.1.mk' rfl) _ _ (by omega) (by omega)) fun z hz => M.TC_ret ⟨hz.1, hz.2.mk' rfl⟩
theorem likeInts_refl {a : List Int} (h : a.length ≤ 1099511627776) : M.Conv (laws_likeInts a a) true := by
  unfold laws_likeInts
  refine M.Conv_ite (fun t => by simp at t) (fun _ => ?_)
  rcases Conv_check (ρ := Bool) (n := a.length) (lo := 0) (f := (fun i1 => (fun (_ : Unit) => M.bind (M.idx a i1) (fun x2 => M.bind (M.idx a i1) (fun x3 => M.ite (x2 != x3) (M.ret (.inr (.inr false))) (M.ret (.inl ()))))))) (fun _ => True) false (by omega) (fun i _ hi => .inl ⟨trivial, M.Conv_bind (nd_read hi) (M.Conv_bind (nd_read hi) (M.Conv_ite (fun t => by simp at t) (fun _ => M.Conv_ret _)))⟩) with ⟨_, h2⟩ | ⟨⟨i, _, _, h3⟩, _⟩
  · exact M.Conv_bind h2 (M.Conv_ret _)
  · exact absurd trivial h3
theorem below_ok {a b : List Int} (hl : a.length = b.length) (h : a.length ≤ 1099511627776) (hle : ∀ i, i < a.length → nd a i ≤ nd b i) : M.Conv (laws_below9 a b) true := by
  unfold laws_below9
  refine M.Conv_ite (fun t => by simp [hl] at t) (fun _ => ?_)
  rcases Conv_check (ρ := Bool) (n := a.length) (lo := 0) (f := (fun i1 => (fun (_ : Unit) => M.bind (M.idx a i1) (fun x2 => M.bind (M.idx b i1) (fun x3 => M.ite (decide (x3 < x2)) (M.ret (.inr (.inr false))) (M.ret (.inl ()))))))) (fun _ => True) false (by omega) (fun i _ hi => .inl ⟨trivial, M.Conv_bind (nd_read hi) (M.Conv_bind (nd_read (by omega)) (M.Conv_ite (fun t => by have := hle i hi; simp at t; omega) (fun _ => M.Conv_ret _)))⟩) with ⟨_, h2⟩ | ⟨⟨i, _, _, h3⟩, _⟩
  · exact M.Conv_bind h2 (M.Conv_ret _)
  · exact absurd trivial h3

theorem foldI_at {σ α : Type} {g : Nat → α → σ → σ} {a : List α} (J : Nat → σ → Prop) : ∀ (l : List α) (i : Nat) (s : σ), (∀ k, l[k]? = a[i + k]?) → J i s → (∀ k x s, a[k]? = some x → J k s → J (k + 1) (g k x s)) → J (i + l.length) (foldI g i l s)
  | [], i, s, _, h, _ => h
  | x :: xs, i, s, hl, h, step => by
    have h0 : a[i]? = some x := by have := hl 0; simpa using this.symm
    have := foldI_at J xs (i + 1) (g i x s) (fun k => by have := hl (k + 1); simp only [List.getElem?_cons_succ] at this; rw [this]; congr 1; omega) (step i x s h0 h) step
    rw [show i + (x :: xs).length = i + 1 + xs.length by simp; omega]
    exact this
theorem ent_at {a : List (List Int)} {i j : Nat} {row : List Int} (h : a[i]? = some row) : entA a i j = (row[j]?).getD 0 := by simp only [entA, h, Option.getD_some]
theorem val_nd {b : List Int} (hb : ∀ x ∈ b, valB x = true) {i : Nat} (hi : i < b.length) : nd b i = -1000000000000000 ∨ (-1000000 ≤ nd b i ∧ nd b i ≤ 1000000) := by
  have : b[i]? = some b[i] := List.getElem?_eq_getElem hi
  have e : nd b i = b[i] := by unfold nd; rw [this]; rfl
  rw [e]
  exact val_cases (hb _ (List.getElem_mem hi))
theorem val_ent {a : List (List Int)} {w i j : Nat} (hm : Mat a w) (hi : i < a.length) (hj : j < w) : entA a i j = -1000000000000000 ∨ (-1000000 ≤ entA a i j ∧ entA a i j ≤ 1000000) := val_cases (ent_val hm hi hj).2.2
structure ColP (a : List (List Int)) (b : List Int) (j : Nat) (x : Int) : Prop where
  band : bandB x
  below : ∀ i, i < a.length → entA a i j ≠ -1000000000000000 → x ≠ -1000000000000000 → nd b i ≠ -1000000000000000 ∧ entA a i j + x ≤ nd b i
  tight : ∃ i, i < a.length ∧ entA a i j ≠ -1000000000000000 ∧ (nd b i = -1000000000000000 ∨ (x ≠ -1000000000000000 ∧ entA a i j + x = nd b i))
theorem colS_props {a : List (List Int)} {b : List Int} {w j : Nat} (hm : Mat a w) (hj : j < w) (hl : b.length = a.length) (hb : ∀ x ∈ b, valB x = true) (hf : (colS a b j).2 = true) : ColP a b j (colS a b j).1 := by
  have hband := colS_band hm hj hb
  have quo : ∀ i, i < a.length → entA a i j ≠ -1000000000000000 → (nd b i = -1000000000000000 ∧ quoC b i (entA a i j) = -1000000000000000) ∨ (nd b i ≠ -1000000000000000 ∧ quoC b i (entA a i j) = nd b i - entA a i j) := by
    intro i hi hne
    have h1 := val_nd hb (i := i) (by omega)
    have h2 := val_ent hm hi hj
    unfold quoC
    change (nd b i = _ ∧ (bif nd b i == _ then _ else w64 (nd b i - _)) = _) ∨ (_ ∧ (bif nd b i == _ then _ else w64 (nd b i - _)) = _)
    by_cases e : nd b i = -1000000000000000
    · left; rw [e]; exact ⟨rfl, rfl⟩
    · right
      rw [show (nd b i == -1000000000000000) = false by simpa using e]
      exact ⟨e, w64_eq _ (by omega)⟩
  have inv := foldI_at (g := stepC b j) (a := a) (fun k (s : Int × Bool) => k ≤ a.length ∧ (s.2 = false → ∀ i, i < k → entA a i j = -1000000000000000) ∧ (s.2 = true → (∀ i, i < k → entA a i j ≠ -1000000000000000 → s.1 ≤ quoC b i (entA a i j)) ∧ ∃ i, i < k ∧ entA a i j ≠ -1000000000000000 ∧ s.1 = quoC b i (entA a i j))) a 0 (0, false) (fun k => by simp) ⟨by omega, fun _ i h => by omega, fun h => by simp at h⟩ (fun k row s hr hI => by
    obtain ⟨_, h1, h2⟩ := hI
    have hk := (List.getElem?_eq_some_iff.1 hr).1
    have he := ent_at (j := j) hr
    unfold stepC
    rw [← he]
    cases hz : (entA a k j == (-1000000000000000)) with
    | true =>
      have hz : entA a k j = -1000000000000000 := by simpa using hz
      refine ⟨by omega, fun hs i hi => ?_, fun hs => ?_⟩
      · by_cases e : i = k
        · subst e; exact hz
        · exact h1 hs i (by omega)
      · obtain ⟨g1, i0, g2, g3, g4⟩ := h2 hs
        refine ⟨fun i hi hne => ?_, i0, by omega, g3, g4⟩
        by_cases e : i = k
        · subst e; exact absurd hz hne
        · exact g1 i (by omega) hne
    | false =>
      have hz : entA a k j ≠ -1000000000000000 := by simpa using hz
      simp only [cond_false]
      cases hs : s.2 with
      | false =>
        simp only [Bool.not_false, Bool.true_or, cond_true]
        refine ⟨by omega, fun h => by simp at h, fun _ => ⟨fun i hi hne => ?_, k, by omega, hz, rfl⟩⟩
        by_cases e : i = k
        · subst e; exact Int.le_refl _
        · exact absurd (h1 hs i (by omega)) hne
      | true =>
        obtain ⟨g1, i0, g2, g3, g4⟩ := h2 hs
        simp only [Bool.not_true, Bool.false_or]
        by_cases hlt : quoC b k (entA a k j) < s.1
        · rw [decide_eq_true hlt]
          refine ⟨by omega, fun h => by simp at h, fun _ => ⟨fun i hi hne => ?_, k, by omega, hz, rfl⟩⟩
          simp only [cond_true]
          by_cases e : i = k
          · subst e; exact Int.le_refl _
          · have := g1 i (by omega) hne; omega
        · rw [decide_eq_false hlt]
          simp only [cond_false]
          refine ⟨by omega, fun h => (by rw [hs] at h; cases h), fun _ => ⟨fun i hi hne => ?_, i0, by omega, g3, g4⟩⟩
          by_cases e : i = k
          · subst e; omega
          · exact g1 i (by omega) hne)
  obtain ⟨_, _, h2⟩ := inv
  obtain ⟨g1, i0, g2, g3, g4⟩ := h2 hf
  rw [Nat.zero_add] at g1 g2
  refine ⟨hband, fun i hi hne hx => ?_, i0, g2, g3, ?_⟩
  · have h := g1 i hi hne
    change (colS a b j).1 ≤ _ at h
    rcases quo i hi hne with ⟨q1, q2⟩ | ⟨q1, q2⟩
    · rw [q2] at h
      rcases hband with hb' | hb'
      · exact absurd hb' hx
      · omega
    · exact ⟨q1, by omega⟩
  · change (colS a b j).1 = _ at g4
    rcases quo i0 g2 g3 with ⟨q1, q2⟩ | ⟨q1, q2⟩
    · exact .inl q1
    · right
      have h1 := val_nd hb (i := i0) (by omega)
      have h2 := val_ent hm g2 hj
      omega
theorem subL_nd {a : List (List Int)} {b : List Int} {j : Nat} (hj : j < widthN a) : nd (subL a b) j = (colS a b j).1 := by
  unfold nd subL
  rw [List.getElem?_map, List.getElem?_range hj]; rfl
theorem big_ok (code : List Int) : M.Conv (laws_big code) (decide (4096 < (code.length : Int))) := M.Conv_ret _
theorem ByC.of {code : List Int} (h : fitL inU8 code) (hb : decide (4096 < (code.length : Int)) = false) : ByC code := ⟨by have := of_decide_eq_false hb; omega, fun x hx => h.2 x hx⟩
def co (c : List Int) (i : Nat) : Int := (c[i]?).getD (-1000000000000000)
theorem co_get {c : List Int} {i : Nat} (h : i < c.length) : c[i]? = some (co c i) := by
  unfold co; rw [List.getElem?_eq_getElem h]; rfl
theorem co_out {c : List Int} {i : Nat} (h : c.length ≤ i) : co c i = -1000000000000000 := by
  unfold co; rw [List.getElem?_eq_none h]; rfl
theorem co_val {c : List Int} (hv : c.all valB = true) (i : Nat) : co c i = -1000000000000000 ∨ -1000000 ≤ co c i ∧ co c i ≤ 1000000 := by
  by_cases hi : i < c.length
  · rw [List.all_eq_true] at hv
    exact val_cases (hv _ (List.mem_of_getElem? (co_get hi)))
  · exact .inl (co_out (by omega))
theorem times_co {a p : Int} (h : a ≠ -1000000000000000) (ha : -1000000 ≤ a ∧ a ≤ 1000000) (hp : -1000000 ≤ p ∧ p ≤ 1000000) : timesI a p = a + p := by
  simp only [timesI]
  rw [show (a == (-1000000000000000)) = false by simpa using h, show (p == (-1000000000000000)) = false by simp; omega]
  exact w64_eq _ (by omega)
theorem times_bot (p : Int) : timesI (-1000000000000000) p = -1000000000000000 := by simp [timesI]
structure IsEv (c : List Int) (x v : Int) : Prop where
  up : ∀ i : Nat, co c i ≠ -1000000000000000 → co c i + i * x ≤ v
  on : ∃ i : Nat, co c i ≠ -1000000000000000 ∧ v = co c i + i * x
theorem IsEv.unique {c : List Int} {x v w : Int} (h : IsEv c x v) (g : IsEv c x w) : v = w := by
  obtain ⟨i, h1, h2⟩ := h.on
  obtain ⟨k, g1, g2⟩ := g.on
  have := h.up k g1
  have := g.up i h1
  omega
structure PartP (c d : List Int) (n i k : Nat) (s : List Int) : Prop where
  len : s.length = n
  up : ∀ p q : Nat, (p < i ∨ p = i ∧ q < k) → co c p ≠ -1000000000000000 → co d q ≠ -1000000000000000 → co c p + co d q ≤ co s (p + q)
  on : ∀ m : Nat, co s m = -1000000000000000 ∨ ∃ p q : Nat, p + q = m ∧ co c p ≠ -1000000000000000 ∧ co d q ≠ -1000000000000000 ∧ co s m = co c p + co d q
theorem co_set {s : List Int} {i m : Nat} {v : Int} (hi : i < s.length) : co (s.set i v) m = if m = i then v else co s m := by
  unfold co
  by_cases e : m = i
  · subst e; rw [if_pos rfl, List.getElem?_set_self hi]; rfl
  · rw [if_neg e, List.getElem?_set_ne (by omega)]
theorem PartP.step {c d s : List Int} {n i k : Nat} (hc : c.all valB = true) (hd : d.all valB = true) (h : PartP c d n i k s) (hn : i + k < n) : PartP c d n i (k + 1) (s.set (i + k) (mx (co s (i + k)) (timesI (co c i) (co d k)))) := by
  have hlt : i + k < s.length := by rw [h.len]; exact hn
  have vc := co_val hc i
  have vd := co_val hd k
  have vs : co s (i + k) = -1000000000000000 ∨ -2000000 ≤ co s (i + k) := by
    rcases h.on (i + k) with e | ⟨p, q, _, h1, h2, e⟩
    · exact .inl e
    · have := co_val hc p
      have := co_val hd q
      omega
  -- the new coefficient
  have hz : (mx (co s (i + k)) (timesI (co c i) (co d k)) = co s (i + k) ∧ (co c i = -1000000000000000 ∨ co d k = -1000000000000000 ∨ co c i + co d k ≤ co s (i + k))) ∨ (mx (co s (i + k)) (timesI (co c i) (co d k)) = co c i + co d k ∧ co c i ≠ -1000000000000000 ∧ co d k ≠ -1000000000000000 ∧ co s (i + k) ≤ co c i + co d k) := by
    rw [mx_eq]
    by_cases e1 : co c i = -1000000000000000
    · rw [e1, times_bot]; left; omega
    · by_cases e2 : co d k = -1000000000000000
      · rw [e2, show timesI (co c i) (-1000000000000000) = -1000000000000000 by simp [timesI]]; left; omega
      · rw [times_co e1 (by omega) (by omega)]
        by_cases e3 : co c i + co d k ≤ co s (i + k)
        · left; omega
        · right; omega
  refine ⟨by rw [List.length_set]; exact h.len, fun p q hpq h1 h2 => ?_, fun m => ?_⟩
  · rw [co_set hlt]
    by_cases e : p + q = i + k
    · rw [if_pos e]
      by_cases e2 : p = i ∧ q = k
      · obtain ⟨rfl, rfl⟩ := e2; omega
      · have := h.up p q (by omega) h1 h2
        rw [e] at this
        omega
    · rw [if_neg e]
      exact h.up p q (by omega) h1 h2
  · rw [co_set hlt]
    by_cases e : m = i + k
    · rw [if_pos e]
      rcases hz with ⟨hz, _⟩ | ⟨hz, h1, h2, _⟩
      · rw [hz]
        have := h.on m
        rw [e] at this ⊢
        exact this
      · exact .inr ⟨i, k, e.symm, h1, h2, hz⟩
    · rw [if_neg e]; exact h.on m
theorem shp_width {a : List (List Int)} {w : Nat} (h : Shp a w) : widthN a = w := by
  have h1 := h.rows
  unfold widthN
  cases a with
  | nil => simp at h1
  | cons r rs => exact h.row r (by simp)
theorem mat_matB {a : List (List Int)} {w : Nat} (h : Mat a w) : matB a = true := by
  rw [matB_shp h.shp, List.all_eq_true]
  intro r hr
  rw [List.all_eq_true]
  exact (h.row r hr).2
theorem mat_turn {a : List (List Int)} {w : Nat} (h : Mat a w) : Mat (matF w a.length fun i j => entA a j i) a.length :=
  mat_of h.cols h.rows fun _ _ hi hj => (ent_val h hj hi).2.2
theorem smII_nil : smII ([] : List (List Int)) := ⟨by simp, by simp⟩
/-- the left quotient, its entries not yet looked at -/
def lqV (a b : List (List Int)) : List (List Int) × Int := bif decide (a.length = b.length) && fitsB a [] then (matF (widthN a) (widthN b) fun i j => nd (subL a (colL b j)) i, 0) else ([], 5)
theorem impl_leftQuotient_ok {a b : List (List Int)} (hab : matB a = true) (hbb : matB b = true) (sa : smII a) (sb : smII b) : M.Conv (impl_leftQuotient a b) (lqV a b) := by
  have ha := matB_mat hab
  have hb := matB_mat hbb
  have har := ha.rows
  have hac := ha.cols
  have hbr := hb.rows
  have hbc := hb.cols
  have hor2 : M.Conv (M.ite (!(matB a)) (M.ret true) (M.bind (impl_IsMatrix b) (fun x3 => M.ret (!x3)))) false := (Conv_or (v := !(matB b)) fun _ => M.Conv_bind (impl_IsMatrix_ok sb) (M.Conv_ret _)).of (by rw [hab, hbb]; rfl)
  unfold impl_leftQuotient lqV
  refine M.Conv_bind (impl_IsMatrix_ok sa) (M.Conv_bind hor2 (M.Conv_ite (fun t => by cases t) (fun _ => ?_)))
  by_cases hl : a.length = b.length
  · have hlc : ∀ i, i < widthN b → (colL b i).length = a.length := fun i hi => by rw [(colL_vec hb hi).2.1, hl]
    have hG : ∀ i, i < widthN b → M.Conv (impl_greatestSub a (colL b i)) (bif fitsB a [] then (subL a (colL b i), 0) else ([], 5)) := fun i hi => by
      refine (impl_greatestSub_ok sa (by unfold smI; rw [hlc i hi]; omega)).of ?_
      rw [hab, (colL_vec hb hi).1, decide_eq_true (hlc i hi).symm, fits_any a (colL b i) []]; rfl
    rw [decide_eq_true hl]
    refine M.Conv_ite (fun t => by simp [hl] at t) (fun _ => M.Conv_bind (impl_transposed_ok hb.shp) ?_)
    rw [matF_len]
    cases hf : fitsB a [] with
    | false =>
      refine M.Conv_bind (x := (Sum.inr ([], 5) : List (List Int) ⊕ (List (List Int) × Int))) ?_ (by exact M.Conv_ret (([], 5) : List (List Int) × Int))
      refine Conv_forK (ρ := List (List Int) ⊕ (List (List Int) × Int)) (fun _ => []) (k := 0) (by omega) (by omega) (fun i hi => by omega) (fun h0 => ?_) (fun h0 => by omega)
      refine M.Conv_bind (idx_tab h0) (M.Conv_bind (hG 0 h0) ?_)
      rw [hf]
      exact M.Conv_ite (fun _ => M.Conv_ret _) (fun t => by simp at t)
    | true =>
      have hrow : ∀ i, i < widthN b → (subL a (colL b i)).length = widthN a := fun i _ => subL_len _ _
      have hx7 := turn_rows (k := widthN b) (w := widthN a) (f := fun i => subL a (colL b i)) hrow
      have hshp : Shp (tab (widthN b) fun i => subL a (colL b i)) (widthN a) := by rw [hx7]; exact shp_of hbc hac
      refine M.Conv_bind (x := (Sum.inl (tab (widthN b) fun i => subL a (colL b i)) : List (List Int) ⊕ (List (List Int) × Int))) ?_ (by
        refine M.Conv_bind (impl_transposed_ok hshp) ((M.Conv_ret _).of ?_)
        simp only [Bool.and_self, cond_true]
        rw [tab_len]
        congr 1
        refine matF_congr fun i j hi hj => ?_
        simp only [entA, tab_get hj, Option.getD_some, nd])
      refine Conv_forK (fun i => tab i fun i => subL a (colL b i)) (k := widthN b) (by omega) (Nat.le_refl _) (fun i hi => ?_) (fun h => absurd h (by omega)) (fun _ => rfl)
      refine M.Conv_bind (idx_tab hi) (M.Conv_bind (hG i hi) ?_)
      rw [hf]
      exact M.Conv_ite (fun t => by simp at t) (fun _ => M.Conv_bind (M.Conv_app (by simp [tab_len]; omega)) ((M.Conv_ret _).of (congrArg Sum.inl (tab_snoc i _))))
  · rw [decide_eq_false hl]
    exact M.Conv_ite (fun _ => M.Conv_ret _) (fun t => by simp at t; omega)
/-- the columns of a matrix turned are its rows -/
theorem col_turn {b : List (List Int)} {w k : Nat} (hb : Mat b w) (hk : k < b.length) : b[k]? = some (colL (matF w b.length fun i j => entA b j i) k) := by
  have hr : b[k]? = some b[k] := List.getElem?_eq_getElem hk
  rw [hr]
  have hl := (hb.row _ (List.mem_of_getElem? hr)).1
  congr 1
  unfold colL
  rw [matF_len]
  refine tab_ext hl fun j hj => ?_
  have h2 : b[k][j]? = some (b[k][j]'(by omega)) := List.getElem?_eq_getElem _
  rw [entA_matF hj hk, h2]
  simp only [entA, hr, Option.getD_some, h2]
def chkM (a : List (List Int)) : List (List Int) × Int := bif (a.all fun r => r.all valB) then (a, 0) else ([], 3)
def rqM (a b : List (List Int)) : List (List Int) := tab b.length fun k => subL (matF (widthN a) a.length fun i j => entA a j i) (colL (matF (widthN b) b.length fun i j => entA b j i) k)
def rqV (a b : List (List Int)) : List (List Int) × Int := bif matB a && matB b then bif decide (widthN a = widthN b) && fitsB (matF (widthN a) a.length fun i j => entA a j i) [] then chkM (rqM a b) else ([], 5) else ([], 1)
theorem right_both {a b : List (List Int)} (sa : smII a) (sb : smII b) : M.Conv (spec_RightQuotient a b) (rqV a b) ∧ M.Conv (impl_RightQuotient a b) (rqV a b) := by
  unfold spec_RightQuotient impl_RightQuotient rqV
  have hor1 : M.Conv (M.ite (!(matB a)) (M.ret true) (M.bind (spec_IsMatrix b) (fun x3 => M.ret (!x3)))) (!(matB a) || !(matB b)) := Conv_or fun _ => M.Conv_bind (spec_IsMatrix_ok sb) (M.Conv_ret _)
  have hor2 : M.Conv (M.ite (!(matB a)) (M.ret true) (M.bind (impl_IsMatrix b) (fun x3 => M.ret (!x3)))) (!(matB a) || !(matB b)) := Conv_or fun _ => M.Conv_bind (impl_IsMatrix_ok sb) (M.Conv_ret _)
  rw [← Bool.not_and] at hor1 hor2
  cases hab : (matB a && matB b) with
  | false =>
    rw [hab] at hor1 hor2
    exact ⟨M.Conv_bind (spec_IsMatrix_ok sa) (M.Conv_bind hor1 (M.Conv_ite (fun _ => M.Conv_ret _) (fun t => by simp at t))), M.Conv_bind (impl_IsMatrix_ok sa) (M.Conv_bind hor2 (M.Conv_ite (fun _ => M.Conv_ret _) (fun t => by simp at t)))⟩
  | true =>
    rw [hab] at hor1 hor2
    simp only [Bool.and_eq_true] at hab
    have ha := matB_mat hab.1
    have hb := matB_mat hab.2
    have har := ha.rows
    have hac := ha.cols
    have hbr := hb.rows
    have hbc := hb.cols
    have hAt := mat_turn ha
    have hBt := mat_turn hb
    have hTa := spec_l02Turn_ok ha.shp
    have hta := impl_transposed_ok ha.shp
    have htb := impl_transposed_ok hb.shp
    have hrq : rqM a b = tab b.length fun k => subL (matF (widthN a) a.length fun i j => entA a j i) (colL (matF (widthN b) b.length fun i j => entA b j i) k) := rfl
    have hlq := impl_leftQuotient_ok (mat_matB hAt) (mat_matB hBt) hAt.shp.sm hBt.shp.sm
    unfold lqV at hlq
    rw [matF_len, matF_len, shp_width hAt.shp, shp_width hBt.shp] at hlq
    have hwA := shp_width hAt.shp
    have hcol : ∀ k, k < b.length → b[k]? = some (colL (matF (widthN b) b.length fun i j => entA b j i) k) := fun k hk => col_turn hb hk
    generalize hA : (matF (widthN a) a.length fun i j => entA a j i) = At at hAt hTa hta hlq hrq hwA ⊢
    generalize hB : (matF (widthN b) b.length fun i j => entA b j i) = Bt at hBt htb hlq hrq hcol
    have hAl : At.length = widthN a := by rw [← hA, matF_len]
    have hBl : Bt.length = widthN b := by rw [← hB, matF_len]
    obtain ⟨ra, h0, hl0⟩ := head_of_mat hab.1
    obtain ⟨rb, h1, hl1⟩ := head_of_mat hab.2
    have hs1 : M.Conv (M.bind (M.idx a 0) (fun x4 => M.bind (M.idx b 0) (fun x5 => M.ite ((x4.length : Int) != (x5.length : Int)) (M.ret true) (M.bind (spec_l02Turn a) (fun x6 => M.bind (spec_l08Fits x6) (fun x7 => M.ret (!x7))))))) (!(decide (widthN a = widthN b) && fitsB At [])) := by
      refine M.Conv_bind (get_row h0) (M.Conv_bind (get_row h1) ?_)
      refine (Conv_or (v := !(fitsB At [])) fun _ => M.Conv_bind hTa (M.Conv_bind (spec_l08Fits_ok (b := []) hAt hwA) (M.Conv_ret (!(fitsB At []))))).of ?_
      rw [Bool.not_and]
      congr 1
      rw [hl0, hl1, Bool.eq_iff_iff]; simp; omega
    cases hwf : (decide (widthN a = widthN b) && fitsB At []) with
    | false =>
      rw [hwf] at hs1 hlq
      refine ⟨M.Conv_bind (spec_IsMatrix_ok sa) (M.Conv_bind hor1 (M.Conv_ite (fun t => by simp at t) (fun _ => M.Conv_bind hs1 (M.Conv_ite (fun _ => M.Conv_ret _) (fun t => by simp at t))))), ?_⟩
      exact M.Conv_bind (impl_IsMatrix_ok sa) (M.Conv_bind hor2 (M.Conv_ite (fun t => by simp at t) (fun _ => M.Conv_bind hta (M.Conv_bind htb (M.Conv_bind hlq (M.Conv_ite (fun _ => M.Conv_ret _) (fun t => by simp at t)))))))
    | true =>
      rw [hwf] at hs1 hlq
      simp only [Bool.and_eq_true, decide_eq_true_eq] at hwf
      have hrow : ∀ k, k < b.length → (subL At (colL Bt k)).length = a.length := fun k _ => by rw [subL_len, hwA]
      have hx := turn_rows (k := b.length) (w := a.length) (f := fun k => subL At (colL Bt k)) hrow
      have hshp : Shp (rqM a b) a.length := by rw [hrq, hx]; exact shp_of hbr har
      have hlc : ∀ k, k < b.length → (colL Bt k).length = At.length := fun k hk => by rw [(colL_vec hBt hk).2.1, hAl, hBl, hwf.1]
      constructor
      · refine M.Conv_bind (spec_IsMatrix_ok sa) (M.Conv_bind hor1 (M.Conv_ite (fun t => by simp at t) (fun _ => M.Conv_bind hs1 (M.Conv_ite (fun t => by simp at t) (fun _ => M.Conv_bind hTa (M.Conv_bind (x := rqM a b) ?_ (M.Conv_bind (spec_l03Result_ok hshp) (M.Conv_ret _))))))))
        rw [hrq]
        refine Conv_forV (fun i => tab i fun k => subL At (colL Bt k)) (by omega) fun i hi => ?_
        exact M.Conv_bind (get_row (hcol i hi)) (M.Conv_bind (spec_l08Sub_ok hAt hwA (hlc i hi)) (M.Conv_bind (M.Conv_app (by simp [tab_len]; omega)) ((M.Conv_ret _).of (congrArg Sum.inl (tab_snoc i _)))))
      · have hsq : Shp (matF a.length b.length fun i j => nd (subL At (colL Bt j)) i) b.length := shp_of har hbr
        refine M.Conv_bind (impl_IsMatrix_ok sa) (M.Conv_bind hor2 (M.Conv_ite (fun t => by simp at t) (fun _ => M.Conv_bind hta (M.Conv_bind htb (M.Conv_bind hlq (M.Conv_ite (fun t => by simp at t) (fun _ => M.Conv_bind (x := rqM a b) ((impl_transposed_ok hsq).of ?_) (M.Conv_bind (impl_checkedMatrix_ok hshp) (M.Conv_ret _)))))))))
        rw [matF_len, hrq, hx]
        refine matF_congr fun i j hi hj => ?_
        rw [entA_matF hj hi]; rfl
theorem chkM_sm {a : List (List Int)} {w : Nat} (h : Shp a w) : smII (chkM a).1 := checked_sm h
theorem rqV_sm {a b : List (List Int)} : smII (rqV a b).1 := by
  unfold rqV
  cases hab : (matB a && matB b) with
  | false => exact smII_nil
  | true =>
    simp only [Bool.and_eq_true] at hab
    have ha := matB_mat hab.1
    have hb := matB_mat hab.2
    cases (decide (widthN a = widthN b) && fitsB (matF (widthN a) a.length fun i j => entA a j i) []) with
    | false => exact smII_nil
    | true =>
      refine chkM_sm (w := a.length) ?_
      have hw := shp_width (mat_turn ha).shp
      unfold rqM
      rw [turn_rows (k := b.length) (w := a.length) (fun k _ => by rw [subL_len, hw])]
      exact shp_of hb.rows ha.rows
structure DotP (u v : Nat → Int) (n : Nat) (s : Int) : Prop where
  up : ∀ j, j < n → u j ≠ -1000000000000000 → v j ≠ -1000000000000000 → u j + v j ≤ s
  on : s = -1000000000000000 ∨ ∃ j, j < n ∧ u j ≠ -1000000000000000 ∧ v j ≠ -1000000000000000 ∧ s = u j + v j
def Bd (B : Int) (x : Int) : Prop := x = -1000000000000000 ∨ (-B ≤ x ∧ x ≤ B)
theorem DotP.comm {u v : Nat → Int} {n : Nat} {s : Int} (h : DotP u v n s) : DotP v u n s := by
  refine ⟨fun j hj h1 h2 => by have := h.up j hj h2 h1; omega, ?_⟩
  rcases h.on with e | ⟨j, hj, h1, h2, e⟩
  · exact .inl e
  · exact .inr ⟨j, hj, h2, h1, by omega⟩
theorem DotP.unique {u v : Nat → Int} {n : Nat} {s t : Int} (hu : ∀ j, j < n → Bd 2000000 (u j)) (hv : ∀ j, j < n → Bd 2000000 (v j)) (h : DotP u v n s) (g : DotP u v n t) : s = t := by
  have key : ∀ {s t : Int}, DotP u v n s → DotP u v n t → t ≤ s := fun {s t} h g => by
    rcases g.on with e | ⟨j, hj, h1, h2, e⟩
    · rcases h.on with e' | ⟨j, hj, h1, h2, e'⟩
      · omega
      · have b1 := hu j hj
        have b2 := hv j hj
        unfold Bd at b1 b2
        omega
    · have := h.up j hj h1 h2
      omega
  have := key h g
  have := key g h
  omega
theorem nd_of {l : List Int} {i : Nat} {x : Int} (h : l[i]? = some x) : nd l i = x := by unfold nd; rw [h]; rfl
theorem dotL_ok {x row : List Int} (hl : x.length = row.length) (hr : ∀ j, j < row.length → Bd 1000000 (nd row j)) (hx : ∀ j, j < row.length → Bd 2000000 (nd x j)) : DotP (nd row) (nd x) row.length (dotL x row) := by
  have key := foldI_at (g := fun j v s => mx s (timesI v ((x[j]?).getD 0))) (a := row) (fun k (s : Int) => k ≤ row.length ∧ -1000000000000000 ≤ s ∧ (∀ j, j < k → nd row j ≠ -1000000000000000 → nd x j ≠ -1000000000000000 → nd row j + nd x j ≤ s) ∧ (s = -1000000000000000 ∨ ∃ j, j < k ∧ nd row j ≠ -1000000000000000 ∧ nd x j ≠ -1000000000000000 ∧ s = nd row j + nd x j)) row 0 (-1000000000000000) (fun k => by simp) ⟨by omega, by omega, fun j hj => by omega, .inl rfl⟩ (fun k v s hv hI => by
    obtain ⟨_, i1, i2, i3⟩ := hI
    have hk := (List.getElem?_eq_some_iff.1 hv).1
    have ev := nd_of hv
    have b1 := hr k hk
    have b2 := hx k hk
    unfold Bd at b1 b2
    have et : timesI v ((x[k]?).getD 0) = bif (v == (-1000000000000000)) || (nd x k == (-1000000000000000)) then -1000000000000000 else v + nd x k := by
      change timesI v (nd x k) = _
      unfold timesI
      cases hz : ((v == (-1000000000000000)) || (nd x k == (-1000000000000000))) with
      | true => rfl
      | false =>
        simp only [Bool.or_eq_false_iff, beq_eq_false_iff_ne, ne_eq] at hz
        simp only [cond_false]
        exact w64_eq _ (by omega)
    refine ⟨by omega, by rw [mx_eq]; omega, fun j hj h1 h2 => ?_, ?_⟩
    · rw [mx_eq]
      by_cases e : j = k
      · subst e
        rw [et, show (v == (-1000000000000000)) = false by rw [← ev]; simpa using h1, show (nd x j == (-1000000000000000)) = false by simpa using h2]
        simp only [Bool.or_self, cond_false]; omega
      · have := i2 j (by omega) h1 h2
        omega
    · rw [mx_eq, et]
      have old : s = -1000000000000000 ∨ ∃ j, j < k + 1 ∧ nd row j ≠ -1000000000000000 ∧ nd x j ≠ -1000000000000000 ∧ s = nd row j + nd x j := i3.imp id fun ⟨j, hj, h⟩ => ⟨j, by omega, h⟩
      cases hz : ((v == (-1000000000000000)) || (nd x k == (-1000000000000000))) with
      | true =>
        simp only [cond_true]
        rw [show max s (-1000000000000000) = s by omega]
        exact old
      | false =>
        simp only [Bool.or_eq_false_iff, beq_eq_false_iff_ne, ne_eq] at hz
        simp only [cond_false]
        by_cases e : s ≤ v + nd x k
        · rw [show max s (v + nd x k) = v + nd x k by omega]
          exact .inr ⟨k, by omega, by rw [ev]; exact hz.1, hz.2, by rw [ev]⟩
        · rw [show max s (v + nd x k) = s by omega]
          exact old)
  obtain ⟨_, _, k2, k3⟩ := key
  rw [Nat.zero_add] at k2 k3
  exact ⟨k2, k3⟩
/-- multiplied, divided, multiplied again -/
theorem resid_dot {A : Nat → Nat → Int} {x q p : Nat → Int} {m w : Nat} (hA : ∀ i j, i < m → j < w → Bd 1000000 (A i j)) (hx : ∀ j, j < w → Bd 1000000 (x j)) (dp : ∀ i, i < m → DotP (A i) x w (p i))
    (below : ∀ i j, i < m → j < w → A i j ≠ -1000000000000000 → q j ≠ -1000000000000000 → p i ≠ -1000000000000000 ∧ A i j + q j ≤ p i)
    (tight : ∀ j, j < w → ∃ i, i < m ∧ A i j ≠ -1000000000000000 ∧ (p i = -1000000000000000 ∨ (q j ≠ -1000000000000000 ∧ A i j + q j = p i))) : ∀ i, i < m → DotP (A i) q w (p i) := by
  intro i hi
  refine ⟨fun j hj h1 h2 => (below i j hi hj h1 h2).2, ?_⟩
  rcases (dp i hi).on with e | ⟨j, hj, h1, h2, e⟩
  · exact .inl e
  · right
    obtain ⟨i', hi', g1, g2⟩ := tight j hj
    have hu := (dp i' hi').up j hj g1 h2
    have b1 := hA i' j hi' hj
    have b2 := hx j hj
    unfold Bd at b1 b2
    have g3 := g2.resolve_left (by omega)
    have := (below i j hi hj h1 g3.1).2
    exact ⟨j, hj, h1, g3.1, by omega⟩
def rowN (a : List (List Int)) (i : Nat) : List Int := (a[i]?).getD []
theorem rowN_get {a : List (List Int)} {i : Nat} (h : i < a.length) : a[i]? = some (rowN a i) := by unfold rowN; rw [List.getElem?_eq_getElem h]; rfl
theorem nd_row {a : List (List Int)} {i j : Nat} (h : i < a.length) : nd (rowN a i) j = entA a i j := (ent_at (rowN_get h)).symm
theorem nd_col {b : List (List Int)} {j k : Nat} (h : j < b.length) : nd (colL b k) j = entA b j k := nd_of (tab_get h)
def mulM (a b : List (List Int)) : List (List Int) := matF a.length (widthN b) fun i k => dotL (colL b k) (rowN a i)
theorem impl_multiply_ok {a b : List (List Int)} {n w : Nat} (ha : Shp a n) (hb : Shp b w) (hn : b.length = n) : M.Conv (impl_multiply a b) (mulM a b) := by
  have har := ha.rows
  have hbr := hb.rows
  have hbc := hb.cols
  have hw := shp_width hb
  unfold impl_multiply mulM
  rw [hw]
  obtain ⟨r0, h0, hl0, _⟩ := ent_read hb (i := 0) (j := 0) (by omega) (by omega)
  refine M.Conv_bind h0 ?_
  rw [hl0]
  refine M.Conv_bind (matrixBy_ok (fun i j => impl_multiply_1 i j a b) (fun i k => dotL (colL b k) (rowN a i)) (by omega) (by omega) fun i k hi hk => ?_) (M.Conv_ret _)
  have hrl := ha.row _ (List.mem_of_getElem? (rowN_get hi))
  unfold impl_multiply_1
  refine M.Conv_bind (get_row (rowN_get hi)) (M.Conv_bind (x := dotL (colL b k) (rowN a i)) ?_ (M.Conv_ret _))
  refine Conv_foldI (fun j v s => mx s (timesI v (((colL b k)[j]?).getD 0))) (fun _ _ => True) (by omega) trivial fun j v s hv _ => ⟨?_, trivial⟩
  have hj := (List.getElem?_eq_some_iff.1 hv).1
  obtain ⟨rb, g1, _, g2⟩ := ent_read hb (i := j) (j := k) (by omega) hk
  refine M.Conv_bind (get_row' hv) (M.Conv_bind g1 (M.Conv_bind g2 (M.Conv_bind (impl_times_ok _ _) ((M.Conv_ret _).of ?_))))
  rw [show (colL b k)[j]? = some (entA b j k) from tab_get (by omega)]; rfl
theorem mulM_shp {a b : List (List Int)} {n w : Nat} (ha : Shp a n) (hb : Shp b w) : Shp (mulM a b) w := by
  unfold mulM
  rw [shp_width hb]
  exact shp_of ha.rows hb.cols
theorem mul_ok {a b : List (List Int)} (ha : matB a = true) (hb : matB b = true) (hw : widthN a = b.length) (sa : smII a) (sb : smII b) : M.Conv (impl_MultiplyMatrices a b) (chkM (mulM a b)) := by
  unfold impl_MultiplyMatrices
  have hma := matB_mat ha
  have hmb := matB_mat hb
  have hor : M.Conv (M.ite (!(matB a)) (M.ret true) (M.bind (impl_IsMatrix b) (fun x3 => M.ret (!x3)))) false := (Conv_or (v := !(matB b)) fun _ => M.Conv_bind (impl_IsMatrix_ok sb) (M.Conv_ret _)).of (by rw [ha, hb]; rfl)
  obtain ⟨r, h0, hl⟩ := head_of_mat ha
  exact M.Conv_bind (impl_IsMatrix_ok sa) (M.Conv_bind hor (M.Conv_ite (fun t => by cases t) (fun _ => M.Conv_bind (get_row h0) (M.Conv_ite (fun t => by simp at t; omega) (fun _ => M.Conv_bind (impl_multiply_ok hma.shp hmb.shp hw.symm) (M.Conv_bind (impl_checkedMatrix_ok (mulM_shp hma.shp hmb.shp)) (M.Conv_ret _)))))))
/-- a matrix that has been checked -/
theorem chkM_zero {a : List (List Int)} {w : Nat} (h : Shp a w) (e : (chkM a).2 = 0) : (chkM a).1 = a ∧ Mat a w ∧ matB a = true ∧ chkM a = (a, 0) := by
  unfold chkM at e ⊢
  cases hv : (a.all fun r => r.all valB) with
  | false => rw [hv] at e; simp at e
  | true =>
    have hm : matB a = true := by rw [matB_shp h]; exact hv
    have := matB_mat hm
    rw [shp_width h] at this
    exact ⟨rfl, this, hm, rfl⟩
theorem chkM_code (a : List (List Int)) : (chkM a).2 = 0 ∨ chkM a = ([], 3) := by
  unfold chkM
  cases (a.all fun r => r.all valB)
  · exact .inr rfl
  · exact .inl rfl
theorem mat_bd {a : List (List Int)} {w i j : Nat} (h : Mat a w) (hi : i < a.length) (hj : j < w) : Bd 1000000 (entA a i j) := val_ent h hi hj
theorem mul_ent {a b : List (List Int)} {n w : Nat} (ha : Mat a n) (hb : Shp b w) (hn : b.length = n) (hbd : ∀ j k, j < n → k < w → Bd 2000000 (entA b j k)) {i k : Nat} (hi : i < a.length) (hk : k < w) :
    DotP (entA a i) (fun j => entA b j k) n (dotL (colL b k) (rowN a i)) := by
  have hrl := (ha.row _ (List.mem_of_getElem? (rowN_get hi))).1
  have hcl : (colL b k).length = b.length := tab_len _ _
  have := dotL_ok (x := colL b k) (row := rowN a i) (by omega) (fun j hj => by rw [nd_row hi]; exact mat_bd ha hi (by omega)) (fun j hj => by rw [nd_col (by omega)]; exact hbd j k (by omega) hk)
  rw [hrl] at this
  refine ⟨fun j hj h1 h2 => ?_, ?_⟩
  · have := this.up j hj (by rw [nd_row hi]; exact h1) (by rw [nd_col (by omega)]; exact h2)
    rw [nd_row hi, nd_col (by omega)] at this
    exact this
  · rcases this.on with e | ⟨j, hj, h1, h2, e⟩
    · exact .inl e
    · rw [nd_row hi] at h1 e
      rw [nd_col (by omega)] at h2 e
      exact .inr ⟨j, hj, h1, h2, e⟩

theorem DotP.congr {u v u' v' : Nat → Int} {n : Nat} {s : Int} (h : DotP u v n s) (hu : ∀ j, j < n → u j = u' j) (hv : ∀ j, j < n → v j = v' j) : DotP u' v' n s := by
  refine ⟨fun j hj h1 h2 => ?_, ?_⟩
  · rw [← hu j hj] at h1 ⊢
    rw [← hv j hj] at h2 ⊢
    exact h.up j hj h1 h2
  · rcases h.on with e | ⟨j, hj, h1, h2, e⟩
    · exact .inl e
    · rw [hu j hj] at h1 e
      rw [hv j hj] at h2 e
      exact .inr ⟨j, hj, h1, h2, e⟩
theorem colP_of {a : List (List Int)} {b : List Int} {w j : Nat} (hm : Mat a w) (hl : b.length = a.length) (hb : ∀ x ∈ b, valB x = true) (hf : fitsB a [] = true) (hj : j < w) : ColP a b j (nd (subL a b) j) := by
  have hw := shp_width hm.shp
  rw [subL_nd (by omega)]
  refine colS_props hm hj hl hb ?_
  rw [fits_any a [] b] at hf
  unfold fitsB at hf
  rw [List.all_eq_true] at hf
  exact hf j (List.mem_range.2 (by omega))
def lqM (a b : List (List Int)) : List (List Int) := matF (widthN a) (widthN b) fun i j => nd (subL a (colL b j)) i
theorem lqM_shp {a b : List (List Int)} {w v : Nat} (ha : Mat a w) (hb : Mat b v) : Shp (lqM a b) v := by
  unfold lqM
  rw [shp_width ha.shp, shp_width hb.shp]
  exact shp_of ha.cols hb.cols
theorem colL_vals {b : List (List Int)} {w k : Nat} (hb : Mat b w) (hk : k < w) : ∀ x ∈ colL b k, valB x = true := (colL_vec hb hk).2.2
theorem bd_up {x : Int} (h : Bd 1000000 x) : Bd 2000000 x := by unfold Bd at *; omega
theorem mulM_eq (a b : List (List Int)) : mulM a b = matF a.length (widthN b) fun i k => dotL (colL b k) (rowN a i) := rfl
theorem left_again {a x : List (List Int)} {w v : Nat} (ha : Mat a w) (hx : Mat x v) (hxl : x.length = w) (hf : fitsB a [] = true) (hp : Mat (mulM a x) v) : mulM a (lqM a (mulM a x)) = mulM a x := by
  have hw := shp_width ha.shp
  have hv := shp_width hx.shp
  have hq := lqM_shp ha hp
  have hpl : (mulM a x).length = a.length := matF_len _ _ _
  have hpw := shp_width hp.shp
  have hql : (lqM a (mulM a x)).length = w := by unfold lqM; rw [matF_len, hw]
  have hqe : ∀ j k, j < w → k < v → entA (lqM a (mulM a x)) j k = nd (subL a (colL (mulM a x) k)) j := fun j k hj hk => by
    unfold lqM
    exact entA_matF (by omega) (by omega)
  have hcp : ∀ j k, j < w → k < v → ColP a (colL (mulM a x) k) j (nd (subL a (colL (mulM a x) k)) j) := fun j k hj hk => colP_of ha (by rw [colL, tab_len, hpl]) (colL_vals hp hk) hf hj
  have hpe : ∀ i k, i < a.length → k < v → entA (mulM a x) i k = dotL (colL x k) (rowN a i) := fun i k hi hk => by
    unfold mulM
    exact entA_matF hi (by omega)
  refine (mulM_eq _ _).trans ?_
  rw [shp_width hq]
  refine Eq.trans ?_ (hpl ▸ mat_eq hp.shp).symm
  refine matF_congr fun i k hi hk => ?_
  have d1 := mul_ent ha hq hql (fun j k hj hk => by
    rw [hqe j k hj hk]
    have := (hcp j k hj hk).band
    unfold bandB at this
    exact this) hi hk
  have d2 := resid_dot (A := entA a) (x := fun j => entA x j k) (q := fun j => entA (lqM a (mulM a x)) j k) (p := fun i => entA (mulM a x) i k) (m := a.length) (w := w) (fun i j hi hj => mat_bd ha hi hj) (fun j hj => mat_bd hx (by omega) hk)
    (fun i hi => by
      rw [hpe i k hi hk]
      exact mul_ent ha hx.shp hxl (fun j k hj hk => bd_up (mat_bd hx (by omega) hk)) hi hk)
    (fun i j hi hj h1 h2 => by
      rw [hqe j k hj hk] at h2 ⊢
      have := (hcp j k hj hk).below i hi h1 h2
      rw [nd_col (by omega)] at this
      exact this)
    (fun j hj => by
      obtain ⟨i, hi, h1, h2⟩ := (hcp j k hj hk).tight
      rw [nd_col (by omega)] at h2
      rw [hqe j k hj hk]
      exact ⟨i, hi, h1, h2⟩) i hi
  refine DotP.unique (fun j hj => bd_up (mat_bd ha hi hj)) (fun j hj => ?_) d1 d2
  rw [hqe j k hj hk]
  have := (hcp j k hj hk).band
  unfold bandB at this
  exact this
theorem rqM_eq (c p : List (List Int)) {v : Nat} (hc : Mat c v) : rqM c p = matF p.length c.length fun k j => nd (subL (matF (widthN c) c.length fun i j => entA c j i) (colL (matF (widthN p) p.length fun i j => entA p j i) k)) j := by
  have hct := mat_turn hc
  unfold rqM
  refine turn_rows fun k _ => ?_
  rw [subL_len, shp_width hc.shp, shp_width hct.shp]
theorem right_again {c y : List (List Int)} {v : Nat} (hc : Mat c v) (hy : Mat y c.length) (hf : fitsB (matF (widthN c) c.length fun i j => entA c j i) [] = true) (hp : Mat (mulM y c) v) (hq : Mat (rqM c (mulM y c)) c.length) : mulM (rqM c (mulM y c)) c = mulM y c := by
  have hv := shp_width hc.shp
  have hpw := shp_width hp.shp
  have hct := mat_turn hc
  have hpt := mat_turn hp
  have hpl : (mulM y c).length = y.length := matF_len _ _ _
  have hqf := rqM_eq c (mulM y c) hc
  have hcte : ∀ i j, i < v → j < c.length → entA (matF v c.length fun i j => entA c j i) i j = entA c j i := fun i j hi hj => entA_matF hi hj
  have hpte : ∀ i k, i < v → k < y.length → entA (matF v (mulM y c).length fun i j => entA (mulM y c) j i) i k = entA (mulM y c) k i := fun i k hi hk => entA_matF hi (by omega)
  rw [hv] at hf hqf
  rw [hpw] at hqf
  have hctl : (matF v c.length fun i j => entA c j i).length = v := matF_len _ _ _
  have hptl : (matF v (mulM y c).length fun i j => entA (mulM y c) j i).length = v := matF_len _ _ _
  have hpe : ∀ k i, k < y.length → i < v → entA (mulM y c) k i = dotL (colL c i) (rowN y k) := fun k i hk hi => by
    unfold mulM
    exact entA_matF hk (by omega)
  generalize (matF v c.length fun i j => entA c j i) = ct at *
  generalize (matF v (mulM y c).length fun i j => entA (mulM y c) j i) = pt at *
  have hqe : ∀ k j, k < y.length → j < c.length → entA (rqM c (mulM y c)) k j = nd (subL ct (colL pt k)) j := fun k j hk hj => by
    rw [hqf]
    exact entA_matF (by omega) hj
  have hql : (rqM c (mulM y c)).length = y.length := by rw [hqf, matF_len, hpl]
  have hcp : ∀ k j, k < y.length → j < c.length → ColP ct (colL pt k) j (nd (subL ct (colL pt k)) j) := fun k j hk hj => colP_of hct (by rw [colL, tab_len, hptl, hctl]) (colL_vals hpt (by omega)) hf hj
  refine (mulM_eq _ _).trans ?_
  rw [hql, hv]
  refine Eq.trans ?_ (hpl ▸ mat_eq hp.shp).symm
  refine matF_congr fun k i hk hi => ?_
  have d1 := mul_ent hq hc.shp rfl (fun j k hj hk => bd_up (mat_bd hc hj hk)) (i := k) (k := i) (by omega) hi
  have d2 := resid_dot (A := entA ct) (x := entA y k) (q := entA (rqM c (mulM y c)) k) (p := fun i => entA (mulM y c) k i) (m := v) (w := c.length) (fun i j hi hj => mat_bd hct (by omega) hj) (fun j hj => mat_bd hy hk hj)
    (fun i hi => by
      rw [hpe k i hk hi]
      exact (mul_ent hy hc.shp rfl (fun j k hj hk => bd_up (mat_bd hc hj hk)) hk hi).comm.congr (fun j hj => (hcte i j hi hj).symm) (fun j hj => rfl))
    (fun i j hi hj h1 h2 => by
      rw [hqe k j hk hj] at h2 ⊢
      have := (hcp k j hk hj).below i (by omega) h1 h2
      rw [nd_col (by omega), hpte i k hi hk] at this
      exact this)
    (fun j hj => by
      obtain ⟨i, hi, h1, h2⟩ := (hcp k j hk hj).tight
      rw [nd_col (by omega), hpte i k (by omega) hk] at h2
      rw [hqe k j hk hj]
      exact ⟨i, by omega, h1, h2⟩) i hi
  refine DotP.unique (fun j hj => bd_up (mat_bd hq (by omega) hj)) (fun j hj => bd_up (mat_bd hc hj hi)) d1 (d2.comm.congr (fun j hj => rfl) (fun j hj => hcte i j hi hj))
def lqR (a b : List (List Int)) : List (List Int) × Int := bif matB a && matB b then bif decide (a.length = b.length) && fitsB a [] then chkM (lqM a b) else ([], 5) else ([], 1)
theorem left_ok {a b : List (List Int)} (sa : smII a) (sb : smII b) : M.Conv (impl_LeftQuotient a b) (lqR a b) := by
  unfold impl_LeftQuotient lqR
  cases hab : (matB a && matB b) with
  | false =>
    have hor2 : M.Conv (M.ite (!(matB a)) (M.ret true) (M.bind (impl_IsMatrix b) (fun x3 => M.ret (!x3)))) true := (Conv_or (v := !(matB b)) fun _ => M.Conv_bind (impl_IsMatrix_ok sb) (M.Conv_ret _)).of (by rw [← Bool.not_and, hab]; rfl)
    refine M.Conv_bind (x := ([], 1)) ?_ (M.Conv_ite (fun _ => M.Conv_ret _) (fun t => by simp at t))
    unfold impl_leftQuotient
    exact M.Conv_bind (impl_IsMatrix_ok sa) (M.Conv_bind hor2 (M.Conv_ite (fun _ => M.Conv_ret _) (fun t => by cases t)))
  | true =>
    simp only [Bool.and_eq_true] at hab
    have h := impl_leftQuotient_ok hab.1 hab.2 sa sb
    unfold lqV at h
    refine M.Conv_bind h ?_
    cases (decide (a.length = b.length) && fitsB a []) with
    | false => exact M.Conv_ite (fun _ => M.Conv_ret _) (fun t => by simp at t)
    | true => exact M.Conv_ite (fun t => by simp at t) (fun _ => M.Conv_bind (impl_checkedMatrix_ok (lqM_shp (matB_mat hab.1) (matB_mat hab.2))) (M.Conv_ret _))
theorem likeTables_refl {a : List (List Int)} (h : smII a) : M.Conv (laws_likeTables9 a a) true := by
  have h1 := h.1
  unfold laws_likeTables9
  refine M.Conv_ite (fun t => by simp at t) (fun _ => M.Conv_bind (x := (Sum.inl () : Unit ⊕ Bool)) ?_ (by exact M.Conv_ret true))
  refine Conv_forK (fun _ => ()) (k := a.length) (by omega) (Nat.le_refl _) (fun i hi => ?_) (fun h => absurd h (by omega)) (fun _ => rfl)
  have hr := rowN_get hi
  have hl := h.2 _ (List.mem_of_getElem? hr)
  exact M.Conv_bind (get_row hr) (M.Conv_bind (get_row hr) (M.Conv_bind (likeInts_refl (by omega)) (M.Conv_ite (fun t => by cases t) (fun _ => M.Conv_ret _))))
theorem div_tail {a b : List (List Int)} (sa : smII a) (sb : smII b) : M.Conv (M.ite ((lqR a b).2 != 0) (M.ret true) (M.bind (impl_MultiplyMatrices a (lqR a b).1) (fun x28 => M.ite (x28.2 != 0) (M.ret (x28.2 == 3)) (M.bind (M.forI 0 (x28.1.length : Int) (fun s => .inl s) (fun i2 => (fun (_ : Unit) => M.bind (M.idx x28.1 i2) (fun x30 => M.bind (M.idx b i2) (fun x31 => M.bind (laws_below9 x30 x31) (fun x32 => M.ite (!x32) (M.ret (.inr (.inr false))) (M.ret (.inl ()))))))) ()) (fun x29 => M.cont x29 (fun _ => M.bind (impl_LeftQuotient a x28.1) (fun x33 => M.ite (x33.2 != 0) (M.ret (x33.2 == 3)) (M.bind (impl_MultiplyMatrices a x33.1) (fun x34 => M.bind (M.ite (x34.2 == 0) (M.bind (laws_likeTables9 x34.1 x28.1) (fun x36 => M.ret x36)) (M.ret false)) (fun x35 => M.ret x35))))) (fun r => M.ret r)))))) true := by
  by_cases h0 : (lqR a b).2 = 0
  · refine M.Conv_ite (fun t => by rw [h0] at t; simp at t) (fun _ => ?_)
    have key : matB a = true ∧ matB b = true ∧ a.length = b.length ∧ fitsB a [] = true ∧ lqR a b = chkM (lqM a b) := by
      unfold lqR at h0 ⊢
      cases hab : (matB a && matB b) with
      | false => rw [hab] at h0; simp at h0
      | true =>
        rw [hab] at h0
        cases hf : (decide (a.length = b.length) && fitsB a []) with
        | false => rw [hf] at h0; simp at h0
        | true =>
          simp only [Bool.and_eq_true, decide_eq_true_eq] at hab hf
          exact ⟨hab.1, hab.2, hf.1, hf.2, rfl⟩
    obtain ⟨ka, kb, kl, kf, ke⟩ := key
    rw [ke] at h0 ⊢
    have ha := matB_mat ka
    have hb := matB_mat kb
    have har := ha.rows
    have hac := ha.cols
    have hx := lqM_shp ha hb
    obtain ⟨e1, mx, bx, e2⟩ := chkM_zero hx h0
    rw [e2]
    have hxl : (lqM a b).length = widthN a := matF_len _ _ _
    refine M.Conv_bind (mul_ok ka bx hxl.symm sa hx.sm) ?_
    rcases chkM_code (mulM a (lqM a b)) with hz | hz
    · obtain ⟨_, mp, bp, e3⟩ := chkM_zero (mulM_shp ha.shp hx) hz
      rw [e3]
      have hpl : (mulM a (lqM a b)).length = a.length := matF_len _ _ _
      refine M.Conv_ite (fun t => by simp at t) (fun _ => M.Conv_bind (x := (Sum.inl () : Unit ⊕ Bool)) ?_ ?_)
      · dsimp only
        refine Conv_forK (fun _ => ()) (k := (mulM a (lqM a b)).length) (by omega) (Nat.le_refl _) (fun i hi => ?_) (fun h => absurd h (by omega)) (fun _ => rfl)
        have hr := rowN_get hi
        have hr2 := rowN_get (a := b) (i := i) (by omega)
        have l1 := (mp.row _ (List.mem_of_getElem? hr)).1
        have l2 := (hb.row _ (List.mem_of_getElem? hr2)).1
        have hbc := hb.cols
        refine M.Conv_bind (get_row hr) (M.Conv_bind (get_row hr2) (M.Conv_bind (below_ok (by omega) (by omega) fun k hk => ?_) (M.Conv_ite (fun t => by cases t) (fun _ => M.Conv_ret _))))
        rw [nd_row hi, nd_row (by omega)]
        have hbv := mat_bd hb (i := i) (j := k) (by omega) (by omega)
        have he : entA (mulM a (lqM a b)) i k = dotL (colL (lqM a b) k) (rowN a i) := by
          unfold mulM
          exact entA_matF (by omega) (by rw [shp_width hx]; omega)
        have d := mul_ent ha hx hxl (fun j k hj hk => bd_up (mat_bd mx (by omega) hk)) (i := i) (k := k) (by omega) (by omega)
        rw [he]
        unfold Bd at hbv
        rcases d.on with e | ⟨j, hj, h1, h2, e⟩
        · omega
        · have hq : entA (lqM a b) j k = nd (subL a (colL b k)) j := by
            unfold lqM
            exact entA_matF (by omega) (by omega)
          have cp := colP_of ha (b := colL b k) (by rw [colL, tab_len]; exact kl.symm) (colL_vals hb (by omega)) kf hj
          rw [hq] at h2 e
          have := (cp.below i (by omega) h1 h2).2
          rw [nd_col (by omega)] at this
          omega
      · refine M.Conv_bind (left_ok sa mp.shp.sm) ?_
        have el : lqR a (mulM a (lqM a b)) = chkM (lqM a (mulM a (lqM a b))) := by
          unfold lqR
          rw [ka, bp, kf, decide_eq_true hpl.symm]; rfl
        rw [el]
        have hq := lqM_shp ha mp
        rcases chkM_code (lqM a (mulM a (lqM a b))) with hy | hy
        · obtain ⟨_, mq, bq, e4⟩ := chkM_zero hq hy
          rw [e4]
          have hql : (lqM a (mulM a (lqM a b))).length = widthN a := matF_len _ _ _
          refine M.Conv_ite (fun t => by simp at t) (fun _ => M.Conv_bind (mul_ok ka bq hql.symm sa hq.sm) ?_)
          rw [left_again ha mx hxl kf mp, e3]
          exact M.Conv_bind (x := true) (M.Conv_ite (fun _ => M.Conv_bind (likeTables_refl mp.shp.sm) (M.Conv_ret _)) (fun t => by simp at t)) (M.Conv_ret _)
        · rw [hy]
          exact M.Conv_ite (fun _ => M.Conv_ret _) (fun t => by simp at t)
    · rw [hz]
      exact M.Conv_ite (fun _ => M.Conv_ret _) (fun t => by simp at t)
  · exact M.Conv_ite (fun _ => M.Conv_ret _) (fun t => absurd (by simpa using t) h0)
theorem rqV_zero {c d : List (List Int)} (h : (rqV c d).2 = 0) : matB c = true ∧ matB d = true ∧ widthN c = widthN d ∧ fitsB (matF (widthN c) c.length fun i j => entA c j i) [] = true ∧ rqV c d = chkM (rqM c d) := by
  unfold rqV at h ⊢
  cases hab : (matB c && matB d) with
  | false => rw [hab] at h; simp at h
  | true =>
    rw [hab] at h
    cases hf : (decide (widthN c = widthN d) && fitsB (matF (widthN c) c.length fun i j => entA c j i) []) with
    | false => rw [hf] at h; simp at h
    | true =>
      simp only [Bool.and_eq_true, decide_eq_true_eq] at hab hf
      exact ⟨hab.1, hab.2, hf.1, hf.2, rfl⟩
theorem rqM_shp {c p : List (List Int)} {v w : Nat} (hc : Mat c v) (hp : Mat p w) : Shp (rqM c p) c.length := by
  rw [rqM_eq c p hc]
  exact shp_of hp.rows hc.rows
theorem DrawLeftQuotient_ok {code : List Int} (hc : ByC code) : M.TC (spec_DrawLeftQuotient code) (fun r => MatS r.1 ∧ MatS r.2) := by
  unfold spec_DrawLeftQuotient
  refine M.TC_bind (from_ok hc) fun s hs => M.TC_bind (draw_ok hc hs) fun a ha => ?_
  rw [hs.code_]
  refine M.TC_bind (next_ok hc (ha.2.mk' rfl) 12 (by omega)) fun x hx => M.TC_bind (Mid := fun b => b = false → matB a.1 = true) (M.TC_ite (fun _ => M.TC_ret fun h => by cases h) (fun _ => M.TC_bindC (spec_IsMatrix_ok ha.1.sm) (M.TC_ret fun h => by simpa using h))) fun b hb => M.TC_ite (fun _ => ?_) (fun t => ?_)
  · exact M.TC_bind (draw_ok hc (hx.1.mk' rfl)) fun d hd => M.TC_ret ⟨ha.1, hd.1⟩
  · have hm := matB_mat (hb t)
    refine M.TC_bind (next_ok hc (hx.1.mk' rfl) 4 (by omega)) fun y hy => ?_
    have ew : w64 (1 + y.1) = ((1 + y.1.toNat : Nat) : Int) := by rw [w64_eq _ (by omega)]; omega
    rw [ew]
    exact M.TC_bind (size_ok hc (hy.1.mk' rfl) _ _ hm.rows (by omega)) fun d hd => M.TC_ret ⟨ha.1, hd.1⟩
theorem DrawRightQuotient_ok {code : List Int} (hc : ByC code) : M.TC (spec_DrawRightQuotient code) (fun r => MatS r.1 ∧ MatS r.2) := by
  unfold spec_DrawRightQuotient
  refine M.TC_bind (from_ok hc) fun s hs => M.TC_bind (draw_ok hc hs) fun a ha => ?_
  rw [hs.code_]
  refine M.TC_bind (next_ok hc (ha.2.mk' rfl) 12 (by omega)) fun x hx => M.TC_bind (Mid := fun b => b = false → matB a.1 = true) (M.TC_ite (fun _ => M.TC_ret fun h => by cases h) (fun _ => M.TC_bindC (spec_IsMatrix_ok ha.1.sm) (M.TC_ret fun h => by simpa using h))) fun b hb => M.TC_ite (fun _ => ?_) (fun t => ?_)
  · exact M.TC_bind (draw_ok hc (hx.1.mk' rfl)) fun d hd => M.TC_ret ⟨ha.1, hd.1⟩
  · have hm := matB_mat (hb t)
    obtain ⟨r, h0, hl⟩ := head_of_mat (hb t)
    refine M.TC_bindC (get_row h0) (M.TC_bind (next_ok hc (hx.1.mk' rfl) 4 (by omega)) fun y hy => ?_)
    have ew : w64 (1 + y.1) = ((1 + y.1.toNat : Nat) : Int) := by rw [w64_eq _ (by omega)]; omega
    rw [ew, hl]
    exact M.TC_bind (size_ok hc (hy.1.mk' rfl) _ _ (by omega) hm.cols) fun d hd => M.TC_ret ⟨ha.1, hd.1⟩
theorem FnDivisions_ok (code : List Int) (h : fitL inU8 code) : M.Conv (laws_FnDivisions code) true := by
  apply M.TC.conv
  unfold laws_FnDivisions
  refine M.TC_bindC (big_ok code) (M.TC_ite (fun _ => M.TC_ret rfl) (fun hb => ?_))
  have hbc := ByC.of h hb
  refine M.TC_bind (DrawLeftQuotient_ok hbc) fun r hr => ?_
  obtain ⟨a, b⟩ := r
  obtain ⟨ha, hbm⟩ := hr
  simp only at ha hbm ⊢
  have sa := ha.sm
  have sb := hbm.sm
  obtain ⟨w1, p1, q1, s1⟩ := same_LeftQuotient a ha.fit b hbm.fit sa sb
  have hl := left_ok sa sb
  have e1 := q1.unique hl
  subst e1
  refine M.TC_bindC q1 (M.TC_bindC p1 (M.TC_bind (DrawRightQuotient_ok hbc) fun r hr => ?_))
  obtain ⟨c, d⟩ := r
  obtain ⟨hcm, hdm⟩ := hr
  simp only at hcm hdm ⊢
  have sc := hcm.sm
  have sd := hdm.sm
  obtain ⟨p2, q2⟩ := right_both sc sd
  have s2 : smII (rqV c d).1 := rqV_sm
  have tail := div_tail sa sb
  refine M.Conv.tc (r := true) (Post := fun r => r = true) ?_ rfl
  refine M.Conv_bind q2 (M.Conv_bind p2 ?_)
  refine M.Conv_bind (x := false) (M.Conv_ite (fun t => by simp at t) (fun _ => M.Conv_bind (likeTables_refl s1) (M.Conv_ret _))) (M.Conv_bind (x := false) (M.Conv_ite (fun t => by simp at t) (fun _ => M.Conv_bind (likeTables_refl s2) (M.Conv_ret _))) (M.Conv_ite (fun t => by cases t) (fun _ => M.Conv_ite (fun t => ?_) (fun _ => tail))))
  have t : (rqV c d).2 = 0 := by simpa using t
  obtain ⟨kc, kd, kw, kf, ke⟩ := rqV_zero t
  have mc := matB_mat kc
  have md := matB_mat kd
  have hy := rqM_shp mc md
  rw [ke] at t ⊢
  obtain ⟨_, my, by_, e2⟩ := chkM_zero hy t
  rw [e2]
  have hyw := shp_width hy
  refine M.Conv_bind (mul_ok by_ kc hyw hy.sm sc) ?_
  have hp := mulM_shp hy mc.shp
  rcases chkM_code (mulM (rqM c d) c) with hz | hz
  · obtain ⟨_, mp, bp, e3⟩ := chkM_zero hp hz
    rw [e3]
    refine M.Conv_bind (right_both sc hp.sm).2 ?_
    have el : rqV c (mulM (rqM c d) c) = chkM (rqM c (mulM (rqM c d) c)) := by
      unfold rqV
      rw [kc, bp, kf, shp_width hp]; simp
    rw [el]
    have hq := rqM_shp mc mp
    rcases chkM_code (rqM c (mulM (rqM c d) c)) with hx | hx
    · obtain ⟨_, mq, bq, e4⟩ := chkM_zero hq hx
      rw [e4]
      refine M.Conv_ite (fun _ => ?_) (fun t => by simp at t)
      refine M.Conv_bind (mul_ok bq kc (shp_width hq) hq.sm sc) ?_
      rw [right_again mc my kf mp mq, e3]
      exact M.Conv_bind (x := false) (M.Conv_ite (fun t => by simp at t) (fun _ => M.Conv_bind (likeTables_refl mp.shp.sm) (M.Conv_ret _))) (M.Conv_ite (fun t => by cases t) (fun _ => tail))
    · rw [hx]
      exact M.Conv_ite (fun t => by simp at t) (fun _ => tail)
  · rw [hz]
    refine M.Conv_bind (right_both sc smII_nil).2 (M.Conv_ite (fun t => by simp at t) (fun _ => tail))

end Go.Proofs.Ytmpjjdgfkjompaa
