/-
  Plain proofs: the plain program of the law ends with true.
  Conditions: None beyond the given statement.
-/
import Derived.Test.YtniaobcahkjfjaaP
namespace Go.Proofs.Ytniaobcahkjfjaa
open Go
/-! ### plain programs: loops over a list -/
namespace M
variable {α β σ ρ : Type}
/-- rounds over the elements of a list, each with its place; a round may leave -/
def run (g : Nat → α → σ → σ ⊕ ρ) (fin : σ → ρ) : Nat → List α → σ → ρ
  | _, [], s => fin s
  | i, x :: xs, s => match g i x s with
    | .inl s' => run g fin (i + 1) xs s'
    | .inr r => r
theorem Conv_forN {l : List α} {f : Int → σ → M (σ ⊕ ρ)} (g : Nat → α → σ → σ ⊕ ρ) (fin : σ → ρ) (I : Nat → σ → Prop) (hi : Int) :
    ∀ (xs : List α) (i : Nat) (s : σ), hi = (i + xs.length : Nat) → I i s → (∀ (j : Nat) x s, xs[j]? = some x → I (i + j) s → Conv (f (i + j : Nat) s) (g (i + j) x s) ∧ ∀ s', g (i + j) x s = .inl s' → I (i + j + 1) s') →
      ∃ N, ∀ n, N ≤ n → forN hi fin f n xs.length i s = some (run g fin i xs s)
  | [], i, s, hh, _, _ => ⟨0, fun n _ => by
      have : ¬ (i : Int) < hi := by rw [hh]; simp
      simp [forN, run, this]⟩
  | x :: xs, i, s, hh, h0, H => by
    have hlt : (i : Int) < hi := by rw [hh]; simp; omega
    obtain ⟨⟨N, hN⟩, hI⟩ := H 0 x s rfl h0
    simp only [Nat.add_zero] at hN hI
    cases hg : g i x s with
    | inl s' =>
      have hi' := hI s' hg
      obtain ⟨N', hN'⟩ := Conv_forN (l := l) g fin I hi xs (i + 1) s' (by rw [hh, List.length_cons]; congr 1; omega) hi' (fun j y s hy hIs => by
        have := H (j + 1) y s (by simpa using hy) (by rw [← Nat.add_assoc, Nat.add_right_comm]; exact hIs)
        rw [show i + (j + 1) = i + 1 + j by omega] at this
        exact this)
      refine ⟨max N N', fun n hn => ?_⟩
      have h1 := hN n (by omega)
      rw [hg] at h1
      simp only [List.length_cons, forN, hlt, decide_true, cond_true, h1, run, hg]
      have := hN' n (by omega)
      simpa using this
    | inr r =>
      refine ⟨N, fun n hn => ?_⟩
      have h1 := hN n hn
      rw [hg] at h1
      simp only [List.length_cons, forN, hlt, decide_true, cond_true, h1, run, hg]
/-- a loop over a list, with an invariant -/
theorem Conv_forI {l : List α} {f : Int → σ → M (σ ⊕ ρ)} {fin : σ → ρ} {s : σ} (g : Nat → α → σ → σ ⊕ ρ) (I : Nat → σ → Prop) (hl : l.length ≤ 9223372036854775807) (h0 : I 0 s)
    (H : ∀ (i : Nat) x s, l[i]? = some x → I i s → Conv (f i s) (g i x s) ∧ ∀ s', g i x s = .inl s' → I (i + 1) s') : Conv (forI 0 (l.length : Int) fin f s) (run g fin 0 l s) := by
  obtain ⟨N, hN⟩ := Conv_forN (l := l) (f := f) g fin I (l.length : Int) l 0 s (by simp) h0 (fun j x s hx hI => by simpa using H j x s hx (by simpa using hI))
  refine ⟨N, fun n hn => ?_⟩
  have h1 : (l.length : Int) ≤ 9223372036854775807 := by omega
  simp only [forI, h1, decide_true, Bool.and_true, show (-9223372036854775808 : Int) ≤ 0 by decide, cond_true]
  have := hN n hn
  simpa using this
/-- .. without one -/
theorem Conv_forL {l : List α} {f : Int → σ → M (σ ⊕ ρ)} {fin : σ → ρ} {s : σ} (g : Nat → α → σ → σ ⊕ ρ) (hl : l.length ≤ 9223372036854775807)
    (H : ∀ (i : Nat) x s, l[i]? = some x → Conv (f i s) (g i x s)) : Conv (forI 0 (l.length : Int) fin f s) (run g fin 0 l s) :=
  Conv_forI g (fun _ _ => True) hl trivial fun i x s hx _ => ⟨H i x s hx, fun _ _ => trivial⟩
theorem Conv.of {m : M α} {r r' : α} (h : Conv m r) (e : r = r') : Conv m r' := e ▸ h
theorem Conv_ite {b : Bool} {x y : M α} {r : α} (h1 : b = true → Conv x r) (h2 : b = false → Conv y r) : Conv (ite b x y) r := by
  cases b
  · exact h2 rfl
  · exact h1 rfl
theorem Conv_ite2 {b : Bool} {x y : M α} {r s : α} (h1 : b = true → Conv x r) (h2 : b = false → Conv y s) : Conv (ite b x y) (bif b then r else s) := by
  cases b
  · exact h2 rfl
  · exact h1 rfl
theorem Conv_guard {b : Bool} (h : b = true) : Conv (guard b) () := ⟨0, fun _ _ => by simp [guard, h]⟩
theorem Conv_upd {l : List α} {i : Nat} {x : α} (h : i < l.length) : Conv (upd l i x) (l.set i x) := ⟨0, fun _ _ => by simp [upd, h]⟩
theorem Conv_get {l : List α} {i : Int} {x : α} (h0 : 0 ≤ i) (h : l[i.toNat]? = some x) : Conv (idx l i) x := ⟨0, fun _ _ => by simp [idx, h0, h]⟩
/-- a value told in both ways of a test, then the rest -/
theorem Conv_bite {b : Bool} {x y : M α} {f : α → M β} {u v : α} {r : β} (h1 : b = true → Conv x u) (h2 : b = false → Conv y v) (g : Conv (f (bif b then u else v)) r) : Conv (bind (ite b x y) f) r :=
  Conv_bind (Conv_ite2 h1 h2) g

/-! searches: a loop that leaves at the first element of a kind -/
theorem run_all (p : α → Bool) (u : Unit ⊕ ρ) : ∀ (i : Nat) (l : List α), run (ρ := Unit ⊕ ρ) (fun _ x _ => bif p x then .inl () else .inr u) (fun s => .inl s) i l () = bif l.all p then .inl () else u
  | _, [] => rfl
  | i, x :: xs => by
    simp only [run, List.all_cons]
    cases p x
    · rfl
    · simpa using run_all p u (i + 1) xs
/-- 'for .. if not p x, return v' -/
theorem Conv_all {l : List α} {f : Int → Unit → M (Unit ⊕ (Unit ⊕ ρ))} (p : α → Bool) (v : ρ) (hl : l.length ≤ 9223372036854775807) (H : ∀ (i : Nat) x, l[i]? = some x → Conv (f i ()) (bif p x then .inl () else .inr (.inr v))) :
    Conv (forI 0 (l.length : Int) (fun s => .inl s) f ()) (bif l.all p then .inl () else .inr v) :=
  (Conv_forL (fun _ x _ => bif p x then .inl () else .inr (.inr v)) hl fun i x _ hx => H i x hx).of (run_all p (.inr v) 0 l)
/-- the same, where the element's place matters to the test -/
theorem run_allI (p : Nat → α → Bool) (u : Unit ⊕ ρ) : ∀ (i : Nat) (l : List α), run (ρ := Unit ⊕ ρ) (fun j x _ => bif p j x then .inl () else .inr u) (fun s => .inl s) i l () = bif (l.zipIdx i).all (fun q => p q.2 q.1) then .inl () else u
  | _, [] => rfl
  | i, x :: xs => by
    simp only [run, List.zipIdx_cons, List.all_cons]
    cases p i x
    · rfl
    · simpa using run_allI p u (i + 1) xs
theorem Conv_allI {l : List α} {f : Int → Unit → M (Unit ⊕ (Unit ⊕ ρ))} (p : Nat → α → Bool) (v : ρ) (hl : l.length ≤ 9223372036854775807) (H : ∀ (i : Nat) x, l[i]? = some x → Conv (f i ()) (bif p i x then .inl () else .inr (.inr v))) :
    Conv (forI 0 (l.length : Int) (fun s => .inl s) f ()) (bif (l.zipIdx 0).all (fun q => p q.2 q.1) then .inl () else .inr v) :=
  (Conv_forL (fun j x _ => bif p j x then .inl () else .inr (.inr v)) hl fun i x _ hx => H i x hx).of (run_allI p (.inr v) 0 l)
/-- 'for i .. if p x, return i' -/
theorem run_find (p : α → Bool) : ∀ (i : Nat) (l : List α), run (σ := Unit) (ρ := Unit ⊕ Int) (fun j x _ => bif p x then .inr (.inr (j : Int)) else .inl ()) (fun s => .inl s) i l () = match l.findIdx? p with
    | some j => .inr ((i + j : Nat) : Int)
    | none => .inl ()
  | _, [] => rfl
  | i, x :: xs => by
    simp only [run, List.findIdx?_cons]
    cases hp : p x
    · simp only [cond_false, run_find p (i + 1) xs, Bool.false_eq_true, if_false]
      cases xs.findIdx? p with
      | none => rfl
      | some j => simp only [Option.map_some]; congr 2; omega
    · simp
theorem Conv_find {l : List α} {f : Int → Unit → M (Unit ⊕ (Unit ⊕ Int))} (p : α → Bool) (hl : l.length ≤ 9223372036854775807) (H : ∀ (i : Nat) x, l[i]? = some x → Conv (f i ()) (bif p x then .inr (.inr (i : Int)) else .inl ())) :
    Conv (forI 0 (l.length : Int) (fun s => .inl s) f ()) (match l.findIdx? p with | some j => .inr (j : Int) | none => .inl ()) :=
  (Conv_forL (fun j x _ => bif p x then .inr (.inr (j : Int)) else .inl ()) hl fun i x _ hx => H i x hx).of (by rw [run_find]; simp)
/-- sums: each round turns what has been gathered -/
theorem run_fold (g : σ → α → σ) : ∀ (i : Nat) (l : List α) (s : σ), run (fun _ x s => .inl (g s x)) (fun s => s) i l s = l.foldl g s
  | _, [], _ => rfl
  | i, x :: xs, s => by simpa [run] using run_fold g (i + 1) xs (g s x)
theorem Conv_fold {l : List α} {f : Int → σ → M (σ ⊕ σ)} {s : σ} (g : σ → α → σ) (hl : l.length ≤ 9223372036854775807) (H : ∀ (i : Nat) x s, l[i]? = some x → Conv (f i s) (.inl (g s x))) :
    Conv (forI 0 (l.length : Int) (fun s => s) f s) (l.foldl g s) :=
  (Conv_forL (fun _ x s => .inl (g s x)) hl fun i x s hx => H i x s hx).of (run_fold g 0 l s)
theorem get_set_append {l r : List α} {x y : α} : (l ++ y :: r).set l.length x = l ++ x :: r := by simp
/-- a loop that fills a list of the same length, element by element -/
theorem run_fill (g : Nat → α → β) (z : β) : ∀ (i : Nat) (l : List α) (d : List β), d.length = i →
    run (fun j x s => .inl (s.set j (g j x))) (fun s => s) i l (d ++ List.replicate l.length z) = d ++ (l.zipIdx i).map (fun q => g q.2 q.1)
  | _, [], d, _ => by simp [run]
  | i, x :: xs, d, hd => by
    subst hd
    simp only [run, List.length_cons, List.replicate_succ, get_set_append]
    have := run_fill g z (d.length + 1) xs (d ++ [g d.length x]) (by simp)
    simp only [List.append_assoc, List.singleton_append] at this
    rw [this]
    simp
theorem Conv_fill {l : List α} {f : Int → List β → M (List β ⊕ List β)} (g : Nat → α → β) (z : β) (hl : l.length ≤ 9223372036854775807)
    (H : ∀ (i : Nat) x s, l[i]? = some x → s.length = l.length → Conv (f i s) (.inl (s.set i (g i x)))) :
    Conv (forI 0 (l.length : Int) (fun s => s) f (List.replicate l.length z)) ((l.zipIdx 0).map (fun q => g q.2 q.1)) := by
  refine (Conv_forI (fun j x s => .inl (s.set j (g j x))) (fun _ s => s.length = l.length) hl (by simp) fun i x s hx hI => ⟨H i x s hx hI, fun s' e => ?_⟩).of ?_
  · cases e; simpa using hI
  · simpa using run_fill g z 0 l [] rfl
theorem zipIdx_map_fst {l : List α} {g : α → β} {i : Nat} : ((l.zipIdx i).map fun q => g q.1) = l.map g := by
  have h : List.map (g ∘ Prod.fst) (l.zipIdx i) = List.map g l := by rw [← List.map_map, List.zipIdx_map_fst]
  exact h
theorem findIdx_any {l : List α} {p : α → Bool} : (decide ((0:Int) ≤ match l.findIdx? p with | some j => (j : Int) | none => -1)) = l.any p := by
  cases h : l.findIdx? p with
  | none => rw [List.findIdx?_eq_none_iff] at h; simp; exact fun x hx => by simpa using h x hx
  | some j =>
    obtain ⟨hj, hp, _⟩ := List.findIdx?_eq_some_iff_getElem.1 h
    simp
    exact ⟨_, List.getElem_mem hj, hp⟩
end M
def finB (x : Int) : Bool := decide (-1000000 ≤ x) && decide (x ≤ 1000000)
def valB (x : Int) : Bool := x == (-1000000000000000) || finB x
theorem spec_l01In_ok (x lo hi : Int) : M.Conv (spec_l01In x lo hi) (decide (lo ≤ x) && decide (x ≤ hi)) := M.Conv_ret _
theorem spec_l01Finite_ok (x : Int) : M.Conv (spec_l01Finite x) (finB x) := M.Conv_bind (spec_l01In_ok _ _ _) (M.Conv_ret _)
theorem spec_IsValue_ok (x : Int) : M.Conv (spec_IsValue x) (valB x) := by
  unfold spec_IsValue
  refine M.Conv_bind (M.Conv_ite (r := valB x) (fun h => ?_) (fun h => ?_)) (M.Conv_ret _)
  · simp only [valB, h, Bool.true_or]; exact M.Conv_ret _
  · simp only [valB, h, Bool.false_or]; exact M.Conv_bind (spec_l01Finite_ok x) (M.Conv_ret _)
theorem spec_l01All_ok {l : List Int} (f : Bool) (hl : l.length ≤ 9223372036854775807) : M.Conv (spec_l01All l f) (l.all fun x => valB x && !(f && x == (-1000000000000000))) := by
  unfold spec_l01All
  refine M.Conv_bind (M.Conv_all (fun x => valB x && !(f && x == (-1000000000000000))) false hl fun i x hx => ?_) ?_
  · refine M.Conv_bind (M.Conv_get (by omega) (by simpa using hx)) (M.Conv_bind (spec_IsValue_ok x) ?_)
    refine M.Conv_bind (x := !(valB x && !(f && x == (-1000000000000000)))) (M.Conv_ite (fun h => ?_) (fun h => ?_)) ?_
    · simp at h; simp [h]; exact M.Conv_ret _
    · simp at h
      refine M.Conv_bind (x := (f && x == (-1000000000000000))) (M.Conv_ite (fun h => ?_) (fun h => ?_)) (by simp [h]; exact M.Conv_ret _)
      · simp [h]; exact M.Conv_bind (M.Conv_get (by omega) (by simpa using hx)) (M.Conv_ret _)
      · simp [h]; exact M.Conv_ret _
    · cases (valB x && !(f && x == (-1000000000000000))) <;> exact M.Conv_ret _
  · cases (l.all fun x => valB x && !(f && x == (-1000000000000000))) <;> exact M.Conv_ret _
theorem impl_within_ok (x lo hi : Int) : M.Conv (impl_within x lo hi) (decide (lo ≤ x) && decide (x ≤ hi)) := M.Conv_ret _
theorem impl_isFinite_ok (x : Int) : M.Conv (impl_isFinite x) (finB x) := M.Conv_bind (impl_within_ok _ _ _) (M.Conv_ret _)
theorem impl_IsValue_ok (x : Int) : M.Conv (impl_IsValue x) (valB x) := by
  unfold impl_IsValue
  refine M.Conv_bind (M.Conv_ite (r := valB x) (fun h => ?_) (fun h => ?_)) (M.Conv_ret _)
  · simp only [valB, h, Bool.true_or]; exact M.Conv_ret _
  · simp only [valB, h, Bool.false_or]; exact M.Conv_bind (impl_isFinite_ok x) (M.Conv_ret _)
/-- 'slices.ContainsFunc', behind 'slices.IndexFunc' -/
theorem contains_ok {α : Type} {l : List α} {f : Int → Unit → M (Unit ⊕ (Unit ⊕ Int))} (p : α → Bool) (hl : l.length ≤ 9223372036854775807) (H : ∀ (i : Nat) x, l[i]? = some x → M.Conv (f i ()) (bif p x then .inr (.inr (i : Int)) else .inl ())) :
    M.Conv (M.bind (M.bind (M.forI 0 (l.length : Int) (fun s => .inl s) f ()) (fun x1 => M.cont x1 (fun _ => M.ret (-1)) (fun r => M.ret r))) (fun x1 => M.ret (decide (0 ≤ x1)))) (l.any p) := by
  rw [← M.findIdx_any]
  refine M.Conv_bind (M.Conv_bind (M.Conv_find p hl H) ?_) (M.Conv_ret _)
  cases l.findIdx? p <;> exact M.Conv_ret _
theorem any_not {α : Type} {l : List α} {p : α → Bool} : (!l.any fun x => !p x) = l.all p := by
  induction l with
  | nil => rfl
  | cons x xs ih => simp only [List.any_cons, List.all_cons, Bool.not_or, Bool.not_not, ih]
theorem impl_areValues_ok {l : List Int} (hl : l.length ≤ 9223372036854775807) : M.Conv (impl_areValues l) (l.all valB) := by
  unfold impl_areValues slices_ContainsFunc_int_F_impl_areValues_1 slices_IndexFunc_int_F_impl_areValues_1
  refine M.Conv_bind (contains_ok (fun x => !valB x) hl fun i x hx => ?_) ((M.Conv_ret _).of any_not)
  refine M.Conv_bind (M.Conv_get (by omega) (by simpa using hx)) ?_
  refine M.Conv_bind (x := !valB x) (M.Conv_bind (impl_IsValue_ok x) (M.Conv_ret _)) ?_
  cases valB x <;> exact M.Conv_ret _
/-- the greatest of a list; Bottom if there is none -/
def maxL (l : List Int) : Int := l.foldl mx (-1000000000000000)
theorem impl_sumOf_ok {l : List Int} (hl : l.length ≤ 9223372036854775807) : M.Conv (impl_sumOf l) (maxL l) := by
  unfold impl_sumOf
  refine M.Conv_bind (M.Conv_fold mx hl fun i x s hx => ?_) (M.Conv_ret _)
  exact M.Conv_bind (M.Conv_get (by omega) (by simpa using hx)) (M.Conv_ret _)
theorem mx_eq (a b : Int) : mx a b = max a b := by unfold mx; split <;> omega
theorem foldl_mx_ge (l : List Int) (s : Int) : s ≤ l.foldl mx s := by
  induction l generalizing s with
  | nil => exact Int.le_refl _
  | cons x xs ih => exact Int.le_trans (by rw [mx_eq]; omega) (ih (mx s x))
theorem foldl_mx_mem {l : List Int} {s x : Int} (h : x ∈ l) : x ≤ l.foldl mx s := by
  induction l generalizing s with
  | nil => cases h
  | cons y ys ih =>
    rcases List.mem_cons.1 h with rfl | h
    · exact Int.le_trans (by rw [mx_eq]; omega) (foldl_mx_ge ys (mx s x))
    · exact ih h
theorem foldl_mx_in (l : List Int) (s : Int) : l.foldl mx s = s ∨ l.foldl mx s ∈ l := by
  induction l generalizing s with
  | nil => exact .inl rfl
  | cons y ys ih =>
    rcases ih (mx s y) with h | h
    · rw [List.foldl_cons, h, mx_eq]
      by_cases e : s ≤ y
      · right; rw [show max s y = y by omega]; exact List.mem_cons_self
      · left; omega
    · exact .inr (List.mem_cons_of_mem _ h)
theorem valB_ge {x : Int} (h : valB x = true) : -1000000000000000 ≤ x := by
  simp [valB, finB] at h; omega
theorem maxL_ne {l : List Int} (h : l.all valB = true) : (maxL l != (-1000000000000000)) = l.any (· != (-1000000000000000)) := by
  rw [List.all_eq_true] at h
  rw [Bool.eq_iff_iff, List.any_eq_true]
  constructor
  · intro hne
    rcases foldl_mx_in l (-1000000000000000) with e | e
    · simp [maxL, e] at hne
    · exact ⟨_, e, hne⟩
  · rintro ⟨x, hx, hne⟩
    have h1 := foldl_mx_mem (s := -1000000000000000) hx
    have h2 := valB_ge (h x hx)
    have hne : x ≠ -1000000000000000 := by simpa using hne
    have : maxL l ≠ -1000000000000000 := by unfold maxL; omega
    simpa using this
/-- a polynomial: up to twelve values, not all of them Bottom -/
def polyB (c : List Int) : Bool := decide (c.length ≤ 12) && c.all valB && c.any (· != (-1000000000000000))
theorem spec_IsPolynomial_ok {c : List Int} (hl : c.length ≤ 9223372036854775807) : M.Conv (spec_IsPolynomial c) (polyB c) := by
  unfold spec_IsPolynomial polyB
  refine M.Conv_bind (x := !(decide (c.length ≤ 12) && c.all valB)) (M.Conv_ite (fun h => ?_) (fun h => ?_)) ?_
  · have h := of_decide_eq_true h
    rw [decide_eq_false (by omega)]; exact M.Conv_ret _
  · have h := of_decide_eq_false h
    rw [decide_eq_true (by omega)]
    refine M.Conv_bind (spec_l01All_ok false hl) ((M.Conv_ret _).of ?_)
    simp
  · cases (decide (c.length ≤ 12) && c.all valB)
    · exact M.Conv_ret _
    · refine M.Conv_bind (M.Conv_all (fun x => x == (-1000000000000000)) true hl fun i x hx => ?_) ?_
      · refine M.Conv_bind (M.Conv_get (by omega) (by simpa using hx)) ?_
        simp only [bne]
        cases (x == (-1000000000000000)) <;> exact M.Conv_ret _
      · have : (c.all fun x => x == (-1000000000000000)) = !c.any (· != (-1000000000000000)) := by rw [← any_not]; rfl
        rw [this]
        cases c.any (· != (-1000000000000000)) <;> exact M.Conv_ret _
theorem impl_IsPolynomial_ok {c : List Int} (hl : c.length ≤ 9223372036854775807) : M.Conv (impl_IsPolynomial c) (polyB c) := by
  unfold impl_IsPolynomial polyB
  refine M.Conv_bind (impl_within_ok _ _ _) ?_
  by_cases h0 : c = []
  · subst h0; exact M.Conv_bind (x := false) (M.Conv_ret _) (M.Conv_bind (x := false) (M.Conv_ret _) (M.Conv_ret _))
  have hp : 0 < c.length := List.length_pos_iff.2 h0
  refine M.Conv_bind (x := decide (c.length ≤ 12) && c.all valB) (M.Conv_ite (fun h => ?_) (fun h => ?_)) ?_
  · simp at h
    rw [decide_eq_true (by omega)]; exact M.Conv_bind (impl_areValues_ok hl) ((M.Conv_ret _).of (by simp))
  · simp at h
    rw [decide_eq_false (by omega)]; exact M.Conv_ret _
  · refine M.Conv_bind (x := (decide (c.length ≤ 12) && c.all valB) && c.any (· != (-1000000000000000))) (M.Conv_ite (fun h => ?_) (fun h => ?_)) (M.Conv_ret _)
    · have h2 := (Bool.and_eq_true _ _ ▸ h).2
      rw [h]
      exact M.Conv_bind (impl_sumOf_ok hl) ((M.Conv_ret _).of (by rw [maxL_ne h2]; simp))
    · rw [h]; exact M.Conv_ret _
def smI (l : List Int) : Prop := l.length ≤ 1099511627776
theorem mul_bd {a b A B : Int} (ha : -A ≤ a ∧ a ≤ A) (hb : -B ≤ b ∧ b ≤ B) : -(A * B) ≤ a * b ∧ a * b ≤ A * B := by
  have h1 : a.natAbs ≤ A.natAbs := by omega
  have h2 : b.natAbs ≤ B.natAbs := by omega
  have h3 : (a * b).natAbs ≤ A.natAbs * B.natAbs := by rw [Int.natAbs_mul]; exact Nat.mul_le_mul h1 h2
  have hA : ((A.natAbs * B.natAbs : Nat) : Int) = A * B := by
    rw [Int.natCast_mul, Int.natAbs_of_nonneg (by omega), Int.natAbs_of_nonneg (by omega)]
  omega
theorem finB_bd {x : Int} (h : finB x = true) : -1000000 ≤ x ∧ x ≤ 1000000 := by simpa [finB] using h
theorem val_ne {x : Int} (h : valB x = true) (hn : (x == (-1000000000000000)) = false) : finB x = true := by simpa [valB, hn] using h
/-- a loop that takes elements off a list's end -/
theorem pop_loop {f : List Int → M (List Int ⊕ List Int)} (t : Int → Int → Bool) (G : List Int → Prop) (sub : ∀ x l, G (x :: l) → G l) (h1 : ∀ l, G l → l.length ≤ 1 → M.Conv (f l.reverse) (.inr l.reverse))
    (h2 : ∀ j i r, G (j :: i :: r) → M.Conv (f (j :: i :: r).reverse) (bif t j i then .inr (j :: i :: r).reverse else .inl (i :: r).reverse)) : ∀ rs, G rs → ∃ qs, G qs ∧ (∀ x ∈ qs, x ∈ rs) ∧ M.Conv (M.loop f rs.reverse) qs.reverse ∧ qs.length ≤ rs.length ∧
      (∀ (f' : List Int → M (List Int ⊕ List Int)), (∀ l, G l → l.length ≤ 1 → M.Conv (f' l.reverse) (.inr l.reverse)) → (∀ j i r, G (j :: i :: r) → M.Conv (f' (j :: i :: r).reverse) (bif t j i then .inr (j :: i :: r).reverse else .inl (i :: r).reverse)) → M.Conv (M.loop f' rs.reverse) qs.reverse) := by
  have stop : ∀ (f : List Int → M (List Int ⊕ List Int)) (s r : List Int), M.Conv (f s) (.inr r) → M.Conv (M.loop f s) r := by
    intro f s r ⟨N, h⟩
    refine ⟨max N 1, fun n hn => ?_⟩
    obtain ⟨m, rfl⟩ : ∃ m, n = m + 1 := ⟨n - 1, by omega⟩
    simp [M.loop, M.loopN, h (m + 1) (by omega)]
  have more : ∀ (f : List Int → M (List Int ⊕ List Int)) (s s' r : List Int), M.Conv (f s) (.inl s') → (∃ N m0, ∀ n, N ≤ n → ∀ m, m0 ≤ m → M.loopN f n m s' = some r) → (∃ N m0, ∀ n, N ≤ n → ∀ m, m0 ≤ m → M.loopN f n m s = some r) := by
    intro f s s' r ⟨N, h⟩ ⟨N', m0, h'⟩
    refine ⟨max N N', m0 + 1, fun n hn m hm => ?_⟩
    obtain ⟨m, rfl⟩ : ∃ q, m = q + 1 := ⟨m - 1, by omega⟩
    simp only [M.loopN, h n (by omega)]
    exact h' n (by omega) m (by omega)
  have one : ∀ (f : List Int → M (List Int ⊕ List Int)) (s r : List Int), M.Conv (f s) (.inr r) → (∃ N m0, ∀ n, N ≤ n → ∀ m, m0 ≤ m → M.loopN f n m s = some r) := by
    intro f s r ⟨N, h⟩
    refine ⟨N, 1, fun n hn m hm => ?_⟩
    obtain ⟨m, rfl⟩ : ∃ q, m = q + 1 := ⟨m - 1, by omega⟩
    simp [M.loopN, h n hn]
  have fin : ∀ (f : List Int → M (List Int ⊕ List Int)) (s r : List Int), (∃ N m0, ∀ n, N ≤ n → ∀ m, m0 ≤ m → M.loopN f n m s = some r) → M.Conv (M.loop f s) r := fun f s r ⟨N, m0, h⟩ => ⟨max N m0, fun n hn => h n (by omega) n (by omega)⟩
  suffices H : ∀ rs, G rs → ∃ qs, G qs ∧ (∀ x ∈ qs, x ∈ rs) ∧ qs.length ≤ rs.length ∧ (∀ (f' : List Int → M (List Int ⊕ List Int)), (∀ l, G l → l.length ≤ 1 → M.Conv (f' l.reverse) (.inr l.reverse)) → (∀ j i r, G (j :: i :: r) → M.Conv (f' (j :: i :: r).reverse) (bif t j i then .inr (j :: i :: r).reverse else .inl (i :: r).reverse)) →
      ∃ N m0, ∀ n, N ≤ n → ∀ m, m0 ≤ m → M.loopN f' n m rs.reverse = some qs.reverse) by
    intro rs hg
    obtain ⟨qs, a, b, c, d⟩ := H rs hg
    exact ⟨qs, a, b, fin _ _ _ (d f h1 h2), c, fun f' k1 k2 => fin _ _ _ (d f' k1 k2)⟩
  intro rs
  induction rs with
  | nil => exact fun hg => ⟨[], hg, fun _ h => h, Nat.le_refl _, fun f' k1 _ => one _ _ _ (k1 [] hg (by simp))⟩
  | cons j rs ih =>
    intro hg
    cases rs with
    | nil => exact ⟨[j], hg, fun _ h => h, Nat.le_refl _, fun f' k1 _ => one _ _ _ (k1 [j] hg (by simp))⟩
    | cons i r =>
      cases ht : t j i with
      | true => exact ⟨j :: i :: r, hg, fun _ h => h, Nat.le_refl _, fun f' _ k2 => one _ _ _ (by have := k2 j i r hg; rwa [ht] at this)⟩
      | false =>
        obtain ⟨qs, a, b, c, d⟩ := ih (sub _ _ hg)
        exact ⟨qs, a, fun x hx => List.mem_cons_of_mem _ (b x hx), Nat.le_succ_of_le c, fun f' k1 k2 => more _ _ _ _ (by have := k2 j i r hg; rwa [ht] at this) (d f' k1 k2)⟩
/-- an index below k, whose coefficient is finite -/
def termB (c : List Int) (k : Nat) (t : Int) : Prop := 0 ≤ t ∧ t < k ∧ ∃ x, c[t.toNat]? = some x ∧ finB x = true
theorem rev_last {j i : Int} {r : List Int} : (j :: i :: r).reverse[(j :: i :: r).reverse.length - 1]? = some j ∧ (j :: i :: r).reverse[(j :: i :: r).reverse.length - 2]? = some i := by
  constructor
  · simp
  · simp
theorem rev_init {j i : Int} {r : List Int} : ((j :: i :: r).reverse.drop 0).take ((j :: i :: r).reverse.length - 1) = (i :: r).reverse := by
  simp [List.take_append]
  exact List.take_of_length_le (by simp)
/-- what the loop's round reads -/
theorem reads2 {j i : Int} {r : List Int} (hlen : (j :: i :: r).length ≤ 12) : M.Conv (M.idx (j :: i :: r).reverse (w64 (((j :: i :: r).reverse.length : Int) - 2))) i ∧ M.Conv (M.idx (j :: i :: r).reverse (w64 (((j :: i :: r).reverse.length : Int) - 1))) j ∧
    M.Conv (M.sub (j :: i :: r).reverse 0 (w64 (((j :: i :: r).reverse.length : Int) - 1))) (i :: r).reverse := by
  have hl : (j :: i :: r).reverse.length = r.length + 2 := by simp
  simp only [List.length_cons] at hlen
  rw [w64_eq _ (by rw [hl]; omega), w64_eq _ (by rw [hl]; omega)]
  refine ⟨M.Conv_get (by rw [hl]; omega) ?_, M.Conv_get (by rw [hl]; omega) ?_, (M.Conv_sub (by omega) (by rw [hl]; omega) (by rw [hl]; omega)).of ?_⟩
  · have := (rev_last (j := j) (i := i) (r := r)).2
    rw [show (((j :: i :: r).reverse.length : Int) - 2).toNat = (j :: i :: r).reverse.length - 2 by omega]; exact this
  · have := (rev_last (j := j) (i := i) (r := r)).1
    rw [show (((j :: i :: r).reverse.length : Int) - 1).toNat = (j :: i :: r).reverse.length - 1 by omega]; exact this
  · rw [show (((j :: i :: r).reverse.length : Int) - 1).toNat - (0 : Int).toNat = (j :: i :: r).reverse.length - 1 by omega]; exact rev_init
/-- the rounds of the two programs, named -/
def popS (c : List Int) (i1 : Int) (s3 : List Int) : M (List Int ⊕ List Int) := M.ite (decide (1 < (s3.length : Int))) (M.bind (M.idx s3 (w64 ((s3.length : Int) - 2))) (fun x4 => M.bind (M.idx s3 (w64 ((s3.length : Int) - 1))) (fun x5 => M.bind (M.idx c x5) (fun x6 => M.bind (M.idx c x4) (fun x7 => M.bind (M.idx c i1) (fun x8 => M.bind (M.idx c x5) (fun x9 => M.ite (decide ((w64 ((w64 (x8 - x9)) * (w64 (x5 - x4)))) < (w64 ((w64 (x6 - x7)) * (w64 (i1 - x5)))))) (M.ret (.inr s3)) (M.bind (M.sub s3 0 (w64 ((s3.length : Int) - 1))) (fun x10 => M.ret (.inl x10)))))))))) (M.ret (.inr s3))
def popI (c : List Int) (i1 x2 : Int) (s3 : List Int) : M (List Int ⊕ List Int) := M.ite (decide (1 < (s3.length : Int))) (M.bind (M.idx s3 (w64 ((s3.length : Int) - 2))) (fun x4 => M.bind (M.idx s3 (w64 ((s3.length : Int) - 1))) (fun x5 => M.bind (M.idx c x5) (fun x6 => M.bind (M.idx c x4) (fun x7 => M.bind (M.idx c x4) (fun x8 => M.ite (decide ((w64 ((w64 (x2 - x8)) * (w64 (x5 - x4)))) < (w64 ((w64 (x6 - x7)) * (w64 (i1 - x4)))))) (M.ret (.inr s3)) (M.bind (M.sub s3 0 (w64 ((s3.length : Int) - 1))) (fun x9 => M.ret (.inl x9))))))))) (M.ret (.inr s3))
def hullS (c : List Int) (i1 : Int) (s1 : List Int) : M (List Int ⊕ List Int) := M.bind (M.bind (M.idx c i1) (fun x2 => M.ite (x2 == (-1000000000000000)) (M.ret s1) (M.bind (M.loop (popS c i1) s1) (fun x3 => M.bind (M.app x3 ([i1] : List Int)) (fun l1 => M.ret l1))))) (fun (s2 : (List Int)) => M.ret (.inl s2))
def hullI (c : List Int) (i1 : Int) (s1 : List Int) : M (List Int ⊕ List Int) := M.bind (M.bind (M.idx c i1) (fun x2 => M.ite (x2 == (-1000000000000000)) (M.ret s1) (M.bind (M.loop (popI c i1 x2) s1) (fun x3 => M.bind (M.app x3 ([i1] : List Int)) (fun l1 => M.ret l1))))) (fun (s2 : (List Int)) => M.ret (.inl s2))
theorem spec_l09Terms_eq (c : List Int) : spec_l09Terms c = M.bind (M.forI 0 (c.length : Int) (fun s => s) (hullS c) []) (fun x1 => M.ret x1) := rfl
theorem impl_essentialTerms_eq (c : List Int) : impl_essentialTerms c = M.bind (M.forI 0 (c.length : Int) (fun s => s) (hullI c) []) (fun x1 => M.ret x1) := rfl
def keepB (c : List Int) (k x j i : Int) : Bool := decide ((x - (c[j.toNat]?).getD 0) * (j - i) < ((c[j.toNat]?).getD 0 - (c[i.toNat]?).getD 0) * (k - j))
def GoodT (c : List Int) (k : Nat) (l : List Int) : Prop := l.length ≤ 12 ∧ (∀ t ∈ l, termB c k t) ∧ List.Pairwise (fun a b => b < a) l
theorem GoodT.reads {c : List Int} {k : Nat} {j i : Int} {r : List Int} (hk : k ≤ 12) (h : GoodT c k (j :: i :: r)) : ∃ cj ci, M.Conv (M.idx c j) cj ∧ M.Conv (M.idx c i) ci ∧ (-1000000 ≤ cj ∧ cj ≤ 1000000) ∧ (-1000000 ≤ ci ∧ ci ≤ 1000000) ∧ 0 ≤ i ∧ 0 ≤ j ∧ j < k ∧ i < k ∧ (c[j.toNat]?).getD 0 = cj ∧ (c[i.toNat]?).getD 0 = ci := by
  obtain ⟨_, hm, _⟩ := h
  obtain ⟨a1, a2, cj, a3, a4⟩ := hm j List.mem_cons_self
  obtain ⟨b1, b2, ci, b3, b4⟩ := hm i (List.mem_cons_of_mem _ List.mem_cons_self)
  exact ⟨cj, ci, M.Conv_get a1 a3, M.Conv_get b1 b3, finB_bd a4, finB_bd b4, b1, a1, a2, b2, by simp [a3], by simp [b3]⟩
theorem small_len {l : List Int} (hl : l.length ≤ 1) : decide (1 < (l.reverse.length : Int)) = false := decide_eq_false (by simp; omega)
theorem big_len (j i : Int) (r : List Int) : decide (1 < ((j :: i :: r).reverse.length : Int)) = true := decide_eq_true (by simp; omega)
theorem popS_ok {c : List Int} {k : Nat} {x j i : Int} {r : List Int} (hk : k ≤ 12) (hx : c[k]? = some x) (bx : -1000000 ≤ x ∧ x ≤ 1000000) (hg : GoodT c k (j :: i :: r)) :
    M.Conv (popS c k (j :: i :: r).reverse) (bif keepB c k x j i then .inr (j :: i :: r).reverse else .inl (i :: r).reverse) := by
  obtain ⟨cj, ci, r1, r2, b1, b2, i0, j0, j1, i1, e1, e2⟩ := hg.reads hk
  obtain ⟨q1, q2, q3⟩ := reads2 hg.1
  have hget : M.Conv (M.idx c (k : Int)) x := M.Conv_get (by omega) (by simpa using hx)
  refine M.Conv_ite (fun _ => ?_) (fun h => by rw [big_len] at h; cases h)
  refine M.Conv_bind q1 (M.Conv_bind q2 (M.Conv_bind r1 (M.Conv_bind r2 (M.Conv_bind hget (M.Conv_bind r1 ?_)))))
  have m1 := mul_bd (a := x - cj) (b := j - i) (A := 2000000) (B := 12) (by omega) (by omega)
  have m2 := mul_bd (a := cj - ci) (b := k - j) (A := 2000000) (B := 12) (by omega) (by omega)
  rw [w64_eq (x - cj) (by omega), w64_eq (j - i) (by omega), w64_eq (cj - ci) (by omega), w64_eq (k - j) (by omega), w64_eq _ (by omega), w64_eq _ (by omega)]
  have et : keepB c k x j i = decide ((x - cj) * (j - i) < (cj - ci) * (k - j)) := by simp only [keepB, e1, e2]
  rw [et]
  refine M.Conv_ite (fun h => ?_) (fun h => ?_)
  · rw [h]; exact M.Conv_ret _
  · rw [h]; exact M.Conv_bind q3 (M.Conv_ret _)
theorem popI_ok {c : List Int} {k : Nat} {x j i : Int} {r : List Int} (hk : k ≤ 12) (bx : -1000000 ≤ x ∧ x ≤ 1000000) (hg : GoodT c k (j :: i :: r)) :
    M.Conv (popI c k x (j :: i :: r).reverse) (bif keepB c k x j i then .inr (j :: i :: r).reverse else .inl (i :: r).reverse) := by
  obtain ⟨cj, ci, r1, r2, b1, b2, i0, j0, j1, i1, e1, e2⟩ := hg.reads hk
  obtain ⟨q1, q2, q3⟩ := reads2 hg.1
  refine M.Conv_ite (fun _ => ?_) (fun h => by rw [big_len] at h; cases h)
  refine M.Conv_bind q1 (M.Conv_bind q2 (M.Conv_bind r1 (M.Conv_bind r2 (M.Conv_bind r2 ?_))))
  have m1 := mul_bd (a := x - ci) (b := j - i) (A := 2000000) (B := 12) (by omega) (by omega)
  have m2 := mul_bd (a := cj - ci) (b := k - i) (A := 2000000) (B := 12) (by omega) (by omega)
  rw [w64_eq (x - ci) (by omega), w64_eq (j - i) (by omega), w64_eq (cj - ci) (by omega), w64_eq (k - i) (by omega), w64_eq _ (by omega), w64_eq _ (by omega)]
  have et : keepB c k x j i = decide ((x - ci) * (j - i) < (cj - ci) * (k - i)) := by
    simp only [keepB, e1, e2]
    congr 1
    rw [eq_iff_iff]
    have a1 : (x - ci) * (j - i) = (x - cj) * (j - i) + (cj - ci) * (j - i) := by rw [← Int.add_mul]; congr 1; omega
    have a2 : (cj - ci) * (k - i) = (cj - ci) * (k - j) + (cj - ci) * (j - i) := by rw [← Int.mul_add]; congr 1; omega
    omega
  rw [et]
  refine M.Conv_ite (fun h => ?_) (fun h => ?_)
  · rw [h]; exact M.Conv_ret _
  · rw [h]; exact M.Conv_bind q3 (M.Conv_ret _)
/-- the terms found among the first k coefficients, the last one first -/
def TermsT (c : List Int) (k : Nat) (rs : List Int) : Prop := rs.length ≤ k ∧ (∀ t ∈ rs, termB c k t) ∧ List.Pairwise (fun a b => b < a) rs ∧ ((c.take k).any (· != (-1000000000000000)) = true → rs ≠ [])
theorem hull_round {c : List Int} {k : Nat} {x : Int} {rs : List Int} (hc : c.length ≤ 12) (hv : ∀ x ∈ c, valB x = true) (hx : c[k]? = some x) (hG : TermsT c k rs) :
    ∃ rs', TermsT c (k + 1) rs' ∧ M.Conv (hullS c k rs.reverse) (.inl rs'.reverse) ∧ M.Conv (hullI c k rs.reverse) (.inl rs'.reverse) := by
  have hk := (List.getElem?_eq_some_iff.1 hx).1
  have hmem : x ∈ c := List.mem_of_getElem? hx
  have hget : M.Conv (M.idx c (k : Int)) x := M.Conv_get (by omega) (by simpa using hx)
  have htk : c.take (k + 1) = c.take k ++ [x] := by rw [List.take_add_one, hx]; rfl
  obtain ⟨g1, g2, g3, g4⟩ := hG
  have up : ∀ t, termB c k t → termB c (k + 1) t := fun t ⟨a, b, d⟩ => ⟨a, by omega, d⟩
  cases hb : (x == (-1000000000000000)) with
  | true =>
    refine ⟨rs, ⟨by omega, fun t ht => up t (g2 t ht), g3, fun h => g4 ?_⟩, ?_, ?_⟩
    · rw [htk, List.any_append] at h
      simpa [bne, hb] using h
    · exact M.Conv_bind (M.Conv_bind hget (M.Conv_ite (fun _ => M.Conv_ret _) (fun h => by rw [hb] at h; cases h))) (M.Conv_ret _)
    · exact M.Conv_bind (M.Conv_bind hget (M.Conv_ite (fun _ => M.Conv_ret _) (fun h => by rw [hb] at h; cases h))) (M.Conv_ret _)
  | false =>
    have hfx := val_ne (hv x hmem) hb
    have bx := finB_bd hfx
    have hG' : GoodT c k rs := ⟨by omega, g2, g3⟩
    have subG : ∀ x l, GoodT c k (x :: l) → GoodT c k l := fun x l ⟨a, b, d⟩ => ⟨by simp at a; omega, fun t ht => b t (List.mem_cons_of_mem _ ht), (List.pairwise_cons.1 d).2⟩
    obtain ⟨qs, q1, q2, q3, q4, q5⟩ := pop_loop (f := popS c k) (keepB c k x) (GoodT c k) subG (fun l _ hl => M.Conv_ite (fun h => by rw [small_len hl] at h; cases h) (fun _ => M.Conv_ret _)) (fun j i r hg => popS_ok (by omega) hx bx hg) rs hG'
    have q6 := q5 (popI c k x) (fun l _ hl => M.Conv_ite (fun h => by rw [small_len hl] at h; cases h) (fun _ => M.Conv_ret _)) (fun j i r hg => popI_ok (by omega) bx hg)
    have happ : M.Conv (M.app qs.reverse ([(k : Int)] : List Int)) ((k : Int) :: qs).reverse := (M.Conv_app (by simp; omega)).of (by simp)
    refine ⟨(k : Int) :: qs, ⟨by simp; omega, fun t ht => ?_, ?_, fun _ => by simp⟩, ?_, ?_⟩
    · rcases List.mem_cons.1 ht with rfl | ht
      · exact ⟨by omega, by omega, x, by simpa using hx, hfx⟩
      · exact up t (q1.2.1 t ht)
    · exact List.pairwise_cons.2 ⟨fun a ha => (q1.2.1 a ha).2.1, q1.2.2⟩
    · exact M.Conv_bind (M.Conv_bind hget (M.Conv_ite (fun h => by rw [hb] at h; cases h) (fun _ => M.Conv_bind q3 (M.Conv_bind happ (M.Conv_ret _))))) (M.Conv_ret _)
    · exact M.Conv_bind (M.Conv_bind hget (M.Conv_ite (fun h => by rw [hb] at h; cases h) (fun _ => M.Conv_bind q6 (M.Conv_bind happ (M.Conv_ret _))))) (M.Conv_ret _)
theorem hull_rounds {c : List Int} (hc : c.length ≤ 12) (hv : ∀ x ∈ c, valB x = true) : ∀ (d k : Nat) (rs : List Int), k + d = c.length → TermsT c k rs → ∃ rs', TermsT c c.length rs' ∧
    (∃ N, ∀ n, N ≤ n → M.forN (c.length : Int) (fun s => s) (hullS c) n d k rs.reverse = some rs'.reverse) ∧ (∃ N, ∀ n, N ≤ n → M.forN (c.length : Int) (fun s => s) (hullI c) n d k rs.reverse = some rs'.reverse)
  | 0, k, rs, hk, hG => by
    obtain rfl : k = c.length := by omega
    exact ⟨rs, hG, ⟨0, fun n _ => by simp [M.forN]⟩, ⟨0, fun n _ => by simp [M.forN]⟩⟩
  | d + 1, k, rs, hk, hG => by
    have hlt : k < c.length := by omega
    have hlt' : (k : Int) < (c.length : Int) := by omega
    obtain ⟨rs1, g1, ⟨N1, s1⟩, ⟨N2, s2⟩⟩ := hull_round hc hv (List.getElem?_eq_getElem hlt) hG
    obtain ⟨rs2, g2, ⟨N3, s3⟩, ⟨N4, s4⟩⟩ := hull_rounds hc hv d (k + 1) rs1 (by omega) g1
    refine ⟨rs2, g2, ⟨max N1 N3, fun n hn => ?_⟩, ⟨max N2 N4, fun n hn => ?_⟩⟩
    · simp only [M.forN, hlt', decide_true, cond_true, s1 n (by omega)]
      have := s3 n (by omega)
      simpa using this
    · simp only [M.forN, hlt', decide_true, cond_true, s2 n (by omega)]
      have := s4 n (by omega)
      simpa using this
/-- the essential terms: what both programs come to -/
theorem terms_ok {c : List Int} (hc : c.length ≤ 12) (hv : c.all valB = true) : ∃ h : List Int, M.Conv (spec_l09Terms c) h ∧ M.Conv (impl_essentialTerms c) h ∧ h.length ≤ c.length ∧ (∀ t ∈ h, termB c c.length t) ∧ (c.any (· != (-1000000000000000)) = true → h ≠ []) ∧ List.Pairwise (· < ·) h := by
  rw [List.all_eq_true] at hv
  obtain ⟨rs, ⟨g1, g2, g3, g4⟩, ⟨N1, s1⟩, ⟨N2, s2⟩⟩ := hull_rounds hc hv c.length 0 [] (by simp) ⟨by simp, by simp, List.Pairwise.nil, by simp⟩
  have hl : (c.length : Int) ≤ 9223372036854775807 := by omega
  refine ⟨rs.reverse, ?_, ?_, by simpa using g1, fun t ht => g2 t (by simpa using ht), fun h => by simpa using g4 (by simpa using h), ?_⟩
  · rw [spec_l09Terms_eq]
    refine M.Conv_bind ⟨N1, fun n hn => ?_⟩ (M.Conv_ret _)
    simp only [M.forI, hl, decide_true, Bool.and_true, show (-9223372036854775808 : Int) ≤ 0 by decide, cond_true]
    have := s1 n hn
    simpa using this
  · rw [impl_essentialTerms_eq]
    refine M.Conv_bind ⟨N2, fun n hn => ?_⟩ (M.Conv_ret _)
    simp only [M.forI, hl, decide_true, Bool.and_true, show (-9223372036854775808 : Int) ≤ 0 by decide, cond_true]
    have := s2 n hn
    simpa using this
  · rw [List.pairwise_reverse]; exact g3

/-- two programs, one answer -/
def Two {α : Type} (m m' : M α) (Post : α → Prop) : Prop := ∃ r, M.Conv m r ∧ M.Conv m' r ∧ Post r
theorem Two.mk {α : Type} {m m' : M α} {Post : α → Prop} {r : α} (h : M.Conv m r) (h' : M.Conv m' r) (p : Post r) : Two m m' Post := ⟨r, h, h', p⟩
theorem Two.ret {α : Type} {Post : α → Prop} (r : α) (p : Post r) : Two (M.ret r) (M.ret r) Post := ⟨r, M.Conv_ret _, M.Conv_ret _, p⟩
theorem Two.bind {α β : Type} {m m' : M α} {f f' : α → M β} {P : α → Prop} {Q : β → Prop} (h : Two m m' P) (g : ∀ x, P x → Two (f x) (f' x) Q) : Two (M.bind m f) (M.bind m' f') Q := by
  obtain ⟨x, h1, h2, p⟩ := h
  obtain ⟨r, g1, g2, q⟩ := g x p
  exact ⟨r, M.Conv_bind h1 g1, M.Conv_bind h2 g2, q⟩
theorem Two.bindC {α α' β : Type} {m : M α} {m' : M α'} {f : α → M β} {f' : α' → M β} {Q : β → Prop} {x : α} {x' : α'} (h : M.Conv m x) (h' : M.Conv m' x') (g : Two (f x) (f' x') Q) : Two (M.bind m f) (M.bind m' f') Q := by
  obtain ⟨r, g1, g2, q⟩ := g
  exact ⟨r, M.Conv_bind h g1, M.Conv_bind h' g2, q⟩
theorem Two.left {α β : Type} {m : M α} {m' : M β} {f : α → M β} {Q : β → Prop} {x : α} (h : M.Conv m x) (g : Two (f x) m' Q) : Two (M.bind m f) m' Q := by
  obtain ⟨r, g1, g2, q⟩ := g
  exact ⟨r, M.Conv_bind h g1, g2, q⟩
theorem Two.right {α β : Type} {m : M α} {m' : M β} {f : α → M β} {Q : β → Prop} {x : α} (h : M.Conv m x) (g : Two m' (f x) Q) : Two m' (M.bind m f) Q := by
  obtain ⟨r, g1, g2, q⟩ := g
  exact ⟨r, g1, M.Conv_bind h g2, q⟩
theorem Two.ite {α : Type} {b : Bool} {x y x' y' : M α} {Q : α → Prop} (h1 : b = true → Two x x' Q) (h2 : b = false → Two y y' Q) : Two (M.ite b x y) (M.ite b x' y') Q := by
  cases b
  · exact h2 rfl
  · exact h1 rfl
theorem Two.iteL {α : Type} {b : Bool} {x y m' : M α} {Q : α → Prop} (h1 : b = true → Two x m' Q) (h2 : b = false → Two y m' Q) : Two (M.ite b x y) m' Q := by
  cases b
  · exact h2 rfl
  · exact h1 rfl
theorem Two.iteR {α : Type} {b : Bool} {x y m' : M α} {Q : α → Prop} (h1 : b = true → Two m' x Q) (h2 : b = false → Two m' y Q) : Two m' (M.ite b x y) Q := by
  cases b
  · exact h2 rfl
  · exact h1 rfl
theorem two_forN {σ ρ : Type} {hi : Int} {fin : σ → ρ} {f f' : Int → σ → M (σ ⊕ ρ)} {Post : ρ → Prop} (I : Int → σ → Prop) (lo : Int)
    (round : ∀ i s, lo ≤ i → i < hi → I i s → Two (f i s) (f' i s) fun y => (∃ s', y = .inl s' ∧ I (i + 1) s') ∨ (∃ r, y = .inr r ∧ Post r)) :
    ∀ (d : Nat) (i : Int) (s : σ), (hi - i).toNat = d → lo ≤ i → (i ≤ hi ∨ i = lo) → I i s → (∀ i s, (i = hi ∨ i = lo ∧ hi ≤ lo) → I i s → Post (fin s)) → ∃ r, (∃ N, ∀ n, N ≤ n → M.forN hi fin f n d i s = some r) ∧ (∃ N, ∀ n, N ≤ n → M.forN hi fin f' n d i s = some r) ∧ Post r
  | 0, i, s, hd, h1, h2, hI, fi => by
    have hge : ¬ i < hi := by omega
    exact ⟨fin s, ⟨0, fun n _ => by simp [M.forN, hge]⟩, ⟨0, fun n _ => by simp [M.forN, hge]⟩, fi i s (by omega) hI⟩
  | d + 1, i, s, hd, h1, h2, hI, fi => by
    have hlt : i < hi := by omega
    obtain ⟨y, ⟨N, hy⟩, ⟨N', hy'⟩, hc⟩ := round i s h1 hlt hI
    rcases hc with ⟨s', rfl, hI'⟩ | ⟨r, rfl, hp⟩
    · obtain ⟨r, ⟨N1, h3⟩, ⟨N2, h4⟩, hp⟩ := two_forN (fin := fin) I lo round d (i + 1) s' (by omega) (by omega) (by omega) hI' fi
      exact ⟨r, ⟨max N N1, fun n hn => by simp [M.forN, hlt, hy n (by omega), h3 n (by omega)]⟩, ⟨max N' N2, fun n hn => by simp [M.forN, hlt, hy' n (by omega), h4 n (by omega)]⟩, hp⟩
    · exact ⟨r, ⟨N, fun n hn => by simp [M.forN, hlt, hy n hn]⟩, ⟨N', fun n hn => by simp [M.forN, hlt, hy' n hn]⟩, hp⟩
theorem Two.for {σ ρ : Type} {lo hi : Int} {fin : σ → ρ} {f f' : Int → σ → M (σ ⊕ ρ)} {s : σ} {Post : ρ → Prop} (I : Int → σ → Prop) (hlo : -9223372036854775808 ≤ lo) (hhi : hi ≤ 9223372036854775807) (h0 : I lo s)
    (round : ∀ i s, lo ≤ i → i < hi → I i s → Two (f i s) (f' i s) fun y => (∃ s', y = .inl s' ∧ I (i + 1) s') ∨ (∃ r, y = .inr r ∧ Post r)) (done : ∀ i s, (i = hi ∨ i = lo ∧ hi ≤ lo) → I i s → Post (fin s)) :
    Two (M.forI lo hi fin f s) (M.forI lo hi fin f' s) Post := by
  obtain ⟨r, ⟨N, h1⟩, ⟨N', h2⟩, hp⟩ := two_forN (fin := fin) I lo round _ lo s rfl (Int.le_refl _) (.inr rfl) h0 done
  exact ⟨r, ⟨N, fun n hn => by simp [M.forI, hlo, hhi, h1 n hn]⟩, ⟨N', fun n hn => by simp [M.forI, hlo, hhi, h2 n hn]⟩, hp⟩
theorem polyB_len {c : List Int} (h : polyB c = true) : c.length ≤ 12 ∧ c.all valB = true ∧ c.any (· != (-1000000000000000)) = true := by
  simp only [polyB, Bool.and_eq_true, decide_eq_true_eq] at h
  exact ⟨h.1.1, h.1.2, h.2⟩
def timesI (a b : Int) : Int := bif (a == (-1000000000000000)) || (b == (-1000000000000000)) then (-1000000000000000) else w64 (a + b)
theorem spec_l01Times_ok (a b : Int) : M.Conv (spec_l01Times a b) (timesI a b) := M.Conv_ite2 (fun _ => M.Conv_ret _) (fun _ => M.Conv_ret _)
theorem impl_times_ok (a b : Int) : M.Conv (impl_times a b) (timesI a b) := M.Conv_ite2 (fun _ => M.Conv_ret _) (fun _ => M.Conv_ret _)
theorem impl_checkedVector_ok {x : List Int} (hl : x.length ≤ 9223372036854775807) : M.Conv (impl_checkedVector x) (bif x.all valB then (x, 0) else ([], 3)) := by
  unfold impl_checkedVector
  refine M.Conv_bind (impl_areValues_ok hl) (M.Conv_ite (fun h => ?_) (fun h => ?_))
  · simp only [Bool.not_eq_true'] at h; rw [h]; exact M.Conv_ret _
  · simp only [Bool.not_eq_false'] at h; rw [h]; exact M.Conv_ret _
theorem spec_l01Value_ok (a : Int) : M.Conv (spec_l01Value a) (bif valB a then (a, 0) else (0, 3)) := by
  refine M.Conv_bind (spec_IsValue_ok a) (M.Conv_ite (fun h => ?_) (fun h => ?_))
  · simp only [Bool.not_eq_true'] at h; rw [h]; exact M.Conv_ret _
  · simp only [Bool.not_eq_false'] at h; rw [h]; exact M.Conv_ret _
theorem impl_checkedValue_ok (a : Int) : M.Conv (impl_checkedValue a) (bif valB a then (a, 0) else (0, 3)) := by
  refine M.Conv_bind (impl_IsValue_ok a) (M.Conv_ite (fun h => ?_) (fun h => ?_))
  · simp only [Bool.not_eq_true'] at h; rw [h]; exact M.Conv_ret _
  · simp only [Bool.not_eq_false'] at h; rw [h]; exact M.Conv_ret _
theorem same_EvaluatePolynomial (c : List Int) (gc : fitL inI64 c) (x : Int) (gx : inI64 x) (_ : smI c) : Two (spec_EvaluatePolynomial c x) (impl_EvaluatePolynomial c x) (fun _ => True) := by
  unfold spec_EvaluatePolynomial impl_EvaluatePolynomial
  refine Two.bindC (spec_IsPolynomial_ok gc.1) (impl_IsPolynomial_ok gc.1) (Two.ite (fun _ => Two.ret _ trivial) (fun h => ?_))
  obtain ⟨h1, h2, h3⟩ := polyB_len (by simpa using h)
  refine Two.bindC (spec_IsValue_ok x) (impl_IsValue_ok x) (Two.ite (fun _ => Two.ret _ trivial) (fun hx => ?_))
  have hx : valB x = true := by simpa using hx
  have hne : c ≠ [] := by rintro rfl; simp at h3
  refine Two.iteL (fun hb => ?_) (fun hb => ?_)
  · -- at Bottom: the first coefficient
    have hxb : x = -1000000000000000 := by simpa using hb
    obtain ⟨c0, cs, rfl⟩ := List.exists_cons_of_ne_nil hne
    refine Two.left (M.Conv_get (x := c0) (by omega) rfl) ?_
    have hc0 : valB c0 = true := by simp only [List.all_cons, Bool.and_eq_true] at h2; exact h2.1
    have hge := valB_ge hc0
    refine Two.right (x := c0) ((M.Conv_forL (fun i y s => .inl (mx s (bif decide (0 < i) then (-1000000000000000) else y))) (by omega) fun i y s hy => ?_).of ?_) ?_
    · refine M.Conv_bind (M.Conv_get (by omega) (by simpa using hy)) ?_
      refine M.Conv_bind (x := bif decide (0 < (i : Int)) then (-1000000000000000) else 0) (M.Conv_ite2 (fun _ => M.Conv_ite (fun q => ?_) (fun _ => M.Conv_ret _)) (fun _ => M.Conv_ret _)) ?_
      · simp [hxb] at q
      · refine M.Conv_bind (impl_times_ok _ _) ((M.Conv_ret _).of ?_)
        congr 2
        by_cases hi : 0 < i
        · rw [decide_eq_true (show 0 < (i : Int) by omega), decide_eq_true hi]; simp [timesI]
        · have e0 : i = 0 := by omega
          subst e0
          have hyv : valB y = true := by rw [List.all_eq_true] at h2; exact h2 y (List.mem_of_getElem? hy)
          have hy2 := valB_ge hyv
          have hy3 : y ≤ 1000000 := by simp [valB, finB] at hyv; omega
          simp only [timesI, Int.natCast_zero, show decide ((0 : Int) < 0) = false from rfl, show decide (0 < 0) = false from rfl, cond_false]
          cases hyb : (y == (-1000000000000000)) with
          | true => simp at hyb; simp [hyb]
          | false => simp; exact w64_eq _ (by omega)
    · have key : ∀ (xs : List Int) (i : Nat) (s : Int), -1000000000000000 ≤ s → 0 < i → M.run (ρ := Int) (fun i y s => .inl (mx s (bif decide (0 < i) then (-1000000000000000) else y))) (fun s => s) i xs s = s := by
        intro xs
        induction xs with
        | nil => intro i s _ _; rfl
        | cons y ys ih =>
          intro i s hs hi
          simp only [M.run, decide_eq_true hi, cond_true]
          have : mx s (-1000000000000000) = s := by rw [mx_eq]; omega
          rw [this]
          exact ih (i + 1) s hs (by omega)
      simp only [M.run, show decide (0 < 0) = false from rfl, cond_false]
      rw [show mx (-1000000000000000) c0 = c0 by rw [mx_eq]; omega]
      exact key cs 1 c0 hge (by omega)
    · refine Two.right (impl_checkedValue_ok _) ?_
      rw [hc0]
      exact Two.ret _ trivial
  · have hb2 : (x != (-1000000000000000)) = true := by simp only [bne, hb, Bool.not_false]
    have bx : -1000000 ≤ x ∧ x ≤ 1000000 := finB_bd (val_ne hx hb)
    refine Two.bind (P := fun _ => True) ?_ (fun v _ => Two.bindC (spec_l01Value_ok v) (impl_checkedValue_ok v) (Two.ret _ trivial))
    refine Two.for (fun _ _ => True) (by omega) (by omega) trivial (fun i s hi1 hi2 _ => ?_) (fun _ _ _ _ => trivial)
    obtain ⟨j, rfl⟩ : ∃ j : Nat, i = j := ⟨i.toNat, by omega⟩
    have hj : j < c.length := by omega
    refine Two.bindC (M.Conv_get (x := c[j]) (by omega) (by simp [hj])) (M.Conv_get (x := c[j]) (by omega) (by simp [hj])) ?_
    refine Two.right (x := w64 (j * x)) (M.Conv_ite (fun _ => M.Conv_ite (fun _ => M.Conv_ret _) (fun q => by rw [hb2] at q; cases q)) (fun q => (M.Conv_ret _).of ?_)) ?_
    · have : j = 0 := by have := of_decide_eq_false q; omega
      subst this; simp; rfl
    · exact Two.bindC (spec_l01Times_ok _ _) (impl_times_ok _ _) (Two.ret _ (.inl ⟨_, rfl, trivial⟩))
theorem Conv_fillN {β : Type} {n : Nat} {f : Int → List β → M (List β ⊕ List β)} (g : Nat → β) (z : β) (hl : n ≤ 9223372036854775807)
    (H : ∀ (i : Nat) (s : List β), i < n → s.length = n → M.Conv (f i s) (.inl (s.set i (g i)))) : M.Conv (M.forI 0 (n : Int) (fun s => s) f (List.replicate n z)) ((List.range n).map g) := by
  have h := M.Conv_fill (l := List.replicate n z) (f := f) (fun i _ => g i) z (by simpa using hl) (fun i x s hx hs => H i s (by simpa using (List.getElem?_eq_some_iff.1 hx).1) (by simpa using hs))
  simp only [List.length_replicate] at h
  refine h.of (List.ext_getElem? fun i => ?_)
  by_cases hi : i < n
  · simp [hi]
  · rw [List.getElem?_eq_none (by simp; omega), List.getElem?_eq_none (by simp; omega)]
/-- the sum's coefficients -/
def addA (c d : List Int) (i : Nat) : Int := match d[i]? with
  | some y => mx ((c[i]?).getD (-1000000000000000)) y
  | none => (c[i]?).getD (-1000000000000000)
theorem spec_l01Own_ok {l : List Int} (h : smI l) : M.Conv (spec_l01Own l) l := by
  unfold smI at h
  exact M.Conv_bind (M.Conv_app (by simp; omega)) ((M.Conv_ret _).of (by simp))
theorem add_Two (c : List Int) (gc : fitL inI64 c) (d : List Int) (gd : fitL inI64 d) (_ : smI c) (_ : smI d) : Two (spec_AddPolynomials c d) (impl_AddPolynomials c d) (fun w => smI w.1 ∧ (w.2 = 0 → w.1 = (List.range (max c.length d.length)).map (addA c d))) := by
  unfold spec_AddPolynomials impl_AddPolynomials
  refine Two.bindC (spec_IsPolynomial_ok gc.1) (impl_IsPolynomial_ok gc.1) ?_
  refine Two.bind (P := fun b => b = !(polyB c && polyB d)) (Two.ite (fun h => Two.ret _ ?_) (fun h => Two.bindC (spec_IsPolynomial_ok gd.1) (impl_IsPolynomial_ok gd.1) (Two.ret _ ?_))) ?_
  · simp at h; simp [h]
  · simp at h; simp [h]
  rintro _ rfl
  refine Two.ite (fun _ => Two.ret _ ⟨by simp [smI], fun e => by simp at e⟩) (fun h => ?_)
  simp only [Bool.not_eq_false', Bool.and_eq_true] at h
  obtain ⟨c1, _, _⟩ := polyB_len h.1
  obtain ⟨d1, _, _⟩ := polyB_len h.2
  let n := max c.length d.length
  let A : List Int := (List.range n).map (addA c d)
  have hA : A.length = n := by simp [A]
  have hget : ∀ i, i < n → A[i]? = some (addA c d i) := fun i hi => by simp [A, hi]
  have hn : n = max c.length d.length := rfl
  refine Two.mk (r := (A, 0)) ?_ ?_ ⟨by simp only [smI, hA]; omega, fun _ => rfl⟩
  · refine M.Conv_bind (spec_l01Own_ok (by unfold smI; omega)) (M.Conv_bind (x := A) ?_ (M.Conv_ret _))
    refine (M.Conv_forI (fun i _ _ => .inl (A.take (i + 1) ++ c.drop (i + 1))) (fun i s => s = A.take i ++ c.drop i) (by omega) (by simp) fun i y s hy hs => ⟨?_, fun s' e => by cases e; rfl⟩).of ?_
    · subst hs
      have hi := (List.getElem?_eq_some_iff.1 hy).1
      have hin : i < n := by omega
      have htl : (A.take i).length = i := by rw [List.length_take, hA]; omega
      have hd : M.Conv (M.idx d (i : Int)) y := M.Conv_get (by omega) (by simpa using hy)
      have hAi : A[i]? = some (addA c d i) := hget i hin
      have hai : addA c d i = mx ((c[i]?).getD (-1000000000000000)) y := by simp only [addA, hy]
      have hts : A.take (i + 1) = A.take i ++ [addA c d i] := by rw [List.take_add_one, hAi]; rfl
      -- the state, at least i + 1 long
      have S : ∃ s2 : List Int, s2 = A.take i ++ (c[i]?).getD (-1000000000000000) :: c.drop (i + 1) ∧ M.Conv (M.ite ((i : Int) == ((A.take i ++ c.drop i).length : Int)) (M.bind (M.app (A.take i ++ c.drop i) ([(-1000000000000000)] : List Int)) (fun l1 => M.ret l1)) (M.ret (A.take i ++ c.drop i))) s2 := by
        refine ⟨_, rfl, ?_⟩
        by_cases hic : i < c.length
        · refine M.Conv_ite (fun q => ?_) (fun _ => (M.Conv_ret _).of ?_)
          · simp only [List.length_append, htl, List.length_drop, beq_iff_eq] at q; omega
          · rw [List.getElem?_eq_getElem hic, List.drop_eq_getElem_cons hic]; rfl
        · have h0 : c.drop i = [] := List.drop_eq_nil_of_le (by omega)
          have h1 : c.drop (i + 1) = [] := List.drop_eq_nil_of_le (by omega)
          refine M.Conv_ite (fun _ => M.Conv_bind (M.Conv_app (by rw [h0]; simp only [List.append_nil, htl, List.length_singleton]; omega)) ((M.Conv_ret _).of ?_)) (fun q => ?_)
          · rw [h0, h1, List.getElem?_eq_none (by omega)]; simp
          · simp only [h0, List.append_nil, htl, beq_self_eq_true] at q; cases q
      obtain ⟨s2, e2, S⟩ := S
      have hx : M.Conv (M.idx s2 (i : Int)) ((c[i]?).getD (-1000000000000000)) := M.Conv_get (by omega) (by rw [e2, Int.toNat_natCast, List.getElem?_append_right (by omega), htl]; simp)
      refine M.Conv_bind S (M.Conv_bind hx (M.Conv_bind hd (M.Conv_bind hx (M.Conv_bind (M.Conv_upd (by rw [e2]; simp only [List.length_append, htl, List.length_cons]; omega)) ((M.Conv_ret _).of ?_)))))
      rw [e2, hts, hai, List.set_append_right _ _ (by omega), htl]
      simp
    · have key : ∀ (xs : List Int) (i : Nat) (s : List Int), 0 < xs.length → M.run (ρ := List Int) (fun i _ _ => .inl (A.take (i + 1) ++ c.drop (i + 1))) (fun s => s) i xs s = A.take (i + xs.length) ++ c.drop (i + xs.length) := by
        intro xs
        induction xs with
        | nil => intro i s h; simp at h
        | cons x xs ih =>
          intro i s _
          simp only [M.run]
          cases xs with
          | nil => rfl
          | cons y ys => rw [ih (i + 1) _ (by simp)]; simp only [List.length_cons]; congr 2 <;> omega
      have hd0 : 0 < d.length := by
        obtain ⟨_, _, h3⟩ := polyB_len h.2
        cases d with
        | nil => simp at h3
        | cons _ _ => simp
      rw [key d 0 c hd0, Nat.zero_add]
      refine List.ext_getElem? fun i => ?_
      by_cases hid : i < d.length
      · rw [List.getElem?_append_left (by rw [List.length_take, hA]; omega), List.getElem?_take, if_pos hid]
      · have htl : (A.take d.length).length = d.length := by rw [List.length_take, hA]; omega
        rw [List.getElem?_append_right (by omega), htl, List.getElem?_drop, show d.length + (i - d.length) = i by omega]
        by_cases hin : i < n
        · rw [hget i hin]
          have hic : i < c.length := by omega
          simp only [addA, List.getElem?_eq_none (show d.length ≤ i by omega), List.getElem?_eq_getElem hic, Option.getD_some]
        · rw [List.getElem?_eq_none (by omega), List.getElem?_eq_none (by rw [hA]; omega)]
  · have emx : mx (c.length : Int) (d.length : Int) = (n : Int) := by rw [mx_eq, hn]; omega
    rw [emx]
    refine M.Conv_bind (M.Conv_make (by omega) (by omega)) (M.Conv_bind (x := A) ?_ (M.Conv_ret _))
    rw [Int.toNat_natCast, List.length_replicate]
    · refine Conv_fillN (addA c d) 0 (by omega) fun i s hi hs => ?_
      refine M.Conv_bind (M.Conv_get (x := s[i]) (by omega) (by simp [show i < s.length by omega])) (M.Conv_bind (M.Conv_upd (by omega)) ?_)
      have hs1 : (s.set i (-1000000000000000)).length = n := by simpa using hs
      refine M.Conv_bind (x := s.set i ((c[i]?).getD (-1000000000000000))) (M.Conv_ite (fun q => ?_) (fun q => (M.Conv_ret _).of ?_)) ?_
      · have q := of_decide_eq_true q
        have hic : i < c.length := by omega
        refine M.Conv_bind (M.Conv_get (x := c[i]) (by omega) (by simp [hic])) (M.Conv_bind (M.Conv_get (x := -1000000000000000) (by omega) (by simp [show i < s.length by omega])) (M.Conv_bind (M.Conv_upd (by omega)) ((M.Conv_ret _).of ?_)))
        rw [List.set_set, List.getElem?_eq_getElem hic]; rfl
      · have q := of_decide_eq_false q
        rw [List.getElem?_eq_none (by omega)]; rfl
      · refine M.Conv_bind (x := s.set i (addA c d i)) (M.Conv_ite (fun q => ?_) (fun q => (M.Conv_ret _).of ?_)) (M.Conv_ret _)
        · have q := of_decide_eq_true q
          have hid : i < d.length := by omega
          have hg : M.Conv (M.idx (s.set i ((c[i]?).getD (-1000000000000000))) (i : Int)) ((c[i]?).getD (-1000000000000000)) := M.Conv_get (by omega) (by simp [show i < s.length by omega])
          refine M.Conv_bind hg (M.Conv_bind (M.Conv_get (x := d[i]) (by omega) (by simp [hid])) (M.Conv_bind hg (M.Conv_bind (M.Conv_upd (by simp; omega)) ((M.Conv_ret _).of ?_))))
          rw [List.set_set]
          simp only [addA, List.getElem?_eq_getElem hid]
        · have q := of_decide_eq_false q
          simp only [addA, List.getElem?_eq_none (show d.length ≤ i by omega)]
def inB (x lo hi : Int) : Bool := decide (lo ≤ x) && decide (x ≤ hi)
def smII (a : List (List Int)) : Prop := a.length ≤ 1048576 ∧ ∀ r ∈ a, r.length ≤ 1048576
theorem val_cases {x : Int} (h : valB x = true) : x = -1000000000000000 ∨ (-1000000 ≤ x ∧ x ≤ 1000000) := by
  cases hb : (x == (-1000000000000000)) with
  | true => left; simpa using hb
  | false => right; exact finB_bd (val_ne h hb)
theorem Conv_forV {σ : Type} {n : Nat} {f : Int → σ → M (σ ⊕ σ)} (val : Nat → σ) (hn : n ≤ 9223372036854775807) (h : ∀ i, i < n → M.Conv (f i (val i)) (.inl (val (i + 1)))) : M.Conv (M.forI 0 (n : Int) (fun s => s) f (val 0)) (val n) := by
  have := M.Conv_forI (l := List.range n) (f := f) (fin := fun s => s) (s := val 0) (ρ := σ) (fun i _ _ => .inl (val (i + 1))) (fun i s => s = val i) (by simpa using hn) rfl (fun i x s hx hs => by
    subst hs
    have hi := (List.getElem?_eq_some_iff.1 hx).1
    exact ⟨h i (by simpa using hi), fun s' e => by cases e; rfl⟩)
  simp only [List.length_range] at this
  refine this.of ?_
  have run : ∀ (m i : Nat), M.run (σ := σ) (ρ := σ) (fun i (_ : Nat) _ => .inl (val (i + 1))) (fun s => s) i (List.range m) (val i) = val (i + m) := by
    have g : ∀ (l : List Nat) (i : Nat), M.run (σ := σ) (ρ := σ) (fun i (_ : Nat) _ => .inl (val (i + 1))) (fun s => s) i l (val i) = val (i + l.length) := by
      intro l
      induction l with
      | nil => intro i; rfl
      | cons x xs ih => intro i; simp only [M.run, List.length_cons]; rw [ih (i + 1)]; congr 1; omega
    intro m i
    rw [g, List.length_range]
  simpa using run n 0
theorem spec_l02Bottom1_ok {n : Nat} (h : n ≤ 1099511627) : M.Conv (spec_l02Bottom 1 (n : Int)) [List.replicate n (-1000000000000000)] := by
  unfold spec_l02Bottom
  have inner : M.Conv (M.forI 0 (n : Int) (fun s => s) (fun _ => (fun (s2 : (List Int)) => M.bind (M.app s2 ([(-1000000000000000)] : List Int)) (fun l1 => M.ret (.inl l1)))) ([] : List Int)) (List.replicate n (-1000000000000000)) :=
    Conv_forV (fun i => List.replicate i (-1000000000000000)) (by omega) fun i hi => M.Conv_bind (M.Conv_app (by simp; omega)) ((M.Conv_ret _).of (by rw [List.replicate_succ']))
  refine M.Conv_bind (x := [List.replicate n (-1000000000000000)]) ?_ (M.Conv_ret _)
  have := Conv_forV (n := 1) (f := (fun _ => (fun (s1 : (List (List Int))) => M.bind (M.forI 0 (n : Int) (fun s => s) (fun _ => (fun (s2 : (List Int)) => M.bind (M.app s2 ([(-1000000000000000)] : List Int)) (fun l1 => M.ret (.inl l1)))) ([] : List Int)) (fun x2 => M.bind (M.app s1 [x2]) (fun l2 => M.ret (.inl l2))))))
    (fun i => List.replicate i (List.replicate n (-1000000000000000))) (by omega) (fun i hi => M.Conv_bind inner (M.Conv_bind (M.Conv_app (by simp; omega)) ((M.Conv_ret _).of (by rw [List.replicate_succ']))))
  exact this
/-- what has been gathered so far: at least the products of the pairs that have been looked at -/
def Prod2 (c d : List Int) (n : Nat) (i k : Nat) (s : List Int) : Prop := s.length = n ∧ ∀ (p q : Nat) x y z, c[p]? = some x → d[q]? = some y → (p < i ∨ p = i ∧ q < k) → s[p + q]? = some z → timesI x y ≤ z
theorem prod_round {c d : List Int} {n i k : Nat} {s : List Int} {x y : Int} (hx : c[i]? = some x) (hy : d[k]? = some y) (hn : n + 1 = c.length + d.length) (h : Prod2 c d n i k s) :
    ∃ z, s[i + k]? = some z ∧ Prod2 c d n i (k + 1) (s.set (i + k) (mx z (timesI x y))) := by
  have hi := (List.getElem?_eq_some_iff.1 hx).1
  have hk := (List.getElem?_eq_some_iff.1 hy).1
  obtain ⟨h1, h2⟩ := h
  have hlt : i + k < s.length := by omega
  refine ⟨s[i + k], List.getElem?_eq_getElem hlt, by simpa using h1, fun p q u v z hu hv hpq hz => ?_⟩
  by_cases e : i + k = p + q
  · rw [← e, List.getElem?_set_self hlt] at hz
    cases hz
    rw [mx_eq]
    by_cases e2 : p = i ∧ q = k
    · obtain ⟨rfl, rfl⟩ := e2
      rw [hx] at hu; rw [hy] at hv; cases hu; cases hv
      omega
    · have := h2 p q u v s[i + k] hu hv (by omega) (by rw [← e]; exact List.getElem?_eq_getElem hlt)
      omega
  · rw [List.getElem?_set_ne e] at hz
    exact h2 p q u v z hu hv (by omega) hz
theorem same_MultiplyPolynomials (c : List Int) (gc : fitL inI64 c) (d : List Int) (gd : fitL inI64 d) (_ : smI c) (_ : smI d) : Two (spec_MultiplyPolynomials c d) (impl_MultiplyPolynomials c d) (fun w => smI w.1) := by
  unfold spec_MultiplyPolynomials impl_MultiplyPolynomials
  refine Two.bindC (spec_IsPolynomial_ok gc.1) (impl_IsPolynomial_ok gc.1) ?_
  refine Two.bind (P := fun b => b = !(polyB c && polyB d)) (Two.ite (fun h => Two.ret _ ?_) (fun h => Two.bindC (spec_IsPolynomial_ok gd.1) (impl_IsPolynomial_ok gd.1) (Two.ret _ ?_))) ?_
  · simp at h; simp [h]
  · simp at h; simp [h]
  rintro _ rfl
  refine Two.ite (fun _ => Two.ret _ (by simp [smI])) (fun h => ?_)
  simp only [Bool.not_eq_false', Bool.and_eq_true] at h
  obtain ⟨c1, c2, c3⟩ := polyB_len h.1
  obtain ⟨d1, d2, d3⟩ := polyB_len h.2
  have c0 : 0 < c.length := by cases c with | nil => simp at c3 | cons _ _ => simp
  have d0 : 0 < d.length := by cases d with | nil => simp at d3 | cons _ _ => simp
  obtain ⟨n, hn⟩ : ∃ n, n + 1 = c.length + d.length := ⟨c.length + d.length - 1, by omega⟩
  have hw : w64 (w64 ((c.length : Int) + (d.length : Int)) - 1) = (n : Int) := by rw [w64_eq ((c.length : Int) + d.length) (by omega), w64_eq _ (by omega)]; omega
  rw [hw]
  let B : List Int := List.replicate n (-1000000000000000)
  have hB : B.length = n := by simp [B]
  -- both programs' rounds
  let FT : Int → List Int → M (List Int ⊕ List Int) := (fun i1 => (fun (s1 : (List Int)) => M.bind (M.forI 0 (d.length : Int) (fun s => s) (fun i2 => (fun (s2 : (List Int)) => M.bind (M.idx s2 (w64 (i1 + i2))) (fun x8 => M.bind (M.idx c i1) (fun x9 => M.bind (M.idx d i2) (fun x10 => M.bind (spec_l01Times x9 x10) (fun x11 => M.bind (M.idx s2 (w64 (i1 + i2))) (fun x12 => M.bind (M.upd s2 (w64 (i1 + i2)) (mx x8 x11)) (fun l1 => M.ret (.inl l1))))))))) s1) (fun x7 => M.ret (.inl x7))))
  let FI : Int → List Int → M (List Int ⊕ List Int) := (fun i2 => (fun (s2 : (List Int)) => M.bind (M.idx c i2) (fun x7 => M.bind (M.forI 0 (d.length : Int) (fun s => s) (fun i3 => (fun (s3 : (List Int)) => M.bind (M.idx d i3) (fun x9 => M.bind (M.idx s3 (w64 (i2 + i3))) (fun x10 => M.bind (impl_times x7 x9) (fun x11 => M.bind (M.idx s3 (w64 (i2 + i3))) (fun x12 => M.bind (M.upd s3 (w64 (i2 + i3)) (mx x10 x11)) (fun l3 => M.ret (.inl l3)))))))) s2) (fun x8 => M.ret (.inl x8)))))
  have key : Two (M.forI 0 (c.length : Int) (fun s => s) FT B) (M.forI 0 (c.length : Int) (fun s => s) FI B) (fun s => Prod2 c d n c.length 0 s) := by
    refine Two.for (fun i s => Prod2 c d n i.toNat 0 s) (by omega) (by omega) ⟨hB, fun p q x y z _ _ hpq => by simp at hpq⟩ (fun i s h0 h1 hs => ?_) (fun i s hi hs => ?_)
    · obtain ⟨j, rfl⟩ : ∃ j : Nat, i = j := ⟨i.toNat, by omega⟩
      simp only [Int.toNat_natCast] at hs
      have hj : j < c.length := by omega
      have hx : c[j]? = some c[j] := List.getElem?_eq_getElem hj
      have gx : M.Conv (M.idx c (j : Int)) c[j] := M.Conv_get (by omega) (by rw [Int.toNat_natCast]; exact hx)
      refine Two.right gx (Two.bind (P := fun s => Prod2 c d n (j + 1) 0 s) ?_ (fun s hs => Two.ret _ (.inl ⟨s, rfl, by rw [show ((j : Int) + 1).toNat = j + 1 by omega]; exact hs⟩)))
      refine Two.for (fun k s => Prod2 c d n j k.toNat s) (by omega) (by omega) hs (fun k s k0 k1 hs => ?_) (fun k s hk hs => ?_)
      · obtain ⟨l, rfl⟩ : ∃ l : Nat, k = l := ⟨k.toNat, by omega⟩
        simp only [Int.toNat_natCast] at hs
        have hl : l < d.length := by omega
        have hy : d[l]? = some d[l] := List.getElem?_eq_getElem hl
        have gy : M.Conv (M.idx d (l : Int)) d[l] := M.Conv_get (by omega) (by rw [Int.toNat_natCast]; exact hy)
        obtain ⟨z, hz, hp⟩ := prod_round hx hy hn hs
        have hzl := (List.getElem?_eq_some_iff.1 hz).1
        have ew : w64 ((j : Int) + (l : Int)) = ((j + l : Nat) : Int) := by rw [w64_eq _ (by omega)]; omega
        rw [ew]
        have gz : M.Conv (M.idx s ((j + l : Nat) : Int)) z := M.Conv_get (by omega) (by rw [Int.toNat_natCast]; exact hz)
        have hu : M.Conv (M.upd s ((j + l : Nat) : Int) (mx z (timesI c[j] d[l]))) (s.set (j + l) (mx z (timesI c[j] d[l]))) := M.Conv_upd hzl
        refine Two.mk (r := .inl (s.set (j + l) (mx z (timesI c[j] d[l])))) ?_ ?_ (.inl ⟨_, rfl, by rw [show ((l : Int) + 1).toNat = l + 1 by omega]; exact hp⟩)
        · exact M.Conv_bind gz (M.Conv_bind gx (M.Conv_bind gy (M.Conv_bind (spec_l01Times_ok _ _) (M.Conv_bind gz (M.Conv_bind hu (M.Conv_ret _))))))
        · exact M.Conv_bind gy (M.Conv_bind gz (M.Conv_bind (impl_times_ok _ _) (M.Conv_bind gz (M.Conv_bind hu (M.Conv_ret _)))))
      · rcases hk with rfl | ⟨rfl, hd⟩
        · simp only [Int.toNat_natCast] at hs
          refine ⟨hs.1, fun p q x y z hx hy hpq hz => hs.2 p q x y z hx hy ?_ hz⟩
          have := (List.getElem?_eq_some_iff.1 hy).1
          omega
        · omega
    · rcases hi with rfl | ⟨rfl, hd⟩
      · simpa using hs
      · omega
  obtain ⟨s, k1, k2, hs⟩ := key
  have hsl := hs.1
  -- some coefficient is no Bottom
  have some : s.any (· != (-1000000000000000)) = true := by
    rw [List.any_eq_true] at c3 d3
    obtain ⟨x, hx, hxn⟩ := c3
    obtain ⟨y, hy, hyn⟩ := d3
    obtain ⟨p, hp, ex⟩ := List.mem_iff_getElem.1 hx
    obtain ⟨q, hq, ey⟩ := List.mem_iff_getElem.1 hy
    have hpq : p + q < s.length := by omega
    rw [List.all_eq_true] at c2 d2
    have vx := val_cases (c2 x hx)
    have vy := val_cases (d2 y hy)
    have hxn' : x ≠ -1000000000000000 := by simpa using hxn
    have hyn' : y ≠ -1000000000000000 := by simpa using hyn
    have ht : timesI x y = x + y := by
      simp only [timesI]
      rw [show (x == (-1000000000000000)) = false by simpa using hxn', show (y == (-1000000000000000)) = false by simpa using hyn']
      exact w64_eq _ (by omega)
    have := hs.2 p q x y s[p + q] (by rw [← ex]; exact List.getElem?_eq_getElem hp) (by rw [← ey]; exact List.getElem?_eq_getElem hq) (by omega) (List.getElem?_eq_getElem hpq)
    rw [List.any_eq_true]
    refine ⟨s[p + q], List.getElem_mem hpq, ?_⟩
    have : s[p + q] ≠ -1000000000000000 := by omega
    simpa using this
  refine Two.left (spec_l02Bottom1_ok (by omega)) (Two.left (M.Conv_get (x := B) (by omega) rfl) (Two.left k1 (Two.left (spec_IsPolynomial_ok (by omega)) ?_)))
  refine Two.right (M.Conv_make (by omega) (by omega)) ?_
  rw [Int.toNat_natCast, List.length_replicate]
  by_cases h12 : 12 < n
  · have e : polyB s = false := by simp only [polyB]; rw [decide_eq_false (by omega)]; rfl
    rw [e]
    refine Two.iteR (fun _ => Two.iteL (fun _ => Two.ret _ (by simp [smI])) (fun q => by cases q)) (fun q => by have := of_decide_eq_false q; omega)
  · refine Two.iteR (fun q => by have := of_decide_eq_true q; omega) (fun _ => ?_)
    refine Two.right (x := B) ((Conv_fillN (fun _ => (-1000000000000000)) 0 (by omega) fun i s hi hs => ?_).of (by simp [B, List.map_const'])) ?_
    · exact M.Conv_bind (M.Conv_get (x := s[i]) (by omega) (by simp [show i < s.length by omega])) (M.Conv_bind (M.Conv_upd (by omega)) (M.Conv_ret _))
    refine Two.right k2 (Two.right (impl_checkedVector_ok (by omega)) ?_)
    have e : polyB s = s.all valB := by simp only [polyB, some, decide_eq_true (show s.length ≤ 12 by omega), Bool.true_and, Bool.and_true]
    rw [e]
    cases s.all valB with
    | false => exact Two.iteL (fun _ => Two.ret _ (by simp [smI])) (fun q => by cases q)
    | true => exact Two.iteL (fun q => by cases q) (fun _ => Two.ret _ (by simp only [smI]; omega))

def ConvL {σ ρ : Type} (f : σ → M (σ ⊕ ρ)) (s : σ) (r : ρ) : Prop := ∃ N m0, ∀ n, N ≤ n → ∀ m, m0 ≤ m → M.loopN f n m s = some r
theorem ConvL.conv {σ ρ : Type} {f : σ → M (σ ⊕ ρ)} {s : σ} {r : ρ} (h : ConvL f s r) : M.Conv (M.loop f s) r := by
  obtain ⟨N, m0, h⟩ := h
  exact ⟨max N m0, fun n hn => h n (by omega) n (by omega)⟩
theorem ConvL.step {σ ρ : Type} {f : σ → M (σ ⊕ ρ)} {s s' : σ} {r : ρ} (h1 : M.Conv (f s) (.inl s')) (h : ConvL f s' r) : ConvL f s r := by
  obtain ⟨N, h1⟩ := h1
  obtain ⟨N', m0, h⟩ := h
  refine ⟨max N N', m0 + 1, fun n hn m hm => ?_⟩
  obtain ⟨m, rfl⟩ : ∃ q, m = q + 1 := ⟨m - 1, by omega⟩
  simp only [M.loopN, h1 n (by omega)]
  exact h n (by omega) m (by omega)
theorem ConvL.stop {σ ρ : Type} {f : σ → M (σ ⊕ ρ)} {s : σ} {r : ρ} (h1 : M.Conv (f s) (.inr r)) : ConvL f s r := by
  obtain ⟨N, h1⟩ := h1
  refine ⟨N, 1, fun n hn m hm => ?_⟩
  obtain ⟨m, rfl⟩ : ∃ q, m = q + 1 := ⟨m - 1, by omega⟩
  simp only [M.loopN, h1 n hn]
theorem two_loopL {σ ρ : Type} {f f' : σ → M (σ ⊕ ρ)} {Post : ρ → Prop} (I : σ → Prop) (μ : σ → Nat) (round : ∀ s, I s → Two (f s) (f' s) fun y => (∃ s', y = .inl s' ∧ I s' ∧ μ s' < μ s) ∨ (∃ r, y = .inr r ∧ Post r)) :
    ∀ (d : Nat) (s : σ), μ s < d → I s → ∃ r, ConvL f s r ∧ ConvL f' s r ∧ Post r
  | 0, _, h, _ => by omega
  | d + 1, s, h, hI => by
    obtain ⟨y, h1, h2, hc⟩ := round s hI
    rcases hc with ⟨s', rfl, hI', hlt⟩ | ⟨r, rfl, hp⟩
    · obtain ⟨r, k1, k2, hp⟩ := two_loopL I μ round d s' (by omega) hI'
      exact ⟨r, k1.step h1, k2.step h2, hp⟩
    · exact ⟨r, ConvL.stop h1, ConvL.stop h2, hp⟩
def floI (a b : Int) : Int := bif decide ((a.tmod b) < 0) then w64 (w64 (a.tdiv b) - 1) else w64 (a.tdiv b)
theorem spec_l01Floor_ok {a b : Int} (hb : (b != 0) = true) : M.Conv (spec_l01Floor a b) (floI a b) :=
  M.Conv_bind (M.Conv_guard hb) (M.Conv_bind (M.Conv_guard hb) (M.Conv_bind (M.Conv_ite2 (fun _ => M.Conv_ret _) (fun _ => M.Conv_ret _)) (M.Conv_ret _)))
theorem impl_floorDiv_ok {a b : Int} (hb : (b != 0) = true) : M.Conv (impl_floorDiv a b) (floI a b) :=
  M.Conv_bind (M.Conv_guard hb) (M.Conv_bind (M.Conv_guard hb) (M.Conv_bind (M.Conv_ite2 (fun _ => M.Conv_ret _) (fun _ => M.Conv_ret _)) (M.Conv_ret _)))
theorem floI_mul {c k : Int} (hk : 0 < k) (hc : -1000000 ≤ c ∧ c ≤ 1000000) : floI (c * k) k = c := by
  unfold floI
  rw [Int.mul_tmod_left, Int.mul_tdiv_cancel c (by omega)]
  exact w64_eq _ (by omega)
theorem floI_in (a b : Int) : inI64 (floI a b) := by
  unfold floI
  cases decide (a.tmod b < 0)
  · exact w64_bd _
  · exact w64_bd _
theorem full_Two (c : List Int) (g : fitL inI64 c) (_ : smI c) : Two (spec_FullPolynomial c) (impl_FullPolynomial c) (fun w => smI w.1 ∧ (polyB c = true → w.1.length = c.length ∧ ∀ y ∈ w.1, inI64 y)) := by
  unfold spec_FullPolynomial impl_FullPolynomial
  refine Two.bindC (spec_IsPolynomial_ok g.1) (impl_IsPolynomial_ok g.1) (Two.ite (fun h => Two.ret _ ⟨by simp [smI], fun e => by rw [e] at h; cases h⟩) (fun h => ?_))
  obtain ⟨h1, h2, h3⟩ := polyB_len (by simpa using h)
  obtain ⟨t, k1, k2, tl, tt, tne, tpw⟩ := terms_ok h1 h2
  have tne := tne h3
  obtain ⟨t0, ts, rfl⟩ := List.exists_cons_of_ne_nil tne
  obtain ⟨p0, p1, x0, p2, p3⟩ := tt t0 List.mem_cons_self
  let B : List Int := List.replicate c.length (-1000000000000000)
  have hB : B.length = c.length := by simp [B]
  refine Two.bindC k1 k2 ?_
  refine Two.left (spec_l02Bottom1_ok (by omega)) (Two.left (M.Conv_get (x := B) (by omega) rfl) ?_)
  refine Two.right (M.Conv_make (by omega) (by omega)) ?_
  rw [Int.toNat_natCast, List.length_replicate]
  refine Two.right (x := B) ((Conv_fillN (fun _ => (-1000000000000000)) 0 (by omega) fun i s hi hs => ?_).of (by simp [B, List.map_const'])) ?_
  · exact M.Conv_bind (M.Conv_get (x := s[i]) (by omega) (by simp [show i < s.length by omega])) (M.Conv_bind (M.Conv_upd (by omega)) (M.Conv_ret _))
  have gt0 : M.Conv (M.idx (t0 :: ts) 0) t0 := M.Conv_get (by omega) rfl
  have gB : M.Conv (M.idx B t0) (-1000000000000000) := M.Conv_get p0 (by rw [show B = List.replicate c.length (-1000000000000000) from rfl, List.getElem?_replicate, if_pos (by omega)])
  have uB : M.Conv (M.upd B t0 x0) (B.set t0.toNat x0) := by
    obtain ⟨q, rfl⟩ : ∃ q : Nat, t0 = q := ⟨t0.toNat, by omega⟩
    exact M.Conv_upd (by omega)
  refine Two.bindC gt0 gt0 (Two.bindC gt0 gt0 (Two.bindC (M.Conv_get p0 p2) (M.Conv_get p0 p2) (Two.bindC gB gB (Two.bindC uB uB (Two.bind (P := fun s : List Int => s.length = c.length ∧ ∀ y ∈ s, inI64 y) ?_ (fun s hs => Two.ret _ ⟨by have := hs.1; simp only [smI]; omega, fun _ => hs⟩))))))
  -- from term to term
  have inB : ∀ y ∈ B, inI64 y := fun y hy => by have := List.eq_of_mem_replicate hy; subst this; simp [inI64]
  have inS : ∀ (s : List Int) (i : Nat) (v : Int), (∀ y ∈ s, inI64 y) → inI64 v → ∀ y ∈ s.set i v, inI64 y := fun s i v h hv y hy => by
    rcases List.mem_or_eq_of_mem_set hy with hy | hy
    · exact h y hy
    · subst hy; exact hv
  refine Two.for (fun m s => s.length = c.length ∧ (∀ y ∈ s, inI64 y) ∧ ∃ i x, (t0 :: ts)[(m - 1).toNat]? = some i ∧ c[i.toNat]? = some x ∧ s[i.toNat]? = some x) (by omega) (by omega)
    ⟨by simpa using hB, inS _ _ _ inB (by have := finB_bd p3; unfold inI64; omega), t0, x0, rfl, p2, by rw [List.getElem?_set_self (show t0.toNat < B.length by omega)]⟩ (fun m s m0 m1 hs => ?_) (fun m s _ hs => ⟨hs.1, hs.2.1⟩)
  obtain ⟨hsl, hsin, i, x, hi, hx, hsi⟩ := hs
  obtain ⟨q, rfl⟩ : ∃ q : Nat, m = (q : Int) + 1 := ⟨(m - 1).toNat, by omega⟩
  have e1 : ((q : Int) + 1 - 1).toNat = q := by omega
  rw [e1] at hi
  have hq : q + 1 < (t0 :: ts).length := by omega
  have hk : (t0 :: ts)[q + 1]? = some (t0 :: ts)[q + 1] := List.getElem?_eq_getElem hq
  generalize (t0 :: ts)[q + 1] = k at hk
  have hil := (List.getElem?_eq_some_iff.1 hi).1
  have hik : i < k := by
    have h5 := List.pairwise_iff_getElem.1 tpw q (q + 1) hil hq (by omega)
    have h6 : (t0 :: ts)[q] = i := by rw [List.getElem?_eq_getElem hil] at hi; exact Option.some.inj hi
    have h7 : (t0 :: ts)[q + 1] = k := by rw [List.getElem?_eq_getElem hq] at hk; exact Option.some.inj hk
    rw [h6, h7] at h5; exact h5
  obtain ⟨i0, i1, xi, i2, i3⟩ := tt i (List.mem_of_getElem? hi)
  obtain ⟨k0, k1', xk, k2', k3⟩ := tt k (List.mem_of_getElem? hk)
  rw [hx] at i2; cases i2
  have bi := finB_bd i3
  have bk := finB_bd k3
  have ga : M.Conv (M.idx (t0 :: ts) (w64 ((q : Int) + 1 - 1))) i := by
    rw [w64_eq _ (by omega)]
    exact M.Conv_get (by omega) (by rw [e1]; exact hi)
  have gb : M.Conv (M.idx (t0 :: ts) ((q : Int) + 1)) k := M.Conv_get (by omega) (by rw [show ((q : Int) + 1).toNat = q + 1 by omega]; exact hk)
  have gi : M.Conv (M.idx c i) x := M.Conv_get i0 hx
  have gk : M.Conv (M.idx c k) xk := M.Conv_get k0 k2'
  have hbk : (w64 (k - i) != 0) = true := by rw [w64_eq _ (by omega)]; simp; omega
  refine Two.bindC ga ga (Two.bindC gb gb ?_)
  let I : List Int × Int → Prop := fun s => s.1.length = c.length ∧ (∀ y ∈ s.1, inI64 y) ∧ i < s.2 ∧ s.2 ≤ k + 1 ∧ (s.2 = k + 1 → s.1[k.toNat]? = some xk)
  have hcl : (k : Int) < c.length := by omega
  -- one round, in both
  have valk : floI (w64 (w64 (x * w64 (k - k)) + w64 (xk * w64 (k - i)))) (w64 (k - i)) = xk := by
    have m2 := mul_bd (a := xk) (b := k - i) (A := 1000000) (B := 12) (by omega) (by omega)
    rw [w64_eq (k - k) (by omega), w64_eq (k - i) (by omega), show x * (k - k) = 0 by rw [Int.sub_self, Int.mul_zero], w64_eq 0 (by omega), w64_eq (xk * (k - i)) (by omega), Int.zero_add, w64_eq _ (by omega)]
    exact floI_mul (by omega) bk
  have main := two_loopL (f := fun (s2 : (List Int) × Int) => M.ite (decide (s2.2 ≤ k)) (M.bind (M.idx c i) (fun x13 => M.bind (M.idx c k) (fun x14 => M.bind (spec_l01Floor (w64 ((w64 (x13 * (w64 (k - s2.2)))) + (w64 (x14 * (w64 (s2.2 - i)))))) (w64 (k - i))) (fun x15 => M.bind (M.idx s2.1 s2.2) (fun x16 => M.bind (M.upd s2.1 s2.2 x15) (fun l2 => M.ret (.inl (l2, (w64 (s2.2 + 1)))))))))) (M.ret (.inr (s2.1, s2.2))))
    (f' := fun (s3 : (List Int) × Int) => M.ite (decide (s3.2 ≤ k)) (M.bind (M.idx c i) (fun x13 => M.bind (M.idx c k) (fun x14 => M.bind (impl_floorDiv (w64 ((w64 (x13 * (w64 (k - s3.2)))) + (w64 (x14 * (w64 (s3.2 - i)))))) (w64 (k - i))) (fun x15 => M.bind (M.idx s3.1 s3.2) (fun x16 => M.bind (M.upd s3.1 s3.2 x15) (fun l4 => M.ret (.inl (l4, (w64 (s3.2 + 1)))))))))) (M.ret (.inr (s3.1, s3.2))))
    (Post := fun r => r.1.length = c.length ∧ (∀ y ∈ r.1, inI64 y) ∧ r.1[k.toNat]? = some xk) I (fun s => (k + 1 - s.2).toNat) (fun s hs => by
      obtain ⟨l, n⟩ := s
      obtain ⟨a1, a0, a2, a3, a4⟩ := hs
      simp only at a1 a0 a2 a3 a4
      refine Two.ite (fun b => ?_) (fun b => Two.ret _ (.inr ⟨_, rfl, a1, a0, a4 (by have := of_decide_eq_false b; simp only at this; omega)⟩))
      have b := of_decide_eq_true b
      simp only at b
      have hnl : n.toNat < l.length := by omega
      have gn : M.Conv (M.idx l n) l[n.toNat] := M.Conv_get (by omega) (List.getElem?_eq_getElem hnl)
      have un : ∀ v, M.Conv (M.upd l n v) (l.set n.toNat v) := fun v => by
        have := M.Conv_upd (l := l) (i := n.toNat) (x := v) hnl
        rwa [show ((n.toNat : Nat) : Int) = n by omega] at this
      refine Two.bindC gi gi (Two.bindC gk gk (Two.bindC (spec_l01Floor_ok hbk) (impl_floorDiv_ok hbk) (Two.bindC gn gn (Two.bindC (un _) (un _) (Two.ret _ (.inl ⟨_, rfl, ⟨by simpa using a1, inS _ _ _ a0 (floI_in _ _), ?_, ?_, fun e => ?_⟩, ?_⟩)))))) 
      · simp only; rw [w64_eq _ (by omega)]; omega
      · simp only; rw [w64_eq _ (by omega)]; omega
      · simp only at e ⊢
        rw [w64_eq _ (by omega)] at e
        obtain rfl : n = k := by omega
        rw [valk, List.getElem?_set_self hnl]
      · simp only; rw [w64_eq _ (by omega)]; omega)
  obtain ⟨r, c1, c2, r1, r0, r2⟩ := main _ (s, i + 1) (Nat.lt_succ_self _) ⟨hsl, hsin, by simp only; omega, by simp only; omega, fun e => by simp only at e; omega⟩
  refine Two.mk (r := .inl r.1) (M.Conv_bind ?_ (M.Conv_ret _)) (M.Conv_bind ?_ (M.Conv_ret _)) (.inl ⟨_, rfl, r1, r0, k, xk, by rw [show ((q : Int) + 1 + 1 - 1).toNat = q + 1 by omega]; exact hk, k2', r2⟩)
  · rw [w64_eq (i + 1) (by omega)]
    exact c1.conv
  · -- the one round more changes nothing
    refine (ConvL.step (s' := (s, i + 1)) ?_ c2).conv
    have hnl : i.toNat < s.length := by omega
    have gn : M.Conv (M.idx s i) x := M.Conv_get i0 hsi
    have vali : floI (w64 (w64 (x * w64 (k - i)) + w64 (xk * w64 (i - i)))) (w64 (k - i)) = x := by
      have m2 := mul_bd (a := x) (b := k - i) (A := 1000000) (B := 12) (by omega) (by omega)
      rw [w64_eq (i - i) (by omega), w64_eq (k - i) (by omega), show xk * (i - i) = 0 by rw [Int.sub_self, Int.mul_zero], w64_eq 0 (by omega), w64_eq (x * (k - i)) (by omega), Int.add_zero, w64_eq _ (by omega)]
      exact floI_mul (by omega) bi
    have un : M.Conv (M.upd s i x) s := by
      have := M.Conv_upd (l := s) (i := i.toNat) (x := x) hnl
      rw [show ((i.toNat : Nat) : Int) = i by omega] at this
      refine this.of ?_
      refine List.ext_getElem? fun j => ?_
      by_cases e : i.toNat = j
      · subst e; rw [List.getElem?_set_self hnl, hsi]
      · rw [List.getElem?_set_ne e]
    refine M.Conv_ite (fun _ => M.Conv_bind gi (M.Conv_bind gk (M.Conv_bind (impl_floorDiv_ok hbk) (M.Conv_bind gn ?_)))) (fun b => by have := of_decide_eq_false b; simp only at this; omega)
    rw [vali]
    exact M.Conv_bind un ((M.Conv_ret _).of (by rw [w64_eq _ (by omega)]))
def tab {α : Type} (n : Nat) (h : Nat → α) : List α := (List.range n).map h
theorem tab_len {α : Type} (n : Nat) (h : Nat → α) : (tab n h).length = n := by simp [tab]
def matF (m n : Nat) (f : Nat → Nat → Int) : List (List Int) := tab m fun i => tab n (f i)
theorem matF_len (m n : Nat) (f : Nat → Nat → Int) : (matF m n f).length = m := tab_len _ _
structure Shp (a : List (List Int)) (w : Nat) : Prop where
  rows : 1 ≤ a.length ∧ a.length ≤ 10
  cols : 1 ≤ w ∧ w ≤ 10
  row : ∀ r ∈ a, r.length = w
theorem Shp.sm {a : List (List Int)} {w : Nat} (h : Shp a w) : smII a := ⟨by have := h.rows; omega, fun r hr => by have := h.row r hr; have := h.cols; omega⟩
theorem Conv_or {b v : Bool} {m : M Bool} (h : b = false → M.Conv m v) : M.Conv (M.ite b (M.ret true) m) (b || v) := by
  cases b with
  | true => exact M.Conv_ite (fun _ => M.Conv_ret _) (fun t => by simp at t)
  | false => exact M.Conv_ite (fun t => by simp at t) (fun _ => h rfl)
def Rel {α β : Type} (m : M α) (m' : M β) (Q : α → β → Prop) : Prop := ∃ r r', M.Conv m r ∧ M.Conv m' r' ∧ Q r r'
theorem Rel.of {α β : Type} {m : M α} {m' : M β} {Q : α → β → Prop} {r : α} {r' : β} (h : M.Conv m r) (h' : M.Conv m' r') (q : Q r r') : Rel m m' Q := ⟨r, r', h, h', q⟩
theorem Rel.bind {α β γ δ : Type} {m : M α} {m' : M β} {f : α → M γ} {f' : β → M δ} {P : α → β → Prop} {Q : γ → δ → Prop} (h : Rel m m' P) (g : ∀ x x', P x x' → Rel (f x) (f' x') Q) : Rel (M.bind m f) (M.bind m' f') Q := by
  obtain ⟨x, x', h1, h2, p⟩ := h
  obtain ⟨r, r', g1, g2, q⟩ := g x x' p
  exact ⟨r, r', M.Conv_bind h1 g1, M.Conv_bind h2 g2, q⟩
theorem Rel.left {α γ δ : Type} {m : M α} {f : α → M γ} {m' : M δ} {Q : γ → δ → Prop} {x : α} (h : M.Conv m x) (g : Rel (f x) m' Q) : Rel (M.bind m f) m' Q := by
  obtain ⟨r, r', g1, g2, q⟩ := g
  exact ⟨r, r', M.Conv_bind h g1, g2, q⟩
theorem Rel.right {α γ δ : Type} {m : M α} {f : α → M γ} {m' : M δ} {Q : δ → γ → Prop} {x : α} (h : M.Conv m x) (g : Rel m' (f x) Q) : Rel m' (M.bind m f) Q := by
  obtain ⟨r, r', g1, g2, q⟩ := g
  exact ⟨r, r', g1, M.Conv_bind h g2, q⟩
theorem Rel.two {α : Type} {m m' : M α} {P : α → Prop} (h : Rel m m' fun x y => x = y ∧ P x) : Two m m' P := by
  obtain ⟨r, r', h1, h2, rfl, p⟩ := h
  exact ⟨r, h1, h2, p⟩
theorem Rel.iteL {α β : Type} {b : Bool} {x y : M α} {m' : M β} {Q : α → β → Prop} (h1 : b = true → Rel x m' Q) (h2 : b = false → Rel y m' Q) : Rel (M.ite b x y) m' Q := by
  cases b
  · obtain ⟨r, r', g1, g2, q⟩ := h2 rfl
    exact ⟨r, r', M.Conv_ite (fun t => by simp at t) (fun _ => g1), g2, q⟩
  · obtain ⟨r, r', g1, g2, q⟩ := h1 rfl
    exact ⟨r, r', M.Conv_ite (fun _ => g1) (fun t => by simp at t), g2, q⟩
theorem Rel.iteR {α β : Type} {b : Bool} {x y : M β} {m' : M α} {Q : α → β → Prop} (h1 : b = true → Rel m' x Q) (h2 : b = false → Rel m' y Q) : Rel m' (M.ite b x y) Q := by
  cases b
  · obtain ⟨r, r', g1, g2, q⟩ := h2 rfl
    exact ⟨r, r', g1, M.Conv_ite (fun t => by simp at t) (fun _ => g2), q⟩
  · obtain ⟨r, r', g1, g2, q⟩ := h1 rfl
    exact ⟨r, r', g1, M.Conv_ite (fun _ => g2) (fun t => by simp at t), q⟩
theorem Rel.ite {α β : Type} {b b' : Bool} {x y : M α} {x' y' : M β} {Q : α → β → Prop} (e : b = b') (h1 : b = true → Rel x x' Q) (h2 : b = false → Rel y y' Q) : Rel (M.ite b x y) (M.ite b' x' y') Q := by
  subst e
  exact Rel.iteL (fun t => Rel.iteR (fun _ => h1 t) (fun t' => by rw [t] at t'; cases t')) (fun t => Rel.iteR (fun t' => by rw [t] at t'; cases t') (fun _ => h2 t))
theorem Rel.ret {α β : Type} {x : α} {y : β} {Q : α → β → Prop} (q : Q x y) : Rel (M.ret x) (M.ret y) Q := ⟨x, y, M.Conv_ret _, M.Conv_ret _, q⟩
/-- one round of two loops: both go on, or both stop -/
def Round {σ σ' ρ ρ' : Type} (R : σ → σ' → Prop) (Q : ρ → ρ' → Prop) (y : σ ⊕ ρ) (y' : σ' ⊕ ρ') : Prop := (∃ t t', y = .inl t ∧ y' = .inl t' ∧ R t t') ∨ (∃ r r', y = .inr r ∧ y' = .inr r' ∧ Q r r')
theorem Round.on {σ σ' ρ ρ' : Type} {R : σ → σ' → Prop} {Q : ρ → ρ' → Prop} {t : σ} {t' : σ'} (h : R t t') : Round R Q (.inl t) (.inl t') := .inl ⟨t, t', rfl, rfl, h⟩
theorem Round.off {σ σ' ρ ρ' : Type} {R : σ → σ' → Prop} {Q : ρ → ρ' → Prop} {r : ρ} {r' : ρ'} (h : Q r r') : Round R Q (.inr r : σ ⊕ ρ) (.inr r' : σ' ⊕ ρ') := .inr ⟨r, r', rfl, rfl, h⟩
theorem Rel.for {σ σ' ρ ρ' : Type} {n : Nat} {f : Int → σ → M (σ ⊕ ρ)} {f' : Int → σ' → M (σ' ⊕ ρ')} {fin : σ → ρ} {fin' : σ' → ρ'} {s : σ} {s' : σ'} {Q : ρ → ρ' → Prop} (R : Nat → σ → σ' → Prop) (hn : n ≤ 9223372036854775807) (h0 : R 0 s s')
    (step : ∀ (i : Nat) t t', i < n → R i t t' → Rel (f i t) (f' i t') (Round (R (i + 1)) Q)) (stop : ∀ t t', R n t t' → Q (fin t) (fin' t')) : Rel (M.forI 0 (n : Int) fin f s) (M.forI 0 (n : Int) fin' f' s') Q := by
  have H : ∀ (d i : Nat) t t', i + d = n → R i t t' → ∃ r r', (∃ N, ∀ m, N ≤ m → M.forN (n : Int) fin f m d (i : Int) t = some r) ∧ (∃ N, ∀ m, N ≤ m → M.forN (n : Int) fin' f' m d (i : Int) t' = some r') ∧ Q r r' := by
    intro d
    induction d with
    | zero =>
      intro i t t' e hR
      obtain rfl : i = n := by omega
      exact ⟨fin t, fin' t', ⟨0, fun m _ => by simp [M.forN]⟩, ⟨0, fun m _ => by simp [M.forN]⟩, stop t t' hR⟩
    | succ d ih =>
      intro i t t' e hR
      have hlt : (i : Int) < n := by omega
      obtain ⟨y, y', ⟨N, hy⟩, ⟨N', hy'⟩, hc⟩ := step i t t' (by omega) hR
      rcases hc with ⟨u, u', rfl, rfl, hR⟩ | ⟨r, r', rfl, rfl, hq⟩
      · obtain ⟨r, r', ⟨K, hr⟩, ⟨K', hr'⟩, hq⟩ := ih (i + 1) u u' (by omega) hR
        rw [Int.natCast_add] at hr hr'
        refine ⟨r, r', ⟨max N K, fun m hm => ?_⟩, ⟨max N' K', fun m hm => ?_⟩, hq⟩
        · simp [M.forN, hlt, hy m (by omega)]; exact hr m (by omega)
        · simp [M.forN, hlt, hy' m (by omega)]; exact hr' m (by omega)
      · exact ⟨r, r', ⟨N, fun m hm => by simp [M.forN, hlt, hy m hm]⟩, ⟨N', fun m hm => by simp [M.forN, hlt, hy' m hm]⟩, hq⟩
  obtain ⟨r, r', ⟨N, h1⟩, ⟨N', h2⟩, q⟩ := H n 0 s s' (by omega) h0
  refine ⟨r, r', ⟨N, fun m hm => ?_⟩, ⟨N', fun m hm => ?_⟩, q⟩
  · have := h1 m hm; have hn' : (n : Int) ≤ 9223372036854775807 := by omega
    simp [M.forI, hn']; exact this
  · have := h2 m hm; have hn' : (n : Int) ≤ 9223372036854775807 := by omega
    simp [M.forI, hn']; exact this
/-- a loop with a round count on the left, any loop on the right -/
theorem Rel.loop {σ σ' ρ ρ' : Type} {f : σ → M (σ ⊕ ρ)} {f' : σ' → M (σ' ⊕ ρ')} {s : σ} {s' : σ'} {Q : ρ → ρ' → Prop} (R : σ → σ' → Prop) (μ : σ → Nat) (h0 : R s s')
    (step : ∀ t t', R t t' → Rel (f t) (f' t') (Round (fun u u' => R u u' ∧ μ u < μ t) Q)) : Rel (M.loop f s) (M.loop f' s') Q := by
  have H : ∀ (d : Nat) t t', μ t < d → R t t' → ∃ r r', ConvL f t r ∧ ConvL f' t' r' ∧ Q r r' := by
    intro d
    induction d with
    | zero => intro t t' h; omega
    | succ d ih =>
      intro t t' h hR
      obtain ⟨y, y', hy, hy', hc⟩ := step t t' hR
      rcases hc with ⟨u, u', rfl, rfl, hR, hlt⟩ | ⟨r, r', rfl, rfl, hq⟩
      · obtain ⟨r, r', k1, k2, q⟩ := ih u u' (by omega) hR
        exact ⟨r, r', k1.step hy, k2.step hy', q⟩
      · exact ⟨r, r', ConvL.stop hy, ConvL.stop hy', hq⟩
  obtain ⟨r, r', h1, h2, q⟩ := H (μ s + 1) s s' (by omega) h0
  exact ⟨r, r', h1.conv, h2.conv, q⟩

theorem Conv_check {ρ : Type} {n lo : Nat} {f : Int → Unit → M (Unit ⊕ (Unit ⊕ ρ))} (P : Nat → Prop) (v : ρ) (hn : n ≤ 9223372036854775807)
    (h : ∀ i : Nat, lo ≤ i → i < n → (P i ∧ M.Conv (f i ()) (.inl ())) ∨ (¬ P i ∧ M.Conv (f i ()) (.inr (.inr v)))) :
    ((∀ i, lo ≤ i → i < n → P i) ∧ M.Conv (M.forI (lo : Int) (n : Int) (fun s => .inl s) f ()) (.inl ())) ∨ ((∃ i, lo ≤ i ∧ i < n ∧ ¬ P i) ∧ M.Conv (M.forI (lo : Int) (n : Int) (fun s => .inl s) f ()) (.inr v)) := by
  have H : M.TC (M.forI (lo : Int) (n : Int) (fun s => .inl s) f ()) (fun r => ((∀ i, lo ≤ i → i < n → P i) ∧ r = .inl ()) ∨ ((∃ i, lo ≤ i ∧ i < n ∧ ¬ P i) ∧ r = .inr v)) := by
    refine M.TC_for (fun i _ => ∀ k : Nat, lo ≤ k → (k : Int) < i → P k) () (by omega) (by omega) (fun k h1 h2 => by omega) (fun i s h1 h2 hI => ?_) (fun i s hi hI => ?_)
    · obtain ⟨k, rfl⟩ : ∃ k : Nat, i = (k : Int) := ⟨i.toNat, by omega⟩
      rcases h k (by omega) (by omega) with ⟨hp, hc⟩ | ⟨hp, hc⟩
      · refine hc.tc (.inl ⟨(), rfl, fun q h3 h4 => ?_⟩)
        by_cases e : q = k
        · subst e; exact hp
        · exact hI q h3 (by omega)
      · exact hc.tc (.inr ⟨.inr v, rfl, .inr ⟨⟨k, by omega, by omega, hp⟩, rfl⟩⟩)
    · rcases hi with rfl | ⟨rfl, hle⟩
      · exact .inl ⟨fun q h1 h2 => hI q h1 (by omega), rfl⟩
      · exact .inl ⟨fun q h1 h2 => by omega, rfl⟩
  obtain ⟨r, hr, ⟨h1, rfl⟩ | ⟨h1, rfl⟩⟩ := H
  · exact .inl ⟨h1, hr⟩
  · exact .inr ⟨h1, hr⟩
def nd (l : List Int) (i : Nat) : Int := (l[i]?).getD 0
theorem nd_read {l : List Int} {i : Nat} (h : i < l.length) : M.Conv (M.idx l (i : Int)) (nd l i) := by
  have : l[i]? = some (l[i]'h) := List.getElem?_eq_getElem _
  refine M.Conv_idx ?_
  unfold nd; rw [this]; rfl
def OkNodes (n : Nat) (l : List Int) : Prop := ∀ i, i < l.length → (0 ≤ nd l i ∧ nd l i ≤ (n : Int) - 1) ∧ (0 < i → nd l (i - 1) < nd l i)
theorem OkNodes.len {n : Nat} {l : List Int} (h : OkNodes n l) : l.length ≤ n := by
  have key : ∀ i, i < l.length → (i : Int) ≤ nd l i := by
    intro i
    induction i with
    | zero => intro hi; have := (h 0 hi).1; omega
    | succ i ih => intro hi; have := (h (i + 1) hi).2 (by omega); have := ih (by omega); simp only [Nat.add_sub_cancel] at *; omega
  by_cases e : l.length = 0
  · omega
  · have := key (l.length - 1) (by omega)
    have := (h (l.length - 1) (by omega)).1
    omega
structure ByC (code : List Int) : Prop where
  len : code.length ≤ 4096
  byte : ∀ x ∈ code, 0 ≤ x ∧ x ≤ 255
structure Src (code : List Int) (s : TL01source) : Prop where
  code_ : s.code = code
  lo : 0 ≤ s.at_
  hi : s.at_ ≤ code.length
  seed : 0 ≤ s.seed ∧ s.seed < 2147483647
theorem Src.mk' {code : List Int} {s : TL01source} {c : List Int} (h : Src code s) (hc : c = code) : Src code ⟨c, s.at_, s.seed⟩ := ⟨hc, h.lo, h.hi, h.seed⟩
theorem tmod_in {x n : Int} (hx : 0 ≤ x) (hn : 0 < n) : 0 ≤ x.tmod n ∧ x.tmod n < n := ⟨Int.tmod_nonneg n hx, Int.tmod_lt_of_pos x hn⟩
theorem tdiv_in {x : Int} (hx : 0 ≤ x) (h : x < 2147483647) : 0 ≤ x.tdiv 31 ∧ x.tdiv 31 < 2147483647 := by
  rw [Int.tdiv_eq_ediv_of_nonneg hx]; omega
theorem from_ok {code : List Int} (hc : ByC code) : M.TC (spec_l01From code) (Src code) := by
  have hl := hc.len
  unfold spec_l01From
  refine M.TC_bind (Mid := fun x => 0 ≤ x.1 ∧ x.1 < 2147483647) (M.TC_loop (fun (s : Int × Int) => (0 ≤ s.1 ∧ s.1 < 2147483647) ∧ 0 ≤ s.2 ∧ s.2 ≤ 4096) (fun s => (4096 - s.2).toNat) (61403, 0) (by simp) fun s hs => ?_) fun x hx => M.TC_ret ⟨rfl, by simp, by simp, hx⟩
  refine M.TC_ite (fun t => ?_) (fun _ => M.TC_ret (.inr ⟨_, rfl, hs.1⟩))
  simp only [Bool.and_eq_true, decide_eq_true_eq] at t
  refine M.TC_bind (Mid := fun x => 0 ≤ x ∧ x ≤ 255) (M.TC_idx hs.2.1 t.1 fun x hx => hc.byte x (List.mem_of_getElem? hx)) fun x hx => M.TC_ret (.inl ⟨_, rfl, ?_, ?_⟩)
  · have e1 : w64 (s.1 * 67) = s.1 * 67 := w64_eq _ (by omega)
    have e2 : w64 x = x := w64_eq _ (by omega)
    have e3 : w64 (s.1 * 67 + x) = s.1 * 67 + x := w64_eq _ (by omega)
    have e4 : w64 (s.2 + 1) = s.2 + 1 := w64_eq _ (by omega)
    simp only [e1, e2, e3, e4]
    exact ⟨tmod_in (by omega) (by omega), by omega, by omega⟩
  · simp only
    rw [w64_eq _ (by omega)]; omega
theorem next_ok {code : List Int} (hc : ByC code) {s : TL01source} (hs : Src code s) (n : Int) (hn : n ≤ 1000000) : M.TC (spec_l01Next s n) (fun r => Src code r.2 ∧ 0 ≤ r.1 ∧ (r.1 < n ∨ (n ≤ 1 ∧ r.1 = 0))) := by
  have hl := hc.len
  obtain ⟨h1, h2, h3, h4⟩ := hs
  unfold spec_l01Next
  refine M.TC_ite (fun t => M.TC_ret ⟨⟨h1, h2, h3, h4⟩, by simp, .inr ⟨by simpa using t, rfl⟩⟩) (fun t => ?_)
  have t : 1 < n := by simpa using t
  have e1 : w64 (s.seed * 48271) = s.seed * 48271 := w64_eq _ (by omega)
  have e2 : w64 (s.seed * 48271 + 59) = s.seed * 48271 + 59 := w64_eq _ (by omega)
  have hsd := tmod_in (x := s.seed * 48271 + 59) (n := 2147483647) (by omega) (by omega)
  simp only [e1, e2]
  generalize (s.seed * 48271 + 59).tmod 2147483647 = sd at hsd ⊢
  have hq := tdiv_in hsd.1 hsd.2
  generalize sd.tdiv 31 = q at hq ⊢
  have e3 : w64 q = q := w64_eq _ (by omega)
  have e4 : w64 (s.at_ + 1) = s.at_ + 1 := w64_eq _ (by omega)
  simp only [e3, e4, h1]
  refine M.TC_bind (Mid := fun (x : Int × Int) => 0 ≤ x.1 ∧ 0 ≤ x.2 ∧ x.2 ≤ code.length) ?_ (fun x hx => M.TC_bind (M.TC_guard (Post := fun _ => True) (by simp; omega) trivial) fun _ _ => M.TC_ret ⟨⟨rfl, hx.2.1, hx.2.2, hsd⟩, (tmod_in hx.1 (by omega)).1, .inl (tmod_in hx.1 (by omega)).2⟩)
  refine M.TC_ite (fun t => ?_) (fun _ => M.TC_ret ⟨hq.1, h2, h3⟩)
  have t : s.at_ < code.length := by simpa using t
  refine M.TC_bind (Mid := fun x => 0 ≤ x ∧ x ≤ 255) (M.TC_idx h2 t fun x hx => hc.byte x (List.mem_of_getElem? hx)) fun x hx => ?_
  refine M.TC_ite (fun _ => ?_) (fun _ => M.TC_ret ⟨?_, by simp only; omega, by simp only; omega⟩)
  · have e5 : w64 (s.at_ + 1 - 1) = s.at_ := by rw [w64_eq _ (by omega)]; omega
    rw [e5]
    refine M.TC_bind (Mid := fun x => 0 ≤ x ∧ x ≤ 255) (M.TC_idx h2 t fun x hx => hc.byte x (List.mem_of_getElem? hx)) fun x hx => M.TC_ret ⟨?_, by simp only; omega, by simp only; omega⟩
    simp only
    rw [w64_eq _ (by omega)]; exact hx.1
  · simp only
    rw [w64_eq x (by omega), w64_eq _ (by omega)]; omega
theorem pick_ok {code : List Int} (hc : ByC code) {s : TL01source} (hs : Src code s) (l : List Int) (h1 : 1 ≤ l.length) (h2 : l.length ≤ 1000) (P : Int → Prop) (hP : ∀ x ∈ l, P x) : M.TC (spec_l01Pick s l) (fun r => Src code r.2.1 ∧ P r.1) := by
  unfold spec_l01Pick
  refine M.TC_bind (next_ok hc hs l.length (by omega)) fun x hx => M.TC_bind (Mid := P) (M.TC_idx hx.2.1 (by omega) fun y hy => hP y (List.mem_of_getElem? hy)) fun y hy => M.TC_ret ⟨hx.1.mk' hs.code_, hy⟩
theorem value_ok {code : List Int} (hc : ByC code) {s : TL01source} (hs : Src code s) : M.TC (spec_l01DrawValue s) (fun r => Src code r.2 ∧ inI64 r.1) := by
  unfold spec_l01DrawValue
  refine M.TC_bind (next_ok hc hs 24 (by omega)) fun x hx => ?_
  refine M.TC_bind (Mid := fun _ => True) (M.TC_ite (fun _ => M.TC_ret trivial) (fun _ => M.TC_ite (fun _ => M.TC_ret trivial) (fun _ => M.TC_ret trivial))) fun b _ => ?_
  refine M.TC_ite (fun _ => M.TC_ret ⟨hx.1.mk' hs.code_, by simp [inI64]⟩) (fun _ => M.TC_ite (fun _ => ?_) (fun _ => M.TC_ite (fun _ => ?_) (fun _ => ?_)))
  · exact M.TC_bind (pick_ok hc (hx.1.mk' hs.code_) _ (by simp) (by simp) inI64 (by simp [inI64])) fun y hy => M.TC_ret ⟨hy.1.mk' hs.code_, hy.2⟩
  · exact M.TC_bind (next_ok hc (hx.1.mk' hs.code_) 2000 (by omega)) fun y hy => M.TC_ret ⟨hy.1.mk' hs.code_, w64_bd _⟩
  · exact M.TC_bind (next_ok hc (hx.1.mk' hs.code_) 41 (by omega)) fun y hy => M.TC_ret ⟨hy.1.mk' hs.code_, w64_bd _⟩
/-- what a drawn matrix is at least: not large, of numbers -/
structure MatS (a : List (List Int)) : Prop where
  rows : a.length ≤ 11
  row : ∀ r ∈ a, r.length ≤ 10 ∧ ∀ x ∈ r, inI64 x
theorem MatS.sm {a : List (List Int)} (h : MatS a) : smII a := ⟨by have := h.rows; omega, fun r hr => by have := (h.row r hr).1; omega⟩
theorem MatS.fit {a : List (List Int)} (h : MatS a) : fitL (fitL inI64) a := ⟨by have := h.rows; omega, fun r hr => ⟨by have := (h.row r hr).1; omega, (h.row r hr).2⟩⟩
theorem MatS.of {m n : Nat} {f : Nat → Nat → Int} (hm : m ≤ 10) (hn : n ≤ 10) (hf : ∀ i j, inI64 (f i j)) : MatS (matF m n f) := by
  refine ⟨by rw [matF_len]; omega, fun r hr => ?_⟩
  simp only [matF, tab, List.mem_map, List.mem_range] at hr
  obtain ⟨i, hi, rfl⟩ := hr
  refine ⟨by simp; omega, fun x hx => ?_⟩
  simp only [List.mem_map, List.mem_range] at hx
  obtain ⟨j, hj, rfl⟩ := hx
  exact hf i j
structure VecS (x : List Int) : Prop where
  len : x.length ≤ 20
  mem : ∀ v ∈ x, inI64 v
theorem VecS.sm {x : List Int} (h : VecS x) : smI x := by have := h.len; unfold smI; omega
theorem VecS.fit {x : List Int} (h : VecS x) : fitL inI64 x := ⟨by have := h.len; omega, h.mem⟩
theorem VecS.snoc {x : List Int} {v : Int} (h : VecS x) (hl : x.length ≤ 19) (hv : inI64 v) : VecS (x ++ [v]) := ⟨by simp; omega, fun y hy => by
  rcases List.mem_append.1 hy with hy | hy
  · exact h.mem y hy
  · simp at hy; subst hy; exact hv⟩
theorem VecS.set {x : List Int} {v : Int} (i : Nat) (h : VecS x) (hv : inI64 v) : VecS (x.set i v) := ⟨by rw [List.length_set]; exact h.len, fun y hy => by
  rcases List.mem_or_eq_of_mem_set hy with hy | hy
  · exact h.mem y hy
  · subst hy; exact hv⟩
theorem likeInts_refl {a : List Int} (h : a.length ≤ 1099511627776) : M.Conv (laws_likeInts a a) true := by
  unfold laws_likeInts
  refine M.Conv_ite (fun t => by simp at t) (fun _ => ?_)
  rcases Conv_check (ρ := Bool) (n := a.length) (lo := 0) (f := (fun i1 => (fun (_ : Unit) => M.bind (M.idx a i1) (fun x2 => M.bind (M.idx a i1) (fun x3 => M.ite (x2 != x3) (M.ret (.inr (.inr false))) (M.ret (.inl ()))))))) (fun _ => True) false (by omega) (fun i _ hi => .inl ⟨trivial, M.Conv_bind (nd_read hi) (M.Conv_bind (nd_read hi) (M.Conv_ite (fun t => by simp at t) (fun _ => M.Conv_ret _)))⟩) with ⟨_, h2⟩ | ⟨⟨i, _, _, h3⟩, _⟩
  · exact M.Conv_bind h2 (M.Conv_ret _)
  · exact absurd trivial h3
theorem big_ok (code : List Int) : M.Conv (laws_big code) (decide (4096 < (code.length : Int))) := M.Conv_ret _
theorem ByC.of {code : List Int} (h : fitL inU8 code) (hb : decide (4096 < (code.length : Int)) = false) : ByC code := ⟨by have := of_decide_eq_false hb; omega, fun x hx => h.2 x hx⟩
theorem cmp_list {l : List Int} {c : Int} (h : l.length ≤ 1099511627776) (q : Bool) (hq : q = false) : M.Conv (M.ite (q || (c != c)) (M.ret true) (M.bind (laws_likeInts l l) (fun x12 => M.ret (!x12)))) false := by
  subst hq
  exact M.Conv_ite (fun t => by simp at t) (fun _ => M.Conv_bind (likeInts_refl h) (M.Conv_ret _))
theorem cmp_list0 {l : List Int} {c : Int} (h : l.length ≤ 1099511627776) : M.Conv (M.ite (c != c) (M.ret true) (M.bind (laws_likeInts l l) (fun x12 => M.ret (!x12)))) false :=
  M.Conv_ite (fun t => by simp at t) (fun _ => M.Conv_bind (likeInts_refl h) (M.Conv_ret _))
def co (c : List Int) (i : Nat) : Int := (c[i]?).getD (-1000000000000000)
theorem co_get {c : List Int} {i : Nat} (h : i < c.length) : c[i]? = some (co c i) := by
  unfold co; rw [List.getElem?_eq_getElem h]; rfl
theorem co_out {c : List Int} {i : Nat} (h : c.length ≤ i) : co c i = -1000000000000000 := by
  unfold co; rw [List.getElem?_eq_none h]; rfl
theorem co_lt {c : List Int} {i : Nat} (h : co c i ≠ -1000000000000000) : i < c.length := by
  by_cases hi : i < c.length
  · exact hi
  · exact absurd (co_out (by omega)) h
theorem co_read {c : List Int} {i : Nat} (h : i < c.length) : M.Conv (M.idx c (i : Int)) (co c i) := M.Conv_get (by omega) (by simpa using co_get h)
theorem co_val {c : List Int} (hv : c.all valB = true) (i : Nat) : co c i = -1000000000000000 ∨ -1000000 ≤ co c i ∧ co c i ≤ 1000000 := by
  by_cases hi : i < c.length
  · rw [List.all_eq_true] at hv
    exact val_cases (hv _ (List.mem_of_getElem? (co_get hi)))
  · exact .inl (co_out (by omega))
theorem poly_some {c : List Int} (h : c.any (· != (-1000000000000000)) = true) : ∃ i, co c i ≠ -1000000000000000 := by
  rw [List.any_eq_true] at h
  obtain ⟨x, hx, hn⟩ := h
  obtain ⟨i, hi, rfl⟩ := List.mem_iff_getElem.1 hx
  refine ⟨i, ?_⟩
  unfold co
  rw [List.getElem?_eq_getElem hi]
  simpa using hn
theorem times_co {a p : Int} (h : a ≠ -1000000000000000) (ha : -1000000 ≤ a ∧ a ≤ 1000000) (hp : -1000000 ≤ p ∧ p ≤ 1000000) : timesI a p = a + p := by
  simp only [timesI]
  rw [show (a == (-1000000000000000)) = false by simpa using h, show (p == (-1000000000000000)) = false by simp; omega]
  exact w64_eq _ (by omega)
theorem times_bot (p : Int) : timesI (-1000000000000000) p = -1000000000000000 := by simp [timesI]
structure IsEv (c : List Int) (x v : Int) : Prop where
  up : ∀ i : Nat, co c i ≠ -1000000000000000 → co c i + i * x ≤ v
  on : ∃ i : Nat, co c i ≠ -1000000000000000 ∧ v = co c i + i * x
theorem IsEv.unique {c : List Int} {x v w : Int} (h : IsEv c x v) (g : IsEv c x w) : v = w := by
  obtain ⟨i, h1, h2⟩ := h.on
  obtain ⟨k, g1, g2⟩ := g.on
  have := h.up k g1
  have := g.up i h1
  omega
theorem place_bd {i : Nat} {x : Int} (hi : i < 12) (hx : -20 ≤ x ∧ x ≤ 20) : -240 ≤ (i : Int) * x ∧ (i : Int) * x ≤ 240 := by
  have := mul_bd (a := (i : Int)) (b := x) (A := 12) (B := 20) (by omega) (by omega)
  omega
theorem ev_ok {c : List Int} {x : Int} (hc : polyB c = true) (hx : -20 ≤ x ∧ x ≤ 20) : ∃ v, IsEv c x v ∧ M.Conv (impl_EvaluatePolynomial c x) (bif valB v then (v, 0) else (0, 3)) := by
  obtain ⟨h1, h2, h3⟩ := polyB_len hc
  have hv : valB x = true := by simp [valB, finB]; omega
  have hb2 : (x != (-1000000000000000)) = true := by simp; omega
  have key : M.TC (M.forI 0 (c.length : Int) (fun s => s) (fun i1 => (fun (s1 : Int) => M.bind (M.idx c i1) (fun x4 => M.bind (M.ite (decide (0 < i1)) (M.ite (x != (-1000000000000000)) (M.ret (w64 (i1 * x))) (M.ret (-1000000000000000))) (M.ret 0)) (fun (s2 : Int) => M.bind (impl_times x4 s2) (fun x5 => M.ret (.inl (mx s1 x5))))))) (-1000000000000000)) (IsEv c x) := by
    refine M.TC_for (fun i s => (s = -1000000000000000 ∧ ∀ j : Nat, (j : Int) < i → co c j = -1000000000000000) ∨ ((∀ j : Nat, (j : Int) < i → co c j ≠ -1000000000000000 → co c j + j * x ≤ s) ∧ ∃ j : Nat, co c j ≠ -1000000000000000 ∧ s = co c j + j * x)) _ (by omega) (by omega) (.inl ⟨rfl, fun j hj => by omega⟩) (fun i s i0 i1 hI => ?_) (fun i s hi hI => ?_)
    · obtain ⟨j, rfl⟩ : ∃ j : Nat, i = j := ⟨i.toNat, by omega⟩
      have hj : j < c.length := by omega
      have pb := place_bd (i := j) (x := x) (by omega) hx
      refine M.TC_bindC (co_read hj) (M.TC_bindC (x := (j : Int) * x) (M.Conv_ite (fun _ => M.Conv_ite (fun _ => (M.Conv_ret _).of (w64_eq _ (by omega))) (fun q => by rw [hb2] at q; cases q)) (fun q => (M.Conv_ret _).of ?_)) (M.TC_bindC (impl_times_ok _ _) (M.TC_ret (.inl ⟨_, rfl, ?_⟩))))
      · have : j = 0 := by have := of_decide_eq_false q; omega
        subst this; simp
      · rcases co_val h2 j with hz | hz
        · rw [hz, times_bot, mx_eq]
          rcases hI with ⟨rfl, ha⟩ | ⟨ha, k, hk, rfl⟩
          · refine .inl ⟨by omega, fun k hk => ?_⟩
            by_cases e : k = j
            · subst e; exact hz
            · exact ha k (by omega)
          · have hkl := co_lt hk
            have pk := place_bd (i := k) (x := x) (by omega) hx
            have hkv := co_val h2 k
            rw [show max (co c k + k * x) (-1000000000000000) = co c k + k * x by omega]
            refine .inr ⟨fun m hm hne => ?_, k, hk, rfl⟩
            by_cases e : m = j
            · subst e; exact absurd hz hne
            · exact ha m (by omega) hne
        · have hne : co c j ≠ -1000000000000000 := by omega
          rw [times_co hne hz (by omega), mx_eq]
          rcases hI with ⟨rfl, ha⟩ | ⟨ha, k, hk, rfl⟩
          · rw [show max (-1000000000000000) (co c j + j * x) = co c j + j * x by omega]
            refine .inr ⟨fun m hm hn => ?_, j, hne, rfl⟩
            by_cases e : m = j
            · subst e; omega
            · exact absurd (ha m (by omega)) hn
          · refine .inr ⟨fun m hm hn => ?_, ?_⟩
            · by_cases e : m = j
              · subst e; omega
              · have := ha m (by omega) hn
                omega
            · by_cases e : co c k + k * x ≤ co c j + j * x
              · exact ⟨j, hne, by omega⟩
              · exact ⟨k, hk, by omega⟩
    · have hl : i = (c.length : Int) := by clear hI; omega
      subst hl
      rcases hI with ⟨_, ha⟩ | ⟨ha, k, hk, e⟩
      · obtain ⟨k, hk⟩ := poly_some h3
        exact absurd (ha k (by have := co_lt hk; omega)) hk
      · exact ⟨fun m hm => ha m (by have := co_lt hm; omega) hm, k, hk, e⟩
  obtain ⟨v, k1, k2⟩ := key
  refine ⟨v, k2, ?_⟩
  unfold impl_EvaluatePolynomial
  have hl : c.length ≤ 9223372036854775807 := by omega
  refine M.Conv_bind (impl_IsPolynomial_ok hl) (M.Conv_ite (fun q => by rw [hc] at q; cases q) (fun _ => M.Conv_bind (impl_IsValue_ok x) (M.Conv_ite (fun q => by rw [hv] at q; cases q) (fun _ => M.Conv_bind k1 (M.Conv_bind (impl_checkedValue_ok v) (M.Conv_ret _))))))
/-- the sum's value -/
theorem co_add {c d : List Int} (hc : c.all valB = true) (hd : d.all valB = true) (i : Nat) : co ((List.range (max c.length d.length)).map (addA c d)) i = max (co c i) (co d i) := by
  have vc := co_val hc i
  have vd := co_val hd i
  by_cases hi : i < max c.length d.length
  · have e : co ((List.range (max c.length d.length)).map (addA c d)) i = addA c d i := by unfold co; simp [hi]
    rw [e]
    unfold addA
    by_cases hd : i < d.length
    · rw [co_get hd]
      simp only [mx_eq]; rfl
    · rw [List.getElem?_eq_none (by omega)]
      have : co d i = -1000000000000000 := co_out (by omega)
      show co c i = _
      omega
  · rw [co_out (by simp; omega), co_out (c := c) (by omega), co_out (c := d) (by omega)]; rfl
theorem ev_add {c d : List Int} {x a b : Int} (hc : c.all valB = true) (hd : d.all valB = true) (ha : IsEv c x a) (hb : IsEv d x b) : IsEv ((List.range (max c.length d.length)).map (addA c d)) x (max a b) := by
  refine ⟨fun i hi => ?_, ?_⟩
  · rw [co_add hc hd] at hi ⊢
    have vc := co_val hc i
    have vd := co_val hd i
    by_cases e : co d i ≤ co c i
    · have := ha.up i (by omega)
      omega
    · have := hb.up i (by omega)
      omega
  · obtain ⟨i, i1, i2⟩ := ha.on
    obtain ⟨k, k1, k2⟩ := hb.on
    by_cases e : b ≤ a
    · refine ⟨i, ?_, ?_⟩
      · rw [co_add hc hd]
        have vc := co_val hc i
        omega
      · rw [co_add hc hd]
        have vd := co_val hd i
        have vc := co_val hc i
        by_cases e2 : co d i ≤ co c i
        · omega
        · have := hb.up i (by omega)
          omega
    · refine ⟨k, ?_, ?_⟩
      · rw [co_add hc hd]
        have vc := co_val hd k
        omega
      · rw [co_add hc hd]
        have vd := co_val hc k
        have vc := co_val hd k
        by_cases e2 : co c k ≤ co d k
        · omega
        · have := ha.up k (by omega)
          omega
structure IsProd (c d p : List Int) : Prop where
  up : ∀ i k : Nat, co c i ≠ -1000000000000000 → co d k ≠ -1000000000000000 → co c i + co d k ≤ co p (i + k)
  on : ∀ m : Nat, co p m ≠ -1000000000000000 → ∃ i k : Nat, i + k = m ∧ co c i ≠ -1000000000000000 ∧ co d k ≠ -1000000000000000 ∧ co p m = co c i + co d k
theorem ev_mul {c d p : List Int} {x a b : Int} (hc : c.all valB = true) (hd : d.all valB = true) (hp : IsProd c d p) (ha : IsEv c x a) (hb : IsEv d x b) : IsEv p x (a + b) := by
  have hd' : ∀ i k : Nat, ((i + k : Nat) : Int) * x = i * x + k * x := fun i k => by rw [Int.natCast_add, Int.add_mul]
  refine ⟨fun m hm => ?_, ?_⟩
  · obtain ⟨i, k, rfl, h1, h2, h3⟩ := hp.on m hm
    have := ha.up i h1
    have := hb.up k h2
    rw [hd']; omega
  · obtain ⟨i, i1, i2⟩ := ha.on
    obtain ⟨k, k1, k2⟩ := hb.on
    have hu := hp.up i k i1 k1
    have vc := co_val hc i
    have vd := co_val hd k
    have hne : co p (i + k) ≠ -1000000000000000 := by omega
    refine ⟨i + k, hne, ?_⟩
    obtain ⟨i', k', e, h1, h2, h3⟩ := hp.on _ hne
    have := ha.up i' h1
    have := hb.up k' h2
    have e2 := hd' i k
    have e3 := hd' i' k'
    rw [e] at e3
    rw [hd']; omega
structure PartP (c d : List Int) (n i k : Nat) (s : List Int) : Prop where
  len : s.length = n
  up : ∀ p q : Nat, (p < i ∨ p = i ∧ q < k) → co c p ≠ -1000000000000000 → co d q ≠ -1000000000000000 → co c p + co d q ≤ co s (p + q)
  on : ∀ m : Nat, co s m = -1000000000000000 ∨ ∃ p q : Nat, p + q = m ∧ co c p ≠ -1000000000000000 ∧ co d q ≠ -1000000000000000 ∧ co s m = co c p + co d q
theorem co_set {s : List Int} {i m : Nat} {v : Int} (hi : i < s.length) : co (s.set i v) m = if m = i then v else co s m := by
  unfold co
  by_cases e : m = i
  · subst e; rw [if_pos rfl, List.getElem?_set_self hi]; rfl
  · rw [if_neg e, List.getElem?_set_ne (by omega)]
theorem PartP.step {c d s : List Int} {n i k : Nat} (hc : c.all valB = true) (hd : d.all valB = true) (h : PartP c d n i k s) (hn : i + k < n) : PartP c d n i (k + 1) (s.set (i + k) (mx (co s (i + k)) (timesI (co c i) (co d k)))) := by
  have hlt : i + k < s.length := by rw [h.len]; exact hn
  have vc := co_val hc i
  have vd := co_val hd k
  have vs : co s (i + k) = -1000000000000000 ∨ -2000000 ≤ co s (i + k) := by
    rcases h.on (i + k) with e | ⟨p, q, _, h1, h2, e⟩
    · exact .inl e
    · have := co_val hc p
      have := co_val hd q
      omega
  -- the new coefficient
  have hz : (mx (co s (i + k)) (timesI (co c i) (co d k)) = co s (i + k) ∧ (co c i = -1000000000000000 ∨ co d k = -1000000000000000 ∨ co c i + co d k ≤ co s (i + k))) ∨ (mx (co s (i + k)) (timesI (co c i) (co d k)) = co c i + co d k ∧ co c i ≠ -1000000000000000 ∧ co d k ≠ -1000000000000000 ∧ co s (i + k) ≤ co c i + co d k) := by
    rw [mx_eq]
    by_cases e1 : co c i = -1000000000000000
    · rw [e1, times_bot]; left; omega
    · by_cases e2 : co d k = -1000000000000000
      · rw [e2, show timesI (co c i) (-1000000000000000) = -1000000000000000 by simp [timesI]]; left; omega
      · rw [times_co e1 (by omega) (by omega)]
        by_cases e3 : co c i + co d k ≤ co s (i + k)
        · left; omega
        · right; omega
  refine ⟨by rw [List.length_set]; exact h.len, fun p q hpq h1 h2 => ?_, fun m => ?_⟩
  · rw [co_set hlt]
    by_cases e : p + q = i + k
    · rw [if_pos e]
      by_cases e2 : p = i ∧ q = k
      · obtain ⟨rfl, rfl⟩ := e2; omega
      · have := h.up p q (by omega) h1 h2
        rw [e] at this
        omega
    · rw [if_neg e]
      exact h.up p q (by omega) h1 h2
  · rw [co_set hlt]
    by_cases e : m = i + k
    · rw [if_pos e]
      rcases hz with ⟨hz, _⟩ | ⟨hz, h1, h2, _⟩
      · rw [hz]
        have := h.on m
        rw [e] at this ⊢
        exact this
      · exact .inr ⟨i, k, e.symm, h1, h2, hz⟩
    · rw [if_neg e]; exact h.on m
theorem mul_tc {c d : List Int} (hc : polyB c = true) (hd : polyB d = true) : M.TC (impl_MultiplyPolynomials c d) (fun r => r.2 = 0 ∧ polyB r.1 = true ∧ IsProd c d r.1 ∨ r.2 = 3) := by
  obtain ⟨c1, c2, c3⟩ := polyB_len hc
  obtain ⟨d1, d2, d3⟩ := polyB_len hd
  have c0 : 0 < c.length := by cases c with | nil => simp at c3 | cons _ _ => simp
  have d0 : 0 < d.length := by cases d with | nil => simp at d3 | cons _ _ => simp
  obtain ⟨n, hn⟩ : ∃ n, n + 1 = c.length + d.length := ⟨c.length + d.length - 1, by omega⟩
  have hw : w64 (w64 ((c.length : Int) + (d.length : Int)) - 1) = (n : Int) := by rw [w64_eq ((c.length : Int) + d.length) (by omega), w64_eq _ (by omega)]; omega
  have hcl : c.length ≤ 9223372036854775807 := by omega
  have hdl : d.length ≤ 9223372036854775807 := by omega
  unfold impl_MultiplyPolynomials
  refine M.TC_bindC (impl_IsPolynomial_ok hcl) (M.TC_bindC (x := false) (M.Conv_ite (fun q => by rw [hc] at q; cases q) (fun _ => M.Conv_bind (impl_IsPolynomial_ok hdl) ((M.Conv_ret _).of (by rw [hd]; rfl)))) (M.TC_ite (fun q => by cases q) (fun _ => ?_)))
  rw [hw]
  refine M.TC_bindC (M.Conv_make (by omega) (by omega)) ?_
  rw [Int.toNat_natCast, List.length_replicate]
  refine M.TC_ite (fun _ => M.TC_ret (.inr rfl)) (fun h12 => ?_)
  have h12 : n ≤ 12 := by have := of_decide_eq_false h12; omega
  let B : List Int := List.replicate n (-1000000000000000)
  have hB : B.length = n := by simp [B]
  have hBc : ∀ m, co B m = -1000000000000000 := fun m => by
    by_cases h : m < n
    · unfold co; simp [B, h]
    · exact co_out (by omega)
  refine M.TC_bindC (x := B) ((Conv_fillN (fun _ => (-1000000000000000)) 0 (by omega) fun i s hi hs => ?_).of (by simp [B, List.map_const'])) ?_
  · exact M.Conv_bind (M.Conv_get (x := s[i]) (by omega) (by simp [show i < s.length by omega])) (M.Conv_bind (M.Conv_upd (by omega)) (M.Conv_ret _))
  refine M.TC_bind (Mid := PartP c d n c.length 0) (M.TC_for (fun i s => PartP c d n i.toNat 0 s) _ (by omega) (by omega) ⟨hB, fun p q hpq => by simp at hpq, fun m => .inl (hBc m)⟩ (fun i s i0 i1 hs => ?_) (fun i s hi hs => ?_)) fun s hs => ?_
  · obtain ⟨j, rfl⟩ : ∃ j : Nat, i = j := ⟨i.toNat, by omega⟩
    simp only [Int.toNat_natCast] at hs
    have hj : j < c.length := by omega
    refine M.TC_bindC (co_read hj) (M.TC_bind (Mid := PartP c d n (j + 1) 0) (M.TC_for (fun k s => PartP c d n j k.toNat s) _ (by omega) (by omega) hs (fun k s k0 k1 hs => ?_) (fun k s hk hs => ?_)) fun s hs => M.TC_ret (.inl ⟨s, rfl, by rw [show ((j : Int) + 1).toNat = j + 1 by omega]; exact hs⟩))
    · obtain ⟨l, rfl⟩ : ∃ l : Nat, k = l := ⟨k.toNat, by omega⟩
      simp only [Int.toNat_natCast] at hs
      have hl : l < d.length := by omega
      have ew : w64 ((j : Int) + (l : Int)) = ((j + l : Nat) : Int) := by rw [w64_eq _ (by omega)]; omega
      have hlt : j + l < s.length := by rw [hs.len]; omega
      rw [ew]
      exact M.TC_bindC (co_read hl) (M.TC_bindC (co_read hlt) (M.TC_bindC (impl_times_ok _ _) (M.TC_bindC (co_read hlt) (M.TC_bindC (M.Conv_upd hlt) (M.TC_ret (.inl ⟨_, rfl, by rw [show ((l : Int) + 1).toNat = l + 1 by omega]; exact hs.step c2 d2 (by omega)⟩))))))
    · have hk : k = (d.length : Int) := by omega
      subst hk
      simp only [Int.toNat_natCast] at hs
      refine ⟨hs.len, fun p q hpq h1 h2 => hs.up p q ?_ h1 h2, hs.on⟩
      have := co_lt h2
      omega
  · have hi : i = (c.length : Int) := by omega
    subst hi
    simpa using hs
  · have hsl := hs.len
    refine M.TC_bindC (impl_checkedVector_ok (by omega)) ?_
    cases hv : s.all valB with
    | false => exact M.TC_ret (.inr rfl)
    | true =>
      have hup : ∀ i k : Nat, co c i ≠ -1000000000000000 → co d k ≠ -1000000000000000 → co c i + co d k ≤ co s (i + k) := fun i k h1 h2 => hs.up i k (.inl (co_lt h1)) h1 h2
      refine M.TC_ret (.inl ⟨rfl, ?_, hup, fun m hm => (hs.on m).resolve_left hm⟩)
      simp only [polyB, cond_true, hv, decide_eq_true (show s.length ≤ 12 by omega), Bool.true_and]
      obtain ⟨i, hi⟩ := poly_some c3
      obtain ⟨k, hk⟩ := poly_some d3
      have := hup i k hi hk
      have vc := co_val c2 i
      have vd := co_val d2 k
      have hne : co s (i + k) ≠ -1000000000000000 := by omega
      have hl := co_lt hne
      rw [List.any_eq_true]
      exact ⟨_, List.mem_of_getElem? (co_get hl), by simpa using hne⟩

theorem draw9_ok {code : List Int} (hc : ByC code) {s : TL01source} (hs : Src code s) : M.TC (spec_l09Draw s) (fun r => VecS r.1 ∧ 1 ≤ r.1.length ∧ r.1.length ≤ 13 ∧ Src code r.2) := by
  unfold spec_l09Draw
  rw [hs.code_]
  refine M.TC_bind (next_ok hc hs 6 (by omega)) fun x hx => ?_
  refine M.TC_bind (Mid := fun (r : Int × Int × List Int × Int) => Src code ⟨code, r.1, r.2.1⟩ ∧ VecS r.2.2.1 ∧ 1 ≤ r.2.2.1.length ∧ r.2.2.1.length ≤ 6) (M.TC_loop (fun (r : Int × Int × List Int × Int) => Src code ⟨code, r.1, r.2.1⟩ ∧ VecS r.2.2.1 ∧ 0 ≤ r.2.2.2 ∧ (r.2.2.1.length : Int) + r.2.2.2 ≤ 6 ∧ 1 ≤ (r.2.2.1.length : Int) + r.2.2.2) (fun r => r.2.2.2.toNat) _ ⟨hx.1.mk' rfl, ⟨by simp, by simp⟩, ?_, ?_, ?_⟩ fun r hI => ?_) fun r hr => ?_
  · simp only; rw [w64_eq _ (by omega)]; omega
  · simp only [List.length_nil]; rw [w64_eq _ (by omega)]; omega
  · simp only [List.length_nil]; rw [w64_eq _ (by omega)]; omega
  · obtain ⟨h1, h2, h3, h4, h5⟩ := hI
    refine M.TC_ite (fun t => ?_) (fun t => M.TC_ret (.inr ⟨_, rfl, h1, h2, ?_, ?_⟩))
    · have t : 0 < r.2.2.2 := by simpa using t
      refine M.TC_bind (next_ok hc h1 21 (by omega)) fun x hx => M.TC_bindC (M.Conv_app (by simp; omega)) (M.TC_bind (next_ok hc (hx.1.mk' rfl) 5 (by omega)) fun y hy => ?_)
      have hv : VecS (r.2.2.1 ++ [w64 (x.1 - 10)]) := h2.snoc (by omega) (w64_bd _)
      have hl : (r.2.2.1 ++ [w64 (x.1 - 10)]).length = r.2.2.1.length + 1 := by simp
      generalize r.2.2.1 ++ [w64 (x.1 - 10)] = l1 at hv hl ⊢
      refine M.TC_bind (Mid := fun l => VecS l ∧ l.length = l1.length) (M.TC_ite (fun _ => ?_) (fun _ => M.TC_ret ⟨hv, rfl⟩)) fun l hl2 => M.TC_ret (.inl ⟨_, rfl, ⟨hy.1.mk' rfl, hl2.1, ?_, ?_, ?_⟩, ?_⟩)
      · have ew : w64 ((l1.length : Int) - 1) = ((l1.length - 1 : Nat) : Int) := by rw [w64_eq _ (by omega)]; omega
        rw [ew]
        exact M.TC_bind (Mid := fun _ => True) (M.TC_idx (by omega) (by omega) fun _ _ => trivial) fun _ _ => M.TC_bindC (M.Conv_upd (by omega)) (M.TC_ret ⟨hv.set _ (by simp [inI64]), by simp⟩)
      · simp only; rw [w64_eq _ (by omega)]; omega
      · simp only; rw [w64_eq _ (by omega)]; omega
      · simp only; rw [w64_eq _ (by omega)]; omega
      · simp only; rw [w64_eq _ (by omega)]; omega
    · have t : r.2.2.2 ≤ 0 := by simpa using t
      simp only; omega
    · have t : r.2.2.2 ≤ 0 := by simpa using t
      simp only; omega
  · obtain ⟨h1, h2, h3, h4⟩ := hr
    refine M.TC_bind (next_ok hc h1 60 (by omega)) fun x hx => ?_
    refine M.TC_ite (fun _ => M.TC_ret ⟨⟨by simp, by simp [inI64]⟩, by simp, by simp, hx.1.mk' rfl⟩) (fun _ => M.TC_ite (fun _ => ?_) (fun _ => ?_))
    · refine M.TC_bind (next_ok hc (hx.1.mk' rfl) 2 (by omega)) fun y hy => ?_
      have ew : w64 (12 + y.1) = 12 + y.1 := w64_eq _ (by omega)
      rw [ew]
      refine M.TC_bindC (M.Conv_make (by omega) (by omega)) (M.TC_ret ⟨⟨by simp; omega, fun v hv => ?_⟩, by simp; omega, by simp; omega, hy.1.mk' rfl⟩)
      have := List.eq_of_mem_replicate hv
      subst this; simp [inI64]
    · refine M.TC_bind (Mid := fun (r : List Int × Int × Int) => (VecS r.1 ∧ 1 ≤ r.1.length ∧ r.1.length ≤ 6) ∧ Src code ⟨code, r.2.1, r.2.2⟩) (M.TC_ite (fun _ => ?_) (fun _ => M.TC_ret ⟨⟨h2, h3, h4⟩, hx.1.mk' rfl⟩)) fun u hu => M.TC_ret ⟨hu.1.1, hu.1.2.1, by have := hu.1.2.2; simp only; omega, hu.2⟩
      refine M.TC_bind (value_ok hc (hx.1.mk' rfl)) fun y hy => M.TC_bind (Mid := fun _ => True) (M.TC_idx (by omega) (by omega) fun _ _ => trivial) fun _ _ => M.TC_bindC (M.Conv_upd (i := 0) (by omega)) (M.TC_ret ⟨⟨h2.set 0 hy.2, by simpa using h3, by simpa using h4⟩, hy.1.mk' rfl⟩)
structure PolS (c : List Int) : Prop where
  vec : VecS c
  pos : 1 ≤ c.length
  len : c.length ≤ 13
theorem drawTwo_ok {code : List Int} (hc : ByC code) {s : TL01source} (hs : Src code s) : M.TC (spec_l09DrawTwo s) (fun r => PolS r.1 ∧ PolS r.2.1 ∧ Src code r.2.2) := by
  unfold spec_l09DrawTwo
  rw [hs.code_]
  refine M.TC_bind (draw9_ok hc hs) fun x hx => M.TC_bind (next_ok hc (hx.2.2.2.mk' rfl) 3 (by omega)) fun y hy => ?_
  have hP : PolS x.1 := ⟨hx.1, hx.2.1, hx.2.2.1⟩
  have hlen := hP.len
  refine M.TC_bind (Mid := fun b => b = true → polyB x.1 = true) (M.TC_ite (fun _ => M.TC_bindC (spec_IsPolynomial_ok (by omega)) (M.TC_ret fun h => h)) (fun _ => M.TC_ret fun h => by cases h)) fun b hb => M.TC_ite (fun t => ?_) (fun _ => ?_)
  · have hpoly := hb t
    obtain ⟨w, w1, w2, _, w4⟩ := full_Two x.1 hP.vec.fit hP.vec.sm
    obtain ⟨w5, w6⟩ := w4 hpoly
    have hw : PolS w.1 := ⟨⟨by omega, w6⟩, by rw [w5]; exact hP.pos, by omega⟩
    refine M.TC_bindC w1 (M.TC_bind (next_ok hc (hy.1.mk' rfl) 4 (by omega)) fun z hz => ?_)
    refine M.TC_bind (Mid := fun (r : List Int × Int × Int) => PolS r.1 ∧ Src code ⟨code, r.2.1, r.2.2⟩) (M.TC_ite (fun _ => ?_) (fun _ => M.TC_ret ⟨hw, hz.1.mk' rfl⟩)) fun u hu => M.TC_ret ⟨hP, hu.1, hu.2⟩
    have hwl := hw.len
    have hwp := hw.pos
    refine M.TC_bind (next_ok hc (hz.1.mk' rfl) _ (by omega)) fun i hi => M.TC_bind (next_ok hc (hi.1.mk' rfl) 21 (by omega)) fun v hv => M.TC_bind (Mid := fun _ => True) (M.TC_idx hi.2.1 (by omega) fun _ _ => trivial) fun _ _ => ?_
    refine M.TC_bind (Mid := PolS) (M.TC_upd hi.2.1 (by omega) ⟨hw.vec.set _ (w64_bd _), by simpa using hwp, by simpa using hwl⟩) fun l hl => M.TC_ret ⟨hl, hv.1.mk' rfl⟩
  · exact M.TC_bind (draw9_ok hc (hy.1.mk' rfl)) fun z hz => M.TC_ret ⟨hP, ⟨hz.1, hz.2.1, hz.2.2.1⟩, hz.2.2.2.mk' rfl⟩
theorem u64_eq (x : Int) : IntKind.u64.wrap x = x % 18446744073709551616 := by simp [IntKind.wrap, IntKind.bits, IntKind.signed]
theorem u64_wrap (x : Int) : 0 ≤ IntKind.u64.wrap x ∧ IntKind.u64.wrap x ≤ 18446744073709551615 := by
  rw [u64_eq]; omega
theorem roll_ok {code : List Int} (hc : ByC code) (seed : Int) : M.TC (laws_roll code seed) (fun d => d.b = code ∧ d.i = 0 ∧ 0 ≤ d.h ∧ d.h ≤ 18446744073709551615) := by
  have hl := hc.len
  unfold laws_roll
  refine M.TC_bind (Mid := fun x => 0 ≤ x ∧ x ≤ 18446744073709551615) (M.TC_for (fun _ x => 0 ≤ x ∧ x ≤ 18446744073709551615) _ (by omega) (by omega) (u64_wrap _) (fun i x h1 h2 _ => ?_) (fun _ _ _ h => h)) fun x hx => M.TC_ret ⟨rfl, rfl, hx⟩
  exact M.TC_bind (Mid := fun _ => True) (M.TC_idx h1 (by omega) fun _ _ => trivial) fun _ _ => M.TC_ret (.inl ⟨_, rfl, u64_wrap _⟩)
theorem and_le (x : Int) : 0 ≤ ibit .and .u64 x 16777215 ∧ ibit .and .u64 x 16777215 ≤ 16777215 := by
  unfold ibit
  simp only
  have h1 : (BitVec.ofInt IntKind.u64.bits x &&& BitVec.ofInt IntKind.u64.bits 16777215).toNat ≤ 16777215 := by
    rw [BitVec.toNat_and]
    refine Nat.le_trans Nat.and_le_right ?_
    show (BitVec.ofInt 64 16777215).toNat ≤ 16777215
    decide
  rw [u64_eq]
  omega
theorem below_dice {code : List Int} (hc : ByC code) {d : TDice} (hd : d.b = code) (h0 : d.i = 0) {n : Int} (hn : 0 < n) : M.TC (laws_dice_below d n) (fun r => 0 ≤ r.1 ∧ r.1 < n) := by
  have hl := hc.len
  unfold laws_dice_below
  have ha := and_le (ishr .u64 (IntKind.u64.wrap ((IntKind.u64.wrap (d.h * 6364136223846793005)) + 1442695040888963407)) 33)
  generalize ibit .and .u64 (ishr .u64 (IntKind.u64.wrap ((IntKind.u64.wrap (d.h * 6364136223846793005)) + 1442695040888963407)) 33) 16777215 = z at ha ⊢
  rw [hd, h0]
  refine M.TC_bindC (M.Conv_guard (by decide)) (M.TC_bind (Mid := fun (r : Int × Int) => 0 ≤ r.1) (M.TC_ite (fun t => ?_) (fun _ => M.TC_ret ?_)) fun r hr => M.TC_bindC (M.Conv_guard (by simp; omega)) (M.TC_ret (tmod_in hr hn)))
  · refine M.TC_bind (Mid := fun x => 0 ≤ x ∧ x ≤ 255) (M.TC_idx (by omega) (by simpa using t) fun x hx => hc.byte x (List.mem_of_getElem? hx)) fun x hx => M.TC_ret ?_
    simp only
    rw [w64_eq z (by omega), w64_eq x (by omega), w64_eq _ (by omega)]; omega
  · simp only
    rw [w64_eq z (by omega)]; exact ha.1
theorem DrawAddPolynomials_ok {code : List Int} (hc : ByC code) : M.TC (spec_DrawAddPolynomials code) (fun r => PolS r.1 ∧ PolS r.2) := by
  unfold spec_DrawAddPolynomials
  exact M.TC_bind (from_ok hc) fun x hx => M.TC_bind (drawTwo_ok hc hx) fun y hy => M.TC_ret ⟨hy.1, hy.2.1⟩
theorem DrawEvaluatePolynomial_ok {code : List Int} (hc : ByC code) : M.TC (spec_DrawEvaluatePolynomial code) (fun r => PolS r.1 ∧ inI64 r.2) := by
  unfold spec_DrawEvaluatePolynomial
  exact M.TC_bind (from_ok hc) fun x hx => by
    rw [hx.code_]
    exact M.TC_bind (draw9_ok hc hx) fun y hy => M.TC_bind (value_ok hc (hy.2.2.2.mk' rfl)) fun z hz => M.TC_ret ⟨⟨hy.1, hy.2.1, hy.2.2.1⟩, hz.2⟩
theorem mul_bad {c d : List Int} (hc : c.length ≤ 9223372036854775807) (hd : d.length ≤ 9223372036854775807) (h : (polyB c && polyB d) = false) : M.Conv (impl_MultiplyPolynomials c d) ([], 1) := by
  unfold impl_MultiplyPolynomials
  refine M.Conv_bind (impl_IsPolynomial_ok hc) (M.Conv_bind (x := true) ((Conv_or (v := !(polyB d)) fun _ => M.Conv_bind (impl_IsPolynomial_ok hd) (M.Conv_ret _)).of ?_) (M.Conv_ite (fun _ => M.Conv_ret _) (fun t => by cases t)))
  rw [← Bool.not_and, h]; rfl
theorem poly_add {c d : List Int} (hc : polyB c = true) (hd : polyB d = true) : polyB ((List.range (max c.length d.length)).map (addA c d)) = true := by
  obtain ⟨c1, c2, c3⟩ := polyB_len hc
  obtain ⟨d1, d2, d3⟩ := polyB_len hd
  have hl : ((List.range (max c.length d.length)).map (addA c d)).length = max c.length d.length := by simp
  have hall : ((List.range (max c.length d.length)).map (addA c d)).all valB = true := by
    rw [List.all_eq_true]
    intro x hx
    obtain ⟨i, hi, rfl⟩ := List.mem_iff_getElem.1 hx
    have e := co_add c2 d2 i
    have e2 : co ((List.range (max c.length d.length)).map (addA c d)) i = ((List.range (max c.length d.length)).map (addA c d))[i] := by unfold co; rw [List.getElem?_eq_getElem hi]; rfl
    rw [← e2, e]
    have vc := co_val c2 i
    have vd := co_val d2 i
    simp only [valB, finB, Bool.or_eq_true, beq_iff_eq, Bool.and_eq_true, decide_eq_true_eq]
    omega
  obtain ⟨i, hi⟩ := poly_some c3
  have e := co_add c2 d2 i
  have vc := co_val c2 i
  have hne : co ((List.range (max c.length d.length)).map (addA c d)) i ≠ -1000000000000000 := by omega
  have hany : ((List.range (max c.length d.length)).map (addA c d)).any (· != (-1000000000000000)) = true := by
    rw [List.any_eq_true]
    exact ⟨_, List.mem_of_getElem? (co_get (co_lt hne)), by simpa using hne⟩
  unfold polyB
  rw [hall, hany, hl, decide_eq_true (by omega)]; rfl
theorem FnPolynomialValues_ok (code : List Int) (h : fitL inU8 code) : M.Conv (laws_FnPolynomialValues code) true := by
  apply M.TC.conv
  unfold laws_FnPolynomialValues
  refine M.TC_bindC (big_ok code) (M.TC_ite (fun _ => M.TC_ret rfl) (fun hb => ?_))
  have hbc := ByC.of h hb
  refine M.TC_bind (DrawAddPolynomials_ok hbc) fun r hr => ?_
  obtain ⟨c, d⟩ := r
  obtain ⟨hc, hd⟩ := hr
  simp only at hc hd ⊢
  have hcl : c.length ≤ 9223372036854775807 := by have := hc.len; omega
  have hdl : d.length ≤ 9223372036854775807 := by have := hd.len; omega
  obtain ⟨w1, p1, q1, s1, g1⟩ := add_Two c hc.vec.fit d hd.vec.fit hc.vec.sm hd.vec.sm
  obtain ⟨w2, p2, q2, s2⟩ := same_MultiplyPolynomials c hc.vec.fit d hd.vec.fit hc.vec.sm hd.vec.sm
  refine M.TC_bindC q1 (M.TC_bindC p1 (M.TC_bindC q2 (M.TC_bindC p2 (M.TC_bind (DrawEvaluatePolynomial_ok hbc) fun e he => ?_))))
  obtain ⟨w3, p3, q3, _⟩ := same_EvaluatePolynomial e.1 he.1.vec.fit e.2 he.2 he.1.vec.sm
  refine M.TC_bindC q3 (M.TC_bindC p3 (M.TC_bindC (cmp_list0 s1) (M.TC_bindC (cmp_list s2 _ rfl) (M.TC_bindC (x := false) (M.Conv_ite (fun t => by simp at t) (fun _ => M.Conv_bind (impl_IsPolynomial_ok hcl) (M.Conv_bind (spec_IsPolynomial_ok hcl) ((M.Conv_ret _).of (by simp))))) (M.TC_ite (fun t => by cases t) (fun _ => M.TC_ite (fun _ => M.TC_ret rfl) (fun t => ?_)))))))
  have t1 : w1.2 = 0 ∧ w2.2 = 0 := by simpa using t
  obtain ⟨t1, t2⟩ := t1
  have hp : polyB c = true ∧ polyB d = true := by
    cases hp : (polyB c && polyB d) with
    | true => simpa using hp
    | false => rw [q2.unique (mul_bad hcl hdl hp)] at t2; cases t2
  obtain ⟨pc, pd⟩ := hp
  obtain ⟨_, c2, _⟩ := polyB_len pc
  obtain ⟨_, d2, _⟩ := polyB_len pd
  have hprod : polyB w2.1 = true ∧ IsProd c d w2.1 := by
    obtain ⟨w, k1, k2⟩ := mul_tc pc pd
    rw [← q2.unique k1] at k2
    rcases k2 with ⟨_, a, b⟩ | k2
    · exact ⟨a, b⟩
    · omega
  refine M.TC_bind (roll_ok hbc 901) fun x hx => M.TC_bind (below_dice hbc hx.1 hx.2.1 (n := 41) (by omega)) fun u hu => ?_
  have hat : -20 ≤ w64 (u.1 - 20) ∧ w64 (u.1 - 20) ≤ 20 := by rw [w64_eq _ (by omega)]; omega
  generalize w64 (u.1 - 20) = x at hat ⊢
  obtain ⟨a, ea, ka⟩ := ev_ok pc hat
  obtain ⟨b, eb, kb⟩ := ev_ok pd hat
  obtain ⟨y, ey, ky⟩ := ev_ok (poly_add pc pd) hat
  obtain ⟨z, ez, kz⟩ := ev_ok hprod.1 hat
  have hy := ey.unique (ev_add c2 d2 ea eb)
  have hz := ez.unique (ev_mul c2 d2 hprod.2 ea eb)
  subst hy hz
  rw [g1 t1]
  refine M.TC_bindC ka (M.TC_bindC kb (M.TC_bindC ky (M.TC_bindC kz ?_)))
  cases va : valB a with
  | false => exact M.TC_ite (fun _ => M.TC_ret (by simp)) (fun t => by simp at t)
  | true =>
    cases vb : valB b with
    | false => exact M.TC_ite (fun _ => M.TC_ret (by simp)) (fun t => by simp at t)
    | true =>
      have vm : valB (max a b) = true := by
        by_cases e : b ≤ a
        · rw [show max a b = a by omega]; exact va
        · rw [show max a b = b by omega]; exact vb
      rw [vm]
      refine M.TC_ite (fun t => by simp at t) (fun _ => M.TC_ret ?_)
      have ba := val_cases va
      have bb := val_cases vb
      cases vs : valB (a + b) with
      | false => simp [mx_eq]
      | true => simp [mx_eq]; exact (w64_eq _ (by omega)).symm

structure DotP (u v : Nat → Int) (n : Nat) (s : Int) : Prop where
  up : ∀ j, j < n → u j ≠ -1000000000000000 → v j ≠ -1000000000000000 → u j + v j ≤ s
  on : s = -1000000000000000 ∨ ∃ j, j < n ∧ u j ≠ -1000000000000000 ∧ v j ≠ -1000000000000000 ∧ s = u j + v j
def Bd (B : Int) (x : Int) : Prop := x = -1000000000000000 ∨ (-B ≤ x ∧ x ≤ B)
theorem DotP.unique {u v : Nat → Int} {n : Nat} {s t : Int} (hu : ∀ j, j < n → Bd 2000000 (u j)) (hv : ∀ j, j < n → Bd 2000000 (v j)) (h : DotP u v n s) (g : DotP u v n t) : s = t := by
  have key : ∀ {s t : Int}, DotP u v n s → DotP u v n t → t ≤ s := fun {s t} h g => by
    rcases g.on with e | ⟨j, hj, h1, h2, e⟩
    · rcases h.on with e' | ⟨j, hj, h1, h2, e'⟩
      · omega
      · have b1 := hu j hj
        have b2 := hv j hj
        unfold Bd at b1 b2
        omega
    · have := h.up j hj h1 h2
      omega
  have := key h g
  have := key g h
  omega
theorem DotP.congr {u v u' v' : Nat → Int} {n : Nat} {s : Int} (h : DotP u v n s) (hu : ∀ j, j < n → u j = u' j) (hv : ∀ j, j < n → v j = v' j) : DotP u' v' n s := by
  refine ⟨fun j hj h1 h2 => ?_, ?_⟩
  · rw [← hu j hj] at h1 ⊢
    rw [← hv j hj] at h2 ⊢
    exact h.up j hj h1 h2
  · rcases h.on with e | ⟨j, hj, h1, h2, e⟩
    · exact .inl e
    · rw [hu j hj] at h1 e
      rw [hv j hj] at h2 e
      exact .inr ⟨j, hj, h1, h2, e⟩
end Go.Proofs.Ytniaobcahkjfjaa
