/-
  Plain proofs: the plain program of the law ends with true.
  Conditions: None beyond the given statement.
-/
import Derived.Test.YtipdgiljgbjjkaaP
namespace Go.Proofs.Ytipdgiljgbjjkaa
open Go
/-! ### plain programs: loops over a list -/
namespace M
variable {α β σ ρ : Type}
/-- rounds over the elements of a list, each with its place; a round may leave -/
def run (g : Nat → α → σ → σ ⊕ ρ) (fin : σ → ρ) : Nat → List α → σ → ρ
  | _, [], s => fin s
  | i, x :: xs, s => match g i x s with
    | .inl s' => run g fin (i + 1) xs s'
    | .inr r => r
theorem Conv_forN {l : List α} {f : Int → σ → M (σ ⊕ ρ)} (g : Nat → α → σ → σ ⊕ ρ) (fin : σ → ρ) (I : Nat → σ → Prop) (hi : Int) :
    ∀ (xs : List α) (i : Nat) (s : σ), hi = (i + xs.length : Nat) → I i s → (∀ (j : Nat) x s, xs[j]? = some x → I (i + j) s → Conv (f (i + j : Nat) s) (g (i + j) x s) ∧ ∀ s', g (i + j) x s = .inl s' → I (i + j + 1) s') →
      ∃ N, ∀ n, N ≤ n → forN hi fin f n xs.length i s = some (run g fin i xs s)
  | [], i, s, hh, _, _ => ⟨0, fun n _ => by
      have : ¬ (i : Int) < hi := by rw [hh]; simp
      simp [forN, run, this]⟩
  | x :: xs, i, s, hh, h0, H => by
    have hlt : (i : Int) < hi := by rw [hh]; simp; omega
    obtain ⟨⟨N, hN⟩, hI⟩ := H 0 x s rfl h0
    simp only [Nat.add_zero] at hN hI
    cases hg : g i x s with
    | inl s' =>
      have hi' := hI s' hg
      obtain ⟨N', hN'⟩ := Conv_forN (l := l) g fin I hi xs (i + 1) s' (by rw [hh, List.length_cons]; congr 1; omega) hi' (fun j y s hy hIs => by
        have := H (j + 1) y s (by simpa using hy) (by rw [← Nat.add_assoc, Nat.add_right_comm]; exact hIs)
        rw [show i + (j + 1) = i + 1 + j by omega] at this
        exact this)
      refine ⟨max N N', fun n hn => ?_⟩
      have h1 := hN n (by omega)
      rw [hg] at h1
      simp only [List.length_cons, forN, hlt, decide_true, cond_true, h1, run, hg]
      have := hN' n (by omega)
      simpa using this
    | inr r =>
      refine ⟨N, fun n hn => ?_⟩
      have h1 := hN n hn
      rw [hg] at h1
      simp only [List.length_cons, forN, hlt, decide_true, cond_true, h1, run, hg]
/-- a loop over a list, with an invariant -/
theorem Conv_forI {l : List α} {f : Int → σ → M (σ ⊕ ρ)} {fin : σ → ρ} {s : σ} (g : Nat → α → σ → σ ⊕ ρ) (I : Nat → σ → Prop) (hl : l.length ≤ 9223372036854775807) (h0 : I 0 s)
    (H : ∀ (i : Nat) x s, l[i]? = some x → I i s → Conv (f i s) (g i x s) ∧ ∀ s', g i x s = .inl s' → I (i + 1) s') : Conv (forI 0 (l.length : Int) fin f s) (run g fin 0 l s) := by
  obtain ⟨N, hN⟩ := Conv_forN (l := l) (f := f) g fin I (l.length : Int) l 0 s (by simp) h0 (fun j x s hx hI => by simpa using H j x s hx (by simpa using hI))
  refine ⟨N, fun n hn => ?_⟩
  have h1 : (l.length : Int) ≤ 9223372036854775807 := by omega
  simp only [forI, h1, decide_true, Bool.and_true, show (-9223372036854775808 : Int) ≤ 0 by decide, cond_true]
  have := hN n hn
  simpa using this
/-- .. without one -/
theorem Conv_forL {l : List α} {f : Int → σ → M (σ ⊕ ρ)} {fin : σ → ρ} {s : σ} (g : Nat → α → σ → σ ⊕ ρ) (hl : l.length ≤ 9223372036854775807)
    (H : ∀ (i : Nat) x s, l[i]? = some x → Conv (f i s) (g i x s)) : Conv (forI 0 (l.length : Int) fin f s) (run g fin 0 l s) :=
  Conv_forI g (fun _ _ => True) hl trivial fun i x s hx _ => ⟨H i x s hx, fun _ _ => trivial⟩
theorem Conv.of {m : M α} {r r' : α} (h : Conv m r) (e : r = r') : Conv m r' := e ▸ h
theorem Conv_ite {b : Bool} {x y : M α} {r : α} (h1 : b = true → Conv x r) (h2 : b = false → Conv y r) : Conv (ite b x y) r := by
  cases b
  · exact h2 rfl
  · exact h1 rfl
theorem Conv_ite2 {b : Bool} {x y : M α} {r s : α} (h1 : b = true → Conv x r) (h2 : b = false → Conv y s) : Conv (ite b x y) (bif b then r else s) := by
  cases b
  · exact h2 rfl
  · exact h1 rfl
theorem Conv_guard {b : Bool} (h : b = true) : Conv (guard b) () := ⟨0, fun _ _ => by simp [guard, h]⟩
theorem Conv_upd {l : List α} {i : Nat} {x : α} (h : i < l.length) : Conv (upd l i x) (l.set i x) := ⟨0, fun _ _ => by simp [upd, h]⟩
theorem Conv_get {l : List α} {i : Int} {x : α} (h0 : 0 ≤ i) (h : l[i.toNat]? = some x) : Conv (idx l i) x := ⟨0, fun _ _ => by simp [idx, h0, h]⟩
/-- a value told in both ways of a test, then the rest -/
theorem Conv_bite {b : Bool} {x y : M α} {f : α → M β} {u v : α} {r : β} (h1 : b = true → Conv x u) (h2 : b = false → Conv y v) (g : Conv (f (bif b then u else v)) r) : Conv (bind (ite b x y) f) r :=
  Conv_bind (Conv_ite2 h1 h2) g

/-! searches: a loop that leaves at the first element of a kind -/
theorem run_all (p : α → Bool) (u : Unit ⊕ ρ) : ∀ (i : Nat) (l : List α), run (ρ := Unit ⊕ ρ) (fun _ x _ => bif p x then .inl () else .inr u) (fun s => .inl s) i l () = bif l.all p then .inl () else u
  | _, [] => rfl
  | i, x :: xs => by
    simp only [run, List.all_cons]
    cases p x
    · rfl
    · simpa using run_all p u (i + 1) xs
/-- 'for .. if not p x, return v' -/
theorem Conv_all {l : List α} {f : Int → Unit → M (Unit ⊕ (Unit ⊕ ρ))} (p : α → Bool) (v : ρ) (hl : l.length ≤ 9223372036854775807) (H : ∀ (i : Nat) x, l[i]? = some x → Conv (f i ()) (bif p x then .inl () else .inr (.inr v))) :
    Conv (forI 0 (l.length : Int) (fun s => .inl s) f ()) (bif l.all p then .inl () else .inr v) :=
  (Conv_forL (fun _ x _ => bif p x then .inl () else .inr (.inr v)) hl fun i x _ hx => H i x hx).of (run_all p (.inr v) 0 l)
/-- the same, where the element's place matters to the test -/
theorem run_allI (p : Nat → α → Bool) (u : Unit ⊕ ρ) : ∀ (i : Nat) (l : List α), run (ρ := Unit ⊕ ρ) (fun j x _ => bif p j x then .inl () else .inr u) (fun s => .inl s) i l () = bif (l.zipIdx i).all (fun q => p q.2 q.1) then .inl () else u
  | _, [] => rfl
  | i, x :: xs => by
    simp only [run, List.zipIdx_cons, List.all_cons]
    cases p i x
    · rfl
    · simpa using run_allI p u (i + 1) xs
theorem Conv_allI {l : List α} {f : Int → Unit → M (Unit ⊕ (Unit ⊕ ρ))} (p : Nat → α → Bool) (v : ρ) (hl : l.length ≤ 9223372036854775807) (H : ∀ (i : Nat) x, l[i]? = some x → Conv (f i ()) (bif p i x then .inl () else .inr (.inr v))) :
    Conv (forI 0 (l.length : Int) (fun s => .inl s) f ()) (bif (l.zipIdx 0).all (fun q => p q.2 q.1) then .inl () else .inr v) :=
  (Conv_forL (fun j x _ => bif p j x then .inl () else .inr (.inr v)) hl fun i x _ hx => H i x hx).of (run_allI p (.inr v) 0 l)
/-- 'for i .. if p x, return i' -/
theorem run_find (p : α → Bool) : ∀ (i : Nat) (l : List α), run (σ := Unit) (ρ := Unit ⊕ Int) (fun j x _ => bif p x then .inr (.inr (j : Int)) else .inl ()) (fun s => .inl s) i l () = match l.findIdx? p with
    | some j => .inr ((i + j : Nat) : Int)
    | none => .inl ()
  | _, [] => rfl
  | i, x :: xs => by
    simp only [run, List.findIdx?_cons]
    cases hp : p x
    · simp only [cond_false, run_find p (i + 1) xs, Bool.false_eq_true, if_false]
      cases xs.findIdx? p with
      | none => rfl
      | some j => simp only [Option.map_some]; congr 2; omega
    · simp
theorem Conv_find {l : List α} {f : Int → Unit → M (Unit ⊕ (Unit ⊕ Int))} (p : α → Bool) (hl : l.length ≤ 9223372036854775807) (H : ∀ (i : Nat) x, l[i]? = some x → Conv (f i ()) (bif p x then .inr (.inr (i : Int)) else .inl ())) :
    Conv (forI 0 (l.length : Int) (fun s => .inl s) f ()) (match l.findIdx? p with | some j => .inr (j : Int) | none => .inl ()) :=
  (Conv_forL (fun j x _ => bif p x then .inr (.inr (j : Int)) else .inl ()) hl fun i x _ hx => H i x hx).of (by rw [run_find]; simp)
/-- sums: each round turns what has been gathered -/
theorem run_fold (g : σ → α → σ) : ∀ (i : Nat) (l : List α) (s : σ), run (fun _ x s => .inl (g s x)) (fun s => s) i l s = l.foldl g s
  | _, [], _ => rfl
  | i, x :: xs, s => by simpa [run] using run_fold g (i + 1) xs (g s x)
theorem Conv_fold {l : List α} {f : Int → σ → M (σ ⊕ σ)} {s : σ} (g : σ → α → σ) (hl : l.length ≤ 9223372036854775807) (H : ∀ (i : Nat) x s, l[i]? = some x → Conv (f i s) (.inl (g s x))) :
    Conv (forI 0 (l.length : Int) (fun s => s) f s) (l.foldl g s) :=
  (Conv_forL (fun _ x s => .inl (g s x)) hl fun i x s hx => H i x s hx).of (run_fold g 0 l s)
theorem get_set_append {l r : List α} {x y : α} : (l ++ y :: r).set l.length x = l ++ x :: r := by simp
/-- a loop that fills a list of the same length, element by element -/
theorem run_fill (g : Nat → α → β) (z : β) : ∀ (i : Nat) (l : List α) (d : List β), d.length = i →
    run (fun j x s => .inl (s.set j (g j x))) (fun s => s) i l (d ++ List.replicate l.length z) = d ++ (l.zipIdx i).map (fun q => g q.2 q.1)
  | _, [], d, _ => by simp [run]
  | i, x :: xs, d, hd => by
    subst hd
    simp only [run, List.length_cons, List.replicate_succ, get_set_append]
    have := run_fill g z (d.length + 1) xs (d ++ [g d.length x]) (by simp)
    simp only [List.append_assoc, List.singleton_append] at this
    rw [this]
    simp
theorem Conv_fill {l : List α} {f : Int → List β → M (List β ⊕ List β)} (g : Nat → α → β) (z : β) (hl : l.length ≤ 9223372036854775807)
    (H : ∀ (i : Nat) x s, l[i]? = some x → s.length = l.length → Conv (f i s) (.inl (s.set i (g i x)))) :
    Conv (forI 0 (l.length : Int) (fun s => s) f (List.replicate l.length z)) ((l.zipIdx 0).map (fun q => g q.2 q.1)) := by
  refine (Conv_forI (fun j x s => .inl (s.set j (g j x))) (fun _ s => s.length = l.length) hl (by simp) fun i x s hx hI => ⟨H i x s hx hI, fun s' e => ?_⟩).of ?_
  · cases e; simpa using hI
  · simpa using run_fill g z 0 l [] rfl
theorem zipIdx_map_fst {l : List α} {g : α → β} {i : Nat} : ((l.zipIdx i).map fun q => g q.1) = l.map g := by
  have h : List.map (g ∘ Prod.fst) (l.zipIdx i) = List.map g l := by rw [← List.map_map, List.zipIdx_map_fst]
  exact h
theorem findIdx_any {l : List α} {p : α → Bool} : (decide ((0:Int) ≤ match l.findIdx? p with | some j => (j : Int) | none => -1)) = l.any p := by
  cases h : l.findIdx? p with
  | none => rw [List.findIdx?_eq_none_iff] at h; simp; exact fun x hx => by simpa using h x hx
  | some j =>
    obtain ⟨hj, hp, _⟩ := List.findIdx?_eq_some_iff_getElem.1 h
    simp
    exact ⟨_, List.getElem_mem hj, hp⟩
end M
def finB (x : Int) : Bool := decide (-1000000 ≤ x) && decide (x ≤ 1000000)
def valB (x : Int) : Bool := x == (-1000000000000000) || finB x
theorem spec_l01In_ok (x lo hi : Int) : M.Conv (spec_l01In x lo hi) (decide (lo ≤ x) && decide (x ≤ hi)) := M.Conv_ret _
theorem spec_l01Finite_ok (x : Int) : M.Conv (spec_l01Finite x) (finB x) := M.Conv_bind (spec_l01In_ok _ _ _) (M.Conv_ret _)
theorem spec_IsValue_ok (x : Int) : M.Conv (spec_IsValue x) (valB x) := by
  unfold spec_IsValue
  refine M.Conv_bind (M.Conv_ite (r := valB x) (fun h => ?_) (fun h => ?_)) (M.Conv_ret _)
  · simp only [valB, h, Bool.true_or]; exact M.Conv_ret _
  · simp only [valB, h, Bool.false_or]; exact M.Conv_bind (spec_l01Finite_ok x) (M.Conv_ret _)
theorem spec_l01All_ok {l : List Int} (f : Bool) (hl : l.length ≤ 9223372036854775807) : M.Conv (spec_l01All l f) (l.all fun x => valB x && !(f && x == (-1000000000000000))) := by
  unfold spec_l01All
  refine M.Conv_bind (M.Conv_all (fun x => valB x && !(f && x == (-1000000000000000))) false hl fun i x hx => ?_) ?_
  · refine M.Conv_bind (M.Conv_get (by omega) (by simpa using hx)) (M.Conv_bind (spec_IsValue_ok x) ?_)
    refine M.Conv_bind (x := !(valB x && !(f && x == (-1000000000000000)))) (M.Conv_ite (fun h => ?_) (fun h => ?_)) ?_
    · simp at h; simp [h]; exact M.Conv_ret _
    · simp at h
      refine M.Conv_bind (x := (f && x == (-1000000000000000))) (M.Conv_ite (fun h => ?_) (fun h => ?_)) (by simp [h]; exact M.Conv_ret _)
      · simp [h]; exact M.Conv_bind (M.Conv_get (by omega) (by simpa using hx)) (M.Conv_ret _)
      · simp [h]; exact M.Conv_ret _
    · cases (valB x && !(f && x == (-1000000000000000))) <;> exact M.Conv_ret _
  · cases (l.all fun x => valB x && !(f && x == (-1000000000000000))) <;> exact M.Conv_ret _
theorem impl_within_ok (x lo hi : Int) : M.Conv (impl_within x lo hi) (decide (lo ≤ x) && decide (x ≤ hi)) := M.Conv_ret _
theorem impl_isFinite_ok (x : Int) : M.Conv (impl_isFinite x) (finB x) := M.Conv_bind (impl_within_ok _ _ _) (M.Conv_ret _)
theorem impl_IsValue_ok (x : Int) : M.Conv (impl_IsValue x) (valB x) := by
  unfold impl_IsValue
  refine M.Conv_bind (M.Conv_ite (r := valB x) (fun h => ?_) (fun h => ?_)) (M.Conv_ret _)
  · simp only [valB, h, Bool.true_or]; exact M.Conv_ret _
  · simp only [valB, h, Bool.false_or]; exact M.Conv_bind (impl_isFinite_ok x) (M.Conv_ret _)
/-- 'slices.ContainsFunc', behind 'slices.IndexFunc' -/
theorem contains_ok {α : Type} {l : List α} {f : Int → Unit → M (Unit ⊕ (Unit ⊕ Int))} (p : α → Bool) (hl : l.length ≤ 9223372036854775807) (H : ∀ (i : Nat) x, l[i]? = some x → M.Conv (f i ()) (bif p x then .inr (.inr (i : Int)) else .inl ())) :
    M.Conv (M.bind (M.bind (M.forI 0 (l.length : Int) (fun s => .inl s) f ()) (fun x1 => M.cont x1 (fun _ => M.ret (-1)) (fun r => M.ret r))) (fun x1 => M.ret (decide (0 ≤ x1)))) (l.any p) := by
  rw [← M.findIdx_any]
  refine M.Conv_bind (M.Conv_bind (M.Conv_find p hl H) ?_) (M.Conv_ret _)
  cases l.findIdx? p <;> exact M.Conv_ret _
theorem any_not {α : Type} {l : List α} {p : α → Bool} : (!l.any fun x => !p x) = l.all p := by
  induction l with
  | nil => rfl
  | cons x xs ih => simp only [List.any_cons, List.all_cons, Bool.not_or, Bool.not_not, ih]
theorem impl_areValues_ok {l : List Int} (hl : l.length ≤ 9223372036854775807) : M.Conv (impl_areValues l) (l.all valB) := by
  unfold impl_areValues slices_ContainsFunc_int_F_impl_areValues_1 slices_IndexFunc_int_F_impl_areValues_1
  refine M.Conv_bind (contains_ok (fun x => !valB x) hl fun i x hx => ?_) ((M.Conv_ret _).of any_not)
  refine M.Conv_bind (M.Conv_get (by omega) (by simpa using hx)) ?_
  refine M.Conv_bind (x := !valB x) (M.Conv_bind (impl_IsValue_ok x) (M.Conv_ret _)) ?_
  cases valB x <;> exact M.Conv_ret _
/-- the greatest of a list; Bottom if there is none -/
def maxL (l : List Int) : Int := l.foldl mx (-1000000000000000)
theorem impl_sumOf_ok {l : List Int} (hl : l.length ≤ 9223372036854775807) : M.Conv (impl_sumOf l) (maxL l) := by
  unfold impl_sumOf
  refine M.Conv_bind (M.Conv_fold mx hl fun i x s hx => ?_) (M.Conv_ret _)
  exact M.Conv_bind (M.Conv_get (by omega) (by simpa using hx)) (M.Conv_ret _)
theorem mx_eq (a b : Int) : mx a b = max a b := by unfold mx; split <;> omega
theorem foldl_mx_ge (l : List Int) (s : Int) : s ≤ l.foldl mx s := by
  induction l generalizing s with
  | nil => exact Int.le_refl _
  | cons x xs ih => exact Int.le_trans (by rw [mx_eq]; omega) (ih (mx s x))
theorem foldl_mx_mem {l : List Int} {s x : Int} (h : x ∈ l) : x ≤ l.foldl mx s := by
  induction l generalizing s with
  | nil => cases h
  | cons y ys ih =>
    rcases List.mem_cons.1 h with rfl | h
    · exact Int.le_trans (by rw [mx_eq]; omega) (foldl_mx_ge ys (mx s x))
    · exact ih h
theorem foldl_mx_in (l : List Int) (s : Int) : l.foldl mx s = s ∨ l.foldl mx s ∈ l := by
  induction l generalizing s with
  | nil => exact .inl rfl
  | cons y ys ih =>
    rcases ih (mx s y) with h | h
    · rw [List.foldl_cons, h, mx_eq]
      by_cases e : s ≤ y
      · right; rw [show max s y = y by omega]; exact List.mem_cons_self
      · left; omega
    · exact .inr (List.mem_cons_of_mem _ h)
theorem valB_ge {x : Int} (h : valB x = true) : -1000000000000000 ≤ x := by
  simp [valB, finB] at h; omega
theorem maxL_ne {l : List Int} (h : l.all valB = true) : (maxL l != (-1000000000000000)) = l.any (· != (-1000000000000000)) := by
  rw [List.all_eq_true] at h
  rw [Bool.eq_iff_iff, List.any_eq_true]
  constructor
  · intro hne
    rcases foldl_mx_in l (-1000000000000000) with e | e
    · simp [maxL, e] at hne
    · exact ⟨_, e, hne⟩
  · rintro ⟨x, hx, hne⟩
    have h1 := foldl_mx_mem (s := -1000000000000000) hx
    have h2 := valB_ge (h x hx)
    have hne : x ≠ -1000000000000000 := by simpa using hne
    have : maxL l ≠ -1000000000000000 := by unfold maxL; omega
    simpa using this
/-- a polynomial: up to twelve values, not all of them Bottom -/
def polyB (c : List Int) : Bool := decide (c.length ≤ 12) && c.all valB && c.any (· != (-1000000000000000))
theorem spec_IsPolynomial_ok {c : List Int} (hl : c.length ≤ 9223372036854775807) : M.Conv (spec_IsPolynomial c) (polyB c) := by
  unfold spec_IsPolynomial polyB
  refine M.Conv_bind (x := !(decide (c.length ≤ 12) && c.all valB)) (M.Conv_ite (fun h => ?_) (fun h => ?_)) ?_
  · have h := of_decide_eq_true h
    rw [decide_eq_false (by omega)]; exact M.Conv_ret _
  · have h := of_decide_eq_false h
    rw [decide_eq_true (by omega)]
    refine M.Conv_bind (spec_l01All_ok false hl) ((M.Conv_ret _).of ?_)
    simp
  · cases (decide (c.length ≤ 12) && c.all valB)
    · exact M.Conv_ret _
    · refine M.Conv_bind (M.Conv_all (fun x => x == (-1000000000000000)) true hl fun i x hx => ?_) ?_
      · refine M.Conv_bind (M.Conv_get (by omega) (by simpa using hx)) ?_
        simp only [bne]
        cases (x == (-1000000000000000)) <;> exact M.Conv_ret _
      · have : (c.all fun x => x == (-1000000000000000)) = !c.any (· != (-1000000000000000)) := by rw [← any_not]; rfl
        rw [this]
        cases c.any (· != (-1000000000000000)) <;> exact M.Conv_ret _
theorem impl_IsPolynomial_ok {c : List Int} (hl : c.length ≤ 9223372036854775807) : M.Conv (impl_IsPolynomial c) (polyB c) := by
  unfold impl_IsPolynomial polyB
  refine M.Conv_bind (impl_within_ok _ _ _) ?_
  by_cases h0 : c = []
  · subst h0; exact M.Conv_bind (x := false) (M.Conv_ret _) (M.Conv_bind (x := false) (M.Conv_ret _) (M.Conv_ret _))
  have hp : 0 < c.length := List.length_pos_iff.2 h0
  refine M.Conv_bind (x := decide (c.length ≤ 12) && c.all valB) (M.Conv_ite (fun h => ?_) (fun h => ?_)) ?_
  · simp at h
    rw [decide_eq_true (by omega)]; exact M.Conv_bind (impl_areValues_ok hl) ((M.Conv_ret _).of (by simp))
  · simp at h
    rw [decide_eq_false (by omega)]; exact M.Conv_ret _
  · refine M.Conv_bind (x := (decide (c.length ≤ 12) && c.all valB) && c.any (· != (-1000000000000000))) (M.Conv_ite (fun h => ?_) (fun h => ?_)) (M.Conv_ret _)
    · have h2 := (Bool.and_eq_true _ _ ▸ h).2
      rw [h]
      exact M.Conv_bind (impl_sumOf_ok hl) ((M.Conv_ret _).of (by rw [maxL_ne h2]; simp))
    · rw [h]; exact M.Conv_ret _
def smI (l : List Int) : Prop := l.length ≤ 1099511627776
theorem mul_bd {a b A B : Int} (ha : -A ≤ a ∧ a ≤ A) (hb : -B ≤ b ∧ b ≤ B) : -(A * B) ≤ a * b ∧ a * b ≤ A * B := by
  have h1 : a.natAbs ≤ A.natAbs := by omega
  have h2 : b.natAbs ≤ B.natAbs := by omega
  have h3 : (a * b).natAbs ≤ A.natAbs * B.natAbs := by rw [Int.natAbs_mul]; exact Nat.mul_le_mul h1 h2
  have hA : ((A.natAbs * B.natAbs : Nat) : Int) = A * B := by
    rw [Int.natCast_mul, Int.natAbs_of_nonneg (by omega), Int.natAbs_of_nonneg (by omega)]
  omega
theorem finB_bd {x : Int} (h : finB x = true) : -1000000 ≤ x ∧ x ≤ 1000000 := by simpa [finB] using h
theorem val_ne {x : Int} (h : valB x = true) (hn : (x == (-1000000000000000)) = false) : finB x = true := by simpa [valB, hn] using h
/-- a loop that takes elements off a list's end -/
theorem pop_loop {f : List Int → M (List Int ⊕ List Int)} (t : Int → Int → Bool) (G : List Int → Prop) (sub : ∀ x l, G (x :: l) → G l) (h1 : ∀ l, G l → l.length ≤ 1 → M.Conv (f l.reverse) (.inr l.reverse))
    (h2 : ∀ j i r, G (j :: i :: r) → M.Conv (f (j :: i :: r).reverse) (bif t j i then .inr (j :: i :: r).reverse else .inl (i :: r).reverse)) : ∀ rs, G rs → ∃ qs, G qs ∧ (∀ x ∈ qs, x ∈ rs) ∧ M.Conv (M.loop f rs.reverse) qs.reverse ∧ qs.length ≤ rs.length ∧
      (∀ (f' : List Int → M (List Int ⊕ List Int)), (∀ l, G l → l.length ≤ 1 → M.Conv (f' l.reverse) (.inr l.reverse)) → (∀ j i r, G (j :: i :: r) → M.Conv (f' (j :: i :: r).reverse) (bif t j i then .inr (j :: i :: r).reverse else .inl (i :: r).reverse)) → M.Conv (M.loop f' rs.reverse) qs.reverse) := by
  have stop : ∀ (f : List Int → M (List Int ⊕ List Int)) (s r : List Int), M.Conv (f s) (.inr r) → M.Conv (M.loop f s) r := by
    intro f s r ⟨N, h⟩
    refine ⟨max N 1, fun n hn => ?_⟩
    obtain ⟨m, rfl⟩ : ∃ m, n = m + 1 := ⟨n - 1, by omega⟩
    simp [M.loop, M.loopN, h (m + 1) (by omega)]
  have more : ∀ (f : List Int → M (List Int ⊕ List Int)) (s s' r : List Int), M.Conv (f s) (.inl s') → (∃ N m0, ∀ n, N ≤ n → ∀ m, m0 ≤ m → M.loopN f n m s' = some r) → (∃ N m0, ∀ n, N ≤ n → ∀ m, m0 ≤ m → M.loopN f n m s = some r) := by
    intro f s s' r ⟨N, h⟩ ⟨N', m0, h'⟩
    refine ⟨max N N', m0 + 1, fun n hn m hm => ?_⟩
    obtain ⟨m, rfl⟩ : ∃ q, m = q + 1 := ⟨m - 1, by omega⟩
    simp only [M.loopN, h n (by omega)]
    exact h' n (by omega) m (by omega)
  have one : ∀ (f : List Int → M (List Int ⊕ List Int)) (s r : List Int), M.Conv (f s) (.inr r) → (∃ N m0, ∀ n, N ≤ n → ∀ m, m0 ≤ m → M.loopN f n m s = some r) := by
    intro f s r ⟨N, h⟩
    refine ⟨N, 1, fun n hn m hm => ?_⟩
    obtain ⟨m, rfl⟩ : ∃ q, m = q + 1 := ⟨m - 1, by omega⟩
    simp [M.loopN, h n hn]
  have fin : ∀ (f : List Int → M (List Int ⊕ List Int)) (s r : List Int), (∃ N m0, ∀ n, N ≤ n → ∀ m, m0 ≤ m → M.loopN f n m s = some r) → M.Conv (M.loop f s) r := fun f s r ⟨N, m0, h⟩ => ⟨max N m0, fun n hn => h n (by omega) n (by omega)⟩
  suffices H : ∀ rs, G rs → ∃ qs, G qs ∧ (∀ x ∈ qs, x ∈ rs) ∧ qs.length ≤ rs.length ∧ (∀ (f' : List Int → M (List Int ⊕ List Int)), (∀ l, G l → l.length ≤ 1 → M.Conv (f' l.reverse) (.inr l.reverse)) → (∀ j i r, G (j :: i :: r) → M.Conv (f' (j :: i :: r).reverse) (bif t j i then .inr (j :: i :: r).reverse else .inl (i :: r).reverse)) →
      ∃ N m0, ∀ n, N ≤ n → ∀ m, m0 ≤ m → M.loopN f' n m rs.reverse = some qs.reverse) by
    intro rs hg
    obtain ⟨qs, a, b, c, d⟩ := H rs hg
    exact ⟨qs, a, b, fin _ _ _ (d f h1 h2), c, fun f' k1 k2 => fin _ _ _ (d f' k1 k2)⟩
  intro rs
  induction rs with
  | nil => exact fun hg => ⟨[], hg, fun _ h => h, Nat.le_refl _, fun f' k1 _ => one _ _ _ (k1 [] hg (by simp))⟩
  | cons j rs ih =>
    intro hg
    cases rs with
    | nil => exact ⟨[j], hg, fun _ h => h, Nat.le_refl _, fun f' k1 _ => one _ _ _ (k1 [j] hg (by simp))⟩
    | cons i r =>
      cases ht : t j i with
      | true => exact ⟨j :: i :: r, hg, fun _ h => h, Nat.le_refl _, fun f' _ k2 => one _ _ _ (by have := k2 j i r hg; rwa [ht] at this)⟩
      | false =>
        obtain ⟨qs, a, b, c, d⟩ := ih (sub _ _ hg)
        exact ⟨qs, a, fun x hx => List.mem_cons_of_mem _ (b x hx), Nat.le_succ_of_le c, fun f' k1 k2 => more _ _ _ _ (by have := k2 j i r hg; rwa [ht] at this) (d f' k1 k2)⟩
/-- an index below k, whose coefficient is finite -/
def termB (c : List Int) (k : Nat) (t : Int) : Prop := 0 ≤ t ∧ t < k ∧ ∃ x, c[t.toNat]? = some x ∧ finB x = true
theorem rev_last {j i : Int} {r : List Int} : (j :: i :: r).reverse[(j :: i :: r).reverse.length - 1]? = some j ∧ (j :: i :: r).reverse[(j :: i :: r).reverse.length - 2]? = some i := by
  constructor
  · simp
  · simp
theorem rev_init {j i : Int} {r : List Int} : ((j :: i :: r).reverse.drop 0).take ((j :: i :: r).reverse.length - 1) = (i :: r).reverse := by
  simp [List.take_append]
  exact List.take_of_length_le (by simp)
/-- what the loop's round reads -/
theorem reads2 {j i : Int} {r : List Int} (hlen : (j :: i :: r).length ≤ 12) : M.Conv (M.idx (j :: i :: r).reverse (w64 (((j :: i :: r).reverse.length : Int) - 2))) i ∧ M.Conv (M.idx (j :: i :: r).reverse (w64 (((j :: i :: r).reverse.length : Int) - 1))) j ∧
    M.Conv (M.sub (j :: i :: r).reverse 0 (w64 (((j :: i :: r).reverse.length : Int) - 1))) (i :: r).reverse := by
  have hl : (j :: i :: r).reverse.length = r.length + 2 := by simp
  simp only [List.length_cons] at hlen
  rw [w64_eq _ (by rw [hl]; omega), w64_eq _ (by rw [hl]; omega)]
  refine ⟨M.Conv_get (by rw [hl]; omega) ?_, M.Conv_get (by rw [hl]; omega) ?_, (M.Conv_sub (by omega) (by rw [hl]; omega) (by rw [hl]; omega)).of ?_⟩
  · have := (rev_last (j := j) (i := i) (r := r)).2
    rw [show (((j :: i :: r).reverse.length : Int) - 2).toNat = (j :: i :: r).reverse.length - 2 by omega]; exact this
  · have := (rev_last (j := j) (i := i) (r := r)).1
    rw [show (((j :: i :: r).reverse.length : Int) - 1).toNat = (j :: i :: r).reverse.length - 1 by omega]; exact this
  · rw [show (((j :: i :: r).reverse.length : Int) - 1).toNat - (0 : Int).toNat = (j :: i :: r).reverse.length - 1 by omega]; exact rev_init
/-- the rounds of the two programs, named -/
def popS (c : List Int) (i1 : Int) (s3 : List Int) : M (List Int ⊕ List Int) := M.ite (decide (1 < (s3.length : Int))) (M.bind (M.idx s3 (w64 ((s3.length : Int) - 2))) (fun x4 => M.bind (M.idx s3 (w64 ((s3.length : Int) - 1))) (fun x5 => M.bind (M.idx c x5) (fun x6 => M.bind (M.idx c x4) (fun x7 => M.bind (M.idx c i1) (fun x8 => M.bind (M.idx c x5) (fun x9 => M.ite (decide ((w64 ((w64 (x8 - x9)) * (w64 (x5 - x4)))) < (w64 ((w64 (x6 - x7)) * (w64 (i1 - x5)))))) (M.ret (.inr s3)) (M.bind (M.sub s3 0 (w64 ((s3.length : Int) - 1))) (fun x10 => M.ret (.inl x10)))))))))) (M.ret (.inr s3))
def popI (c : List Int) (i1 x2 : Int) (s3 : List Int) : M (List Int ⊕ List Int) := M.ite (decide (1 < (s3.length : Int))) (M.bind (M.idx s3 (w64 ((s3.length : Int) - 2))) (fun x4 => M.bind (M.idx s3 (w64 ((s3.length : Int) - 1))) (fun x5 => M.bind (M.idx c x5) (fun x6 => M.bind (M.idx c x4) (fun x7 => M.bind (M.idx c x4) (fun x8 => M.ite (decide ((w64 ((w64 (x2 - x8)) * (w64 (x5 - x4)))) < (w64 ((w64 (x6 - x7)) * (w64 (i1 - x4)))))) (M.ret (.inr s3)) (M.bind (M.sub s3 0 (w64 ((s3.length : Int) - 1))) (fun x9 => M.ret (.inl x9))))))))) (M.ret (.inr s3))
def hullS (c : List Int) (i1 : Int) (s1 : List Int) : M (List Int ⊕ List Int) := M.bind (M.bind (M.idx c i1) (fun x2 => M.ite (x2 == (-1000000000000000)) (M.ret s1) (M.bind (M.loop (popS c i1) s1) (fun x3 => M.bind (M.app x3 ([i1] : List Int)) (fun l1 => M.ret l1))))) (fun (s2 : (List Int)) => M.ret (.inl s2))
def hullI (c : List Int) (i1 : Int) (s1 : List Int) : M (List Int ⊕ List Int) := M.bind (M.bind (M.idx c i1) (fun x2 => M.ite (x2 == (-1000000000000000)) (M.ret s1) (M.bind (M.loop (popI c i1 x2) s1) (fun x3 => M.bind (M.app x3 ([i1] : List Int)) (fun l1 => M.ret l1))))) (fun (s2 : (List Int)) => M.ret (.inl s2))
theorem spec_l09Terms_eq (c : List Int) : spec_l09Terms c = M.bind (M.forI 0 (c.length : Int) (fun s => s) (hullS c) []) (fun x1 => M.ret x1) := rfl
theorem impl_essentialTerms_eq (c : List Int) : impl_essentialTerms c = M.bind (M.forI 0 (c.length : Int) (fun s => s) (hullI c) []) (fun x1 => M.ret x1) := rfl
def keepB (c : List Int) (k x j i : Int) : Bool := decide ((x - (c[j.toNat]?).getD 0) * (j - i) < ((c[j.toNat]?).getD 0 - (c[i.toNat]?).getD 0) * (k - j))
def GoodT (c : List Int) (k : Nat) (l : List Int) : Prop := l.length ≤ 12 ∧ (∀ t ∈ l, termB c k t) ∧ List.Pairwise (fun a b => b < a) l
theorem GoodT.reads {c : List Int} {k : Nat} {j i : Int} {r : List Int} (hk : k ≤ 12) (h : GoodT c k (j :: i :: r)) : ∃ cj ci, M.Conv (M.idx c j) cj ∧ M.Conv (M.idx c i) ci ∧ (-1000000 ≤ cj ∧ cj ≤ 1000000) ∧ (-1000000 ≤ ci ∧ ci ≤ 1000000) ∧ 0 ≤ i ∧ 0 ≤ j ∧ j < k ∧ i < k ∧ (c[j.toNat]?).getD 0 = cj ∧ (c[i.toNat]?).getD 0 = ci := by
  obtain ⟨_, hm, _⟩ := h
  obtain ⟨a1, a2, cj, a3, a4⟩ := hm j List.mem_cons_self
  obtain ⟨b1, b2, ci, b3, b4⟩ := hm i (List.mem_cons_of_mem _ List.mem_cons_self)
  exact ⟨cj, ci, M.Conv_get a1 a3, M.Conv_get b1 b3, finB_bd a4, finB_bd b4, b1, a1, a2, b2, by simp [a3], by simp [b3]⟩
theorem small_len {l : List Int} (hl : l.length ≤ 1) : decide (1 < (l.reverse.length : Int)) = false := decide_eq_false (by simp; omega)
theorem big_len (j i : Int) (r : List Int) : decide (1 < ((j :: i :: r).reverse.length : Int)) = true := decide_eq_true (by simp; omega)
theorem popS_ok {c : List Int} {k : Nat} {x j i : Int} {r : List Int} (hk : k ≤ 12) (hx : c[k]? = some x) (bx : -1000000 ≤ x ∧ x ≤ 1000000) (hg : GoodT c k (j :: i :: r)) :
    M.Conv (popS c k (j :: i :: r).reverse) (bif keepB c k x j i then .inr (j :: i :: r).reverse else .inl (i :: r).reverse) := by
  obtain ⟨cj, ci, r1, r2, b1, b2, i0, j0, j1, i1, e1, e2⟩ := hg.reads hk
  obtain ⟨q1, q2, q3⟩ := reads2 hg.1
  have hget : M.Conv (M.idx c (k : Int)) x := M.Conv_get (by omega) (by simpa using hx)
  refine M.Conv_ite (fun _ => ?_) (fun h => by rw [big_len] at h; cases h)
  refine M.Conv_bind q1 (M.Conv_bind q2 (M.Conv_bind r1 (M.Conv_bind r2 (M.Conv_bind hget (M.Conv_bind r1 ?_)))))
  have m1 := mul_bd (a := x - cj) (b := j - i) (A := 2000000) (B := 12) (by omega) (by omega)
  have m2 := mul_bd (a := cj - ci) (b := k - j) (A := 2000000) (B := 12) (by omega) (by omega)
  rw [w64_eq (x - cj) (by omega), w64_eq (j - i) (by omega), w64_eq (cj - ci) (by omega), w64_eq (k - j) (by omega), w64_eq _ (by omega), w64_eq _ (by omega)]
  have et : keepB c k x j i = decide ((x - cj) * (j - i) < (cj - ci) * (k - j)) := by simp only [keepB, e1, e2]
  rw [et]
  refine M.Conv_ite (fun h => ?_) (fun h => ?_)
  · rw [h]; exact M.Conv_ret _
  · rw [h]; exact M.Conv_bind q3 (M.Conv_ret _)
theorem popI_ok {c : List Int} {k : Nat} {x j i : Int} {r : List Int} (hk : k ≤ 12) (bx : -1000000 ≤ x ∧ x ≤ 1000000) (hg : GoodT c k (j :: i :: r)) :
    M.Conv (popI c k x (j :: i :: r).reverse) (bif keepB c k x j i then .inr (j :: i :: r).reverse else .inl (i :: r).reverse) := by
  obtain ⟨cj, ci, r1, r2, b1, b2, i0, j0, j1, i1, e1, e2⟩ := hg.reads hk
  obtain ⟨q1, q2, q3⟩ := reads2 hg.1
  refine M.Conv_ite (fun _ => ?_) (fun h => by rw [big_len] at h; cases h)
  refine M.Conv_bind q1 (M.Conv_bind q2 (M.Conv_bind r1 (M.Conv_bind r2 (M.Conv_bind r2 ?_))))
  have m1 := mul_bd (a := x - ci) (b := j - i) (A := 2000000) (B := 12) (by omega) (by omega)
  have m2 := mul_bd (a := cj - ci) (b := k - i) (A := 2000000) (B := 12) (by omega) (by omega)
  rw [w64_eq (x - ci) (by omega), w64_eq (j - i) (by omega), w64_eq (cj - ci) (by omega), w64_eq (k - i) (by omega), w64_eq _ (by omega), w64_eq _ (by omega)]
  have et : keepB c k x j i = decide ((x - ci) * (j - i) < (cj - ci) * (k - i)) := by
    simp only [keepB, e1, e2]
    congr 1
    rw [eq_iff_iff]
    have a1 : (x - ci) * (j - i) = (x - cj) * (j - i) + (cj - ci) * (j - i) := by rw [← Int.add_mul]; congr 1; omega
    have a2 : (cj - ci) * (k - i) = (cj - ci) * (k - j) + (cj - ci) * (j - i) := by rw [← Int.mul_add]; congr 1; omega
    omega
  rw [et]
  refine M.Conv_ite (fun h => ?_) (fun h => ?_)
  · rw [h]; exact M.Conv_ret _
  · rw [h]; exact M.Conv_bind q3 (M.Conv_ret _)
/-- the terms found among the first k coefficients, the last one first -/
def TermsT (c : List Int) (k : Nat) (rs : List Int) : Prop := rs.length ≤ k ∧ (∀ t ∈ rs, termB c k t) ∧ List.Pairwise (fun a b => b < a) rs ∧ ((c.take k).any (· != (-1000000000000000)) = true → rs ≠ [])
theorem hull_round {c : List Int} {k : Nat} {x : Int} {rs : List Int} (hc : c.length ≤ 12) (hv : ∀ x ∈ c, valB x = true) (hx : c[k]? = some x) (hG : TermsT c k rs) :
    ∃ rs', TermsT c (k + 1) rs' ∧ M.Conv (hullS c k rs.reverse) (.inl rs'.reverse) ∧ M.Conv (hullI c k rs.reverse) (.inl rs'.reverse) := by
  have hk := (List.getElem?_eq_some_iff.1 hx).1
  have hmem : x ∈ c := List.mem_of_getElem? hx
  have hget : M.Conv (M.idx c (k : Int)) x := M.Conv_get (by omega) (by simpa using hx)
  have htk : c.take (k + 1) = c.take k ++ [x] := by rw [List.take_add_one, hx]; rfl
  obtain ⟨g1, g2, g3, g4⟩ := hG
  have up : ∀ t, termB c k t → termB c (k + 1) t := fun t ⟨a, b, d⟩ => ⟨a, by omega, d⟩
  cases hb : (x == (-1000000000000000)) with
  | true =>
    refine ⟨rs, ⟨by omega, fun t ht => up t (g2 t ht), g3, fun h => g4 ?_⟩, ?_, ?_⟩
    · rw [htk, List.any_append] at h
      simpa [bne, hb] using h
    · exact M.Conv_bind (M.Conv_bind hget (M.Conv_ite (fun _ => M.Conv_ret _) (fun h => by rw [hb] at h; cases h))) (M.Conv_ret _)
    · exact M.Conv_bind (M.Conv_bind hget (M.Conv_ite (fun _ => M.Conv_ret _) (fun h => by rw [hb] at h; cases h))) (M.Conv_ret _)
  | false =>
    have hfx := val_ne (hv x hmem) hb
    have bx := finB_bd hfx
    have hG' : GoodT c k rs := ⟨by omega, g2, g3⟩
    have subG : ∀ x l, GoodT c k (x :: l) → GoodT c k l := fun x l ⟨a, b, d⟩ => ⟨by simp at a; omega, fun t ht => b t (List.mem_cons_of_mem _ ht), (List.pairwise_cons.1 d).2⟩
    obtain ⟨qs, q1, q2, q3, q4, q5⟩ := pop_loop (f := popS c k) (keepB c k x) (GoodT c k) subG (fun l _ hl => M.Conv_ite (fun h => by rw [small_len hl] at h; cases h) (fun _ => M.Conv_ret _)) (fun j i r hg => popS_ok (by omega) hx bx hg) rs hG'
    have q6 := q5 (popI c k x) (fun l _ hl => M.Conv_ite (fun h => by rw [small_len hl] at h; cases h) (fun _ => M.Conv_ret _)) (fun j i r hg => popI_ok (by omega) bx hg)
    have happ : M.Conv (M.app qs.reverse ([(k : Int)] : List Int)) ((k : Int) :: qs).reverse := (M.Conv_app (by simp; omega)).of (by simp)
    refine ⟨(k : Int) :: qs, ⟨by simp; omega, fun t ht => ?_, ?_, fun _ => by simp⟩, ?_, ?_⟩
    · rcases List.mem_cons.1 ht with rfl | ht
      · exact ⟨by omega, by omega, x, by simpa using hx, hfx⟩
      · exact up t (q1.2.1 t ht)
    · exact List.pairwise_cons.2 ⟨fun a ha => (q1.2.1 a ha).2.1, q1.2.2⟩
    · exact M.Conv_bind (M.Conv_bind hget (M.Conv_ite (fun h => by rw [hb] at h; cases h) (fun _ => M.Conv_bind q3 (M.Conv_bind happ (M.Conv_ret _))))) (M.Conv_ret _)
    · exact M.Conv_bind (M.Conv_bind hget (M.Conv_ite (fun h => by rw [hb] at h; cases h) (fun _ => M.Conv_bind q6 (M.Conv_bind happ (M.Conv_ret _))))) (M.Conv_ret _)
theorem hull_rounds {c : List Int} (hc : c.length ≤ 12) (hv : ∀ x ∈ c, valB x = true) : ∀ (d k : Nat) (rs : List Int), k + d = c.length → TermsT c k rs → ∃ rs', TermsT c c.length rs' ∧
    (∃ N, ∀ n, N ≤ n → M.forN (c.length : Int) (fun s => s) (hullS c) n d k rs.reverse = some rs'.reverse) ∧ (∃ N, ∀ n, N ≤ n → M.forN (c.length : Int) (fun s => s) (hullI c) n d k rs.reverse = some rs'.reverse)
  | 0, k, rs, hk, hG => by
    obtain rfl : k = c.length := by omega
    exact ⟨rs, hG, ⟨0, fun n _ => by simp [M.forN]⟩, ⟨0, fun n _ => by simp [M.forN]⟩⟩
  | d + 1, k, rs, hk, hG => by
    have hlt : k < c.length := by omega
    have hlt' : (k : Int) < (c.length : Int) := by omega
    obtain ⟨rs1, g1, ⟨N1, s1⟩, ⟨N2, s2⟩⟩ := hull_round hc hv (List.getElem?_eq_getElem hlt) hG
    obtain ⟨rs2, g2, ⟨N3, s3⟩, ⟨N4, s4⟩⟩ := hull_rounds hc hv d (k + 1) rs1 (by omega) g1
    refine ⟨rs2, g2, ⟨max N1 N3, fun n hn => ?_⟩, ⟨max N2 N4, fun n hn => ?_⟩⟩
    · simp only [M.forN, hlt', decide_true, cond_true, s1 n (by omega)]
      have := s3 n (by omega)
      simpa using this
    · simp only [M.forN, hlt', decide_true, cond_true, s2 n (by omega)]
      have := s4 n (by omega)
      simpa using this
/-- the essential terms: what both programs come to -/
theorem terms_ok {c : List Int} (hc : c.length ≤ 12) (hv : c.all valB = true) : ∃ h : List Int, M.Conv (spec_l09Terms c) h ∧ M.Conv (impl_essentialTerms c) h ∧ h.length ≤ c.length ∧ (∀ t ∈ h, termB c c.length t) ∧ (c.any (· != (-1000000000000000)) = true → h ≠ []) ∧ List.Pairwise (· < ·) h := by
  rw [List.all_eq_true] at hv
  obtain ⟨rs, ⟨g1, g2, g3, g4⟩, ⟨N1, s1⟩, ⟨N2, s2⟩⟩ := hull_rounds hc hv c.length 0 [] (by simp) ⟨by simp, by simp, List.Pairwise.nil, by simp⟩
  have hl : (c.length : Int) ≤ 9223372036854775807 := by omega
  refine ⟨rs.reverse, ?_, ?_, by simpa using g1, fun t ht => g2 t (by simpa using ht), fun h => by simpa using g4 (by simpa using h), ?_⟩
  · rw [spec_l09Terms_eq]
    refine M.Conv_bind ⟨N1, fun n hn => ?_⟩ (M.Conv_ret _)
    simp only [M.forI, hl, decide_true, Bool.and_true, show (-9223372036854775808 : Int) ≤ 0 by decide, cond_true]
    have := s1 n hn
    simpa using this
  · rw [impl_essentialTerms_eq]
    refine M.Conv_bind ⟨N2, fun n hn => ?_⟩ (M.Conv_ret _)
    simp only [M.forI, hl, decide_true, Bool.and_true, show (-9223372036854775808 : Int) ≤ 0 by decide, cond_true]
    have := s2 n hn
    simpa using this
  · rw [List.pairwise_reverse]; exact g3

/-- two programs, one answer -/
def Two {α : Type} (m m' : M α) (Post : α → Prop) : Prop := ∃ r, M.Conv m r ∧ M.Conv m' r ∧ Post r
theorem Two.mk {α : Type} {m m' : M α} {Post : α → Prop} {r : α} (h : M.Conv m r) (h' : M.Conv m' r) (p : Post r) : Two m m' Post := ⟨r, h, h', p⟩
theorem Two.ret {α : Type} {Post : α → Prop} (r : α) (p : Post r) : Two (M.ret r) (M.ret r) Post := ⟨r, M.Conv_ret _, M.Conv_ret _, p⟩
theorem Two.bind {α β : Type} {m m' : M α} {f f' : α → M β} {P : α → Prop} {Q : β → Prop} (h : Two m m' P) (g : ∀ x, P x → Two (f x) (f' x) Q) : Two (M.bind m f) (M.bind m' f') Q := by
  obtain ⟨x, h1, h2, p⟩ := h
  obtain ⟨r, g1, g2, q⟩ := g x p
  exact ⟨r, M.Conv_bind h1 g1, M.Conv_bind h2 g2, q⟩
theorem Two.bindC {α α' β : Type} {m : M α} {m' : M α'} {f : α → M β} {f' : α' → M β} {Q : β → Prop} {x : α} {x' : α'} (h : M.Conv m x) (h' : M.Conv m' x') (g : Two (f x) (f' x') Q) : Two (M.bind m f) (M.bind m' f') Q := by
  obtain ⟨r, g1, g2, q⟩ := g
  exact ⟨r, M.Conv_bind h g1, M.Conv_bind h' g2, q⟩
theorem Two.left {α β : Type} {m : M α} {m' : M β} {f : α → M β} {Q : β → Prop} {x : α} (h : M.Conv m x) (g : Two (f x) m' Q) : Two (M.bind m f) m' Q := by
  obtain ⟨r, g1, g2, q⟩ := g
  exact ⟨r, M.Conv_bind h g1, g2, q⟩
theorem Two.right {α β : Type} {m : M α} {m' : M β} {f : α → M β} {Q : β → Prop} {x : α} (h : M.Conv m x) (g : Two m' (f x) Q) : Two m' (M.bind m f) Q := by
  obtain ⟨r, g1, g2, q⟩ := g
  exact ⟨r, g1, M.Conv_bind h g2, q⟩
theorem Two.ite {α : Type} {b : Bool} {x y x' y' : M α} {Q : α → Prop} (h1 : b = true → Two x x' Q) (h2 : b = false → Two y y' Q) : Two (M.ite b x y) (M.ite b x' y') Q := by
  cases b
  · exact h2 rfl
  · exact h1 rfl
theorem Two.iteL {α : Type} {b : Bool} {x y m' : M α} {Q : α → Prop} (h1 : b = true → Two x m' Q) (h2 : b = false → Two y m' Q) : Two (M.ite b x y) m' Q := by
  cases b
  · exact h2 rfl
  · exact h1 rfl
theorem Two.iteR {α : Type} {b : Bool} {x y m' : M α} {Q : α → Prop} (h1 : b = true → Two m' x Q) (h2 : b = false → Two m' y Q) : Two m' (M.ite b x y) Q := by
  cases b
  · exact h2 rfl
  · exact h1 rfl
theorem Two.mono {α : Type} {m m' : M α} {P Q : α → Prop} (h : Two m m' P) (hp : ∀ r, P r → Q r) : Two m m' Q := let ⟨r, a, b, c⟩ := h; ⟨r, a, b, hp r c⟩
theorem two_forN {σ ρ : Type} {hi : Int} {fin : σ → ρ} {f f' : Int → σ → M (σ ⊕ ρ)} {Post : ρ → Prop} (I : Int → σ → Prop) (lo : Int)
    (round : ∀ i s, lo ≤ i → i < hi → I i s → Two (f i s) (f' i s) fun y => (∃ s', y = .inl s' ∧ I (i + 1) s') ∨ (∃ r, y = .inr r ∧ Post r)) :
    ∀ (d : Nat) (i : Int) (s : σ), (hi - i).toNat = d → lo ≤ i → (i ≤ hi ∨ i = lo) → I i s → (∀ i s, (i = hi ∨ i = lo ∧ hi ≤ lo) → I i s → Post (fin s)) → ∃ r, (∃ N, ∀ n, N ≤ n → M.forN hi fin f n d i s = some r) ∧ (∃ N, ∀ n, N ≤ n → M.forN hi fin f' n d i s = some r) ∧ Post r
  | 0, i, s, hd, h1, h2, hI, fi => by
    have hge : ¬ i < hi := by omega
    exact ⟨fin s, ⟨0, fun n _ => by simp [M.forN, hge]⟩, ⟨0, fun n _ => by simp [M.forN, hge]⟩, fi i s (by omega) hI⟩
  | d + 1, i, s, hd, h1, h2, hI, fi => by
    have hlt : i < hi := by omega
    obtain ⟨y, ⟨N, hy⟩, ⟨N', hy'⟩, hc⟩ := round i s h1 hlt hI
    rcases hc with ⟨s', rfl, hI'⟩ | ⟨r, rfl, hp⟩
    · obtain ⟨r, ⟨N1, h3⟩, ⟨N2, h4⟩, hp⟩ := two_forN (fin := fin) I lo round d (i + 1) s' (by omega) (by omega) (by omega) hI' fi
      exact ⟨r, ⟨max N N1, fun n hn => by simp [M.forN, hlt, hy n (by omega), h3 n (by omega)]⟩, ⟨max N' N2, fun n hn => by simp [M.forN, hlt, hy' n (by omega), h4 n (by omega)]⟩, hp⟩
    · exact ⟨r, ⟨N, fun n hn => by simp [M.forN, hlt, hy n hn]⟩, ⟨N', fun n hn => by simp [M.forN, hlt, hy' n hn]⟩, hp⟩
theorem Two.for {σ ρ : Type} {lo hi : Int} {fin : σ → ρ} {f f' : Int → σ → M (σ ⊕ ρ)} {s : σ} {Post : ρ → Prop} (I : Int → σ → Prop) (hlo : -9223372036854775808 ≤ lo) (hhi : hi ≤ 9223372036854775807) (h0 : I lo s)
    (round : ∀ i s, lo ≤ i → i < hi → I i s → Two (f i s) (f' i s) fun y => (∃ s', y = .inl s' ∧ I (i + 1) s') ∨ (∃ r, y = .inr r ∧ Post r)) (done : ∀ i s, (i = hi ∨ i = lo ∧ hi ≤ lo) → I i s → Post (fin s)) :
    Two (M.forI lo hi fin f s) (M.forI lo hi fin f' s) Post := by
  obtain ⟨r, ⟨N, h1⟩, ⟨N', h2⟩, hp⟩ := two_forN (fin := fin) I lo round _ lo s rfl (Int.le_refl _) (.inr rfl) h0 done
  exact ⟨r, ⟨N, fun n hn => by simp [M.forI, hlo, hhi, h1 n hn]⟩, ⟨N', fun n hn => by simp [M.forI, hlo, hhi, h2 n hn]⟩, hp⟩
theorem polyB_len {c : List Int} (h : polyB c = true) : c.length ≤ 12 ∧ c.all valB = true ∧ c.any (· != (-1000000000000000)) = true := by
  simp only [polyB, Bool.and_eq_true, decide_eq_true_eq] at h
  exact ⟨h.1.1, h.1.2, h.2⟩
def timesI (a b : Int) : Int := bif (a == (-1000000000000000)) || (b == (-1000000000000000)) then (-1000000000000000) else w64 (a + b)
theorem spec_l01Times_ok (a b : Int) : M.Conv (spec_l01Times a b) (timesI a b) := M.Conv_ite2 (fun _ => M.Conv_ret _) (fun _ => M.Conv_ret _)
theorem impl_times_ok (a b : Int) : M.Conv (impl_times a b) (timesI a b) := M.Conv_ite2 (fun _ => M.Conv_ret _) (fun _ => M.Conv_ret _)
theorem impl_checkedVector_ok {x : List Int} (hl : x.length ≤ 9223372036854775807) : M.Conv (impl_checkedVector x) (bif x.all valB then (x, 0) else ([], 3)) := by
  unfold impl_checkedVector
  refine M.Conv_bind (impl_areValues_ok hl) (M.Conv_ite (fun h => ?_) (fun h => ?_))
  · simp only [Bool.not_eq_true'] at h; rw [h]; exact M.Conv_ret _
  · simp only [Bool.not_eq_false'] at h; rw [h]; exact M.Conv_ret _
theorem Conv_fillN {β : Type} {n : Nat} {f : Int → List β → M (List β ⊕ List β)} (g : Nat → β) (z : β) (hl : n ≤ 9223372036854775807)
    (H : ∀ (i : Nat) (s : List β), i < n → s.length = n → M.Conv (f i s) (.inl (s.set i (g i)))) : M.Conv (M.forI 0 (n : Int) (fun s => s) f (List.replicate n z)) ((List.range n).map g) := by
  have h := M.Conv_fill (l := List.replicate n z) (f := f) (fun i _ => g i) z (by simpa using hl) (fun i x s hx hs => H i s (by simpa using (List.getElem?_eq_some_iff.1 hx).1) (by simpa using hs))
  simp only [List.length_replicate] at h
  refine h.of (List.ext_getElem? fun i => ?_)
  by_cases hi : i < n
  · simp [hi]
  · rw [List.getElem?_eq_none (by simp; omega), List.getElem?_eq_none (by simp; omega)]
def okTPlace (p : TPlace) : Prop := inI64 p.From ∧ inI64 p.To ∧ inI64 p.Delay ∧ inI64 p.Tokens
def okTGraph (g : TGraph) : Prop := inI64 g.Events ∧ fitL okTPlace g.Places
def smP (l : List TPlace) : Prop := l.length ≤ 1099511627
def smG (g : TGraph) : Prop := smP g.Places
def inB (x lo hi : Int) : Bool := decide (lo ≤ x) && decide (x ≤ hi)
def smII (a : List (List Int)) : Prop := a.length ≤ 1048576 ∧ ∀ r ∈ a, r.length ≤ 1048576
def widthN (a : List (List Int)) : Nat := (a.headD []).length
def matB (a : List (List Int)) : Bool := (decide (1 ≤ a.length) && decide (a.length ≤ 10)) && ((decide (1 ≤ widthN a) && decide (widthN a ≤ 10)) && a.all fun r => decide (r.length = widthN a) && r.all valB)
/-- a matrix of w columns -/
structure Mat (a : List (List Int)) (w : Nat) : Prop where
  rows : 1 ≤ a.length ∧ a.length ≤ 10
  cols : 1 ≤ w ∧ w ≤ 10
  row : ∀ r ∈ a, r.length = w ∧ ∀ x ∈ r, valB x = true
theorem matB_mat {a : List (List Int)} (h : matB a = true) : Mat a (widthN a) := by
  simp only [matB, Bool.and_eq_true, decide_eq_true_eq, List.all_eq_true] at h
  exact ⟨h.1, h.2.1, fun r hr => ⟨(h.2.2 r hr).1, (h.2.2 r hr).2⟩⟩
theorem Mat.head {a : List (List Int)} {w : Nat} (h : Mat a w) : ∃ r, a[0]? = some r ∧ r.length = w := by
  have := h.rows
  exact ⟨a[0], List.getElem?_eq_getElem (by omega), (h.row _ (List.getElem_mem (by omega))).1⟩
def foldI {α σ : Type} (g : Nat → α → σ → σ) : Nat → List α → σ → σ
  | _, [], s => s
  | i, x :: xs, s => foldI g (i + 1) xs (g i x s)
theorem val_cases {x : Int} (h : valB x = true) : x = -1000000000000000 ∨ (-1000000 ≤ x ∧ x ≤ 1000000) := by
  cases hb : (x == (-1000000000000000)) with
  | true => left; simpa using hb
  | false => right; exact finB_bd (val_ne h hb)
theorem Mat.get {a : List (List Int)} {w i : Nat} {row : List Int} (hm : Mat a w) (h : a[i]? = some row) {j : Nat} (hj : j < w) : M.Conv (M.idx row (j : Int)) ((row[j]?).getD 0) ∧ valB ((row[j]?).getD 0) = true := by
  obtain ⟨e1, e2⟩ := hm.row row (List.mem_of_getElem? h)
  rw [List.getElem?_eq_getElem (by omega)]
  exact ⟨M.Conv_get (by omega) (by simp [show j < row.length by omega]), e2 _ (List.getElem_mem _)⟩
theorem get_row {a : List (List Int)} {i : Nat} {row : List Int} (h : a[i]? = some row) : M.Conv (M.idx a (i : Int)) row := M.Conv_get (by omega) (by simpa using h)
def dotL (x row : List Int) : Int := foldI (fun j v s => mx s (timesI v ((x[j]?).getD 0))) 0 row (-1000000000000000)
theorem Conv_forV {σ : Type} {n : Nat} {f : Int → σ → M (σ ⊕ σ)} (val : Nat → σ) (hn : n ≤ 9223372036854775807) (h : ∀ i, i < n → M.Conv (f i (val i)) (.inl (val (i + 1)))) : M.Conv (M.forI 0 (n : Int) (fun s => s) f (val 0)) (val n) := by
  have := M.Conv_forI (l := List.range n) (f := f) (fin := fun s => s) (s := val 0) (ρ := σ) (fun i _ _ => .inl (val (i + 1))) (fun i s => s = val i) (by simpa using hn) rfl (fun i x s hx hs => by
    subst hs
    have hi := (List.getElem?_eq_some_iff.1 hx).1
    exact ⟨h i (by simpa using hi), fun s' e => by cases e; rfl⟩)
  simp only [List.length_range] at this
  refine this.of ?_
  have run : ∀ (m i : Nat), M.run (σ := σ) (ρ := σ) (fun i (_ : Nat) _ => .inl (val (i + 1))) (fun s => s) i (List.range m) (val i) = val (i + m) := by
    have g : ∀ (l : List Nat) (i : Nat), M.run (σ := σ) (ρ := σ) (fun i (_ : Nat) _ => .inl (val (i + 1))) (fun s => s) i l (val i) = val (i + l.length) := by
      intro l
      induction l with
      | nil => intro i; rfl
      | cons x xs ih => intro i; simp only [M.run, List.length_cons]; rw [ih (i + 1)]; congr 1; omega
    intro m i
    rw [g, List.length_range]
  simpa using run n 0
theorem spec_l02Bottom1_ok {n : Nat} (h : n ≤ 1099511627) : M.Conv (spec_l02Bottom 1 (n : Int)) [List.replicate n (-1000000000000000)] := by
  unfold spec_l02Bottom
  have inner : M.Conv (M.forI 0 (n : Int) (fun s => s) (fun _ => (fun (s2 : (List Int)) => M.bind (M.app s2 ([(-1000000000000000)] : List Int)) (fun l1 => M.ret (.inl l1)))) ([] : List Int)) (List.replicate n (-1000000000000000)) :=
    Conv_forV (fun i => List.replicate i (-1000000000000000)) (by omega) fun i hi => M.Conv_bind (M.Conv_app (by simp; omega)) ((M.Conv_ret _).of (by rw [List.replicate_succ']))
  refine M.Conv_bind (x := [List.replicate n (-1000000000000000)]) ?_ (M.Conv_ret _)
  have := Conv_forV (n := 1) (f := (fun _ => (fun (s1 : (List (List Int))) => M.bind (M.forI 0 (n : Int) (fun s => s) (fun _ => (fun (s2 : (List Int)) => M.bind (M.app s2 ([(-1000000000000000)] : List Int)) (fun l1 => M.ret (.inl l1)))) ([] : List Int)) (fun x2 => M.bind (M.app s1 [x2]) (fun l2 => M.ret (.inl l2))))))
    (fun i => List.replicate i (List.replicate n (-1000000000000000))) (by omega) (fun i hi => M.Conv_bind inner (M.Conv_bind (M.Conv_app (by simp; omega)) ((M.Conv_ret _).of (by rw [List.replicate_succ']))))
  exact this
/-- what has been gathered so far: at least the products of the pairs that have been looked at -/
def Prod2 (c d : List Int) (n : Nat) (i k : Nat) (s : List Int) : Prop := s.length = n ∧ ∀ (p q : Nat) x y z, c[p]? = some x → d[q]? = some y → (p < i ∨ p = i ∧ q < k) → s[p + q]? = some z → timesI x y ≤ z
theorem prod_round {c d : List Int} {n i k : Nat} {s : List Int} {x y : Int} (hx : c[i]? = some x) (hy : d[k]? = some y) (hn : n + 1 = c.length + d.length) (h : Prod2 c d n i k s) :
    ∃ z, s[i + k]? = some z ∧ Prod2 c d n i (k + 1) (s.set (i + k) (mx z (timesI x y))) := by
  have hi := (List.getElem?_eq_some_iff.1 hx).1
  have hk := (List.getElem?_eq_some_iff.1 hy).1
  obtain ⟨h1, h2⟩ := h
  have hlt : i + k < s.length := by omega
  refine ⟨s[i + k], List.getElem?_eq_getElem hlt, by simpa using h1, fun p q u v z hu hv hpq hz => ?_⟩
  by_cases e : i + k = p + q
  · rw [← e, List.getElem?_set_self hlt] at hz
    cases hz
    rw [mx_eq]
    by_cases e2 : p = i ∧ q = k
    · obtain ⟨rfl, rfl⟩ := e2
      rw [hx] at hu; rw [hy] at hv; cases hu; cases hv
      omega
    · have := h2 p q u v s[i + k] hu hv (by omega) (by rw [← e]; exact List.getElem?_eq_getElem hlt)
      omega
  · rw [List.getElem?_set_ne e] at hz
    exact h2 p q u v z hu hv (by omega) hz
theorem same_MultiplyPolynomials (c : List Int) (gc : fitL inI64 c) (d : List Int) (gd : fitL inI64 d) (_ : smI c) (_ : smI d) : Two (spec_MultiplyPolynomials c d) (impl_MultiplyPolynomials c d) (fun w => smI w.1) := by
  unfold spec_MultiplyPolynomials impl_MultiplyPolynomials
  refine Two.bindC (spec_IsPolynomial_ok gc.1) (impl_IsPolynomial_ok gc.1) ?_
  refine Two.bind (P := fun b => b = !(polyB c && polyB d)) (Two.ite (fun h => Two.ret _ ?_) (fun h => Two.bindC (spec_IsPolynomial_ok gd.1) (impl_IsPolynomial_ok gd.1) (Two.ret _ ?_))) ?_
  · simp at h; simp [h]
  · simp at h; simp [h]
  rintro _ rfl
  refine Two.ite (fun _ => Two.ret _ (by simp [smI])) (fun h => ?_)
  simp only [Bool.not_eq_false', Bool.and_eq_true] at h
  obtain ⟨c1, c2, c3⟩ := polyB_len h.1
  obtain ⟨d1, d2, d3⟩ := polyB_len h.2
  have c0 : 0 < c.length := by cases c with | nil => simp at c3 | cons _ _ => simp
  have d0 : 0 < d.length := by cases d with | nil => simp at d3 | cons _ _ => simp
  obtain ⟨n, hn⟩ : ∃ n, n + 1 = c.length + d.length := ⟨c.length + d.length - 1, by omega⟩
  have hw : w64 (w64 ((c.length : Int) + (d.length : Int)) - 1) = (n : Int) := by rw [w64_eq ((c.length : Int) + d.length) (by omega), w64_eq _ (by omega)]; omega
  rw [hw]
  let B : List Int := List.replicate n (-1000000000000000)
  have hB : B.length = n := by simp [B]
  -- both programs' rounds
  let FT : Int → List Int → M (List Int ⊕ List Int) := (fun i1 => (fun (s1 : (List Int)) => M.bind (M.forI 0 (d.length : Int) (fun s => s) (fun i2 => (fun (s2 : (List Int)) => M.bind (M.idx s2 (w64 (i1 + i2))) (fun x8 => M.bind (M.idx c i1) (fun x9 => M.bind (M.idx d i2) (fun x10 => M.bind (spec_l01Times x9 x10) (fun x11 => M.bind (M.idx s2 (w64 (i1 + i2))) (fun x12 => M.bind (M.upd s2 (w64 (i1 + i2)) (mx x8 x11)) (fun l1 => M.ret (.inl l1))))))))) s1) (fun x7 => M.ret (.inl x7))))
  let FI : Int → List Int → M (List Int ⊕ List Int) := (fun i2 => (fun (s2 : (List Int)) => M.bind (M.idx c i2) (fun x7 => M.bind (M.forI 0 (d.length : Int) (fun s => s) (fun i3 => (fun (s3 : (List Int)) => M.bind (M.idx d i3) (fun x9 => M.bind (M.idx s3 (w64 (i2 + i3))) (fun x10 => M.bind (impl_times x7 x9) (fun x11 => M.bind (M.idx s3 (w64 (i2 + i3))) (fun x12 => M.bind (M.upd s3 (w64 (i2 + i3)) (mx x10 x11)) (fun l3 => M.ret (.inl l3)))))))) s2) (fun x8 => M.ret (.inl x8)))))
  have key : Two (M.forI 0 (c.length : Int) (fun s => s) FT B) (M.forI 0 (c.length : Int) (fun s => s) FI B) (fun s => Prod2 c d n c.length 0 s) := by
    refine Two.for (fun i s => Prod2 c d n i.toNat 0 s) (by omega) (by omega) ⟨hB, fun p q x y z _ _ hpq => by simp at hpq⟩ (fun i s h0 h1 hs => ?_) (fun i s hi hs => ?_)
    · obtain ⟨j, rfl⟩ : ∃ j : Nat, i = j := ⟨i.toNat, by omega⟩
      simp only [Int.toNat_natCast] at hs
      have hj : j < c.length := by omega
      have hx : c[j]? = some c[j] := List.getElem?_eq_getElem hj
      have gx : M.Conv (M.idx c (j : Int)) c[j] := M.Conv_get (by omega) (by rw [Int.toNat_natCast]; exact hx)
      refine Two.right gx (Two.bind (P := fun s => Prod2 c d n (j + 1) 0 s) ?_ (fun s hs => Two.ret _ (.inl ⟨s, rfl, by rw [show ((j : Int) + 1).toNat = j + 1 by omega]; exact hs⟩)))
      refine Two.for (fun k s => Prod2 c d n j k.toNat s) (by omega) (by omega) hs (fun k s k0 k1 hs => ?_) (fun k s hk hs => ?_)
      · obtain ⟨l, rfl⟩ : ∃ l : Nat, k = l := ⟨k.toNat, by omega⟩
        simp only [Int.toNat_natCast] at hs
        have hl : l < d.length := by omega
        have hy : d[l]? = some d[l] := List.getElem?_eq_getElem hl
        have gy : M.Conv (M.idx d (l : Int)) d[l] := M.Conv_get (by omega) (by rw [Int.toNat_natCast]; exact hy)
        obtain ⟨z, hz, hp⟩ := prod_round hx hy hn hs
        have hzl := (List.getElem?_eq_some_iff.1 hz).1
        have ew : w64 ((j : Int) + (l : Int)) = ((j + l : Nat) : Int) := by rw [w64_eq _ (by omega)]; omega
        rw [ew]
        have gz : M.Conv (M.idx s ((j + l : Nat) : Int)) z := M.Conv_get (by omega) (by rw [Int.toNat_natCast]; exact hz)
        have hu : M.Conv (M.upd s ((j + l : Nat) : Int) (mx z (timesI c[j] d[l]))) (s.set (j + l) (mx z (timesI c[j] d[l]))) := M.Conv_upd hzl
        refine Two.mk (r := .inl (s.set (j + l) (mx z (timesI c[j] d[l])))) ?_ ?_ (.inl ⟨_, rfl, by rw [show ((l : Int) + 1).toNat = l + 1 by omega]; exact hp⟩)
        · exact M.Conv_bind gz (M.Conv_bind gx (M.Conv_bind gy (M.Conv_bind (spec_l01Times_ok _ _) (M.Conv_bind gz (M.Conv_bind hu (M.Conv_ret _))))))
        · exact M.Conv_bind gy (M.Conv_bind gz (M.Conv_bind (impl_times_ok _ _) (M.Conv_bind gz (M.Conv_bind hu (M.Conv_ret _)))))
      · rcases hk with rfl | ⟨rfl, hd⟩
        · simp only [Int.toNat_natCast] at hs
          refine ⟨hs.1, fun p q x y z hx hy hpq hz => hs.2 p q x y z hx hy ?_ hz⟩
          have := (List.getElem?_eq_some_iff.1 hy).1
          omega
        · omega
    · rcases hi with rfl | ⟨rfl, hd⟩
      · simpa using hs
      · omega
  obtain ⟨s, k1, k2, hs⟩ := key
  have hsl := hs.1
  -- some coefficient is no Bottom
  have some : s.any (· != (-1000000000000000)) = true := by
    rw [List.any_eq_true] at c3 d3
    obtain ⟨x, hx, hxn⟩ := c3
    obtain ⟨y, hy, hyn⟩ := d3
    obtain ⟨p, hp, ex⟩ := List.mem_iff_getElem.1 hx
    obtain ⟨q, hq, ey⟩ := List.mem_iff_getElem.1 hy
    have hpq : p + q < s.length := by omega
    rw [List.all_eq_true] at c2 d2
    have vx := val_cases (c2 x hx)
    have vy := val_cases (d2 y hy)
    have hxn' : x ≠ -1000000000000000 := by simpa using hxn
    have hyn' : y ≠ -1000000000000000 := by simpa using hyn
    have ht : timesI x y = x + y := by
      simp only [timesI]
      rw [show (x == (-1000000000000000)) = false by simpa using hxn', show (y == (-1000000000000000)) = false by simpa using hyn']
      exact w64_eq _ (by omega)
    have := hs.2 p q x y s[p + q] (by rw [← ex]; exact List.getElem?_eq_getElem hp) (by rw [← ey]; exact List.getElem?_eq_getElem hq) (by omega) (List.getElem?_eq_getElem hpq)
    rw [List.any_eq_true]
    refine ⟨s[p + q], List.getElem_mem hpq, ?_⟩
    have : s[p + q] ≠ -1000000000000000 := by omega
    simpa using this
  refine Two.left (spec_l02Bottom1_ok (by omega)) (Two.left (M.Conv_get (x := B) (by omega) rfl) (Two.left k1 (Two.left (spec_IsPolynomial_ok (by omega)) ?_)))
  refine Two.right (M.Conv_make (by omega) (by omega)) ?_
  rw [Int.toNat_natCast, List.length_replicate]
  by_cases h12 : 12 < n
  · have e : polyB s = false := by simp only [polyB]; rw [decide_eq_false (by omega)]; rfl
    rw [e]
    refine Two.iteR (fun _ => Two.iteL (fun _ => Two.ret _ (by simp [smI])) (fun q => by cases q)) (fun q => by have := of_decide_eq_false q; omega)
  · refine Two.iteR (fun q => by have := of_decide_eq_true q; omega) (fun _ => ?_)
    refine Two.right (x := B) ((Conv_fillN (fun _ => (-1000000000000000)) 0 (by omega) fun i s hi hs => ?_).of (by simp [B, List.map_const'])) ?_
    · exact M.Conv_bind (M.Conv_get (x := s[i]) (by omega) (by simp [show i < s.length by omega])) (M.Conv_bind (M.Conv_upd (by omega)) (M.Conv_ret _))
    refine Two.right k2 (Two.right (impl_checkedVector_ok (by omega)) ?_)
    have e : polyB s = s.all valB := by simp only [polyB, some, decide_eq_true (show s.length ≤ 12 by omega), Bool.true_and, Bool.and_true]
    rw [e]
    cases s.all valB with
    | false => exact Two.iteL (fun _ => Two.ret _ (by simp [smI])) (fun q => by cases q)
    | true => exact Two.iteL (fun q => by cases q) (fun _ => Two.ret _ (by simp only [smI]; omega))

def ConvL {σ ρ : Type} (f : σ → M (σ ⊕ ρ)) (s : σ) (r : ρ) : Prop := ∃ N m0, ∀ n, N ≤ n → ∀ m, m0 ≤ m → M.loopN f n m s = some r
theorem ConvL.conv {σ ρ : Type} {f : σ → M (σ ⊕ ρ)} {s : σ} {r : ρ} (h : ConvL f s r) : M.Conv (M.loop f s) r := by
  obtain ⟨N, m0, h⟩ := h
  exact ⟨max N m0, fun n hn => h n (by omega) n (by omega)⟩
theorem ConvL.step {σ ρ : Type} {f : σ → M (σ ⊕ ρ)} {s s' : σ} {r : ρ} (h1 : M.Conv (f s) (.inl s')) (h : ConvL f s' r) : ConvL f s r := by
  obtain ⟨N, h1⟩ := h1
  obtain ⟨N', m0, h⟩ := h
  refine ⟨max N N', m0 + 1, fun n hn m hm => ?_⟩
  obtain ⟨m, rfl⟩ : ∃ q, m = q + 1 := ⟨m - 1, by omega⟩
  simp only [M.loopN, h1 n (by omega)]
  exact h n (by omega) m (by omega)
theorem ConvL.stop {σ ρ : Type} {f : σ → M (σ ⊕ ρ)} {s : σ} {r : ρ} (h1 : M.Conv (f s) (.inr r)) : ConvL f s r := by
  obtain ⟨N, h1⟩ := h1
  refine ⟨N, 1, fun n hn m hm => ?_⟩
  obtain ⟨m, rfl⟩ : ∃ q, m = q + 1 := ⟨m - 1, by omega⟩
  simp only [M.loopN, h1 n hn]
theorem two_loopL {σ ρ : Type} {f f' : σ → M (σ ⊕ ρ)} {Post : ρ → Prop} (I : σ → Prop) (μ : σ → Nat) (round : ∀ s, I s → Two (f s) (f' s) fun y => (∃ s', y = .inl s' ∧ I s' ∧ μ s' < μ s) ∨ (∃ r, y = .inr r ∧ Post r)) :
    ∀ (d : Nat) (s : σ), μ s < d → I s → ∃ r, ConvL f s r ∧ ConvL f' s r ∧ Post r
  | 0, _, h, _ => by omega
  | d + 1, s, h, hI => by
    obtain ⟨y, h1, h2, hc⟩ := round s hI
    rcases hc with ⟨s', rfl, hI', hlt⟩ | ⟨r, rfl, hp⟩
    · obtain ⟨r, k1, k2, hp⟩ := two_loopL I μ round d s' (by omega) hI'
      exact ⟨r, k1.step h1, k2.step h2, hp⟩
    · exact ⟨r, ConvL.stop h1, ConvL.stop h2, hp⟩
def floI (a b : Int) : Int := bif decide ((a.tmod b) < 0) then w64 (w64 (a.tdiv b) - 1) else w64 (a.tdiv b)
theorem spec_l01Floor_ok {a b : Int} (hb : (b != 0) = true) : M.Conv (spec_l01Floor a b) (floI a b) :=
  M.Conv_bind (M.Conv_guard hb) (M.Conv_bind (M.Conv_guard hb) (M.Conv_bind (M.Conv_ite2 (fun _ => M.Conv_ret _) (fun _ => M.Conv_ret _)) (M.Conv_ret _)))
theorem impl_floorDiv_ok {a b : Int} (hb : (b != 0) = true) : M.Conv (impl_floorDiv a b) (floI a b) :=
  M.Conv_bind (M.Conv_guard hb) (M.Conv_bind (M.Conv_guard hb) (M.Conv_bind (M.Conv_ite2 (fun _ => M.Conv_ret _) (fun _ => M.Conv_ret _)) (M.Conv_ret _)))
theorem floI_mul {c k : Int} (hk : 0 < k) (hc : -1000000 ≤ c ∧ c ≤ 1000000) : floI (c * k) k = c := by
  unfold floI
  rw [Int.mul_tmod_left, Int.mul_tdiv_cancel c (by omega)]
  exact w64_eq _ (by omega)
theorem floI_in (a b : Int) : inI64 (floI a b) := by
  unfold floI
  cases decide (a.tmod b < 0)
  · exact w64_bd _
  · exact w64_bd _
theorem full_Two (c : List Int) (g : fitL inI64 c) (_ : smI c) : Two (spec_FullPolynomial c) (impl_FullPolynomial c) (fun w => smI w.1 ∧ (polyB c = true → w.1.length = c.length ∧ ∀ y ∈ w.1, inI64 y)) := by
  unfold spec_FullPolynomial impl_FullPolynomial
  refine Two.bindC (spec_IsPolynomial_ok g.1) (impl_IsPolynomial_ok g.1) (Two.ite (fun h => Two.ret _ ⟨by simp [smI], fun e => by rw [e] at h; cases h⟩) (fun h => ?_))
  obtain ⟨h1, h2, h3⟩ := polyB_len (by simpa using h)
  obtain ⟨t, k1, k2, tl, tt, tne, tpw⟩ := terms_ok h1 h2
  have tne := tne h3
  obtain ⟨t0, ts, rfl⟩ := List.exists_cons_of_ne_nil tne
  obtain ⟨p0, p1, x0, p2, p3⟩ := tt t0 List.mem_cons_self
  let B : List Int := List.replicate c.length (-1000000000000000)
  have hB : B.length = c.length := by simp [B]
  refine Two.bindC k1 k2 ?_
  refine Two.left (spec_l02Bottom1_ok (by omega)) (Two.left (M.Conv_get (x := B) (by omega) rfl) ?_)
  refine Two.right (M.Conv_make (by omega) (by omega)) ?_
  rw [Int.toNat_natCast, List.length_replicate]
  refine Two.right (x := B) ((Conv_fillN (fun _ => (-1000000000000000)) 0 (by omega) fun i s hi hs => ?_).of (by simp [B, List.map_const'])) ?_
  · exact M.Conv_bind (M.Conv_get (x := s[i]) (by omega) (by simp [show i < s.length by omega])) (M.Conv_bind (M.Conv_upd (by omega)) (M.Conv_ret _))
  have gt0 : M.Conv (M.idx (t0 :: ts) 0) t0 := M.Conv_get (by omega) rfl
  have gB : M.Conv (M.idx B t0) (-1000000000000000) := M.Conv_get p0 (by rw [show B = List.replicate c.length (-1000000000000000) from rfl, List.getElem?_replicate, if_pos (by omega)])
  have uB : M.Conv (M.upd B t0 x0) (B.set t0.toNat x0) := by
    obtain ⟨q, rfl⟩ : ∃ q : Nat, t0 = q := ⟨t0.toNat, by omega⟩
    exact M.Conv_upd (by omega)
  refine Two.bindC gt0 gt0 (Two.bindC gt0 gt0 (Two.bindC (M.Conv_get p0 p2) (M.Conv_get p0 p2) (Two.bindC gB gB (Two.bindC uB uB (Two.bind (P := fun s : List Int => s.length = c.length ∧ ∀ y ∈ s, inI64 y) ?_ (fun s hs => Two.ret _ ⟨by have := hs.1; simp only [smI]; omega, fun _ => hs⟩))))))
  -- from term to term
  have inB : ∀ y ∈ B, inI64 y := fun y hy => by have := List.eq_of_mem_replicate hy; subst this; simp [inI64]
  have inS : ∀ (s : List Int) (i : Nat) (v : Int), (∀ y ∈ s, inI64 y) → inI64 v → ∀ y ∈ s.set i v, inI64 y := fun s i v h hv y hy => by
    rcases List.mem_or_eq_of_mem_set hy with hy | hy
    · exact h y hy
    · subst hy; exact hv
  refine Two.for (fun m s => s.length = c.length ∧ (∀ y ∈ s, inI64 y) ∧ ∃ i x, (t0 :: ts)[(m - 1).toNat]? = some i ∧ c[i.toNat]? = some x ∧ s[i.toNat]? = some x) (by omega) (by omega)
    ⟨by simpa using hB, inS _ _ _ inB (by have := finB_bd p3; unfold inI64; omega), t0, x0, rfl, p2, by rw [List.getElem?_set_self (show t0.toNat < B.length by omega)]⟩ (fun m s m0 m1 hs => ?_) (fun m s _ hs => ⟨hs.1, hs.2.1⟩)
  obtain ⟨hsl, hsin, i, x, hi, hx, hsi⟩ := hs
  obtain ⟨q, rfl⟩ : ∃ q : Nat, m = (q : Int) + 1 := ⟨(m - 1).toNat, by omega⟩
  have e1 : ((q : Int) + 1 - 1).toNat = q := by omega
  rw [e1] at hi
  have hq : q + 1 < (t0 :: ts).length := by omega
  have hk : (t0 :: ts)[q + 1]? = some (t0 :: ts)[q + 1] := List.getElem?_eq_getElem hq
  generalize (t0 :: ts)[q + 1] = k at hk
  have hil := (List.getElem?_eq_some_iff.1 hi).1
  have hik : i < k := by
    have h5 := List.pairwise_iff_getElem.1 tpw q (q + 1) hil hq (by omega)
    have h6 : (t0 :: ts)[q] = i := by rw [List.getElem?_eq_getElem hil] at hi; exact Option.some.inj hi
    have h7 : (t0 :: ts)[q + 1] = k := by rw [List.getElem?_eq_getElem hq] at hk; exact Option.some.inj hk
    rw [h6, h7] at h5; exact h5
  obtain ⟨i0, i1, xi, i2, i3⟩ := tt i (List.mem_of_getElem? hi)
  obtain ⟨k0, k1', xk, k2', k3⟩ := tt k (List.mem_of_getElem? hk)
  rw [hx] at i2; cases i2
  have bi := finB_bd i3
  have bk := finB_bd k3
  have ga : M.Conv (M.idx (t0 :: ts) (w64 ((q : Int) + 1 - 1))) i := by
    rw [w64_eq _ (by omega)]
    exact M.Conv_get (by omega) (by rw [e1]; exact hi)
  have gb : M.Conv (M.idx (t0 :: ts) ((q : Int) + 1)) k := M.Conv_get (by omega) (by rw [show ((q : Int) + 1).toNat = q + 1 by omega]; exact hk)
  have gi : M.Conv (M.idx c i) x := M.Conv_get i0 hx
  have gk : M.Conv (M.idx c k) xk := M.Conv_get k0 k2'
  have hbk : (w64 (k - i) != 0) = true := by rw [w64_eq _ (by omega)]; simp; omega
  refine Two.bindC ga ga (Two.bindC gb gb ?_)
  let I : List Int × Int → Prop := fun s => s.1.length = c.length ∧ (∀ y ∈ s.1, inI64 y) ∧ i < s.2 ∧ s.2 ≤ k + 1 ∧ (s.2 = k + 1 → s.1[k.toNat]? = some xk)
  have hcl : (k : Int) < c.length := by omega
  -- one round, in both
  have valk : floI (w64 (w64 (x * w64 (k - k)) + w64 (xk * w64 (k - i)))) (w64 (k - i)) = xk := by
    have m2 := mul_bd (a := xk) (b := k - i) (A := 1000000) (B := 12) (by omega) (by omega)
    rw [w64_eq (k - k) (by omega), w64_eq (k - i) (by omega), show x * (k - k) = 0 by rw [Int.sub_self, Int.mul_zero], w64_eq 0 (by omega), w64_eq (xk * (k - i)) (by omega), Int.zero_add, w64_eq _ (by omega)]
    exact floI_mul (by omega) bk
  have main := two_loopL (f := fun (s2 : (List Int) × Int) => M.ite (decide (s2.2 ≤ k)) (M.bind (M.idx c i) (fun x13 => M.bind (M.idx c k) (fun x14 => M.bind (spec_l01Floor (w64 ((w64 (x13 * (w64 (k - s2.2)))) + (w64 (x14 * (w64 (s2.2 - i)))))) (w64 (k - i))) (fun x15 => M.bind (M.idx s2.1 s2.2) (fun x16 => M.bind (M.upd s2.1 s2.2 x15) (fun l2 => M.ret (.inl (l2, (w64 (s2.2 + 1)))))))))) (M.ret (.inr (s2.1, s2.2))))
    (f' := fun (s3 : (List Int) × Int) => M.ite (decide (s3.2 ≤ k)) (M.bind (M.idx c i) (fun x13 => M.bind (M.idx c k) (fun x14 => M.bind (impl_floorDiv (w64 ((w64 (x13 * (w64 (k - s3.2)))) + (w64 (x14 * (w64 (s3.2 - i)))))) (w64 (k - i))) (fun x15 => M.bind (M.idx s3.1 s3.2) (fun x16 => M.bind (M.upd s3.1 s3.2 x15) (fun l4 => M.ret (.inl (l4, (w64 (s3.2 + 1)))))))))) (M.ret (.inr (s3.1, s3.2))))
    (Post := fun r => r.1.length = c.length ∧ (∀ y ∈ r.1, inI64 y) ∧ r.1[k.toNat]? = some xk) I (fun s => (k + 1 - s.2).toNat) (fun s hs => by
      obtain ⟨l, n⟩ := s
      obtain ⟨a1, a0, a2, a3, a4⟩ := hs
      simp only at a1 a0 a2 a3 a4
      refine Two.ite (fun b => ?_) (fun b => Two.ret _ (.inr ⟨_, rfl, a1, a0, a4 (by have := of_decide_eq_false b; simp only at this; omega)⟩))
      have b := of_decide_eq_true b
      simp only at b
      have hnl : n.toNat < l.length := by omega
      have gn : M.Conv (M.idx l n) l[n.toNat] := M.Conv_get (by omega) (List.getElem?_eq_getElem hnl)
      have un : ∀ v, M.Conv (M.upd l n v) (l.set n.toNat v) := fun v => by
        have := M.Conv_upd (l := l) (i := n.toNat) (x := v) hnl
        rwa [show ((n.toNat : Nat) : Int) = n by omega] at this
      refine Two.bindC gi gi (Two.bindC gk gk (Two.bindC (spec_l01Floor_ok hbk) (impl_floorDiv_ok hbk) (Two.bindC gn gn (Two.bindC (un _) (un _) (Two.ret _ (.inl ⟨_, rfl, ⟨by simpa using a1, inS _ _ _ a0 (floI_in _ _), ?_, ?_, fun e => ?_⟩, ?_⟩)))))) 
      · simp only; rw [w64_eq _ (by omega)]; omega
      · simp only; rw [w64_eq _ (by omega)]; omega
      · simp only at e ⊢
        rw [w64_eq _ (by omega)] at e
        obtain rfl : n = k := by omega
        rw [valk, List.getElem?_set_self hnl]
      · simp only; rw [w64_eq _ (by omega)]; omega)
  obtain ⟨r, c1, c2, r1, r0, r2⟩ := main _ (s, i + 1) (Nat.lt_succ_self _) ⟨hsl, hsin, by simp only; omega, by simp only; omega, fun e => by simp only at e; omega⟩
  refine Two.mk (r := .inl r.1) (M.Conv_bind ?_ (M.Conv_ret _)) (M.Conv_bind ?_ (M.Conv_ret _)) (.inl ⟨_, rfl, r1, r0, k, xk, by rw [show ((q : Int) + 1 + 1 - 1).toNat = q + 1 by omega]; exact hk, k2', r2⟩)
  · rw [w64_eq (i + 1) (by omega)]
    exact c1.conv
  · -- the one round more changes nothing
    refine (ConvL.step (s' := (s, i + 1)) ?_ c2).conv
    have hnl : i.toNat < s.length := by omega
    have gn : M.Conv (M.idx s i) x := M.Conv_get i0 hsi
    have vali : floI (w64 (w64 (x * w64 (k - i)) + w64 (xk * w64 (i - i)))) (w64 (k - i)) = x := by
      have m2 := mul_bd (a := x) (b := k - i) (A := 1000000) (B := 12) (by omega) (by omega)
      rw [w64_eq (i - i) (by omega), w64_eq (k - i) (by omega), show xk * (i - i) = 0 by rw [Int.sub_self, Int.mul_zero], w64_eq 0 (by omega), w64_eq (x * (k - i)) (by omega), Int.add_zero, w64_eq _ (by omega)]
      exact floI_mul (by omega) bi
    have un : M.Conv (M.upd s i x) s := by
      have := M.Conv_upd (l := s) (i := i.toNat) (x := x) hnl
      rw [show ((i.toNat : Nat) : Int) = i by omega] at this
      refine this.of ?_
      refine List.ext_getElem? fun j => ?_
      by_cases e : i.toNat = j
      · subst e; rw [List.getElem?_set_self hnl, hsi]
      · rw [List.getElem?_set_ne e]
    refine M.Conv_ite (fun _ => M.Conv_bind gi (M.Conv_bind gk (M.Conv_bind (impl_floorDiv_ok hbk) (M.Conv_bind gn ?_)))) (fun b => by have := of_decide_eq_false b; simp only at this; omega)
    rw [vali]
    exact M.Conv_bind un ((M.Conv_ret _).of (by rw [w64_eq _ (by omega)]))
def gcdF (s1 : Int × Int) : M ((Int × Int) ⊕ (Int × Int)) := M.ite (decide (0 < s1.2)) (M.bind (M.guard (s1.2 != 0)) (fun _ => M.ret (.inl (s1.2, (s1.1.tmod s1.2))))) (M.ret (.inr (s1.1, s1.2)))
theorem gcd_loop : ∀ (m : Nat) (a b : Int), b.toNat < m → 0 ≤ a → 0 ≤ b → ∃ d, ConvL gcdF (a, b) (d, 0) ∧ 0 ≤ d ∧ (0 < a ∨ 0 < b → 0 < d)
  | 0, _, _, h, _, _ => by omega
  | m + 1, a, b, h, ha, hb => by
    by_cases h0 : 0 < b
    · have hm : 0 ≤ a.tmod b := Int.tmod_nonneg b ha
      have hl : a.tmod b < b := Int.tmod_lt_of_pos a h0
      obtain ⟨d, k1, k2, k3⟩ := gcd_loop m b (a.tmod b) (by omega) hb hm
      refine ⟨d, ConvL.step (s' := (b, a.tmod b)) ?_ k1, k2, fun _ => k3 (.inl h0)⟩
      exact M.Conv_ite (fun _ => M.Conv_bind (M.Conv_guard (by simp; omega)) (M.Conv_ret _)) (fun q => by have := of_decide_eq_false q; simp only at this; omega)
    · obtain rfl : b = 0 := by omega
      exact ⟨a, ConvL.stop (M.Conv_ite (fun q => by have := of_decide_eq_true q; simp only at this; omega) (fun _ => M.Conv_ret _)), ha, fun h => by omega⟩
theorem divisor_same {a b : Int} (ha : -9000000000000000000 ≤ a ∧ a ≤ 9000000000000000000) (hb : 0 < b ∧ b ≤ 9000000000000000000) : ∃ d, 0 < d ∧ M.Conv (spec_l01Divisor a b) d ∧ ∀ x, M.Conv (impl_absOf a) x → M.Conv (impl_divisorOf x b) d := by
  have e1 : mx a (w64 (0 - a)) = (a.natAbs : Int) := by rw [w64_eq _ (by omega), mx_eq]; omega
  have e2 : mx b (w64 (0 - b)) = b := by rw [w64_eq _ (by omega), mx_eq]; omega
  obtain ⟨d, k1, _, k3⟩ := gcd_loop _ (a.natAbs : Int) b (Nat.lt_succ_self _) (by omega) (by omega)
  refine ⟨d, k3 (.inr hb.1), ?_, fun x hx => ?_⟩
  · unfold spec_l01Divisor
    rw [e1, e2]
    exact M.Conv_bind k1.conv (M.Conv_ret _)
  · have : M.Conv (impl_absOf a) (a.natAbs : Int) := M.Conv_ite (fun q => by have := of_decide_eq_true q; exact (M.Conv_ret _).of (by rw [w64_eq _ (by omega)]; omega)) (fun q => by have := of_decide_eq_false q; exact (M.Conv_ret _).of (by omega))
    obtain rfl := hx.unique this
    exact M.Conv_bind k1.conv (M.Conv_ret _)
theorem absOf_conv (a : Int) : ∃ x, M.Conv (impl_absOf a) x := by
  unfold impl_absOf
  cases h : decide (a < 0)
  · exact ⟨_, M.Conv_ret _⟩
  · exact ⟨_, M.Conv_ret _⟩
theorem ratio_same {num den : Int} (hn : -4000000 ≤ num ∧ num ≤ 4000000) (hd : 0 < den ∧ den ≤ 4000000) : Two (spec_l01Ratio num den) (impl_ratioOf num den) (fun _ => True) := by
  unfold spec_l01Ratio impl_ratioOf
  have h0 : M.Conv (M.ite (decide (den < 0)) (M.ret ((w64 (0 - num)), (w64 (0 - den)))) (M.ret (num, den))) (num, den) := M.Conv_ite (fun q => by have := of_decide_eq_true q; omega) (fun _ => M.Conv_ret _)
  refine Two.bindC h0 h0 ?_
  obtain ⟨d, d0, k1, k2⟩ := divisor_same (a := num) (b := den) (by omega) (by omega)
  obtain ⟨x, hx⟩ := absOf_conv num
  have hg : (d != 0) = true := by simp; omega
  exact Two.right hx (Two.bindC k1 (k2 x hx) (Two.bindC (M.Conv_guard hg) (M.Conv_guard hg) (Two.bindC (M.Conv_guard hg) (M.Conv_guard hg) (Two.ret _ trivial))))
theorem isRatio_same (r : TRatio) : Two (spec_IsRatio r) (impl_IsRatio r) (fun _ => True) := by
  unfold spec_IsRatio impl_IsRatio
  refine Two.bindC (spec_l01Finite_ok _) (impl_isFinite_ok _) ?_
  refine Two.bind (P := fun b => b = true → finB r.Num = true ∧ 1 ≤ r.Den ∧ r.Den ≤ 1000000) (Two.ite (fun q => ?_) (fun _ => Two.ret _ (by simp))) (fun b hb => ?_)
  · exact Two.bindC (spec_l01In_ok _ _ _) (impl_within_ok _ _ _) (Two.ret _ (fun h => by simp only [Bool.and_eq_true, decide_eq_true_eq] at h; exact ⟨q, h⟩))
  · refine Two.bind (P := fun _ => True) (Two.ite (fun q => ?_) (fun _ => Two.ret _ trivial)) (fun x _ => Two.ret _ trivial)
    obtain ⟨h1, h2, h3⟩ := hb q
    have bn := finB_bd h1
    obtain ⟨d, d0, k1, k2⟩ := divisor_same (a := r.Num) (b := r.Den) (by omega) (by omega)
    obtain ⟨x, hx⟩ := absOf_conv r.Num
    exact Two.right hx (Two.bindC k1 (k2 x hx) (Two.ret _ trivial))
def smC (l : List TCorner) : Prop := l.length ≤ 1099511627
theorem same_CornersOf (c : List Int) (g : fitL inI64 c) (_ : smI c) : Two (spec_CornersOf c) (impl_CornersOf c) (fun w => smC w.1) := by
  unfold spec_CornersOf impl_CornersOf
  refine Two.bindC (spec_IsPolynomial_ok g.1) (impl_IsPolynomial_ok g.1) (Two.ite (fun _ => Two.ret _ (by simp [smC])) (fun h => ?_))
  obtain ⟨h1, h2, h3⟩ := polyB_len (by simpa using h)
  obtain ⟨t, k1, k2, tl, tt, tne, tpw⟩ := terms_ok h1 h2
  refine Two.bindC k1 k2 (Two.bind (P := fun y => (∃ s, y = .inl s ∧ smC s) ∨ (∃ r, y = .inr r ∧ smC r.1)) ?_ (fun y hy => ?_))
  · refine Two.for (fun i s => (s.length : Int) ≤ i) (by omega) (by omega) (by simp) (fun m s m0 m1 hs => ?_) (fun i s hi hs => .inl ⟨s, rfl, by simp only [smC]; omega⟩)
    obtain ⟨q, rfl⟩ : ∃ q : Nat, m = (q : Int) + 1 := ⟨(m - 1).toNat, by omega⟩
    have hq : q + 1 < t.length := by omega
    have hi : t[q]? = some t[q] := List.getElem?_eq_getElem (by omega)
    have hk : t[q + 1]? = some t[q + 1] := List.getElem?_eq_getElem hq
    have hik := List.pairwise_iff_getElem.1 tpw q (q + 1) (by omega) hq (by omega)
    obtain ⟨i0, i1, xi, i2, i3⟩ := tt _ (List.mem_of_getElem? hi)
    obtain ⟨k0, k1', xk, k2', k3⟩ := tt _ (List.mem_of_getElem? hk)
    have bi := finB_bd i3
    have bk := finB_bd k3
    have ga : M.Conv (M.idx t (w64 ((q : Int) + 1 - 1))) t[q] := by
      rw [w64_eq _ (by omega)]
      exact M.Conv_get (by omega) (by rw [show ((q : Int) + 1 - 1).toNat = q by omega]; exact hi)
    have gb : M.Conv (M.idx t ((q : Int) + 1)) t[q + 1] := M.Conv_get (by omega) (by rw [show ((q : Int) + 1).toNat = q + 1 by omega]; exact hk)
    have gi : M.Conv (M.idx c t[q]) xi := M.Conv_get i0 i2
    have gk : M.Conv (M.idx c t[q + 1]) xk := M.Conv_get k0 k2'
    refine Two.bindC ga ga (Two.bindC gb gb (Two.bindC gi gi (Two.bindC gk gk ?_)))
    rw [w64_eq (xi - xk) (by omega), w64_eq (t[q + 1] - t[q]) (by omega)]
    refine Two.bind (ratio_same (by omega) (by omega)) (fun r _ => Two.bind (isRatio_same r) (fun b _ => Two.ite (fun _ => Two.ret _ (.inr ⟨_, rfl, .inr ⟨_, rfl, by simp [smC]⟩⟩)) (fun _ => ?_)))
    have happ : M.Conv (M.app s ([⟨r, t[q + 1] - t[q]⟩] : List TCorner)) (s ++ [⟨r, t[q + 1] - t[q]⟩]) := M.Conv_app (by simp; omega)
    exact Two.bindC happ happ (Two.ret _ (.inl ⟨_, rfl, by simp; omega⟩))
  · rcases hy with ⟨s, rfl, hs⟩ | ⟨r, rfl, hr⟩
    · exact Two.ret _ hs
    · exact Two.ret _ hr

def entA (a : List (List Int)) (i j : Nat) : Int := (((a[i]?).getD [])[j]?).getD 0
theorem ent_val {a : List (List Int)} {n i j : Nat} (hm : Mat a n) (hi : i < a.length) (hj : j < n) : M.Conv (M.idx a (i : Int)) a[i] ∧ M.Conv (M.idx a[i] (j : Int)) (entA a i j) ∧ valB (entA a i j) = true := by
  have hr : a[i]? = some a[i] := List.getElem?_eq_getElem hi
  obtain ⟨g1, g2⟩ := hm.get hr hj
  have e : entA a i j = (a[i][j]?).getD 0 := by simp only [entA, hr, Option.getD_some]
  rw [e]
  exact ⟨get_row hr, g1, g2⟩
def tab {α : Type} (n : Nat) (h : Nat → α) : List α := (List.range n).map h
theorem tab_len {α : Type} (n : Nat) (h : Nat → α) : (tab n h).length = n := by simp [tab]
theorem tab_get {α : Type} {n i : Nat} {h : Nat → α} (hi : i < n) : (tab n h)[i]? = some (h i) := by simp [tab, List.getElem?_range hi]
theorem tab_none {α : Type} {n i : Nat} {h : Nat → α} (hi : n ≤ i) : (tab n h)[i]? = none := List.getElem?_eq_none (by rw [tab_len]; exact hi)
theorem tab_ext {α : Type} {n : Nat} {h : Nat → α} {l : List α} (hl : l.length = n) (e : ∀ i, i < n → l[i]? = some (h i)) : l = tab n h := by
  apply List.ext_getElem?
  intro i
  by_cases hi : i < n
  · rw [e i hi, tab_get hi]
  · rw [tab_none (by omega), List.getElem?_eq_none (by omega)]
theorem tab_congr {α : Type} {n : Nat} {h g : Nat → α} (e : ∀ i, i < n → h i = g i) : tab n h = tab n g := by
  refine tab_ext (tab_len _ _) fun i hi => ?_
  rw [tab_get hi, e i hi]
def matF (m n : Nat) (f : Nat → Nat → Int) : List (List Int) := tab m fun i => tab n (f i)
theorem matF_len (m n : Nat) (f : Nat → Nat → Int) : (matF m n f).length = m := tab_len _ _
theorem matF_congr {m n : Nat} {f g : Nat → Nat → Int} (e : ∀ i j, i < m → j < n → f i j = g i j) : matF m n f = matF m n g := tab_congr fun i hi => tab_congr fun j hj => e i j hi hj
structure Shp (a : List (List Int)) (w : Nat) : Prop where
  rows : 1 ≤ a.length ∧ a.length ≤ 10
  cols : 1 ≤ w ∧ w ≤ 10
  row : ∀ r ∈ a, r.length = w
theorem Mat.shp {a : List (List Int)} {w : Nat} (hm : Mat a w) : Shp a w := ⟨hm.rows, hm.cols, fun r hr => (hm.row r hr).1⟩
theorem mat_eq {a : List (List Int)} {w : Nat} (hm : Shp a w) : a = matF a.length w (entA a) := by
  refine tab_ext rfl fun i hi => ?_
  have hr : a[i]? = some a[i] := List.getElem?_eq_getElem hi
  rw [hr]
  have hl := hm.row _ (List.mem_of_getElem? hr)
  congr 1
  refine tab_ext hl fun j hj => ?_
  have : a[i][j]? = some (a[i][j]'(by omega)) := List.getElem?_eq_getElem _
  rw [this]
  simp only [entA, hr, Option.getD_some, this]
theorem entA_matF {m n i j : Nat} {f : Nat → Nat → Int} (hi : i < m) (hj : j < n) : entA (matF m n f) i j = f i j := by
  simp only [entA, matF, tab_get hi, Option.getD_some, tab_get hj]
theorem shp_of {m n : Nat} {f : Nat → Nat → Int} (h1 : 1 ≤ m ∧ m ≤ 10) (h2 : 1 ≤ n ∧ n ≤ 10) : Shp (matF m n f) n := by
  refine ⟨by rw [matF_len]; exact h1, h2, fun r hr => ?_⟩
  simp only [matF, tab, List.mem_map, List.mem_range] at hr
  obtain ⟨i, hi, rfl⟩ := hr
  simp
theorem matB_shp {a : List (List Int)} {w : Nat} (h : Shp a w) : matB a = a.all fun r => r.all valB := by
  have h1 := h.rows
  have h2 := h.cols
  have hw : widthN a = w := by
    unfold widthN
    cases a with
    | nil => simp at h1
    | cons r rs => exact h.row r (by simp)
  unfold matB
  rw [hw, decide_eq_true h1.1, decide_eq_true h1.2, decide_eq_true h2.1, decide_eq_true h2.2]
  simp only [Bool.true_and]
  rw [Bool.eq_iff_iff, List.all_eq_true, List.all_eq_true]
  refine ⟨fun H r hr => ?_, fun H r hr => ?_⟩
  · have := H r hr; simp only [Bool.and_eq_true] at this; exact this.2
  · rw [decide_eq_true (h.row r hr), Bool.true_and]; exact H r hr
theorem Shp.sm {a : List (List Int)} {w : Nat} (h : Shp a w) : smII a := ⟨by have := h.rows; omega, fun r hr => by have := h.row r hr; have := h.cols; omega⟩
def colL (b : List (List Int)) (i : Nat) : List Int := tab b.length fun j => entA b j i
theorem Conv_or {b v : Bool} {m : M Bool} (h : b = false → M.Conv m v) : M.Conv (M.ite b (M.ret true) m) (b || v) := by
  cases b with
  | true => exact M.Conv_ite (fun _ => M.Conv_ret _) (fun t => by simp at t)
  | false => exact M.Conv_ite (fun t => by simp at t) (fun _ => h rfl)
def Rel {α β : Type} (m : M α) (m' : M β) (Q : α → β → Prop) : Prop := ∃ r r', M.Conv m r ∧ M.Conv m' r' ∧ Q r r'
theorem Rel.of {α β : Type} {m : M α} {m' : M β} {Q : α → β → Prop} {r : α} {r' : β} (h : M.Conv m r) (h' : M.Conv m' r') (q : Q r r') : Rel m m' Q := ⟨r, r', h, h', q⟩
theorem Rel.bind {α β γ δ : Type} {m : M α} {m' : M β} {f : α → M γ} {f' : β → M δ} {P : α → β → Prop} {Q : γ → δ → Prop} (h : Rel m m' P) (g : ∀ x x', P x x' → Rel (f x) (f' x') Q) : Rel (M.bind m f) (M.bind m' f') Q := by
  obtain ⟨x, x', h1, h2, p⟩ := h
  obtain ⟨r, r', g1, g2, q⟩ := g x x' p
  exact ⟨r, r', M.Conv_bind h1 g1, M.Conv_bind h2 g2, q⟩
theorem Rel.left {α γ δ : Type} {m : M α} {f : α → M γ} {m' : M δ} {Q : γ → δ → Prop} {x : α} (h : M.Conv m x) (g : Rel (f x) m' Q) : Rel (M.bind m f) m' Q := by
  obtain ⟨r, r', g1, g2, q⟩ := g
  exact ⟨r, r', M.Conv_bind h g1, g2, q⟩
theorem Rel.right {α γ δ : Type} {m : M α} {f : α → M γ} {m' : M δ} {Q : δ → γ → Prop} {x : α} (h : M.Conv m x) (g : Rel m' (f x) Q) : Rel m' (M.bind m f) Q := by
  obtain ⟨r, r', g1, g2, q⟩ := g
  exact ⟨r, r', g1, M.Conv_bind h g2, q⟩
theorem Rel.two {α : Type} {m m' : M α} {P : α → Prop} (h : Rel m m' fun x y => x = y ∧ P x) : Two m m' P := by
  obtain ⟨r, r', h1, h2, rfl, p⟩ := h
  exact ⟨r, h1, h2, p⟩
theorem Rel.mono {α β : Type} {m : M α} {m' : M β} {P Q : α → β → Prop} (h : Rel m m' P) (g : ∀ x y, P x y → Q x y) : Rel m m' Q := by
  obtain ⟨r, r', h1, h2, p⟩ := h
  exact ⟨r, r', h1, h2, g _ _ p⟩
theorem Rel.iteL {α β : Type} {b : Bool} {x y : M α} {m' : M β} {Q : α → β → Prop} (h1 : b = true → Rel x m' Q) (h2 : b = false → Rel y m' Q) : Rel (M.ite b x y) m' Q := by
  cases b
  · obtain ⟨r, r', g1, g2, q⟩ := h2 rfl
    exact ⟨r, r', M.Conv_ite (fun t => by simp at t) (fun _ => g1), g2, q⟩
  · obtain ⟨r, r', g1, g2, q⟩ := h1 rfl
    exact ⟨r, r', M.Conv_ite (fun _ => g1) (fun t => by simp at t), g2, q⟩
theorem Rel.iteR {α β : Type} {b : Bool} {x y : M β} {m' : M α} {Q : α → β → Prop} (h1 : b = true → Rel m' x Q) (h2 : b = false → Rel m' y Q) : Rel m' (M.ite b x y) Q := by
  cases b
  · obtain ⟨r, r', g1, g2, q⟩ := h2 rfl
    exact ⟨r, r', g1, M.Conv_ite (fun t => by simp at t) (fun _ => g2), q⟩
  · obtain ⟨r, r', g1, g2, q⟩ := h1 rfl
    exact ⟨r, r', g1, M.Conv_ite (fun _ => g2) (fun t => by simp at t), q⟩
theorem Rel.ite {α β : Type} {b b' : Bool} {x y : M α} {x' y' : M β} {Q : α → β → Prop} (e : b = b') (h1 : b = true → Rel x x' Q) (h2 : b = false → Rel y y' Q) : Rel (M.ite b x y) (M.ite b' x' y') Q := by
  subst e
  exact Rel.iteL (fun t => Rel.iteR (fun _ => h1 t) (fun t' => by rw [t] at t'; cases t')) (fun t => Rel.iteR (fun t' => by rw [t] at t'; cases t') (fun _ => h2 t))
theorem Rel.ret {α β : Type} {x : α} {y : β} {Q : α → β → Prop} (q : Q x y) : Rel (M.ret x) (M.ret y) Q := ⟨x, y, M.Conv_ret _, M.Conv_ret _, q⟩
/-- one round of two loops: both go on, or both stop -/
def Round {σ σ' ρ ρ' : Type} (R : σ → σ' → Prop) (Q : ρ → ρ' → Prop) (y : σ ⊕ ρ) (y' : σ' ⊕ ρ') : Prop := (∃ t t', y = .inl t ∧ y' = .inl t' ∧ R t t') ∨ (∃ r r', y = .inr r ∧ y' = .inr r' ∧ Q r r')
theorem Round.on {σ σ' ρ ρ' : Type} {R : σ → σ' → Prop} {Q : ρ → ρ' → Prop} {t : σ} {t' : σ'} (h : R t t') : Round R Q (.inl t) (.inl t') := .inl ⟨t, t', rfl, rfl, h⟩
theorem Round.off {σ σ' ρ ρ' : Type} {R : σ → σ' → Prop} {Q : ρ → ρ' → Prop} {r : ρ} {r' : ρ'} (h : Q r r') : Round R Q (.inr r : σ ⊕ ρ) (.inr r' : σ' ⊕ ρ') := .inr ⟨r, r', rfl, rfl, h⟩
theorem Rel.for {σ σ' ρ ρ' : Type} {n : Nat} {f : Int → σ → M (σ ⊕ ρ)} {f' : Int → σ' → M (σ' ⊕ ρ')} {fin : σ → ρ} {fin' : σ' → ρ'} {s : σ} {s' : σ'} {Q : ρ → ρ' → Prop} (R : Nat → σ → σ' → Prop) (hn : n ≤ 9223372036854775807) (h0 : R 0 s s')
    (step : ∀ (i : Nat) t t', i < n → R i t t' → Rel (f i t) (f' i t') (Round (R (i + 1)) Q)) (stop : ∀ t t', R n t t' → Q (fin t) (fin' t')) : Rel (M.forI 0 (n : Int) fin f s) (M.forI 0 (n : Int) fin' f' s') Q := by
  have H : ∀ (d i : Nat) t t', i + d = n → R i t t' → ∃ r r', (∃ N, ∀ m, N ≤ m → M.forN (n : Int) fin f m d (i : Int) t = some r) ∧ (∃ N, ∀ m, N ≤ m → M.forN (n : Int) fin' f' m d (i : Int) t' = some r') ∧ Q r r' := by
    intro d
    induction d with
    | zero =>
      intro i t t' e hR
      obtain rfl : i = n := by omega
      exact ⟨fin t, fin' t', ⟨0, fun m _ => by simp [M.forN]⟩, ⟨0, fun m _ => by simp [M.forN]⟩, stop t t' hR⟩
    | succ d ih =>
      intro i t t' e hR
      have hlt : (i : Int) < n := by omega
      obtain ⟨y, y', ⟨N, hy⟩, ⟨N', hy'⟩, hc⟩ := step i t t' (by omega) hR
      rcases hc with ⟨u, u', rfl, rfl, hR⟩ | ⟨r, r', rfl, rfl, hq⟩
      · obtain ⟨r, r', ⟨K, hr⟩, ⟨K', hr'⟩, hq⟩ := ih (i + 1) u u' (by omega) hR
        rw [Int.natCast_add] at hr hr'
        refine ⟨r, r', ⟨max N K, fun m hm => ?_⟩, ⟨max N' K', fun m hm => ?_⟩, hq⟩
        · simp [M.forN, hlt, hy m (by omega)]; exact hr m (by omega)
        · simp [M.forN, hlt, hy' m (by omega)]; exact hr' m (by omega)
      · exact ⟨r, r', ⟨N, fun m hm => by simp [M.forN, hlt, hy m hm]⟩, ⟨N', fun m hm => by simp [M.forN, hlt, hy' m hm]⟩, hq⟩
  obtain ⟨r, r', ⟨N, h1⟩, ⟨N', h2⟩, q⟩ := H n 0 s s' (by omega) h0
  refine ⟨r, r', ⟨N, fun m hm => ?_⟩, ⟨N', fun m hm => ?_⟩, q⟩
  · have := h1 m hm; have hn' : (n : Int) ≤ 9223372036854775807 := by omega
    simp [M.forI, hn']; exact this
  · have := h2 m hm; have hn' : (n : Int) ≤ 9223372036854775807 := by omega
    simp [M.forI, hn']; exact this
/-- a loop with a round count on the left, any loop on the right -/
theorem Rel.loop {σ σ' ρ ρ' : Type} {f : σ → M (σ ⊕ ρ)} {f' : σ' → M (σ' ⊕ ρ')} {s : σ} {s' : σ'} {Q : ρ → ρ' → Prop} (R : σ → σ' → Prop) (μ : σ → Nat) (h0 : R s s')
    (step : ∀ t t', R t t' → Rel (f t) (f' t') (Round (fun u u' => R u u' ∧ μ u < μ t) Q)) : Rel (M.loop f s) (M.loop f' s') Q := by
  have H : ∀ (d : Nat) t t', μ t < d → R t t' → ∃ r r', ConvL f t r ∧ ConvL f' t' r' ∧ Q r r' := by
    intro d
    induction d with
    | zero => intro t t' h; omega
    | succ d ih =>
      intro t t' h hR
      obtain ⟨y, y', hy, hy', hc⟩ := step t t' hR
      rcases hc with ⟨u, u', rfl, rfl, hR, hlt⟩ | ⟨r, r', rfl, rfl, hq⟩
      · obtain ⟨r, r', k1, k2, q⟩ := ih u u' (by omega) hR
        exact ⟨r, r', k1.step hy, k2.step hy', q⟩
      · exact ⟨r, r', ConvL.stop hy, ConvL.stop hy', hq⟩
  obtain ⟨r, r', h1, h2, q⟩ := H (μ s + 1) s s' (by omega) h0
  exact ⟨r, r', h1.conv, h2.conv, q⟩

theorem Conv_check {ρ : Type} {n lo : Nat} {f : Int → Unit → M (Unit ⊕ (Unit ⊕ ρ))} (P : Nat → Prop) (v : ρ) (hn : n ≤ 9223372036854775807)
    (h : ∀ i : Nat, lo ≤ i → i < n → (P i ∧ M.Conv (f i ()) (.inl ())) ∨ (¬ P i ∧ M.Conv (f i ()) (.inr (.inr v)))) :
    ((∀ i, lo ≤ i → i < n → P i) ∧ M.Conv (M.forI (lo : Int) (n : Int) (fun s => .inl s) f ()) (.inl ())) ∨ ((∃ i, lo ≤ i ∧ i < n ∧ ¬ P i) ∧ M.Conv (M.forI (lo : Int) (n : Int) (fun s => .inl s) f ()) (.inr v)) := by
  have H : M.TC (M.forI (lo : Int) (n : Int) (fun s => .inl s) f ()) (fun r => ((∀ i, lo ≤ i → i < n → P i) ∧ r = .inl ()) ∨ ((∃ i, lo ≤ i ∧ i < n ∧ ¬ P i) ∧ r = .inr v)) := by
    refine M.TC_for (fun i _ => ∀ k : Nat, lo ≤ k → (k : Int) < i → P k) () (by omega) (by omega) (fun k h1 h2 => by omega) (fun i s h1 h2 hI => ?_) (fun i s hi hI => ?_)
    · obtain ⟨k, rfl⟩ : ∃ k : Nat, i = (k : Int) := ⟨i.toNat, by omega⟩
      rcases h k (by omega) (by omega) with ⟨hp, hc⟩ | ⟨hp, hc⟩
      · refine hc.tc (.inl ⟨(), rfl, fun q h3 h4 => ?_⟩)
        by_cases e : q = k
        · subst e; exact hp
        · exact hI q h3 (by omega)
      · exact hc.tc (.inr ⟨.inr v, rfl, .inr ⟨⟨k, by omega, by omega, hp⟩, rfl⟩⟩)
    · rcases hi with rfl | ⟨rfl, hle⟩
      · exact .inl ⟨fun q h1 h2 => hI q h1 (by omega), rfl⟩
      · exact .inl ⟨fun q h1 h2 => by omega, rfl⟩
  obtain ⟨r, hr, ⟨h1, rfl⟩ | ⟨h1, rfl⟩⟩ := H
  · exact .inl ⟨h1, hr⟩
  · exact .inr ⟨h1, hr⟩
def nd (l : List Int) (i : Nat) : Int := (l[i]?).getD 0
theorem nd_read {l : List Int} {i : Nat} (h : i < l.length) : M.Conv (M.idx l (i : Int)) (nd l i) := by
  have : l[i]? = some (l[i]'h) := List.getElem?_eq_getElem _
  refine M.Conv_idx ?_
  unfold nd; rw [this]; rfl
def OkNodes (n : Nat) (l : List Int) : Prop := ∀ i, i < l.length → (0 ≤ nd l i ∧ nd l i ≤ (n : Int) - 1) ∧ (0 < i → nd l (i - 1) < nd l i)
theorem OkNodes.len {n : Nat} {l : List Int} (h : OkNodes n l) : l.length ≤ n := by
  have key : ∀ i, i < l.length → (i : Int) ≤ nd l i := by
    intro i
    induction i with
    | zero => intro hi; have := (h 0 hi).1; omega
    | succ i ih => intro hi; have := (h (i + 1) hi).2 (by omega); have := ih (by omega); simp only [Nat.add_sub_cancel] at *; omega
  by_cases e : l.length = 0
  · omega
  · have := key (l.length - 1) (by omega)
    have := (h (l.length - 1) (by omega)).1
    omega
structure ByC (code : List Int) : Prop where
  len : code.length ≤ 4096
  byte : ∀ x ∈ code, 0 ≤ x ∧ x ≤ 255
structure Src (code : List Int) (s : TL01source) : Prop where
  code_ : s.code = code
  lo : 0 ≤ s.at_
  hi : s.at_ ≤ code.length
  seed : 0 ≤ s.seed ∧ s.seed < 2147483647
theorem Src.mk' {code : List Int} {s : TL01source} {c : List Int} (h : Src code s) (hc : c = code) : Src code ⟨c, s.at_, s.seed⟩ := ⟨hc, h.lo, h.hi, h.seed⟩
theorem tmod_in {x n : Int} (hx : 0 ≤ x) (hn : 0 < n) : 0 ≤ x.tmod n ∧ x.tmod n < n := ⟨Int.tmod_nonneg n hx, Int.tmod_lt_of_pos x hn⟩
theorem tdiv_in {x : Int} (hx : 0 ≤ x) (h : x < 2147483647) : 0 ≤ x.tdiv 31 ∧ x.tdiv 31 < 2147483647 := by
  rw [Int.tdiv_eq_ediv_of_nonneg hx]; omega
theorem from_ok {code : List Int} (hc : ByC code) : M.TC (spec_l01From code) (Src code) := by
  have hl := hc.len
  unfold spec_l01From
  refine M.TC_bind (Mid := fun x => 0 ≤ x.1 ∧ x.1 < 2147483647) (M.TC_loop (fun (s : Int × Int) => (0 ≤ s.1 ∧ s.1 < 2147483647) ∧ 0 ≤ s.2 ∧ s.2 ≤ 4096) (fun s => (4096 - s.2).toNat) (61403, 0) (by simp) fun s hs => ?_) fun x hx => M.TC_ret ⟨rfl, by simp, by simp, hx⟩
  refine M.TC_ite (fun t => ?_) (fun _ => M.TC_ret (.inr ⟨_, rfl, hs.1⟩))
  simp only [Bool.and_eq_true, decide_eq_true_eq] at t
  refine M.TC_bind (Mid := fun x => 0 ≤ x ∧ x ≤ 255) (M.TC_idx hs.2.1 t.1 fun x hx => hc.byte x (List.mem_of_getElem? hx)) fun x hx => M.TC_ret (.inl ⟨_, rfl, ?_, ?_⟩)
  · have e1 : w64 (s.1 * 67) = s.1 * 67 := w64_eq _ (by omega)
    have e2 : w64 x = x := w64_eq _ (by omega)
    have e3 : w64 (s.1 * 67 + x) = s.1 * 67 + x := w64_eq _ (by omega)
    have e4 : w64 (s.2 + 1) = s.2 + 1 := w64_eq _ (by omega)
    simp only [e1, e2, e3, e4]
    exact ⟨tmod_in (by omega) (by omega), by omega, by omega⟩
  · simp only
    rw [w64_eq _ (by omega)]; omega
theorem next_ok {code : List Int} (hc : ByC code) {s : TL01source} (hs : Src code s) (n : Int) (hn : n ≤ 1000000) : M.TC (spec_l01Next s n) (fun r => Src code r.2 ∧ 0 ≤ r.1 ∧ (r.1 < n ∨ (n ≤ 1 ∧ r.1 = 0))) := by
  have hl := hc.len
  obtain ⟨h1, h2, h3, h4⟩ := hs
  unfold spec_l01Next
  refine M.TC_ite (fun t => M.TC_ret ⟨⟨h1, h2, h3, h4⟩, by simp, .inr ⟨by simpa using t, rfl⟩⟩) (fun t => ?_)
  have t : 1 < n := by simpa using t
  have e1 : w64 (s.seed * 48271) = s.seed * 48271 := w64_eq _ (by omega)
  have e2 : w64 (s.seed * 48271 + 59) = s.seed * 48271 + 59 := w64_eq _ (by omega)
  have hsd := tmod_in (x := s.seed * 48271 + 59) (n := 2147483647) (by omega) (by omega)
  simp only [e1, e2]
  generalize (s.seed * 48271 + 59).tmod 2147483647 = sd at hsd ⊢
  have hq := tdiv_in hsd.1 hsd.2
  generalize sd.tdiv 31 = q at hq ⊢
  have e3 : w64 q = q := w64_eq _ (by omega)
  have e4 : w64 (s.at_ + 1) = s.at_ + 1 := w64_eq _ (by omega)
  simp only [e3, e4, h1]
  refine M.TC_bind (Mid := fun (x : Int × Int) => 0 ≤ x.1 ∧ 0 ≤ x.2 ∧ x.2 ≤ code.length) ?_ (fun x hx => M.TC_bind (M.TC_guard (Post := fun _ => True) (by simp; omega) trivial) fun _ _ => M.TC_ret ⟨⟨rfl, hx.2.1, hx.2.2, hsd⟩, (tmod_in hx.1 (by omega)).1, .inl (tmod_in hx.1 (by omega)).2⟩)
  refine M.TC_ite (fun t => ?_) (fun _ => M.TC_ret ⟨hq.1, h2, h3⟩)
  have t : s.at_ < code.length := by simpa using t
  refine M.TC_bind (Mid := fun x => 0 ≤ x ∧ x ≤ 255) (M.TC_idx h2 t fun x hx => hc.byte x (List.mem_of_getElem? hx)) fun x hx => ?_
  refine M.TC_ite (fun _ => ?_) (fun _ => M.TC_ret ⟨?_, by simp only; omega, by simp only; omega⟩)
  · have e5 : w64 (s.at_ + 1 - 1) = s.at_ := by rw [w64_eq _ (by omega)]; omega
    rw [e5]
    refine M.TC_bind (Mid := fun x => 0 ≤ x ∧ x ≤ 255) (M.TC_idx h2 t fun x hx => hc.byte x (List.mem_of_getElem? hx)) fun x hx => M.TC_ret ⟨?_, by simp only; omega, by simp only; omega⟩
    simp only
    rw [w64_eq _ (by omega)]; exact hx.1
  · simp only
    rw [w64_eq x (by omega), w64_eq _ (by omega)]; omega
theorem pick_ok {code : List Int} (hc : ByC code) {s : TL01source} (hs : Src code s) (l : List Int) (h1 : 1 ≤ l.length) (h2 : l.length ≤ 1000) (P : Int → Prop) (hP : ∀ x ∈ l, P x) : M.TC (spec_l01Pick s l) (fun r => Src code r.2.1 ∧ P r.1) := by
  unfold spec_l01Pick
  refine M.TC_bind (next_ok hc hs l.length (by omega)) fun x hx => M.TC_bind (Mid := P) (M.TC_idx hx.2.1 (by omega) fun y hy => hP y (List.mem_of_getElem? hy)) fun y hy => M.TC_ret ⟨hx.1.mk' hs.code_, hy⟩
theorem value_ok {code : List Int} (hc : ByC code) {s : TL01source} (hs : Src code s) : M.TC (spec_l01DrawValue s) (fun r => Src code r.2 ∧ inI64 r.1) := by
  unfold spec_l01DrawValue
  refine M.TC_bind (next_ok hc hs 24 (by omega)) fun x hx => ?_
  refine M.TC_bind (Mid := fun _ => True) (M.TC_ite (fun _ => M.TC_ret trivial) (fun _ => M.TC_ite (fun _ => M.TC_ret trivial) (fun _ => M.TC_ret trivial))) fun b _ => ?_
  refine M.TC_ite (fun _ => M.TC_ret ⟨hx.1.mk' hs.code_, by simp [inI64]⟩) (fun _ => M.TC_ite (fun _ => ?_) (fun _ => M.TC_ite (fun _ => ?_) (fun _ => ?_)))
  · exact M.TC_bind (pick_ok hc (hx.1.mk' hs.code_) _ (by simp) (by simp) inI64 (by simp [inI64])) fun y hy => M.TC_ret ⟨hy.1.mk' hs.code_, hy.2⟩
  · exact M.TC_bind (next_ok hc (hx.1.mk' hs.code_) 2000 (by omega)) fun y hy => M.TC_ret ⟨hy.1.mk' hs.code_, w64_bd _⟩
  · exact M.TC_bind (next_ok hc (hx.1.mk' hs.code_) 41 (by omega)) fun y hy => M.TC_ret ⟨hy.1.mk' hs.code_, w64_bd _⟩
/-- what a drawn matrix is at least: not large, of numbers -/
structure MatS (a : List (List Int)) : Prop where
  rows : a.length ≤ 11
  row : ∀ r ∈ a, r.length ≤ 10 ∧ ∀ x ∈ r, inI64 x
theorem MatS.sm {a : List (List Int)} (h : MatS a) : smII a := ⟨by have := h.rows; omega, fun r hr => by have := (h.row r hr).1; omega⟩
theorem MatS.fit {a : List (List Int)} (h : MatS a) : fitL (fitL inI64) a := ⟨by have := h.rows; omega, fun r hr => ⟨by have := (h.row r hr).1; omega, (h.row r hr).2⟩⟩
theorem MatS.of {m n : Nat} {f : Nat → Nat → Int} (hm : m ≤ 10) (hn : n ≤ 10) (hf : ∀ i j, inI64 (f i j)) : MatS (matF m n f) := by
  refine ⟨by rw [matF_len]; omega, fun r hr => ?_⟩
  simp only [matF, tab, List.mem_map, List.mem_range] at hr
  obtain ⟨i, hi, rfl⟩ := hr
  refine ⟨by simp; omega, fun x hx => ?_⟩
  simp only [List.mem_map, List.mem_range] at hx
  obtain ⟨j, hj, rfl⟩ := hx
  exact hf i j
structure VecS (x : List Int) : Prop where
  len : x.length ≤ 20
  mem : ∀ v ∈ x, inI64 v
theorem VecS.sm {x : List Int} (h : VecS x) : smI x := by have := h.len; unfold smI; omega
theorem VecS.fit {x : List Int} (h : VecS x) : fitL inI64 x := ⟨by have := h.len; omega, h.mem⟩
theorem VecS.snoc {x : List Int} {v : Int} (h : VecS x) (hl : x.length ≤ 19) (hv : inI64 v) : VecS (x ++ [v]) := ⟨by simp; omega, fun y hy => by
  rcases List.mem_append.1 hy with hy | hy
  · exact h.mem y hy
  · simp at hy; subst hy; exact hv⟩
theorem VecS.set {x : List Int} {v : Int} (i : Nat) (h : VecS x) (hv : inI64 v) : VecS (x.set i v) := ⟨by rw [List.length_set]; exact h.len, fun y hy => by
  rcases List.mem_or_eq_of_mem_set hy with hy | hy
  · exact h.mem y hy
  · subst hy; exact hv⟩
theorem likeInts_refl {a : List Int} (h : a.length ≤ 1099511627776) : M.Conv (laws_likeInts a a) true := by
  unfold laws_likeInts
  refine M.Conv_ite (fun t => by simp at t) (fun _ => ?_)
  rcases Conv_check (ρ := Bool) (n := a.length) (lo := 0) (f := (fun i1 => (fun (_ : Unit) => M.bind (M.idx a i1) (fun x2 => M.bind (M.idx a i1) (fun x3 => M.ite (x2 != x3) (M.ret (.inr (.inr false))) (M.ret (.inl ()))))))) (fun _ => True) false (by omega) (fun i _ hi => .inl ⟨trivial, M.Conv_bind (nd_read hi) (M.Conv_bind (nd_read hi) (M.Conv_ite (fun t => by simp at t) (fun _ => M.Conv_ret _)))⟩) with ⟨_, h2⟩ | ⟨⟨i, _, _, h3⟩, _⟩
  · exact M.Conv_bind h2 (M.Conv_ret _)
  · exact absurd trivial h3
theorem foldI_at {σ α : Type} {g : Nat → α → σ → σ} {a : List α} (J : Nat → σ → Prop) : ∀ (l : List α) (i : Nat) (s : σ), (∀ k, l[k]? = a[i + k]?) → J i s → (∀ k x s, a[k]? = some x → J k s → J (k + 1) (g k x s)) → J (i + l.length) (foldI g i l s)
  | [], i, s, _, h, _ => h
  | x :: xs, i, s, hl, h, step => by
    have h0 : a[i]? = some x := by have := hl 0; simpa using this.symm
    have := foldI_at J xs (i + 1) (g i x s) (fun k => by have := hl (k + 1); simp only [List.getElem?_cons_succ] at this; rw [this]; congr 1; omega) (step i x s h0 h) step
    rw [show i + (x :: xs).length = i + 1 + xs.length by simp; omega]
    exact this
theorem ent_at {a : List (List Int)} {i j : Nat} {row : List Int} (h : a[i]? = some row) : entA a i j = (row[j]?).getD 0 := by simp only [entA, h, Option.getD_some]
theorem val_ent {a : List (List Int)} {w i j : Nat} (hm : Mat a w) (hi : i < a.length) (hj : j < w) : entA a i j = -1000000000000000 ∨ (-1000000 ≤ entA a i j ∧ entA a i j ≤ 1000000) := val_cases (ent_val hm hi hj).2.2
theorem big_ok (code : List Int) : M.Conv (laws_big code) (decide (4096 < (code.length : Int))) := M.Conv_ret _
theorem ByC.of {code : List Int} (h : fitL inU8 code) (hb : decide (4096 < (code.length : Int)) = false) : ByC code := ⟨by have := of_decide_eq_false hb; omega, fun x hx => h.2 x hx⟩
theorem cmp_list0 {l : List Int} {c : Int} (h : l.length ≤ 1099511627776) : M.Conv (M.ite (c != c) (M.ret true) (M.bind (laws_likeInts l l) (fun x12 => M.ret (!x12)))) false :=
  M.Conv_ite (fun t => by simp at t) (fun _ => M.Conv_bind (likeInts_refl h) (M.Conv_ret _))
def co (c : List Int) (i : Nat) : Int := (c[i]?).getD (-1000000000000000)
theorem co_get {c : List Int} {i : Nat} (h : i < c.length) : c[i]? = some (co c i) := by
  unfold co; rw [List.getElem?_eq_getElem h]; rfl
theorem co_out {c : List Int} {i : Nat} (h : c.length ≤ i) : co c i = -1000000000000000 := by
  unfold co; rw [List.getElem?_eq_none h]; rfl
theorem co_lt {c : List Int} {i : Nat} (h : co c i ≠ -1000000000000000) : i < c.length := by
  by_cases hi : i < c.length
  · exact hi
  · exact absurd (co_out (by omega)) h
theorem co_read {c : List Int} {i : Nat} (h : i < c.length) : M.Conv (M.idx c (i : Int)) (co c i) := M.Conv_get (by omega) (by simpa using co_get h)
theorem co_val {c : List Int} (hv : c.all valB = true) (i : Nat) : co c i = -1000000000000000 ∨ -1000000 ≤ co c i ∧ co c i ≤ 1000000 := by
  by_cases hi : i < c.length
  · rw [List.all_eq_true] at hv
    exact val_cases (hv _ (List.mem_of_getElem? (co_get hi)))
  · exact .inl (co_out (by omega))
theorem poly_some {c : List Int} (h : c.any (· != (-1000000000000000)) = true) : ∃ i, co c i ≠ -1000000000000000 := by
  rw [List.any_eq_true] at h
  obtain ⟨x, hx, hn⟩ := h
  obtain ⟨i, hi, rfl⟩ := List.mem_iff_getElem.1 hx
  refine ⟨i, ?_⟩
  unfold co
  rw [List.getElem?_eq_getElem hi]
  simpa using hn
theorem times_co {a p : Int} (h : a ≠ -1000000000000000) (ha : -1000000 ≤ a ∧ a ≤ 1000000) (hp : -1000000 ≤ p ∧ p ≤ 1000000) : timesI a p = a + p := by
  simp only [timesI]
  rw [show (a == (-1000000000000000)) = false by simpa using h, show (p == (-1000000000000000)) = false by simp; omega]
  exact w64_eq _ (by omega)
theorem times_bot (p : Int) : timesI (-1000000000000000) p = -1000000000000000 := by simp [timesI]
structure IsEv (c : List Int) (x v : Int) : Prop where
  up : ∀ i : Nat, co c i ≠ -1000000000000000 → co c i + i * x ≤ v
  on : ∃ i : Nat, co c i ≠ -1000000000000000 ∧ v = co c i + i * x
theorem IsEv.unique {c : List Int} {x v w : Int} (h : IsEv c x v) (g : IsEv c x w) : v = w := by
  obtain ⟨i, h1, h2⟩ := h.on
  obtain ⟨k, g1, g2⟩ := g.on
  have := h.up k g1
  have := g.up i h1
  omega
structure IsProd (c d p : List Int) : Prop where
  up : ∀ i k : Nat, co c i ≠ -1000000000000000 → co d k ≠ -1000000000000000 → co c i + co d k ≤ co p (i + k)
  on : ∀ m : Nat, co p m ≠ -1000000000000000 → ∃ i k : Nat, i + k = m ∧ co c i ≠ -1000000000000000 ∧ co d k ≠ -1000000000000000 ∧ co p m = co c i + co d k
structure PartP (c d : List Int) (n i k : Nat) (s : List Int) : Prop where
  len : s.length = n
  up : ∀ p q : Nat, (p < i ∨ p = i ∧ q < k) → co c p ≠ -1000000000000000 → co d q ≠ -1000000000000000 → co c p + co d q ≤ co s (p + q)
  on : ∀ m : Nat, co s m = -1000000000000000 ∨ ∃ p q : Nat, p + q = m ∧ co c p ≠ -1000000000000000 ∧ co d q ≠ -1000000000000000 ∧ co s m = co c p + co d q
theorem co_set {s : List Int} {i m : Nat} {v : Int} (hi : i < s.length) : co (s.set i v) m = if m = i then v else co s m := by
  unfold co
  by_cases e : m = i
  · subst e; rw [if_pos rfl, List.getElem?_set_self hi]; rfl
  · rw [if_neg e, List.getElem?_set_ne (by omega)]
theorem PartP.step {c d s : List Int} {n i k : Nat} (hc : c.all valB = true) (hd : d.all valB = true) (h : PartP c d n i k s) (hn : i + k < n) : PartP c d n i (k + 1) (s.set (i + k) (mx (co s (i + k)) (timesI (co c i) (co d k)))) := by
  have hlt : i + k < s.length := by rw [h.len]; exact hn
  have vc := co_val hc i
  have vd := co_val hd k
  have vs : co s (i + k) = -1000000000000000 ∨ -2000000 ≤ co s (i + k) := by
    rcases h.on (i + k) with e | ⟨p, q, _, h1, h2, e⟩
    · exact .inl e
    · have := co_val hc p
      have := co_val hd q
      omega
  -- the new coefficient
  have hz : (mx (co s (i + k)) (timesI (co c i) (co d k)) = co s (i + k) ∧ (co c i = -1000000000000000 ∨ co d k = -1000000000000000 ∨ co c i + co d k ≤ co s (i + k))) ∨ (mx (co s (i + k)) (timesI (co c i) (co d k)) = co c i + co d k ∧ co c i ≠ -1000000000000000 ∧ co d k ≠ -1000000000000000 ∧ co s (i + k) ≤ co c i + co d k) := by
    rw [mx_eq]
    by_cases e1 : co c i = -1000000000000000
    · rw [e1, times_bot]; left; omega
    · by_cases e2 : co d k = -1000000000000000
      · rw [e2, show timesI (co c i) (-1000000000000000) = -1000000000000000 by simp [timesI]]; left; omega
      · rw [times_co e1 (by omega) (by omega)]
        by_cases e3 : co c i + co d k ≤ co s (i + k)
        · left; omega
        · right; omega
  refine ⟨by rw [List.length_set]; exact h.len, fun p q hpq h1 h2 => ?_, fun m => ?_⟩
  · rw [co_set hlt]
    by_cases e : p + q = i + k
    · rw [if_pos e]
      by_cases e2 : p = i ∧ q = k
      · obtain ⟨rfl, rfl⟩ := e2; omega
      · have := h.up p q (by omega) h1 h2
        rw [e] at this
        omega
    · rw [if_neg e]
      exact h.up p q (by omega) h1 h2
  · rw [co_set hlt]
    by_cases e : m = i + k
    · rw [if_pos e]
      rcases hz with ⟨hz, _⟩ | ⟨hz, h1, h2, _⟩
      · rw [hz]
        have := h.on m
        rw [e] at this ⊢
        exact this
      · exact .inr ⟨i, k, e.symm, h1, h2, hz⟩
    · rw [if_neg e]; exact h.on m
theorem mul_tc {c d : List Int} (hc : polyB c = true) (hd : polyB d = true) : M.TC (impl_MultiplyPolynomials c d) (fun r => r.2 = 0 ∧ polyB r.1 = true ∧ IsProd c d r.1 ∨ r.2 = 3) := by
  obtain ⟨c1, c2, c3⟩ := polyB_len hc
  obtain ⟨d1, d2, d3⟩ := polyB_len hd
  have c0 : 0 < c.length := by cases c with | nil => simp at c3 | cons _ _ => simp
  have d0 : 0 < d.length := by cases d with | nil => simp at d3 | cons _ _ => simp
  obtain ⟨n, hn⟩ : ∃ n, n + 1 = c.length + d.length := ⟨c.length + d.length - 1, by omega⟩
  have hw : w64 (w64 ((c.length : Int) + (d.length : Int)) - 1) = (n : Int) := by rw [w64_eq ((c.length : Int) + d.length) (by omega), w64_eq _ (by omega)]; omega
  have hcl : c.length ≤ 9223372036854775807 := by omega
  have hdl : d.length ≤ 9223372036854775807 := by omega
  unfold impl_MultiplyPolynomials
  refine M.TC_bindC (impl_IsPolynomial_ok hcl) (M.TC_bindC (x := false) (M.Conv_ite (fun q => by rw [hc] at q; cases q) (fun _ => M.Conv_bind (impl_IsPolynomial_ok hdl) ((M.Conv_ret _).of (by rw [hd]; rfl)))) (M.TC_ite (fun q => by cases q) (fun _ => ?_)))
  rw [hw]
  refine M.TC_bindC (M.Conv_make (by omega) (by omega)) ?_
  rw [Int.toNat_natCast, List.length_replicate]
  refine M.TC_ite (fun _ => M.TC_ret (.inr rfl)) (fun h12 => ?_)
  have h12 : n ≤ 12 := by have := of_decide_eq_false h12; omega
  let B : List Int := List.replicate n (-1000000000000000)
  have hB : B.length = n := by simp [B]
  have hBc : ∀ m, co B m = -1000000000000000 := fun m => by
    by_cases h : m < n
    · unfold co; simp [B, h]
    · exact co_out (by omega)
  refine M.TC_bindC (x := B) ((Conv_fillN (fun _ => (-1000000000000000)) 0 (by omega) fun i s hi hs => ?_).of (by simp [B, List.map_const'])) ?_
  · exact M.Conv_bind (M.Conv_get (x := s[i]) (by omega) (by simp [show i < s.length by omega])) (M.Conv_bind (M.Conv_upd (by omega)) (M.Conv_ret _))
  refine M.TC_bind (Mid := PartP c d n c.length 0) (M.TC_for (fun i s => PartP c d n i.toNat 0 s) _ (by omega) (by omega) ⟨hB, fun p q hpq => by simp at hpq, fun m => .inl (hBc m)⟩ (fun i s i0 i1 hs => ?_) (fun i s hi hs => ?_)) fun s hs => ?_
  · obtain ⟨j, rfl⟩ : ∃ j : Nat, i = j := ⟨i.toNat, by omega⟩
    simp only [Int.toNat_natCast] at hs
    have hj : j < c.length := by omega
    refine M.TC_bindC (co_read hj) (M.TC_bind (Mid := PartP c d n (j + 1) 0) (M.TC_for (fun k s => PartP c d n j k.toNat s) _ (by omega) (by omega) hs (fun k s k0 k1 hs => ?_) (fun k s hk hs => ?_)) fun s hs => M.TC_ret (.inl ⟨s, rfl, by rw [show ((j : Int) + 1).toNat = j + 1 by omega]; exact hs⟩))
    · obtain ⟨l, rfl⟩ : ∃ l : Nat, k = l := ⟨k.toNat, by omega⟩
      simp only [Int.toNat_natCast] at hs
      have hl : l < d.length := by omega
      have ew : w64 ((j : Int) + (l : Int)) = ((j + l : Nat) : Int) := by rw [w64_eq _ (by omega)]; omega
      have hlt : j + l < s.length := by rw [hs.len]; omega
      rw [ew]
      exact M.TC_bindC (co_read hl) (M.TC_bindC (co_read hlt) (M.TC_bindC (impl_times_ok _ _) (M.TC_bindC (co_read hlt) (M.TC_bindC (M.Conv_upd hlt) (M.TC_ret (.inl ⟨_, rfl, by rw [show ((l : Int) + 1).toNat = l + 1 by omega]; exact hs.step c2 d2 (by omega)⟩))))))
    · have hk : k = (d.length : Int) := by omega
      subst hk
      simp only [Int.toNat_natCast] at hs
      refine ⟨hs.len, fun p q hpq h1 h2 => hs.up p q ?_ h1 h2, hs.on⟩
      have := co_lt h2
      omega
  · have hi : i = (c.length : Int) := by omega
    subst hi
    simpa using hs
  · have hsl := hs.len
    refine M.TC_bindC (impl_checkedVector_ok (by omega)) ?_
    cases hv : s.all valB with
    | false => exact M.TC_ret (.inr rfl)
    | true =>
      have hup : ∀ i k : Nat, co c i ≠ -1000000000000000 → co d k ≠ -1000000000000000 → co c i + co d k ≤ co s (i + k) := fun i k h1 h2 => hs.up i k (.inl (co_lt h1)) h1 h2
      refine M.TC_ret (.inl ⟨rfl, ?_, hup, fun m hm => (hs.on m).resolve_left hm⟩)
      simp only [polyB, cond_true, hv, decide_eq_true (show s.length ≤ 12 by omega), Bool.true_and]
      obtain ⟨i, hi⟩ := poly_some c3
      obtain ⟨k, hk⟩ := poly_some d3
      have := hup i k hi hk
      have vc := co_val c2 i
      have vd := co_val d2 k
      have hne : co s (i + k) ≠ -1000000000000000 := by omega
      have hl := co_lt hne
      rw [List.any_eq_true]
      exact ⟨_, List.mem_of_getElem? (co_get hl), by simpa using hne⟩

theorem draw9_ok {code : List Int} (hc : ByC code) {s : TL01source} (hs : Src code s) : M.TC (spec_l09Draw s) (fun r => VecS r.1 ∧ 1 ≤ r.1.length ∧ r.1.length ≤ 13 ∧ Src code r.2) := by
  unfold spec_l09Draw
  rw [hs.code_]
  refine M.TC_bind (next_ok hc hs 6 (by omega)) fun x hx => ?_
  refine M.TC_bind (Mid := fun (r : Int × Int × List Int × Int) => Src code ⟨code, r.1, r.2.1⟩ ∧ VecS r.2.2.1 ∧ 1 ≤ r.2.2.1.length ∧ r.2.2.1.length ≤ 6) (M.TC_loop (fun (r : Int × Int × List Int × Int) => Src code ⟨code, r.1, r.2.1⟩ ∧ VecS r.2.2.1 ∧ 0 ≤ r.2.2.2 ∧ (r.2.2.1.length : Int) + r.2.2.2 ≤ 6 ∧ 1 ≤ (r.2.2.1.length : Int) + r.2.2.2) (fun r => r.2.2.2.toNat) _ ⟨hx.1.mk' rfl, ⟨by simp, by simp⟩, ?_, ?_, ?_⟩ fun r hI => ?_) fun r hr => ?_
  · simp only; rw [w64_eq _ (by omega)]; omega
  · simp only [List.length_nil]; rw [w64_eq _ (by omega)]; omega
  · simp only [List.length_nil]; rw [w64_eq _ (by omega)]; omega
  · obtain ⟨h1, h2, h3, h4, h5⟩ := hI
    refine M.TC_ite (fun t => ?_) (fun t => M.TC_ret (.inr ⟨_, rfl, h1, h2, ?_, ?_⟩))
    · have t : 0 < r.2.2.2 := by simpa using t
      refine M.TC_bind (next_ok hc h1 21 (by omega)) fun x hx => M.TC_bindC (M.Conv_app (by simp; omega)) (M.TC_bind (next_ok hc (hx.1.mk' rfl) 5 (by omega)) fun y hy => ?_)
      have hv : VecS (r.2.2.1 ++ [w64 (x.1 - 10)]) := h2.snoc (by omega) (w64_bd _)
      have hl : (r.2.2.1 ++ [w64 (x.1 - 10)]).length = r.2.2.1.length + 1 := by simp
      generalize r.2.2.1 ++ [w64 (x.1 - 10)] = l1 at hv hl ⊢
      refine M.TC_bind (Mid := fun l => VecS l ∧ l.length = l1.length) (M.TC_ite (fun _ => ?_) (fun _ => M.TC_ret ⟨hv, rfl⟩)) fun l hl2 => M.TC_ret (.inl ⟨_, rfl, ⟨hy.1.mk' rfl, hl2.1, ?_, ?_, ?_⟩, ?_⟩)
      · have ew : w64 ((l1.length : Int) - 1) = ((l1.length - 1 : Nat) : Int) := by rw [w64_eq _ (by omega)]; omega
        rw [ew]
        exact M.TC_bind (Mid := fun _ => True) (M.TC_idx (by omega) (by omega) fun _ _ => trivial) fun _ _ => M.TC_bindC (M.Conv_upd (by omega)) (M.TC_ret ⟨hv.set _ (by simp [inI64]), by simp⟩)
      · simp only; rw [w64_eq _ (by omega)]; omega
      · simp only; rw [w64_eq _ (by omega)]; omega
      · simp only; rw [w64_eq _ (by omega)]; omega
      · simp only; rw [w64_eq _ (by omega)]; omega
    · have t : r.2.2.2 ≤ 0 := by simpa using t
      simp only; omega
    · have t : r.2.2.2 ≤ 0 := by simpa using t
      simp only; omega
  · obtain ⟨h1, h2, h3, h4⟩ := hr
    refine M.TC_bind (next_ok hc h1 60 (by omega)) fun x hx => ?_
    refine M.TC_ite (fun _ => M.TC_ret ⟨⟨by simp, by simp [inI64]⟩, by simp, by simp, hx.1.mk' rfl⟩) (fun _ => M.TC_ite (fun _ => ?_) (fun _ => ?_))
    · refine M.TC_bind (next_ok hc (hx.1.mk' rfl) 2 (by omega)) fun y hy => ?_
      have ew : w64 (12 + y.1) = 12 + y.1 := w64_eq _ (by omega)
      rw [ew]
      refine M.TC_bindC (M.Conv_make (by omega) (by omega)) (M.TC_ret ⟨⟨by simp; omega, fun v hv => ?_⟩, by simp; omega, by simp; omega, hy.1.mk' rfl⟩)
      have := List.eq_of_mem_replicate hv
      subst this; simp [inI64]
    · refine M.TC_bind (Mid := fun (r : List Int × Int × Int) => (VecS r.1 ∧ 1 ≤ r.1.length ∧ r.1.length ≤ 6) ∧ Src code ⟨code, r.2.1, r.2.2⟩) (M.TC_ite (fun _ => ?_) (fun _ => M.TC_ret ⟨⟨h2, h3, h4⟩, hx.1.mk' rfl⟩)) fun u hu => M.TC_ret ⟨hu.1.1, hu.1.2.1, by have := hu.1.2.2; simp only; omega, hu.2⟩
      refine M.TC_bind (value_ok hc (hx.1.mk' rfl)) fun y hy => M.TC_bind (Mid := fun _ => True) (M.TC_idx (by omega) (by omega) fun _ _ => trivial) fun _ _ => M.TC_bindC (M.Conv_upd (i := 0) (by omega)) (M.TC_ret ⟨⟨h2.set 0 hy.2, by simpa using h3, by simpa using h4⟩, hy.1.mk' rfl⟩)
structure PolS (c : List Int) : Prop where
  vec : VecS c
  pos : 1 ≤ c.length
  len : c.length ≤ 13
theorem drawTwo_ok {code : List Int} (hc : ByC code) {s : TL01source} (hs : Src code s) : M.TC (spec_l09DrawTwo s) (fun r => PolS r.1 ∧ PolS r.2.1 ∧ Src code r.2.2) := by
  unfold spec_l09DrawTwo
  rw [hs.code_]
  refine M.TC_bind (draw9_ok hc hs) fun x hx => M.TC_bind (next_ok hc (hx.2.2.2.mk' rfl) 3 (by omega)) fun y hy => ?_
  have hP : PolS x.1 := ⟨hx.1, hx.2.1, hx.2.2.1⟩
  have hlen := hP.len
  refine M.TC_bind (Mid := fun b => b = true → polyB x.1 = true) (M.TC_ite (fun _ => M.TC_bindC (spec_IsPolynomial_ok (by omega)) (M.TC_ret fun h => h)) (fun _ => M.TC_ret fun h => by cases h)) fun b hb => M.TC_ite (fun t => ?_) (fun _ => ?_)
  · have hpoly := hb t
    obtain ⟨w, w1, w2, _, w4⟩ := full_Two x.1 hP.vec.fit hP.vec.sm
    obtain ⟨w5, w6⟩ := w4 hpoly
    have hw : PolS w.1 := ⟨⟨by omega, w6⟩, by rw [w5]; exact hP.pos, by omega⟩
    refine M.TC_bindC w1 (M.TC_bind (next_ok hc (hy.1.mk' rfl) 4 (by omega)) fun z hz => ?_)
    refine M.TC_bind (Mid := fun (r : List Int × Int × Int) => PolS r.1 ∧ Src code ⟨code, r.2.1, r.2.2⟩) (M.TC_ite (fun _ => ?_) (fun _ => M.TC_ret ⟨hw, hz.1.mk' rfl⟩)) fun u hu => M.TC_ret ⟨hP, hu.1, hu.2⟩
    have hwl := hw.len
    have hwp := hw.pos
    refine M.TC_bind (next_ok hc (hz.1.mk' rfl) _ (by omega)) fun i hi => M.TC_bind (next_ok hc (hi.1.mk' rfl) 21 (by omega)) fun v hv => M.TC_bind (Mid := fun _ => True) (M.TC_idx hi.2.1 (by omega) fun _ _ => trivial) fun _ _ => ?_
    refine M.TC_bind (Mid := PolS) (M.TC_upd hi.2.1 (by omega) ⟨hw.vec.set _ (w64_bd _), by simpa using hwp, by simpa using hwl⟩) fun l hl => M.TC_ret ⟨hl, hv.1.mk' rfl⟩
  · exact M.TC_bind (draw9_ok hc (hy.1.mk' rfl)) fun z hz => M.TC_ret ⟨hP, ⟨hz.1, hz.2.1, hz.2.2.1⟩, hz.2.2.2.mk' rfl⟩
theorem mul_bad {c d : List Int} (hc : c.length ≤ 9223372036854775807) (hd : d.length ≤ 9223372036854775807) (h : (polyB c && polyB d) = false) : M.Conv (impl_MultiplyPolynomials c d) ([], 1) := by
  unfold impl_MultiplyPolynomials
  refine M.Conv_bind (impl_IsPolynomial_ok hc) (M.Conv_bind (x := true) ((Conv_or (v := !(polyB d)) fun _ => M.Conv_bind (impl_IsPolynomial_ok hd) (M.Conv_ret _)).of ?_) (M.Conv_ite (fun _ => M.Conv_ret _) (fun t => by cases t)))
  rw [← Bool.not_and, h]; rfl
theorem shp_width {a : List (List Int)} {w : Nat} (h : Shp a w) : widthN a = w := by
  have h1 := h.rows
  unfold widthN
  cases a with
  | nil => simp at h1
  | cons r rs => exact h.row r (by simp)
theorem mat_matB {a : List (List Int)} {w : Nat} (h : Mat a w) : matB a = true := by
  rw [matB_shp h.shp, List.all_eq_true]
  intro r hr
  rw [List.all_eq_true]
  exact (h.row r hr).2
structure DotP (u v : Nat → Int) (n : Nat) (s : Int) : Prop where
  up : ∀ j, j < n → u j ≠ -1000000000000000 → v j ≠ -1000000000000000 → u j + v j ≤ s
  on : s = -1000000000000000 ∨ ∃ j, j < n ∧ u j ≠ -1000000000000000 ∧ v j ≠ -1000000000000000 ∧ s = u j + v j
def Bd (B : Int) (x : Int) : Prop := x = -1000000000000000 ∨ (-B ≤ x ∧ x ≤ B)
theorem DotP.unique {u v : Nat → Int} {n : Nat} {s t : Int} (hu : ∀ j, j < n → Bd 2000000 (u j)) (hv : ∀ j, j < n → Bd 2000000 (v j)) (h : DotP u v n s) (g : DotP u v n t) : s = t := by
  have key : ∀ {s t : Int}, DotP u v n s → DotP u v n t → t ≤ s := fun {s t} h g => by
    rcases g.on with e | ⟨j, hj, h1, h2, e⟩
    · rcases h.on with e' | ⟨j, hj, h1, h2, e'⟩
      · omega
      · have b1 := hu j hj
        have b2 := hv j hj
        unfold Bd at b1 b2
        omega
    · have := h.up j hj h1 h2
      omega
  have := key h g
  have := key g h
  omega
theorem nd_of {l : List Int} {i : Nat} {x : Int} (h : l[i]? = some x) : nd l i = x := by unfold nd; rw [h]; rfl
theorem dotL_ok {x row : List Int} (hl : x.length = row.length) (hr : ∀ j, j < row.length → Bd 2000000 (nd row j)) (hx : ∀ j, j < row.length → Bd 2000000 (nd x j)) : DotP (nd row) (nd x) row.length (dotL x row) := by
  have key := foldI_at (g := fun j v s => mx s (timesI v ((x[j]?).getD 0))) (a := row) (fun k (s : Int) => k ≤ row.length ∧ -1000000000000000 ≤ s ∧ (∀ j, j < k → nd row j ≠ -1000000000000000 → nd x j ≠ -1000000000000000 → nd row j + nd x j ≤ s) ∧ (s = -1000000000000000 ∨ ∃ j, j < k ∧ nd row j ≠ -1000000000000000 ∧ nd x j ≠ -1000000000000000 ∧ s = nd row j + nd x j)) row 0 (-1000000000000000) (fun k => by simp) ⟨by omega, by omega, fun j hj => by omega, .inl rfl⟩ (fun k v s hv hI => by
    obtain ⟨_, i1, i2, i3⟩ := hI
    have hk := (List.getElem?_eq_some_iff.1 hv).1
    have ev := nd_of hv
    have b1 := hr k hk
    have b2 := hx k hk
    unfold Bd at b1 b2
    have et : timesI v ((x[k]?).getD 0) = bif (v == (-1000000000000000)) || (nd x k == (-1000000000000000)) then -1000000000000000 else v + nd x k := by
      change timesI v (nd x k) = _
      unfold timesI
      cases hz : ((v == (-1000000000000000)) || (nd x k == (-1000000000000000))) with
      | true => rfl
      | false =>
        simp only [Bool.or_eq_false_iff, beq_eq_false_iff_ne, ne_eq] at hz
        simp only [cond_false]
        exact w64_eq _ (by omega)
    refine ⟨by omega, by rw [mx_eq]; omega, fun j hj h1 h2 => ?_, ?_⟩
    · rw [mx_eq]
      by_cases e : j = k
      · subst e
        rw [et, show (v == (-1000000000000000)) = false by rw [← ev]; simpa using h1, show (nd x j == (-1000000000000000)) = false by simpa using h2]
        simp only [Bool.or_self, cond_false]; omega
      · have := i2 j (by omega) h1 h2
        omega
    · rw [mx_eq, et]
      have old : s = -1000000000000000 ∨ ∃ j, j < k + 1 ∧ nd row j ≠ -1000000000000000 ∧ nd x j ≠ -1000000000000000 ∧ s = nd row j + nd x j := i3.imp id fun ⟨j, hj, h⟩ => ⟨j, by omega, h⟩
      cases hz : ((v == (-1000000000000000)) || (nd x k == (-1000000000000000))) with
      | true =>
        simp only [cond_true]
        rw [show max s (-1000000000000000) = s by omega]
        exact old
      | false =>
        simp only [Bool.or_eq_false_iff, beq_eq_false_iff_ne, ne_eq] at hz
        simp only [cond_false]
        by_cases e : s ≤ v + nd x k
        · rw [show max s (v + nd x k) = v + nd x k by omega]
          exact .inr ⟨k, by omega, by rw [ev]; exact hz.1, hz.2, by rw [ev]⟩
        · rw [show max s (v + nd x k) = s by omega]
          exact old)
  obtain ⟨_, _, k2, k3⟩ := key
  rw [Nat.zero_add] at k2 k3
  exact ⟨k2, k3⟩
def rowN (a : List (List Int)) (i : Nat) : List Int := (a[i]?).getD []
theorem rowN_get {a : List (List Int)} {i : Nat} (h : i < a.length) : a[i]? = some (rowN a i) := by unfold rowN; rw [List.getElem?_eq_getElem h]; rfl
theorem nd_row {a : List (List Int)} {i j : Nat} (h : i < a.length) : nd (rowN a i) j = entA a i j := (ent_at (rowN_get h)).symm
theorem nd_col {b : List (List Int)} {j k : Nat} (h : j < b.length) : nd (colL b k) j = entA b j k := nd_of (tab_get h)
def mulM (a b : List (List Int)) : List (List Int) := matF a.length (widthN b) fun i k => dotL (colL b k) (rowN a i)
theorem mulM_shp {a b : List (List Int)} {n w : Nat} (ha : Shp a n) (hb : Shp b w) : Shp (mulM a b) w := by
  unfold mulM
  rw [shp_width hb]
  exact shp_of ha.rows hb.cols
theorem mat_bd {a : List (List Int)} {w i j : Nat} (h : Mat a w) (hi : i < a.length) (hj : j < w) : Bd 1000000 (entA a i j) := val_ent h hi hj
theorem DotP.congr {u v u' v' : Nat → Int} {n : Nat} {s : Int} (h : DotP u v n s) (hu : ∀ j, j < n → u j = u' j) (hv : ∀ j, j < n → v j = v' j) : DotP u' v' n s := by
  refine ⟨fun j hj h1 h2 => ?_, ?_⟩
  · rw [← hu j hj] at h1 ⊢
    rw [← hv j hj] at h2 ⊢
    exact h.up j hj h1 h2
  · rcases h.on with e | ⟨j, hj, h1, h2, e⟩
    · exact .inl e
    · rw [hu j hj] at h1 e
      rw [hv j hj] at h2 e
      exact .inr ⟨j, hj, h1, h2, e⟩
theorem bd_up {x : Int} (h : Bd 1000000 x) : Bd 2000000 x := by unfold Bd at *; omega
theorem mulM_eq (a b : List (List Int)) : mulM a b = matF a.length (widthN b) fun i k => dotL (colL b k) (rowN a i) := rfl
def pw (a f : List (List Int)) : Nat → List (List Int)
  | 0 => f
  | k + 1 => mulM a (pw a f k)
structure Ser (a f : List (List Int)) (w : Nat) : Prop where
  mat : Mat a a.length
  fst : Mat f w
  len : f.length = a.length
theorem Ser.shp {a f : List (List Int)} {w : Nat} (h : Ser a f w) : ∀ k, Shp (pw a f k) w ∧ (pw a f k).length = a.length
  | 0 => ⟨h.fst.shp, h.len⟩
  | k + 1 => ⟨mulM_shp h.mat.shp (h.shp k).1, matF_len _ _ _⟩
def okTo (a f : List (List Int)) (k : Nat) : Prop := ∀ i, i ≤ k → matB (pw a f i) = true
theorem Ser.zero {a f : List (List Int)} {w : Nat} (h : Ser a f w) : okTo a f 0 := fun i hi => by
  obtain rfl : i = 0 := by omega
  exact mat_matB h.fst
theorem okTo.mono {a f : List (List Int)} {k m : Nat} (h : okTo a f k) (hm : m ≤ k) : okTo a f m := fun i hi => h i (by omega)
def fl (a f : List (List Int)) (i : Nat) : List Int := (pw a f i).flatten
theorem Ser.pm {a f : List (List Int)} {w k : Nat} (hs : Ser a f w) (ok : okTo a f k) {i : Nat} (hi : i ≤ k) : Mat (pw a f i) w := by
  have := matB_mat (ok i hi)
  rwa [shp_width (hs.shp i).1] at this
/-- what lies in a product of matrices of values -/
theorem mul_dot {A B : List (List Int)} {n w : Nat} (hA : Shp A n) (hB : Shp B w) (hn : B.length = n) (bA : ∀ i j, i < A.length → j < n → Bd 2000000 (entA A i j)) (bB : ∀ j k, j < n → k < w → Bd 2000000 (entA B j k)) {i k : Nat} (hi : i < A.length) (hk : k < w) :
    DotP (entA A i) (fun j => entA B j k) n (entA (mulM A B) i k) := by
  have hrl := hA.row _ (List.mem_of_getElem? (rowN_get hi))
  have hcl : (colL B k).length = B.length := tab_len _ _
  have he : entA (mulM A B) i k = dotL (colL B k) (rowN A i) := by
    rw [mulM_eq]
    exact entA_matF hi (by rw [shp_width hB]; exact hk)
  have := dotL_ok (x := colL B k) (row := rowN A i) (by omega) (fun j hj => by rw [nd_row hi]; exact bA i j hi (by omega)) (fun j hj => by rw [nd_col (by omega)]; exact bB j k (by omega) hk)
  rw [hrl, ← he] at this
  exact this.congr (fun j _ => nd_row hi) (fun j hj => nd_col (by omega))
theorem mul_bdd {A B : List (List Int)} {n w : Nat} (hA : Mat A n) (hB : Mat B w) (hn : B.length = n) {i k : Nat} (hi : i < A.length) (hk : k < w) : Bd 2000000 (entA (mulM A B) i k) := by
  have d := mul_dot hA.shp hB.shp hn (fun i j hi hj => bd_up (mat_bd hA hi hj)) (fun j k hj hk => bd_up (mat_bd hB (by omega) hk)) hi hk
  rcases d.on with e | ⟨j, hj, h1, h2, e⟩
  · exact .inl e
  · have b1 := mat_bd hA hi hj
    have b2 := mat_bd hB (i := j) (j := k) (by omega) hk
    unfold Bd at *
    omega
theorem dot_ne {u v : Nat → Int} {n : Nat} {s : Int} (hu : ∀ j, j < n → Bd 2000000 (u j)) (hv : ∀ j, j < n → Bd 2000000 (v j)) (h : DotP u v n s) {j : Nat} (hj : j < n) (h1 : u j ≠ -1000000000000000) (h2 : v j ≠ -1000000000000000) : s ≠ -1000000000000000 := by
  have := h.up j hj h1 h2
  have b1 := hu j hj
  have b2 := hv j hj
  unfold Bd at *
  omega
theorem mul_assoc {A B C : List (List Int)} {n m w : Nat} (hA : Mat A n) (hB : Mat B m) (hC : Mat C w) (h1 : B.length = n) (h2 : C.length = m) : mulM (mulM A B) C = mulM A (mulM B C) := by
  have sAB := mulM_shp hA.shp hB.shp
  have sBC := mulM_shp hB.shp hC.shp
  have lAB : (mulM A B).length = A.length := matF_len _ _ _
  have lBC : (mulM B C).length = B.length := matF_len _ _ _
  have b0 : ∀ i k, i < A.length → k < m → Bd 2000000 (entA (mulM A B) i k) := fun i k hi hk => mul_bdd hA hB h1 hi hk
  have b1 : ∀ i k, i < n → k < w → Bd 2000000 (entA (mulM B C) i k) := fun i k hi hk => mul_bdd hB hC h2 (by omega) hk
  have bA : ∀ i j, i < A.length → j < n → Bd 2000000 (entA A i j) := fun i j hi hj => bd_up (mat_bd hA hi hj)
  have bB : ∀ i j, i < n → j < m → Bd 2000000 (entA B i j) := fun i j hi hj => bd_up (mat_bd hB (by omega) hj)
  have bC : ∀ i j, i < m → j < w → Bd 2000000 (entA C i j) := fun i j hi hj => bd_up (mat_bd hC (by omega) hj)
  have sL := mulM_shp sAB hC.shp
  have sR := mulM_shp hA.shp sBC
  have lL : (mulM (mulM A B) C).length = A.length := (matF_len _ _ _).trans lAB
  have lR : (mulM A (mulM B C)).length = A.length := matF_len _ _ _
  rw [mat_eq sL, mat_eq sR, lL, lR]
  refine matF_congr fun i k hi hk => ?_
  have dL := mul_dot sAB hC.shp h2 (fun i j hi hj => b0 i j (by omega) hj) bC (i := i) (k := k) (by omega) hk
  have dR := mul_dot hA.shp sBC (by omega) bA b1 hi hk
  have dAB := fun l (hl : l < m) => mul_dot hA.shp hB.shp h1 bA bB (i := i) (k := l) hi hl
  have dBC := fun j (hj : j < n) => mul_dot hB.shp hC.shp h2 (fun i j hi hj => bB i j (by omega) hj) bC (i := j) (k := k) (by omega) hk
  have hle1 : entA (mulM (mulM A B) C) i k ≠ -1000000000000000 → entA (mulM A (mulM B C)) i k ≠ -1000000000000000 ∧ entA (mulM (mulM A B) C) i k ≤ entA (mulM A (mulM B C)) i k := fun hne => by
    obtain ⟨l, hl, n1, n2, e⟩ := dL.on.resolve_left hne
    obtain ⟨j, hj, n3, n4, e2⟩ := (dAB l hl).on.resolve_left n1
    have u1 := (dBC j hj).up l hl n4 n2
    have n5 := dot_ne (fun l hl => bB j l hj hl) (fun l hl => bC l k hl hk) (dBC j hj) hl n4 n2
    have u2 := dR.up j hj n3 n5
    have n6 := dot_ne (fun j hj => bA i j hi hj) (fun j hj => b1 j k hj hk) dR hj n3 n5
    exact ⟨n6, by omega⟩
  have hle2 : entA (mulM A (mulM B C)) i k ≠ -1000000000000000 → entA (mulM (mulM A B) C) i k ≠ -1000000000000000 ∧ entA (mulM A (mulM B C)) i k ≤ entA (mulM (mulM A B) C) i k := fun hne => by
    obtain ⟨j, hj, n1, n2, e⟩ := dR.on.resolve_left hne
    obtain ⟨l, hl, n3, n4, e2⟩ := (dBC j hj).on.resolve_left n2
    have u1 := (dAB l hl).up j hj n1 n3
    have n5 := dot_ne (fun j hj => bA i j hi hj) (fun j hj => bB j l hj hl) (dAB l hl) hj n1 n3
    have u2 := dL.up l hl n5 n4
    have n6 := dot_ne (fun l hl => b0 i l hi hl) (fun l hl => bC l k hl hk) dL hl n5 n4
    exact ⟨n6, by omega⟩
  by_cases e1 : entA (mulM (mulM A B) C) i k = -1000000000000000
  · by_cases e2 : entA (mulM A (mulM B C)) i k = -1000000000000000
    · rw [e1, e2]
    · exact absurd e1 (hle2 e2).1
  · have := hle1 e1
    have := hle2 this.1
    omega
structure Gr (g : TGraph) (n : Nat) : Prop where
  ev : g.Events = (n : Int)
  lo : 1 ≤ n
  hi : n ≤ 10
  len : g.Places.length ≤ 30
  pl : ∀ p ∈ g.Places, (0 ≤ p.From ∧ p.From < n) ∧ (0 ≤ p.To ∧ p.To < n) ∧ 0 ≤ p.Tokens ∧ p.Tokens ≤ 5
/-- a way from s of at most k places -/
inductive Wk (ps : List TPlace) (s : Int) : Nat → Int → Int → Prop
  | nil (k : Nat) : Wk ps s k s 0
  | step (k : Nat) (p : TPlace) (w : Int) : p ∈ ps → Wk ps s k p.From w → Wk ps s (k + 1) p.To (w + p.Tokens)
theorem Wk.mono {ps : List TPlace} {s : Int} {k : Nat} {v w : Int} (h : Wk ps s k v w) : ∀ {m : Nat}, k ≤ m → Wk ps s m v w := by
  induction h with
  | nil k => exact fun _ => .nil _
  | step k p w hp _ ih =>
    intro m hm
    obtain ⟨m', rfl⟩ : ∃ m', m = m' + 1 := ⟨m - 1, by omega⟩
    exact .step m' p w hp (ih (by omega))
def muL : List Int → Nat
  | [] => 0
  | x :: xs => (if x < 0 then 1000 else x.toNat) + muL xs
def cntL : List Int → Nat
  | [] => 0
  | x :: xs => (if x < 0 then 0 else 1) + cntL xs
theorem cnt_le : ∀ d : List Int, cntL d ≤ d.length
  | [] => Nat.le_refl _
  | x :: xs => by
    have := cnt_le xs
    simp only [cntL, List.length_cons]
    split <;> omega
theorem nd_cons (x : Int) (xs : List Int) (i : Nat) : nd (x :: xs) (i + 1) = nd xs i := by simp [nd]
theorem mu_set : ∀ {d : List Int} {i : Nat} {x : Int}, i < d.length → 0 ≤ x → x ≤ 900 → (nd d i < 0 ∨ x < nd d i) → muL (d.set i x) < muL d ∧ cntL (d.set i x) = cntL d + (if nd d i < 0 then 1 else 0)
  | y :: ys, 0, x, _, h0, h1, h => by
    have e : nd (y :: ys) 0 = y := by simp [nd]
    rw [e] at h ⊢
    simp only [List.set_cons_zero, muL, cntL]
    rw [if_neg (show ¬ x < 0 by omega), if_neg (show ¬ x < 0 by omega)]
    by_cases hy : y < 0
    · simp only [if_pos hy]; omega
    · simp only [if_neg hy]; omega
  | y :: ys, i + 1, x, hi, h0, h1, h => by
    rw [nd_cons] at h ⊢
    have := mu_set (d := ys) (i := i) (by simpa using hi) h0 h1 h
    simp only [List.set_cons_succ, muL, cntL]
    omega
theorem nd_set {d : List Int} {i v : Nat} {x : Int} (hi : i < d.length) : nd (d.set i x) v = if v = i then x else nd d v := by
  unfold nd
  by_cases e : v = i
  · subst e; rw [if_pos rfl, List.getElem?_set_self hi]; rfl
  · rw [if_neg e, List.getElem?_set_ne (by omega)]
structure DInv (ps : List TPlace) (s : Int) (n : Nat) (d : List Int) : Prop where
  len : d.length = n
  src : nd d s.toNat = 0
  way : ∀ v : Int, 0 ≤ v → v < n → nd d v.toNat = -1 ∨ (0 ≤ nd d v.toNat ∧ ∃ k, Wk ps s k v (nd d v.toNat))
  bd : ∀ v : Nat, v < n → nd d v ≤ 5 * ((cntL d : Int) - 1)
  one : 1 ≤ cntL d
def Relax (ps : List TPlace) (d : List Int) : Prop := ∀ p ∈ ps, 0 ≤ nd d p.From.toNat → 0 ≤ nd d p.To.toNat ∧ nd d p.To.toNat ≤ nd d p.From.toNat + p.Tokens
theorem DInv.upd {g : TGraph} {s : Int} {n : Nat} {d : List Int} (hg : Gr g n) (hs : 0 ≤ s ∧ s < n) (h : DInv g.Places s n d) {p : TPlace} (hp : p ∈ g.Places) (hf : 0 ≤ nd d p.From.toNat) (ht : nd d p.To.toNat < 0 ∨ nd d p.From.toNat + p.Tokens < nd d p.To.toNat) :
    DInv g.Places s n (d.set p.To.toNat (nd d p.From.toNat + p.Tokens)) ∧ muL (d.set p.To.toNat (nd d p.From.toNat + p.Tokens)) < muL d := by
  obtain ⟨f1, t1, k0, k5⟩ := hg.pl p hp
  have hlt : p.To.toNat < d.length := by rw [h.len]; omega
  have hb := h.bd p.From.toNat (by omega)
  have hc := cnt_le d
  have hn := hg.hi
  have hl := h.len
  obtain ⟨m1, m2⟩ := mu_set (x := nd d p.From.toNat + p.Tokens) hlt (by omega) (by omega) ht
  refine ⟨⟨by rw [List.length_set]; exact h.len, ?_, fun v v0 v1 => ?_, fun v hv => ?_, by rw [m2]; have := h.one; omega⟩, m1⟩
  · rw [nd_set hlt]
    by_cases e : s.toNat = p.To.toNat
    · have := h.src
      rw [e] at this
      omega
    · rw [if_neg e]; exact h.src
  · rw [nd_set hlt]
    by_cases e : v.toNat = p.To.toNat
    · rw [if_pos e]
      right
      refine ⟨by omega, ?_⟩
      rcases h.way p.From f1.1 f1.2 with h1 | ⟨_, k, h1⟩
      · omega
      · obtain rfl : v = p.To := by omega
        exact ⟨k + 1, .step k p _ hp h1⟩
    · rw [if_neg e]; exact h.way v v0 v1
  · rw [nd_set hlt, m2]
    have := h.bd v hv
    by_cases e : v = p.To.toNat
    · rw [if_pos e]
      by_cases e2 : nd d p.To.toNat < 0
      · rw [if_pos e2]; omega
      · rw [if_neg e2]
        have := h.bd p.To.toNat (by omega)
        omega
    · rw [if_neg e]
      split <;> omega
theorem Relax.le {ps : List TPlace} {s : Int} {d : List Int} (hr : Relax ps d) (h0 : nd d s.toNat = 0) {k : Nat} {v w : Int} (h : Wk ps s k v w) : 0 ≤ nd d v.toNat ∧ nd d v.toNat ≤ w := by
  induction h with
  | nil k => omega
  | step k p w hp _ ih =>
    have := hr p hp ih.1
    omega
theorem nodup_lt : ∀ (n : Nat) (l : List Nat), l.Nodup → (∀ v ∈ l, v < n) → l.length ≤ n
  | 0, [], _, _ => Nat.le_refl _
  | 0, v :: _, _, h => absurd (h v List.mem_cons_self) (by omega)
  | n + 1, l, hd, h => by
    by_cases hm : n ∈ l
    · have := nodup_lt n (l.erase n) (hd.erase n) (fun v hv => by
        have h1 := (hd.mem_erase_iff).1 hv
        have := h v h1.2
        have := h1.1
        omega)
      rw [List.length_erase_of_mem hm] at this
      omega
    · have := nodup_lt n l hd (fun v hv => by
        have := h v hv
        have : v ≠ n := fun e => hm (e ▸ hv)
        omega)
      omega
theorem chain {P : Nat → Nat → Prop} {n s : Nat} (hs : s < n) (h0 : P 0 s) (mono : ∀ k v, P k v → P (k + 1) v) (step : ∀ k, (∀ v, v < n → P (k + 1) v → P k v) → ∀ v, v < n → P (k + 2) v → P (k + 1) v) : ∀ k v, v < n → P k v → P n v := by
  have key : ∀ k, k ≤ n → (∃ j, j < k ∧ ∀ v, v < n → P (j + 1) v → P j v) ∨ ∃ l : List Nat, l.Nodup ∧ l.length = k + 1 ∧ ∀ v ∈ l, v < n ∧ P k v := by
    intro k
    induction k with
    | zero => exact fun _ => .inr ⟨[s], by simp, rfl, fun v hv => by simp at hv; subst hv; exact ⟨hs, h0⟩⟩
    | succ k ih =>
      intro hk
      rcases ih (by omega) with ⟨j, hj, h⟩ | ⟨l, l1, l2, l3⟩
      · exact .inl ⟨j, by omega, h⟩
      · by_cases hst : ∀ v, v < n → P (k + 1) v → P k v
        · exact .inl ⟨k, by omega, hst⟩
        · right
          have : ∃ v, v < n ∧ P (k + 1) v ∧ ¬ P k v := by
            refine Classical.byContradiction fun hc => hst fun v hv hp => Classical.byContradiction fun hnp => hc ⟨v, hv, hp, hnp⟩
          obtain ⟨v, hv, hp, hnp⟩ := this
          refine ⟨v :: l, List.nodup_cons.2 ⟨fun hm => hnp (l3 v hm).2, l1⟩, by simp [l2], fun u hu => ?_⟩
          rcases List.mem_cons.1 hu with rfl | hu
          · exact ⟨hv, hp⟩
          · exact ⟨(l3 u hu).1, mono _ _ (l3 u hu).2⟩
  obtain ⟨j, hj, hst⟩ : ∃ j, j < n ∧ ∀ v, v < n → P (j + 1) v → P j v := by
    rcases key n (Nat.le_refl _) with h | ⟨l, l1, l2, l3⟩
    · exact h
    · have := nodup_lt n l l1 fun v hv => (l3 v hv).1
      omega
  have up : ∀ d k v, P k v → P (k + d) v := by
    intro d
    induction d with
    | zero => exact fun k v h => h
    | succ d ih => exact fun k v h => mono _ _ (ih k v h)
  have stay : ∀ d, ∀ v, v < n → P (j + d + 1) v → P (j + d) v := by
    intro d
    induction d with
    | zero => exact hst
    | succ d ih => exact step (j + d) ih
  have down : ∀ d v, v < n → P (j + d) v → P j v := by
    intro d
    induction d with
    | zero => exact fun v _ h => h
    | succ d ih => exact fun v hv h => ih v hv (stay d v hv h)
  intro k v hv hp
  have h1 : P (j + k) v := by have := up j k v hp; rwa [Nat.add_comm] at this
  have h2 := down k v hv h1
  have := up (n - j) j v h2
  rwa [show j + (n - j) = n by omega] at this
theorem M.TC_forN {σ : Type} {n : Nat} {f : Int → σ → M (σ ⊕ σ)} {s : σ} (I : Nat → σ → Prop) (hn : n ≤ 9223372036854775807) (h0 : I 0 s) (round : ∀ (i : Nat) s, i < n → I i s → M.TC (f (i : Int) s) fun y => ∃ s', y = .inl s' ∧ I (i + 1) s') : M.TC (M.forI 0 (n : Int) (fun s => s) f s) (I n) := by
  refine M.TC_for (fun i s => I i.toNat s) s (by omega) (by omega) h0 (fun i s h1 h2 hI => ?_) (fun i s hi hI => ?_)
  · obtain ⟨k, rfl⟩ : ∃ k : Nat, i = k := ⟨i.toNat, by omega⟩
    refine (round k s (by omega) (by simpa using hI)).mono fun y hy => ?_
    obtain ⟨s', e, h⟩ := hy
    exact .inl ⟨s', e, by rw [show ((k : Int) + 1).toNat = k + 1 by omega]; exact h⟩
  · have e : i.toNat = n := by omega
    rw [e] at hI; exact hI
theorem M.TC_forE {σ ρ : Type} {n : Nat} {f : Int → σ → M (σ ⊕ (σ ⊕ ρ))} {s : σ} (I : Nat → σ → Prop) (Q : ρ → Prop) (hn : n ≤ 9223372036854775807) (h0 : I 0 s) (round : ∀ (i : Nat) s, i < n → I i s → M.TC (f (i : Int) s) fun y => (∃ s', y = .inl s' ∧ I (i + 1) s') ∨ ∃ r, y = .inr (.inr r) ∧ Q r) :
    M.TC (M.forI 0 (n : Int) (fun s => .inl s) f s) (fun y => (∃ s', y = .inl s' ∧ I n s') ∨ ∃ r, y = .inr r ∧ Q r) := by
  refine M.TC_for (fun i s => I i.toNat s) s (by omega) (by omega) h0 (fun i s h1 h2 hI => ?_) (fun i s hi hI => ?_)
  · obtain ⟨k, rfl⟩ : ∃ k : Nat, i = k := ⟨i.toNat, by omega⟩
    refine (round k s (by omega) (by simpa using hI)).mono fun y hy => ?_
    rcases hy with ⟨s', e, h⟩ | ⟨r, e, h⟩
    · exact .inl ⟨s', e, by rw [show ((k : Int) + 1).toNat = k + 1 by omega]; exact h⟩
    · exact .inr ⟨_, e, .inr ⟨r, rfl, h⟩⟩
  · have e : i.toNat = n := by omega
    rw [e] at hI; exact .inl ⟨s, rfl, hI⟩
inductive RK (E : Nat → Nat → Prop) (n v : Nat) : Nat → Nat → Prop
  | nil (k : Nat) : RK E n v k v
  | step (k j i : Nat) : RK E n v k j → j < n → i < n → E j i → RK E n v (k + 1) i
theorem RK.mono {E : Nat → Nat → Prop} {n v k i : Nat} (h : RK E n v k i) : ∀ {m : Nat}, k ≤ m → RK E n v m i := by
  induction h with
  | nil k => exact fun _ => .nil _
  | step k j i _ hj hi he ih =>
    intro m hm
    obtain ⟨m', rfl⟩ : ∃ m', m = m' + 1 := ⟨m - 1, by omega⟩
    exact .step m' j i (ih (by omega)) hj hi he
theorem RK.short {E : Nat → Nat → Prop} {n v k i : Nat} (hv : v < n) (h : RK E n v k i) (hi : i < n) : RK E n v n i := by
  refine chain (P := fun k i => RK E n v k i) hv (.nil 0) (fun k i h => h.mono (by omega)) (fun k hst i hi h => ?_) k i hi h
  generalize e : k + 2 = m at h
  cases h with
  | nil => exact .nil _
  | step k' j i hj1 hj hi he =>
    obtain rfl : k' = k + 1 := by omega
    exact .step k j i (hst j hj hj1) hj hi he
def Rch (E : Nat → Nat → Prop) (n v i : Nat) : Prop := ∃ k, RK E n v k i
theorem Rch.step {E : Nat → Nat → Prop} {n v j i : Nat} (h : Rch E n v j) (hj : j < n) (hi : i < n) (he : E j i) : Rch E n v i := let ⟨k, h⟩ := h; ⟨k + 1, .step k j i h hj hi he⟩
theorem Rch.trans {E : Nat → Nat → Prop} {n v j i : Nat} (h : Rch E n v j) (g : Rch E n j i) : Rch E n v i := by
  obtain ⟨k, g⟩ := g
  induction g with
  | nil => exact h
  | step k j' i' _ hj hi he ih => exact ih.step hj hi he
/-- below the line through i and j -/
def Sup (F : Int → Prop) (y : Int → Int) (i j : Int) : Prop := ∀ p, F p → (y p - y i) * (j - i) ≤ (y j - y i) * (p - i)
/-- the line through i and j is steeper than the line through j and k -/
abbrev Stp (y : Int → Int) (i j k : Int) : Prop := (y k - y j) * (j - i) < (y j - y i) * (k - j)
/-- vertices, the last one first -/
def HullR (F : Int → Prop) (y : Int → Int) : List Int → Prop
  | [] => True
  | [t] => F t ∧ ∀ p, F p → t ≤ p
  | j :: i :: r => F j ∧ i < j ∧ Sup F y i j ∧ (∀ h r', r = h :: r' → Stp y h i j) ∧ HullR F y (i :: r)
theorem mul_le_cancel {a b c : Int} (hc : 0 < c) (h : a * c ≤ b * c) : a ≤ b := Int.le_of_mul_le_mul_right h hc
theorem mul_lt_cancel {a b c : Int} (hc : 0 < c) (h : a * c < b * c) : a < b := Int.lt_of_mul_lt_mul_right h (Int.le_of_lt hc)
theorem sup_right {F : Int → Prop} {y : Int → Int} {i j : Int} (h : Sup F y i j) : ∀ p, F p → (y p - y j) * (j - i) ≤ (y j - y i) * (p - j) := fun p hp => by
  have := h p hp
  have e1 : (y p - y i) * (j - i) = (y p - y j) * (j - i) + (y j - y i) * (j - i) := by rw [← Int.add_mul]; congr 1; omega
  have e2 : (y j - y i) * (p - i) = (y j - y i) * (p - j) + (y j - y i) * (j - i) := by rw [← Int.mul_add]; congr 1; omega
  omega
/-- slopes go down: from (h, i) over (i, j) to a point p right of i that is below the line (i, j) -/
theorem below_next {y : Int → Int} {h i j p : Int} (h1 : h < i) (h2 : i < j) (hp : i ≤ p) (st : Stp y h i j) (hb : (y p - y i) * (j - i) ≤ (y j - y i) * (p - i)) : (y p - y i) * (i - h) ≤ (y i - y h) * (p - i) := by
  unfold Stp at st
  refine mul_le_cancel (c := j - i) (by omega) ?_
  have a1 : (y p - y i) * (i - h) * (j - i) = (y p - y i) * (j - i) * (i - h) := by rw [Int.mul_assoc, Int.mul_comm (i - h), ← Int.mul_assoc]
  have a2 := Int.mul_le_mul_of_nonneg_right hb (show 0 ≤ i - h by omega)
  have a3 := Int.mul_le_mul_of_nonneg_right (Int.le_of_lt st) (show 0 ≤ p - i by omega)
  have a4 : (y j - y i) * (p - i) * (i - h) = (y j - y i) * (i - h) * (p - i) := by rw [Int.mul_assoc, Int.mul_comm (p - i), ← Int.mul_assoc]
  have a5 : (y i - y h) * (j - i) * (p - i) = (y i - y h) * (p - i) * (j - i) := by rw [Int.mul_assoc, Int.mul_comm (j - i), ← Int.mul_assoc]
  omega
/-- one point more, right of all: the lines stay above -/
theorem HullR.more {F : Int → Prop} {y : Int → Int} {k : Int} : ∀ {j i : Int} {r : List Int}, HullR F y (j :: i :: r) → i < k → (y k - y i) * (j - i) ≤ (y j - y i) * (k - i) → HullR (fun p => F p ∨ p = k) y (j :: i :: r)
  | j, i, [], ⟨f, h1, h2, h3, g1, g2⟩, hk, hb => ⟨.inl f, h1, fun p hp => by
      rcases hp with hp | rfl
      · exact h2 p hp
      · exact hb, h3, .inl g1, fun p hp => by
      rcases hp with hp | rfl
      · exact g2 p hp
      · omega⟩
  | j, i, h :: r, ⟨f, h1, h2, h3, g⟩, hk, hb => ⟨.inl f, h1, fun p hp => by
      rcases hp with hp | rfl
      · exact h2 p hp
      · exact hb, h3, by
      have hi : h < i := by cases r <;> exact g.2.1
      have := below_next hi h1 (Int.le_of_lt hk) (h3 h r rfl) hb
      refine HullR.more g (by omega) ?_
      have e1 : (y k - y h) * (i - h) = (y k - y i) * (i - h) + (y i - y h) * (i - h) := by rw [← Int.add_mul]; congr 1; omega
      have e2 : (y i - y h) * (k - h) = (y i - y h) * (k - i) + (y i - y h) * (i - h) := by rw [← Int.mul_add]; congr 1; omega
      omega⟩
theorem HullR.tail {F : Int → Prop} {y : Int → Int} {j i : Int} {r : List Int} (h : HullR F y (j :: i :: r)) : HullR F y (i :: r) := h.2.2.2.2
theorem HullR.head {F : Int → Prop} {y : Int → Int} {j : Int} {r : List Int} (h : HullR F y (j :: r)) : F j := by
  cases r <;> exact h.1
def popL (t : Int → Int → Bool) : List Int → List Int
  | j :: i :: r => bif t j i then j :: i :: r else popL t (i :: r)
  | l => l
/-- points right of j, below the line to k -/
def Low (F : Int → Prop) (y : Int → Int) (j k : Int) : Prop := ∀ p, F p → j ≤ p → (y p - y j) * (k - j) ≤ (y k - y j) * (p - j)
theorem pop_hull {F : Int → Prop} {y : Int → Int} {k : Int} (hF : ∀ p, F p → p < k) (t : Int → Int → Bool) (ht : ∀ j i, t j i = decide (Stp y i j k)) : ∀ {r : List Int} {j : Int}, HullR F y (j :: r) → Low F y j k → HullR (fun p => F p ∨ p = k) y (k :: popL t (j :: r))
  | [], j, hh, hl => by
    obtain ⟨g1, g2⟩ := hh
    have hjk := hF j g1
    refine ⟨.inr rfl, hjk, fun p hp => ?_, fun h r' e => (by cases e), .inl g1, fun p hp => ?_⟩
    · rcases hp with hp | rfl
      · exact hl p hp (g2 p hp)
      · exact Int.le_refl _
    · rcases hp with hp | rfl
      · exact g2 p hp
      · omega
  | i :: r, j, hh, hl => by
    have hj := hh.head
    have hjk := hF j hj
    have hij : i < j := hh.2.1
    have hs : Sup F y i j := hh.2.2.1
    unfold popL
    rw [ht]
    by_cases hst : Stp y i j k
    · rw [decide_eq_true hst, cond_true]
      refine ⟨.inr rfl, hjk, ?_, fun h r' e => (by cases e; exact hst), hh.more (by omega) ?_⟩
      · intro p hp
        rcases hp with hp | rfl
        · by_cases hpj : j ≤ p
          · exact hl p hp hpj
          · have a := sup_right hs p hp
            refine mul_le_cancel (c := j - i) (by omega) ?_
            unfold Stp at hst
            have a1 : (y p - y j) * (k - j) * (j - i) = (y p - y j) * (j - i) * (k - j) := by rw [Int.mul_assoc, Int.mul_comm (k - j), ← Int.mul_assoc]
            have a2 := Int.mul_le_mul_of_nonneg_right a (show 0 ≤ k - j by omega)
            have a3 := Int.mul_le_mul_of_nonneg_right (Int.le_of_lt hst) (show 0 ≤ j - p by omega)
            have a4 : (y j - y i) * (p - j) * (k - j) = -((y j - y i) * (k - j) * (j - p)) := by
              rw [show p - j = -(j - p) by omega, Int.mul_neg, Int.neg_mul, Int.mul_assoc, Int.mul_comm (j - p), ← Int.mul_assoc]
            have a5 : (y k - y j) * (p - j) * (j - i) = -((y k - y j) * (j - i) * (j - p)) := by
              rw [show p - j = -(j - p) by omega, Int.mul_neg, Int.neg_mul, Int.mul_assoc, Int.mul_comm (j - p), ← Int.mul_assoc]
            omega
        · exact Int.le_refl _
      · unfold Stp at hst
        have e1 : (y k - y i) * (j - i) = (y k - y j) * (j - i) + (y j - y i) * (j - i) := by rw [← Int.add_mul]; congr 1; omega
        have e2 : (y j - y i) * (k - i) = (y j - y i) * (k - j) + (y j - y i) * (j - i) := by rw [← Int.mul_add]; congr 1; omega
        omega
    · rw [decide_eq_false hst, cond_false]
      refine pop_hull hF t ht hh.tail fun p hp hip => ?_
      have hst : (y j - y i) * (k - j) ≤ (y k - y j) * (j - i) := by unfold Stp at hst; omega
      have a := hs p hp
      refine mul_le_cancel (c := j - i) (by omega) ?_
      have e1 : (y k - y i) * (j - i) = (y k - y j) * (j - i) + (y j - y i) * (j - i) := by rw [← Int.add_mul]; congr 1; omega
      have e2 : (y j - y i) * (k - i) = (y j - y i) * (k - j) + (y j - y i) * (j - i) := by rw [← Int.mul_add]; congr 1; omega
      have e3 : (y j - y i) * (k - i) ≤ (y k - y i) * (j - i) := by omega
      have a1 := Int.mul_le_mul_of_nonneg_right a (show 0 ≤ k - i by omega)
      have a2 := Int.mul_le_mul_of_nonneg_right e3 (show 0 ≤ p - i by omega)
      have a3 : (y p - y i) * (k - i) * (j - i) = (y p - y i) * (j - i) * (k - i) := by rw [Int.mul_assoc, Int.mul_comm (k - i), ← Int.mul_assoc]
      have a4 : (y j - y i) * (p - i) * (k - i) = (y j - y i) * (k - i) * (p - i) := by rw [Int.mul_assoc, Int.mul_comm (p - i), ← Int.mul_assoc]
      have a5 : (y k - y i) * (p - i) * (j - i) = (y k - y i) * (j - i) * (p - i) := by rw [Int.mul_assoc, Int.mul_comm (p - i), ← Int.mul_assoc]
      omega
def yC (c : List Int) (p : Int) : Int := (c[p.toNat]?).getD 0
def finC (c : List Int) (p : Int) : Prop := 0 ≤ p ∧ ∃ x, c[p.toNat]? = some x ∧ x ≠ -1000000000000000
def finK (c : List Int) (k : Nat) (p : Int) : Prop := finC c p ∧ p < k
def hullL (c : List Int) : Nat → List Int
  | 0 => []
  | k + 1 => bif ((c[k]?).getD 0) == (-1000000000000000) then hullL c k else (k : Int) :: popL (keepB c k ((c[k]?).getD 0)) (hullL c k)
theorem hullL_succ (c : List Int) (k : Nat) : hullL c (k + 1) = bif ((c[k]?).getD 0) == (-1000000000000000) then hullL c k else (k : Int) :: popL (keepB c k ((c[k]?).getD 0)) (hullL c k) := rfl
theorem keep_stp (c : List Int) (k : Nat) (j i : Int) : keepB c k ((c[k]?).getD 0) j i = decide (Stp (yC c) i j (k : Int)) := by
  unfold keepB Stp yC
  rw [Int.toNat_natCast]
theorem popL_sub (t : Int → Int → Bool) : ∀ l, (∀ x ∈ popL t l, x ∈ l) ∧ (l ≠ [] → popL t l ≠ []) ∧ (popL t l).length ≤ l.length
  | [] => ⟨fun _ h => h, fun h => h, Nat.le_refl _⟩
  | [j] => ⟨fun _ h => h, fun h => h, Nat.le_refl _⟩
  | j :: i :: r => by
    unfold popL
    obtain ⟨a, b, d⟩ := popL_sub t (i :: r)
    cases t j i with
    | true => exact ⟨fun _ h => h, fun h => h, Nat.le_refl _⟩
    | false => exact ⟨fun x hx => List.mem_cons_of_mem _ (a x hx), fun _ => b (by simp), Nat.le_succ_of_le d⟩
theorem hullL_ok {c : List Int} : ∀ k : Nat, k ≤ c.length → HullR (finK c k) (yC c) (hullL c k) ∧ (∀ p, finK c k p → ∃ t r, hullL c k = t :: r ∧ p ≤ t)
  | 0, _ => ⟨trivial, fun p hp => by have := hp.1.1; have := hp.2; omega⟩
  | k + 1, hk => by
    obtain ⟨ih, top⟩ := hullL_ok (c := c) k (by omega)
    have hget : c[k]? = some (c[k]'(by omega)) := List.getElem?_eq_getElem _
    rw [hullL_succ]
    cases hb : (((c[k]?).getD 0) == (-1000000000000000)) with
    | true =>
      have e : finK c (k + 1) = finK c k := by
        funext p
        refine propext ⟨fun h => ⟨h.1, ?_⟩, fun h => ⟨h.1, by have := h.2; omega⟩⟩
        by_cases e : p = k
        · subst e
          obtain ⟨_, x, hx, hn⟩ := h.1
          rw [Int.toNat_natCast] at hx
          rw [hx] at hb
          exact absurd (by simpa using hb) hn
        · have := h.2; omega
      rw [e]
      exact ⟨ih, top⟩
    | false =>
      have hfk : finC c (k : Int) := ⟨by omega, _, by rw [Int.toNat_natCast]; exact hget, by rw [hget] at hb; simpa using hb⟩
      have e : finK c (k + 1) = fun p => finK c k p ∨ p = k := by
        funext p
        refine propext ⟨fun h => ?_, fun h => ?_⟩
        · by_cases e : p = k
          · exact .inr e
          · exact .inl ⟨h.1, by have := h.2; omega⟩
        · rcases h with h | rfl
          · exact ⟨h.1, by have := h.2; omega⟩
          · exact ⟨hfk, by omega⟩
      simp only [cond_false]
      refine ⟨?_, fun p hp => ⟨_, _, rfl, by have := hp.2; omega⟩⟩
      rw [e]
      cases hl : hullL c k with
      | nil =>
        refine ⟨.inr rfl, fun p hp => ?_⟩
        rcases hp with hp | rfl
        · obtain ⟨t, r, h, _⟩ := top p hp
          rw [hl] at h; cases h
        · exact Int.le_refl _
      | cons j r =>
        rw [hl] at ih
        refine pop_hull (fun p hp => hp.2) _ (keep_stp c k) ih fun p hp hjp => ?_
        obtain ⟨t, r', h, h2⟩ := top p hp
        rw [hl] at h
        cases h
        obtain rfl : p = j := by omega
        rw [Int.sub_self, Int.sub_self, Int.zero_mul, Int.mul_zero]
        exact Int.le_refl _
theorem pop_conv {c : List Int} {k : Nat} {x : Int} (hk : k ≤ 12) (hx : c[k]? = some x) (bx : -1000000 ≤ x ∧ x ≤ 1000000) : ∀ rs, GoodT c k rs → M.Conv (M.loop (popS c k) rs.reverse) (popL (keepB c k x) rs).reverse
  | [], _ => (ConvL.stop (M.Conv_ite (fun h => by rw [small_len (by simp)] at h; cases h) (fun _ => M.Conv_ret _))).conv
  | [j], _ => (ConvL.stop (M.Conv_ite (fun h => by rw [small_len (by simp)] at h; cases h) (fun _ => M.Conv_ret _))).conv
  | j :: i :: r, hg => by
    have key : ∀ rs, GoodT c k rs → ConvL (popS c k) rs.reverse (popL (keepB c k x) rs).reverse := by
      intro rs
      induction rs with
      | nil => exact fun _ => ConvL.stop (M.Conv_ite (fun h => by rw [small_len (by simp)] at h; cases h) (fun _ => M.Conv_ret _))
      | cons j rs ih =>
        intro hg
        cases rs with
        | nil => exact ConvL.stop (M.Conv_ite (fun h => by rw [small_len (by simp)] at h; cases h) (fun _ => M.Conv_ret _))
        | cons i r =>
          have h := popS_ok hk hx bx hg
          unfold popL
          cases hb : keepB c k x j i with
          | true => rw [hb] at h; exact ConvL.stop h
          | false =>
            rw [hb] at h
            obtain ⟨a, b, d⟩ := hg
            exact ConvL.step h (ih ⟨by simp at a ⊢; omega, fun t ht => b t (List.mem_cons_of_mem _ ht), (List.pairwise_cons.1 d).2⟩)
    exact (key _ hg).conv
theorem hullL_good {c : List Int} (hv : ∀ x ∈ c, valB x = true) : ∀ k : Nat, k ≤ c.length → (hullL c k).length ≤ k ∧ (∀ t ∈ hullL c k, termB c k t) ∧ List.Pairwise (fun a b => b < a) (hullL c k)
  | 0, _ => ⟨Nat.le_refl _, by simp [hullL], by simp [hullL]⟩
  | k + 1, hk => by
    obtain ⟨a, b, d⟩ := hullL_good hv k (by omega)
    have hget : c[k]? = some (c[k]'(by omega)) := List.getElem?_eq_getElem _
    have up : ∀ t, termB c k t → termB c (k + 1) t := fun t ⟨a, b, d⟩ => ⟨a, by omega, d⟩
    have sub : ∀ l : List Int, List.Pairwise (fun a b => b < a) l → List.Pairwise (fun a b => b < a) (popL (keepB c k ((c[k]?).getD 0)) l) := by
      intro l
      induction l with
      | nil => exact fun h => h
      | cons j l ih =>
        intro h
        cases l with
        | nil => exact h
        | cons i r =>
          unfold popL
          cases keepB c k ((c[k]?).getD 0) j i with
          | true => exact h
          | false => exact ih (List.pairwise_cons.1 h).2
    rw [hullL_succ]
    cases hb : (((c[k]?).getD 0) == (-1000000000000000)) with
    | true => exact ⟨by simp only [cond_true]; omega, fun t ht => up t (b t ht), d⟩
    | false =>
      simp only [cond_false]
      obtain ⟨s1, s2, s3⟩ := popL_sub (keepB c k ((c[k]?).getD 0)) (hullL c k)
      refine ⟨by simp only [List.length_cons]; omega, fun t ht => ?_, List.pairwise_cons.2 ⟨fun t ht => (b t (s1 t ht)).2.1, sub _ d⟩⟩
      rcases List.mem_cons.1 ht with rfl | ht
      · refine ⟨by omega, by omega, _, by rw [Int.toNat_natCast]; exact hget, ?_⟩
        rw [hget] at hb
        exact val_ne (hv _ (List.getElem_mem _)) hb
      · exact up t (b t (s1 t ht))
theorem terms_hull {c : List Int} (hc : c.length ≤ 12) (hv : c.all valB = true) : M.Conv (spec_l09Terms c) (hullL c c.length).reverse := by
  rw [List.all_eq_true] at hv
  rw [spec_l09Terms_eq]
  refine M.Conv_bind (Conv_forV (fun k => (hullL c k).reverse) (by omega) fun k hk => ?_) (M.Conv_ret _)
  have hget : c[k]? = some (c[k]'(by omega)) := List.getElem?_eq_getElem _
  have hmem := List.getElem_mem hk
  generalize c[k] = x at hget hmem
  have gx : M.Conv (M.idx c (k : Int)) x := M.Conv_get (by omega) (by simpa using hget)
  obtain ⟨a, b, d⟩ := hullL_good hv k (by omega)
  obtain ⟨s1, s2, s3⟩ := popL_sub (keepB c k ((c[k]?).getD 0)) (hullL c k)
  rw [hullL_succ]
  unfold hullS
  rw [hget] at s1 s2 s3 ⊢
  simp only [Option.getD_some] at s1 s2 s3 ⊢
  cases hb : (x == (-1000000000000000)) with
  | true => exact M.Conv_bind (M.Conv_bind gx (M.Conv_ite (fun _ => M.Conv_ret _) (fun h => by rw [hb] at h; cases h))) (M.Conv_ret _)
  | false =>
    have bx := finB_bd (val_ne (hv x hmem) hb)
    exact M.Conv_bind (M.Conv_bind gx (M.Conv_ite (fun h => by rw [hb] at h; cases h) (fun _ => M.Conv_bind (pop_conv (by omega) hget bx _ ⟨by omega, b, d⟩) (M.Conv_bind ((M.Conv_app (by simp; omega)).of (r' := ((k : Int) :: popL (keepB c k x) (hullL c k)).reverse) (by simp)) (M.Conv_ret _))))) (M.Conv_ret _)

theorem yC_conv {l : List Int} {p : Int} (h0 : 0 ≤ p) (h1 : p < l.length) : M.Conv (M.idx l p) (yC l p) := by
  refine M.Conv_get h0 ?_
  unfold yC
  rw [List.getElem?_eq_getElem (by omega)]; rfl
structure TsOK (c ts : List Int) : Prop where
  bd : ∀ t ∈ ts, termB c c.length t
  inc : List.Pairwise (fun a b => a < b) ts
  ne : ts ≠ []
theorem TsOK.at {c ts : List Int} (h : TsOK c ts) {q : Nat} {t : Int} (ht : ts[q]? = some t) : 0 ≤ t ∧ t < c.length ∧ (-1000000 ≤ yC c t ∧ yC c t ≤ 1000000) := by
  obtain ⟨a, b, x, hx, hb⟩ := h.bd t (List.mem_of_getElem? ht)
  refine ⟨a, b, ?_⟩
  unfold yC
  rw [hx]
  exact finB_bd hb
theorem TsOK.lt {c ts : List Int} (h : TsOK c ts) {p q : Nat} {s t : Int} (hs : ts[p]? = some s) (ht : ts[q]? = some t) (hpq : p < q) : s < t := by
  obtain ⟨h1, e1⟩ := List.getElem?_eq_some_iff.1 hs
  obtain ⟨h2, e2⟩ := List.getElem?_eq_some_iff.1 ht
  have := List.pairwise_iff_getElem.1 h.inc p q h1 h2 hpq
  rw [e1, e2] at this; exact this
theorem ts_of {c : List Int} (h : polyB c = true) : TsOK c (hullL c c.length).reverse ∧ M.Conv (spec_l09Terms c) (hullL c c.length).reverse ∧ M.Conv (impl_essentialTerms c) (hullL c c.length).reverse := by
  obtain ⟨h1, h2, h3⟩ := polyB_len h
  have hv := List.all_eq_true.1 h2
  obtain ⟨a, b, d⟩ := hullL_good hv c.length (Nat.le_refl _)
  have ht := terms_hull h1 h2
  obtain ⟨t, k1, k2, _, _, tne, _⟩ := terms_ok h1 h2
  have e := k1.unique ht
  subst e
  refine ⟨⟨fun t ht => b t (by simpa using ht), by rw [List.pairwise_reverse]; exact d, tne h3⟩, ht, k2⟩
theorem hull_pair {F : Int → Prop} {y : Int → Int} : ∀ {rs : List Int}, HullR F y rs → ∀ (p : Nat) (i k : Int), rs[p]? = some k → rs[p + 1]? = some i → i < k ∧ Sup F y i k ∧ ∀ h, rs[p + 2]? = some h → Stp y h i k
  | [], _, p, i, k, h, _ => by simp at h
  | [_], _, p, i, k, _, h => by simp at h
  | j :: i' :: r, hh, 0, i, k, h1, h2 => by
    simp at h1 h2
    subst h1; subst h2
    refine ⟨hh.2.1, hh.2.2.1, fun h e => ?_⟩
    cases r with
    | nil => simp at e
    | cons h' r' => simp at e; subst e; exact hh.2.2.2.1 _ r' rfl
  | j :: i' :: r, hh, p + 1, i, k, h1, h2 => hull_pair hh.tail p i k (by simpa using h1) (by simpa using h2)
theorem rev_pair {rs : List Int} {q : Nat} {i k : Int} (h1 : rs.reverse[q]? = some i) (h2 : rs.reverse[q + 1]? = some k) : rs[rs.length - 2 - q]? = some k ∧ rs[rs.length - 2 - q + 1]? = some i := by
  have l2 := (List.getElem?_eq_some_iff.1 h2).1
  rw [List.length_reverse] at l2
  rw [List.getElem?_reverse (by omega)] at h1 h2
  rw [show rs.length - 2 - q + 1 = rs.length - 1 - q by omega, show rs.length - 2 - q = rs.length - 1 - (q + 1) by omega]
  exact ⟨h2, h1⟩
structure GrS (g : TGraph) : Prop where
  ok : okTGraph g
  len : g.Places.length ≤ 40
theorem GrS.sm {g : TGraph} (h : GrS g) : smG g := by have := h.len; simp only [smG, smP]; omega
inductive Chn (a : List (List Int)) (n : Nat) : List Nat → Int → Prop
  | one (v : Nat) : v < n → Chn a n [v] 0
  | cons (u v : Nat) (r : List Nat) (w : Int) : u < n → entA a v u ≠ -1000000000000000 → Chn a n (v :: r) w → Chn a n (u :: v :: r) (entA a v u + w)
theorem Chn.lt {a : List (List Int)} {n : Nat} {l : List Nat} {w : Int} (h : Chn a n l w) : ∀ x ∈ l, x < n := by
  induction h with
  | one v hv => intro x hx; simp at hx; subst hx; exact hv
  | cons u v r w hu _ _ ih =>
    intro x hx
    rcases List.mem_cons.1 hx with rfl | hx
    · exact hu
    · exact ih x hx
theorem Chn.unique {a : List (List Int)} {n : Nat} {l : List Nat} {w : Int} (h : Chn a n l w) : ∀ {w' : Int}, Chn a n l w' → w = w' := by
  induction h with
  | one v hv => intro w' h'; cases h'; rfl
  | cons u v r w hu _ _ ih => intro w' h'; cases h' with | cons _ _ _ w2 _ _ h2 => rw [ih h2]
theorem Chn.append {a : List (List Int)} {n : Nat} {v : Nat} {z : List Nat} {w2 : Int} (h2 : Chn a n (v :: z) w2) : ∀ {x : List Nat} {w1 : Int}, Chn a n (x ++ [v]) w1 → Chn a n (x ++ v :: z) (w1 + w2)
  | [], w1, h1 => by cases h1; rw [Int.zero_add]; exact h2
  | [u], w1, h1 => by
    cases h1 with
    | cons _ _ _ w hu ha h =>
      have := Chn.append h2 (x := []) h
      rw [Int.add_assoc]; exact .cons u v z _ hu ha this
  | u :: u' :: x, w1, h1 => by
    cases h1 with
    | cons _ _ _ w hu ha h =>
      have := Chn.append h2 (x := u' :: x) h
      rw [Int.add_assoc]; exact .cons u u' _ _ hu ha this
theorem Chn.split {a : List (List Int)} {n : Nat} {v : Nat} {z : List Nat} : ∀ {x : List Nat} {w : Int}, Chn a n (x ++ v :: z) w → ∃ w1 w2, w = w1 + w2 ∧ Chn a n (x ++ [v]) w1 ∧ Chn a n (v :: z) w2
  | [], w, h => ⟨0, w, by omega, .one v (h.lt v (by simp)), h⟩
  | [u], w, h => by
    cases h with
    | cons _ _ _ w' hu ha h => exact ⟨entA a v u, w', rfl, by have := Chn.cons u v [] 0 hu ha (.one v (h.lt v (by simp))); rwa [Int.add_zero] at this, h⟩
  | u :: u' :: x, w, h => by
    cases h with
    | cons _ _ _ w' hu ha h =>
      obtain ⟨w1, w2, rfl, h1, h2⟩ := Chn.split (x := u' :: x) h
      exact ⟨entA a u' u + w1, w2, by omega, .cons u u' _ _ hu ha h1, h2⟩
/-- a closed chain -/
def Cl (a : List (List Int)) (n : Nat) (l : List Nat) (w : Int) : Prop := ∃ h r, l = h :: r ∧ Chn a n (l ++ [h]) w
theorem Cl.ne {a : List (List Int)} {n : Nat} {l : List Nat} {w : Int} (h : Cl a n l w) : l ≠ [] := by obtain ⟨_, _, rfl, _⟩ := h; simp
theorem Cl.lt {a : List (List Int)} {n : Nat} {l : List Nat} {w : Int} (h : Cl a n l w) : ∀ x ∈ l, x < n := by
  obtain ⟨_, _, rfl, h⟩ := h
  exact fun x hx => h.lt x (List.mem_append.2 (.inl hx))
theorem Cl.unique {a : List (List Int)} {n : Nat} {l : List Nat} {w w' : Int} (h : Cl a n l w) (h' : Cl a n l w') : w = w' := by
  obtain ⟨_, _, rfl, h⟩ := h
  obtain ⟨_, _, e, h'⟩ := h'
  cases e
  exact h.unique h'
theorem dup_of : ∀ {l : List Nat}, ¬ l.Nodup → ∃ (x : List Nat) (v : Nat) (y z : List Nat), l = x ++ v :: y ++ v :: z
  | [], h => absurd List.nodup_nil h
  | u :: l, h => by
    by_cases hm : u ∈ l
    · obtain ⟨y, z, rfl⟩ := List.append_of_mem hm
      exact ⟨[], u, y, z, rfl⟩
    · have : ¬ l.Nodup := fun hd => h (List.nodup_cons.2 ⟨hm, hd⟩)
      obtain ⟨x, v, y, z, rfl⟩ := dup_of this
      exact ⟨u :: x, v, y, z, rfl⟩
namespace M
end M

/-- entries that are Bottom or not large -/
def Ent (a : List (List Int)) (n : Nat) (B : Int) : Prop := ∀ i j, i < n → j < n → entA a i j = -1000000000000000 ∨ (-B ≤ entA a i j ∧ entA a i j ≤ B)
theorem Chn.bd {a : List (List Int)} {n : Nat} {B : Int} (hB : Ent a n B) (h0 : 0 ≤ B) {l : List Nat} {w : Int} (h : Chn a n l w) : -(B * ((l.length - 1 : Nat) : Int)) ≤ w ∧ w ≤ B * ((l.length - 1 : Nat) : Int) := by
  induction h with
  | one v hv => simp
  | cons u v r w hu ha h ih =>
    have hv := h.lt v List.mem_cons_self
    have := (hB v u hv hu).resolve_left ha
    have e : (((u :: v :: r).length - 1 : Nat) : Int) = (((v :: r).length - 1 : Nat) : Int) + 1 := by simp
    rw [e, Int.mul_add, Int.mul_one]
    omega
theorem Chn.last_lt {a : List (List Int)} {n : Nat} {x : List Nat} {t : Nat} {w : Int} (h : Chn a n (x ++ [t]) w) : t < n := h.lt t (by simp)
theorem Chn.snoc {a : List (List Int)} {n : Nat} {x : List Nat} {t v : Nat} {w : Int} (h : Chn a n (x ++ [t]) w) (hv : v < n) (ha : entA a v t ≠ -1000000000000000) : Chn a n (x ++ [t] ++ [v]) (w + entA a v t) := by
  have h2 : Chn a n [t, v] (entA a v t) := by have := Chn.cons t v [] 0 h.last_lt ha (.one v hv); rwa [Int.add_zero] at this
  have := Chn.append h2 (x := x) h
  simpa using this
theorem Chn.snoc_inv {a : List (List Int)} {n : Nat} {x : List Nat} {t v : Nat} {w : Int} (h : Chn a n (x ++ [t] ++ [v]) w) : ∃ w', w = w' + entA a v t ∧ Chn a n (x ++ [t]) w' ∧ entA a v t ≠ -1000000000000000 := by
  have h : Chn a n (x ++ t :: [v]) w := by simpa using h
  obtain ⟨w1, w2, rfl, h1, h2⟩ := h.split
  cases h2 with
  | cons _ _ _ w3 _ ha h3 => cases h3; exact ⟨w1, by omega, h1, ha⟩
/-- a walk from j of k arcs -/
inductive Wlk (a : List (List Int)) (n j : Nat) : Nat → Nat → Int → Prop
  | nil : j < n → Wlk a n j 0 j 0
  | step (k i i' : Nat) (w : Int) : Wlk a n j k i w → i' < n → entA a i' i ≠ -1000000000000000 → Wlk a n j (k + 1) i' (w + entA a i' i)
theorem Wlk.lt {a : List (List Int)} {n j k i : Nat} {w : Int} (h : Wlk a n j k i w) : j < n ∧ i < n := by
  induction h with
  | nil hj => exact ⟨hj, hj⟩
  | step k i i' w _ hi _ ih => exact ⟨ih.1, hi⟩
theorem Wlk.trans {a : List (List Int)} {n j k i k' i' : Nat} {w w' : Int} (h : Wlk a n j k i w) (g : Wlk a n i k' i' w') : Wlk a n j (k + k') i' (w + w') := by
  induction g with
  | nil _ => simpa using h
  | step k' i1 i2 w' _ hi ha ih => rw [← Int.add_assoc]; exact .step _ _ _ _ ih hi ha
theorem Wlk.chn {a : List (List Int)} {n j k i : Nat} {w : Int} (h : Wlk a n j k i w) : ∃ x, Chn a n (x ++ [i]) w ∧ (x ++ [i]).head? = some j ∧ x.length = k := by
  induction h with
  | nil hj => exact ⟨[], .one j hj, rfl, rfl⟩
  | step k i i' w _ hi ha ih =>
    obtain ⟨x, h1, h2, h3⟩ := ih
    exact ⟨x ++ [i], h1.snoc hi ha, by rw [List.head?_append, h2]; rfl, by simp [h3]⟩
theorem Wlk.of_chn {a : List (List Int)} {n : Nat} : ∀ (k : Nat) {j i : Nat} {w : Int} {x : List Nat}, Chn a n (x ++ [i]) w → (x ++ [i]).head? = some j → x.length = k → Wlk a n j k i w
  | 0, j, i, w, x, h, hh, hl => by
    have := List.eq_nil_of_length_eq_zero hl
    subst this
    have e : i = j := by simpa using hh
    subst e
    cases h with
    | one _ hv => exact .nil hv
  | k + 1, j, i, w, x, h, hh, hl => by
    rcases List.eq_nil_or_concat x with rfl | ⟨y, t, e⟩
    · simp at hl
    · have e : x = y ++ [t] := by simpa using e
      subst e
      obtain ⟨w', rfl, h1, ha⟩ := h.snoc_inv
      rw [List.head?_append] at hh
      have hh2 : (y ++ [t]).head? = some j := by
        cases hy : (y ++ [t]).head? with
        | none => simp at hy
        | some v => rw [hy] at hh; simpa using hh
      exact .step k t i w' (Wlk.of_chn k h1 hh2 (by simpa using hl)) (h.lt i (by simp)) ha
theorem Wlk.cl {a : List (List Int)} {n j k : Nat} {w : Int} (h : Wlk a n j (k + 1) j w) : ∃ r, Cl a n (j :: r) w ∧ r.length = k := by
  obtain ⟨x, h1, h2, h3⟩ := h.chn
  cases x with
  | nil => simp at h3
  | cons v r =>
    have e : v = j := by simpa using h2
    subst e
    exact ⟨r, ⟨v, r, rfl, h1⟩, by simpa using h3⟩
def NoPos (a : List (List Int)) (n : Nat) : Prop := ∀ l w, Cl a n l w → w ≤ 0
/-- a walk of fewer than n arcs is as good as any -/
theorem Wlk.short {a : List (List Int)} {n : Nat} (hp : NoPos a n) : ∀ (k : Nat) {j i : Nat} {w : Int}, Wlk a n j k i w → ∃ k' w', Wlk a n j k' i w' ∧ k' < n ∧ k' ≤ k ∧ w ≤ w' := by
  intro k
  induction k using Nat.strongRecOn with
  | _ k ih =>
    intro j i w h
    by_cases hk : k < n
    · exact ⟨k, w, h, hk, Nat.le_refl _, Int.le_refl _⟩
    · obtain ⟨x, h1, h2, h3⟩ := h.chn
      have hnn : ¬ (x ++ [i]).Nodup := fun hd => by
        have := nodup_lt n _ hd h1.lt
        simp at this; omega
      obtain ⟨p, v, y, z, e⟩ := dup_of hnn
      have e' : x ++ [i] = p ++ v :: (y ++ v :: z) := by rw [e]; simp
      rw [e'] at h1
      obtain ⟨w1, w2, rfl, c1, c2⟩ := h1.split
      obtain ⟨w3, w4, rfl, c3, c4⟩ := Chn.split (x := v :: y) c2
      have hcyc := hp (v :: y) w3 ⟨v, y, rfl, c3⟩
      have hc := Chn.append c4 c1
      -- the last node is that of z
      have hlast : ∃ x', p ++ v :: z = x' ++ [i] ∧ x'.length < k := by
        have hl : (p ++ v :: (y ++ v :: z)).getLast? = some i := by rw [← e']; simp
        rcases List.eq_nil_or_concat (v :: z) with hz | ⟨z', t, hz⟩
        · simp at hz
        · have hz : v :: z = z' ++ [t] := by simpa using hz
          have ht : t = i := by
            have e3 : p ++ v :: (y ++ v :: z) = (p ++ v :: y ++ z') ++ [t] := by rw [hz]; simp
            rw [e3, List.getLast?_concat] at hl
            exact Option.some.inj hl
          subst ht
          refine ⟨p ++ z', by rw [hz]; simp, ?_⟩
          have e4 := congrArg List.length e'
          have e5 := congrArg List.length hz
          simp at e4 e5 ⊢
          omega
      obtain ⟨x', hx', hxl⟩ := hlast
      rw [hx'] at hc
      have hhd : (x' ++ [i]).head? = some j := by
        rw [← hx']
        rw [e'] at h2
        cases p with
        | nil => simpa using h2
        | cons q p => simpa using h2
      obtain ⟨k', w', g1, g2, g3, g4⟩ := ih _ hxl (Wlk.of_chn _ hc hhd rfl)
      exact ⟨k', w', g1, g2, by omega, by omega⟩
theorem Wlk.bd {a : List (List Int)} {n : Nat} {B : Int} (hB : Ent a n B) {j k i : Nat} {w : Int} (h : Wlk a n j k i w) : -(B * (k : Int)) ≤ w ∧ w ≤ B * (k : Int) := by
  induction h with
  | nil _ => simp
  | step k i i' w hw hi ha ih =>
    have := (hB i' i hi hw.lt.2).resolve_left ha
    rw [Int.natCast_add, Int.mul_add]
    simp only [Int.natCast_one, Int.mul_one]
    omega
/-- what the star of a matrix without positive cycles is -/
structure StarM (a : List (List Int)) (n : Nat) (S : List (List Int)) : Prop where
  shp : Shp S n
  len : S.length = n
  snd : ∀ i j, i < n → j < n → entA S i j = -1000000000000000 ∨ ∃ k, Wlk a n j k i (entA S i j)
  cpl : ∀ i j k w, Wlk a n j k i w → entA S i j ≠ -1000000000000000 ∧ w ≤ entA S i j
theorem StarM.bd {a S : List (List Int)} {n : Nat} {B : Int} (hp : NoPos a n) (hB : Ent a n B) (h0 : 0 ≤ B) (hn : n ≤ 10) (h : StarM a n S) {i j : Nat} (hi : i < n) (hj : j < n) : Bd (B * 10) (entA S i j) := by
  rcases h.snd i j hi hj with e | ⟨k, hk⟩
  · exact .inl e
  · right
    obtain ⟨k', w', g1, g2, _, g4⟩ := hk.short hp
    have b := g1.bd hB
    have c := (h.cpl i j k' w' g1).2
    have hkk : (k' : Int) ≤ 10 := by omega
    have := Int.mul_le_mul_of_nonneg_left hkk h0
    omega
theorem StarM.unique {a S T : List (List Int)} {n : Nat} (h : StarM a n S) (g : StarM a n T) : S = T := by
  rw [mat_eq h.shp, mat_eq g.shp, h.len, g.len]
  refine matF_congr fun i j hi hj => ?_
  by_cases e : entA S i j = -1000000000000000
  · rcases g.snd i j hi hj with e2 | ⟨k, hk⟩
    · rw [e, e2]
    · exact absurd e (h.cpl i j k _ hk).1
  · obtain ⟨k, hk⟩ := (h.snd i j hi hj).resolve_left e
    have c1 := g.cpl i j k _ hk
    obtain ⟨k2, hk2⟩ := (g.snd i j hi hj).resolve_left c1.1
    have c2 := h.cpl i j k2 _ hk2
    omega
structure StK (a : List (List Int)) (n k : Nat) (S : List (List Int)) : Prop where
  shp : Shp S n
  len : S.length = n
  snd : ∀ i j, i < n → j < n → entA S i j = -1000000000000000 ∨ ∃ k', k' ≤ k ∧ Wlk a n j k' i (entA S i j)
  cpl : ∀ i j k' w, k' ≤ k → Wlk a n j k' i w → entA S i j ≠ -1000000000000000 ∧ w ≤ entA S i j
theorem StK.bd {a S : List (List Int)} {n k : Nat} {B : Int} (hB : Ent a n B) (h0 : 0 ≤ B) (h : StK a n k S) {m : Int} (hm : (k : Int) ≤ m) {i j : Nat} (hi : i < n) (hj : j < n) : Bd (B * m) (entA S i j) := by
  rcases h.snd i j hi hj with e | ⟨k', h1, hk⟩
  · exact .inl e
  · right
    have b := hk.bd hB
    have := Int.mul_le_mul_of_nonneg_left (show (k' : Int) ≤ m by omega) h0
    omega
theorem StK.star {a S : List (List Int)} {n : Nat} (hp : NoPos a n) (h : StK a n n S) : StarM a n S :=
  ⟨h.shp, h.len, fun i j hi hj => (h.snd i j hi hj).imp id fun ⟨k, _, hk⟩ => ⟨k, hk⟩, fun i j k w hw => by
    obtain ⟨k', w', g1, g2, _, g4⟩ := hw.short hp
    have := h.cpl i j k' w' (by omega) g1
    exact ⟨this.1, by omega⟩⟩
theorem NoPos.closed {a : List (List Int)} {n j m : Nat} {w : Int} (hp : NoPos a n) (h : Wlk a n j m j w) : w ≤ 0 := by
  cases m with
  | zero => cases h; exact Int.le_refl _
  | succ m =>
    obtain ⟨r, hc, _⟩ := h.cl
    exact hp _ _ hc
theorem gcd_loop2 : ∀ (m : Nat) (a b : Nat), b < m → ConvL gcdF ((a : Int), (b : Int)) ((Nat.gcd a b : Nat), 0)
  | 0, _, _, h => by omega
  | m + 1, a, b, h => by
    by_cases h0 : 0 < b
    · have hl : a % b < b := Nat.mod_lt _ h0
      have ih := gcd_loop2 m b (a % b) (by omega)
      have e : Nat.gcd b (a % b) = Nat.gcd a b := by
        rw [Nat.gcd_comm b, ← Nat.gcd_rec, Nat.gcd_comm]
      rw [e] at ih
      refine ConvL.step ?_ ih
      have e2 : ((a : Int)).tmod (b : Int) = ((a % b : Nat) : Int) := by rw [Int.tmod_eq_emod_of_nonneg (by omega)]; omega
      exact M.Conv_ite (fun _ => M.Conv_bind (M.Conv_guard (by simp; omega)) ((M.Conv_ret _).of (by rw [e2]))) (fun q => by have := of_decide_eq_false q; simp only at this; omega)
    · obtain rfl : b = 0 := by omega
      rw [Nat.gcd_zero_right]
      exact ConvL.stop (M.Conv_ite (fun q => by have := of_decide_eq_true q; simp only at this; omega) (fun _ => M.Conv_ret _))
theorem divisor_gcd {a b : Int} (ha : -9000000000000000000 ≤ a ∧ a ≤ 9000000000000000000) (hb : -9000000000000000000 ≤ b ∧ b ≤ 9000000000000000000) : M.Conv (spec_l01Divisor a b) ((Nat.gcd a.natAbs b.natAbs : Nat) : Int) := by
  have e1 : mx a (w64 (0 - a)) = (a.natAbs : Int) := by rw [w64_eq _ (by omega), mx_eq]; omega
  have e2 : mx b (w64 (0 - b)) = (b.natAbs : Int) := by rw [w64_eq _ (by omega), mx_eq]; omega
  unfold spec_l01Divisor
  rw [e1, e2]
  exact M.Conv_bind (gcd_loop2 _ _ _ (Nat.lt_succ_self _)).conv (M.Conv_ret _)
theorem divisorI_gcd {a b : Nat} : M.Conv (impl_divisorOf (a : Int) (b : Int)) ((Nat.gcd a b : Nat) : Int) := by
  unfold impl_divisorOf
  exact M.Conv_bind (gcd_loop2 _ _ _ (Nat.lt_succ_self _)).conv (M.Conv_ret _)
theorem absI_ok {a : Int} (ha : -9000000000000000000 ≤ a ∧ a ≤ 9000000000000000000) : M.Conv (impl_absOf a) (a.natAbs : Int) := M.Conv_ite (fun q => by have := of_decide_eq_true q; exact (M.Conv_ret _).of (by rw [w64_eq _ (by omega)]; omega)) (fun q => by have := of_decide_eq_false q; exact (M.Conv_ret _).of (by omega))
/-- r is x / d in lowest terms -/
structure RatP (x d : Int) (r : TRatio) : Prop where
  pos : 0 < r.Den
  mul : ∃ g : Int, 0 < g ∧ x = g * r.Num ∧ d = g * r.Den
  cop : Nat.gcd r.Num.natAbs r.Den.natAbs = 1
theorem ratio_ok {x d : Int} (hx : -9000000000000000000 ≤ x ∧ x ≤ 9000000000000000000) (hd : 0 < d ∧ d ≤ 9000000000000000000) : ∃ r, M.Conv (spec_l01Ratio x d) r ∧ M.Conv (impl_ratioOf x d) r ∧ RatP x d r := by
  have hg : 0 < Nat.gcd x.natAbs d.natAbs := Nat.gcd_pos_of_pos_right _ (by omega)
  have k1 := divisor_gcd hx (b := d) ⟨by omega, by omega⟩
  have k2 := divisorI_gcd (a := x.natAbs) (b := d.natAbs)
  have ed : ((d.natAbs : Nat) : Int) = d := Int.natAbs_of_nonneg (by omega)
  rw [ed] at k2
  have dx : Nat.gcd x.natAbs d.natAbs ∣ x.natAbs := Nat.gcd_dvd_left _ _
  have dd : Nat.gcd x.natAbs d.natAbs ∣ d.natAbs := Nat.gcd_dvd_right _ _
  have cop : Nat.gcd (x.natAbs / Nat.gcd x.natAbs d.natAbs) (d.natAbs / Nat.gcd x.natAbs d.natAbs) = 1 := by
    rw [Nat.gcd_div dx dd, Nat.div_self hg]
  generalize Nat.gcd x.natAbs d.natAbs = G at k1 k2 hg dx dd cop
  have hG : ((G : Int) != 0) = true := by simp; omega
  obtain ⟨p, hp⟩ := dx
  obtain ⟨q, hq⟩ := dd
  have hx2 : ∃ s : Int, (s = 1 ∨ s = -1) ∧ x = (G : Int) * (s * p) := by
    by_cases h : 0 ≤ x
    · exact ⟨1, .inl rfl, by rw [Int.one_mul, ← Int.natCast_mul, ← hp]; omega⟩
    · exact ⟨-1, .inr rfl, by rw [Int.neg_one_mul, Int.mul_neg, ← Int.natCast_mul, ← hp]; omega⟩
  obtain ⟨s, hs, hx2⟩ := hx2
  have hd2 : d = (G : Int) * q := by rw [← Int.natCast_mul, ← hq]; omega
  have e1 : x.tdiv (G : Int) = s * p := by rw [hx2]; exact Int.mul_tdiv_cancel_left _ (by omega)
  have e2 : d.tdiv (G : Int) = q := by rw [hd2]; exact Int.mul_tdiv_cancel_left _ (by omega)
  have hq1 : 0 < q := by
    cases q with
    | zero => rw [Nat.mul_zero] at hq; omega
    | succ q => omega
  have hpb : p ≤ x.natAbs := by rw [hp]; exact Nat.le_mul_of_pos_left _ hg
  have hqb : q ≤ d.natAbs := by rw [hq]; exact Nat.le_mul_of_pos_left _ hg
  have w1 : w64 (s * p) = s * p := w64_eq _ (by rcases hs with rfl | rfl <;> omega)
  have w2 : w64 (q : Int) = q := w64_eq _ (by omega)
  have h0 : M.Conv (M.ite (decide (d < 0)) (M.ret ((w64 (0 - x)), (w64 (0 - d)))) (M.ret (x, d))) (x, d) := M.Conv_ite (fun q => by have := of_decide_eq_true q; omega) (fun _ => M.Conv_ret _)
  refine ⟨⟨s * p, q⟩, ?_, ?_, ⟨by simp only; omega, ⟨G, by omega, hx2, hd2⟩, ?_⟩⟩
  · unfold spec_l01Ratio
    refine M.Conv_bind h0 (M.Conv_bind k1 (M.Conv_bind (M.Conv_guard hG) (M.Conv_bind (M.Conv_guard hG) ((M.Conv_ret _).of ?_))))
    simp only [e1, e2, w1, w2]
  · unfold impl_ratioOf
    refine M.Conv_bind h0 (M.Conv_bind (absI_ok hx) (M.Conv_bind k2 (M.Conv_bind (M.Conv_guard hG) (M.Conv_bind (M.Conv_guard hG) ((M.Conv_ret _).of ?_)))))
    simp only [e1, e2, w1, w2]
  · have a1 : (s * (p : Int)).natAbs = p := by rcases hs with rfl | rfl <;> omega
    have a2 : ((q : Nat) : Int).natAbs = q := by omega
    have e3 : x.natAbs / G = p := by rw [hp]; exact Nat.mul_div_cancel_left _ hg
    have e4 : d.natAbs / G = q := by rw [hq]; exact Nat.mul_div_cancel_left _ hg
    rw [e3, e4] at cop
    simp only [a1, a2]
    exact cop
theorem cop_eq {a b c d : Int} (hb : 0 < b) (hd : 0 < d) (h1 : Nat.gcd a.natAbs b.natAbs = 1) (h2 : Nat.gcd c.natAbs d.natAbs = 1) (h : a * d = c * b) : a = c ∧ b = d := by
  have hn : a.natAbs * d.natAbs = c.natAbs * b.natAbs := by rw [← Int.natAbs_mul, ← Int.natAbs_mul, h]
  have d1 : b.natAbs ∣ d.natAbs := by
    have : b.natAbs ∣ a.natAbs * d.natAbs := by rw [hn]; exact Nat.dvd_mul_left _ _
    exact Nat.Coprime.dvd_of_dvd_mul_left (Nat.Coprime.symm h1) this
  have d2 : d.natAbs ∣ b.natAbs := by
    have : d.natAbs ∣ c.natAbs * b.natAbs := by rw [← hn]; exact Nat.dvd_mul_left _ _
    exact Nat.Coprime.dvd_of_dvd_mul_left (Nat.Coprime.symm h2) this
  have e := Nat.dvd_antisymm d1 d2
  have e2 : b = d := by omega
  subst e2
  exact ⟨Int.eq_of_mul_eq_mul_right (by omega) h, rfl⟩
theorem RatP.eq_iff {x d x' d' : Int} {r r' : TRatio} (hd : 0 < d) (hd' : 0 < d') (h : RatP x d r) (h' : RatP x' d' r') : r = r' ↔ x * d' = x' * d := by
  obtain ⟨g, g0, rfl, rfl⟩ := h.mul
  obtain ⟨g', g0', rfl, rfl⟩ := h'.mul
  constructor
  · rintro rfl; grind
  · intro e
    have : (g * g') * (r.Num * r'.Den) = (g * g') * (r'.Num * r.Den) := by grind
    have := Int.eq_of_mul_eq_mul_left (by have := Int.mul_pos g0 g0'; omega) this
    obtain ⟨e1, e2⟩ := cop_eq h.pos h'.pos h.cop h'.cop this
    cases r; cases r'
    simp only at e1 e2
    subst e1; subst e2; rfl

theorem line_le {D A yp yi yk p i k : Int} (a : (yp - yi) * (k - i) ≤ (yk - yi) * (p - i)) (hs : A * (k - i) = D * (yi - yk)) (hik : i < k) (hD : 0 < D) : D * yp + A * p ≤ D * yi + A * i := by
  have a1 := Int.mul_le_mul_of_nonneg_left a (show 0 ≤ D by omega)
  have e : A * (k - i) * (p - i) = D * (yi - yk) * (p - i) := by rw [hs]
  refine mul_le_cancel (c := k - i) (by omega) ?_
  grind
theorem line_lt {D A yp yi yk p i k : Int} (a : (yp - yi) * (k - i) < (yk - yi) * (p - i)) (hs : A * (k - i) = D * (yi - yk)) (hik : i < k) (hD : 0 < D) : D * yp + A * p < D * yi + A * i := by
  have a1 := Int.mul_lt_mul_of_pos_left a hD
  have e : A * (k - i) * (p - i) = D * (yi - yk) * (p - i) := by rw [hs]
  refine mul_lt_cancel (c := k - i) (by omega) ?_
  grind
theorem left_lt {yp yi yk yg p i k g : Int} (a : (yp - yi) * (i - g) ≤ (yi - yg) * (p - i)) (st : (yk - yi) * (i - g) < (yi - yg) * (k - i)) (hp : p < i) (hg : g < i) (hk : i < k) : (yp - yi) * (k - i) < (yk - yi) * (p - i) := by
  have a1 := Int.mul_le_mul_of_nonneg_right a (show 0 ≤ k - i by omega)
  have a2 := Int.mul_lt_mul_of_pos_right st (show 0 < i - p by omega)
  refine mul_lt_cancel (c := i - g) (by omega) ?_
  grind
theorem right_lt {yp yi yk yg p i k g : Int} (a : (yp - yk) * (g - k) ≤ (yg - yk) * (p - k)) (st : (yg - yk) * (k - i) < (yk - yi) * (g - k)) (hp : k < p) (hg : k < g) (hk : i < k) : (yp - yi) * (k - i) < (yk - yi) * (p - i) := by
  have a1 := Int.mul_le_mul_of_nonneg_right a (show 0 ≤ k - i by omega)
  have a2 := Int.mul_lt_mul_of_pos_right st (show 0 < p - k by omega)
  have a3 : (yp - yk) * (k - i) * (g - k) < (yk - yi) * (p - k) * (g - k) := by grind
  have a4 := mul_lt_cancel (by omega) a3
  grind
theorem slope_end {D A yR yi yk R i k : Int} (sR : (yR - yi) * (k - i) ≤ (yk - yi) * (R - i)) (he : D * yR + A * R = D * yi + A * i) (tk : D * yk + A * k ≤ D * yi + A * i) (hR : i < R) (hD : 0 < D) : A * (k - i) = D * (yi - yk) := by
  have a := Int.mul_le_mul_of_nonneg_left sR (show 0 ≤ D by omega)
  have e : (D * yR + A * R) * (k - i) = (D * yi + A * i) * (k - i) := by rw [he]
  have b : (D * (yi - yk)) * (R - i) ≤ (A * (k - i)) * (R - i) := by grind
  have := mul_le_cancel (by omega) b
  rw [Int.mul_sub, Int.mul_sub] at this ⊢
  omega
theorem slope_mid {D A yL yi yk L i k : Int} (sL : (yL - yi) * (k - i) ≤ (yk - yi) * (L - i)) (ti : D * yi + A * i ≤ D * yL + A * L) (tk : D * yk + A * k ≤ D * yL + A * L) (h1 : i < L) (h2 : L < k) (hD : 0 < D) : A * (k - i) = D * (yi - yk) := by
  have a := Int.mul_le_mul_of_nonneg_left sL (show 0 ≤ D by omega)
  have c1 := Int.mul_le_mul_of_nonneg_right ti (show 0 ≤ k - L by omega)
  have c2 := Int.mul_le_mul_of_nonneg_right tk (show 0 ≤ L - i by omega)
  have d1 : (D * yL + A * L) * (k - L) ≤ (D * yi + A * i) * (k - L) := by grind
  have d2 : (D * yL + A * L) * (L - i) ≤ (D * yk + A * k) * (L - i) := by grind
  have e1 := mul_le_cancel (by omega) d1
  have e2 := mul_le_cancel (by omega) d2
  rw [Int.mul_sub, Int.mul_sub]
  omega
structure Face (F : Int → Prop) (y : Int → Int) (A D L R : Int) : Prop where
  fl : F L
  fr : F R
  le : L ≤ R
  top : ∀ p, F p → D * y p + A * p ≤ D * y L + A * L
  eq : D * y R + A * R = D * y L + A * L
  all : ∀ p, F p → D * y p + A * p = D * y L + A * L → L ≤ p ∧ p ≤ R
structure PolH (c ts : List Int) : Prop where
  ok : TsOK c ts
  pair : ∀ (q : Nat) (i k : Int), ts[q]? = some i → ts[q + 1]? = some k → Sup (finK c c.length) (yC c) i k
  stp : ∀ (q : Nat) (h i k : Int), ts[q]? = some h → ts[q + 1]? = some i → ts[q + 2]? = some k → Stp (yC c) h i k
  fst : ∀ (t p : Int), ts[0]? = some t → finK c c.length p → t ≤ p
  lst : ∀ (t p : Int), ts[ts.length - 1]? = some t → finK c c.length p → p ≤ t
  fin : ∀ t ∈ ts, finK c c.length t
theorem polH_of {c : List Int} (h : polyB c = true) : PolH c (hullL c c.length).reverse := by
  obtain ⟨hts, _, _⟩ := ts_of h
  obtain ⟨hh, htop⟩ := hullL_ok (c := c) c.length (Nat.le_refl _)
  have finrs : ∀ t ∈ (hullL c c.length).reverse, finK c c.length t := fun t ht => by
    obtain ⟨b0, b1, x, hx, hb⟩ := hts.bd t ht
    exact ⟨⟨b0, x, hx, fun e => by rw [e] at hb; simp [finB] at hb⟩, b1⟩
  have least : ∀ (l : List Int), HullR (finK c c.length) (yC c) l → ∀ p t, finK c c.length p → l.getLast? = some t → t ≤ p := by
    intro l
    induction l with
    | nil => intro _ p t _ h; simp at h
    | cons j l ih =>
      intro hl p t hp ht
      cases l with
      | nil =>
        simp at ht
        subst ht
        exact hl.2 p hp
      | cons i r => exact ih hl.tail p t hp (by rw [List.getLast?_cons_cons] at ht; exact ht)
  refine ⟨hts, fun q i k h1 h2 => ?_, fun q h i k h1 h2 h3 => ?_, fun t p ht hp => ?_, fun t p ht hp => ?_, finrs⟩
  · obtain ⟨g1, g2⟩ := rev_pair h1 h2
    exact (hull_pair hh _ i k g1 g2).2.1
  · obtain ⟨g1, g2⟩ := rev_pair h2 h3
    obtain ⟨g3, g4⟩ := rev_pair h1 h2
    have hl := (List.getElem?_eq_some_iff.1 h3).1
    rw [List.length_reverse] at hl
    refine (hull_pair hh _ i k g1 g2).2.2 h ?_
    rw [show (hullL c c.length).length - 2 - (q + 1) + 2 = (hullL c c.length).length - 2 - q + 1 by omega]
    exact g4
  · rw [← List.head?_eq_getElem?, List.head?_reverse] at ht
    exact least _ hh p t hp ht
  · obtain ⟨t', r, e, hle⟩ := htop p hp
    rw [e] at ht
    simp at ht
    subst ht
    exact hle
theorem PolH.edge {c ts : List Int} (h : PolH c ts) {q : Nat} {i k A D : Int} (h1 : ts[q]? = some i) (h2 : ts[q + 1]? = some k) (hD : 0 < D) (hs : A * (k - i) = D * (yC c i - yC c k)) : Face (finK c c.length) (yC c) A D i k := by
  have hik := h.ok.lt h1 h2 (by omega)
  have hsup := h.pair q i k h1 h2
  refine ⟨h.fin i (List.mem_of_getElem? h1), h.fin k (List.mem_of_getElem? h2), by omega, fun p hp => line_le (hsup p hp) hs hik hD, ?_, fun p hp he => ?_⟩
  · clear hsup h1 h2 h
    grind
  · constructor
    · refine Classical.byContradiction fun hc => ?_
      have hc : p < i := by omega
      cases q with
      | zero => have := h.fst i p h1 hp; omega
      | succ q =>
        obtain ⟨g, hg⟩ : ∃ t, ts[q]? = some t := ⟨_, List.getElem?_eq_getElem (by have := (List.getElem?_eq_some_iff.1 h1).1; omega)⟩
        have hgi := h.ok.lt hg h1 (by omega)
        have := line_lt (left_lt (sup_right (h.pair q g i hg h1) p hp) (h.stp q g i k hg h1 h2) hc hgi hik) hs hik hD
        omega
    · refine Classical.byContradiction fun hc => ?_
      have hc : k < p := by omega
      by_cases hlast : q + 2 < ts.length
      · obtain ⟨g, hg⟩ : ∃ t, ts[q + 2]? = some t := ⟨_, List.getElem?_eq_getElem hlast⟩
        have hkg := h.ok.lt h2 hg (by omega)
        have := line_lt (right_lt (h.pair (q + 1) k g h2 hg p hp) (h.stp q i k g h1 h2 hg) hc hkg hik) hs hik hD
        omega
      · have hl := (List.getElem?_eq_some_iff.1 h2).1
        have := h.lst k p (by rw [show ts.length - 1 = q + 1 by omega]; exact h2) hp
        omega
theorem locate2 {c ts : List Int} (h : TsOK c ts) {p t0 : Int} (g0 : ts[0]? = some t0) (hp : t0 ≤ p) : ∀ (m : Nat) (tm : Int), ts[m]? = some tm → p < tm → ∃ (q : Nat) (i k : Int), ts[q]? = some i ∧ ts[q + 1]? = some k ∧ i ≤ p ∧ p < k
  | 0, tm, gm, hm => by
    rw [g0] at gm; cases gm
    omega
  | m + 1, tm, gm, hm => by
    have hl := (List.getElem?_eq_some_iff.1 gm).1
    obtain ⟨s, gs⟩ : ∃ t, ts[m]? = some t := ⟨_, List.getElem?_eq_getElem (by omega)⟩
    by_cases e : p < s
    · exact locate2 h g0 hp m s gs e
    · exact ⟨m, s, tm, gs, gm, by omega, hm⟩
theorem PolH.of_face {c ts : List Int} (h : PolH c ts) {A D L R : Int} (hD : 0 < D) (f : Face (finK c c.length) (yC c) A D L R) (hLR : L < R) : ∃ q : Nat, ts[q]? = some L ∧ ts[q + 1]? = some R := by
  have hne := List.length_pos_iff.2 h.ok.ne
  obtain ⟨t0, g0⟩ : ∃ t, ts[0]? = some t := ⟨_, List.getElem?_eq_getElem hne⟩
  obtain ⟨tm, gm⟩ : ∃ t, ts[ts.length - 1]? = some t := ⟨_, List.getElem?_eq_getElem (by omega)⟩
  have hR := h.lst tm R gm f.fr
  obtain ⟨q, i, k, h1, h2, h3, h4⟩ := locate2 h.ok g0 (h.fst t0 L g0 f.fl) _ tm gm (show L < tm by omega)
  have hik := h.ok.lt h1 h2 (by omega)
  have sL := h.pair q i k h1 h2 L f.fl
  have sR := h.pair q i k h1 h2 R f.fr
  have ti := f.top i (h.fin i (List.mem_of_getElem? h1))
  have tk := f.top k (h.fin k (List.mem_of_getElem? h2))
  have hs : A * (k - i) = D * (yC c i - yC c k) := by
    by_cases e : i = L
    · subst e
      exact slope_end sR f.eq tk hLR hD
    · exact slope_mid sL ti tk (by omega) h4 hD
  have fe := h.edge h1 h2 hD hs
  -- both faces are one
  have e1 := f.all i fe.fl (by have := fe.top L f.fl; omega)
  have e2 := fe.all L f.fl (by have := f.top i fe.fl; have := fe.top L f.fl; omega)
  have e3 := f.all k fe.fr (by have := fe.eq; have := fe.top L f.fl; omega)
  have e4 := fe.all R f.fr (by have := f.eq; have := f.top i fe.fl; have := fe.top L f.fl; omega)
  have hi : i = L := by omega
  have hk : k = R := by omega
  rw [hi] at h1
  rw [hk] at h2
  exact ⟨q, h1, h2⟩
theorem face_exists {F : Int → Prop} (y : Int → Int) (A D : Int) : ∀ n : Nat, (∃ p, F p ∧ 0 ≤ p ∧ p < n) → ∃ L R, Face (fun p => F p ∧ 0 ≤ p ∧ p < n) y A D L R
  | 0, ⟨p, _, h1, h2⟩ => by omega
  | n + 1, hex => by
    by_cases h0 : ∃ p, F p ∧ 0 ≤ p ∧ p < n
    · obtain ⟨L, R, f⟩ := face_exists y A D n h0
      have up : ∀ p, (F p ∧ 0 ≤ p ∧ p < (n : Int)) → F p ∧ 0 ≤ p ∧ p < ((n + 1 : Nat) : Int) := fun p h => ⟨h.1, h.2.1, by omega⟩
      by_cases hn : F n
      · have hnn : F (n : Int) ∧ (0 : Int) ≤ n ∧ (n : Int) < ((n + 1 : Nat) : Int) := ⟨hn, by omega, by omega⟩
        have old : ∀ p, (F p ∧ 0 ≤ p ∧ p < ((n + 1 : Nat) : Int)) → p = n ∨ (F p ∧ 0 ≤ p ∧ p < (n : Int)) := fun p h => by
          by_cases e : p = n
          · exact .inl e
          · exact .inr ⟨h.1, h.2.1, by omega⟩
        have hl := f.fl.2.2
        have hr := f.fr.2.2
        by_cases c1 : D * y n + A * n = D * y L + A * L
        · refine ⟨L, n, up L f.fl, hnn, by omega, fun p hp => ?_, c1, fun p hp he => ?_⟩
          · rcases old p hp with rfl | hp
            · omega
            · exact f.top p hp
          · rcases old p hp with rfl | hp
            · omega
            · have := f.all p hp he; omega
        · by_cases c2 : D * y n + A * n < D * y L + A * L
          · refine ⟨L, R, up L f.fl, up R f.fr, f.le, fun p hp => ?_, f.eq, fun p hp he => ?_⟩
            · rcases old p hp with rfl | hp
              · omega
              · exact f.top p hp
            · rcases old p hp with rfl | hp
              · omega
              · exact f.all p hp he
          · refine ⟨n, n, hnn, hnn, by omega, fun p hp => ?_, rfl, fun p hp he => ?_⟩
            · rcases old p hp with rfl | hp
              · omega
              · have := f.top p hp; omega
            · rcases old p hp with rfl | hp
              · omega
              · have := f.top p hp; omega
      · have same : ∀ p, (F p ∧ 0 ≤ p ∧ p < ((n + 1 : Nat) : Int)) → F p ∧ 0 ≤ p ∧ p < (n : Int) := fun p h => ⟨h.1, h.2.1, by
          have : p ≠ n := fun e => hn (e ▸ h.1)
          omega⟩
        exact ⟨L, R, up L f.fl, up R f.fr, f.le, fun p hp => f.top p (same p hp), f.eq, fun p hp he => f.all p (same p hp) he⟩
    · obtain ⟨p, hp, h1, h2⟩ := hex
      have e : p = n := by
        refine Classical.byContradiction fun hc => h0 ⟨p, hp, h1, by omega⟩
      subst e
      have only : ∀ q, (F q ∧ 0 ≤ q ∧ q < ((n + 1 : Nat) : Int)) → q = n := fun q h => Classical.byContradiction fun hc => h0 ⟨q, h.1, h.2.1, by omega⟩
      exact ⟨n, n, ⟨hp, by omega, by omega⟩, ⟨hp, by omega, by omega⟩, by omega, fun q hq => by rw [only q hq]; exact Int.le_refl _, rfl, fun q hq _ => by have := only q hq; omega⟩
theorem face_of {c ts : List Int} (h : PolH c ts) (A D : Int) : ∃ L R, Face (finK c c.length) (yC c) A D L R := by
  have e : finK c c.length = fun p => finC c p ∧ 0 ≤ p ∧ p < c.length := by
    funext p
    exact propext ⟨fun h => ⟨h.1, h.1.1, h.2⟩, fun h => ⟨h.1, h.2.2⟩⟩
  rw [e]
  refine face_exists _ A D c.length ?_
  obtain ⟨t, ht⟩ := List.exists_mem_of_ne_nil _ h.ok.ne
  have := h.fin t ht
  exact ⟨t, this.1, this.1.1, this.2⟩
theorem fin_co {c : List Int} {p : Int} : finK c c.length p ↔ 0 ≤ p ∧ co c p.toNat ≠ -1000000000000000 ∧ yC c p = co c p.toNat := by
  constructor
  · rintro ⟨⟨h0, x, hx, hn⟩, h1⟩
    have hlt := (List.getElem?_eq_some_iff.1 hx).1
    have := co_get hlt
    rw [this] at hx
    cases hx
    refine ⟨h0, hn, ?_⟩
    unfold yC
    rw [this]; rfl
  · rintro ⟨h0, hn, _⟩
    have hlt := co_lt hn
    exact ⟨⟨h0, _, co_get hlt, hn⟩, by omega⟩
theorem prod_fin {c d p : List Int} (hd : c.all valB = true ∧ d.all valB = true) (hp : IsProd c d p) : (∀ i k, finK c c.length i → finK d d.length k → finK p p.length (i + k) ∧ yC c i + yC d k ≤ yC p (i + k)) ∧ ∀ m, finK p p.length m → ∃ i k, i + k = m ∧ finK c c.length i ∧ finK d d.length k ∧ yC p m = yC c i + yC d k := by
  refine ⟨fun i k hi hk => ?_, fun m hm => ?_⟩
  · obtain ⟨i0, i1, i2⟩ := fin_co.1 hi
    obtain ⟨k0, k1, k2⟩ := fin_co.1 hk
    have hup := hp.up _ _ i1 k1
    have e : (i + k).toNat = i.toNat + k.toNat := by omega
    have b1 := (co_val hd.1 i.toNat).resolve_left i1
    have b2 := (co_val hd.2 k.toNat).resolve_left k1
    have hne : co p (i + k).toNat ≠ -1000000000000000 := by rw [e]; omega
    have hlt := co_lt hne
    have hf : finK p p.length (i + k) := ⟨⟨by omega, _, co_get hlt, hne⟩, by omega⟩
    refine ⟨hf, ?_⟩
    rw [(fin_co.1 hf).2.2, i2, k2, e]
    exact hup
  · obtain ⟨m0, m1, m2⟩ := fin_co.1 hm
    obtain ⟨i, k, e, h1, h2, h3⟩ := hp.on _ m1
    have hi : finK c c.length (i : Int) := ⟨⟨by omega, _, by rw [Int.toNat_natCast]; exact co_get (co_lt h1), h1⟩, by have := co_lt h1; omega⟩
    have hk : finK d d.length (k : Int) := ⟨⟨by omega, _, by rw [Int.toNat_natCast]; exact co_get (co_lt h2), h2⟩, by have := co_lt h2; omega⟩
    refine ⟨i, k, by omega, hi, hk, ?_⟩
    rw [m2, h3, (fin_co.1 hi).2.2, (fin_co.1 hk).2.2, Int.toNat_natCast, Int.toNat_natCast]
theorem Face.prod {c d p : List Int} (hv : c.all valB = true ∧ d.all valB = true) (hp : IsProd c d p) {A D Lc Rc Ld Rd' L R : Int} (hD : 0 < D) (fc : Face (finK c c.length) (yC c) A D Lc Rc) (fd : Face (finK d d.length) (yC d) A D Ld Rd') (f : Face (finK p p.length) (yC p) A D L R) : L = Lc + Ld ∧ R = Rc + Rd' := by
  obtain ⟨mk, un⟩ := prod_fin hv hp
  have low : ∀ i k, finK c c.length i → finK d d.length k → (D * yC c i + A * i) + (D * yC d k + A * k) ≤ D * yC p (i + k) + A * (i + k) := fun i k hi hk => by
    have := Int.mul_le_mul_of_nonneg_left (mk i k hi hk).2 (show 0 ≤ D by omega)
    rw [Int.mul_add] at this
    rw [Int.mul_add]
    omega
  have tops : ∀ m, finK p p.length m → D * yC p m + A * m ≤ (D * yC c Lc + A * Lc) + (D * yC d Ld + A * Ld) := fun m hm => by
    obtain ⟨i, k, rfl, hi, hk, e⟩ := un m hm
    have h1 := fc.top i hi
    have h2 := fd.top k hk
    rw [e, Int.mul_add, Int.mul_add]
    omega
  have a1 := low Lc Ld fc.fl fd.fl
  have a2 := f.top _ (mk Lc Ld fc.fl fd.fl).1
  have a3 := tops L f.fl
  have b1 := low Rc Rd' fc.fr fd.fr
  have b2 := f.top _ (mk Rc Rd' fc.fr fd.fr).1
  have b3 := fc.eq
  have b4 := fd.eq
  have g1 := f.all _ (mk Lc Ld fc.fl fd.fl).1 (by omega)
  have g2 := f.all _ (mk Rc Rd' fc.fr fd.fr).1 (by omega)
  have inner : ∀ m, finK p p.length m → D * yC p m + A * m = D * yC p L + A * L → Lc + Ld ≤ m ∧ m ≤ Rc + Rd' := fun m hm he => by
    obtain ⟨i, k, rfl, hi, hk, e⟩ := un m hm
    have h1 := fc.top i hi
    have h2 := fd.top k hk
    rw [e, Int.mul_add, Int.mul_add] at he
    have h3 := fc.all i hi (by omega)
    have h4 := fd.all k hk (by omega)
    omega
  have i1 := inner L f.fl rfl
  have i2 := inner R f.fr f.eq
  omega

structure CornV (c ts : List Int) (cs : List TCorner) : Prop where
  len : cs.length + 1 = ts.length
  at_ : ∀ (q : Nat) (i k : Int), ts[q]? = some i → ts[q + 1]? = some k → ∃ x, cs[q]? = some x ∧ x.Times = k - i ∧ RatP (yC c i - yC c k) (k - i) x.At
theorem ts_len {c ts : List Int} (h : TsOK c ts) (hc : c.length ≤ 12) : ts.length ≤ 12 := by
  have : ∀ (l : List Int) (lo : Int), List.Pairwise (fun a b => a < b) l → (∀ t ∈ l, lo ≤ t ∧ t < c.length) → (l.length : Int) ≤ max 0 (c.length - lo) := by
    intro l
    induction l with
    | nil => intro lo _ _; simp; omega
    | cons a l ih =>
      intro lo hp hm
      have := ih (a + 1) (List.pairwise_cons.1 hp).2 fun t ht => ⟨(List.pairwise_cons.1 hp).1 t ht, (hm t (List.mem_cons_of_mem _ ht)).2⟩
      have := hm a List.mem_cons_self
      simp only [List.length_cons]
      omega
  have := this ts 0 h.inc fun t ht => ⟨(h.bd t ht).1, (h.bd t ht).2.1⟩
  omega
theorem corners_tc {c : List Int} (hc : polyB c = true) : M.TC (impl_CornersOf c) (fun w => w.2 = 3 ∨ (w.2 = 0 ∧ CornV c (hullL c c.length).reverse w.1)) := by
  obtain ⟨h1, h2, h3⟩ := polyB_len hc
  obtain ⟨hts, _, hI⟩ := ts_of hc
  generalize (hullL c c.length).reverse = ts at hts hI ⊢
  have hne := List.length_pos_iff.2 hts.ne
  have tl := ts_len hts h1
  unfold impl_CornersOf
  refine M.TC_bindC (impl_IsPolynomial_ok (by omega)) (M.TC_ite (fun t => by rw [hc] at t; cases t) (fun _ => M.TC_bindC hI ?_))
  refine M.TC_bind (Mid := fun (y : List TCorner ⊕ (List TCorner × Int)) => (∃ cs, y = .inl cs ∧ CornV c ts cs) ∨ ∃ q, y = .inr (q, 3)) (M.TC_for (fun m (s : List TCorner) => (s.length : Int) + 1 = m ∧ ∀ (q : Nat) (i k : Int), (q : Int) + 1 < m → ts[q]? = some i → ts[q + 1]? = some k → ∃ x, s[q]? = some x ∧ x.Times = k - i ∧ RatP (yC c i - yC c k) (k - i) x.At) _ (by omega) (by omega) ⟨rfl, fun q i k hq => by omega⟩ (fun m s m0 m1 hI => ?_) (fun m s hm hI => ?_)) fun y hy => ?_
  · obtain ⟨hl, hs⟩ := hI
    obtain ⟨q, rfl⟩ : ∃ q : Nat, m = (q : Int) + 1 := ⟨(m - 1).toNat, by omega⟩
    obtain ⟨i, gi⟩ : ∃ t, ts[q]? = some t := ⟨_, List.getElem?_eq_getElem (by omega)⟩
    obtain ⟨k, gk⟩ : ∃ t, ts[q + 1]? = some t := ⟨_, List.getElem?_eq_getElem (by omega)⟩
    obtain ⟨i0, i1, bi⟩ := hts.at gi
    obtain ⟨k0, k1, bk⟩ := hts.at gk
    have hik := hts.lt gi gk (by omega)
    have ga : M.Conv (M.idx ts (w64 ((q : Int) + 1 - 1))) i := by
      rw [w64_eq _ (by omega)]
      exact M.Conv_get (by omega) (by rw [show ((q : Int) + 1 - 1).toNat = q by omega]; exact gi)
    have gb : M.Conv (M.idx ts ((q : Int) + 1)) k := M.Conv_get (by omega) (by rw [show ((q : Int) + 1).toNat = q + 1 by omega]; exact gk)
    obtain ⟨r, _, r2, r3⟩ := ratio_ok (x := yC c i - yC c k) (d := k - i) (by omega) (by omega)
    obtain ⟨b, _, b2, _⟩ := isRatio_same r
    have ew : w64 (yC c i - yC c k) = yC c i - yC c k := w64_eq _ (by omega)
    have ew2 : w64 (k - i) = k - i := w64_eq _ (by omega)
    refine M.TC_bindC ga (M.TC_bindC gb (M.TC_bindC (yC_conv i0 i1) (M.TC_bindC (yC_conv k0 k1) ?_)))
    rw [ew, ew2]
    refine M.TC_bindC r2 (M.TC_bindC b2 (M.TC_ite (fun _ => M.TC_ret (.inr ⟨_, rfl, .inr ⟨_, rfl⟩⟩)) (fun _ => M.TC_bindC (M.Conv_app (by simp; omega)) (M.TC_ret (.inl ⟨_, rfl, ?_, fun q' i' k' hq' g1 g2 => ?_⟩)))))
    · simp; omega
    · by_cases e : q' = q
      · subst e
        rw [gi] at g1; cases g1
        rw [gk] at g2; cases g2
        refine ⟨⟨r, k - i⟩, ?_, rfl, r3⟩
        have : s.length = q' := by omega
        rw [List.getElem?_append_right (by omega), this, Nat.sub_self]; rfl
      · obtain ⟨x, hx, h⟩ := hs q' i' k' (by omega) g1 g2
        have hlt := (List.getElem?_eq_some_iff.1 hx).1
        exact ⟨x, by rw [List.getElem?_append_left hlt]; exact hx, h⟩
  · obtain ⟨hl, hs⟩ := hI
    refine .inl ⟨s, rfl, by omega, fun q i k g1 g2 => hs q i k ?_ g1 g2⟩
    have := (List.getElem?_eq_some_iff.1 g2).1
    omega
  · rcases hy with ⟨cs, rfl, h⟩ | ⟨q, rfl⟩
    · exact M.TC_ret (.inr ⟨rfl, h⟩)
    · exact M.TC_ret (.inl rfl)
theorem corner_sum {c ts : List Int} {cs ps : List TCorner} (hc : c.length ≤ 12) (h : PolH c ts) (hcs : CornV c ts cs) {X D0 : Int} {z : TCorner} (hr : RatP X D0 z.At) (hD : 0 < D0) {L R : Int} (f : Face (finK c c.length) (yC c) X D0 L R) (s0 i2 : Int) (b : -1000 ≤ s0 ∧ s0 ≤ 1000) (gz : M.Conv (M.idx ps i2) z) :
    M.Conv (M.forI 0 (cs.length : Int) (fun s => s) (fun i3 => (fun (s5 : Int) => M.bind (M.idx cs i3) (fun x22 => M.bind (M.idx ps i2) (fun x23 => M.bind (M.ite ((x22.At.Num == x23.At.Num) && (x22.At.Den == x23.At.Den)) (M.bind (M.idx cs i3) (fun x24 => M.ret (w64 (s5 + x24.Times)))) (M.ret s5)) (fun (s6 : Int) => M.ret (.inl s6)))))) s0) (s0 + (R - L)) := by
  have tl := ts_len h.ok hc
  have hlen := hcs.len
  have hLR := f.le
  have hL := f.fl
  have hR := f.fr
  have bLR : 0 ≤ L ∧ R < 12 := ⟨hL.1.1, by have := hR.2; omega⟩
  have key := M.TC_forN (n := cs.length) (f := (fun i3 => (fun (s5 : Int) => M.bind (M.idx cs i3) (fun x22 => M.bind (M.idx ps i2) (fun x23 => M.bind (M.ite ((x22.At.Num == x23.At.Num) && (x22.At.Den == x23.At.Den)) (M.bind (M.idx cs i3) (fun x24 => M.ret (w64 (s5 + x24.Times)))) (M.ret s5)) (fun (s6 : Int) => M.ret (.inl s6))))))) (s := s0) (fun q s => (s = s0 ∧ ∀ q', q' < q → ¬(ts[q']? = some L ∧ ts[q' + 1]? = some R)) ∨ (s = s0 + (R - L) ∧ ∃ q', q' < q ∧ ts[q']? = some L ∧ ts[q' + 1]? = some R)) (by omega) (.inl ⟨rfl, fun q' hq => by omega⟩) (fun q s hq hI => ?_)
  · obtain ⟨s, cv, hs⟩ := key
    refine cv.of ?_
    rcases hs with ⟨rfl, hs⟩ | ⟨rfl, _⟩
    · by_cases e : L < R
      · obtain ⟨q, g1, g2⟩ := h.of_face hD f e
        have := (List.getElem?_eq_some_iff.1 g2).1
        exact absurd ⟨g1, g2⟩ (hs q (by omega))
      · omega
    · rfl
  · obtain ⟨i, gi⟩ : ∃ t, ts[q]? = some t := ⟨_, List.getElem?_eq_getElem (by omega)⟩
    obtain ⟨k, gk⟩ : ∃ t, ts[q + 1]? = some t := ⟨_, List.getElem?_eq_getElem (by omega)⟩
    have hik := h.ok.lt gi gk (by omega)
    obtain ⟨x, hx, x1, x2⟩ := hcs.at_ q i k gi gk
    have gx : M.Conv (M.idx cs (q : Int)) x := M.Conv_get (by omega) (by simpa using hx)
    have heq : ((x.At.Num == z.At.Num) && (x.At.Den == z.At.Den)) = true ↔ (i = L ∧ k = R) := by
      have e1 : ((x.At.Num == z.At.Num) && (x.At.Den == z.At.Den)) = true ↔ x.At = z.At := by
        rw [Bool.and_eq_true, beq_iff_eq, beq_iff_eq]
        constructor
        · rintro ⟨h1, h2⟩
          cases hxa : x.At with | mk a b => cases hza : z.At with | mk a' b' => rw [hxa, hza] at h1 h2; simp only at h1 h2; rw [h1, h2]
        · intro e; rw [e]; exact ⟨rfl, rfl⟩
      rw [e1, x2.eq_iff (by omega) hD hr]
      constructor
      · intro e
        have fe := h.edge gi gk hD (A := X) (by rw [Int.mul_comm D0]; exact e.symm)
        have e1 := f.all i fe.fl (by have := fe.top L f.fl; have := f.top i fe.fl; omega)
        have e2 := fe.all L f.fl (by have := f.top i fe.fl; have := fe.top L f.fl; omega)
        have e3 := f.all k fe.fr (by have := fe.eq; have := fe.top L f.fl; have := f.top i fe.fl; omega)
        have e4 := fe.all R f.fr (by have := f.eq; have := f.top i fe.fl; have := fe.top L f.fl; omega)
        omega
      · rintro ⟨rfl, rfl⟩
        have := f.eq
        grind
    refine M.TC_bindC gx (M.TC_bindC gz ?_)
    cases hb : ((x.At.Num == z.At.Num) && (x.At.Den == z.At.Den)) with
    | true =>
      obtain ⟨rfl, rfl⟩ := heq.1 hb
      rcases hI with ⟨rfl, _⟩ | ⟨_, q', hq', g1, g2⟩
      · refine M.TC_bindC (x := s + (k - i)) (M.Conv_ite (fun _ => M.Conv_bind gx ((M.Conv_ret _).of (by rw [x1, w64_eq _ (by omega)]))) (fun t => by cases t)) (M.TC_ret ⟨_, rfl, .inr ⟨rfl, q, by omega, gi, gk⟩⟩)
      · have := h.ok.lt g1 gi (by omega)
        omega
    | false =>
      have hn : ¬ (i = L ∧ k = R) := fun e => by rw [heq.2 e] at hb; cases hb
      refine M.TC_bindC (M.Conv_ite (fun t => by cases t) (fun _ => M.Conv_ret _)) (M.TC_ret ⟨_, rfl, ?_⟩)
      rcases hI with ⟨rfl, hI⟩ | ⟨rfl, q', hq', g⟩
      · refine .inl ⟨rfl, fun q' hq' g => ?_⟩
        by_cases e : q' = q
        · subst e
          rw [gi, gk] at g
          exact hn ⟨Option.some.inj g.1, Option.some.inj g.2⟩
        · exact hI q' (by omega) g
      · exact .inr ⟨rfl, q', by omega, g⟩
theorem corner_down {c ts : List Int} {cs : List TCorner} (hc : c.length ≤ 12) (h : PolH c ts) (hcs : CornV c ts cs) {t0 tm : Int} (g0 : ts[0]? = some t0) (gm : ts[ts.length - 1]? = some tm) (s0 : Int) (b : -1000 ≤ s0 ∧ s0 ≤ 1000) :
    M.Conv (M.forI 0 (cs.length : Int) (fun s => s) (fun i5 => (fun (s9 : Int) => M.bind (M.idx cs i5) (fun x31 => M.ret (.inl (w64 (s9 - x31.Times)))))) s0) (s0 - (tm - t0)) := by
  have tl := ts_len h.ok hc
  have hlen := hcs.len
  have key := M.TC_forN (n := cs.length) (f := (fun i5 => (fun (s9 : Int) => M.bind (M.idx cs i5) (fun x31 => M.ret (.inl (w64 (s9 - x31.Times))))))) (s := s0) (fun q s => ∃ t, ts[q]? = some t ∧ s = s0 - (t - t0)) (by omega) ⟨t0, g0, by omega⟩ (fun q s hq hI => ?_)
  · obtain ⟨s, cv, t, ht, rfl⟩ := key
    refine cv.of ?_
    rw [show ts.length - 1 = cs.length by omega] at gm
    rw [gm] at ht; cases ht; rfl
  · obtain ⟨i, gi, rfl⟩ := hI
    obtain ⟨k, gk⟩ : ∃ t, ts[q + 1]? = some t := ⟨_, List.getElem?_eq_getElem (by omega)⟩
    obtain ⟨x, hx, x1, _⟩ := hcs.at_ q i k gi gk
    have a1 := h.ok.at gi
    have a2 := h.ok.at gk
    have a3 := h.ok.at g0
    refine M.TC_bindC (M.Conv_get (x := x) (by omega) (by simpa using hx)) (M.TC_ret ⟨_, rfl, k, gk, ?_⟩)
    rw [x1, w64_eq _ (by omega)]; omega
theorem DrawMultiply_ok {code : List Int} (hc : ByC code) : M.TC (spec_DrawMultiplyPolynomials code) (fun r => PolS r.1 ∧ PolS r.2) := by
  unfold spec_DrawMultiplyPolynomials
  exact M.TC_bind (from_ok hc) fun s hs => M.TC_bind (drawTwo_ok hc hs) fun x hx => M.TC_ret ⟨hx.1, hx.2.1⟩
theorem DrawCorners_ok {code : List Int} (hc : ByC code) : M.TC (spec_DrawCornersOf code) PolS := by
  unfold spec_DrawCornersOf
  exact M.TC_bind (from_ok hc) fun s hs => M.TC_bind (draw9_ok hc hs) fun x hx => M.TC_ret ⟨hx.1, hx.2.1, hx.2.2.1⟩
theorem likeC_refl {a : List TCorner} (h : a.length ≤ 9223372036854775807) : M.Conv (M.forI 0 (a.length : Int) (fun s => .inl s) (fun i1 => (fun (_ : Unit) => M.bind (M.idx a i1) (fun x13 => M.bind (M.idx a i1) (fun x14 => M.ite (!(((x13.At.Num == x14.At.Num) && (x13.At.Den == x14.At.Den)) && (x13.Times == x14.Times))) (M.ret (.inr (.inr false))) (M.ret (.inl ())))))) () : M (Unit ⊕ Bool)) (.inl ()) := by
  refine (M.Conv_all (fun _ => true) false h fun i x hx => ?_).of (by rw [List.all_eq_true.2 fun _ _ => rfl]; rfl)
  have gx : M.Conv (M.idx a (i : Int)) x := M.Conv_get (by omega) (by simpa using hx)
  exact M.Conv_bind gx (M.Conv_bind gx (M.Conv_ite (fun t => by simp at t) (fun _ => M.Conv_ret _)))
theorem FnCornersOfProducts_ok (code : List Int) (h : fitL inU8 code) : M.Conv (laws_FnCornersOfProducts code) true := by
  apply M.TC.conv
  unfold laws_FnCornersOfProducts
  refine M.TC_bindC (big_ok code) (M.TC_ite (fun _ => M.TC_ret rfl) (fun hb => ?_))
  have hbc := ByC.of h hb
  refine M.TC_bind (DrawMultiply_ok hbc) fun r hr => ?_
  obtain ⟨c, d⟩ := r
  obtain ⟨hc, hd⟩ := hr
  simp only at hc hd ⊢
  obtain ⟨w1, p1, q1, s1⟩ := same_MultiplyPolynomials c hc.vec.fit d hd.vec.fit hc.vec.sm hd.vec.sm
  refine M.TC_bindC q1 (M.TC_bindC p1 (M.TC_bind (DrawCorners_ok hbc) fun e he => ?_))
  obtain ⟨w2, p2, q2, s2⟩ := same_CornersOf e he.vec.fit he.vec.sm
  have hw2 : w2.1.length ≤ 9223372036854775807 := by unfold smC at s2; omega
  refine M.TC_bindC q2 (M.TC_bindC p2 (M.TC_bindC (cmp_list0 s1) (M.TC_ite (fun t => by simp at t) (fun _ => M.TC_bindC (likeC_refl hw2) (M.TC_ite (fun _ => M.TC_ret rfl) (fun t => ?_))))))
  have t : w1.2 = 0 := by simpa using t
  have hcl := hc.len
  have hdl := hd.len
  have hbad : (polyB c && polyB d) = true := by
    cases hcd : (polyB c && polyB d) with
    | true => rfl
    | false =>
      have := q1.unique (mul_bad (by omega) (by omega) hcd)
      rw [this] at t; cases t
  simp only [Bool.and_eq_true] at hbad
  obtain ⟨hpc, hpd⟩ := hbad
  obtain ⟨w, m1, m2⟩ := mul_tc hpc hpd
  have ew := q1.unique m1
  subst ew
  obtain ⟨_, hpp, hprod⟩ := m2.resolve_right (by rw [t]; decide)
  have hv : c.all valB = true ∧ d.all valB = true := ⟨(polyB_len hpc).2.1, (polyB_len hpd).2.1⟩
  refine M.TC_bind (corners_tc hpc) fun xa ha => M.TC_bind (corners_tc hpd) fun xb hb2 => M.TC_bind (corners_tc hpp) fun xp hp => ?_
  refine M.TC_ite (fun _ => M.TC_ret rfl) (fun t2 => ?_)
  have t2 : (xa.2 = 0 ∧ xb.2 = 0) ∧ xp.2 = 0 := by simpa using t2
  have ca := (ha.resolve_left (by rw [t2.1.1]; decide)).2
  have cb := (hb2.resolve_left (by rw [t2.1.2]; decide)).2
  have cp := (hp.resolve_left (by rw [t2.2]; decide)).2
  have Hc := polH_of hpc
  have Hd := polH_of hpd
  have Hp := polH_of hpp
  have lc := (polyB_len hpc).1
  have ld := (polyB_len hpd).1
  have lp := (polyB_len hpp).1
  generalize (hullL c c.length).reverse = tc at ca Hc
  generalize (hullL d d.length).reverse = td at cb Hd
  generalize (hullL w1.1 w1.1.length).reverse = tp at cp Hp
  have ends : ∀ {a ts : List Int}, PolH a ts → a.length ≤ 12 → ∃ t0 tm : Int, ts[0]? = some t0 ∧ ts[ts.length - 1]? = some tm ∧ (0 ≤ t0 ∧ t0 ≤ 12) ∧ 0 ≤ tm ∧ tm ≤ 12 := fun {a ts} H hl => by
    have hne := List.length_pos_iff.2 H.ok.ne
    obtain ⟨t0, g0⟩ : ∃ t, ts[0]? = some t := ⟨_, List.getElem?_eq_getElem hne⟩
    obtain ⟨tm, gm⟩ : ∃ t, ts[ts.length - 1]? = some t := ⟨_, List.getElem?_eq_getElem (by omega)⟩
    have a1 := H.ok.at g0
    have a2 := H.ok.at gm
    exact ⟨t0, tm, g0, gm, by omega, by omega⟩
  obtain ⟨c0, cm, gc0, gcm, bc⟩ := ends Hc lc
  obtain ⟨d0, dm, gd0, gdm, bd⟩ := ends Hd ld
  obtain ⟨p0, pm, gp0, gpm, bp⟩ := ends Hp lp
  obtain ⟨mk, un⟩ := prod_fin hv hprod
  have fin0 : ∀ {a ts : List Int}, PolH a ts → ∀ {q : Nat} {t : Int}, ts[q]? = some t → finK a a.length t := fun H _ _ g => H.fin _ (List.mem_of_getElem? g)
  have e0 : p0 = c0 + d0 := by
    have h1 := Hp.fst p0 _ gp0 (mk c0 d0 (fin0 Hc gc0) (fin0 Hd gd0)).1
    obtain ⟨i, k, e, hi, hk, _⟩ := un p0 (fin0 Hp gp0)
    have h2 := Hc.fst c0 i gc0 hi
    have h3 := Hd.fst d0 k gd0 hk
    omega
  have em : pm = cm + dm := by
    have h1 := Hp.lst pm _ gpm (mk cm dm (fin0 Hc gcm) (fin0 Hd gdm)).1
    obtain ⟨i, k, e, hi, hk, _⟩ := un pm (fin0 Hp gpm)
    have h2 := Hc.lst cm i gcm hi
    have h3 := Hd.lst dm k gdm hk
    omega
  have hlen := cp.len
  have tl := ts_len Hp.ok lp
  refine M.TC_bind (M.TC_forE (fun q (s : Int) => ∃ u, tp[q]? = some u ∧ s = u - p0) (fun _ => False) (by omega) ⟨p0, gp0, by omega⟩ (fun q s hq hI => ?_)) fun y hy => ?_
  · obtain ⟨i, gi, rfl⟩ := hI
    obtain ⟨k, gk⟩ : ∃ t, tp[q + 1]? = some t := ⟨_, List.getElem?_eq_getElem (by omega)⟩
    obtain ⟨z, hz, z1, z2⟩ := cp.at_ q i k gi gk
    have hik := Hp.ok.lt gi gk (by omega)
    have gz : M.Conv (M.idx xp.1 (q : Int)) z := M.Conv_get (by omega) (by simpa using hz)
    have fp := Hp.edge gi gk (show 0 < k - i by omega) (A := yC w1.1 i - yC w1.1 k) (Int.mul_comm _ _)
    obtain ⟨Lc, Rc, fc⟩ := face_of Hc (yC w1.1 i - yC w1.1 k) (k - i)
    obtain ⟨Ld, Rd', fd⟩ := face_of Hd (yC w1.1 i - yC w1.1 k) (k - i)
    obtain ⟨e1, e2⟩ := Face.prod hv hprod (by omega) fc fd fp
    have bLc : 0 ≤ Lc ∧ Rc < 12 := ⟨fc.fl.1.1, by have := fc.fr.2; omega⟩
    have bLd : 0 ≤ Ld ∧ Rd' < 12 := ⟨fd.fl.1.1, by have := fd.fr.2; omega⟩
    have hLRc := fc.le
    have hLRd := fd.le
    have a1 := Hp.ok.at gi
    have a2 := Hp.ok.at gk
    have k1 := corner_sum lc Hc ca z2 (by omega) fc 0 (q : Int) (by omega) gz
    have k2 := corner_sum ld Hd cb z2 (by omega) fd (0 + (Rc - Lc)) (q : Int) (by omega) gz
    refine M.TC_bindC k1 (M.TC_bindC k2 (M.TC_bindC gz (M.TC_ite (fun t => ?_) (fun _ => M.TC_ret (.inl ⟨_, rfl, k, gk, ?_⟩)))))
    · exfalso
      rw [z1] at t
      have : 0 + (Rc - Lc) + (Rd' - Ld) ≠ k - i := by simpa using t
      omega
    · rw [w64_eq _ (by omega)]; omega
  · rcases hy with ⟨s, rfl, u, gu, rfl⟩ | ⟨_, _, hf⟩
    · have eu : u = pm := by
        rw [show tp.length - 1 = xp.1.length by omega] at gpm
        rw [gpm] at gu; cases gu; rfl
      subst eu
      have k1 := corner_down lc Hc ca gc0 gcm (u - p0) (by omega)
      have k2 := corner_down ld Hd cb gd0 gdm (u - p0 - (cm - c0)) (by omega)
      refine M.TC_bindC k1 (M.TC_bindC k2 (M.TC_ret ?_))
      simp only [beq_iff_eq]
      omega
    · exact hf.elim

end Go.Proofs.Ytipdgiljgbjjkaa
