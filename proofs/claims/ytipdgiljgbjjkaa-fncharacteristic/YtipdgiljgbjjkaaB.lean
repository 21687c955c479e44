/-
  Plain proofs: the plain program of the law ends with true.
  Conditions: None beyond the given statement.
-/
import Derived.Test.YtipdgiljgbjjkaaP
namespace Go.Proofs.Ytipdgiljgbjjkaa
open Go
/-! ### plain programs: loops over a list -/
namespace M
variable {α β σ ρ : Type}
/-- rounds over the elements of a list, each with its place; a round may leave -/
def run (g : Nat → α → σ → σ ⊕ ρ) (fin : σ → ρ) : Nat → List α → σ → ρ
  | _, [], s => fin s
  | i, x :: xs, s => match g i x s with
    | .inl s' => run g fin (i + 1) xs s'
    | .inr r => r
theorem Conv_forN {l : List α} {f : Int → σ → M (σ ⊕ ρ)} (g : Nat → α → σ → σ ⊕ ρ) (fin : σ → ρ) (I : Nat → σ → Prop) (hi : Int) :
    ∀ (xs : List α) (i : Nat) (s : σ), hi = (i + xs.length : Nat) → I i s → (∀ (j : Nat) x s, xs[j]? = some x → I (i + j) s → Conv (f (i + j : Nat) s) (g (i + j) x s) ∧ ∀ s', g (i + j) x s = .inl s' → I (i + j + 1) s') →
      ∃ N, ∀ n, N ≤ n → forN hi fin f n xs.length i s = some (run g fin i xs s)
  | [], i, s, hh, _, _ => ⟨0, fun n _ => by
      have : ¬ (i : Int) < hi := by rw [hh]; simp
      simp [forN, run, this]⟩
  | x :: xs, i, s, hh, h0, H => by
    have hlt : (i : Int) < hi := by rw [hh]; simp; omega
    obtain ⟨⟨N, hN⟩, hI⟩ := H 0 x s rfl h0
    simp only [Nat.add_zero] at hN hI
    cases hg : g i x s with
    | inl s' =>
      have hi' := hI s' hg
      obtain ⟨N', hN'⟩ := Conv_forN (l := l) g fin I hi xs (i + 1) s' (by rw [hh, List.length_cons]; congr 1; omega) hi' (fun j y s hy hIs => by
        have := H (j + 1) y s (by simpa using hy) (by rw [← Nat.add_assoc, Nat.add_right_comm]; exact hIs)
        rw [show i + (j + 1) = i + 1 + j by omega] at this
        exact this)
      refine ⟨max N N', fun n hn => ?_⟩
      have h1 := hN n (by omega)
      rw [hg] at h1
      simp only [List.length_cons, forN, hlt, decide_true, cond_true, h1, run, hg]
      have := hN' n (by omega)
      simpa using this
    | inr r =>
      refine ⟨N, fun n hn => ?_⟩
      have h1 := hN n hn
      rw [hg] at h1
      simp only [List.length_cons, forN, hlt, decide_true, cond_true, h1, run, hg]
/-- a loop over a list, with an invariant -/
theorem Conv_forI {l : List α} {f : Int → σ → M (σ ⊕ ρ)} {fin : σ → ρ} {s : σ} (g : Nat → α → σ → σ ⊕ ρ) (I : Nat → σ → Prop) (hl : l.length ≤ 9223372036854775807) (h0 : I 0 s)
    (H : ∀ (i : Nat) x s, l[i]? = some x → I i s → Conv (f i s) (g i x s) ∧ ∀ s', g i x s = .inl s' → I (i + 1) s') : Conv (forI 0 (l.length : Int) fin f s) (run g fin 0 l s) := by
  obtain ⟨N, hN⟩ := Conv_forN (l := l) (f := f) g fin I (l.length : Int) l 0 s (by simp) h0 (fun j x s hx hI => by simpa using H j x s hx (by simpa using hI))
  refine ⟨N, fun n hn => ?_⟩
  have h1 : (l.length : Int) ≤ 9223372036854775807 := by omega
  simp only [forI, h1, decide_true, Bool.and_true, show (-9223372036854775808 : Int) ≤ 0 by decide, cond_true]
  have := hN n hn
  simpa using this
/-- .. without one -/
theorem Conv_forL {l : List α} {f : Int → σ → M (σ ⊕ ρ)} {fin : σ → ρ} {s : σ} (g : Nat → α → σ → σ ⊕ ρ) (hl : l.length ≤ 9223372036854775807)
    (H : ∀ (i : Nat) x s, l[i]? = some x → Conv (f i s) (g i x s)) : Conv (forI 0 (l.length : Int) fin f s) (run g fin 0 l s) :=
  Conv_forI g (fun _ _ => True) hl trivial fun i x s hx _ => ⟨H i x s hx, fun _ _ => trivial⟩
theorem Conv.of {m : M α} {r r' : α} (h : Conv m r) (e : r = r') : Conv m r' := e ▸ h
theorem Conv_ite {b : Bool} {x y : M α} {r : α} (h1 : b = true → Conv x r) (h2 : b = false → Conv y r) : Conv (ite b x y) r := by
  cases b
  · exact h2 rfl
  · exact h1 rfl
theorem Conv_ite2 {b : Bool} {x y : M α} {r s : α} (h1 : b = true → Conv x r) (h2 : b = false → Conv y s) : Conv (ite b x y) (bif b then r else s) := by
  cases b
  · exact h2 rfl
  · exact h1 rfl
theorem Conv_guard {b : Bool} (h : b = true) : Conv (guard b) () := ⟨0, fun _ _ => by simp [guard, h]⟩
theorem Conv_upd {l : List α} {i : Nat} {x : α} (h : i < l.length) : Conv (upd l i x) (l.set i x) := ⟨0, fun _ _ => by simp [upd, h]⟩
theorem Conv_get {l : List α} {i : Int} {x : α} (h0 : 0 ≤ i) (h : l[i.toNat]? = some x) : Conv (idx l i) x := ⟨0, fun _ _ => by simp [idx, h0, h]⟩
/-- a value told in both ways of a test, then the rest -/
theorem Conv_bite {b : Bool} {x y : M α} {f : α → M β} {u v : α} {r : β} (h1 : b = true → Conv x u) (h2 : b = false → Conv y v) (g : Conv (f (bif b then u else v)) r) : Conv (bind (ite b x y) f) r :=
  Conv_bind (Conv_ite2 h1 h2) g

/-! searches: a loop that leaves at the first element of a kind -/
theorem run_all (p : α → Bool) (u : Unit ⊕ ρ) : ∀ (i : Nat) (l : List α), run (ρ := Unit ⊕ ρ) (fun _ x _ => bif p x then .inl () else .inr u) (fun s => .inl s) i l () = bif l.all p then .inl () else u
  | _, [] => rfl
  | i, x :: xs => by
    simp only [run, List.all_cons]
    cases p x
    · rfl
    · simpa using run_all p u (i + 1) xs
/-- 'for .. if not p x, return v' -/
theorem Conv_all {l : List α} {f : Int → Unit → M (Unit ⊕ (Unit ⊕ ρ))} (p : α → Bool) (v : ρ) (hl : l.length ≤ 9223372036854775807) (H : ∀ (i : Nat) x, l[i]? = some x → Conv (f i ()) (bif p x then .inl () else .inr (.inr v))) :
    Conv (forI 0 (l.length : Int) (fun s => .inl s) f ()) (bif l.all p then .inl () else .inr v) :=
  (Conv_forL (fun _ x _ => bif p x then .inl () else .inr (.inr v)) hl fun i x _ hx => H i x hx).of (run_all p (.inr v) 0 l)
/-- the same, where the element's place matters to the test -/
theorem run_allI (p : Nat → α → Bool) (u : Unit ⊕ ρ) : ∀ (i : Nat) (l : List α), run (ρ := Unit ⊕ ρ) (fun j x _ => bif p j x then .inl () else .inr u) (fun s => .inl s) i l () = bif (l.zipIdx i).all (fun q => p q.2 q.1) then .inl () else u
  | _, [] => rfl
  | i, x :: xs => by
    simp only [run, List.zipIdx_cons, List.all_cons]
    cases p i x
    · rfl
    · simpa using run_allI p u (i + 1) xs
theorem Conv_allI {l : List α} {f : Int → Unit → M (Unit ⊕ (Unit ⊕ ρ))} (p : Nat → α → Bool) (v : ρ) (hl : l.length ≤ 9223372036854775807) (H : ∀ (i : Nat) x, l[i]? = some x → Conv (f i ()) (bif p i x then .inl () else .inr (.inr v))) :
    Conv (forI 0 (l.length : Int) (fun s => .inl s) f ()) (bif (l.zipIdx 0).all (fun q => p q.2 q.1) then .inl () else .inr v) :=
  (Conv_forL (fun j x _ => bif p j x then .inl () else .inr (.inr v)) hl fun i x _ hx => H i x hx).of (run_allI p (.inr v) 0 l)
/-- 'for i .. if p x, return i' -/
theorem run_find (p : α → Bool) : ∀ (i : Nat) (l : List α), run (σ := Unit) (ρ := Unit ⊕ Int) (fun j x _ => bif p x then .inr (.inr (j : Int)) else .inl ()) (fun s => .inl s) i l () = match l.findIdx? p with
    | some j => .inr ((i + j : Nat) : Int)
    | none => .inl ()
  | _, [] => rfl
  | i, x :: xs => by
    simp only [run, List.findIdx?_cons]
    cases hp : p x
    · simp only [cond_false, run_find p (i + 1) xs, Bool.false_eq_true, if_false]
      cases xs.findIdx? p with
      | none => rfl
      | some j => simp only [Option.map_some]; congr 2; omega
    · simp
theorem Conv_find {l : List α} {f : Int → Unit → M (Unit ⊕ (Unit ⊕ Int))} (p : α → Bool) (hl : l.length ≤ 9223372036854775807) (H : ∀ (i : Nat) x, l[i]? = some x → Conv (f i ()) (bif p x then .inr (.inr (i : Int)) else .inl ())) :
    Conv (forI 0 (l.length : Int) (fun s => .inl s) f ()) (match l.findIdx? p with | some j => .inr (j : Int) | none => .inl ()) :=
  (Conv_forL (fun j x _ => bif p x then .inr (.inr (j : Int)) else .inl ()) hl fun i x _ hx => H i x hx).of (by rw [run_find]; simp)
/-- sums: each round turns what has been gathered -/
theorem run_fold (g : σ → α → σ) : ∀ (i : Nat) (l : List α) (s : σ), run (fun _ x s => .inl (g s x)) (fun s => s) i l s = l.foldl g s
  | _, [], _ => rfl
  | i, x :: xs, s => by simpa [run] using run_fold g (i + 1) xs (g s x)
theorem Conv_fold {l : List α} {f : Int → σ → M (σ ⊕ σ)} {s : σ} (g : σ → α → σ) (hl : l.length ≤ 9223372036854775807) (H : ∀ (i : Nat) x s, l[i]? = some x → Conv (f i s) (.inl (g s x))) :
    Conv (forI 0 (l.length : Int) (fun s => s) f s) (l.foldl g s) :=
  (Conv_forL (fun _ x s => .inl (g s x)) hl fun i x s hx => H i x s hx).of (run_fold g 0 l s)
theorem get_set_append {l r : List α} {x y : α} : (l ++ y :: r).set l.length x = l ++ x :: r := by simp
/-- a loop that fills a list of the same length, element by element -/
theorem run_fill (g : Nat → α → β) (z : β) : ∀ (i : Nat) (l : List α) (d : List β), d.length = i →
    run (fun j x s => .inl (s.set j (g j x))) (fun s => s) i l (d ++ List.replicate l.length z) = d ++ (l.zipIdx i).map (fun q => g q.2 q.1)
  | _, [], d, _ => by simp [run]
  | i, x :: xs, d, hd => by
    subst hd
    simp only [run, List.length_cons, List.replicate_succ, get_set_append]
    have := run_fill g z (d.length + 1) xs (d ++ [g d.length x]) (by simp)
    simp only [List.append_assoc, List.singleton_append] at this
    rw [this]
    simp
theorem Conv_fill {l : List α} {f : Int → List β → M (List β ⊕ List β)} (g : Nat → α → β) (z : β) (hl : l.length ≤ 9223372036854775807)
    (H : ∀ (i : Nat) x s, l[i]? = some x → s.length = l.length → Conv (f i s) (.inl (s.set i (g i x)))) :
    Conv (forI 0 (l.length : Int) (fun s => s) f (List.replicate l.length z)) ((l.zipIdx 0).map (fun q => g q.2 q.1)) := by
  refine (Conv_forI (fun j x s => .inl (s.set j (g j x))) (fun _ s => s.length = l.length) hl (by simp) fun i x s hx hI => ⟨H i x s hx hI, fun s' e => ?_⟩).of ?_
  · cases e; simpa using hI
  · simpa using run_fill g z 0 l [] rfl
theorem zipIdx_map_fst {l : List α} {g : α → β} {i : Nat} : ((l.zipIdx i).map fun q => g q.1) = l.map g := by
  have h : List.map (g ∘ Prod.fst) (l.zipIdx i) = List.map g l := by rw [← List.map_map, List.zipIdx_map_fst]
  exact h
theorem findIdx_any {l : List α} {p : α → Bool} : (decide ((0:Int) ≤ match l.findIdx? p with | some j => (j : Int) | none => -1)) = l.any p := by
  cases h : l.findIdx? p with
  | none => rw [List.findIdx?_eq_none_iff] at h; simp; exact fun x hx => by simpa using h x hx
  | some j =>
    obtain ⟨hj, hp, _⟩ := List.findIdx?_eq_some_iff_getElem.1 h
    simp
    exact ⟨_, List.getElem_mem hj, hp⟩
end M

def finB (x : Int) : Bool := decide (-1000000 ≤ x) && decide (x ≤ 1000000)
def valB (x : Int) : Bool := x == (-1000000000000000) || finB x
theorem spec_l01In_ok (x lo hi : Int) : M.Conv (spec_l01In x lo hi) (decide (lo ≤ x) && decide (x ≤ hi)) := M.Conv_ret _
theorem spec_l01Finite_ok (x : Int) : M.Conv (spec_l01Finite x) (finB x) := M.Conv_bind (spec_l01In_ok _ _ _) (M.Conv_ret _)
theorem spec_IsValue_ok (x : Int) : M.Conv (spec_IsValue x) (valB x) := by
  unfold spec_IsValue
  refine M.Conv_bind (M.Conv_ite (r := valB x) (fun h => ?_) (fun h => ?_)) (M.Conv_ret _)
  · simp only [valB, h, Bool.true_or]; exact M.Conv_ret _
  · simp only [valB, h, Bool.false_or]; exact M.Conv_bind (spec_l01Finite_ok x) (M.Conv_ret _)
theorem spec_l01All_ok {l : List Int} (f : Bool) (hl : l.length ≤ 9223372036854775807) : M.Conv (spec_l01All l f) (l.all fun x => valB x && !(f && x == (-1000000000000000))) := by
  unfold spec_l01All
  refine M.Conv_bind (M.Conv_all (fun x => valB x && !(f && x == (-1000000000000000))) false hl fun i x hx => ?_) ?_
  · refine M.Conv_bind (M.Conv_get (by omega) (by simpa using hx)) (M.Conv_bind (spec_IsValue_ok x) ?_)
    refine M.Conv_bind (x := !(valB x && !(f && x == (-1000000000000000)))) (M.Conv_ite (fun h => ?_) (fun h => ?_)) ?_
    · simp at h; simp [h]; exact M.Conv_ret _
    · simp at h
      refine M.Conv_bind (x := (f && x == (-1000000000000000))) (M.Conv_ite (fun h => ?_) (fun h => ?_)) (by simp [h]; exact M.Conv_ret _)
      · simp [h]; exact M.Conv_bind (M.Conv_get (by omega) (by simpa using hx)) (M.Conv_ret _)
      · simp [h]; exact M.Conv_ret _
    · cases (valB x && !(f && x == (-1000000000000000))) <;> exact M.Conv_ret _
  · cases (l.all fun x => valB x && !(f && x == (-1000000000000000))) <;> exact M.Conv_ret _
theorem impl_within_ok (x lo hi : Int) : M.Conv (impl_within x lo hi) (decide (lo ≤ x) && decide (x ≤ hi)) := M.Conv_ret _
theorem impl_isFinite_ok (x : Int) : M.Conv (impl_isFinite x) (finB x) := M.Conv_bind (impl_within_ok _ _ _) (M.Conv_ret _)
theorem impl_IsValue_ok (x : Int) : M.Conv (impl_IsValue x) (valB x) := by
  unfold impl_IsValue
  refine M.Conv_bind (M.Conv_ite (r := valB x) (fun h => ?_) (fun h => ?_)) (M.Conv_ret _)
  · simp only [valB, h, Bool.true_or]; exact M.Conv_ret _
  · simp only [valB, h, Bool.false_or]; exact M.Conv_bind (impl_isFinite_ok x) (M.Conv_ret _)
/-- 'slices.ContainsFunc', behind 'slices.IndexFunc' -/
theorem contains_ok {α : Type} {l : List α} {f : Int → Unit → M (Unit ⊕ (Unit ⊕ Int))} (p : α → Bool) (hl : l.length ≤ 9223372036854775807) (H : ∀ (i : Nat) x, l[i]? = some x → M.Conv (f i ()) (bif p x then .inr (.inr (i : Int)) else .inl ())) :
    M.Conv (M.bind (M.bind (M.forI 0 (l.length : Int) (fun s => .inl s) f ()) (fun x1 => M.cont x1 (fun _ => M.ret (-1)) (fun r => M.ret r))) (fun x1 => M.ret (decide (0 ≤ x1)))) (l.any p) := by
  rw [← M.findIdx_any]
  refine M.Conv_bind (M.Conv_bind (M.Conv_find p hl H) ?_) (M.Conv_ret _)
  cases l.findIdx? p <;> exact M.Conv_ret _
theorem any_not {α : Type} {l : List α} {p : α → Bool} : (!l.any fun x => !p x) = l.all p := by
  induction l with
  | nil => rfl
  | cons x xs ih => simp only [List.any_cons, List.all_cons, Bool.not_or, Bool.not_not, ih]
theorem impl_areValues_ok {l : List Int} (hl : l.length ≤ 9223372036854775807) : M.Conv (impl_areValues l) (l.all valB) := by
  unfold impl_areValues slices_ContainsFunc_int_F_impl_areValues_1 slices_IndexFunc_int_F_impl_areValues_1
  refine M.Conv_bind (contains_ok (fun x => !valB x) hl fun i x hx => ?_) ((M.Conv_ret _).of any_not)
  refine M.Conv_bind (M.Conv_get (by omega) (by simpa using hx)) ?_
  refine M.Conv_bind (x := !valB x) (M.Conv_bind (impl_IsValue_ok x) (M.Conv_ret _)) ?_
  cases valB x <;> exact M.Conv_ret _
/-- the greatest of a list; Bottom if there is none -/
def maxL (l : List Int) : Int := l.foldl mx (-1000000000000000)
theorem impl_sumOf_ok {l : List Int} (hl : l.length ≤ 9223372036854775807) : M.Conv (impl_sumOf l) (maxL l) := by
  unfold impl_sumOf
  refine M.Conv_bind (M.Conv_fold mx hl fun i x s hx => ?_) (M.Conv_ret _)
  exact M.Conv_bind (M.Conv_get (by omega) (by simpa using hx)) (M.Conv_ret _)
theorem mx_eq (a b : Int) : mx a b = max a b := by unfold mx; split <;> omega
theorem foldl_mx_ge (l : List Int) (s : Int) : s ≤ l.foldl mx s := by
  induction l generalizing s with
  | nil => exact Int.le_refl _
  | cons x xs ih => exact Int.le_trans (by rw [mx_eq]; omega) (ih (mx s x))
theorem foldl_mx_mem {l : List Int} {s x : Int} (h : x ∈ l) : x ≤ l.foldl mx s := by
  induction l generalizing s with
  | nil => cases h
  | cons y ys ih =>
    rcases List.mem_cons.1 h with rfl | h
    · exact Int.le_trans (by rw [mx_eq]; omega) (foldl_mx_ge ys (mx s x))
    · exact ih h
theorem foldl_mx_in (l : List Int) (s : Int) : l.foldl mx s = s ∨ l.foldl mx s ∈ l := by
  induction l generalizing s with
  | nil => exact .inl rfl
  | cons y ys ih =>
    rcases ih (mx s y) with h | h
    · rw [List.foldl_cons, h, mx_eq]
      by_cases e : s ≤ y
      · right; rw [show max s y = y by omega]; exact List.mem_cons_self
      · left; omega
    · exact .inr (List.mem_cons_of_mem _ h)
theorem valB_ge {x : Int} (h : valB x = true) : -1000000000000000 ≤ x := by
  simp [valB, finB] at h; omega
theorem maxL_ne {l : List Int} (h : l.all valB = true) : (maxL l != (-1000000000000000)) = l.any (· != (-1000000000000000)) := by
  rw [List.all_eq_true] at h
  rw [Bool.eq_iff_iff, List.any_eq_true]
  constructor
  · intro hne
    rcases foldl_mx_in l (-1000000000000000) with e | e
    · simp [maxL, e] at hne
    · exact ⟨_, e, hne⟩
  · rintro ⟨x, hx, hne⟩
    have h1 := foldl_mx_mem (s := -1000000000000000) hx
    have h2 := valB_ge (h x hx)
    have hne : x ≠ -1000000000000000 := by simpa using hne
    have : maxL l ≠ -1000000000000000 := by unfold maxL; omega
    simpa using this
/-- a polynomial: up to twelve values, not all of them Bottom -/
def polyB (c : List Int) : Bool := decide (c.length ≤ 12) && c.all valB && c.any (· != (-1000000000000000))
theorem spec_IsPolynomial_ok {c : List Int} (hl : c.length ≤ 9223372036854775807) : M.Conv (spec_IsPolynomial c) (polyB c) := by
  unfold spec_IsPolynomial polyB
  refine M.Conv_bind (x := !(decide (c.length ≤ 12) && c.all valB)) (M.Conv_ite (fun h => ?_) (fun h => ?_)) ?_
  · have h := of_decide_eq_true h
    rw [decide_eq_false (by omega)]; exact M.Conv_ret _
  · have h := of_decide_eq_false h
    rw [decide_eq_true (by omega)]
    refine M.Conv_bind (spec_l01All_ok false hl) ((M.Conv_ret _).of ?_)
    simp
  · cases (decide (c.length ≤ 12) && c.all valB)
    · exact M.Conv_ret _
    · refine M.Conv_bind (M.Conv_all (fun x => x == (-1000000000000000)) true hl fun i x hx => ?_) ?_
      · refine M.Conv_bind (M.Conv_get (by omega) (by simpa using hx)) ?_
        simp only [bne]
        cases (x == (-1000000000000000)) <;> exact M.Conv_ret _
      · have : (c.all fun x => x == (-1000000000000000)) = !c.any (· != (-1000000000000000)) := by rw [← any_not]; rfl
        rw [this]
        cases c.any (· != (-1000000000000000)) <;> exact M.Conv_ret _
theorem impl_IsPolynomial_ok {c : List Int} (hl : c.length ≤ 9223372036854775807) : M.Conv (impl_IsPolynomial c) (polyB c) := by
  unfold impl_IsPolynomial polyB
  refine M.Conv_bind (impl_within_ok _ _ _) ?_
  by_cases h0 : c = []
  · subst h0; exact M.Conv_bind (x := false) (M.Conv_ret _) (M.Conv_bind (x := false) (M.Conv_ret _) (M.Conv_ret _))
  have hp : 0 < c.length := List.length_pos_iff.2 h0
  refine M.Conv_bind (x := decide (c.length ≤ 12) && c.all valB) (M.Conv_ite (fun h => ?_) (fun h => ?_)) ?_
  · simp at h
    rw [decide_eq_true (by omega)]; exact M.Conv_bind (impl_areValues_ok hl) ((M.Conv_ret _).of (by simp))
  · simp at h
    rw [decide_eq_false (by omega)]; exact M.Conv_ret _
  · refine M.Conv_bind (x := (decide (c.length ≤ 12) && c.all valB) && c.any (· != (-1000000000000000))) (M.Conv_ite (fun h => ?_) (fun h => ?_)) (M.Conv_ret _)
    · have h2 := (Bool.and_eq_true _ _ ▸ h).2
      rw [h]
      exact M.Conv_bind (impl_sumOf_ok hl) ((M.Conv_ret _).of (by rw [maxL_ne h2]; simp))
    · rw [h]; exact M.Conv_ret _
def smI (l : List Int) : Prop := l.length ≤ 1099511627776
theorem mul_bd {a b A B : Int} (ha : -A ≤ a ∧ a ≤ A) (hb : -B ≤ b ∧ b ≤ B) : -(A * B) ≤ a * b ∧ a * b ≤ A * B := by
  have h1 : a.natAbs ≤ A.natAbs := by omega
  have h2 : b.natAbs ≤ B.natAbs := by omega
  have h3 : (a * b).natAbs ≤ A.natAbs * B.natAbs := by rw [Int.natAbs_mul]; exact Nat.mul_le_mul h1 h2
  have hA : ((A.natAbs * B.natAbs : Nat) : Int) = A * B := by
    rw [Int.natCast_mul, Int.natAbs_of_nonneg (by omega), Int.natAbs_of_nonneg (by omega)]
  omega
theorem finB_bd {x : Int} (h : finB x = true) : -1000000 ≤ x ∧ x ≤ 1000000 := by simpa [finB] using h
theorem val_ne {x : Int} (h : valB x = true) (hn : (x == (-1000000000000000)) = false) : finB x = true := by simpa [valB, hn] using h
/-- a loop that takes elements off a list's end -/
theorem pop_loop {f : List Int → M (List Int ⊕ List Int)} (t : Int → Int → Bool) (G : List Int → Prop) (sub : ∀ x l, G (x :: l) → G l) (h1 : ∀ l, G l → l.length ≤ 1 → M.Conv (f l.reverse) (.inr l.reverse))
    (h2 : ∀ j i r, G (j :: i :: r) → M.Conv (f (j :: i :: r).reverse) (bif t j i then .inr (j :: i :: r).reverse else .inl (i :: r).reverse)) : ∀ rs, G rs → ∃ qs, G qs ∧ (∀ x ∈ qs, x ∈ rs) ∧ M.Conv (M.loop f rs.reverse) qs.reverse ∧ qs.length ≤ rs.length ∧
      (∀ (f' : List Int → M (List Int ⊕ List Int)), (∀ l, G l → l.length ≤ 1 → M.Conv (f' l.reverse) (.inr l.reverse)) → (∀ j i r, G (j :: i :: r) → M.Conv (f' (j :: i :: r).reverse) (bif t j i then .inr (j :: i :: r).reverse else .inl (i :: r).reverse)) → M.Conv (M.loop f' rs.reverse) qs.reverse) := by
  have stop : ∀ (f : List Int → M (List Int ⊕ List Int)) (s r : List Int), M.Conv (f s) (.inr r) → M.Conv (M.loop f s) r := by
    intro f s r ⟨N, h⟩
    refine ⟨max N 1, fun n hn => ?_⟩
    obtain ⟨m, rfl⟩ : ∃ m, n = m + 1 := ⟨n - 1, by omega⟩
    simp [M.loop, M.loopN, h (m + 1) (by omega)]
  have more : ∀ (f : List Int → M (List Int ⊕ List Int)) (s s' r : List Int), M.Conv (f s) (.inl s') → (∃ N m0, ∀ n, N ≤ n → ∀ m, m0 ≤ m → M.loopN f n m s' = some r) → (∃ N m0, ∀ n, N ≤ n → ∀ m, m0 ≤ m → M.loopN f n m s = some r) := by
    intro f s s' r ⟨N, h⟩ ⟨N', m0, h'⟩
    refine ⟨max N N', m0 + 1, fun n hn m hm => ?_⟩
    obtain ⟨m, rfl⟩ : ∃ q, m = q + 1 := ⟨m - 1, by omega⟩
    simp only [M.loopN, h n (by omega)]
    exact h' n (by omega) m (by omega)
  have one : ∀ (f : List Int → M (List Int ⊕ List Int)) (s r : List Int), M.Conv (f s) (.inr r) → (∃ N m0, ∀ n, N ≤ n → ∀ m, m0 ≤ m → M.loopN f n m s = some r) := by
    intro f s r ⟨N, h⟩
    refine ⟨N, 1, fun n hn m hm => ?_⟩
    obtain ⟨m, rfl⟩ : ∃ q, m = q + 1 := ⟨m - 1, by omega⟩
    simp [M.loopN, h n hn]
  have fin : ∀ (f : List Int → M (List Int ⊕ List Int)) (s r : List Int), (∃ N m0, ∀ n, N ≤ n → ∀ m, m0 ≤ m → M.loopN f n m s = some r) → M.Conv (M.loop f s) r := fun f s r ⟨N, m0, h⟩ => ⟨max N m0, fun n hn => h n (by omega) n (by omega)⟩
  suffices H : ∀ rs, G rs → ∃ qs, G qs ∧ (∀ x ∈ qs, x ∈ rs) ∧ qs.length ≤ rs.length ∧ (∀ (f' : List Int → M (List Int ⊕ List Int)), (∀ l, G l → l.length ≤ 1 → M.Conv (f' l.reverse) (.inr l.reverse)) → (∀ j i r, G (j :: i :: r) → M.Conv (f' (j :: i :: r).reverse) (bif t j i then .inr (j :: i :: r).reverse else .inl (i :: r).reverse)) →
      ∃ N m0, ∀ n, N ≤ n → ∀ m, m0 ≤ m → M.loopN f' n m rs.reverse = some qs.reverse) by
    intro rs hg
    obtain ⟨qs, a, b, c, d⟩ := H rs hg
    exact ⟨qs, a, b, fin _ _ _ (d f h1 h2), c, fun f' k1 k2 => fin _ _ _ (d f' k1 k2)⟩
  intro rs
  induction rs with
  | nil => exact fun hg => ⟨[], hg, fun _ h => h, Nat.le_refl _, fun f' k1 _ => one _ _ _ (k1 [] hg (by simp))⟩
  | cons j rs ih =>
    intro hg
    cases rs with
    | nil => exact ⟨[j], hg, fun _ h => h, Nat.le_refl _, fun f' k1 _ => one _ _ _ (k1 [j] hg (by simp))⟩
    | cons i r =>
      cases ht : t j i with
      | true => exact ⟨j :: i :: r, hg, fun _ h => h, Nat.le_refl _, fun f' _ k2 => one _ _ _ (by have := k2 j i r hg; rwa [ht] at this)⟩
      | false =>
        obtain ⟨qs, a, b, c, d⟩ := ih (sub _ _ hg)
        exact ⟨qs, a, fun x hx => List.mem_cons_of_mem _ (b x hx), Nat.le_succ_of_le c, fun f' k1 k2 => more _ _ _ _ (by have := k2 j i r hg; rwa [ht] at this) (d f' k1 k2)⟩
/-- an index below k, whose coefficient is finite -/
def termB (c : List Int) (k : Nat) (t : Int) : Prop := 0 ≤ t ∧ t < k ∧ ∃ x, c[t.toNat]? = some x ∧ finB x = true
theorem rev_last {j i : Int} {r : List Int} : (j :: i :: r).reverse[(j :: i :: r).reverse.length - 1]? = some j ∧ (j :: i :: r).reverse[(j :: i :: r).reverse.length - 2]? = some i := by
  constructor
  · simp
  · simp
theorem rev_init {j i : Int} {r : List Int} : ((j :: i :: r).reverse.drop 0).take ((j :: i :: r).reverse.length - 1) = (i :: r).reverse := by
  simp [List.take_append]
  exact List.take_of_length_le (by simp)
/-- what the loop's round reads -/
theorem reads2 {j i : Int} {r : List Int} (hlen : (j :: i :: r).length ≤ 12) : M.Conv (M.idx (j :: i :: r).reverse (w64 (((j :: i :: r).reverse.length : Int) - 2))) i ∧ M.Conv (M.idx (j :: i :: r).reverse (w64 (((j :: i :: r).reverse.length : Int) - 1))) j ∧
    M.Conv (M.sub (j :: i :: r).reverse 0 (w64 (((j :: i :: r).reverse.length : Int) - 1))) (i :: r).reverse := by
  have hl : (j :: i :: r).reverse.length = r.length + 2 := by simp
  simp only [List.length_cons] at hlen
  rw [w64_eq _ (by rw [hl]; omega), w64_eq _ (by rw [hl]; omega)]
  refine ⟨M.Conv_get (by rw [hl]; omega) ?_, M.Conv_get (by rw [hl]; omega) ?_, (M.Conv_sub (by omega) (by rw [hl]; omega) (by rw [hl]; omega)).of ?_⟩
  · have := (rev_last (j := j) (i := i) (r := r)).2
    rw [show (((j :: i :: r).reverse.length : Int) - 2).toNat = (j :: i :: r).reverse.length - 2 by omega]; exact this
  · have := (rev_last (j := j) (i := i) (r := r)).1
    rw [show (((j :: i :: r).reverse.length : Int) - 1).toNat = (j :: i :: r).reverse.length - 1 by omega]; exact this
  · rw [show (((j :: i :: r).reverse.length : Int) - 1).toNat - (0 : Int).toNat = (j :: i :: r).reverse.length - 1 by omega]; exact rev_init
/-- the rounds of the two programs, named -/
def popS (c : List Int) (i1 : Int) (s3 : List Int) : M (List Int ⊕ List Int) := M.ite (decide (1 < (s3.length : Int))) (M.bind (M.idx s3 (w64 ((s3.length : Int) - 2))) (fun x4 => M.bind (M.idx s3 (w64 ((s3.length : Int) - 1))) (fun x5 => M.bind (M.idx c x5) (fun x6 => M.bind (M.idx c x4) (fun x7 => M.bind (M.idx c i1) (fun x8 => M.bind (M.idx c x5) (fun x9 => M.ite (decide ((w64 ((w64 (x8 - x9)) * (w64 (x5 - x4)))) < (w64 ((w64 (x6 - x7)) * (w64 (i1 - x5)))))) (M.ret (.inr s3)) (M.bind (M.sub s3 0 (w64 ((s3.length : Int) - 1))) (fun x10 => M.ret (.inl x10)))))))))) (M.ret (.inr s3))
def popI (c : List Int) (i1 x2 : Int) (s3 : List Int) : M (List Int ⊕ List Int) := M.ite (decide (1 < (s3.length : Int))) (M.bind (M.idx s3 (w64 ((s3.length : Int) - 2))) (fun x4 => M.bind (M.idx s3 (w64 ((s3.length : Int) - 1))) (fun x5 => M.bind (M.idx c x5) (fun x6 => M.bind (M.idx c x4) (fun x7 => M.bind (M.idx c x4) (fun x8 => M.ite (decide ((w64 ((w64 (x2 - x8)) * (w64 (x5 - x4)))) < (w64 ((w64 (x6 - x7)) * (w64 (i1 - x4)))))) (M.ret (.inr s3)) (M.bind (M.sub s3 0 (w64 ((s3.length : Int) - 1))) (fun x9 => M.ret (.inl x9))))))))) (M.ret (.inr s3))
def hullS (c : List Int) (i1 : Int) (s1 : List Int) : M (List Int ⊕ List Int) := M.bind (M.bind (M.idx c i1) (fun x2 => M.ite (x2 == (-1000000000000000)) (M.ret s1) (M.bind (M.loop (popS c i1) s1) (fun x3 => M.bind (M.app x3 ([i1] : List Int)) (fun l1 => M.ret l1))))) (fun (s2 : (List Int)) => M.ret (.inl s2))
def hullI (c : List Int) (i1 : Int) (s1 : List Int) : M (List Int ⊕ List Int) := M.bind (M.bind (M.idx c i1) (fun x2 => M.ite (x2 == (-1000000000000000)) (M.ret s1) (M.bind (M.loop (popI c i1 x2) s1) (fun x3 => M.bind (M.app x3 ([i1] : List Int)) (fun l1 => M.ret l1))))) (fun (s2 : (List Int)) => M.ret (.inl s2))
theorem spec_l09Terms_eq (c : List Int) : spec_l09Terms c = M.bind (M.forI 0 (c.length : Int) (fun s => s) (hullS c) []) (fun x1 => M.ret x1) := rfl
theorem impl_essentialTerms_eq (c : List Int) : impl_essentialTerms c = M.bind (M.forI 0 (c.length : Int) (fun s => s) (hullI c) []) (fun x1 => M.ret x1) := rfl
def keepB (c : List Int) (k x j i : Int) : Bool := decide ((x - (c[j.toNat]?).getD 0) * (j - i) < ((c[j.toNat]?).getD 0 - (c[i.toNat]?).getD 0) * (k - j))
def GoodT (c : List Int) (k : Nat) (l : List Int) : Prop := l.length ≤ 12 ∧ (∀ t ∈ l, termB c k t) ∧ List.Pairwise (fun a b => b < a) l
theorem GoodT.reads {c : List Int} {k : Nat} {j i : Int} {r : List Int} (hk : k ≤ 12) (h : GoodT c k (j :: i :: r)) : ∃ cj ci, M.Conv (M.idx c j) cj ∧ M.Conv (M.idx c i) ci ∧ (-1000000 ≤ cj ∧ cj ≤ 1000000) ∧ (-1000000 ≤ ci ∧ ci ≤ 1000000) ∧ 0 ≤ i ∧ 0 ≤ j ∧ j < k ∧ i < k ∧ (c[j.toNat]?).getD 0 = cj ∧ (c[i.toNat]?).getD 0 = ci := by
  obtain ⟨_, hm, _⟩ := h
  obtain ⟨a1, a2, cj, a3, a4⟩ := hm j List.mem_cons_self
  obtain ⟨b1, b2, ci, b3, b4⟩ := hm i (List.mem_cons_of_mem _ List.mem_cons_self)
  exact ⟨cj, ci, M.Conv_get a1 a3, M.Conv_get b1 b3, finB_bd a4, finB_bd b4, b1, a1, a2, b2, by simp [a3], by simp [b3]⟩
theorem small_len {l : List Int} (hl : l.length ≤ 1) : decide (1 < (l.reverse.length : Int)) = false := decide_eq_false (by simp; omega)
theorem big_len (j i : Int) (r : List Int) : decide (1 < ((j :: i :: r).reverse.length : Int)) = true := decide_eq_true (by simp; omega)
theorem popS_ok {c : List Int} {k : Nat} {x j i : Int} {r : List Int} (hk : k ≤ 12) (hx : c[k]? = some x) (bx : -1000000 ≤ x ∧ x ≤ 1000000) (hg : GoodT c k (j :: i :: r)) :
    M.Conv (popS c k (j :: i :: r).reverse) (bif keepB c k x j i then .inr (j :: i :: r).reverse else .inl (i :: r).reverse) := by
  obtain ⟨cj, ci, r1, r2, b1, b2, i0, j0, j1, i1, e1, e2⟩ := hg.reads hk
  obtain ⟨q1, q2, q3⟩ := reads2 hg.1
  have hget : M.Conv (M.idx c (k : Int)) x := M.Conv_get (by omega) (by simpa using hx)
  refine M.Conv_ite (fun _ => ?_) (fun h => by rw [big_len] at h; cases h)
  refine M.Conv_bind q1 (M.Conv_bind q2 (M.Conv_bind r1 (M.Conv_bind r2 (M.Conv_bind hget (M.Conv_bind r1 ?_)))))
  have m1 := mul_bd (a := x - cj) (b := j - i) (A := 2000000) (B := 12) (by omega) (by omega)
  have m2 := mul_bd (a := cj - ci) (b := k - j) (A := 2000000) (B := 12) (by omega) (by omega)
  rw [w64_eq (x - cj) (by omega), w64_eq (j - i) (by omega), w64_eq (cj - ci) (by omega), w64_eq (k - j) (by omega), w64_eq _ (by omega), w64_eq _ (by omega)]
  have et : keepB c k x j i = decide ((x - cj) * (j - i) < (cj - ci) * (k - j)) := by simp only [keepB, e1, e2]
  rw [et]
  refine M.Conv_ite (fun h => ?_) (fun h => ?_)
  · rw [h]; exact M.Conv_ret _
  · rw [h]; exact M.Conv_bind q3 (M.Conv_ret _)
theorem popI_ok {c : List Int} {k : Nat} {x j i : Int} {r : List Int} (hk : k ≤ 12) (bx : -1000000 ≤ x ∧ x ≤ 1000000) (hg : GoodT c k (j :: i :: r)) :
    M.Conv (popI c k x (j :: i :: r).reverse) (bif keepB c k x j i then .inr (j :: i :: r).reverse else .inl (i :: r).reverse) := by
  obtain ⟨cj, ci, r1, r2, b1, b2, i0, j0, j1, i1, e1, e2⟩ := hg.reads hk
  obtain ⟨q1, q2, q3⟩ := reads2 hg.1
  refine M.Conv_ite (fun _ => ?_) (fun h => by rw [big_len] at h; cases h)
  refine M.Conv_bind q1 (M.Conv_bind q2 (M.Conv_bind r1 (M.Conv_bind r2 (M.Conv_bind r2 ?_))))
  have m1 := mul_bd (a := x - ci) (b := j - i) (A := 2000000) (B := 12) (by omega) (by omega)
  have m2 := mul_bd (a := cj - ci) (b := k - i) (A := 2000000) (B := 12) (by omega) (by omega)
  rw [w64_eq (x - ci) (by omega), w64_eq (j - i) (by omega), w64_eq (cj - ci) (by omega), w64_eq (k - i) (by omega), w64_eq _ (by omega), w64_eq _ (by omega)]
  have et : keepB c k x j i = decide ((x - ci) * (j - i) < (cj - ci) * (k - i)) := by
    simp only [keepB, e1, e2]
    congr 1
    rw [eq_iff_iff]
    have a1 : (x - ci) * (j - i) = (x - cj) * (j - i) + (cj - ci) * (j - i) := by rw [← Int.add_mul]; congr 1; omega
    have a2 : (cj - ci) * (k - i) = (cj - ci) * (k - j) + (cj - ci) * (j - i) := by rw [← Int.mul_add]; congr 1; omega
    omega
  rw [et]
  refine M.Conv_ite (fun h => ?_) (fun h => ?_)
  · rw [h]; exact M.Conv_ret _
  · rw [h]; exact M.Conv_bind q3 (M.Conv_ret _)
/-- the terms found among the first k coefficients, the last one first -/
def TermsT (c : List Int) (k : Nat) (rs : List Int) : Prop := rs.length ≤ k ∧ (∀ t ∈ rs, termB c k t) ∧ List.Pairwise (fun a b => b < a) rs ∧ ((c.take k).any (· != (-1000000000000000)) = true → rs ≠ [])
theorem hull_round {c : List Int} {k : Nat} {x : Int} {rs : List Int} (hc : c.length ≤ 12) (hv : ∀ x ∈ c, valB x = true) (hx : c[k]? = some x) (hG : TermsT c k rs) :
    ∃ rs', TermsT c (k + 1) rs' ∧ M.Conv (hullS c k rs.reverse) (.inl rs'.reverse) ∧ M.Conv (hullI c k rs.reverse) (.inl rs'.reverse) := by
  have hk := (List.getElem?_eq_some_iff.1 hx).1
  have hmem : x ∈ c := List.mem_of_getElem? hx
  have hget : M.Conv (M.idx c (k : Int)) x := M.Conv_get (by omega) (by simpa using hx)
  have htk : c.take (k + 1) = c.take k ++ [x] := by rw [List.take_add_one, hx]; rfl
  obtain ⟨g1, g2, g3, g4⟩ := hG
  have up : ∀ t, termB c k t → termB c (k + 1) t := fun t ⟨a, b, d⟩ => ⟨a, by omega, d⟩
  cases hb : (x == (-1000000000000000)) with
  | true =>
    refine ⟨rs, ⟨by omega, fun t ht => up t (g2 t ht), g3, fun h => g4 ?_⟩, ?_, ?_⟩
    · rw [htk, List.any_append] at h
      simpa [bne, hb] using h
    · exact M.Conv_bind (M.Conv_bind hget (M.Conv_ite (fun _ => M.Conv_ret _) (fun h => by rw [hb] at h; cases h))) (M.Conv_ret _)
    · exact M.Conv_bind (M.Conv_bind hget (M.Conv_ite (fun _ => M.Conv_ret _) (fun h => by rw [hb] at h; cases h))) (M.Conv_ret _)
  | false =>
    have hfx := val_ne (hv x hmem) hb
    have bx := finB_bd hfx
    have hG' : GoodT c k rs := ⟨by omega, g2, g3⟩
    have subG : ∀ x l, GoodT c k (x :: l) → GoodT c k l := fun x l ⟨a, b, d⟩ => ⟨by simp at a; omega, fun t ht => b t (List.mem_cons_of_mem _ ht), (List.pairwise_cons.1 d).2⟩
    obtain ⟨qs, q1, q2, q3, q4, q5⟩ := pop_loop (f := popS c k) (keepB c k x) (GoodT c k) subG (fun l _ hl => M.Conv_ite (fun h => by rw [small_len hl] at h; cases h) (fun _ => M.Conv_ret _)) (fun j i r hg => popS_ok (by omega) hx bx hg) rs hG'
    have q6 := q5 (popI c k x) (fun l _ hl => M.Conv_ite (fun h => by rw [small_len hl] at h; cases h) (fun _ => M.Conv_ret _)) (fun j i r hg => popI_ok (by omega) bx hg)
    have happ : M.Conv (M.app qs.reverse ([(k : Int)] : List Int)) ((k : Int) :: qs).reverse := (M.Conv_app (by simp; omega)).of (by simp)
    refine ⟨(k : Int) :: qs, ⟨by simp; omega, fun t ht => ?_, ?_, fun _ => by simp⟩, ?_, ?_⟩
    · rcases List.mem_cons.1 ht with rfl | ht
      · exact ⟨by omega, by omega, x, by simpa using hx, hfx⟩
      · exact up t (q1.2.1 t ht)
    · exact List.pairwise_cons.2 ⟨fun a ha => (q1.2.1 a ha).2.1, q1.2.2⟩
    · exact M.Conv_bind (M.Conv_bind hget (M.Conv_ite (fun h => by rw [hb] at h; cases h) (fun _ => M.Conv_bind q3 (M.Conv_bind happ (M.Conv_ret _))))) (M.Conv_ret _)
    · exact M.Conv_bind (M.Conv_bind hget (M.Conv_ite (fun h => by rw [hb] at h; cases h) (fun _ => M.Conv_bind q6 (M.Conv_bind happ (M.Conv_ret _))))) (M.Conv_ret _)
theorem hull_rounds {c : List Int} (hc : c.length ≤ 12) (hv : ∀ x ∈ c, valB x = true) : ∀ (d k : Nat) (rs : List Int), k + d = c.length → TermsT c k rs → ∃ rs', TermsT c c.length rs' ∧
    (∃ N, ∀ n, N ≤ n → M.forN (c.length : Int) (fun s => s) (hullS c) n d k rs.reverse = some rs'.reverse) ∧ (∃ N, ∀ n, N ≤ n → M.forN (c.length : Int) (fun s => s) (hullI c) n d k rs.reverse = some rs'.reverse)
  | 0, k, rs, hk, hG => by
    obtain rfl : k = c.length := by omega
    exact ⟨rs, hG, ⟨0, fun n _ => by simp [M.forN]⟩, ⟨0, fun n _ => by simp [M.forN]⟩⟩
  | d + 1, k, rs, hk, hG => by
    have hlt : k < c.length := by omega
    have hlt' : (k : Int) < (c.length : Int) := by omega
    obtain ⟨rs1, g1, ⟨N1, s1⟩, ⟨N2, s2⟩⟩ := hull_round hc hv (List.getElem?_eq_getElem hlt) hG
    obtain ⟨rs2, g2, ⟨N3, s3⟩, ⟨N4, s4⟩⟩ := hull_rounds hc hv d (k + 1) rs1 (by omega) g1
    refine ⟨rs2, g2, ⟨max N1 N3, fun n hn => ?_⟩, ⟨max N2 N4, fun n hn => ?_⟩⟩
    · simp only [M.forN, hlt', decide_true, cond_true, s1 n (by omega)]
      have := s3 n (by omega)
      simpa using this
    · simp only [M.forN, hlt', decide_true, cond_true, s2 n (by omega)]
      have := s4 n (by omega)
      simpa using this
/-- the essential terms: what both programs come to -/
theorem terms_ok {c : List Int} (hc : c.length ≤ 12) (hv : c.all valB = true) : ∃ h : List Int, M.Conv (spec_l09Terms c) h ∧ M.Conv (impl_essentialTerms c) h ∧ h.length ≤ c.length ∧ (∀ t ∈ h, termB c c.length t) ∧ (c.any (· != (-1000000000000000)) = true → h ≠ []) ∧ List.Pairwise (· < ·) h := by
  rw [List.all_eq_true] at hv
  obtain ⟨rs, ⟨g1, g2, g3, g4⟩, ⟨N1, s1⟩, ⟨N2, s2⟩⟩ := hull_rounds hc hv c.length 0 [] (by simp) ⟨by simp, by simp, List.Pairwise.nil, by simp⟩
  have hl : (c.length : Int) ≤ 9223372036854775807 := by omega
  refine ⟨rs.reverse, ?_, ?_, by simpa using g1, fun t ht => g2 t (by simpa using ht), fun h => by simpa using g4 (by simpa using h), ?_⟩
  · rw [spec_l09Terms_eq]
    refine M.Conv_bind ⟨N1, fun n hn => ?_⟩ (M.Conv_ret _)
    simp only [M.forI, hl, decide_true, Bool.and_true, show (-9223372036854775808 : Int) ≤ 0 by decide, cond_true]
    have := s1 n hn
    simpa using this
  · rw [impl_essentialTerms_eq]
    refine M.Conv_bind ⟨N2, fun n hn => ?_⟩ (M.Conv_ret _)
    simp only [M.forI, hl, decide_true, Bool.and_true, show (-9223372036854775808 : Int) ≤ 0 by decide, cond_true]
    have := s2 n hn
    simpa using this
  · rw [List.pairwise_reverse]; exact g3

/-- two programs, one answer -/
def Two {α : Type} (m m' : M α) (Post : α → Prop) : Prop := ∃ r, M.Conv m r ∧ M.Conv m' r ∧ Post r
theorem Two.mk {α : Type} {m m' : M α} {Post : α → Prop} {r : α} (h : M.Conv m r) (h' : M.Conv m' r) (p : Post r) : Two m m' Post := ⟨r, h, h', p⟩
theorem Two.ret {α : Type} {Post : α → Prop} (r : α) (p : Post r) : Two (M.ret r) (M.ret r) Post := ⟨r, M.Conv_ret _, M.Conv_ret _, p⟩
theorem Two.bind {α β : Type} {m m' : M α} {f f' : α → M β} {P : α → Prop} {Q : β → Prop} (h : Two m m' P) (g : ∀ x, P x → Two (f x) (f' x) Q) : Two (M.bind m f) (M.bind m' f') Q := by
  obtain ⟨x, h1, h2, p⟩ := h
  obtain ⟨r, g1, g2, q⟩ := g x p
  exact ⟨r, M.Conv_bind h1 g1, M.Conv_bind h2 g2, q⟩
theorem Two.bindC {α α' β : Type} {m : M α} {m' : M α'} {f : α → M β} {f' : α' → M β} {Q : β → Prop} {x : α} {x' : α'} (h : M.Conv m x) (h' : M.Conv m' x') (g : Two (f x) (f' x') Q) : Two (M.bind m f) (M.bind m' f') Q := by
  obtain ⟨r, g1, g2, q⟩ := g
  exact ⟨r, M.Conv_bind h g1, M.Conv_bind h' g2, q⟩
theorem Two.left {α β : Type} {m : M α} {m' : M β} {f : α → M β} {Q : β → Prop} {x : α} (h : M.Conv m x) (g : Two (f x) m' Q) : Two (M.bind m f) m' Q := by
  obtain ⟨r, g1, g2, q⟩ := g
  exact ⟨r, M.Conv_bind h g1, g2, q⟩
theorem Two.right {α β : Type} {m : M α} {m' : M β} {f : α → M β} {Q : β → Prop} {x : α} (h : M.Conv m x) (g : Two m' (f x) Q) : Two m' (M.bind m f) Q := by
  obtain ⟨r, g1, g2, q⟩ := g
  exact ⟨r, g1, M.Conv_bind h g2, q⟩
theorem Two.ite {α : Type} {b : Bool} {x y x' y' : M α} {Q : α → Prop} (h1 : b = true → Two x x' Q) (h2 : b = false → Two y y' Q) : Two (M.ite b x y) (M.ite b x' y') Q := by
  cases b
  · exact h2 rfl
  · exact h1 rfl
theorem Two.iteL {α : Type} {b : Bool} {x y m' : M α} {Q : α → Prop} (h1 : b = true → Two x m' Q) (h2 : b = false → Two y m' Q) : Two (M.ite b x y) m' Q := by
  cases b
  · exact h2 rfl
  · exact h1 rfl
theorem Two.iteR {α : Type} {b : Bool} {x y m' : M α} {Q : α → Prop} (h1 : b = true → Two m' x Q) (h2 : b = false → Two m' y Q) : Two m' (M.ite b x y) Q := by
  cases b
  · exact h2 rfl
  · exact h1 rfl
theorem Two.mono {α : Type} {m m' : M α} {P Q : α → Prop} (h : Two m m' P) (hp : ∀ r, P r → Q r) : Two m m' Q := let ⟨r, a, b, c⟩ := h; ⟨r, a, b, hp r c⟩
theorem two_forN {σ ρ : Type} {hi : Int} {fin : σ → ρ} {f f' : Int → σ → M (σ ⊕ ρ)} {Post : ρ → Prop} (I : Int → σ → Prop) (lo : Int)
    (round : ∀ i s, lo ≤ i → i < hi → I i s → Two (f i s) (f' i s) fun y => (∃ s', y = .inl s' ∧ I (i + 1) s') ∨ (∃ r, y = .inr r ∧ Post r)) :
    ∀ (d : Nat) (i : Int) (s : σ), (hi - i).toNat = d → lo ≤ i → (i ≤ hi ∨ i = lo) → I i s → (∀ i s, (i = hi ∨ i = lo ∧ hi ≤ lo) → I i s → Post (fin s)) → ∃ r, (∃ N, ∀ n, N ≤ n → M.forN hi fin f n d i s = some r) ∧ (∃ N, ∀ n, N ≤ n → M.forN hi fin f' n d i s = some r) ∧ Post r
  | 0, i, s, hd, h1, h2, hI, fi => by
    have hge : ¬ i < hi := by omega
    exact ⟨fin s, ⟨0, fun n _ => by simp [M.forN, hge]⟩, ⟨0, fun n _ => by simp [M.forN, hge]⟩, fi i s (by omega) hI⟩
  | d + 1, i, s, hd, h1, h2, hI, fi => by
    have hlt : i < hi := by omega
    obtain ⟨y, ⟨N, hy⟩, ⟨N', hy'⟩, hc⟩ := round i s h1 hlt hI
    rcases hc with ⟨s', rfl, hI'⟩ | ⟨r, rfl, hp⟩
    · obtain ⟨r, ⟨N1, h3⟩, ⟨N2, h4⟩, hp⟩ := two_forN (fin := fin) I lo round d (i + 1) s' (by omega) (by omega) (by omega) hI' fi
      exact ⟨r, ⟨max N N1, fun n hn => by simp [M.forN, hlt, hy n (by omega), h3 n (by omega)]⟩, ⟨max N' N2, fun n hn => by simp [M.forN, hlt, hy' n (by omega), h4 n (by omega)]⟩, hp⟩
    · exact ⟨r, ⟨N, fun n hn => by simp [M.forN, hlt, hy n hn]⟩, ⟨N', fun n hn => by simp [M.forN, hlt, hy' n hn]⟩, hp⟩
theorem Two.for {σ ρ : Type} {lo hi : Int} {fin : σ → ρ} {f f' : Int → σ → M (σ ⊕ ρ)} {s : σ} {Post : ρ → Prop} (I : Int → σ → Prop) (hlo : -9223372036854775808 ≤ lo) (hhi : hi ≤ 9223372036854775807) (h0 : I lo s)
    (round : ∀ i s, lo ≤ i → i < hi → I i s → Two (f i s) (f' i s) fun y => (∃ s', y = .inl s' ∧ I (i + 1) s') ∨ (∃ r, y = .inr r ∧ Post r)) (done : ∀ i s, (i = hi ∨ i = lo ∧ hi ≤ lo) → I i s → Post (fin s)) :
    Two (M.forI lo hi fin f s) (M.forI lo hi fin f' s) Post := by
  obtain ⟨r, ⟨N, h1⟩, ⟨N', h2⟩, hp⟩ := two_forN (fin := fin) I lo round _ lo s rfl (Int.le_refl _) (.inr rfl) h0 done
  exact ⟨r, ⟨N, fun n hn => by simp [M.forI, hlo, hhi, h1 n hn]⟩, ⟨N', fun n hn => by simp [M.forI, hlo, hhi, h2 n hn]⟩, hp⟩
theorem polyB_len {c : List Int} (h : polyB c = true) : c.length ≤ 12 ∧ c.all valB = true ∧ c.any (· != (-1000000000000000)) = true := by
  simp only [polyB, Bool.and_eq_true, decide_eq_true_eq] at h
  exact ⟨h.1.1, h.1.2, h.2⟩
def timesI (a b : Int) : Int := bif (a == (-1000000000000000)) || (b == (-1000000000000000)) then (-1000000000000000) else w64 (a + b)
theorem spec_l01Times_ok (a b : Int) : M.Conv (spec_l01Times a b) (timesI a b) := M.Conv_ite2 (fun _ => M.Conv_ret _) (fun _ => M.Conv_ret _)
theorem impl_times_ok (a b : Int) : M.Conv (impl_times a b) (timesI a b) := M.Conv_ite2 (fun _ => M.Conv_ret _) (fun _ => M.Conv_ret _)
/-- a vector: one to ten values -/
def vecB (x : List Int) : Bool := decide (1 ≤ x.length) && decide (x.length ≤ 10) && x.all valB
theorem spec_l02Vector_ok {x : List Int} (hl : x.length ≤ 9223372036854775807) : M.Conv (spec_l02Vector x) (vecB x) := by
  unfold spec_l02Vector
  refine M.Conv_bind (spec_l01In_ok _ _ _) (M.Conv_bind (x := vecB x) (M.Conv_ite (fun h => ?_) (fun h => ?_)) (M.Conv_ret _))
  · refine M.Conv_bind (spec_l01All_ok false hl) ((M.Conv_ret _).of ?_)
    simp at h
    simp [vecB, show 1 ≤ x.length by omega, show x.length ≤ 10 by omega]
  · refine (M.Conv_ret _).of ?_
    simp only [vecB]
    rw [show (decide (1 ≤ x.length) && decide (x.length ≤ 10)) = false by rw [← h]; congr 1 <;> simp <;> omega]; rfl
theorem impl_checkedVector_ok {x : List Int} (hl : x.length ≤ 9223372036854775807) : M.Conv (impl_checkedVector x) (bif x.all valB then (x, 0) else ([], 3)) := by
  unfold impl_checkedVector
  refine M.Conv_bind (impl_areValues_ok hl) (M.Conv_ite (fun h => ?_) (fun h => ?_))
  · simp only [Bool.not_eq_true'] at h; rw [h]; exact M.Conv_ret _
  · simp only [Bool.not_eq_false'] at h; rw [h]; exact M.Conv_ret _
theorem spec_l01Value_ok (a : Int) : M.Conv (spec_l01Value a) (bif valB a then (a, 0) else (0, 3)) := by
  refine M.Conv_bind (spec_IsValue_ok a) (M.Conv_ite (fun h => ?_) (fun h => ?_))
  · simp only [Bool.not_eq_true'] at h; rw [h]; exact M.Conv_ret _
  · simp only [Bool.not_eq_false'] at h; rw [h]; exact M.Conv_ret _
theorem impl_checkedValue_ok (a : Int) : M.Conv (impl_checkedValue a) (bif valB a then (a, 0) else (0, 3)) := by
  refine M.Conv_bind (impl_IsValue_ok a) (M.Conv_ite (fun h => ?_) (fun h => ?_))
  · simp only [Bool.not_eq_true'] at h; rw [h]; exact M.Conv_ret _
  · simp only [Bool.not_eq_false'] at h; rw [h]; exact M.Conv_ret _
def okTPlace (p : TPlace) : Prop := inI64 p.From ∧ inI64 p.To ∧ inI64 p.Delay ∧ inI64 p.Tokens
def okTGraph (g : TGraph) : Prop := inI64 g.Events ∧ fitL okTPlace g.Places
def smP (l : List TPlace) : Prop := l.length ≤ 1099511627
def smG (g : TGraph) : Prop := smP g.Places
def smII (a : List (List Int)) : Prop := a.length ≤ 1048576 ∧ ∀ r ∈ a, r.length ≤ 1048576
def widthN (a : List (List Int)) : Nat := (a.headD []).length
def matB (a : List (List Int)) : Bool := (decide (1 ≤ a.length) && decide (a.length ≤ 10)) && ((decide (1 ≤ widthN a) && decide (widthN a ≤ 10)) && a.all fun r => decide (r.length = widthN a) && r.all valB)
/-- a matrix of w columns -/
structure Mat (a : List (List Int)) (w : Nat) : Prop where
  rows : 1 ≤ a.length ∧ a.length ≤ 10
  cols : 1 ≤ w ∧ w ≤ 10
  row : ∀ r ∈ a, r.length = w ∧ ∀ x ∈ r, valB x = true
theorem matB_mat {a : List (List Int)} (h : matB a = true) : Mat a (widthN a) := by
  simp only [matB, Bool.and_eq_true, decide_eq_true_eq, List.all_eq_true] at h
  exact ⟨h.1, h.2.1, fun r hr => ⟨(h.2.2 r hr).1, (h.2.2 r hr).2⟩⟩
theorem Mat.head {a : List (List Int)} {w : Nat} (h : Mat a w) : ∃ r, a[0]? = some r ∧ r.length = w := by
  have := h.rows
  exact ⟨a[0], List.getElem?_eq_getElem (by omega), (h.row _ (List.getElem_mem (by omega))).1⟩
theorem spec_IsMatrix_ok {a : List (List Int)} (h : smII a) : M.Conv (spec_IsMatrix a) (matB a) := by
  unfold spec_IsMatrix
  have hl := h.1
  refine M.Conv_ite (fun q => (M.Conv_ret _).of ?_) (fun q => ?_)
  · simp only [Bool.or_eq_true, decide_eq_true_eq] at q
    have : (decide (1 ≤ a.length) && decide (a.length ≤ 10)) = false := by
      rcases q with q | q
      · rw [decide_eq_false (show ¬ 1 ≤ a.length by omega)]; rfl
      · rw [decide_eq_false (show ¬ a.length ≤ 10 by omega)]; simp
    simp [matB, this]
  · simp only [Bool.or_eq_false_iff, decide_eq_false_iff_not] at q
    obtain ⟨r0, rs, rfl⟩ := List.exists_cons_of_ne_nil (l := a) (by rintro rfl; simp at q)
    refine M.Conv_bind (M.Conv_all (fun r => vecB r && decide (r.length = r0.length)) false (by omega) fun i r hr => ?_) ?_
    · have hrl := h.2 r (List.mem_of_getElem? hr)
      have hg : M.Conv (M.idx (r0 :: rs) i) r := M.Conv_get (by omega) (by simpa using hr)
      refine M.Conv_bind hg (M.Conv_bind (spec_l02Vector_ok (by omega)) (M.Conv_bind (x := !(vecB r && decide (r.length = r0.length))) (M.Conv_ite (fun b => ?_) (fun b => ?_)) ?_))
      · simp only [Bool.not_eq_true'] at b; rw [b]; exact M.Conv_ret _
      · simp only [Bool.not_eq_false'] at b
        rw [b]
        refine M.Conv_bind hg (M.Conv_bind (M.Conv_get (x := r0) (by omega) rfl) ((M.Conv_ret _).of ?_))
        simp only [Bool.true_and, bne]
        congr 1
        rw [Bool.eq_iff_iff]; simp; omega
      · cases (vecB r && decide (r.length = r0.length)) <;> exact M.Conv_ret _
    · have e : matB (r0 :: rs) = (r0 :: rs).all fun r => vecB r && decide (r.length = r0.length) := by
        have L : matB (r0 :: rs) = true ↔ ((1 ≤ (r0 :: rs).length ∧ (r0 :: rs).length ≤ 10) ∧ ((1 ≤ r0.length ∧ r0.length ≤ 10) ∧ ∀ r ∈ r0 :: rs, r.length = r0.length ∧ r.all valB = true)) := by
          have e0 : matB (r0 :: rs) = ((decide (1 ≤ (r0 :: rs).length) && decide ((r0 :: rs).length ≤ 10)) && ((decide (1 ≤ r0.length) && decide (r0.length ≤ 10)) && (r0 :: rs).all fun r => decide (r.length = r0.length) && r.all valB)) := rfl
          rw [e0, Bool.and_eq_true, Bool.and_eq_true, Bool.and_eq_true, Bool.and_eq_true, List.all_eq_true]
          simp only [decide_eq_true_eq, Bool.and_eq_true]
        have R : ∀ r : List Int, (vecB r && decide (r.length = r0.length)) = true ↔ ((1 ≤ r.length ∧ r.length ≤ 10) ∧ r.all valB = true) ∧ r.length = r0.length := by
          intro r
          unfold vecB
          simp only [Bool.and_eq_true, decide_eq_true_eq]
        rw [Bool.eq_iff_iff, List.all_eq_true, L]
        constructor
        · rintro ⟨_, ⟨h1, h2⟩, h3⟩ r hr
          obtain ⟨e1, e2⟩ := h3 r hr
          exact (R r).2 ⟨⟨⟨by omega, by omega⟩, e2⟩, e1⟩
        · intro hh
          obtain ⟨⟨⟨e1, e2⟩, _⟩, _⟩ := (R r0).1 (hh r0 List.mem_cons_self)
          exact ⟨⟨by omega, by omega⟩, ⟨e1, e2⟩, fun r hr => ⟨((R r).1 (hh r hr)).2, ((R r).1 (hh r hr)).1.2⟩⟩
      rw [e]
      cases ((r0 :: rs).all fun r => vecB r && decide (r.length = r0.length)) <;> exact M.Conv_ret _
theorem impl_IsMatrix_ok {a : List (List Int)} (h : smII a) : M.Conv (impl_IsMatrix a) (matB a) := by
  unfold impl_IsMatrix slices_ContainsFunc_row_F_impl_IsMatrix_1 slices_IndexFunc_row_F_impl_IsMatrix_1
  have hl := h.1
  refine M.Conv_bind (impl_within_ok _ _ _) ?_
  have e0 : (decide (1 ≤ (a.length : Int)) && decide ((a.length : Int) ≤ 10)) = (decide (1 ≤ a.length) && decide (a.length ≤ 10)) := by
    rw [decide_eq_decide.2 (show (1 : Int) ≤ a.length ↔ 1 ≤ a.length by omega), decide_eq_decide.2 (show (a.length : Int) ≤ 10 ↔ a.length ≤ 10 by omega)]
  rw [e0]
  cases hb : (decide (1 ≤ a.length) && decide (a.length ≤ 10)) with
  | false => exact M.Conv_bind (x := true) (M.Conv_ret _) ((M.Conv_ret _).of (by simp [matB, hb]))
  | true =>
    simp only [Bool.and_eq_true, decide_eq_true_eq] at hb
    obtain ⟨r0, rs, rfl⟩ := List.exists_cons_of_ne_nil (l := a) (by rintro rfl; simp at hb)
    have e1 : (decide (1 ≤ (r0.length : Int)) && decide ((r0.length : Int) ≤ 10)) = (decide (1 ≤ widthN (r0 :: rs)) && decide (widthN (r0 :: rs) ≤ 10)) := by
      rw [decide_eq_decide.2 (show (1 : Int) ≤ r0.length ↔ 1 ≤ r0.length by omega), decide_eq_decide.2 (show (r0.length : Int) ≤ 10 ↔ r0.length ≤ 10 by omega)]; rfl
    refine M.Conv_bind (x := !(decide (1 ≤ widthN (r0 :: rs)) && decide (widthN (r0 :: rs) ≤ 10))) (M.Conv_ite (fun q => by simp at q) (fun _ => M.Conv_bind (M.Conv_get (x := r0) (by omega) rfl) (M.Conv_bind (impl_within_ok _ _ _) ((M.Conv_ret _).of (by rw [e1]))))) ?_
    have e2 : matB (r0 :: rs) = ((decide (1 ≤ widthN (r0 :: rs)) && decide (widthN (r0 :: rs) ≤ 10)) && (r0 :: rs).all fun r => decide (r.length = widthN (r0 :: rs)) && r.all valB) := by
      simp only [matB, decide_eq_true hb.1, decide_eq_true hb.2, Bool.true_and]
    rw [e2]
    cases (decide (1 ≤ widthN (r0 :: rs)) && decide (widthN (r0 :: rs) ≤ 10)) with
    | false => exact M.Conv_ret _
    | true =>
      refine M.Conv_ite (fun q => by simp at q) (fun _ => ?_)
      refine M.Conv_bind (contains_ok (fun r => !(decide (r.length = widthN (r0 :: rs)) && r.all valB)) (by omega) fun i r hr => ?_) ((M.Conv_ret _).of (by rw [any_not, Bool.true_and]))
      have hrl := h.2 r (List.mem_of_getElem? hr)
      refine M.Conv_bind (M.Conv_get (by omega) (by simpa using hr)) (M.Conv_bind (x := !(decide (r.length = widthN (r0 :: rs)) && r.all valB)) (M.Conv_bind (M.Conv_get (x := r0) (by omega) rfl) (M.Conv_bind (x := !(decide (r.length = widthN (r0 :: rs)) && r.all valB)) (M.Conv_ite (fun q => ?_) (fun q => ?_)) (M.Conv_ret _))) ?_)
      · have : r.length ≠ widthN (r0 :: rs) := fun e => by rw [show r.length = r0.length from e] at q; simp at q
        rw [decide_eq_false this]; exact M.Conv_ret _
      · have : r.length = widthN (r0 :: rs) := Int.ofNat.inj (show (r.length : Int) = r0.length by simpa using q)
        rw [decide_eq_true this]; exact M.Conv_bind (impl_areValues_ok (by omega)) (M.Conv_ret _)
      · cases (decide (r.length = widthN (r0 :: rs)) && r.all valB) <;> exact M.Conv_ret _

def foldI {α σ : Type} (g : Nat → α → σ → σ) : Nat → List α → σ → σ
  | _, [], s => s
  | i, x :: xs, s => foldI g (i + 1) xs (g i x s)
theorem val_cases {x : Int} (h : valB x = true) : x = -1000000000000000 ∨ (-1000000 ≤ x ∧ x ≤ 1000000) := by
  cases hb : (x == (-1000000000000000)) with
  | true => left; simpa using hb
  | false => right; exact finB_bd (val_ne h hb)
theorem Mat.get {a : List (List Int)} {w i : Nat} {row : List Int} (hm : Mat a w) (h : a[i]? = some row) {j : Nat} (hj : j < w) : M.Conv (M.idx row (j : Int)) ((row[j]?).getD 0) ∧ valB ((row[j]?).getD 0) = true := by
  obtain ⟨e1, e2⟩ := hm.row row (List.mem_of_getElem? h)
  rw [List.getElem?_eq_getElem (by omega)]
  exact ⟨M.Conv_get (by omega) (by simp [show j < row.length by omega]), e2 _ (List.getElem_mem _)⟩
theorem get_row {a : List (List Int)} {i : Nat} {row : List Int} (h : a[i]? = some row) : M.Conv (M.idx a (i : Int)) row := M.Conv_get (by omega) (by simpa using h)
def dotL (x row : List Int) : Int := foldI (fun j v s => mx s (timesI v ((x[j]?).getD 0))) 0 row (-1000000000000000)
theorem impl_timesVector_ok {a : List (List Int)} {x : List Int} {w : Nat} (hm : Mat a w) (hx : x.length = w) : M.Conv (impl_timesVector a x) (a.map (dotL x)) := by
  unfold impl_timesVector
  have hrows := hm.rows
  have hcols := hm.cols
  refine M.Conv_bind (M.Conv_make (by omega) (by omega)) ?_
  rw [Int.toNat_natCast]
  refine M.Conv_bind ((M.Conv_fill (l := a) (fun _ r => dotL x r) 0 (by omega) fun i r s hr hs => ?_).of (?_ : _ = a.map (dotL x))) (M.Conv_ret _)
  · have hi := (List.getElem?_eq_some_iff.1 hr).1
    obtain ⟨hrl, hrv⟩ := hm.row r (List.mem_of_getElem? hr)
    have his : i < s.length := by omega
    refine M.Conv_bind (get_row hr) (M.Conv_bind (M.Conv_get (x := s[i]) (by omega) (by simp [his])) (M.Conv_bind (M.Conv_upd his) (M.Conv_bind (x := s.set i (dotL x r)) ?_ (M.Conv_ret _))))
    refine (M.Conv_forI (l := r) (fun j v t => .inl (s.set i (mx ((t[i]?).getD 0) (timesI v ((x[j]?).getD 0))))) (fun _ t => ∃ q, t = s.set i q) (by omega) ⟨_, rfl⟩ fun j v t hv hq => ?_).of ?_
    · obtain ⟨q, hq⟩ := hq
      subst hq
      have hj := (List.getElem?_eq_some_iff.1 hv).1
      have hg : M.Conv (M.idx (s.set i q) (i : Int)) q := M.Conv_get (by omega) (by simp [his])
      have hq : ((s.set i q)[i]?).getD 0 = q := by simp [his]
      refine ⟨?_, fun s' e => by cases e; exact ⟨_, rfl⟩⟩
      rw [hq]
      refine M.Conv_bind (M.Conv_get (x := v) (by omega) (by simpa using hv)) (M.Conv_bind hg (M.Conv_bind (M.Conv_get (x := (x[j]?).getD 0) (by omega) (by simp [show j < x.length by omega])) (M.Conv_bind (impl_times_ok _ _) (M.Conv_bind hg (M.Conv_bind (M.Conv_upd (by simpa using his)) ((M.Conv_ret _).of (by rw [List.set_set])))))))
    have run : ∀ (l : List Int) (j : Nat) (q : Int), M.run (ρ := List Int) (fun j v t => .inl (s.set i (mx ((t[i]?).getD 0) (timesI v ((x[j]?).getD 0))))) (fun s => s) j l (s.set i q) = s.set i (foldI (fun j v s => mx s (timesI v ((x[j]?).getD 0))) j l q) := by
      intro l
      induction l with
      | nil => intro j q; rfl
      | cons v vs ih =>
        intro j q
        have hq : ((s.set i q)[i]?).getD 0 = q := by simp [his]
        simp only [M.run, foldI, hq]
        exact ih (j + 1) _
    exact run r 0 _
  · exact M.zipIdx_map_fst (g := fun r => dotL x r)
theorem Conv_forV {σ : Type} {n : Nat} {f : Int → σ → M (σ ⊕ σ)} (val : Nat → σ) (hn : n ≤ 9223372036854775807) (h : ∀ i, i < n → M.Conv (f i (val i)) (.inl (val (i + 1)))) : M.Conv (M.forI 0 (n : Int) (fun s => s) f (val 0)) (val n) := by
  have := M.Conv_forI (l := List.range n) (f := f) (fin := fun s => s) (s := val 0) (ρ := σ) (fun i _ _ => .inl (val (i + 1))) (fun i s => s = val i) (by simpa using hn) rfl (fun i x s hx hs => by
    subst hs
    have hi := (List.getElem?_eq_some_iff.1 hx).1
    exact ⟨h i (by simpa using hi), fun s' e => by cases e; rfl⟩)
  simp only [List.length_range] at this
  refine this.of ?_
  have run : ∀ (m i : Nat), M.run (σ := σ) (ρ := σ) (fun i (_ : Nat) _ => .inl (val (i + 1))) (fun s => s) i (List.range m) (val i) = val (i + m) := by
    have g : ∀ (l : List Nat) (i : Nat), M.run (σ := σ) (ρ := σ) (fun i (_ : Nat) _ => .inl (val (i + 1))) (fun s => s) i l (val i) = val (i + l.length) := by
      intro l
      induction l with
      | nil => intro i; rfl
      | cons x xs ih => intro i; simp only [M.run, List.length_cons]; rw [ih (i + 1)]; congr 1; omega
    intro m i
    rw [g, List.length_range]
  simpa using run n 0
def sqB (a : List (List Int)) : Bool := matB a && decide (a.length = widthN a)
theorem head_of_mat {a : List (List Int)} (h : matB a = true) : ∃ r, a[0]? = some r ∧ r.length = widthN a := (matB_mat h).head
theorem spec_l02Square_ok {a : List (List Int)} (h : smII a) : M.Conv (spec_l02Square a) (sqB a) := by
  refine M.Conv_bind (spec_IsMatrix_ok h) (M.Conv_bind (x := sqB a) (M.Conv_ite (fun q => ?_) (fun q => (M.Conv_ret _).of (by simp [sqB, q]))) (M.Conv_ret _))
  obtain ⟨r, h0, hl⟩ := head_of_mat q
  refine M.Conv_bind (get_row h0) ((M.Conv_ret _).of ?_)
  rw [hl, sqB, q, Bool.true_and]
  rw [Bool.eq_iff_iff]; simp; omega
theorem impl_isSquare_ok {a : List (List Int)} (h : smII a) : M.Conv (impl_isSquare a) (sqB a) := by
  refine M.Conv_bind (impl_IsMatrix_ok h) (M.Conv_bind (x := sqB a) (M.Conv_ite (fun q => ?_) (fun q => (M.Conv_ret _).of (by simp [sqB, q]))) (M.Conv_ret _))
  obtain ⟨r, h0, hl⟩ := head_of_mat q
  refine M.Conv_bind (get_row h0) ((M.Conv_ret _).of ?_)
  rw [hl, sqB, q, Bool.true_and]
  rw [Bool.eq_iff_iff]; simp; omega
theorem sq_mat {a : List (List Int)} (h : sqB a = true) : Mat a a.length := by
  simp only [sqB, Bool.and_eq_true, decide_eq_true_eq] at h
  have := matB_mat h.1
  rwa [← h.2] at this
def ConvL {σ ρ : Type} (f : σ → M (σ ⊕ ρ)) (s : σ) (r : ρ) : Prop := ∃ N m0, ∀ n, N ≤ n → ∀ m, m0 ≤ m → M.loopN f n m s = some r
theorem ConvL.conv {σ ρ : Type} {f : σ → M (σ ⊕ ρ)} {s : σ} {r : ρ} (h : ConvL f s r) : M.Conv (M.loop f s) r := by
  obtain ⟨N, m0, h⟩ := h
  exact ⟨max N m0, fun n hn => h n (by omega) n (by omega)⟩
theorem ConvL.step {σ ρ : Type} {f : σ → M (σ ⊕ ρ)} {s s' : σ} {r : ρ} (h1 : M.Conv (f s) (.inl s')) (h : ConvL f s' r) : ConvL f s r := by
  obtain ⟨N, h1⟩ := h1
  obtain ⟨N', m0, h⟩ := h
  refine ⟨max N N', m0 + 1, fun n hn m hm => ?_⟩
  obtain ⟨m, rfl⟩ : ∃ q, m = q + 1 := ⟨m - 1, by omega⟩
  simp only [M.loopN, h1 n (by omega)]
  exact h n (by omega) m (by omega)
theorem ConvL.stop {σ ρ : Type} {f : σ → M (σ ⊕ ρ)} {s : σ} {r : ρ} (h1 : M.Conv (f s) (.inr r)) : ConvL f s r := by
  obtain ⟨N, h1⟩ := h1
  refine ⟨N, 1, fun n hn m hm => ?_⟩
  obtain ⟨m, rfl⟩ : ∃ q, m = q + 1 := ⟨m - 1, by omega⟩
  simp only [M.loopN, h1 n hn]
def gcdF (s1 : Int × Int) : M ((Int × Int) ⊕ (Int × Int)) := M.ite (decide (0 < s1.2)) (M.bind (M.guard (s1.2 != 0)) (fun _ => M.ret (.inl (s1.2, (s1.1.tmod s1.2))))) (M.ret (.inr (s1.1, s1.2)))
theorem gcd_loop : ∀ (m : Nat) (a b : Int), b.toNat < m → 0 ≤ a → 0 ≤ b → ∃ d, ConvL gcdF (a, b) (d, 0) ∧ 0 ≤ d ∧ (0 < a ∨ 0 < b → 0 < d)
  | 0, _, _, h, _, _ => by omega
  | m + 1, a, b, h, ha, hb => by
    by_cases h0 : 0 < b
    · have hm : 0 ≤ a.tmod b := Int.tmod_nonneg b ha
      have hl : a.tmod b < b := Int.tmod_lt_of_pos a h0
      obtain ⟨d, k1, k2, k3⟩ := gcd_loop m b (a.tmod b) (by omega) hb hm
      refine ⟨d, ConvL.step (s' := (b, a.tmod b)) ?_ k1, k2, fun _ => k3 (.inl h0)⟩
      exact M.Conv_ite (fun _ => M.Conv_bind (M.Conv_guard (by simp; omega)) (M.Conv_ret _)) (fun q => by have := of_decide_eq_false q; simp only at this; omega)
    · obtain rfl : b = 0 := by omega
      exact ⟨a, ConvL.stop (M.Conv_ite (fun q => by have := of_decide_eq_true q; simp only at this; omega) (fun _ => M.Conv_ret _)), ha, fun h => by omega⟩
theorem divisor_same {a b : Int} (ha : -9000000000000000000 ≤ a ∧ a ≤ 9000000000000000000) (hb : 0 < b ∧ b ≤ 9000000000000000000) : ∃ d, 0 < d ∧ M.Conv (spec_l01Divisor a b) d ∧ ∀ x, M.Conv (impl_absOf a) x → M.Conv (impl_divisorOf x b) d := by
  have e1 : mx a (w64 (0 - a)) = (a.natAbs : Int) := by rw [w64_eq _ (by omega), mx_eq]; omega
  have e2 : mx b (w64 (0 - b)) = b := by rw [w64_eq _ (by omega), mx_eq]; omega
  obtain ⟨d, k1, _, k3⟩ := gcd_loop _ (a.natAbs : Int) b (Nat.lt_succ_self _) (by omega) (by omega)
  refine ⟨d, k3 (.inr hb.1), ?_, fun x hx => ?_⟩
  · unfold spec_l01Divisor
    rw [e1, e2]
    exact M.Conv_bind k1.conv (M.Conv_ret _)
  · have : M.Conv (impl_absOf a) (a.natAbs : Int) := M.Conv_ite (fun q => by have := of_decide_eq_true q; exact (M.Conv_ret _).of (by rw [w64_eq _ (by omega)]; omega)) (fun q => by have := of_decide_eq_false q; exact (M.Conv_ret _).of (by omega))
    obtain rfl := hx.unique this
    exact M.Conv_bind k1.conv (M.Conv_ret _)
theorem absOf_conv (a : Int) : ∃ x, M.Conv (impl_absOf a) x := by
  unfold impl_absOf
  cases h : decide (a < 0)
  · exact ⟨_, M.Conv_ret _⟩
  · exact ⟨_, M.Conv_ret _⟩
theorem isRatio_same (r : TRatio) : Two (spec_IsRatio r) (impl_IsRatio r) (fun _ => True) := by
  unfold spec_IsRatio impl_IsRatio
  refine Two.bindC (spec_l01Finite_ok _) (impl_isFinite_ok _) ?_
  refine Two.bind (P := fun b => b = true → finB r.Num = true ∧ 1 ≤ r.Den ∧ r.Den ≤ 1000000) (Two.ite (fun q => ?_) (fun _ => Two.ret _ (by simp))) (fun b hb => ?_)
  · exact Two.bindC (spec_l01In_ok _ _ _) (impl_within_ok _ _ _) (Two.ret _ (fun h => by simp only [Bool.and_eq_true, decide_eq_true_eq] at h; exact ⟨q, h⟩))
  · refine Two.bind (P := fun _ => True) (Two.ite (fun q => ?_) (fun _ => Two.ret _ trivial)) (fun x _ => Two.ret _ trivial)
    obtain ⟨h1, h2, h3⟩ := hb q
    have bn := finB_bd h1
    obtain ⟨d, d0, k1, k2⟩ := divisor_same (a := r.Num) (b := r.Den) (by omega) (by omega)
    obtain ⟨x, hx⟩ := absOf_conv r.Num
    exact Two.right hx (Two.bindC k1 (k2 x hx) (Two.ret _ trivial))
def bitN (s j : Nat) : Nat := s / 2 ^ j % 2
def popN (s : Nat) : Nat := (List.range 10).foldl (fun t j => t + bitN s j) 0
def chk1 (s j : Nat) : Bool :=
  (ibit .and .i64 (ishr .i64 (s : Int) (IntKind.u64.wrap (j : Int))) 1 == (bitN s j : Int)) && (ibit .and .i64 (ishr .i64 (s : Int) (j : Int)) 1 == (bitN s j : Int)) && (ishl .i64 1 (IntKind.u64.wrap (j : Int)) == ((2 ^ j : Nat) : Int)) && (ishl .i64 1 (j : Int) == ((2 ^ j : Nat) : Int)) &&
  (ibit .or .i64 (s : Int) (ishl .i64 1 (j : Int)) == (bif bitN s j == 1 then (s : Int) else ((s + 2 ^ j : Nat) : Int))) && (bif bitN s j == 1 then decide (2 ^ j ≤ s) && (popN (s - 2 ^ j) + 1 == popN s) && (bitN (s - 2 ^ j) j == 0) else bitN s j == 0) && decide (IntKind.u64.wrap (j : Int) = (j : Int))
theorem chk1_all : ((List.range 1024).all fun s => (List.range 10).all fun j => chk1 s j) = true := by decide +kernel
def chk2 (s : Nat) : Bool := (math_bits_OnesCount (IntKind.u64.wrap (s : Int)) 0 == some (popN s : Int)) && decide (popN s ≤ 10) && (decide (s = 0) || decide (1 ≤ popN s))
theorem chk2_all : ((List.range 1024).all chk2) = true := by decide +kernel
def chk3 (n s : Nat) : Bool := (popN (2 ^ n - 1 - s) + popN s == n) && (List.range n).all fun j => (bitN (2 ^ n - 1 - s) j + bitN s j == 1)
theorem chk3_all : ((List.range 11).all fun n => (List.range (2 ^ n)).all fun s => chk3 n s) = true := by decide +kernel
theorem chk4_all : ((List.range 11).all fun n => (ishl .i64 1 (IntKind.u64.wrap (n : Int)) == ((2 ^ n : Nat) : Int)) && (ishl .i64 1 (n : Int) == ((2 ^ n : Nat) : Int)) && decide (2 ^ n ≤ 1024) && decide (1 ≤ 2 ^ n) && decide (0 ≤ IntKind.u64.wrap (n : Int))) = true := by decide +kernel
structure Bit (s j : Nat) : Prop where
  andU : ibit .and .i64 (ishr .i64 (s : Int) (IntKind.u64.wrap (j : Int))) 1 = (bitN s j : Int)
  and : ibit .and .i64 (ishr .i64 (s : Int) (j : Int)) 1 = (bitN s j : Int)
  shlU : ishl .i64 1 (IntKind.u64.wrap (j : Int)) = ((2 ^ j : Nat) : Int)
  shl : ishl .i64 1 (j : Int) = ((2 ^ j : Nat) : Int)
  or : ibit .or .i64 (s : Int) (ishl .i64 1 (j : Int)) = (bif bitN s j == 1 then (s : Int) else ((s + 2 ^ j : Nat) : Int))
  one : bitN s j = 1 → 2 ^ j ≤ s ∧ popN (s - 2 ^ j) + 1 = popN s ∧ bitN (s - 2 ^ j) j = 0
  zero : bitN s j ≠ 1 → bitN s j = 0
  wrapU : IntKind.u64.wrap (j : Int) = (j : Int)
theorem bit_ok {s j : Nat} (hs : s < 1024) (hj : j < 10) : Bit s j := by
  have h := chk1_all
  rw [List.all_eq_true] at h
  have h := h s (List.mem_range.2 hs)
  rw [List.all_eq_true] at h
  have h := h j (List.mem_range.2 hj)
  simp only [chk1, Bool.and_eq_true, beq_iff_eq, decide_eq_true_eq] at h
  obtain ⟨⟨⟨⟨⟨⟨h1, h2⟩, h3⟩, h4⟩, h5⟩, h6⟩, h7⟩ := h
  refine ⟨h1, h2, h3, h4, h5, fun e => ?_, fun e => ?_, h7⟩
  · rw [e] at h6
    simp only [beq_self_eq_true, cond_true, Bool.and_eq_true, decide_eq_true_eq, beq_iff_eq] at h6
    exact ⟨h6.1.1, h6.1.2, h6.2⟩
  · rw [show (bitN s j == 1) = false by simpa using e] at h6
    simpa using h6
theorem pop_ok {s : Nat} (hs : s < 1024) : M.Conv (math_bits_OnesCount (IntKind.u64.wrap (s : Int))) (popN s : Int) ∧ popN s ≤ 10 ∧ (s = 0 ∨ 1 ≤ popN s) := by
  have h := chk2_all
  rw [List.all_eq_true] at h
  have h := h s (List.mem_range.2 hs)
  simp only [chk2, Bool.and_eq_true, beq_iff_eq, decide_eq_true_eq, Bool.or_eq_true] at h
  exact ⟨⟨0, fun n _ => h.1.1⟩, h.1.2, h.2⟩
theorem compl_ok {n s : Nat} (hn : n ≤ 10) (hs : s < 2 ^ n) : popN (2 ^ n - 1 - s) + popN s = n ∧ ∀ j, j < n → bitN (2 ^ n - 1 - s) j + bitN s j = 1 := by
  have h := chk3_all
  rw [List.all_eq_true] at h
  have h := h n (List.mem_range.2 (by omega))
  rw [List.all_eq_true] at h
  have h := h s (List.mem_range.2 hs)
  simp only [chk3, Bool.and_eq_true, beq_iff_eq, List.all_eq_true, List.mem_range] at h
  exact h
theorem pow_ok {n : Nat} (hn : n ≤ 10) : ishl .i64 1 (IntKind.u64.wrap (n : Int)) = ((2 ^ n : Nat) : Int) ∧ ishl .i64 1 (n : Int) = ((2 ^ n : Nat) : Int) ∧ 2 ^ n ≤ 1024 ∧ 1 ≤ 2 ^ n ∧ 0 ≤ IntKind.u64.wrap (n : Int) := by
  have h := chk4_all
  rw [List.all_eq_true] at h
  have h := h n (List.mem_range.2 (by omega))
  simp only [Bool.and_eq_true, beq_iff_eq, decide_eq_true_eq] at h
  exact ⟨h.1.1.1.1, h.1.1.1.2, h.1.1.2, h.1.2, h.2⟩
def entA (a : List (List Int)) (i j : Nat) : Int := (((a[i]?).getD [])[j]?).getD 0
def stepP (a : List (List Int)) (tab : List (Int × Int)) (s : Nat) (st : Int × Int) (j : Nat) : Int × Int :=
  bif bitN s j == 1 then
    bif (entA a (a.length - popN s) j == (-1000000000000000)) || (((tab[s - 2 ^ j]?).getD (0, 0)).1 == (-1000000000000000)) then st
    else bif decide (st.1 < entA a (a.length - popN s) j + ((tab[s - 2 ^ j]?).getD (0, 0)).1) then (entA a (a.length - popN s) j + ((tab[s - 2 ^ j]?).getD (0, 0)).1, ((tab[s - 2 ^ j]?).getD (0, 0)).2)
    else bif (entA a (a.length - popN s) j + ((tab[s - 2 ^ j]?).getD (0, 0)).1) == st.1 then (st.1, st.2 + ((tab[s - 2 ^ j]?).getD (0, 0)).2) else st
  else st
def cellP (a : List (List Int)) (tab : List (Int × Int)) (s m : Nat) : Int × Int := (List.range m).foldl (stepP a tab s) (-1000000000000000, 0)
def tabP (a : List (List Int)) : Nat → List (Int × Int)
  | 0 => []
  | k + 1 => tabP a k ++ [bif k == 0 then (0, 1) else cellP a (tabP a k) k a.length]
theorem tabP_len (a : List (List Int)) : ∀ k, (tabP a k).length = k
  | 0 => rfl
  | k + 1 => by simp [tabP, tabP_len a k]
theorem tabP_get (a : List (List Int)) {k m s : Nat} (hs : s < k) (hk : k ≤ m) : (tabP a m)[s]? = (tabP a k)[s]? := by
  induction m with
  | zero => omega
  | succ m ih =>
    by_cases e : k = m + 1
    · rw [e]
    · rw [tabP, List.getElem?_append_left (by rw [tabP_len]; omega)]
      exact ih (by omega)
/-- an entry for p rows: no assignment, or a weight and a number of them -/
def EntP (p : Nat) (e : Int × Int) : Prop := e = (-1000000000000000, 0) ∨ (-(1000000 * (p : Int)) ≤ e.1 ∧ e.1 ≤ 1000000 * p ∧ 1 ≤ e.2 ∧ e.2 ≤ 10 ^ p)
def TabOK (a : List (List Int)) (k : Nat) : Prop := ∀ s e, s < k → (tabP a k)[s]? = some e → EntP (popN s) e
theorem ent_val {a : List (List Int)} {n i j : Nat} (hm : Mat a n) (hi : i < a.length) (hj : j < n) : M.Conv (M.idx a (i : Int)) a[i] ∧ M.Conv (M.idx a[i] (j : Int)) (entA a i j) ∧ valB (entA a i j) = true := by
  have hr : a[i]? = some a[i] := List.getElem?_eq_getElem hi
  obtain ⟨g1, g2⟩ := hm.get hr hj
  have e : entA a i j = (a[i][j]?).getD 0 := by simp only [entA, hr, Option.getD_some]
  rw [e]
  exact ⟨get_row hr, g1, g2⟩
/-- one step, its bounds: K = 10 ^ (p - 1) -/
theorem stepP_bd {a : List (List Int)} {s j p : Nat} {st : Int × Int} (hm : Mat a a.length) (hs : s < 2 ^ a.length) (hj : j < a.length) (h0 : s ≠ 0) (ht : TabOK a s) (hp : popN s = p + 1)
    (hst : st = (-1000000000000000, 0) ∨ (-(1000000 * ((p : Int) + 1)) ≤ st.1 ∧ st.1 ≤ 1000000 * ((p : Int) + 1) ∧ 1 ≤ st.2 ∧ st.2 ≤ j * 10 ^ p)) :
    (stepP a (tabP a s) s st j = (-1000000000000000, 0) ∨ (-(1000000 * ((p : Int) + 1)) ≤ (stepP a (tabP a s) s st j).1 ∧ (stepP a (tabP a s) s st j).1 ≤ 1000000 * ((p : Int) + 1) ∧ 1 ≤ (stepP a (tabP a s) s st j).2 ∧ (stepP a (tabP a s) s st j).2 ≤ (j + 1 : Nat) * 10 ^ p)) ∧
    (bitN s j = 1 → ∃ e, (tabP a s)[s - 2 ^ j]? = some e ∧ EntP p e ∧ a.length - popN s < a.length) := by
  have hrows := hm.rows
  obtain ⟨_, _, hN, _, _⟩ := pow_ok (n := a.length) (by omega)
  have hb := bit_ok (s := s) (j := j) (by omega) (by omega)
  have hp9 : p ≤ 9 := by have := (pop_ok (s := s) (by omega)).2.1; omega
  have hK : (0 : Int) ≤ 10 ^ p := Int.le_of_lt (Int.pow_pos (by decide))
  have hjK : (j : Int) * 10 ^ p ≤ (j + 1 : Nat) * 10 ^ p := Int.mul_le_mul_of_nonneg_right (by omega) hK
  have hjK2 : ((j + 1 : Nat) : Int) * 10 ^ p = j * 10 ^ p + 10 ^ p := by rw [Int.natCast_add, Int.add_mul]; simp
  have weak : ∀ st : Int × Int, (st = (-1000000000000000, 0) ∨ (-(1000000 * ((p : Int) + 1)) ≤ st.1 ∧ st.1 ≤ 1000000 * ((p : Int) + 1) ∧ 1 ≤ st.2 ∧ st.2 ≤ j * 10 ^ p)) → (st = (-1000000000000000, 0) ∨ (-(1000000 * ((p : Int) + 1)) ≤ st.1 ∧ st.1 ≤ 1000000 * ((p : Int) + 1) ∧ 1 ≤ st.2 ∧ st.2 ≤ (j + 1 : Nat) * 10 ^ p)) := fun st h => h.imp id fun ⟨a, b, c, d⟩ => ⟨a, b, c, by omega⟩
  by_cases hbit : bitN s j = 1
  · obtain ⟨q1, q2, q3⟩ := hb.one hbit
    have hpos : 0 < 2 ^ j := Nat.pow_pos (by decide)
    have hlt : s - 2 ^ j < s := by omega
    have hge : (tabP a s)[s - 2 ^ j]? = some ((tabP a s)[s - 2 ^ j]'(by rw [tabP_len]; exact hlt)) := List.getElem?_eq_getElem _
    generalize (tabP a s)[s - 2 ^ j]'(by rw [tabP_len]; exact hlt) = e at hge
    have he := ht _ e hlt hge
    rw [show popN (s - 2 ^ j) = p by omega] at he
    have hrow : a.length - popN s < a.length := by omega
    refine ⟨?_, fun _ => ⟨e, hge, he, hrow⟩⟩
    unfold stepP
    rw [hbit, hge]
    simp only [beq_self_eq_true, cond_true, Option.getD_some]
    have hv := val_cases (ent_val hm hrow (j := j) hj).2.2
    generalize entA a (a.length - popN s) j = v at hv
    cases hskip : ((v == (-1000000000000000)) || (e.1 == (-1000000000000000))) with
    | true => exact weak _ hst
    | false =>
      simp only [Bool.or_eq_false_iff, beq_eq_false_iff_ne, ne_eq] at hskip
      rcases he with rfl | ⟨e1, e2, e3, e4⟩
      · exact absurd rfl hskip.2
      have hv : -1000000 ≤ v ∧ v ≤ 1000000 := by omega
      simp only [cond_false]
      cases h1 : decide (st.1 < v + e.1) with
      | true => right; simp only [cond_true]; refine ⟨by omega, by omega, e3, ?_⟩; have : (0 : Int) ≤ j * 10 ^ p := Int.mul_nonneg (by omega) hK; omega
      | false =>
        simp only [cond_false]
        cases h2 : (v + e.1 == st.1) with
        | false => exact weak _ hst
        | true =>
          have h2 : v + e.1 = st.1 := by simpa using h2
          rcases hst with rfl | ⟨s1, s2, s3, s4⟩
          · exfalso; simp only at h2; omega
          · right; simp only [cond_true]; exact ⟨s1, s2, by omega, by omega⟩
  · refine ⟨?_, fun h => absurd h hbit⟩
    unfold stepP
    rw [show (bitN s j == 1) = false by simpa using hbit]
    exact weak _ hst
theorem cellP_inv {a : List (List Int)} {s p : Nat} (hm : Mat a a.length) (hs : s < 2 ^ a.length) (h0 : s ≠ 0) (ht : TabOK a s) (hp : popN s = p + 1) :
    ∀ m, m ≤ a.length → (cellP a (tabP a s) s m = (-1000000000000000, 0) ∨ (-(1000000 * ((p : Int) + 1)) ≤ (cellP a (tabP a s) s m).1 ∧ (cellP a (tabP a s) s m).1 ≤ 1000000 * ((p : Int) + 1) ∧ 1 ≤ (cellP a (tabP a s) s m).2 ∧ (cellP a (tabP a s) s m).2 ≤ m * 10 ^ p))
  | 0, _ => .inl rfl
  | m + 1, h => by
    have e : cellP a (tabP a s) s (m + 1) = stepP a (tabP a s) s (cellP a (tabP a s) s m) m := by simp [cellP, List.range_succ]
    rw [e]
    exact (stepP_bd hm hs (by omega) h0 ht hp (cellP_inv hm hs h0 ht hp m (by omega))).1
theorem tabOK {a : List (List Int)} (hm : Mat a a.length) : ∀ k, k ≤ 2 ^ a.length → TabOK a k
  | 0, _ => fun s e h => by omega
  | k + 1, hk => by
    have ih := tabOK hm k (by omega)
    have hrows := hm.rows
    obtain ⟨_, _, hN, _, _⟩ := pow_ok (n := a.length) (by omega)
    intro s e hs he
    by_cases hsk : s < k
    · rw [tabP, List.getElem?_append_left (by rw [tabP_len]; exact hsk)] at he
      exact ih s e hsk he
    · obtain rfl : s = k := by omega
      rw [tabP, List.getElem?_append_right (by rw [tabP_len]; omega), tabP_len, Nat.sub_self] at he
      simp only [List.getElem?_cons_zero, Option.some.injEq] at he
      subst he
      by_cases h0 : s = 0
      · subst h0
        rw [show popN 0 = 0 by decide]; exact .inr ⟨by simp, by simp, by simp, by simp⟩
      · rw [show (s == 0) = false by simpa using h0]
        obtain ⟨_, hp10, hp⟩ := pop_ok (s := s) (by omega)
        obtain ⟨p, hp⟩ : ∃ p, popN s = p + 1 := ⟨popN s - 1, by omega⟩
        rw [hp]
        have := cellP_inv hm (by omega) h0 ih hp a.length (Nat.le_refl _)
        rcases this with h | ⟨h1, h2, h3, h4⟩
        · exact .inl h
        · refine .inr ⟨by simp only [cond_false]; omega, by simp only [cond_false]; omega, h3, ?_⟩
          simp only [cond_false]
          have hK : (0 : Int) ≤ 10 ^ p := Int.le_of_lt (Int.pow_pos (by decide))
          have : (a.length : Int) * 10 ^ p ≤ 10 * 10 ^ p := Int.mul_le_mul_of_nonneg_right (by omega) hK
          rw [Int.pow_succ]; omega

def popTo (s m : Nat) : Nat := (List.range m).foldl (fun t j => t + bitN s j) 0
theorem popTo_succ (s m : Nat) : popTo s (m + 1) = popTo s m + bitN s m := by simp [popTo, List.range_succ]
theorem bitN_le (s j : Nat) : bitN s j ≤ 1 := by unfold bitN; omega
theorem bitN_big {s n j : Nat} (h : s < 2 ^ n) (hj : n ≤ j) : bitN s j = 0 := by
  have : 2 ^ n ≤ 2 ^ j := Nat.pow_le_pow_right (by decide) hj
  unfold bitN
  rw [Nat.div_eq_of_lt (by omega)]
theorem popTo_le (s : Nat) : ∀ m, popTo s m ≤ m
  | 0 => Nat.le_refl _
  | m + 1 => by have := popTo_le s m; have := bitN_le s m; rw [popTo_succ]; omega
theorem popTo_n {s n : Nat} (h : s < 2 ^ n) (hn : n ≤ 10) : popTo s n = popN s := by
  have : ∀ d, n + d ≤ 10 → popTo s (n + d) = popTo s n := by
    intro d
    induction d with
    | zero => intro _; rfl
    | succ d ih => intro h'; rw [← Nat.add_assoc, popTo_succ, ih (by omega), bitN_big h (by omega), Nat.add_zero]
  rw [← this (10 - n) (by omega), show n + (10 - n) = 10 by omega]; rfl
theorem ten_pow {p : Nat} (h : p ≤ 9) : (10 : Int) ^ p ≤ 1000000000 := by
  have : ∀ q : Fin 10, (10 : Int) ^ q.val ≤ 1000000000 := by decide
  exact this ⟨p, by omega⟩
theorem timesI_val {v w : Int} (hv : v = -1000000000000000 ∨ (-1000000 ≤ v ∧ v ≤ 1000000)) (hw : w = -1000000000000000 ∨ (-10000000 ≤ w ∧ w ≤ 10000000)) :
    timesI v w = (bif (v == (-1000000000000000)) || (w == (-1000000000000000)) then -1000000000000000 else v + w) ∧ ((timesI v w == (-1000000000000000)) = ((v == (-1000000000000000)) || (w == (-1000000000000000)))) := by
  unfold timesI
  cases h : (v == (-1000000000000000)) || (w == (-1000000000000000)) with
  | true => simp
  | false =>
    simp only [Bool.or_eq_false_iff, beq_eq_false_iff_ne, ne_eq] at h
    simp only [cond_false]
    have e : w64 (v + w) = v + w := w64_eq _ (by omega)
    rw [e]
    exact ⟨rfl, by simp; omega⟩
theorem EntP.weight {p : Nat} {e : Int × Int} (h : EntP p e) (hp : p ≤ 9) : e.1 = -1000000000000000 ∨ (-10000000 ≤ e.1 ∧ e.1 ≤ 10000000) := by
  rcases h with rfl | ⟨h1, h2, _⟩
  · exact .inl rfl
  · exact .inr ⟨by omega, by omega⟩
/-- the inner loop of the specification: the state after m columns -/
theorem spec_cell {a : List (List Int)} {s p m : Nat} {st : Int × Int} (hm : Mat a a.length) (hs : s < 2 ^ a.length) (h0 : s ≠ 0) (ht : TabOK a s) (hp : popN s = p + 1) (hj : m < a.length)
    (hst : st = cellP a (tabP a s) s m) :
    M.Conv (M.bind (M.bind (M.guard (decide (0 ≤ (IntKind.u64.wrap ((m : Int)))))) (fun _ => M.ite ((ibit .and .i64 (ishr .i64 (s : Int) (IntKind.u64.wrap ((m : Int)))) 1) == 0) (M.ret (st.1, st.2)) (M.bind (M.guard (decide (0 ≤ (IntKind.u64.wrap ((m : Int)))))) (fun _ => M.bind (M.idx a (w64 ((a.length : Int) - (popN s : Int)))) (fun x4 => M.bind (M.idx x4 (m : Int)) (fun x5 => M.bind (M.idx ((tabP a s).map Prod.fst) (w64 ((s : Int) - (ishl .i64 1 (IntKind.u64.wrap ((m : Int))))))) (fun x6 => M.bind (spec_l01Times x5 x6) (fun x7 => M.ite (x7 == (-1000000000000000)) (M.ret (st.1, st.2)) (M.bind (M.ite (decide (st.1 < x7)) (M.bind (M.idx ((tabP a s).map Prod.snd) (w64 ((s : Int) - (ishl .i64 1 (IntKind.u64.wrap ((m : Int))))))) (fun x8 => M.ret (x7, x8))) (M.ite (x7 == st.1) (M.bind (M.idx ((tabP a s).map Prod.snd) (w64 ((s : Int) - (ishl .i64 1 (IntKind.u64.wrap ((m : Int))))))) (fun x9 => M.ret (st.1, (w64 (st.2 + x9))))) (M.ret (st.1, st.2)))) (fun (s5 : Int × Int) => M.ret (s5.1, s5.2))))))))))) (fun (s4 : Int × Int) => M.ret (.inl (s4.1, s4.2)) : Int × Int → M ((Int × Int) ⊕ (Int × Int)))) (.inl (cellP a (tabP a s) s (m + 1))) := by
  have hrows := hm.rows
  obtain ⟨_, _, hN, _, _⟩ := pow_ok (n := a.length) (by omega)
  have hb := bit_ok (s := s) (j := m) (by omega) (by omega)
  have hp9 : p ≤ 9 := by have := (pop_ok (s := s) (by omega)).2.1; omega
  have hinv := cellP_inv hm hs h0 ht hp m (by omega)
  rw [← hst] at hinv
  obtain ⟨hbd, hent⟩ := stepP_bd hm hs hj h0 ht hp hinv
  have e1 : cellP a (tabP a s) s (m + 1) = stepP a (tabP a s) s st m := by rw [hst]; simp [cellP, List.range_succ]
  rw [e1]
  refine M.Conv_bind (x := stepP a (tabP a s) s st m) ?_ (M.Conv_ret _)
  rw [hb.wrapU]
  refine M.Conv_bind (M.Conv_guard (by simp)) ?_
  rw [hb.and]
  refine M.Conv_ite (fun t => ?_) (fun t => ?_)
  · have t : bitN s m = 0 := by simpa using t
    refine (M.Conv_ret _).of ?_
    simp [stepP, t]
  · have hbit : bitN s m = 1 := Decidable.byContradiction fun c => by have := hb.zero c; simp [this] at t
    obtain ⟨q1, q2, q3⟩ := hb.one hbit
    obtain ⟨e, hge, he, hrow⟩ := hent hbit
    obtain ⟨c1, c2, c3⟩ := ent_val hm hrow hj
    have hpn := popTo_le s 10
    have hw1 : w64 ((a.length : Int) - (popN s : Int)) = ((a.length - popN s : Nat) : Int) := by
      have : popN s ≤ a.length := by have := popTo_le s a.length; rw [popTo_n hs (by omega)] at this; exact this
      rw [w64_eq _ (by omega)]; omega
    have hw2 : ∀ W : Nat, W ≤ s → w64 ((s : Int) - (W : Int)) = ((s - W : Nat) : Int) := fun W hW => by rw [w64_eq _ (by omega)]; omega
    rw [hb.shl, hw1, hw2 _ q1]
    refine M.Conv_bind (M.Conv_guard (by simp)) (M.Conv_bind c1 (M.Conv_bind c2 (M.Conv_bind (M.Conv_idx (x := e.1) (by rw [List.getElem?_map, hge]; rfl)) (M.Conv_bind (spec_l01Times_ok _ _) ?_))))
    have hv := val_cases c3
    generalize hvv : entA a (a.length - popN s) m = v at *
    obtain ⟨t1, t2⟩ := timesI_val hv (he.weight hp9)
    have es : stepP a (tabP a s) s st m = (bif (v == (-1000000000000000)) || (e.1 == (-1000000000000000)) then st
      else bif decide (st.1 < v + e.1) then (v + e.1, e.2) else bif (v + e.1) == st.1 then (st.1, st.2 + e.2) else st) := by
      unfold stepP; rw [hbit, hge, hvv]; rfl
    rw [es] at hbd ⊢
    rw [t2]
    cases hskip : ((v == (-1000000000000000)) || (e.1 == (-1000000000000000))) with
    | true => exact M.Conv_ite (fun _ => M.Conv_ret _) (fun t => by simp at t)
    | false =>
      rw [hskip] at t1 hbd
      simp only [cond_false] at t1 hbd ⊢
      rw [t1]
      refine M.Conv_ite (fun t => by simp at t) (fun _ => ?_)
      have hsnd : M.Conv (M.idx ((tabP a s).map Prod.snd) ((s - 2 ^ m : Nat) : Int)) e.2 := M.Conv_idx (by rw [List.getElem?_map, hge]; rfl)
      refine M.Conv_bind (M.Conv_ite2 (fun _ => M.Conv_bind hsnd (M.Conv_ret _)) fun h1 => M.Conv_ite2 (s := st) (fun h2 => M.Conv_bind hsnd ((M.Conv_ret _).of (r' := (st.1, st.2 + e.2)) ?_)) (fun _ => M.Conv_ret _)) (M.Conv_ret _)
      rw [h1, h2] at hbd
      simp only [cond_false, cond_true] at hbd
      have hK := ten_pow hp9
      have hK0 : (0 : Int) ≤ 10 ^ p := Int.le_of_lt (Int.pow_pos (by decide))
      have : ((m + 1 : Nat) : Int) * 10 ^ p ≤ 10 * 10 ^ p := Int.mul_le_mul_of_nonneg_right (by omega) hK0
      rcases hbd with hbd | hbd
      · have h2 : v + e.1 = st.1 := by simpa using h2
        have h3 := congrArg Prod.fst hbd
        simp only at h3
        simp only [Bool.or_eq_false_iff, beq_eq_false_iff_ne, ne_eq] at hskip
        have := he.weight hp9
        omega
      · rw [w64_eq _ (by omega)]
theorem conv_up {σ ρ : Type} {f : σ → M (σ ⊕ ρ)} {r : ρ} (st : Nat → σ) {n k0 : Nat} (hk : k0 ≤ n) (h : ∀ k, k0 ≤ k → k < n → M.Conv (f (st k)) (.inl (st (k + 1)))) (hs : M.Conv (f (st n)) (.inr r)) : M.Conv (M.loop f (st k0)) r := by
  have H : ∀ (d k : Nat), k0 ≤ k → k + d = n → ConvL f (st k) r := by
    intro d
    induction d with
    | zero => intro k _ e; obtain rfl : k = n := by omega
              exact ConvL.stop hs
    | succ d ih => intro k h1 e; exact ConvL.step (h k h1 (by omega)) (ih (k + 1) (by omega) (by omega))
  exact (H (n - k0) k0 (Nat.le_refl _) (by omega)).conv
theorem spec_l10Best_ok {a : List (List Int)} (hm : Mat a a.length) : M.Conv (spec_l10Best a) ((tabP a (2 ^ a.length)).map Prod.fst, (tabP a (2 ^ a.length)).map Prod.snd) := by
  have hrows := hm.rows
  obtain ⟨hsh, _, hN, hN1, hwr⟩ := pow_ok (n := a.length) (by omega)
  unfold spec_l10Best
  refine M.Conv_bind (x := ((tabP a (2 ^ a.length)).map Prod.fst, (tabP a (2 ^ a.length)).map Prod.snd, ((2 ^ a.length : Nat) : Int))) ?_ (M.Conv_ret _)
  rw [hsh]
  refine conv_up (fun k => (((tabP a k).map Prod.fst, (tabP a k).map Prod.snd, (k : Int)) : (List Int) × (List Int) × Int)) (k0 := 1) hN1 (fun k h1 hk2 => ?_) ?_
  · refine M.Conv_bind (M.Conv_guard (by simpa using hwr)) (M.Conv_ite (fun _ => ?_) (fun t => ?_))
    · have ht := tabOK hm k (by omega)
      obtain ⟨_, hp10, hp⟩ := pop_ok (s := k) (by omega)
      obtain ⟨p, hp⟩ : ∃ p, popN k = p + 1 := ⟨popN k - 1, by omega⟩
      refine M.Conv_bind (Conv_forV (fun m => (popTo k m : Int)) (by omega) fun m hj => ?_) ?_
      · have hb := bit_ok (s := k) (j := m) (by omega) (by omega)
        refine M.Conv_bind (M.Conv_guard (by rw [hb.wrapU]; simp)) ((M.Conv_ret _).of ?_)
        rw [hb.andU, popTo_succ, w64_eq _ (by have := popTo_le k m; have := bitN_le k m; omega), Int.natCast_add]
      · rw [popTo_n hk2 (by omega)]
        refine M.Conv_bind (Conv_forV (fun m => cellP a (tabP a k) k m) (by omega) fun m hj => spec_cell hm hk2 (by omega) ht hp hj rfl) ?_
        refine M.Conv_bind (M.Conv_app (by simp [tabP_len]; omega)) (M.Conv_bind (M.Conv_app (by simp [tabP_len]; omega)) ((M.Conv_ret _).of ?_))
        have e : (k == 0) = false := by simp; omega
        rw [tabP, e, w64_eq _ (by simp only; omega)]
        simp
    · have := of_decide_eq_false t
      simp only at this
      omega
  · refine M.Conv_bind (M.Conv_guard (by simpa using hwr)) (M.Conv_ite (fun t => ?_) fun _ => M.Conv_ret _)
    have := of_decide_eq_true t
    simp only at this
    omega
theorem conv_up0 {σ ρ : Type} {f : σ → M (σ ⊕ ρ)} {r : ρ} {s0 : σ} (st : Nat → σ) {n k0 : Nat} (e : s0 = st k0) (hk : k0 ≤ n) (h : ∀ k, k0 ≤ k → k < n → M.Conv (f (st k)) (.inl (st (k + 1)))) (hs : M.Conv (f (st n)) (.inr r)) : M.Conv (M.loop f s0) r := by
  subst e; exact conv_up st hk h hs

def mkP (e : Int × Int) : TPermanent := ⟨e.1, e.2⟩
/-- the program's table, filled from the top down to k entries -/
def lstP (a : List (List Int)) (k : Nat) : List TPermanent := (List.range (2 ^ a.length)).map fun s => bif decide (2 ^ a.length ≤ s + k) then mkP (((tabP a (2 ^ a.length))[2 ^ a.length - 1 - s]?).getD (0, 0)) else ⟨0, 0⟩
theorem lstP_len (a : List (List Int)) (k : Nat) : (lstP a k).length = 2 ^ a.length := by simp [lstP]
theorem lstP_get {a : List (List Int)} {k s : Nat} (h : s < 2 ^ a.length) : (lstP a k)[s]? = some (bif decide (2 ^ a.length ≤ s + k) then mkP (((tabP a (2 ^ a.length))[2 ^ a.length - 1 - s]?).getD (0, 0)) else ⟨0, 0⟩) := by
  simp [lstP, List.getElem?_map, List.getElem?_range h]
theorem lstP_set {a : List (List Int)} {k : Nat} {x : TPermanent} (h : k < 2 ^ a.length) (hx : x = mkP (((tabP a (2 ^ a.length))[k]?).getD (0, 0))) : (lstP a k).set (2 ^ a.length - 1 - k) x = lstP a (k + 1) := by
  apply List.ext_getElem?
  intro i
  by_cases hi : i < 2 ^ a.length
  · rw [List.getElem?_set, lstP_get hi, lstP_get hi, lstP_len]
    by_cases e : 2 ^ a.length - 1 - k = i
    · rw [if_pos e, if_pos (by omega), show decide (2 ^ a.length ≤ i + (k + 1)) = true by simp; omega, hx, show 2 ^ a.length - 1 - i = k by omega]; rfl
    · rw [if_neg e]
      congr 2
      rw [Bool.eq_iff_iff]; simp; omega
  · rw [List.getElem?_eq_none (by simp [lstP_len]; omega), List.getElem?_eq_none (by simp [lstP_len]; omega)]
theorem tab_last {a : List (List Int)} {k : Nat} (h : k < 2 ^ a.length) : ((tabP a (2 ^ a.length))[k]?).getD (0, 0) = bif k == 0 then (0, 1) else cellP a (tabP a k) k a.length := by
  rw [tabP_get (a := a) (k := k + 1) (m := 2 ^ a.length) (s := k) (by omega) (by omega), tabP, List.getElem?_append_right (by rw [tabP_len]; omega), tabP_len, Nat.sub_self]
  rfl
theorem impl_cell {a : List (List Int)} {k p m : Nat} {row : List Int} {st : Int × Int} (hm : Mat a a.length) (hs : k < 2 ^ a.length) (h0 : k ≠ 0) (ht : TabOK a k) (hp : popN k = p + 1) (hj : m < a.length)
    (hst : st = cellP a (tabP a k) k m) (hrow : a[a.length - popN k]? = some row) :
    M.Conv (M.bind (M.bind (M.idx row (m : Int)) (fun x6 => M.bind (M.guard (decide (0 ≤ (m : Int)))) (fun _ => M.bind (M.idx (lstP a k) (ibit .or .i64 ((2 ^ a.length - 1 - k : Nat) : Int) (ishl .i64 1 (m : Int)))) (fun x7 => M.bind (M.guard (decide (0 ≤ (m : Int)))) (fun _ => M.ite ((((ibit .and .i64 (ishr .i64 ((2 ^ a.length - 1 - k : Nat) : Int) (m : Int)) 1) == 1) || (x6 == (-1000000000000000))) || (x7.weight == (-1000000000000000))) (M.ret (mkP st)) (M.bind (M.ite (((mkP st).count == 0) || (decide ((mkP st).weight < (w64 (x6 + x7.weight))))) (M.ret (⟨(w64 (x6 + x7.weight)), x7.count⟩ : TPermanent)) (M.ite ((w64 (x6 + x7.weight)) == (mkP st).weight) (M.ret (⟨(mkP st).weight, (w64 ((mkP st).count + x7.count))⟩ : TPermanent)) (M.ret (mkP st)))) (fun (s5 : TPermanent) => M.ret s5))))))) (fun (s4 : TPermanent) => M.ret (.inl s4) : TPermanent → M (TPermanent ⊕ TPermanent))) (.inl (mkP (cellP a (tabP a k) k (m + 1)))) := by
  have hrows := hm.rows
  obtain ⟨_, _, hN, _, _⟩ := pow_ok (n := a.length) (by omega)
  have hb := bit_ok (s := k) (j := m) (by omega) (by omega)
  have hb' := bit_ok (s := 2 ^ a.length - 1 - k) (j := m) (by omega) (by omega)
  have hc := (compl_ok (n := a.length) (s := k) (by omega) hs).2 m hj
  have hp9 : p ≤ 9 := by have := (pop_ok (s := k) (by omega)).2.1; omega
  have hinv := cellP_inv hm hs h0 ht hp m (by omega)
  rw [← hst] at hinv
  obtain ⟨hbd, hent⟩ := stepP_bd hm hs hj h0 ht hp hinv
  have e1 : cellP a (tabP a k) k (m + 1) = stepP a (tabP a k) k st m := by rw [hst]; simp [cellP, List.range_succ]
  rw [e1]
  refine M.Conv_bind (x := mkP (stepP a (tabP a k) k st m)) ?_ (M.Conv_ret _)
  obtain ⟨c2, c3⟩ := hm.get hrow hj
  have hve : entA a (a.length - popN k) m = (row[m]?).getD 0 := by simp only [entA, hrow, Option.getD_some]
  rw [hb'.and, hb'.or]
  refine M.Conv_bind c2 (M.Conv_bind (M.Conv_guard (by simp)) ?_)
  by_cases hbit : bitN k m = 1
  · obtain ⟨q1, q2, q3⟩ := hb.one hbit
    obtain ⟨e, hge, he, hrow'⟩ := hent hbit
    have hz : bitN (2 ^ a.length - 1 - k) m = 0 := by omega
    have hpos : 0 < 2 ^ m := Nat.pow_pos (by decide)
    have hlt : 2 ^ a.length - 1 - k + 2 ^ m < 2 ^ a.length := by omega
    have hg := lstP_get (a := a) (k := k) hlt
    rw [show decide (2 ^ a.length ≤ 2 ^ a.length - 1 - k + 2 ^ m + k) = true by simp; omega, show 2 ^ a.length - 1 - (2 ^ a.length - 1 - k + 2 ^ m) = k - 2 ^ m by omega, tabP_get (a := a) (k := k) (m := 2 ^ a.length) (s := k - 2 ^ m) (by omega) (by omega), hge] at hg
    rw [hz]
    refine M.Conv_bind (M.Conv_idx hg) (M.Conv_bind (M.Conv_guard (by simp)) ?_)
    have hv := val_cases c3
    rw [← hve] at hv ⊢
    generalize hvv : entA a (a.length - popN k) m = v at *
    have es : stepP a (tabP a k) k st m = (bif (v == (-1000000000000000)) || (e.1 == (-1000000000000000)) then st
      else bif decide (st.1 < v + e.1) then (v + e.1, e.2) else bif (v + e.1) == st.1 then (st.1, st.2 + e.2) else st) := by
      unfold stepP; rw [hbit, hge, hvv]; rfl
    rw [es] at hbd ⊢
    show M.Conv (M.ite ((((0 : Nat) : Int) == 1 || (v == (-1000000000000000))) || (e.1 == (-1000000000000000))) _ _) _
    rw [show (((0 : Nat) : Int) == 1) = false by decide, Bool.false_or]
    cases hskip : ((v == (-1000000000000000)) || (e.1 == (-1000000000000000))) with
    | true => exact M.Conv_ite (fun _ => M.Conv_ret _) (fun t => by simp at t)
    | false =>
      rw [hskip] at hbd
      simp only [Bool.or_eq_false_iff, beq_eq_false_iff_ne, ne_eq] at hskip
      have hw := he.weight hp9
      have hwv : w64 (v + e.1) = v + e.1 := w64_eq _ (by omega)
      have hcz : (((mkP st).count == 0) || (decide ((mkP st).weight < v + e.1))) = decide (st.1 < v + e.1) := by
        rcases hinv with rfl | ⟨s1, s2, s3, s4⟩
        · simp [mkP]; omega
        · have : ((mkP st).count == 0) = false := by simp only [mkP, beq_eq_false_iff_ne]; omega
          rw [this, Bool.false_or]; rfl
      refine M.Conv_ite (fun t => by simp at t) (fun _ => ?_)
      show M.Conv (M.bind (M.ite (((mkP st).count == 0) || (decide ((mkP st).weight < (w64 (v + e.1))))) (M.ret (⟨(w64 (v + e.1)), e.2⟩ : TPermanent)) (M.ite ((w64 (v + e.1)) == (mkP st).weight) (M.ret (⟨(mkP st).weight, (w64 ((mkP st).count + e.2))⟩ : TPermanent)) (M.ret (mkP st)))) _) _
      simp only [cond_false] at hbd ⊢
      rw [hwv, hcz]
      refine M.Conv_bind (x := mkP (bif decide (st.1 < v + e.1) then (v + e.1, e.2) else bif (v + e.1) == st.1 then (st.1, st.2 + e.2) else st)) ?_ (M.Conv_ret _)
      cases h1 : decide (st.1 < v + e.1) with
      | true => exact M.Conv_ite (fun _ => M.Conv_ret _) (fun t => by simp at t)
      | false =>
        refine M.Conv_ite (fun t => by simp at t) (fun _ => ?_)
        cases h2 : ((v + e.1) == st.1) with
        | false => exact M.Conv_ite (fun t => by rw [show (mkP st).weight = st.1 from rfl, h2] at t; simp at t) (fun _ => M.Conv_ret _)
        | true =>
          refine M.Conv_ite (fun _ => (M.Conv_ret _).of ?_) (fun t => by rw [show (mkP st).weight = st.1 from rfl, h2] at t; simp at t)
          rw [h1, h2] at hbd
          simp only [cond_false, cond_true] at hbd
          have hK := ten_pow hp9
          have hK0 : (0 : Int) ≤ 10 ^ p := Int.le_of_lt (Int.pow_pos (by decide))
          have : ((m + 1 : Nat) : Int) * 10 ^ p ≤ 10 * 10 ^ p := Int.mul_le_mul_of_nonneg_right (by omega) hK0
          rcases hbd with hbd | hbd
          · have h2 : v + e.1 = st.1 := by simpa using h2
            have h3 := congrArg Prod.fst hbd
            simp only at h3
            omega
          · simp only [mkP, cond_false, cond_true]
            rw [w64_eq _ (by omega)]
  · have hz0 := hb.zero hbit
    have hz : bitN (2 ^ a.length - 1 - k) m = 1 := by omega
    rw [hz]
    have hg := lstP_get (a := a) (k := k) (s := 2 ^ a.length - 1 - k) (by omega)
    refine M.Conv_bind (M.Conv_idx hg) (M.Conv_bind (M.Conv_guard (by simp)) (M.Conv_ite (fun _ => (M.Conv_ret _).of ?_) (fun t => by simp at t)))
    unfold stepP
    rw [hz0]; rfl
theorem impl_permanents_ok {a : List (List Int)} (hm : Mat a a.length) : M.Conv (impl_permanents a) (lstP a (2 ^ a.length)) := by
  have hrows := hm.rows
  obtain ⟨_, hsh, hN, hN1, hwr⟩ := pow_ok (n := a.length) (by omega)
  unfold impl_permanents
  rw [hsh]
  refine M.Conv_bind (M.Conv_guard (by simp)) (M.Conv_bind ((M.Conv_make (by omega) (by omega)).of (r' := lstP a 0) ?_) (M.Conv_bind (M.Conv_guard (by simp)) (M.Conv_bind (x := (lstP a (2 ^ a.length), -1)) ?_ (M.Conv_ret _))))
  · apply List.ext_getElem?
    intro i
    by_cases hi : i < 2 ^ a.length
    · rw [lstP_get hi, show decide (2 ^ a.length ≤ i + 0) = false by simp; omega, List.getElem?_replicate, if_pos (by omega)]; rfl
    · rw [List.getElem?_eq_none (by rw [List.length_replicate, Int.toNat_natCast]; omega), List.getElem?_eq_none (by simp [lstP_len]; omega)]
  · have hw0 : w64 (((2 ^ a.length : Nat) : Int) - 1) = ((2 ^ a.length : Nat) : Int) - 1 := w64_eq _ (by omega)
    rw [hw0]
    refine conv_up0 (fun k => (lstP a k, ((2 ^ a.length : Nat) : Int) - 1 - (k : Int))) (n := 2 ^ a.length) (k0 := 0) (by simp) (by omega) (fun k _ hk => ?_) ?_
    · have es : ((2 ^ a.length : Nat) : Int) - 1 - (k : Int) = ((2 ^ a.length - 1 - k : Nat) : Int) := by omega
      simp only [es]
      refine M.Conv_ite (fun _ => M.Conv_bind (x := lstP a (k + 1)) ?_ ((M.Conv_ret _).of ?_)) (fun t => by have := of_decide_eq_false t; omega)
      · have hset : ∀ x, x = mkP (((tabP a (2 ^ a.length))[k]?).getD (0, 0)) → M.Conv (M.upd (lstP a k) ((2 ^ a.length - 1 - k : Nat) : Int) x) (lstP a (k + 1)) := fun x hx => (M.Conv_upd (by rw [lstP_len]; omega)).of (lstP_set hk hx)
        have hrd := lstP_get (a := a) (k := k) (s := 2 ^ a.length - 1 - k) (by omega)
        rw [tab_last hk] at hset
        by_cases h0 : k = 0
        · subst h0
          refine M.Conv_ite (fun _ => ?_) (fun t => absurd (by omega) (beq_eq_false_iff_ne.1 t))
          exact M.Conv_bind (M.Conv_idx hrd) (M.Conv_bind (hset _ rfl) (M.Conv_ret _))
        · refine M.Conv_ite (fun t => by have := eq_of_beq t; omega) (fun _ => ?_)
          have ht := tabOK hm k (by omega)
          obtain ⟨_, hp10, hp⟩ := pop_ok (s := k) (by omega)
          obtain ⟨p, hp⟩ : ∃ p, popN k = p + 1 := ⟨popN k - 1, by omega⟩
          have hcp := (compl_ok (n := a.length) (s := k) (by omega) hk).1
          have hr : a[a.length - popN k]? = some (a[a.length - popN k]'(by omega)) := List.getElem?_eq_getElem _
          generalize (a[a.length - popN k]'(by omega)) = row at hr
          have hl := (hm.row row (List.mem_of_getElem? hr)).1
          refine M.Conv_bind (pop_ok (by omega)).1 (M.Conv_bind (x := row) ?_ ?_)
          · rw [show popN (2 ^ a.length - 1 - k) = a.length - popN k by omega]; exact get_row hr
          · rw [hl]
            refine M.Conv_bind (Conv_forV (fun m => mkP (cellP a (tabP a k) k m)) (by omega) fun m hj => impl_cell hm hk h0 ht hp hj rfl hr) ?_
            exact M.Conv_bind (M.Conv_idx hrd) (M.Conv_bind (hset _ (by rw [show (k == 0) = false by simpa using h0]; rfl)) (M.Conv_ret _))
      · rw [w64_eq _ (by omega)]
        simp only [Sum.inl.injEq, Prod.mk.injEq, true_and]; omega
    · refine M.Conv_ite (fun t => ?_) fun _ => (M.Conv_ret _).of ?_
      · have := of_decide_eq_true t
        simp only at this
        omega
      · simp only [Sum.inr.injEq, Prod.mk.injEq, true_and]; omega

theorem same_sq {a : List (List Int)} (sa : smII a) {α : Type} {m m' : M α} {x : α} {P : α → Prop} (hx : P x) (h : sqB a = true → Two m m' P) :
    Two (M.bind (spec_l02Square a) (fun x1 => M.ite (!x1) (M.ret x) m)) (M.bind (impl_isSquare a) (fun x1 => M.ite (!x1) (M.ret x) m')) P := by
  refine Two.bindC (spec_l02Square_ok sa) (impl_isSquare_ok sa) (Two.ite (fun _ => Two.ret _ hx) (fun t => h (by simpa using t)))
def topE (a : List (List Int)) : Int × Int := ((tabP a (2 ^ a.length))[2 ^ a.length - 1]?).getD (0, 0)
theorem top_reads {a : List (List Int)} (hm : Mat a a.length) :
    M.Conv (M.idx ((tabP a (2 ^ a.length)).map Prod.fst) (w64 ((((tabP a (2 ^ a.length)).map Prod.fst).length : Int) - 1))) (topE a).1 ∧
    M.Conv (M.idx ((tabP a (2 ^ a.length)).map Prod.snd) (w64 ((((tabP a (2 ^ a.length)).map Prod.snd).length : Int) - 1))) (topE a).2 ∧
    M.Conv (M.idx (lstP a (2 ^ a.length)) 0) (mkP (topE a)) ∧ EntP a.length (topE a) := by
  have hrows := hm.rows
  obtain ⟨_, _, hN, hN1, hwr⟩ := pow_ok (n := a.length) (by omega)
  have hl : ((2 ^ a.length - 1 : Nat) : Int) = ((2 ^ a.length : Nat) : Int) - 1 := by omega
  have hg : (tabP a (2 ^ a.length))[2 ^ a.length - 1]? = some ((tabP a (2 ^ a.length))[2 ^ a.length - 1]'(by rw [tabP_len]; omega)) := List.getElem?_eq_getElem _
  generalize ((tabP a (2 ^ a.length))[2 ^ a.length - 1]'(by rw [tabP_len]; omega)) = e at hg
  have he : topE a = e := by unfold topE; rw [hg]; rfl
  rw [he]
  refine ⟨?_, ?_, ?_, ?_⟩
  · rw [List.length_map, tabP_len, w64_eq _ (by omega), ← hl]; exact M.Conv_idx (by rw [List.getElem?_map, hg]; rfl)
  · rw [List.length_map, tabP_len, w64_eq _ (by omega), ← hl]; exact M.Conv_idx (by rw [List.getElem?_map, hg]; rfl)
  · have := lstP_get (a := a) (k := 2 ^ a.length) (s := 0) (by omega)
    rw [show decide (2 ^ a.length ≤ 0 + 2 ^ a.length) = true by simp, Nat.sub_zero, hg] at this
    exact M.Conv_idx (i := 0) this
  · have := tabOK hm _ (Nat.le_refl _) _ _ (by omega) hg
    have hc := (compl_ok (n := a.length) (s := 0) (by omega) (by omega)).1
    rw [show popN 0 = 0 by decide, Nat.sub_zero, Nat.add_zero] at hc
    rwa [hc] at this
def tab {α : Type} (n : Nat) (h : Nat → α) : List α := (List.range n).map h
theorem tab_len {α : Type} (n : Nat) (h : Nat → α) : (tab n h).length = n := by simp [tab]
theorem tab_get {α : Type} {n i : Nat} {h : Nat → α} (hi : i < n) : (tab n h)[i]? = some (h i) := by simp [tab, List.getElem?_range hi]
theorem tab_none {α : Type} {n i : Nat} {h : Nat → α} (hi : n ≤ i) : (tab n h)[i]? = none := List.getElem?_eq_none (by rw [tab_len]; exact hi)
theorem tab_ext {α : Type} {n : Nat} {h : Nat → α} {l : List α} (hl : l.length = n) (e : ∀ i, i < n → l[i]? = some (h i)) : l = tab n h := by
  apply List.ext_getElem?
  intro i
  by_cases hi : i < n
  · rw [e i hi, tab_get hi]
  · rw [tab_none (by omega), List.getElem?_eq_none (by omega)]
theorem tab_congr {α : Type} {n : Nat} {h g : Nat → α} (e : ∀ i, i < n → h i = g i) : tab n h = tab n g := by
  refine tab_ext (tab_len _ _) fun i hi => ?_
  rw [tab_get hi, e i hi]
theorem tab_set {α : Type} {n i : Nat} {h g : Nat → α} {v : α} (hv : v = g i) (e : ∀ p, p < n → p ≠ i → h p = g p) : (tab n h).set i v = tab n g := by
  refine tab_ext (by rw [List.length_set, tab_len]) fun p hp => ?_
  rw [List.getElem?_set]
  by_cases q : i = p
  · subst q; rw [if_pos rfl, if_pos (by rw [tab_len]; exact hp), hv]
  · rw [if_neg q, tab_get hp, e p hp (fun c => q c.symm)]
theorem tab_rep {α : Type} (n : Nat) (z : α) : List.replicate n z = tab n (fun _ => z) := tab_ext (by simp) fun i hi => by rw [List.getElem?_replicate, if_pos hi]
theorem tab_snoc {α : Type} (n : Nat) (h : Nat → α) : tab n h ++ [h n] = tab (n + 1) h := by simp [tab, List.range_succ]
theorem idx_tab {α : Type} {n i : Nat} {h : Nat → α} (hi : i < n) : M.Conv (M.idx (tab n h) (i : Int)) (h i) := M.Conv_idx (tab_get hi)
theorem upd_tab {α : Type} {n i : Nat} {h g : Nat → α} {v : α} (hi : i < n) (hv : v = g i) (e : ∀ p, p < n → p ≠ i → h p = g p) : M.Conv (M.upd (tab n h) (i : Int) v) (tab n g) :=
  (M.Conv_upd (by rw [tab_len]; exact hi)).of (tab_set hv e)
def matF (m n : Nat) (f : Nat → Nat → Int) : List (List Int) := tab m fun i => tab n (f i)
theorem matF_len (m n : Nat) (f : Nat → Nat → Int) : (matF m n f).length = m := tab_len _ _
theorem matF_congr {m n : Nat} {f g : Nat → Nat → Int} (e : ∀ i j, i < m → j < n → f i j = g i j) : matF m n f = matF m n g := tab_congr fun i hi => tab_congr fun j hj => e i j hi hj
structure Shp (a : List (List Int)) (w : Nat) : Prop where
  rows : 1 ≤ a.length ∧ a.length ≤ 10
  cols : 1 ≤ w ∧ w ≤ 10
  row : ∀ r ∈ a, r.length = w
theorem Mat.shp {a : List (List Int)} {w : Nat} (hm : Mat a w) : Shp a w := ⟨hm.rows, hm.cols, fun r hr => (hm.row r hr).1⟩
theorem mat_eq {a : List (List Int)} {w : Nat} (hm : Shp a w) : a = matF a.length w (entA a) := by
  refine tab_ext rfl fun i hi => ?_
  have hr : a[i]? = some a[i] := List.getElem?_eq_getElem hi
  rw [hr]
  have hl := hm.row _ (List.mem_of_getElem? hr)
  congr 1
  refine tab_ext hl fun j hj => ?_
  have : a[i][j]? = some (a[i][j]'(by omega)) := List.getElem?_eq_getElem _
  rw [this]
  simp only [entA, hr, Option.getD_some, this]
theorem entA_matF {m n i j : Nat} {f : Nat → Nat → Int} (hi : i < m) (hj : j < n) : entA (matF m n f) i j = f i j := by
  simp only [entA, matF, tab_get hi, Option.getD_some, tab_get hj]
theorem mat_of {m n : Nat} {f : Nat → Nat → Int} (h1 : 1 ≤ m ∧ m ≤ 10) (h2 : 1 ≤ n ∧ n ≤ 10) (hv : ∀ i j, i < m → j < n → valB (f i j) = true) : Mat (matF m n f) n := by
  refine ⟨by rw [matF_len]; exact h1, h2, fun r hr => ?_⟩
  simp only [matF, tab, List.mem_map, List.mem_range] at hr
  obtain ⟨i, hi, rfl⟩ := hr
  refine ⟨by simp, fun x hx => ?_⟩
  simp only [List.mem_map, List.mem_range] at hx
  obtain ⟨j, hj, rfl⟩ := hx
  exact hv i j hi hj
theorem shp_of {m n : Nat} {f : Nat → Nat → Int} (h1 : 1 ≤ m ∧ m ≤ 10) (h2 : 1 ≤ n ∧ n ≤ 10) : Shp (matF m n f) n := by
  refine ⟨by rw [matF_len]; exact h1, h2, fun r hr => ?_⟩
  simp only [matF, tab, List.mem_map, List.mem_range] at hr
  obtain ⟨i, hi, rfl⟩ := hr
  simp
theorem ent_read {a : List (List Int)} {w i j : Nat} (hm : Shp a w) (hi : i < a.length) (hj : j < w) : ∃ r, M.Conv (M.idx a (i : Int)) r ∧ r.length = w ∧ M.Conv (M.idx r (j : Int)) (entA a i j) := by
  have hr : a[i]? = some a[i] := List.getElem?_eq_getElem hi
  have hl := hm.row _ (List.mem_of_getElem? hr)
  have h2 : a[i][j]? = some (a[i][j]'(by omega)) := List.getElem?_eq_getElem _
  refine ⟨_, get_row hr, hl, (M.Conv_idx h2).of ?_⟩
  simp only [entA, hr, Option.getD_some, h2]
/-- a matrix filled by a function of its places -/
theorem matrixBy_ok {m n : Nat} (F : Int → Int → M Int) (g : Nat → Nat → Int) (hm : m ≤ 1048576) (hn : n ≤ 1048576) (hF : ∀ i j : Nat, i < m → j < n → M.Conv (F i j) (g i j)) :
    M.Conv (M.bind (M.make (m : Int) []) (fun l1 => M.bind (M.forI 0 (l1.length : Int) (fun s => s) (fun i1 => (fun (s1 : (List (List Int))) => M.bind (M.make (n : Int) 0) (fun l2 => M.bind (M.idx s1 i1) (fun x2 => M.bind (M.upd s1 i1 l2) (fun l3 => M.bind (M.idx l3 i1) (fun x3 => M.bind (M.forI 0 (x3.length : Int) (fun s => s) (fun i2 => (fun (s2 : (List (List Int))) => M.bind (M.idx s2 i1) (fun x5 => M.bind (F i1 i2) (fun x6 => M.bind (M.idx x5 i2) (fun x7 => M.bind (M.upd x5 i2 x6) (fun l4 => M.ret (.inl (s2.set i1.toNat l4)))))))) l3) (fun x4 => M.ret (.inl x4)))))))) l1) (fun x1 => M.ret x1))) (matF m n g) := by
  have e0 : List.replicate m ([] : List Int) = tab m (fun p => bif decide (p < 0) then tab n (g p) else []) := by
    rw [tab_rep]; exact tab_congr fun i _ => by simp
  refine M.Conv_bind ((M.Conv_make (by omega) (by omega)).of (r' := tab m (fun p => bif decide (p < 0) then tab n (g p) else [])) (by rw [Int.toNat_natCast, e0])) ?_
  rw [tab_len]
  refine M.Conv_bind (x := matF m n g) ((Conv_forV (fun i => tab m (fun p => bif decide (p < i) then tab n (g p) else [])) (by omega) fun i hi => ?_).of (tab_congr fun p hp => by rw [decide_eq_true hp]; rfl)) (M.Conv_ret _)
  refine M.Conv_bind ((M.Conv_make (by omega) (by omega)).of (r' := tab n (fun _ => 0)) (by rw [Int.toNat_natCast, tab_rep])) ?_
  refine M.Conv_bind (idx_tab hi) (M.Conv_bind (x := tab m (fun p => bif p == i then tab n (fun q => bif decide (q < 0) then g i q else 0) else bif decide (p < i) then tab n (g p) else [])) (upd_tab hi ?_ ?_) ?_)
  · simp
  · intro p hp hne
    rw [show (p == i) = false by simpa using hne]; rfl
  · refine M.Conv_bind (idx_tab hi) ?_
    rw [beq_self_eq_true, cond_true, tab_len]
    refine M.Conv_bind (x := tab m (fun p => bif decide (p < i + 1) then tab n (g p) else [])) ((Conv_forV (fun j => tab m (fun p => bif p == i then tab n (fun q => bif decide (q < j) then g i q else 0) else bif decide (p < i) then tab n (g p) else [])) (by omega) fun j hj => ?_).of ?_) (M.Conv_ret _)
    · refine M.Conv_bind (idx_tab hi) ?_
      rw [beq_self_eq_true, cond_true]
      refine M.Conv_bind (hF i j hi hj) (M.Conv_bind (idx_tab hj) (M.Conv_bind (x := tab n (fun q => bif decide (q < j + 1) then g i q else 0)) (upd_tab hj ?_ ?_) ((M.Conv_ret _).of (congrArg Sum.inl ?_))))
      · simp
      · intro q hq hne
        congr 1
        rw [Bool.eq_iff_iff]; simp; omega
      · rw [Int.toNat_natCast]
        refine tab_set ?_ ?_
        · simp
        · intro p hp hne
          rw [show (p == i) = false by simpa using hne]; rfl
    · refine tab_congr fun p hp => ?_
      by_cases e : p = i
      · subst e
        rw [beq_self_eq_true, cond_true, decide_eq_true (by omega)]
        exact tab_congr fun q hq => by rw [decide_eq_true hq]; rfl
      · rw [show (p == i) = false by simpa using e]
        simp only [cond_false]
        congr 1
        rw [Bool.eq_iff_iff]; simp; omega
theorem spec_l02Bottom_ok {m n : Nat} (hm : m ≤ 1048576) (hn : n ≤ 1048576) : M.Conv (spec_l02Bottom (m : Int) (n : Int)) (matF m n fun _ _ => -1000000000000000) := by
  unfold spec_l02Bottom
  refine M.Conv_bind (Conv_forV (fun i => tab i fun _ => tab n fun _ => (-1000000000000000 : Int)) (by omega) fun i hi => ?_) (M.Conv_ret _)
  refine M.Conv_bind (Conv_forV (fun j => tab j fun _ => (-1000000000000000 : Int)) (by omega) fun j hj => ?_) ?_
  · exact M.Conv_bind (M.Conv_app (by simp [tab_len]; omega)) ((M.Conv_ret _).of (congrArg Sum.inl (tab_snoc _ _)))
  · exact M.Conv_bind (M.Conv_app (by simp [tab_len]; omega)) ((M.Conv_ret _).of (congrArg Sum.inl (tab_snoc i _)))
/-- one entry set -/
theorem matF_set {m n i j : Nat} {f g : Nat → Nat → Int} (e : ∀ p q, p < m → q < n → ¬(p = i ∧ q = j) → f p q = g p q) : (matF m n f).set i ((tab n (f i)).set j (g i j)) = matF m n g := by
  by_cases hi : i < m
  · refine tab_set (tab_set rfl fun q hq hne => e i q hi hq (by omega)) fun p hp hne => tab_congr fun q hq => e p q hp hq (by omega)
  · rw [List.set_eq_of_length_le (by rw [matF_len]; omega)]
    exact matF_congr fun p q hp hq => e p q hp hq (by omega)
/-- filled row by row: everything before (i, j) is new -/
def part (g z : Nat → Nat → Int) (i j p q : Nat) : Int := bif decide (p < i) || (decide (p = i) && decide (q < j)) then g p q else z p q
theorem part_step {m n i j : Nat} {g z : Nat → Nat → Int} : (matF m n (part g z i j)).set i ((tab n (part g z i j i)).set j (g i j)) = matF m n (part g z i (j + 1)) := by
  rw [show g i j = part g z i (j + 1) i j by simp [part]]
  refine matF_set fun p q _ _ h => ?_
  unfold part
  congr 1
  rw [Bool.eq_iff_iff]; simp; omega
theorem part_row {m n i : Nat} {g z : Nat → Nat → Int} : matF m n (part g z i n) = matF m n (part g z (i + 1) 0) := by
  refine matF_congr fun p q _ hq => ?_
  unfold part
  congr 1
  rw [Bool.eq_iff_iff]; simp; omega
theorem part_zero {m n : Nat} {g z : Nat → Nat → Int} : matF m n (part g z 0 0) = matF m n z := matF_congr fun p q _ _ => by simp [part]
theorem part_all {m n : Nat} {g z : Nat → Nat → Int} : matF m n (part g z m 0) = matF m n g := matF_congr fun p q hp _ => by simp [part, hp]
theorem matB_shp {a : List (List Int)} {w : Nat} (h : Shp a w) : matB a = a.all fun r => r.all valB := by
  have h1 := h.rows
  have h2 := h.cols
  have hw : widthN a = w := by
    unfold widthN
    cases a with
    | nil => simp at h1
    | cons r rs => exact h.row r (by simp)
  unfold matB
  rw [hw, decide_eq_true h1.1, decide_eq_true h1.2, decide_eq_true h2.1, decide_eq_true h2.2]
  simp only [Bool.true_and]
  rw [Bool.eq_iff_iff, List.all_eq_true, List.all_eq_true]
  refine ⟨fun H r hr => ?_, fun H r hr => ?_⟩
  · have := H r hr; simp only [Bool.and_eq_true] at this; exact this.2
  · rw [decide_eq_true (h.row r hr), Bool.true_and]; exact H r hr
theorem Shp.sm {a : List (List Int)} {w : Nat} (h : Shp a w) : smII a := ⟨by have := h.rows; omega, fun r hr => by have := h.row r hr; have := h.cols; omega⟩
def colL (b : List (List Int)) (i : Nat) : List Int := tab b.length fun j => entA b j i
theorem Conv_or {b v : Bool} {m : M Bool} (h : b = false → M.Conv m v) : M.Conv (M.ite b (M.ret true) m) (b || v) := by
  cases b with
  | true => exact M.Conv_ite (fun _ => M.Conv_ret _) (fun t => by simp at t)
  | false => exact M.Conv_ite (fun t => by simp at t) (fun _ => h rfl)
def Rel {α β : Type} (m : M α) (m' : M β) (Q : α → β → Prop) : Prop := ∃ r r', M.Conv m r ∧ M.Conv m' r' ∧ Q r r'
theorem Rel.of {α β : Type} {m : M α} {m' : M β} {Q : α → β → Prop} {r : α} {r' : β} (h : M.Conv m r) (h' : M.Conv m' r') (q : Q r r') : Rel m m' Q := ⟨r, r', h, h', q⟩
theorem Rel.bind {α β γ δ : Type} {m : M α} {m' : M β} {f : α → M γ} {f' : β → M δ} {P : α → β → Prop} {Q : γ → δ → Prop} (h : Rel m m' P) (g : ∀ x x', P x x' → Rel (f x) (f' x') Q) : Rel (M.bind m f) (M.bind m' f') Q := by
  obtain ⟨x, x', h1, h2, p⟩ := h
  obtain ⟨r, r', g1, g2, q⟩ := g x x' p
  exact ⟨r, r', M.Conv_bind h1 g1, M.Conv_bind h2 g2, q⟩
theorem Rel.left {α γ δ : Type} {m : M α} {f : α → M γ} {m' : M δ} {Q : γ → δ → Prop} {x : α} (h : M.Conv m x) (g : Rel (f x) m' Q) : Rel (M.bind m f) m' Q := by
  obtain ⟨r, r', g1, g2, q⟩ := g
  exact ⟨r, r', M.Conv_bind h g1, g2, q⟩
theorem Rel.right {α γ δ : Type} {m : M α} {f : α → M γ} {m' : M δ} {Q : δ → γ → Prop} {x : α} (h : M.Conv m x) (g : Rel m' (f x) Q) : Rel m' (M.bind m f) Q := by
  obtain ⟨r, r', g1, g2, q⟩ := g
  exact ⟨r, r', g1, M.Conv_bind h g2, q⟩
theorem Rel.two {α : Type} {m m' : M α} {P : α → Prop} (h : Rel m m' fun x y => x = y ∧ P x) : Two m m' P := by
  obtain ⟨r, r', h1, h2, rfl, p⟩ := h
  exact ⟨r, h1, h2, p⟩
theorem Rel.mono {α β : Type} {m : M α} {m' : M β} {P Q : α → β → Prop} (h : Rel m m' P) (g : ∀ x y, P x y → Q x y) : Rel m m' Q := by
  obtain ⟨r, r', h1, h2, p⟩ := h
  exact ⟨r, r', h1, h2, g _ _ p⟩
theorem Rel.iteL {α β : Type} {b : Bool} {x y : M α} {m' : M β} {Q : α → β → Prop} (h1 : b = true → Rel x m' Q) (h2 : b = false → Rel y m' Q) : Rel (M.ite b x y) m' Q := by
  cases b
  · obtain ⟨r, r', g1, g2, q⟩ := h2 rfl
    exact ⟨r, r', M.Conv_ite (fun t => by simp at t) (fun _ => g1), g2, q⟩
  · obtain ⟨r, r', g1, g2, q⟩ := h1 rfl
    exact ⟨r, r', M.Conv_ite (fun _ => g1) (fun t => by simp at t), g2, q⟩
theorem Rel.iteR {α β : Type} {b : Bool} {x y : M β} {m' : M α} {Q : α → β → Prop} (h1 : b = true → Rel m' x Q) (h2 : b = false → Rel m' y Q) : Rel m' (M.ite b x y) Q := by
  cases b
  · obtain ⟨r, r', g1, g2, q⟩ := h2 rfl
    exact ⟨r, r', g1, M.Conv_ite (fun t => by simp at t) (fun _ => g2), q⟩
  · obtain ⟨r, r', g1, g2, q⟩ := h1 rfl
    exact ⟨r, r', g1, M.Conv_ite (fun _ => g2) (fun t => by simp at t), q⟩
theorem Rel.ite {α β : Type} {b b' : Bool} {x y : M α} {x' y' : M β} {Q : α → β → Prop} (e : b = b') (h1 : b = true → Rel x x' Q) (h2 : b = false → Rel y y' Q) : Rel (M.ite b x y) (M.ite b' x' y') Q := by
  subst e
  exact Rel.iteL (fun t => Rel.iteR (fun _ => h1 t) (fun t' => by rw [t] at t'; cases t')) (fun t => Rel.iteR (fun t' => by rw [t] at t'; cases t') (fun _ => h2 t))
theorem Rel.ret {α β : Type} {x : α} {y : β} {Q : α → β → Prop} (q : Q x y) : Rel (M.ret x) (M.ret y) Q := ⟨x, y, M.Conv_ret _, M.Conv_ret _, q⟩
/-- one round of two loops: both go on, or both stop -/
def Round {σ σ' ρ ρ' : Type} (R : σ → σ' → Prop) (Q : ρ → ρ' → Prop) (y : σ ⊕ ρ) (y' : σ' ⊕ ρ') : Prop := (∃ t t', y = .inl t ∧ y' = .inl t' ∧ R t t') ∨ (∃ r r', y = .inr r ∧ y' = .inr r' ∧ Q r r')
theorem Round.on {σ σ' ρ ρ' : Type} {R : σ → σ' → Prop} {Q : ρ → ρ' → Prop} {t : σ} {t' : σ'} (h : R t t') : Round R Q (.inl t) (.inl t') := .inl ⟨t, t', rfl, rfl, h⟩
theorem Round.off {σ σ' ρ ρ' : Type} {R : σ → σ' → Prop} {Q : ρ → ρ' → Prop} {r : ρ} {r' : ρ'} (h : Q r r') : Round R Q (.inr r : σ ⊕ ρ) (.inr r' : σ' ⊕ ρ') := .inr ⟨r, r', rfl, rfl, h⟩
theorem Rel.for {σ σ' ρ ρ' : Type} {n : Nat} {f : Int → σ → M (σ ⊕ ρ)} {f' : Int → σ' → M (σ' ⊕ ρ')} {fin : σ → ρ} {fin' : σ' → ρ'} {s : σ} {s' : σ'} {Q : ρ → ρ' → Prop} (R : Nat → σ → σ' → Prop) (hn : n ≤ 9223372036854775807) (h0 : R 0 s s')
    (step : ∀ (i : Nat) t t', i < n → R i t t' → Rel (f i t) (f' i t') (Round (R (i + 1)) Q)) (stop : ∀ t t', R n t t' → Q (fin t) (fin' t')) : Rel (M.forI 0 (n : Int) fin f s) (M.forI 0 (n : Int) fin' f' s') Q := by
  have H : ∀ (d i : Nat) t t', i + d = n → R i t t' → ∃ r r', (∃ N, ∀ m, N ≤ m → M.forN (n : Int) fin f m d (i : Int) t = some r) ∧ (∃ N, ∀ m, N ≤ m → M.forN (n : Int) fin' f' m d (i : Int) t' = some r') ∧ Q r r' := by
    intro d
    induction d with
    | zero =>
      intro i t t' e hR
      obtain rfl : i = n := by omega
      exact ⟨fin t, fin' t', ⟨0, fun m _ => by simp [M.forN]⟩, ⟨0, fun m _ => by simp [M.forN]⟩, stop t t' hR⟩
    | succ d ih =>
      intro i t t' e hR
      have hlt : (i : Int) < n := by omega
      obtain ⟨y, y', ⟨N, hy⟩, ⟨N', hy'⟩, hc⟩ := step i t t' (by omega) hR
      rcases hc with ⟨u, u', rfl, rfl, hR⟩ | ⟨r, r', rfl, rfl, hq⟩
      · obtain ⟨r, r', ⟨K, hr⟩, ⟨K', hr'⟩, hq⟩ := ih (i + 1) u u' (by omega) hR
        rw [Int.natCast_add] at hr hr'
        refine ⟨r, r', ⟨max N K, fun m hm => ?_⟩, ⟨max N' K', fun m hm => ?_⟩, hq⟩
        · simp [M.forN, hlt, hy m (by omega)]; exact hr m (by omega)
        · simp [M.forN, hlt, hy' m (by omega)]; exact hr' m (by omega)
      · exact ⟨r, r', ⟨N, fun m hm => by simp [M.forN, hlt, hy m hm]⟩, ⟨N', fun m hm => by simp [M.forN, hlt, hy' m hm]⟩, hq⟩
  obtain ⟨r, r', ⟨N, h1⟩, ⟨N', h2⟩, q⟩ := H n 0 s s' (by omega) h0
  refine ⟨r, r', ⟨N, fun m hm => ?_⟩, ⟨N', fun m hm => ?_⟩, q⟩
  · have := h1 m hm; have hn' : (n : Int) ≤ 9223372036854775807 := by omega
    simp [M.forI, hn']; exact this
  · have := h2 m hm; have hn' : (n : Int) ≤ 9223372036854775807 := by omega
    simp [M.forI, hn']; exact this
/-- a loop with a round count on the left, any loop on the right -/
theorem Rel.loop {σ σ' ρ ρ' : Type} {f : σ → M (σ ⊕ ρ)} {f' : σ' → M (σ' ⊕ ρ')} {s : σ} {s' : σ'} {Q : ρ → ρ' → Prop} (R : σ → σ' → Prop) (μ : σ → Nat) (h0 : R s s')
    (step : ∀ t t', R t t' → Rel (f t) (f' t') (Round (fun u u' => R u u' ∧ μ u < μ t) Q)) : Rel (M.loop f s) (M.loop f' s') Q := by
  have H : ∀ (d : Nat) t t', μ t < d → R t t' → ∃ r r', ConvL f t r ∧ ConvL f' t' r' ∧ Q r r' := by
    intro d
    induction d with
    | zero => intro t t' h; omega
    | succ d ih =>
      intro t t' h hR
      obtain ⟨y, y', hy, hy', hc⟩ := step t t' hR
      rcases hc with ⟨u, u', rfl, rfl, hR, hlt⟩ | ⟨r, r', rfl, rfl, hq⟩
      · obtain ⟨r, r', k1, k2, q⟩ := ih u u' (by omega) hR
        exact ⟨r, r', k1.step hy, k2.step hy', q⟩
      · exact ⟨r, r', ConvL.stop hy, ConvL.stop hy', hq⟩
  obtain ⟨r, r', h1, h2, q⟩ := H (μ s + 1) s s' (by omega) h0
  exact ⟨r, r', h1.conv, h2.conv, q⟩

def entS (a : List (List Int)) (s : Nat) : Int × Int := ((tabP a (2 ^ a.length))[s]?).getD (0, 0)
theorem entS_get {a : List (List Int)} {s : Nat} (h : s < 2 ^ a.length) : (tabP a (2 ^ a.length))[s]? = some (entS a s) := by
  unfold entS
  have : (tabP a (2 ^ a.length))[s]? = some ((tabP a (2 ^ a.length))[s]'(by rw [tabP_len]; exact h)) := List.getElem?_eq_getElem _
  rw [this]; rfl
theorem entS_ok {a : List (List Int)} (hm : Mat a a.length) {s : Nat} (h : s < 2 ^ a.length) : (entS a s).1 = -1000000000000000 ∨ (-10000000 ≤ (entS a s).1 ∧ (entS a s).1 ≤ 10000000) := by
  have hrows := hm.rows
  obtain ⟨_, _, hN, _, _⟩ := pow_ok (n := a.length) (by omega)
  have := tabOK hm _ (Nat.le_refl _) s _ h (entS_get h)
  have hp := (pop_ok (s := s) (by omega)).2.1
  rcases this with e | ⟨h1, h2, _⟩
  · rw [e]; exact .inl rfl
  · exact .inr ⟨by omega, by omega⟩
def AsgR (a : List (List Int)) (i : Nat) (t : Int × List Int) (t' : List Int × Int) : Prop :=
  ∃ s : Nat, s < 2 ^ a.length ∧ (entS a s).1 ≠ -1000000000000000 ∧ t.1 = (s : Int) ∧ t'.2 = ((2 ^ a.length - 1 - s : Nat) : Int) ∧ t'.1 = t.2 ∧ t.2.length ≤ i ∧ ∀ x : Int, x ∈ t.2 → 0 ≤ x ∧ x < (a.length : Int)
theorem same_l10 {a : List (List Int)} (hm : Mat a a.length) : Two (spec_l10Assignment a) (impl_bestAssignment a) (fun w => smI w.1 ∧ (w.2 = true → w.1.length ≤ a.length ∧ ∀ x : Int, x ∈ w.1 → 0 ≤ x ∧ x < (a.length : Int))) := by
  have hrows := hm.rows
  obtain ⟨_, _, hN, hN1, _⟩ := pow_ok (n := a.length) (by omega)
  obtain ⟨r1, r2, r3, r4⟩ := top_reads hm
  have rW : ∀ s : Nat, s < 2 ^ a.length → M.Conv (M.idx ((tabP a (2 ^ a.length)).map Prod.fst) (s : Int)) (entS a s).1 := fun s hs => M.Conv_idx (by rw [List.getElem?_map, entS_get hs]; rfl)
  have rL : ∀ s : Nat, s < 2 ^ a.length → M.Conv (M.idx (lstP a (2 ^ a.length)) ((2 ^ a.length - 1 - s : Nat) : Int)) (mkP (entS a s)) := fun s hs => M.Conv_idx (by
    rw [lstP_get (by omega), show decide (2 ^ a.length ≤ 2 ^ a.length - 1 - s + 2 ^ a.length) = true by simp, show 2 ^ a.length - 1 - (2 ^ a.length - 1 - s) = s by omega, entS_get hs]; rfl)
  have htop : topE a = entS a (2 ^ a.length - 1) := rfl
  refine Two.left (spec_l10Best_ok hm) (Two.left r1 (Two.right (impl_permanents_ok hm) (Two.right r3 ?_)))
  refine Rel.two (Rel.ite rfl (fun _ => Rel.ret ⟨rfl, by simp [smI], fun h => by simp at h⟩) (fun ht => ?_))
  have htb : (entS a (2 ^ a.length - 1)).1 ≠ -1000000000000000 := by rw [← htop]; simpa using ht
  have hw0 : w64 ((((tabP a (2 ^ a.length)).map Prod.fst).length : Int) - 1) = ((2 ^ a.length - 1 : Nat) : Int) := by rw [List.length_map, tabP_len, w64_eq _ (by omega)]; omega
  rw [hw0]
  -- the two walks down the table
  refine Rel.bind (Rel.for (fun i (t : Int × List Int) (t' : List Int × Int) => AsgR a i t t') (by omega) ⟨2 ^ a.length - 1, by omega, htb, rfl, by simp, rfl, by simp, by simp⟩ (fun i t t' hi hR => ?_) (fun t t' hR => hR)) (fun t t' hR => ?_)
  · have hrow : a[i]? = some a[i] := List.getElem?_eq_getElem hi
    have hrl := (hm.row _ (List.mem_of_getElem? hrow)).1
    refine Rel.right (get_row hrow) ?_
    rw [hrl]
    refine Rel.bind (P := fun t t' => AsgR a (i + 1) t t')
      (Rel.for (fun _ (t : Int × List Int) (t' : List Int × Int) => AsgR a i t t') (by omega) hR (fun j u u' hj hR => ?_) (fun u u' ⟨s, h1, h2, h3, h4, h5, h6, h7⟩ => ⟨s, h1, h2, h3, h4, h5, by omega, h7⟩)) (fun u u' hR => Rel.ret (Round.on hR))
    obtain ⟨s, hs, hsb, e1, e2, e3, hlen, hmem⟩ := hR
    rw [e1, e2, e3]
    have hb := bit_ok (s := s) (j := j) (by omega) (by omega)
    have hb' := bit_ok (s := 2 ^ a.length - 1 - s) (j := j) (by omega) (by omega)
    have hc := (compl_ok (n := a.length) (s := s) (by omega) hs).2 j hj
    obtain ⟨c2, c3⟩ := hm.get hrow hj
    have hv := val_cases c3
    generalize ((a[i][j]?).getD 0) = v at c2 hv
    have hpos : 0 < 2 ^ j := Nat.pow_pos (by decide)
    refine Rel.left (M.Conv_guard (by rw [hb.wrapU]; simp)) ?_
    rw [hb.wrapU, hb.and, hb'.and, hb'.or, hb.shl]
    refine Rel.right c2 (Rel.right (M.Conv_guard (by simp)) ?_)
    have stay : AsgR a i ((s : Int), u.2) (u.2, ((2 ^ a.length - 1 - s : Nat) : Int)) := ⟨s, hs, hsb, rfl, rfl, rfl, hlen, hmem⟩
    by_cases hbit : bitN s j = 1
    · obtain ⟨q1, q2, q3⟩ := hb.one hbit
      have hz : bitN (2 ^ a.length - 1 - s) j = 0 := by omega
      rw [hbit, hz]
      have hidx : (2 ^ a.length - 1 - s + 2 ^ j : Nat) = 2 ^ a.length - 1 - (s - 2 ^ j) := by omega
      have hw2 : ∀ W : Nat, W ≤ s → w64 ((s : Int) - (W : Int)) = ((s - W : Nat) : Int) := fun W hW => by rw [w64_eq _ (by omega)]; omega
      rw [hw2 _ q1, hidx]
      simp only [show ((0 : Nat) == 1) = false by decide, cond_false]
      have hE := entS_ok hm (s := s - 2 ^ j) (by omega)
      refine Rel.right (rL (s - 2 ^ j) (by omega)) (Rel.right (M.Conv_guard (by simp)) ?_)
      refine Rel.left (M.Conv_ite (r := (v != (-1000000000000000))) (fun _ => M.Conv_bind (get_row hrow) (M.Conv_bind c2 (M.Conv_ret _))) (fun t => by simp at t)) ?_
      obtain ⟨t1, t2⟩ := timesI_val hv hE
      cases hv0 : (v == (-1000000000000000)) with
      | true =>
        have hne : (v != (-1000000000000000)) = false := by rw [bne, hv0]; rfl
        rw [hne]
        refine Rel.left (x := false) (M.Conv_ite (fun t => by simp at t) (fun _ => M.Conv_ret _)) (Rel.right (x := false) (M.Conv_ite (fun t => by simp at t) (fun _ => M.Conv_ret _)) ?_)
        exact Rel.ite rfl (fun t => by simp at t) (fun _ => Rel.ret (Round.on stay))
      | false =>
        have hne : (v != (-1000000000000000)) = true := by rw [bne, hv0]; rfl
        rw [hne]
        rw [hv0] at t1
        refine Rel.left (x := timesI v (entS a (s - 2 ^ j)).1 == (entS a s).1) (M.Conv_ite (fun _ => M.Conv_bind (get_row hrow) (M.Conv_bind c2 (M.Conv_bind (M.Conv_guard (by simp)) (M.Conv_bind (rW _ (by omega)) (M.Conv_bind (spec_l01Times_ok _ _) (M.Conv_bind (rW _ hs) (M.Conv_ret _))))))) (fun t => by simp at t)) ?_
        cases he0 : ((entS a (s - 2 ^ j)).1 == (-1000000000000000)) with
        | true =>
          rw [he0] at t1
          rw [t1]
          have : ((-1000000000000000 : Int) == (entS a s).1) = false := by simp; omega
          rw [show (bif false || true then (-1000000000000000 : Int) else v + (entS a (s - 2 ^ j)).1) = -1000000000000000 by rfl, this]
          refine Rel.right (x := false) (M.Conv_ite (fun t => by simp [mkP, bne, he0] at t) (fun _ => M.Conv_ret _)) ?_
          exact Rel.ite rfl (fun t => by simp at t) (fun _ => Rel.ret (Round.on stay))
        | false =>
          rw [he0] at t1
          have hE2 : w64 (v + (entS a (s - 2 ^ j)).1) = v + (entS a (s - 2 ^ j)).1 := by
            simp only [beq_eq_false_iff_ne, ne_eq] at hv0 he0
            exact w64_eq _ (by omega)
          rw [t1, show (bif false || false then (-1000000000000000 : Int) else v + (entS a (s - 2 ^ j)).1) = v + (entS a (s - 2 ^ j)).1 by rfl]
          refine Rel.right (x := v + (entS a (s - 2 ^ j)).1 == (entS a s).1) (M.Conv_ite (fun _ => M.Conv_bind (rL s hs) ((M.Conv_ret _).of (by simp only [mkP]; rw [hE2]))) (fun t => by simp [mkP, bne, he0] at t)) ?_
          refine Rel.ite rfl (fun hq => ?_) (fun _ => Rel.ret (Round.on stay))
          have happ : M.Conv (M.app u.2 ([(j : Int)] : List Int)) (u.2 ++ [(j : Int)]) := M.Conv_app (by simp; omega)
          refine Rel.left happ (Rel.left (M.Conv_guard (by simp)) (Rel.right happ (Rel.right (M.Conv_guard (by simp)) (Rel.ret (Round.off ?_)))))
          have hq : v + (entS a (s - 2 ^ j)).1 = (entS a s).1 := by simpa using hq
          refine ⟨s - 2 ^ j, by omega, by simpa using he0, rfl, rfl, rfl, by simp; omega, fun x hx => ?_⟩
          rcases List.mem_append.1 hx with hx | hx
          · exact hmem x hx
          · simp at hx; omega
    · have hz0 := hb.zero hbit
      have hz : bitN (2 ^ a.length - 1 - s) j = 1 := by omega
      rw [hz0, hz]
      simp only [beq_self_eq_true, cond_true]
      refine Rel.right (rL s hs) (Rel.right (M.Conv_guard (by simp)) ?_)
      refine Rel.left (x := false) (M.Conv_ite (fun t => by simp at t) (fun _ => M.Conv_ret _)) ?_
      refine Rel.left (x := false) (M.Conv_ite (fun t => by simp at t) (fun _ => M.Conv_ret _)) (Rel.right (x := false) (M.Conv_ite (fun t => by simp at t) (fun _ => M.Conv_ret _)) ?_)
      exact Rel.ite rfl (fun t => by simp at t) (fun _ => Rel.ret (Round.on stay))
  · obtain ⟨s, hs, hsb, e1, e2, e3, hlen, hmem⟩ := hR
    rw [e3]
    exact Rel.ret ⟨rfl, by simp only [smI]; omega, fun _ => ⟨hlen, hmem⟩⟩
theorem Conv_check {ρ : Type} {n lo : Nat} {f : Int → Unit → M (Unit ⊕ (Unit ⊕ ρ))} (P : Nat → Prop) (v : ρ) (hn : n ≤ 9223372036854775807)
    (h : ∀ i : Nat, lo ≤ i → i < n → (P i ∧ M.Conv (f i ()) (.inl ())) ∨ (¬ P i ∧ M.Conv (f i ()) (.inr (.inr v)))) :
    ((∀ i, lo ≤ i → i < n → P i) ∧ M.Conv (M.forI (lo : Int) (n : Int) (fun s => .inl s) f ()) (.inl ())) ∨ ((∃ i, lo ≤ i ∧ i < n ∧ ¬ P i) ∧ M.Conv (M.forI (lo : Int) (n : Int) (fun s => .inl s) f ()) (.inr v)) := by
  have H : M.TC (M.forI (lo : Int) (n : Int) (fun s => .inl s) f ()) (fun r => ((∀ i, lo ≤ i → i < n → P i) ∧ r = .inl ()) ∨ ((∃ i, lo ≤ i ∧ i < n ∧ ¬ P i) ∧ r = .inr v)) := by
    refine M.TC_for (fun i _ => ∀ k : Nat, lo ≤ k → (k : Int) < i → P k) () (by omega) (by omega) (fun k h1 h2 => by omega) (fun i s h1 h2 hI => ?_) (fun i s hi hI => ?_)
    · obtain ⟨k, rfl⟩ : ∃ k : Nat, i = (k : Int) := ⟨i.toNat, by omega⟩
      rcases h k (by omega) (by omega) with ⟨hp, hc⟩ | ⟨hp, hc⟩
      · refine hc.tc (.inl ⟨(), rfl, fun q h3 h4 => ?_⟩)
        by_cases e : q = k
        · subst e; exact hp
        · exact hI q h3 (by omega)
      · exact hc.tc (.inr ⟨.inr v, rfl, .inr ⟨⟨k, by omega, by omega, hp⟩, rfl⟩⟩)
    · rcases hi with rfl | ⟨rfl, hle⟩
      · exact .inl ⟨fun q h1 h2 => hI q h1 (by omega), rfl⟩
      · exact .inl ⟨fun q h1 h2 => by omega, rfl⟩
  obtain ⟨r, hr, ⟨h1, rfl⟩ | ⟨h1, rfl⟩⟩ := H
  · exact .inl ⟨h1, hr⟩
  · exact .inr ⟨h1, hr⟩
def nd (l : List Int) (i : Nat) : Int := (l[i]?).getD 0
theorem nd_read {l : List Int} {i : Nat} (h : i < l.length) : M.Conv (M.idx l (i : Int)) (nd l i) := by
  have : l[i]? = some (l[i]'h) := List.getElem?_eq_getElem _
  refine M.Conv_idx ?_
  unfold nd; rw [this]; rfl
def OkNodes (n : Nat) (l : List Int) : Prop := ∀ i, i < l.length → (0 ≤ nd l i ∧ nd l i ≤ (n : Int) - 1) ∧ (0 < i → nd l (i - 1) < nd l i)
theorem OkNodes.len {n : Nat} {l : List Int} (h : OkNodes n l) : l.length ≤ n := by
  have key : ∀ i, i < l.length → (i : Int) ≤ nd l i := by
    intro i
    induction i with
    | zero => intro hi; have := (h 0 hi).1; omega
    | succ i ih => intro hi; have := (h (i + 1) hi).2 (by omega); have := ih (by omega); simp only [Nat.add_sub_cancel] at *; omega
  by_cases e : l.length = 0
  · omega
  · have := key (l.length - 1) (by omega)
    have := (h (l.length - 1) (by omega)).1
    omega
def prinF (a : List (List Int)) (l : List Int) : List (List Int) := matF l.length l.length fun i j => entA a (nd l i).toNat (nd l j).toNat
theorem prin_mat {a : List (List Int)} {l : List Int} (hm : Mat a a.length) (h : OkNodes a.length l) (h0 : l.length ≠ 0) : Mat (prinF a l) (prinF a l).length := by
  have hr := hm.rows
  have hl := h.len
  unfold prinF
  rw [matF_len]
  refine mat_of (by omega) (by omega) fun i j hi hj => ?_
  have h1 := (h i hi).1
  have h2 := (h j hj).1
  exact (ent_val hm (i := (nd l i).toNat) (j := (nd l j).toNat) (by omega) (by omega)).2.2
def prinV (a : List (List Int)) (l : List Int) : Int := bif l.length == 0 then 0 else (topE (prinF a l)).1
theorem prin_read {a : List (List Int)} {l : List Int} (hm : Mat a a.length) (h : OkNodes a.length l) {i j : Nat} (hi : i < l.length) (hj : j < l.length) :
    ∃ r, M.Conv (M.idx a (nd l i)) r ∧ M.Conv (M.idx r (nd l j)) (entA a (nd l i).toNat (nd l j).toNat) := by
  have h1 := (h i hi).1
  have h2 := (h j hj).1
  obtain ⟨r, c1, _, c2⟩ := ent_read hm.shp (i := (nd l i).toNat) (j := (nd l j).toNat) (by omega) (by omega)
  rw [Int.toNat_of_nonneg h1.1] at c1
  rw [Int.toNat_of_nonneg h2.1] at c2
  exact ⟨r, c1, c2⟩
theorem spec_l10Part_ok {a : List (List Int)} {l : List Int} (hm : Mat a a.length) (h : OkNodes a.length l) : M.Conv (spec_l10Part a l) (prinV a l) := by
  have hr := hm.rows
  have hl := h.len
  unfold spec_l10Part prinV
  by_cases h0 : l.length = 0
  · rw [h0]; exact M.Conv_ite (fun _ => M.Conv_ret _) (fun t => by simp at t)
  · rw [show (l.length == 0) = false by simpa using h0]
    refine M.Conv_ite (fun t => by simp at t; exact absurd (by rw [t]; rfl) h0) (fun _ => ?_)
    have hpm := prin_mat hm h h0
    refine M.Conv_bind (spec_l02Bottom_ok (by omega) (by omega)) (M.Conv_bind (x := prinF a l) ?_ (M.Conv_bind (M.Conv_bind (spec_l10Best_ok hpm) (M.Conv_bind (top_reads hpm).1 (M.Conv_ret _))) (M.Conv_ret _)))
    rw [← part_zero (g := fun i j => entA a (nd l i).toNat (nd l j).toNat)]
    refine (Conv_forV (fun i => matF l.length l.length (part (fun i j => entA a (nd l i).toNat (nd l j).toNat) (fun _ _ => -1000000000000000) i 0)) (by omega) fun i hi => ?_).of part_all
    refine M.Conv_bind (Conv_forV (fun j => matF l.length l.length (part (fun i j => entA a (nd l i).toNat (nd l j).toNat) (fun _ _ => -1000000000000000) i j)) (by omega) fun j hj => ?_) ((M.Conv_ret _).of (congrArg Sum.inl part_row))
    obtain ⟨r, c1, c2⟩ := prin_read hm h hi hj
    exact M.Conv_bind (idx_tab hi) (M.Conv_bind (nd_read hi) (M.Conv_bind c1 (M.Conv_bind (nd_read hj) (M.Conv_bind c2 (M.Conv_bind (idx_tab hj) (M.Conv_bind (M.Conv_upd (by rw [tab_len]; exact hj)) ((M.Conv_ret _).of (congrArg Sum.inl part_step))))))))
theorem impl_principal_ok {a : List (List Int)} {l : List Int} (hm : Mat a a.length) (h : OkNodes a.length l) : M.Conv (impl_principal a l) (prinV a l) := by
  have hr := hm.rows
  have hl := h.len
  unfold impl_principal prinV
  by_cases h0 : l.length = 0
  · rw [h0]; exact M.Conv_ite (fun _ => M.Conv_ret _) (fun t => by simp at t)
  · rw [show (l.length == 0) = false by simpa using h0]
    refine M.Conv_ite (fun t => by simp at t; exact absurd (by rw [t]; rfl) h0) (fun _ => ?_)
    have hpm := prin_mat hm h h0
    refine M.Conv_bind (x := prinF a l) ?_ (M.Conv_bind (impl_permanents_ok hpm) (M.Conv_bind (top_reads hpm).2.2.1 (M.Conv_ret _)))
    refine matrixBy_ok (fun i j => impl_principal_1 i j a l) _ (by omega) (by omega) fun i j hi hj => ?_
    obtain ⟨r, c1, c2⟩ := prin_read hm h hi hj
    exact M.Conv_bind (nd_read hi) (M.Conv_bind c1 (M.Conv_bind (nd_read hj) (M.Conv_bind c2 (M.Conv_ret _))))
theorem same_PrincipalPermanent (a : List (List Int)) (_ : fitL (fitL inI64) a) (l : List Int) (_ : fitL inI64 l) (sa : smII a) (sl : smI l) : Two (spec_PrincipalPermanent a l) (impl_PrincipalPermanent a l) (fun _ => True) := by
  refine same_sq sa trivial fun hs => ?_
  have hm := sq_mat hs
  have hr := hm.rows
  have hll : l.length ≤ 1099511627776 := sl
  have hw : w64 ((a.length : Int) - 1) = (a.length : Int) - 1 := w64_eq _ (by omega)
  -- the two checks
  have hS := Conv_check (ρ := Int × Int) (n := l.length) (lo := 0) (f := fun i1 => (fun (_ : Unit) => M.bind (M.idx l i1) (fun x3 => M.bind (spec_l03Node a x3) (fun x4 => M.bind (M.ite (!x4) (M.ret true) (M.bind (M.ite (decide (0 < i1)) (M.bind (M.idx l i1) (fun x7 => M.bind (M.idx l (w64 (i1 - 1))) (fun x8 => M.ret (decide (x7 ≤ x8))))) (M.ret false)) (fun x6 => M.ret x6))) (fun x5 => M.ite x5 (M.ret (.inr (.inr (0, 2)))) (M.ret (.inl ()))))))) (fun i => (0 ≤ nd l i ∧ nd l i ≤ (a.length : Int) - 1) ∧ (0 < i → nd l (i - 1) < nd l i)) (0, 2) (by omega) (fun i _ hi => by
    have hnode : M.Conv (spec_l03Node a (nd l i)) (decide (0 ≤ nd l i) && decide (nd l i ≤ (a.length : Int) - 1)) := by
      unfold spec_l03Node; rw [hw]; exact M.Conv_bind (spec_l01In_ok _ _ _) (M.Conv_ret _)
    have hprev : M.Conv (M.ite (decide (0 < (i : Int))) (M.bind (M.idx l i) (fun x7 => M.bind (M.idx l (w64 ((i : Int) - 1))) (fun x8 => M.ret (decide (x7 ≤ x8))))) (M.ret false)) (decide (0 < i) && decide (nd l i ≤ nd l (i - 1))) := by
      refine M.Conv_ite (fun t => ?_) (fun t => (M.Conv_ret _).of ?_)
      · have t := of_decide_eq_true t
        rw [decide_eq_true (show 0 < i by omega), Bool.true_and]
        refine M.Conv_bind (nd_read hi) (M.Conv_bind (x := nd l (i - 1)) ?_ (M.Conv_ret _))
        rw [w64_eq _ (by omega), show (i : Int) - 1 = ((i - 1 : Nat) : Int) by omega]
        exact nd_read (by omega)
      · have t := of_decide_eq_false t
        rw [decide_eq_false (show ¬ 0 < i by omega), Bool.false_and]
    have hall : M.Conv (M.ite (!(decide (0 ≤ nd l i) && decide (nd l i ≤ (a.length : Int) - 1))) (M.ret true) (M.bind (M.ite (decide (0 < (i : Int))) (M.bind (M.idx l i) (fun x7 => M.bind (M.idx l (w64 ((i : Int) - 1))) (fun x8 => M.ret (decide (x7 ≤ x8))))) (M.ret false)) (fun x6 => M.ret x6))) (!(decide (0 ≤ nd l i) && decide (nd l i ≤ (a.length : Int) - 1)) || (decide (0 < i) && decide (nd l i ≤ nd l (i - 1)))) := Conv_or fun _ => M.Conv_bind hprev (M.Conv_ret _)
    by_cases hp : (0 ≤ nd l i ∧ nd l i ≤ (a.length : Int) - 1) ∧ (0 < i → nd l (i - 1) < nd l i)
    · refine .inl ⟨hp, M.Conv_bind (nd_read hi) (M.Conv_bind hnode (M.Conv_bind hall (M.Conv_ite (fun t => ?_) (fun _ => M.Conv_ret _))))⟩
      exfalso
      simp only [Bool.or_eq_true, Bool.not_eq_true', Bool.and_eq_true, decide_eq_true_eq, Bool.and_eq_false_iff, decide_eq_false_iff_not] at t
      omega
    · refine .inr ⟨hp, M.Conv_bind (nd_read hi) (M.Conv_bind hnode (M.Conv_bind hall (M.Conv_ite (fun _ => M.Conv_ret _) (fun t => ?_))))⟩
      exfalso
      simp only [Bool.or_eq_false_iff, Bool.not_eq_false', Bool.and_eq_true, decide_eq_true_eq, Bool.and_eq_false_iff, decide_eq_false_iff_not] at t
      omega)
  have hW : M.Conv (impl_allWithin l 0 (w64 ((a.length : Int) - 1))) (decide (∀ i, i < l.length → 0 ≤ nd l i ∧ nd l i ≤ (a.length : Int) - 1)) := by
    rw [hw]
    unfold impl_allWithin
    rcases Conv_check (ρ := Bool) (n := l.length) (lo := 0) (f := fun i1 => (fun (_ : Unit) => M.bind (M.idx l i1) (fun x2 => M.bind (impl_within x2 0 ((a.length : Int) - 1)) (fun x3 => M.ite (!x3) (M.ret (.inr (.inr false))) (M.ret (.inl ())))))) (fun i => 0 ≤ nd l i ∧ nd l i ≤ (a.length : Int) - 1) false (by omega) (fun i _ hi => by
      by_cases hp : 0 ≤ nd l i ∧ nd l i ≤ (a.length : Int) - 1
      · exact .inl ⟨hp, M.Conv_bind (nd_read hi) (M.Conv_bind (impl_within_ok _ _ _) (M.Conv_ite (fun t => by simp at t; omega) (fun _ => M.Conv_ret _)))⟩
      · exact .inr ⟨hp, M.Conv_bind (nd_read hi) (M.Conv_bind (impl_within_ok _ _ _) (M.Conv_ite (fun _ => M.Conv_ret _) (fun t => by simp at t; omega)))⟩) with ⟨h1, h2⟩ | ⟨⟨i, h0, h1, h3⟩, h2⟩
    · exact M.Conv_bind h2 ((M.Conv_ret _).of (decide_eq_true fun i hi => h1 i (by omega) hi).symm)
    · exact M.Conv_bind h2 ((M.Conv_ret _).of (decide_eq_false fun hc => h3 (hc i h1)).symm)
  have hN : M.Conv (impl_increasing l) (decide (∀ i, i < l.length → 0 < i → nd l (i - 1) < nd l i)) := by
    unfold impl_increasing
    rcases Conv_check (ρ := Bool) (n := l.length) (lo := 1) (f := fun i1 => (fun (_ : Unit) => M.bind (M.idx l (w64 (i1 - 1))) (fun x2 => M.bind (M.idx l i1) (fun x3 => M.ite (decide (x3 ≤ x2)) (M.ret (.inr (.inr false))) (M.ret (.inl ())))))) (fun i => nd l (i - 1) < nd l i) false (by omega) (fun i h1 hi => by
      have hr0 : M.Conv (M.idx l (w64 ((i : Int) - 1))) (nd l (i - 1)) := by
        rw [w64_eq _ (by omega), show (i : Int) - 1 = ((i - 1 : Nat) : Int) by omega]
        exact nd_read (by omega)
      by_cases hp : nd l (i - 1) < nd l i
      · exact .inl ⟨hp, M.Conv_bind hr0 (M.Conv_bind (nd_read hi) (M.Conv_ite (fun t => by simp at t; omega) (fun _ => M.Conv_ret _)))⟩
      · exact .inr ⟨hp, M.Conv_bind hr0 (M.Conv_bind (nd_read hi) (M.Conv_ite (fun _ => M.Conv_ret _) (fun t => by simp at t; omega)))⟩) with ⟨h1, h2⟩ | ⟨⟨i, h0, h1, h3⟩, h2⟩
    · exact M.Conv_bind h2 ((M.Conv_ret _).of (decide_eq_true fun i hi h0 => h1 i (by omega) hi).symm)
    · exact M.Conv_bind h2 ((M.Conv_ret _).of (decide_eq_false fun hc => h3 (hc i h1 (by omega))).symm)
  refine Two.right hW (Two.right (x := !(decide (∀ i, i < l.length → 0 ≤ nd l i ∧ nd l i ≤ (a.length : Int) - 1)) || !(decide (∀ i, i < l.length → 0 < i → nd l (i - 1) < nd l i))) (Conv_or fun _ => M.Conv_bind hN (M.Conv_ret _)) ?_)
  rcases hS with ⟨h1, h2⟩ | ⟨⟨i, h0, h1, h3⟩, h2⟩
  · have hok : OkNodes a.length l := fun i hi => h1 i (by omega) hi
    rw [decide_eq_true fun i hi => (hok i hi).1, decide_eq_true fun i hi => (hok i hi).2]
    refine Two.left h2 (Two.iteR (fun t => by simp at t) (fun _ => Two.bindC (spec_l10Part_ok hm hok) (impl_principal_ok hm hok) (Two.bindC (spec_l01Value_ok _) (impl_checkedValue_ok _) (Two.ret _ trivial))))
  · refine Two.left h2 (Two.iteR (fun _ => Two.ret _ trivial) (fun t => ?_))
    exfalso
    simp only [Bool.or_eq_false_iff, Bool.not_eq_false', decide_eq_true_eq] at t
    exact h3 ⟨t.1 i h1, t.2 i h1⟩

def bitsL (s : Nat) : Nat → List Int
  | 0 => []
  | m + 1 => bif bitN s m == 1 then bitsL s m ++ [(m : Int)] else bitsL s m
theorem bitsL_len (s : Nat) : ∀ m, (bitsL s m).length ≤ m
  | 0 => by simp [bitsL]
  | m + 1 => by have := bitsL_len s m; unfold bitsL; cases (bitN s m == 1) <;> simp <;> omega
theorem bitsL_ok (s : Nat) : ∀ m, OkNodes m (bitsL s m)
  | 0 => fun i h => by simp [bitsL] at h
  | m + 1 => by
    have ih := bitsL_ok s m
    unfold bitsL
    cases (bitN s m == 1) with
    | false => intro i hi; simp only [cond_false] at hi ⊢; have := ih i hi; exact ⟨⟨this.1.1, by omega⟩, this.2⟩
    | true =>
      intro i hi
      simp only [cond_true, List.length_append, List.length_cons, List.length_nil] at hi ⊢
      have hnd : ∀ k, k < (bitsL s m).length → nd (bitsL s m ++ [(m : Int)]) k = nd (bitsL s m) k := fun k hk => by unfold nd; rw [List.getElem?_append_left hk]
      by_cases e : i < (bitsL s m).length
      · have := ih i e
        rw [hnd i e]
        refine ⟨⟨this.1.1, by omega⟩, fun h0 => ?_⟩
        rw [hnd (i - 1) (by omega)]
        exact this.2 h0
      · obtain rfl : i = (bitsL s m).length := by omega
        have hl : nd (bitsL s m ++ [(m : Int)]) (bitsL s m).length = m := by unfold nd; rw [List.getElem?_append_right (Nat.le_refl _)]; simp
        rw [hl]
        refine ⟨⟨by omega, by omega⟩, fun h0 => ?_⟩
        rw [hnd _ (by omega)]
        have := (ih ((bitsL s m).length - 1) (by omega)).1
        omega
/-- one set of nodes counted in -/
def stepQ (a : List (List Int)) (c : List Int) (s : Nat) : List Int := c.set (a.length - (bitsL s a.length).length) (mx (nd c (a.length - (bitsL s a.length).length)) (prinV a (bitsL s a.length)))
def polyQ (a : List (List Int)) : Nat → List Int
  | 0 => tab (a.length + 1) fun _ => -1000000000000000
  | k + 1 => stepQ a (polyQ a k) k
theorem polyQ_len (a : List (List Int)) : ∀ k, (polyQ a k).length = a.length + 1
  | 0 => tab_len _ _
  | k + 1 => by rw [polyQ, stepQ, List.length_set, polyQ_len a k]
theorem bitsL_zero : ∀ m, bitsL 0 m = []
  | 0 => rfl
  | m + 1 => by rw [bitsL, show (bitN 0 m == 1) = false by simp [bitN], cond_false, bitsL_zero m]
theorem bitsU {s n : Nat} (hs : s < 1024) (hn : n ≤ 10) {f : Int → List Int → M (List Int ⊕ List Int)} (h : ∀ (i : Nat) (t : List Int), i < n → t.length ≤ 10 → M.Conv (f i t) (.inl (bif bitN s i == 1 then t ++ [(i : Int)] else t))) : M.Conv (M.forI 0 (n : Int) (fun s => s) f []) (bitsL s n) :=
  Conv_forV (fun i => bitsL s i) (by omega) fun i hi => by
    have := bitsL_len s i
    exact (h i (bitsL s i) hi (by omega)).of rfl
theorem stepQ_ok {a : List (List Int)} {c : List Int} {s : Nat} (hm : Mat a a.length) (hc : c.length = a.length + 1) :
    M.Conv (M.idx c (w64 ((a.length : Int) - ((bitsL s a.length).length : Int)))) (nd c (a.length - (bitsL s a.length).length)) ∧ M.Conv (M.upd c (w64 ((a.length : Int) - ((bitsL s a.length).length : Int))) (mx (nd c (a.length - (bitsL s a.length).length)) (prinV a (bitsL s a.length)))) (stepQ a c s) := by
  have hr := hm.rows
  have hl := bitsL_len s a.length
  have e : w64 ((a.length : Int) - ((bitsL s a.length).length : Int)) = ((a.length - (bitsL s a.length).length : Nat) : Int) := by rw [w64_eq _ (by omega)]; omega
  rw [e]
  exact ⟨nd_read (by omega), M.Conv_upd (by omega)⟩
theorem char_two (a : List (List Int)) (sa : smII a) : Two (spec_CharPolynomial a) (impl_CharPolynomial a) (fun w => smI w.1 ∧ (w.2 = 0 → sqB a = true ∧ w.1 = polyQ a (2 ^ a.length) ∧ polyB w.1 = true)) := by
  refine same_sq sa ⟨by simp [smI], fun h => by simp at h⟩ fun hs => ?_
  have hm := sq_mat hs
  have hr := hm.rows
  obtain ⟨hshU, hsh, hN, hN1, hwr⟩ := pow_ok (n := a.length) (by omega)
  have hw1 : w64 ((a.length : Int) + 1) = ((a.length + 1 : Nat) : Int) := by rw [w64_eq _ (by omega)]; omega
  rw [hw1, hshU, hsh]
  have hok := fun s => bitsL_ok s a.length
  have hS : M.Conv (spec_l02Bottom 1 ((a.length + 1 : Nat) : Int)) [polyQ a 0] := by
    have := spec_l02Bottom_ok (m := 1) (n := a.length + 1) (by omega) (by omega)
    exact this
  refine Two.left hS (Two.left (M.Conv_get (x := polyQ a 0) (by omega) rfl) (Two.left (x := (polyQ a (2 ^ a.length), ((2 ^ a.length : Nat) : Int))) ?_ ?_))
  · refine conv_up0 (fun k => (polyQ a k, (k : Int))) (n := 2 ^ a.length) (k0 := 0) rfl (by omega) (fun k _ hk => ?_) ?_
    · refine M.Conv_bind (M.Conv_guard (by simpa using hwr)) (M.Conv_ite (fun _ => ?_) (fun t => by have := of_decide_eq_false t; simp only at this; omega))
      refine M.Conv_bind (bitsU (s := k) (by omega) (by omega) fun i t hi ht => ?_) ?_
      · have hb := bit_ok (s := k) (j := i) (by omega) (by omega)
        refine M.Conv_bind (M.Conv_guard (by rw [hb.wrapU]; simp)) (M.Conv_bind (x := bif bitN k i == 1 then t ++ [(i : Int)] else t) ?_ (M.Conv_ret _))
        rw [hb.andU]
        refine M.Conv_ite (fun q => M.Conv_bind (M.Conv_app (by simp; omega)) ((M.Conv_ret _).of ?_)) (fun q => (M.Conv_ret _).of ?_)
        · rw [show (bitN k i == 1) = true by simp at q ⊢; omega]; rfl
        · rw [show (bitN k i == 1) = false by simp at q ⊢; omega]; rfl
      · obtain ⟨r1, r2⟩ := stepQ_ok (s := k) hm (polyQ_len a k)
        refine M.Conv_bind r1 (M.Conv_bind (spec_l10Part_ok hm (hok k)) (M.Conv_bind r1 (M.Conv_bind r2 ((M.Conv_ret _).of ?_))))
        rw [w64_eq _ (by simp only; omega)]; rfl
    · refine M.Conv_bind (M.Conv_guard (by simpa using hwr)) (M.Conv_ite (fun t => by have := of_decide_eq_true t; simp only at this; omega) (fun _ => M.Conv_ret _))
  · have h1 : polyQ a 1 = tab (a.length + 1) (fun p => bif decide (p < a.length) then -1000000000000000 else 0) := by
      have hnd : nd (tab (a.length + 1) fun _ => (-1000000000000000 : Int)) a.length = -1000000000000000 := by unfold nd; rw [tab_get (by omega)]; rfl
      rw [polyQ, stepQ, bitsL_zero, polyQ]
      simp only [List.length_nil, Nat.sub_zero]
      rw [hnd]
      refine tab_set ?_ ?_
      · simp [prinV, mx]
      · intro p hp hne
        rw [decide_eq_true (show p < a.length by omega)]; rfl
    refine Two.right ((M.Conv_make (by omega) (by omega)).of (r' := tab (a.length + 1) fun p => bif decide (p < 0) then -1000000000000000 else 0) ?_) (Two.right (x := polyQ a 1) ?_ (Two.right (x := (polyQ a (2 ^ a.length), ((2 ^ a.length : Nat) : Int))) ?_ ?_))
    · rw [Int.toNat_natCast, tab_rep]; exact tab_congr fun p _ => by simp
    · rw [h1]
      refine Conv_forV (fun i => tab (a.length + 1) fun p => bif decide (p < i) then (-1000000000000000 : Int) else 0) (by omega) fun i hi => ?_
      refine M.Conv_bind (idx_tab (by omega)) (M.Conv_bind (upd_tab (by omega) ?_ ?_) (M.Conv_ret _))
      · simp
      · intro p hp hne
        congr 1
        rw [Bool.eq_iff_iff]; simp; omega
    · refine conv_up0 (fun k => (polyQ a k, (k : Int))) (n := 2 ^ a.length) (k0 := 1) rfl (by omega) (fun k hk1 hk => ?_) ?_
      · refine M.Conv_bind (M.Conv_guard (by simp)) (M.Conv_ite (fun _ => ?_) (fun t => by have := of_decide_eq_false t; simp only at this; omega))
        refine M.Conv_bind (bitsU (s := k) (by omega) (by omega) fun i t hi ht => ?_) ?_
        · have hb := bit_ok (s := k) (j := i) (by omega) (by omega)
          refine M.Conv_bind (M.Conv_guard (by simp)) (M.Conv_bind (x := bif bitN k i == 1 then t ++ [(i : Int)] else t) ?_ (M.Conv_ret _))
          rw [hb.and]
          refine M.Conv_ite (fun q => M.Conv_bind (M.Conv_app (by simp; omega)) ((M.Conv_ret _).of ?_)) (fun q => (M.Conv_ret _).of ?_)
          · rw [show (bitN k i == 1) = true by simp at q ⊢; omega]; rfl
          · rw [show (bitN k i == 1) = false by simp at q ⊢; omega]; rfl
        · obtain ⟨r1, r2⟩ := stepQ_ok (s := k) hm (polyQ_len a k)
          refine M.Conv_bind r1 (M.Conv_bind (impl_principal_ok hm (hok k)) (M.Conv_bind r1 (M.Conv_bind r2 ((M.Conv_ret _).of ?_))))
          rw [w64_eq _ (by simp only; omega)]; rfl
      · refine M.Conv_bind (M.Conv_guard (by simp)) (M.Conv_ite (fun t => by have := of_decide_eq_true t; simp only at this; omega) (fun _ => M.Conv_ret _))
    · have hl := polyQ_len a (2 ^ a.length)
      have hge : ∀ k, 1 ≤ k → 0 ≤ nd (polyQ a k) a.length := by
        intro k
        induction k with
        | zero => intro h; omega
        | succ k ih =>
          intro _
          by_cases e : k = 0
          · subst e; rw [h1]; unfold nd; rw [tab_get (by omega)]; simp
          · have hI := ih (by omega)
            rw [polyQ, stepQ]
            unfold nd at hI ⊢
            rw [List.getElem?_set]
            by_cases q : a.length - (bitsL k a.length).length = a.length
            · rw [if_pos q, if_pos (by rw [polyQ_len]; omega)]
              simp only [Option.getD_some]
              rw [mx_eq, q]
              have := hI
              omega
            · rw [if_neg q]; exact hI
      have hany : (polyQ a (2 ^ a.length)).any (· != (-1000000000000000)) = true := by
        have := hge (2 ^ a.length) hN1
        have hg : (polyQ a (2 ^ a.length))[a.length]? = some ((polyQ a (2 ^ a.length))[a.length]'(by omega)) := List.getElem?_eq_getElem _
        unfold nd at this
        rw [hg, Option.getD_some] at this
        rw [List.any_eq_true]
        exact ⟨_, List.mem_of_getElem? hg, by simp; omega⟩
      have hpb : polyB (polyQ a (2 ^ a.length)) = (polyQ a (2 ^ a.length)).all valB := by
        unfold polyB
        rw [hany, decide_eq_true (by omega)]; simp
      refine Two.left (spec_IsPolynomial_ok (by simp only; omega)) (Two.right (impl_checkedVector_ok (by simp only; omega)) ?_)
      simp only
      rw [hpb]
      cases hall : (polyQ a (2 ^ a.length)).all valB with
      | false => exact Two.iteL (fun _ => Two.ret _ ⟨by simp [smI], fun h => by simp at h⟩) (fun t => by simp at t)
      | true => exact Two.iteL (fun t => by simp at t) (fun _ => Two.ret _ ⟨by simp only [smI]; omega, fun _ => ⟨hs, rfl, hpb.trans hall⟩⟩)
theorem cmp_ok (x y : Int) : M.Conv (cmp_Compare_i x y) (bif decide (x < y) then -1 else bif decide (y < x) then 1 else 0) := by
  unfold cmp_Compare_i
  have hn : ∀ z : Int, M.Conv (cmp_isNaN_i z) false := fun z => (M.Conv_ret _).of (by simp)
  exact M.Conv_bind (hn x) (M.Conv_bind (hn y) (M.Conv_ite (fun t => by cases t) (fun _ => M.Conv_ite (fun t => by cases t) (fun _ => M.Conv_ite2 (fun _ => M.Conv_ret _) (fun _ => M.Conv_ite2 (fun _ => M.Conv_ret _) (fun _ => M.Conv_ret _))))))
structure ByC (code : List Int) : Prop where
  len : code.length ≤ 4096
  byte : ∀ x ∈ code, 0 ≤ x ∧ x ≤ 255
structure Src (code : List Int) (s : TL01source) : Prop where
  code_ : s.code = code
  lo : 0 ≤ s.at_
  hi : s.at_ ≤ code.length
  seed : 0 ≤ s.seed ∧ s.seed < 2147483647
theorem Src.mk' {code : List Int} {s : TL01source} {c : List Int} (h : Src code s) (hc : c = code) : Src code ⟨c, s.at_, s.seed⟩ := ⟨hc, h.lo, h.hi, h.seed⟩
theorem tmod_in {x n : Int} (hx : 0 ≤ x) (hn : 0 < n) : 0 ≤ x.tmod n ∧ x.tmod n < n := ⟨Int.tmod_nonneg n hx, Int.tmod_lt_of_pos x hn⟩
theorem tdiv_in {x : Int} (hx : 0 ≤ x) (h : x < 2147483647) : 0 ≤ x.tdiv 31 ∧ x.tdiv 31 < 2147483647 := by
  rw [Int.tdiv_eq_ediv_of_nonneg hx]; omega
theorem from_ok {code : List Int} (hc : ByC code) : M.TC (spec_l01From code) (Src code) := by
  have hl := hc.len
  unfold spec_l01From
  refine M.TC_bind (Mid := fun x => 0 ≤ x.1 ∧ x.1 < 2147483647) (M.TC_loop (fun (s : Int × Int) => (0 ≤ s.1 ∧ s.1 < 2147483647) ∧ 0 ≤ s.2 ∧ s.2 ≤ 4096) (fun s => (4096 - s.2).toNat) (61403, 0) (by simp) fun s hs => ?_) fun x hx => M.TC_ret ⟨rfl, by simp, by simp, hx⟩
  refine M.TC_ite (fun t => ?_) (fun _ => M.TC_ret (.inr ⟨_, rfl, hs.1⟩))
  simp only [Bool.and_eq_true, decide_eq_true_eq] at t
  refine M.TC_bind (Mid := fun x => 0 ≤ x ∧ x ≤ 255) (M.TC_idx hs.2.1 t.1 fun x hx => hc.byte x (List.mem_of_getElem? hx)) fun x hx => M.TC_ret (.inl ⟨_, rfl, ?_, ?_⟩)
  · have e1 : w64 (s.1 * 67) = s.1 * 67 := w64_eq _ (by omega)
    have e2 : w64 x = x := w64_eq _ (by omega)
    have e3 : w64 (s.1 * 67 + x) = s.1 * 67 + x := w64_eq _ (by omega)
    have e4 : w64 (s.2 + 1) = s.2 + 1 := w64_eq _ (by omega)
    simp only [e1, e2, e3, e4]
    exact ⟨tmod_in (by omega) (by omega), by omega, by omega⟩
  · simp only
    rw [w64_eq _ (by omega)]; omega
theorem next_ok {code : List Int} (hc : ByC code) {s : TL01source} (hs : Src code s) (n : Int) (hn : n ≤ 1000000) : M.TC (spec_l01Next s n) (fun r => Src code r.2 ∧ 0 ≤ r.1 ∧ (r.1 < n ∨ (n ≤ 1 ∧ r.1 = 0))) := by
  have hl := hc.len
  obtain ⟨h1, h2, h3, h4⟩ := hs
  unfold spec_l01Next
  refine M.TC_ite (fun t => M.TC_ret ⟨⟨h1, h2, h3, h4⟩, by simp, .inr ⟨by simpa using t, rfl⟩⟩) (fun t => ?_)
  have t : 1 < n := by simpa using t
  have e1 : w64 (s.seed * 48271) = s.seed * 48271 := w64_eq _ (by omega)
  have e2 : w64 (s.seed * 48271 + 59) = s.seed * 48271 + 59 := w64_eq _ (by omega)
  have hsd := tmod_in (x := s.seed * 48271 + 59) (n := 2147483647) (by omega) (by omega)
  simp only [e1, e2]
  generalize (s.seed * 48271 + 59).tmod 2147483647 = sd at hsd ⊢
  have hq := tdiv_in hsd.1 hsd.2
  generalize sd.tdiv 31 = q at hq ⊢
  have e3 : w64 q = q := w64_eq _ (by omega)
  have e4 : w64 (s.at_ + 1) = s.at_ + 1 := w64_eq _ (by omega)
  simp only [e3, e4, h1]
  refine M.TC_bind (Mid := fun (x : Int × Int) => 0 ≤ x.1 ∧ 0 ≤ x.2 ∧ x.2 ≤ code.length) ?_ (fun x hx => M.TC_bind (M.TC_guard (Post := fun _ => True) (by simp; omega) trivial) fun _ _ => M.TC_ret ⟨⟨rfl, hx.2.1, hx.2.2, hsd⟩, (tmod_in hx.1 (by omega)).1, .inl (tmod_in hx.1 (by omega)).2⟩)
  refine M.TC_ite (fun t => ?_) (fun _ => M.TC_ret ⟨hq.1, h2, h3⟩)
  have t : s.at_ < code.length := by simpa using t
  refine M.TC_bind (Mid := fun x => 0 ≤ x ∧ x ≤ 255) (M.TC_idx h2 t fun x hx => hc.byte x (List.mem_of_getElem? hx)) fun x hx => ?_
  refine M.TC_ite (fun _ => ?_) (fun _ => M.TC_ret ⟨?_, by simp only; omega, by simp only; omega⟩)
  · have e5 : w64 (s.at_ + 1 - 1) = s.at_ := by rw [w64_eq _ (by omega)]; omega
    rw [e5]
    refine M.TC_bind (Mid := fun x => 0 ≤ x ∧ x ≤ 255) (M.TC_idx h2 t fun x hx => hc.byte x (List.mem_of_getElem? hx)) fun x hx => M.TC_ret ⟨?_, by simp only; omega, by simp only; omega⟩
    simp only
    rw [w64_eq _ (by omega)]; exact hx.1
  · simp only
    rw [w64_eq x (by omega), w64_eq _ (by omega)]; omega
theorem pick_ok {code : List Int} (hc : ByC code) {s : TL01source} (hs : Src code s) (l : List Int) (h1 : 1 ≤ l.length) (h2 : l.length ≤ 1000) (P : Int → Prop) (hP : ∀ x ∈ l, P x) : M.TC (spec_l01Pick s l) (fun r => Src code r.2.1 ∧ P r.1) := by
  unfold spec_l01Pick
  refine M.TC_bind (next_ok hc hs l.length (by omega)) fun x hx => M.TC_bind (Mid := P) (M.TC_idx hx.2.1 (by omega) fun y hy => hP y (List.mem_of_getElem? hy)) fun y hy => M.TC_ret ⟨hx.1.mk' hs.code_, hy⟩
theorem value_ok {code : List Int} (hc : ByC code) {s : TL01source} (hs : Src code s) : M.TC (spec_l01DrawValue s) (fun r => Src code r.2 ∧ inI64 r.1) := by
  unfold spec_l01DrawValue
  refine M.TC_bind (next_ok hc hs 24 (by omega)) fun x hx => ?_
  refine M.TC_bind (Mid := fun _ => True) (M.TC_ite (fun _ => M.TC_ret trivial) (fun _ => M.TC_ite (fun _ => M.TC_ret trivial) (fun _ => M.TC_ret trivial))) fun b _ => ?_
  refine M.TC_ite (fun _ => M.TC_ret ⟨hx.1.mk' hs.code_, by simp [inI64]⟩) (fun _ => M.TC_ite (fun _ => ?_) (fun _ => M.TC_ite (fun _ => ?_) (fun _ => ?_)))
  · exact M.TC_bind (pick_ok hc (hx.1.mk' hs.code_) _ (by simp) (by simp) inI64 (by simp [inI64])) fun y hy => M.TC_ret ⟨hy.1.mk' hs.code_, hy.2⟩
  · exact M.TC_bind (next_ok hc (hx.1.mk' hs.code_) 2000 (by omega)) fun y hy => M.TC_ret ⟨hy.1.mk' hs.code_, w64_bd _⟩
  · exact M.TC_bind (next_ok hc (hx.1.mk' hs.code_) 41 (by omega)) fun y hy => M.TC_ret ⟨hy.1.mk' hs.code_, w64_bd _⟩
/-- what a drawn matrix is at least: not large, of numbers -/
structure MatS (a : List (List Int)) : Prop where
  rows : a.length ≤ 11
  row : ∀ r ∈ a, r.length ≤ 10 ∧ ∀ x ∈ r, inI64 x
theorem MatS.sm {a : List (List Int)} (h : MatS a) : smII a := ⟨by have := h.rows; omega, fun r hr => by have := (h.row r hr).1; omega⟩
theorem MatS.fit {a : List (List Int)} (h : MatS a) : fitL (fitL inI64) a := ⟨by have := h.rows; omega, fun r hr => ⟨by have := (h.row r hr).1; omega, (h.row r hr).2⟩⟩
theorem MatS.of {m n : Nat} {f : Nat → Nat → Int} (hm : m ≤ 10) (hn : n ≤ 10) (hf : ∀ i j, inI64 (f i j)) : MatS (matF m n f) := by
  refine ⟨by rw [matF_len]; omega, fun r hr => ?_⟩
  simp only [matF, tab, List.mem_map, List.mem_range] at hr
  obtain ⟨i, hi, rfl⟩ := hr
  refine ⟨by simp; omega, fun x hx => ?_⟩
  simp only [List.mem_map, List.mem_range] at hx
  obtain ⟨j, hj, rfl⟩ := hx
  exact hf i j
theorem size_ok {code : List Int} (hc : ByC code) {s : TL01source} (hs : Src code s) (m n : Nat) (hm : 1 ≤ m ∧ m ≤ 10) (hn : 1 ≤ n ∧ n ≤ 10) : M.TC (spec_l02DrawSize s (m : Int) (n : Int)) (fun r => MatS r.1 ∧ Src code r.2) := by
  unfold spec_l02DrawSize
  rw [hs.code_]
  refine M.TC_bindC (spec_l02Bottom_ok (by omega) (by omega)) (M.TC_bind (pick_ok hc hs _ (by simp) (by simp) (fun x => 2 ≤ x ∧ x ≤ 5) (by simp)) fun p hp => ?_)
  refine M.TC_bind (Mid := fun (r : Int × Int × List (List Int)) => Src code ⟨code, r.1, r.2.1⟩ ∧ ∃ f, r.2.2 = matF m n f ∧ ∀ i j, inI64 (f i j)) (M.TC_for (fun _ (r : Int × Int × List (List Int)) => Src code ⟨code, r.1, r.2.1⟩ ∧ ∃ f, r.2.2 = matF m n f ∧ ∀ i j, inI64 (f i j)) _ (by omega) (by omega) ⟨hp.1.mk' rfl, _, rfl, fun _ _ => by simp [inI64]⟩ (fun i r h1 h2 hI => ?_) (fun _ _ _ hI => hI)) fun r hr => ?_
  · refine M.TC_bind (Mid := fun (r : Int × Int × List (List Int)) => Src code ⟨code, r.1, r.2.1⟩ ∧ ∃ f, r.2.2 = matF m n f ∧ ∀ i j, inI64 (f i j)) (M.TC_for (fun _ (r : Int × Int × List (List Int)) => Src code ⟨code, r.1, r.2.1⟩ ∧ ∃ f, r.2.2 = matF m n f ∧ ∀ i j, inI64 (f i j)) _ (by omega) (by omega) hI (fun j r h3 h4 hI => ?_) (fun _ _ _ hI => hI)) fun r hr => M.TC_ret (.inl ⟨_, rfl, hr⟩)
    obtain ⟨hsr, f, hf, hfi⟩ := hI
    refine M.TC_bind (next_ok hc hsr p.1 (by omega)) fun x hx => ?_
    refine M.TC_bind (Mid := fun (r : Int × Int × List (List Int)) => Src code ⟨code, r.1, r.2.1⟩ ∧ ∃ f, r.2.2 = matF m n f ∧ ∀ i j, inI64 (f i j)) (M.TC_ite (fun _ => ?_) (fun _ => M.TC_ret ⟨hx.1.mk' rfl, f, hf, hfi⟩)) fun r hr => M.TC_ret (.inl ⟨_, rfl, hr⟩)
    rw [hf]
    obtain ⟨i', rfl⟩ : ∃ q : Nat, i = (q : Int) := ⟨i.toNat, by omega⟩
    obtain ⟨j', rfl⟩ : ∃ q : Nat, j = (q : Int) := ⟨j.toNat, by omega⟩
    refine M.TC_bindC (idx_tab (by omega)) (M.TC_bind (next_ok hc (hx.1.mk' rfl) 26 (by omega)) fun y hy => ?_)
    refine M.TC_bindC (idx_tab (by omega)) (M.TC_bindC (M.Conv_upd (by rw [tab_len]; omega)) (M.TC_ret ⟨hy.1.mk' rfl, fun p q => if p = i' ∧ q = j' then w64 (y.1 - 10) else f p q, ?_, fun p q => ?_⟩))
    · simp only [Int.toNat_natCast]
      have := matF_set (m := m) (n := n) (i := i') (j := j') (f := f) (g := fun p q => if p = i' ∧ q = j' then w64 (y.1 - 10) else f p q) (fun p q _ _ hpq => by rw [if_neg hpq])
      simpa using this
    · simp only
      split
      · exact w64_bd _
      · exact hfi p q
  · obtain ⟨hsr, f, hf, hfi⟩ := hr
    refine M.TC_bind (next_ok hc hsr 60 (by omega)) fun x hx => ?_
    rw [hf]
    have hM := MatS.of (m := m) (n := n) hm.2 hn.2 hfi
    refine M.TC_ite (fun _ => ?_) (fun _ => M.TC_ite (fun _ => ?_) (fun _ => M.TC_ite (fun _ => ?_) (fun _ => M.TC_ret ⟨hM, hx.1.mk' rfl⟩)))
    · refine M.TC_bindC (idx_tab (i := 0) (by omega)) (M.TC_bind (value_ok hc (hx.1.mk' rfl)) fun y hy => ?_)
      refine M.TC_bindC (idx_tab (i := 0) (by omega)) (M.TC_bindC (M.Conv_upd (i := 0) (by rw [tab_len]; omega)) (M.TC_ret ⟨?_, hy.1.mk' rfl⟩))
      have := matF_set (m := m) (n := n) (i := 0) (j := 0) (f := f) (g := fun p q => if p = 0 ∧ q = 0 then y.1 else f p q) (fun p q _ _ hpq => by rw [if_neg hpq])
      rw [if_pos ⟨rfl, rfl⟩] at this
      rw [this]
      refine MatS.of hm.2 hn.2 fun p q => ?_
      split
      · exact hy.2
      · exact hfi p q
    · refine M.TC_bindC (M.Conv_app (by rw [matF_len]; simp; omega)) (M.TC_ret ⟨⟨by simp [matF_len]; omega, fun r hr => ?_⟩, hx.1.mk' rfl⟩)
      rcases List.mem_append.1 hr with hr | hr
      · exact hM.row r hr
      · simp at hr; subst hr; simp
    · exact M.TC_ret ⟨⟨by simp, by simp⟩, hx.1.mk' rfl⟩

structure VecS (x : List Int) : Prop where
  len : x.length ≤ 20
  mem : ∀ v ∈ x, inI64 v
theorem VecS.sm {x : List Int} (h : VecS x) : smI x := by have := h.len; unfold smI; omega
theorem VecS.fit {x : List Int} (h : VecS x) : fitL inI64 x := ⟨by have := h.len; omega, h.mem⟩
theorem VecS.snoc {x : List Int} {v : Int} (h : VecS x) (hl : x.length ≤ 19) (hv : inI64 v) : VecS (x ++ [v]) := ⟨by simp; omega, fun y hy => by
  rcases List.mem_append.1 hy with hy | hy
  · exact h.mem y hy
  · simp at hy; subst hy; exact hv⟩
theorem VecS.set {x : List Int} {v : Int} (i : Nat) (h : VecS x) (hv : inI64 v) : VecS (x.set i v) := ⟨by rw [List.length_set]; exact h.len, fun y hy => by
  rcases List.mem_or_eq_of_mem_set hy with hy | hy
  · exact h.mem y hy
  · subst hy; exact hv⟩
theorem likeInts_refl {a : List Int} (h : a.length ≤ 1099511627776) : M.Conv (laws_likeInts a a) true := by
  unfold laws_likeInts
  refine M.Conv_ite (fun t => by simp at t) (fun _ => ?_)
  rcases Conv_check (ρ := Bool) (n := a.length) (lo := 0) (f := (fun i1 => (fun (_ : Unit) => M.bind (M.idx a i1) (fun x2 => M.bind (M.idx a i1) (fun x3 => M.ite (x2 != x3) (M.ret (.inr (.inr false))) (M.ret (.inl ()))))))) (fun _ => True) false (by omega) (fun i _ hi => .inl ⟨trivial, M.Conv_bind (nd_read hi) (M.Conv_bind (nd_read hi) (M.Conv_ite (fun t => by simp at t) (fun _ => M.Conv_ret _)))⟩) with ⟨_, h2⟩ | ⟨⟨i, _, _, h3⟩, _⟩
  · exact M.Conv_bind h2 (M.Conv_ret _)
  · exact absurd trivial h3
theorem foldI_at {σ α : Type} {g : Nat → α → σ → σ} {a : List α} (J : Nat → σ → Prop) : ∀ (l : List α) (i : Nat) (s : σ), (∀ k, l[k]? = a[i + k]?) → J i s → (∀ k x s, a[k]? = some x → J k s → J (k + 1) (g k x s)) → J (i + l.length) (foldI g i l s)
  | [], i, s, _, h, _ => h
  | x :: xs, i, s, hl, h, step => by
    have h0 : a[i]? = some x := by have := hl 0; simpa using this.symm
    have := foldI_at J xs (i + 1) (g i x s) (fun k => by have := hl (k + 1); simp only [List.getElem?_cons_succ] at this; rw [this]; congr 1; omega) (step i x s h0 h) step
    rw [show i + (x :: xs).length = i + 1 + xs.length by simp; omega]
    exact this
theorem ent_at {a : List (List Int)} {i j : Nat} {row : List Int} (h : a[i]? = some row) : entA a i j = (row[j]?).getD 0 := by simp only [entA, h, Option.getD_some]
theorem val_ent {a : List (List Int)} {w i j : Nat} (hm : Mat a w) (hi : i < a.length) (hj : j < w) : entA a i j = -1000000000000000 ∨ (-1000000 ≤ entA a i j ∧ entA a i j ≤ 1000000) := val_cases (ent_val hm hi hj).2.2
theorem big_ok (code : List Int) : M.Conv (laws_big code) (decide (4096 < (code.length : Int))) := M.Conv_ret _
theorem ByC.of {code : List Int} (h : fitL inU8 code) (hb : decide (4096 < (code.length : Int)) = false) : ByC code := ⟨by have := of_decide_eq_false hb; omega, fun x hx => h.2 x hx⟩
theorem cmp_list0 {l : List Int} {c : Int} (h : l.length ≤ 1099511627776) : M.Conv (M.ite (c != c) (M.ret true) (M.bind (laws_likeInts l l) (fun x12 => M.ret (!x12)))) false :=
  M.Conv_ite (fun t => by simp at t) (fun _ => M.Conv_bind (likeInts_refl h) (M.Conv_ret _))
def co (c : List Int) (i : Nat) : Int := (c[i]?).getD (-1000000000000000)
theorem co_get {c : List Int} {i : Nat} (h : i < c.length) : c[i]? = some (co c i) := by
  unfold co; rw [List.getElem?_eq_getElem h]; rfl
theorem co_out {c : List Int} {i : Nat} (h : c.length ≤ i) : co c i = -1000000000000000 := by
  unfold co; rw [List.getElem?_eq_none h]; rfl
theorem co_val {c : List Int} (hv : c.all valB = true) (i : Nat) : co c i = -1000000000000000 ∨ -1000000 ≤ co c i ∧ co c i ≤ 1000000 := by
  by_cases hi : i < c.length
  · rw [List.all_eq_true] at hv
    exact val_cases (hv _ (List.mem_of_getElem? (co_get hi)))
  · exact .inl (co_out (by omega))
theorem times_co {a p : Int} (h : a ≠ -1000000000000000) (ha : -1000000 ≤ a ∧ a ≤ 1000000) (hp : -1000000 ≤ p ∧ p ≤ 1000000) : timesI a p = a + p := by
  simp only [timesI]
  rw [show (a == (-1000000000000000)) = false by simpa using h, show (p == (-1000000000000000)) = false by simp; omega]
  exact w64_eq _ (by omega)
theorem times_bot (p : Int) : timesI (-1000000000000000) p = -1000000000000000 := by simp [timesI]
structure IsEv (c : List Int) (x v : Int) : Prop where
  up : ∀ i : Nat, co c i ≠ -1000000000000000 → co c i + i * x ≤ v
  on : ∃ i : Nat, co c i ≠ -1000000000000000 ∧ v = co c i + i * x
theorem IsEv.unique {c : List Int} {x v w : Int} (h : IsEv c x v) (g : IsEv c x w) : v = w := by
  obtain ⟨i, h1, h2⟩ := h.on
  obtain ⟨k, g1, g2⟩ := g.on
  have := h.up k g1
  have := g.up i h1
  omega
structure PartP (c d : List Int) (n i k : Nat) (s : List Int) : Prop where
  len : s.length = n
  up : ∀ p q : Nat, (p < i ∨ p = i ∧ q < k) → co c p ≠ -1000000000000000 → co d q ≠ -1000000000000000 → co c p + co d q ≤ co s (p + q)
  on : ∀ m : Nat, co s m = -1000000000000000 ∨ ∃ p q : Nat, p + q = m ∧ co c p ≠ -1000000000000000 ∧ co d q ≠ -1000000000000000 ∧ co s m = co c p + co d q
theorem co_set {s : List Int} {i m : Nat} {v : Int} (hi : i < s.length) : co (s.set i v) m = if m = i then v else co s m := by
  unfold co
  by_cases e : m = i
  · subst e; rw [if_pos rfl, List.getElem?_set_self hi]; rfl
  · rw [if_neg e, List.getElem?_set_ne (by omega)]
theorem PartP.step {c d s : List Int} {n i k : Nat} (hc : c.all valB = true) (hd : d.all valB = true) (h : PartP c d n i k s) (hn : i + k < n) : PartP c d n i (k + 1) (s.set (i + k) (mx (co s (i + k)) (timesI (co c i) (co d k)))) := by
  have hlt : i + k < s.length := by rw [h.len]; exact hn
  have vc := co_val hc i
  have vd := co_val hd k
  have vs : co s (i + k) = -1000000000000000 ∨ -2000000 ≤ co s (i + k) := by
    rcases h.on (i + k) with e | ⟨p, q, _, h1, h2, e⟩
    · exact .inl e
    · have := co_val hc p
      have := co_val hd q
      omega
  -- the new coefficient
  have hz : (mx (co s (i + k)) (timesI (co c i) (co d k)) = co s (i + k) ∧ (co c i = -1000000000000000 ∨ co d k = -1000000000000000 ∨ co c i + co d k ≤ co s (i + k))) ∨ (mx (co s (i + k)) (timesI (co c i) (co d k)) = co c i + co d k ∧ co c i ≠ -1000000000000000 ∧ co d k ≠ -1000000000000000 ∧ co s (i + k) ≤ co c i + co d k) := by
    rw [mx_eq]
    by_cases e1 : co c i = -1000000000000000
    · rw [e1, times_bot]; left; omega
    · by_cases e2 : co d k = -1000000000000000
      · rw [e2, show timesI (co c i) (-1000000000000000) = -1000000000000000 by simp [timesI]]; left; omega
      · rw [times_co e1 (by omega) (by omega)]
        by_cases e3 : co c i + co d k ≤ co s (i + k)
        · left; omega
        · right; omega
  refine ⟨by rw [List.length_set]; exact h.len, fun p q hpq h1 h2 => ?_, fun m => ?_⟩
  · rw [co_set hlt]
    by_cases e : p + q = i + k
    · rw [if_pos e]
      by_cases e2 : p = i ∧ q = k
      · obtain ⟨rfl, rfl⟩ := e2; omega
      · have := h.up p q (by omega) h1 h2
        rw [e] at this
        omega
    · rw [if_neg e]
      exact h.up p q (by omega) h1 h2
  · rw [co_set hlt]
    by_cases e : m = i + k
    · rw [if_pos e]
      rcases hz with ⟨hz, _⟩ | ⟨hz, h1, h2, _⟩
      · rw [hz]
        have := h.on m
        rw [e] at this ⊢
        exact this
      · exact .inr ⟨i, k, e.symm, h1, h2, hz⟩
    · rw [if_neg e]; exact h.on m
theorem shp_width {a : List (List Int)} {w : Nat} (h : Shp a w) : widthN a = w := by
  have h1 := h.rows
  unfold widthN
  cases a with
  | nil => simp at h1
  | cons r rs => exact h.row r (by simp)
theorem mat_matB {a : List (List Int)} {w : Nat} (h : Mat a w) : matB a = true := by
  rw [matB_shp h.shp, List.all_eq_true]
  intro r hr
  rw [List.all_eq_true]
  exact (h.row r hr).2
structure DotP (u v : Nat → Int) (n : Nat) (s : Int) : Prop where
  up : ∀ j, j < n → u j ≠ -1000000000000000 → v j ≠ -1000000000000000 → u j + v j ≤ s
  on : s = -1000000000000000 ∨ ∃ j, j < n ∧ u j ≠ -1000000000000000 ∧ v j ≠ -1000000000000000 ∧ s = u j + v j
def Bd (B : Int) (x : Int) : Prop := x = -1000000000000000 ∨ (-B ≤ x ∧ x ≤ B)
theorem DotP.unique {u v : Nat → Int} {n : Nat} {s t : Int} (hu : ∀ j, j < n → Bd 2000000 (u j)) (hv : ∀ j, j < n → Bd 2000000 (v j)) (h : DotP u v n s) (g : DotP u v n t) : s = t := by
  have key : ∀ {s t : Int}, DotP u v n s → DotP u v n t → t ≤ s := fun {s t} h g => by
    rcases g.on with e | ⟨j, hj, h1, h2, e⟩
    · rcases h.on with e' | ⟨j, hj, h1, h2, e'⟩
      · omega
      · have b1 := hu j hj
        have b2 := hv j hj
        unfold Bd at b1 b2
        omega
    · have := h.up j hj h1 h2
      omega
  have := key h g
  have := key g h
  omega
theorem nd_of {l : List Int} {i : Nat} {x : Int} (h : l[i]? = some x) : nd l i = x := by unfold nd; rw [h]; rfl
theorem dotL_ok {x row : List Int} (hl : x.length = row.length) (hr : ∀ j, j < row.length → Bd 2000000 (nd row j)) (hx : ∀ j, j < row.length → Bd 2000000 (nd x j)) : DotP (nd row) (nd x) row.length (dotL x row) := by
  have key := foldI_at (g := fun j v s => mx s (timesI v ((x[j]?).getD 0))) (a := row) (fun k (s : Int) => k ≤ row.length ∧ -1000000000000000 ≤ s ∧ (∀ j, j < k → nd row j ≠ -1000000000000000 → nd x j ≠ -1000000000000000 → nd row j + nd x j ≤ s) ∧ (s = -1000000000000000 ∨ ∃ j, j < k ∧ nd row j ≠ -1000000000000000 ∧ nd x j ≠ -1000000000000000 ∧ s = nd row j + nd x j)) row 0 (-1000000000000000) (fun k => by simp) ⟨by omega, by omega, fun j hj => by omega, .inl rfl⟩ (fun k v s hv hI => by
    obtain ⟨_, i1, i2, i3⟩ := hI
    have hk := (List.getElem?_eq_some_iff.1 hv).1
    have ev := nd_of hv
    have b1 := hr k hk
    have b2 := hx k hk
    unfold Bd at b1 b2
    have et : timesI v ((x[k]?).getD 0) = bif (v == (-1000000000000000)) || (nd x k == (-1000000000000000)) then -1000000000000000 else v + nd x k := by
      change timesI v (nd x k) = _
      unfold timesI
      cases hz : ((v == (-1000000000000000)) || (nd x k == (-1000000000000000))) with
      | true => rfl
      | false =>
        simp only [Bool.or_eq_false_iff, beq_eq_false_iff_ne, ne_eq] at hz
        simp only [cond_false]
        exact w64_eq _ (by omega)
    refine ⟨by omega, by rw [mx_eq]; omega, fun j hj h1 h2 => ?_, ?_⟩
    · rw [mx_eq]
      by_cases e : j = k
      · subst e
        rw [et, show (v == (-1000000000000000)) = false by rw [← ev]; simpa using h1, show (nd x j == (-1000000000000000)) = false by simpa using h2]
        simp only [Bool.or_self, cond_false]; omega
      · have := i2 j (by omega) h1 h2
        omega
    · rw [mx_eq, et]
      have old : s = -1000000000000000 ∨ ∃ j, j < k + 1 ∧ nd row j ≠ -1000000000000000 ∧ nd x j ≠ -1000000000000000 ∧ s = nd row j + nd x j := i3.imp id fun ⟨j, hj, h⟩ => ⟨j, by omega, h⟩
      cases hz : ((v == (-1000000000000000)) || (nd x k == (-1000000000000000))) with
      | true =>
        simp only [cond_true]
        rw [show max s (-1000000000000000) = s by omega]
        exact old
      | false =>
        simp only [Bool.or_eq_false_iff, beq_eq_false_iff_ne, ne_eq] at hz
        simp only [cond_false]
        by_cases e : s ≤ v + nd x k
        · rw [show max s (v + nd x k) = v + nd x k by omega]
          exact .inr ⟨k, by omega, by rw [ev]; exact hz.1, hz.2, by rw [ev]⟩
        · rw [show max s (v + nd x k) = s by omega]
          exact old)
  obtain ⟨_, _, k2, k3⟩ := key
  rw [Nat.zero_add] at k2 k3
  exact ⟨k2, k3⟩
def rowN (a : List (List Int)) (i : Nat) : List Int := (a[i]?).getD []
theorem rowN_get {a : List (List Int)} {i : Nat} (h : i < a.length) : a[i]? = some (rowN a i) := by unfold rowN; rw [List.getElem?_eq_getElem h]; rfl
theorem nd_row {a : List (List Int)} {i j : Nat} (h : i < a.length) : nd (rowN a i) j = entA a i j := (ent_at (rowN_get h)).symm
theorem nd_col {b : List (List Int)} {j k : Nat} (h : j < b.length) : nd (colL b k) j = entA b j k := nd_of (tab_get h)
def mulM (a b : List (List Int)) : List (List Int) := matF a.length (widthN b) fun i k => dotL (colL b k) (rowN a i)
theorem mulM_shp {a b : List (List Int)} {n w : Nat} (ha : Shp a n) (hb : Shp b w) : Shp (mulM a b) w := by
  unfold mulM
  rw [shp_width hb]
  exact shp_of ha.rows hb.cols
theorem mat_bd {a : List (List Int)} {w i j : Nat} (h : Mat a w) (hi : i < a.length) (hj : j < w) : Bd 1000000 (entA a i j) := val_ent h hi hj
theorem DotP.congr {u v u' v' : Nat → Int} {n : Nat} {s : Int} (h : DotP u v n s) (hu : ∀ j, j < n → u j = u' j) (hv : ∀ j, j < n → v j = v' j) : DotP u' v' n s := by
  refine ⟨fun j hj h1 h2 => ?_, ?_⟩
  · rw [← hu j hj] at h1 ⊢
    rw [← hv j hj] at h2 ⊢
    exact h.up j hj h1 h2
  · rcases h.on with e | ⟨j, hj, h1, h2, e⟩
    · exact .inl e
    · rw [hu j hj] at h1 e
      rw [hv j hj] at h2 e
      exact .inr ⟨j, hj, h1, h2, e⟩
theorem bd_up {x : Int} (h : Bd 1000000 x) : Bd 2000000 x := by unfold Bd at *; omega
theorem mulM_eq (a b : List (List Int)) : mulM a b = matF a.length (widthN b) fun i k => dotL (colL b k) (rowN a i) := rfl
def pw (a f : List (List Int)) : Nat → List (List Int)
  | 0 => f
  | k + 1 => mulM a (pw a f k)
structure Ser (a f : List (List Int)) (w : Nat) : Prop where
  mat : Mat a a.length
  fst : Mat f w
  len : f.length = a.length
theorem Ser.shp {a f : List (List Int)} {w : Nat} (h : Ser a f w) : ∀ k, Shp (pw a f k) w ∧ (pw a f k).length = a.length
  | 0 => ⟨h.fst.shp, h.len⟩
  | k + 1 => ⟨mulM_shp h.mat.shp (h.shp k).1, matF_len _ _ _⟩
def okTo (a f : List (List Int)) (k : Nat) : Prop := ∀ i, i ≤ k → matB (pw a f i) = true
theorem Ser.zero {a f : List (List Int)} {w : Nat} (h : Ser a f w) : okTo a f 0 := fun i hi => by
  obtain rfl : i = 0 := by omega
  exact mat_matB h.fst
theorem okTo.mono {a f : List (List Int)} {k m : Nat} (h : okTo a f k) (hm : m ≤ k) : okTo a f m := fun i hi => h i (by omega)
def fl (a f : List (List Int)) (i : Nat) : List Int := (pw a f i).flatten
/-- what lies in a product of matrices of values -/
theorem mul_dot {A B : List (List Int)} {n w : Nat} (hA : Shp A n) (hB : Shp B w) (hn : B.length = n) (bA : ∀ i j, i < A.length → j < n → Bd 2000000 (entA A i j)) (bB : ∀ j k, j < n → k < w → Bd 2000000 (entA B j k)) {i k : Nat} (hi : i < A.length) (hk : k < w) :
    DotP (entA A i) (fun j => entA B j k) n (entA (mulM A B) i k) := by
  have hrl := hA.row _ (List.mem_of_getElem? (rowN_get hi))
  have hcl : (colL B k).length = B.length := tab_len _ _
  have he : entA (mulM A B) i k = dotL (colL B k) (rowN A i) := by
    rw [mulM_eq]
    exact entA_matF hi (by rw [shp_width hB]; exact hk)
  have := dotL_ok (x := colL B k) (row := rowN A i) (by omega) (fun j hj => by rw [nd_row hi]; exact bA i j hi (by omega)) (fun j hj => by rw [nd_col (by omega)]; exact bB j k (by omega) hk)
  rw [hrl, ← he] at this
  exact this.congr (fun j _ => nd_row hi) (fun j hj => nd_col (by omega))
theorem mul_bdd {A B : List (List Int)} {n w : Nat} (hA : Mat A n) (hB : Mat B w) (hn : B.length = n) {i k : Nat} (hi : i < A.length) (hk : k < w) : Bd 2000000 (entA (mulM A B) i k) := by
  have d := mul_dot hA.shp hB.shp hn (fun i j hi hj => bd_up (mat_bd hA hi hj)) (fun j k hj hk => bd_up (mat_bd hB (by omega) hk)) hi hk
  rcases d.on with e | ⟨j, hj, h1, h2, e⟩
  · exact .inl e
  · have b1 := mat_bd hA hi hj
    have b2 := mat_bd hB (i := j) (j := k) (by omega) hk
    unfold Bd at *
    omega
theorem dot_ne {u v : Nat → Int} {n : Nat} {s : Int} (hu : ∀ j, j < n → Bd 2000000 (u j)) (hv : ∀ j, j < n → Bd 2000000 (v j)) (h : DotP u v n s) {j : Nat} (hj : j < n) (h1 : u j ≠ -1000000000000000) (h2 : v j ≠ -1000000000000000) : s ≠ -1000000000000000 := by
  have := h.up j hj h1 h2
  have b1 := hu j hj
  have b2 := hv j hj
  unfold Bd at *
  omega
theorem mul_assoc {A B C : List (List Int)} {n m w : Nat} (hA : Mat A n) (hB : Mat B m) (hC : Mat C w) (h1 : B.length = n) (h2 : C.length = m) : mulM (mulM A B) C = mulM A (mulM B C) := by
  have sAB := mulM_shp hA.shp hB.shp
  have sBC := mulM_shp hB.shp hC.shp
  have lAB : (mulM A B).length = A.length := matF_len _ _ _
  have lBC : (mulM B C).length = B.length := matF_len _ _ _
  have b0 : ∀ i k, i < A.length → k < m → Bd 2000000 (entA (mulM A B) i k) := fun i k hi hk => mul_bdd hA hB h1 hi hk
  have b1 : ∀ i k, i < n → k < w → Bd 2000000 (entA (mulM B C) i k) := fun i k hi hk => mul_bdd hB hC h2 (by omega) hk
  have bA : ∀ i j, i < A.length → j < n → Bd 2000000 (entA A i j) := fun i j hi hj => bd_up (mat_bd hA hi hj)
  have bB : ∀ i j, i < n → j < m → Bd 2000000 (entA B i j) := fun i j hi hj => bd_up (mat_bd hB (by omega) hj)
  have bC : ∀ i j, i < m → j < w → Bd 2000000 (entA C i j) := fun i j hi hj => bd_up (mat_bd hC (by omega) hj)
  have sL := mulM_shp sAB hC.shp
  have sR := mulM_shp hA.shp sBC
  have lL : (mulM (mulM A B) C).length = A.length := (matF_len _ _ _).trans lAB
  have lR : (mulM A (mulM B C)).length = A.length := matF_len _ _ _
  rw [mat_eq sL, mat_eq sR, lL, lR]
  refine matF_congr fun i k hi hk => ?_
  have dL := mul_dot sAB hC.shp h2 (fun i j hi hj => b0 i j (by omega) hj) bC (i := i) (k := k) (by omega) hk
  have dR := mul_dot hA.shp sBC (by omega) bA b1 hi hk
  have dAB := fun l (hl : l < m) => mul_dot hA.shp hB.shp h1 bA bB (i := i) (k := l) hi hl
  have dBC := fun j (hj : j < n) => mul_dot hB.shp hC.shp h2 (fun i j hi hj => bB i j (by omega) hj) bC (i := j) (k := k) (by omega) hk
  have hle1 : entA (mulM (mulM A B) C) i k ≠ -1000000000000000 → entA (mulM A (mulM B C)) i k ≠ -1000000000000000 ∧ entA (mulM (mulM A B) C) i k ≤ entA (mulM A (mulM B C)) i k := fun hne => by
    obtain ⟨l, hl, n1, n2, e⟩ := dL.on.resolve_left hne
    obtain ⟨j, hj, n3, n4, e2⟩ := (dAB l hl).on.resolve_left n1
    have u1 := (dBC j hj).up l hl n4 n2
    have n5 := dot_ne (fun l hl => bB j l hj hl) (fun l hl => bC l k hl hk) (dBC j hj) hl n4 n2
    have u2 := dR.up j hj n3 n5
    have n6 := dot_ne (fun j hj => bA i j hi hj) (fun j hj => b1 j k hj hk) dR hj n3 n5
    exact ⟨n6, by omega⟩
  have hle2 : entA (mulM A (mulM B C)) i k ≠ -1000000000000000 → entA (mulM (mulM A B) C) i k ≠ -1000000000000000 ∧ entA (mulM A (mulM B C)) i k ≤ entA (mulM (mulM A B) C) i k := fun hne => by
    obtain ⟨j, hj, n1, n2, e⟩ := dR.on.resolve_left hne
    obtain ⟨l, hl, n3, n4, e2⟩ := (dBC j hj).on.resolve_left n2
    have u1 := (dAB l hl).up j hj n1 n3
    have n5 := dot_ne (fun j hj => bA i j hi hj) (fun j hj => bB j l hj hl) (dAB l hl) hj n1 n3
    have u2 := dL.up l hl n5 n4
    have n6 := dot_ne (fun l hl => b0 i l hi hl) (fun l hl => bC l k hl hk) dL hl n5 n4
    exact ⟨n6, by omega⟩
  by_cases e1 : entA (mulM (mulM A B) C) i k = -1000000000000000
  · by_cases e2 : entA (mulM A (mulM B C)) i k = -1000000000000000
    · rw [e1, e2]
    · exact absurd e1 (hle2 e2).1
  · have := hle1 e1
    have := hle2 this.1
    omega
structure Gr (g : TGraph) (n : Nat) : Prop where
  ev : g.Events = (n : Int)
  lo : 1 ≤ n
  hi : n ≤ 10
  len : g.Places.length ≤ 30
  pl : ∀ p ∈ g.Places, (0 ≤ p.From ∧ p.From < n) ∧ (0 ≤ p.To ∧ p.To < n) ∧ 0 ≤ p.Tokens ∧ p.Tokens ≤ 5
/-- a way from s of at most k places -/
inductive Wk (ps : List TPlace) (s : Int) : Nat → Int → Int → Prop
  | nil (k : Nat) : Wk ps s k s 0
  | step (k : Nat) (p : TPlace) (w : Int) : p ∈ ps → Wk ps s k p.From w → Wk ps s (k + 1) p.To (w + p.Tokens)
theorem Wk.mono {ps : List TPlace} {s : Int} {k : Nat} {v w : Int} (h : Wk ps s k v w) : ∀ {m : Nat}, k ≤ m → Wk ps s m v w := by
  induction h with
  | nil k => exact fun _ => .nil _
  | step k p w hp _ ih =>
    intro m hm
    obtain ⟨m', rfl⟩ : ∃ m', m = m' + 1 := ⟨m - 1, by omega⟩
    exact .step m' p w hp (ih (by omega))
def muL : List Int → Nat
  | [] => 0
  | x :: xs => (if x < 0 then 1000 else x.toNat) + muL xs
def cntL : List Int → Nat
  | [] => 0
  | x :: xs => (if x < 0 then 0 else 1) + cntL xs
theorem cnt_le : ∀ d : List Int, cntL d ≤ d.length
  | [] => Nat.le_refl _
  | x :: xs => by
    have := cnt_le xs
    simp only [cntL, List.length_cons]
    split <;> omega
theorem nd_cons (x : Int) (xs : List Int) (i : Nat) : nd (x :: xs) (i + 1) = nd xs i := by simp [nd]
theorem mu_set : ∀ {d : List Int} {i : Nat} {x : Int}, i < d.length → 0 ≤ x → x ≤ 900 → (nd d i < 0 ∨ x < nd d i) → muL (d.set i x) < muL d ∧ cntL (d.set i x) = cntL d + (if nd d i < 0 then 1 else 0)
  | y :: ys, 0, x, _, h0, h1, h => by
    have e : nd (y :: ys) 0 = y := by simp [nd]
    rw [e] at h ⊢
    simp only [List.set_cons_zero, muL, cntL]
    rw [if_neg (show ¬ x < 0 by omega), if_neg (show ¬ x < 0 by omega)]
    by_cases hy : y < 0
    · simp only [if_pos hy]; omega
    · simp only [if_neg hy]; omega
  | y :: ys, i + 1, x, hi, h0, h1, h => by
    rw [nd_cons] at h ⊢
    have := mu_set (d := ys) (i := i) (by simpa using hi) h0 h1 h
    simp only [List.set_cons_succ, muL, cntL]
    omega
theorem nd_set {d : List Int} {i v : Nat} {x : Int} (hi : i < d.length) : nd (d.set i x) v = if v = i then x else nd d v := by
  unfold nd
  by_cases e : v = i
  · subst e; rw [if_pos rfl, List.getElem?_set_self hi]; rfl
  · rw [if_neg e, List.getElem?_set_ne (by omega)]
structure DInv (ps : List TPlace) (s : Int) (n : Nat) (d : List Int) : Prop where
  len : d.length = n
  src : nd d s.toNat = 0
  way : ∀ v : Int, 0 ≤ v → v < n → nd d v.toNat = -1 ∨ (0 ≤ nd d v.toNat ∧ ∃ k, Wk ps s k v (nd d v.toNat))
  bd : ∀ v : Nat, v < n → nd d v ≤ 5 * ((cntL d : Int) - 1)
  one : 1 ≤ cntL d
def Relax (ps : List TPlace) (d : List Int) : Prop := ∀ p ∈ ps, 0 ≤ nd d p.From.toNat → 0 ≤ nd d p.To.toNat ∧ nd d p.To.toNat ≤ nd d p.From.toNat + p.Tokens
theorem DInv.upd {g : TGraph} {s : Int} {n : Nat} {d : List Int} (hg : Gr g n) (hs : 0 ≤ s ∧ s < n) (h : DInv g.Places s n d) {p : TPlace} (hp : p ∈ g.Places) (hf : 0 ≤ nd d p.From.toNat) (ht : nd d p.To.toNat < 0 ∨ nd d p.From.toNat + p.Tokens < nd d p.To.toNat) :
    DInv g.Places s n (d.set p.To.toNat (nd d p.From.toNat + p.Tokens)) ∧ muL (d.set p.To.toNat (nd d p.From.toNat + p.Tokens)) < muL d := by
  obtain ⟨f1, t1, k0, k5⟩ := hg.pl p hp
  have hlt : p.To.toNat < d.length := by rw [h.len]; omega
  have hb := h.bd p.From.toNat (by omega)
  have hc := cnt_le d
  have hn := hg.hi
  have hl := h.len
  obtain ⟨m1, m2⟩ := mu_set (x := nd d p.From.toNat + p.Tokens) hlt (by omega) (by omega) ht
  refine ⟨⟨by rw [List.length_set]; exact h.len, ?_, fun v v0 v1 => ?_, fun v hv => ?_, by rw [m2]; have := h.one; omega⟩, m1⟩
  · rw [nd_set hlt]
    by_cases e : s.toNat = p.To.toNat
    · have := h.src
      rw [e] at this
      omega
    · rw [if_neg e]; exact h.src
  · rw [nd_set hlt]
    by_cases e : v.toNat = p.To.toNat
    · rw [if_pos e]
      right
      refine ⟨by omega, ?_⟩
      rcases h.way p.From f1.1 f1.2 with h1 | ⟨_, k, h1⟩
      · omega
      · obtain rfl : v = p.To := by omega
        exact ⟨k + 1, .step k p _ hp h1⟩
    · rw [if_neg e]; exact h.way v v0 v1
  · rw [nd_set hlt, m2]
    have := h.bd v hv
    by_cases e : v = p.To.toNat
    · rw [if_pos e]
      by_cases e2 : nd d p.To.toNat < 0
      · rw [if_pos e2]; omega
      · rw [if_neg e2]
        have := h.bd p.To.toNat (by omega)
        omega
    · rw [if_neg e]
      split <;> omega
theorem Relax.le {ps : List TPlace} {s : Int} {d : List Int} (hr : Relax ps d) (h0 : nd d s.toNat = 0) {k : Nat} {v w : Int} (h : Wk ps s k v w) : 0 ≤ nd d v.toNat ∧ nd d v.toNat ≤ w := by
  induction h with
  | nil k => omega
  | step k p w hp _ ih =>
    have := hr p hp ih.1
    omega
theorem nodup_lt : ∀ (n : Nat) (l : List Nat), l.Nodup → (∀ v ∈ l, v < n) → l.length ≤ n
  | 0, [], _, _ => Nat.le_refl _
  | 0, v :: _, _, h => absurd (h v List.mem_cons_self) (by omega)
  | n + 1, l, hd, h => by
    by_cases hm : n ∈ l
    · have := nodup_lt n (l.erase n) (hd.erase n) (fun v hv => by
        have h1 := (hd.mem_erase_iff).1 hv
        have := h v h1.2
        have := h1.1
        omega)
      rw [List.length_erase_of_mem hm] at this
      omega
    · have := nodup_lt n l hd (fun v hv => by
        have := h v hv
        have : v ≠ n := fun e => hm (e ▸ hv)
        omega)
      omega
theorem chain {P : Nat → Nat → Prop} {n s : Nat} (hs : s < n) (h0 : P 0 s) (mono : ∀ k v, P k v → P (k + 1) v) (step : ∀ k, (∀ v, v < n → P (k + 1) v → P k v) → ∀ v, v < n → P (k + 2) v → P (k + 1) v) : ∀ k v, v < n → P k v → P n v := by
  have key : ∀ k, k ≤ n → (∃ j, j < k ∧ ∀ v, v < n → P (j + 1) v → P j v) ∨ ∃ l : List Nat, l.Nodup ∧ l.length = k + 1 ∧ ∀ v ∈ l, v < n ∧ P k v := by
    intro k
    induction k with
    | zero => exact fun _ => .inr ⟨[s], by simp, rfl, fun v hv => by simp at hv; subst hv; exact ⟨hs, h0⟩⟩
    | succ k ih =>
      intro hk
      rcases ih (by omega) with ⟨j, hj, h⟩ | ⟨l, l1, l2, l3⟩
      · exact .inl ⟨j, by omega, h⟩
      · by_cases hst : ∀ v, v < n → P (k + 1) v → P k v
        · exact .inl ⟨k, by omega, hst⟩
        · right
          have : ∃ v, v < n ∧ P (k + 1) v ∧ ¬ P k v := by
            refine Classical.byContradiction fun hc => hst fun v hv hp => Classical.byContradiction fun hnp => hc ⟨v, hv, hp, hnp⟩
          obtain ⟨v, hv, hp, hnp⟩ := this
          refine ⟨v :: l, List.nodup_cons.2 ⟨fun hm => hnp (l3 v hm).2, l1⟩, by simp [l2], fun u hu => ?_⟩
          rcases List.mem_cons.1 hu with rfl | hu
          · exact ⟨hv, hp⟩
          · exact ⟨(l3 u hu).1, mono _ _ (l3 u hu).2⟩
  obtain ⟨j, hj, hst⟩ : ∃ j, j < n ∧ ∀ v, v < n → P (j + 1) v → P j v := by
    rcases key n (Nat.le_refl _) with h | ⟨l, l1, l2, l3⟩
    · exact h
    · have := nodup_lt n l l1 fun v hv => (l3 v hv).1
      omega
  have up : ∀ d k v, P k v → P (k + d) v := by
    intro d
    induction d with
    | zero => exact fun k v h => h
    | succ d ih => exact fun k v h => mono _ _ (ih k v h)
  have stay : ∀ d, ∀ v, v < n → P (j + d + 1) v → P (j + d) v := by
    intro d
    induction d with
    | zero => exact hst
    | succ d ih => exact step (j + d) ih
  have down : ∀ d v, v < n → P (j + d) v → P j v := by
    intro d
    induction d with
    | zero => exact fun v _ h => h
    | succ d ih => exact fun v hv h => ih v hv (stay d v hv h)
  intro k v hv hp
  have h1 : P (j + k) v := by have := up j k v hp; rwa [Nat.add_comm] at this
  have h2 := down k v hv h1
  have := up (n - j) j v h2
  rwa [show j + (n - j) = n by omega] at this
theorem M.TC_forN {σ : Type} {n : Nat} {f : Int → σ → M (σ ⊕ σ)} {s : σ} (I : Nat → σ → Prop) (hn : n ≤ 9223372036854775807) (h0 : I 0 s) (round : ∀ (i : Nat) s, i < n → I i s → M.TC (f (i : Int) s) fun y => ∃ s', y = .inl s' ∧ I (i + 1) s') : M.TC (M.forI 0 (n : Int) (fun s => s) f s) (I n) := by
  refine M.TC_for (fun i s => I i.toNat s) s (by omega) (by omega) h0 (fun i s h1 h2 hI => ?_) (fun i s hi hI => ?_)
  · obtain ⟨k, rfl⟩ : ∃ k : Nat, i = k := ⟨i.toNat, by omega⟩
    refine (round k s (by omega) (by simpa using hI)).mono fun y hy => ?_
    obtain ⟨s', e, h⟩ := hy
    exact .inl ⟨s', e, by rw [show ((k : Int) + 1).toNat = k + 1 by omega]; exact h⟩
  · have e : i.toNat = n := by omega
    rw [e] at hI; exact hI
inductive RK (E : Nat → Nat → Prop) (n v : Nat) : Nat → Nat → Prop
  | nil (k : Nat) : RK E n v k v
  | step (k j i : Nat) : RK E n v k j → j < n → i < n → E j i → RK E n v (k + 1) i
theorem RK.mono {E : Nat → Nat → Prop} {n v k i : Nat} (h : RK E n v k i) : ∀ {m : Nat}, k ≤ m → RK E n v m i := by
  induction h with
  | nil k => exact fun _ => .nil _
  | step k j i _ hj hi he ih =>
    intro m hm
    obtain ⟨m', rfl⟩ : ∃ m', m = m' + 1 := ⟨m - 1, by omega⟩
    exact .step m' j i (ih (by omega)) hj hi he
theorem RK.short {E : Nat → Nat → Prop} {n v k i : Nat} (hv : v < n) (h : RK E n v k i) (hi : i < n) : RK E n v n i := by
  refine chain (P := fun k i => RK E n v k i) hv (.nil 0) (fun k i h => h.mono (by omega)) (fun k hst i hi h => ?_) k i hi h
  generalize e : k + 2 = m at h
  cases h with
  | nil => exact .nil _
  | step k' j i hj1 hj hi he =>
    obtain rfl : k' = k + 1 := by omega
    exact .step k j i (hst j hj hj1) hj hi he
def Rch (E : Nat → Nat → Prop) (n v i : Nat) : Prop := ∃ k, RK E n v k i
theorem Rch.step {E : Nat → Nat → Prop} {n v j i : Nat} (h : Rch E n v j) (hj : j < n) (hi : i < n) (he : E j i) : Rch E n v i := let ⟨k, h⟩ := h; ⟨k + 1, .step k j i h hj hi he⟩
theorem Rch.trans {E : Nat → Nat → Prop} {n v j i : Nat} (h : Rch E n v j) (g : Rch E n j i) : Rch E n v i := by
  obtain ⟨k, g⟩ := g
  induction g with
  | nil => exact h
  | step k j' i' _ hj hi he ih => exact ih.step hj hi he
/-- below the line through i and j -/
def Sup (F : Int → Prop) (y : Int → Int) (i j : Int) : Prop := ∀ p, F p → (y p - y i) * (j - i) ≤ (y j - y i) * (p - i)
/-- the line through i and j is steeper than the line through j and k -/
abbrev Stp (y : Int → Int) (i j k : Int) : Prop := (y k - y j) * (j - i) < (y j - y i) * (k - j)
/-- vertices, the last one first -/
def HullR (F : Int → Prop) (y : Int → Int) : List Int → Prop
  | [] => True
  | [t] => F t ∧ ∀ p, F p → t ≤ p
  | j :: i :: r => F j ∧ i < j ∧ Sup F y i j ∧ (∀ h r', r = h :: r' → Stp y h i j) ∧ HullR F y (i :: r)
theorem mul_le_cancel {a b c : Int} (hc : 0 < c) (h : a * c ≤ b * c) : a ≤ b := Int.le_of_mul_le_mul_right h hc
theorem mul_lt_cancel {a b c : Int} (hc : 0 < c) (h : a * c < b * c) : a < b := Int.lt_of_mul_lt_mul_right h (Int.le_of_lt hc)
theorem sup_right {F : Int → Prop} {y : Int → Int} {i j : Int} (h : Sup F y i j) : ∀ p, F p → (y p - y j) * (j - i) ≤ (y j - y i) * (p - j) := fun p hp => by
  have := h p hp
  have e1 : (y p - y i) * (j - i) = (y p - y j) * (j - i) + (y j - y i) * (j - i) := by rw [← Int.add_mul]; congr 1; omega
  have e2 : (y j - y i) * (p - i) = (y j - y i) * (p - j) + (y j - y i) * (j - i) := by rw [← Int.mul_add]; congr 1; omega
  omega
/-- slopes go down: from (h, i) over (i, j) to a point p right of i that is below the line (i, j) -/
theorem below_next {y : Int → Int} {h i j p : Int} (h1 : h < i) (h2 : i < j) (hp : i ≤ p) (st : Stp y h i j) (hb : (y p - y i) * (j - i) ≤ (y j - y i) * (p - i)) : (y p - y i) * (i - h) ≤ (y i - y h) * (p - i) := by
  unfold Stp at st
  refine mul_le_cancel (c := j - i) (by omega) ?_
  have a1 : (y p - y i) * (i - h) * (j - i) = (y p - y i) * (j - i) * (i - h) := by rw [Int.mul_assoc, Int.mul_comm (i - h), ← Int.mul_assoc]
  have a2 := Int.mul_le_mul_of_nonneg_right hb (show 0 ≤ i - h by omega)
  have a3 := Int.mul_le_mul_of_nonneg_right (Int.le_of_lt st) (show 0 ≤ p - i by omega)
  have a4 : (y j - y i) * (p - i) * (i - h) = (y j - y i) * (i - h) * (p - i) := by rw [Int.mul_assoc, Int.mul_comm (p - i), ← Int.mul_assoc]
  have a5 : (y i - y h) * (j - i) * (p - i) = (y i - y h) * (p - i) * (j - i) := by rw [Int.mul_assoc, Int.mul_comm (j - i), ← Int.mul_assoc]
  omega
/-- one point more, right of all: the lines stay above -/
theorem HullR.more {F : Int → Prop} {y : Int → Int} {k : Int} : ∀ {j i : Int} {r : List Int}, HullR F y (j :: i :: r) → i < k → (y k - y i) * (j - i) ≤ (y j - y i) * (k - i) → HullR (fun p => F p ∨ p = k) y (j :: i :: r)
  | j, i, [], ⟨f, h1, h2, h3, g1, g2⟩, hk, hb => ⟨.inl f, h1, fun p hp => by
      rcases hp with hp | rfl
      · exact h2 p hp
      · exact hb, h3, .inl g1, fun p hp => by
      rcases hp with hp | rfl
      · exact g2 p hp
      · omega⟩
  | j, i, h :: r, ⟨f, h1, h2, h3, g⟩, hk, hb => ⟨.inl f, h1, fun p hp => by
      rcases hp with hp | rfl
      · exact h2 p hp
      · exact hb, h3, by
      have hi : h < i := by cases r <;> exact g.2.1
      have := below_next hi h1 (Int.le_of_lt hk) (h3 h r rfl) hb
      refine HullR.more g (by omega) ?_
      have e1 : (y k - y h) * (i - h) = (y k - y i) * (i - h) + (y i - y h) * (i - h) := by rw [← Int.add_mul]; congr 1; omega
      have e2 : (y i - y h) * (k - h) = (y i - y h) * (k - i) + (y i - y h) * (i - h) := by rw [← Int.mul_add]; congr 1; omega
      omega⟩
theorem HullR.tail {F : Int → Prop} {y : Int → Int} {j i : Int} {r : List Int} (h : HullR F y (j :: i :: r)) : HullR F y (i :: r) := h.2.2.2.2
theorem HullR.head {F : Int → Prop} {y : Int → Int} {j : Int} {r : List Int} (h : HullR F y (j :: r)) : F j := by
  cases r <;> exact h.1
def popL (t : Int → Int → Bool) : List Int → List Int
  | j :: i :: r => bif t j i then j :: i :: r else popL t (i :: r)
  | l => l
/-- points right of j, below the line to k -/
def Low (F : Int → Prop) (y : Int → Int) (j k : Int) : Prop := ∀ p, F p → j ≤ p → (y p - y j) * (k - j) ≤ (y k - y j) * (p - j)
theorem pop_hull {F : Int → Prop} {y : Int → Int} {k : Int} (hF : ∀ p, F p → p < k) (t : Int → Int → Bool) (ht : ∀ j i, t j i = decide (Stp y i j k)) : ∀ {r : List Int} {j : Int}, HullR F y (j :: r) → Low F y j k → HullR (fun p => F p ∨ p = k) y (k :: popL t (j :: r))
  | [], j, hh, hl => by
    obtain ⟨g1, g2⟩ := hh
    have hjk := hF j g1
    refine ⟨.inr rfl, hjk, fun p hp => ?_, fun h r' e => (by cases e), .inl g1, fun p hp => ?_⟩
    · rcases hp with hp | rfl
      · exact hl p hp (g2 p hp)
      · exact Int.le_refl _
    · rcases hp with hp | rfl
      · exact g2 p hp
      · omega
  | i :: r, j, hh, hl => by
    have hj := hh.head
    have hjk := hF j hj
    have hij : i < j := hh.2.1
    have hs : Sup F y i j := hh.2.2.1
    unfold popL
    rw [ht]
    by_cases hst : Stp y i j k
    · rw [decide_eq_true hst, cond_true]
      refine ⟨.inr rfl, hjk, ?_, fun h r' e => (by cases e; exact hst), hh.more (by omega) ?_⟩
      · intro p hp
        rcases hp with hp | rfl
        · by_cases hpj : j ≤ p
          · exact hl p hp hpj
          · have a := sup_right hs p hp
            refine mul_le_cancel (c := j - i) (by omega) ?_
            unfold Stp at hst
            have a1 : (y p - y j) * (k - j) * (j - i) = (y p - y j) * (j - i) * (k - j) := by rw [Int.mul_assoc, Int.mul_comm (k - j), ← Int.mul_assoc]
            have a2 := Int.mul_le_mul_of_nonneg_right a (show 0 ≤ k - j by omega)
            have a3 := Int.mul_le_mul_of_nonneg_right (Int.le_of_lt hst) (show 0 ≤ j - p by omega)
            have a4 : (y j - y i) * (p - j) * (k - j) = -((y j - y i) * (k - j) * (j - p)) := by
              rw [show p - j = -(j - p) by omega, Int.mul_neg, Int.neg_mul, Int.mul_assoc, Int.mul_comm (j - p), ← Int.mul_assoc]
            have a5 : (y k - y j) * (p - j) * (j - i) = -((y k - y j) * (j - i) * (j - p)) := by
              rw [show p - j = -(j - p) by omega, Int.mul_neg, Int.neg_mul, Int.mul_assoc, Int.mul_comm (j - p), ← Int.mul_assoc]
            omega
        · exact Int.le_refl _
      · unfold Stp at hst
        have e1 : (y k - y i) * (j - i) = (y k - y j) * (j - i) + (y j - y i) * (j - i) := by rw [← Int.add_mul]; congr 1; omega
        have e2 : (y j - y i) * (k - i) = (y j - y i) * (k - j) + (y j - y i) * (j - i) := by rw [← Int.mul_add]; congr 1; omega
        omega
    · rw [decide_eq_false hst, cond_false]
      refine pop_hull hF t ht hh.tail fun p hp hip => ?_
      have hst : (y j - y i) * (k - j) ≤ (y k - y j) * (j - i) := by unfold Stp at hst; omega
      have a := hs p hp
      refine mul_le_cancel (c := j - i) (by omega) ?_
      have e1 : (y k - y i) * (j - i) = (y k - y j) * (j - i) + (y j - y i) * (j - i) := by rw [← Int.add_mul]; congr 1; omega
      have e2 : (y j - y i) * (k - i) = (y j - y i) * (k - j) + (y j - y i) * (j - i) := by rw [← Int.mul_add]; congr 1; omega
      have e3 : (y j - y i) * (k - i) ≤ (y k - y i) * (j - i) := by omega
      have a1 := Int.mul_le_mul_of_nonneg_right a (show 0 ≤ k - i by omega)
      have a2 := Int.mul_le_mul_of_nonneg_right e3 (show 0 ≤ p - i by omega)
      have a3 : (y p - y i) * (k - i) * (j - i) = (y p - y i) * (j - i) * (k - i) := by rw [Int.mul_assoc, Int.mul_comm (k - i), ← Int.mul_assoc]
      have a4 : (y j - y i) * (p - i) * (k - i) = (y j - y i) * (k - i) * (p - i) := by rw [Int.mul_assoc, Int.mul_comm (p - i), ← Int.mul_assoc]
      have a5 : (y k - y i) * (p - i) * (j - i) = (y k - y i) * (j - i) * (p - i) := by rw [Int.mul_assoc, Int.mul_comm (p - i), ← Int.mul_assoc]
      omega
def yC (c : List Int) (p : Int) : Int := (c[p.toNat]?).getD 0
def finC (c : List Int) (p : Int) : Prop := 0 ≤ p ∧ ∃ x, c[p.toNat]? = some x ∧ x ≠ -1000000000000000
def finK (c : List Int) (k : Nat) (p : Int) : Prop := finC c p ∧ p < k
def hullL (c : List Int) : Nat → List Int
  | 0 => []
  | k + 1 => bif ((c[k]?).getD 0) == (-1000000000000000) then hullL c k else (k : Int) :: popL (keepB c k ((c[k]?).getD 0)) (hullL c k)
theorem hullL_succ (c : List Int) (k : Nat) : hullL c (k + 1) = bif ((c[k]?).getD 0) == (-1000000000000000) then hullL c k else (k : Int) :: popL (keepB c k ((c[k]?).getD 0)) (hullL c k) := rfl
theorem keep_stp (c : List Int) (k : Nat) (j i : Int) : keepB c k ((c[k]?).getD 0) j i = decide (Stp (yC c) i j (k : Int)) := by
  unfold keepB Stp yC
  rw [Int.toNat_natCast]
theorem popL_sub (t : Int → Int → Bool) : ∀ l, (∀ x ∈ popL t l, x ∈ l) ∧ (l ≠ [] → popL t l ≠ []) ∧ (popL t l).length ≤ l.length
  | [] => ⟨fun _ h => h, fun h => h, Nat.le_refl _⟩
  | [j] => ⟨fun _ h => h, fun h => h, Nat.le_refl _⟩
  | j :: i :: r => by
    unfold popL
    obtain ⟨a, b, d⟩ := popL_sub t (i :: r)
    cases t j i with
    | true => exact ⟨fun _ h => h, fun h => h, Nat.le_refl _⟩
    | false => exact ⟨fun x hx => List.mem_cons_of_mem _ (a x hx), fun _ => b (by simp), Nat.le_succ_of_le d⟩
theorem hullL_ok {c : List Int} : ∀ k : Nat, k ≤ c.length → HullR (finK c k) (yC c) (hullL c k) ∧ (∀ p, finK c k p → ∃ t r, hullL c k = t :: r ∧ p ≤ t)
  | 0, _ => ⟨trivial, fun p hp => by have := hp.1.1; have := hp.2; omega⟩
  | k + 1, hk => by
    obtain ⟨ih, top⟩ := hullL_ok (c := c) k (by omega)
    have hget : c[k]? = some (c[k]'(by omega)) := List.getElem?_eq_getElem _
    rw [hullL_succ]
    cases hb : (((c[k]?).getD 0) == (-1000000000000000)) with
    | true =>
      have e : finK c (k + 1) = finK c k := by
        funext p
        refine propext ⟨fun h => ⟨h.1, ?_⟩, fun h => ⟨h.1, by have := h.2; omega⟩⟩
        by_cases e : p = k
        · subst e
          obtain ⟨_, x, hx, hn⟩ := h.1
          rw [Int.toNat_natCast] at hx
          rw [hx] at hb
          exact absurd (by simpa using hb) hn
        · have := h.2; omega
      rw [e]
      exact ⟨ih, top⟩
    | false =>
      have hfk : finC c (k : Int) := ⟨by omega, _, by rw [Int.toNat_natCast]; exact hget, by rw [hget] at hb; simpa using hb⟩
      have e : finK c (k + 1) = fun p => finK c k p ∨ p = k := by
        funext p
        refine propext ⟨fun h => ?_, fun h => ?_⟩
        · by_cases e : p = k
          · exact .inr e
          · exact .inl ⟨h.1, by have := h.2; omega⟩
        · rcases h with h | rfl
          · exact ⟨h.1, by have := h.2; omega⟩
          · exact ⟨hfk, by omega⟩
      simp only [cond_false]
      refine ⟨?_, fun p hp => ⟨_, _, rfl, by have := hp.2; omega⟩⟩
      rw [e]
      cases hl : hullL c k with
      | nil =>
        refine ⟨.inr rfl, fun p hp => ?_⟩
        rcases hp with hp | rfl
        · obtain ⟨t, r, h, _⟩ := top p hp
          rw [hl] at h; cases h
        · exact Int.le_refl _
      | cons j r =>
        rw [hl] at ih
        refine pop_hull (fun p hp => hp.2) _ (keep_stp c k) ih fun p hp hjp => ?_
        obtain ⟨t, r', h, h2⟩ := top p hp
        rw [hl] at h
        cases h
        obtain rfl : p = j := by omega
        rw [Int.sub_self, Int.sub_self, Int.zero_mul, Int.mul_zero]
        exact Int.le_refl _
theorem pop_conv {c : List Int} {k : Nat} {x : Int} (hk : k ≤ 12) (hx : c[k]? = some x) (bx : -1000000 ≤ x ∧ x ≤ 1000000) : ∀ rs, GoodT c k rs → M.Conv (M.loop (popS c k) rs.reverse) (popL (keepB c k x) rs).reverse
  | [], _ => (ConvL.stop (M.Conv_ite (fun h => by rw [small_len (by simp)] at h; cases h) (fun _ => M.Conv_ret _))).conv
  | [j], _ => (ConvL.stop (M.Conv_ite (fun h => by rw [small_len (by simp)] at h; cases h) (fun _ => M.Conv_ret _))).conv
  | j :: i :: r, hg => by
    have key : ∀ rs, GoodT c k rs → ConvL (popS c k) rs.reverse (popL (keepB c k x) rs).reverse := by
      intro rs
      induction rs with
      | nil => exact fun _ => ConvL.stop (M.Conv_ite (fun h => by rw [small_len (by simp)] at h; cases h) (fun _ => M.Conv_ret _))
      | cons j rs ih =>
        intro hg
        cases rs with
        | nil => exact ConvL.stop (M.Conv_ite (fun h => by rw [small_len (by simp)] at h; cases h) (fun _ => M.Conv_ret _))
        | cons i r =>
          have h := popS_ok hk hx bx hg
          unfold popL
          cases hb : keepB c k x j i with
          | true => rw [hb] at h; exact ConvL.stop h
          | false =>
            rw [hb] at h
            obtain ⟨a, b, d⟩ := hg
            exact ConvL.step h (ih ⟨by simp at a ⊢; omega, fun t ht => b t (List.mem_cons_of_mem _ ht), (List.pairwise_cons.1 d).2⟩)
    exact (key _ hg).conv
theorem hullL_good {c : List Int} (hv : ∀ x ∈ c, valB x = true) : ∀ k : Nat, k ≤ c.length → (hullL c k).length ≤ k ∧ (∀ t ∈ hullL c k, termB c k t) ∧ List.Pairwise (fun a b => b < a) (hullL c k)
  | 0, _ => ⟨Nat.le_refl _, by simp [hullL], by simp [hullL]⟩
  | k + 1, hk => by
    obtain ⟨a, b, d⟩ := hullL_good hv k (by omega)
    have hget : c[k]? = some (c[k]'(by omega)) := List.getElem?_eq_getElem _
    have up : ∀ t, termB c k t → termB c (k + 1) t := fun t ⟨a, b, d⟩ => ⟨a, by omega, d⟩
    have sub : ∀ l : List Int, List.Pairwise (fun a b => b < a) l → List.Pairwise (fun a b => b < a) (popL (keepB c k ((c[k]?).getD 0)) l) := by
      intro l
      induction l with
      | nil => exact fun h => h
      | cons j l ih =>
        intro h
        cases l with
        | nil => exact h
        | cons i r =>
          unfold popL
          cases keepB c k ((c[k]?).getD 0) j i with
          | true => exact h
          | false => exact ih (List.pairwise_cons.1 h).2
    rw [hullL_succ]
    cases hb : (((c[k]?).getD 0) == (-1000000000000000)) with
    | true => exact ⟨by simp only [cond_true]; omega, fun t ht => up t (b t ht), d⟩
    | false =>
      simp only [cond_false]
      obtain ⟨s1, s2, s3⟩ := popL_sub (keepB c k ((c[k]?).getD 0)) (hullL c k)
      refine ⟨by simp only [List.length_cons]; omega, fun t ht => ?_, List.pairwise_cons.2 ⟨fun t ht => (b t (s1 t ht)).2.1, sub _ d⟩⟩
      rcases List.mem_cons.1 ht with rfl | ht
      · refine ⟨by omega, by omega, _, by rw [Int.toNat_natCast]; exact hget, ?_⟩
        rw [hget] at hb
        exact val_ne (hv _ (List.getElem_mem _)) hb
      · exact up t (b t (s1 t ht))
theorem terms_hull {c : List Int} (hc : c.length ≤ 12) (hv : c.all valB = true) : M.Conv (spec_l09Terms c) (hullL c c.length).reverse := by
  rw [List.all_eq_true] at hv
  rw [spec_l09Terms_eq]
  refine M.Conv_bind (Conv_forV (fun k => (hullL c k).reverse) (by omega) fun k hk => ?_) (M.Conv_ret _)
  have hget : c[k]? = some (c[k]'(by omega)) := List.getElem?_eq_getElem _
  have hmem := List.getElem_mem hk
  generalize c[k] = x at hget hmem
  have gx : M.Conv (M.idx c (k : Int)) x := M.Conv_get (by omega) (by simpa using hget)
  obtain ⟨a, b, d⟩ := hullL_good hv k (by omega)
  obtain ⟨s1, s2, s3⟩ := popL_sub (keepB c k ((c[k]?).getD 0)) (hullL c k)
  rw [hullL_succ]
  unfold hullS
  rw [hget] at s1 s2 s3 ⊢
  simp only [Option.getD_some] at s1 s2 s3 ⊢
  cases hb : (x == (-1000000000000000)) with
  | true => exact M.Conv_bind (M.Conv_bind gx (M.Conv_ite (fun _ => M.Conv_ret _) (fun h => by rw [hb] at h; cases h))) (M.Conv_ret _)
  | false =>
    have bx := finB_bd (val_ne (hv x hmem) hb)
    exact M.Conv_bind (M.Conv_bind gx (M.Conv_ite (fun h => by rw [hb] at h; cases h) (fun _ => M.Conv_bind (pop_conv (by omega) hget bx _ ⟨by omega, b, d⟩) (M.Conv_bind ((M.Conv_app (by simp; omega)).of (r' := ((k : Int) :: popL (keepB c k x) (hullL c k)).reverse) (by simp)) (M.Conv_ret _))))) (M.Conv_ret _)

theorem yC_conv {l : List Int} {p : Int} (h0 : 0 ≤ p) (h1 : p < l.length) : M.Conv (M.idx l p) (yC l p) := by
  refine M.Conv_get h0 ?_
  unfold yC
  rw [List.getElem?_eq_getElem (by omega)]; rfl
structure TsOK (c ts : List Int) : Prop where
  bd : ∀ t ∈ ts, termB c c.length t
  inc : List.Pairwise (fun a b => a < b) ts
  ne : ts ≠ []
theorem TsOK.at {c ts : List Int} (h : TsOK c ts) {q : Nat} {t : Int} (ht : ts[q]? = some t) : 0 ≤ t ∧ t < c.length ∧ (-1000000 ≤ yC c t ∧ yC c t ≤ 1000000) := by
  obtain ⟨a, b, x, hx, hb⟩ := h.bd t (List.mem_of_getElem? ht)
  refine ⟨a, b, ?_⟩
  unfold yC
  rw [hx]
  exact finB_bd hb
theorem TsOK.lt {c ts : List Int} (h : TsOK c ts) {p q : Nat} {s t : Int} (hs : ts[p]? = some s) (ht : ts[q]? = some t) (hpq : p < q) : s < t := by
  obtain ⟨h1, e1⟩ := List.getElem?_eq_some_iff.1 hs
  obtain ⟨h2, e2⟩ := List.getElem?_eq_some_iff.1 ht
  have := List.pairwise_iff_getElem.1 h.inc p q h1 h2 hpq
  rw [e1, e2] at this; exact this
theorem ts_of {c : List Int} (h : polyB c = true) : TsOK c (hullL c c.length).reverse ∧ M.Conv (spec_l09Terms c) (hullL c c.length).reverse ∧ M.Conv (impl_essentialTerms c) (hullL c c.length).reverse := by
  obtain ⟨h1, h2, h3⟩ := polyB_len h
  have hv := List.all_eq_true.1 h2
  obtain ⟨a, b, d⟩ := hullL_good hv c.length (Nat.le_refl _)
  have ht := terms_hull h1 h2
  obtain ⟨t, k1, k2, _, _, tne, _⟩ := terms_ok h1 h2
  have e := k1.unique ht
  subst e
  refine ⟨⟨fun t ht => b t (by simpa using ht), by rw [List.pairwise_reverse]; exact d, tne h3⟩, ht, k2⟩
theorem hull_pair {F : Int → Prop} {y : Int → Int} : ∀ {rs : List Int}, HullR F y rs → ∀ (p : Nat) (i k : Int), rs[p]? = some k → rs[p + 1]? = some i → i < k ∧ Sup F y i k ∧ ∀ h, rs[p + 2]? = some h → Stp y h i k
  | [], _, p, i, k, h, _ => by simp at h
  | [_], _, p, i, k, _, h => by simp at h
  | j :: i' :: r, hh, 0, i, k, h1, h2 => by
    simp at h1 h2
    subst h1; subst h2
    refine ⟨hh.2.1, hh.2.2.1, fun h e => ?_⟩
    cases r with
    | nil => simp at e
    | cons h' r' => simp at e; subst e; exact hh.2.2.2.1 _ r' rfl
  | j :: i' :: r, hh, p + 1, i, k, h1, h2 => hull_pair hh.tail p i k (by simpa using h1) (by simpa using h2)
theorem rev_pair {rs : List Int} {q : Nat} {i k : Int} (h1 : rs.reverse[q]? = some i) (h2 : rs.reverse[q + 1]? = some k) : rs[rs.length - 2 - q]? = some k ∧ rs[rs.length - 2 - q + 1]? = some i := by
  have l2 := (List.getElem?_eq_some_iff.1 h2).1
  rw [List.length_reverse] at l2
  rw [List.getElem?_reverse (by omega)] at h1 h2
  rw [show rs.length - 2 - q + 1 = rs.length - 1 - q by omega, show rs.length - 2 - q = rs.length - 1 - (q + 1) by omega]
  exact ⟨h2, h1⟩
structure GrS (g : TGraph) : Prop where
  ok : okTGraph g
  len : g.Places.length ≤ 40
theorem GrS.sm {g : TGraph} (h : GrS g) : smG g := by have := h.len; simp only [smG, smP]; omega
inductive Chn (a : List (List Int)) (n : Nat) : List Nat → Int → Prop
  | one (v : Nat) : v < n → Chn a n [v] 0
  | cons (u v : Nat) (r : List Nat) (w : Int) : u < n → entA a v u ≠ -1000000000000000 → Chn a n (v :: r) w → Chn a n (u :: v :: r) (entA a v u + w)
theorem Chn.lt {a : List (List Int)} {n : Nat} {l : List Nat} {w : Int} (h : Chn a n l w) : ∀ x ∈ l, x < n := by
  induction h with
  | one v hv => intro x hx; simp at hx; subst hx; exact hv
  | cons u v r w hu _ _ ih =>
    intro x hx
    rcases List.mem_cons.1 hx with rfl | hx
    · exact hu
    · exact ih x hx
theorem Chn.unique {a : List (List Int)} {n : Nat} {l : List Nat} {w : Int} (h : Chn a n l w) : ∀ {w' : Int}, Chn a n l w' → w = w' := by
  induction h with
  | one v hv => intro w' h'; cases h'; rfl
  | cons u v r w hu _ _ ih => intro w' h'; cases h' with | cons _ _ _ w2 _ _ h2 => rw [ih h2]
theorem Chn.append {a : List (List Int)} {n : Nat} {v : Nat} {z : List Nat} {w2 : Int} (h2 : Chn a n (v :: z) w2) : ∀ {x : List Nat} {w1 : Int}, Chn a n (x ++ [v]) w1 → Chn a n (x ++ v :: z) (w1 + w2)
  | [], w1, h1 => by cases h1; rw [Int.zero_add]; exact h2
  | [u], w1, h1 => by
    cases h1 with
    | cons _ _ _ w hu ha h =>
      have := Chn.append h2 (x := []) h
      rw [Int.add_assoc]; exact .cons u v z _ hu ha this
  | u :: u' :: x, w1, h1 => by
    cases h1 with
    | cons _ _ _ w hu ha h =>
      have := Chn.append h2 (x := u' :: x) h
      rw [Int.add_assoc]; exact .cons u u' _ _ hu ha this
theorem Chn.split {a : List (List Int)} {n : Nat} {v : Nat} {z : List Nat} : ∀ {x : List Nat} {w : Int}, Chn a n (x ++ v :: z) w → ∃ w1 w2, w = w1 + w2 ∧ Chn a n (x ++ [v]) w1 ∧ Chn a n (v :: z) w2
  | [], w, h => ⟨0, w, by omega, .one v (h.lt v (by simp)), h⟩
  | [u], w, h => by
    cases h with
    | cons _ _ _ w' hu ha h => exact ⟨entA a v u, w', rfl, by have := Chn.cons u v [] 0 hu ha (.one v (h.lt v (by simp))); rwa [Int.add_zero] at this, h⟩
  | u :: u' :: x, w, h => by
    cases h with
    | cons _ _ _ w' hu ha h =>
      obtain ⟨w1, w2, rfl, h1, h2⟩ := Chn.split (x := u' :: x) h
      exact ⟨entA a u' u + w1, w2, by omega, .cons u u' _ _ hu ha h1, h2⟩
/-- a closed chain -/
def Cl (a : List (List Int)) (n : Nat) (l : List Nat) (w : Int) : Prop := ∃ h r, l = h :: r ∧ Chn a n (l ++ [h]) w
theorem Cl.ne {a : List (List Int)} {n : Nat} {l : List Nat} {w : Int} (h : Cl a n l w) : l ≠ [] := by obtain ⟨_, _, rfl, _⟩ := h; simp
theorem Cl.lt {a : List (List Int)} {n : Nat} {l : List Nat} {w : Int} (h : Cl a n l w) : ∀ x ∈ l, x < n := by
  obtain ⟨_, _, rfl, h⟩ := h
  exact fun x hx => h.lt x (List.mem_append.2 (.inl hx))
theorem Cl.unique {a : List (List Int)} {n : Nat} {l : List Nat} {w w' : Int} (h : Cl a n l w) (h' : Cl a n l w') : w = w' := by
  obtain ⟨_, _, rfl, h⟩ := h
  obtain ⟨_, _, e, h'⟩ := h'
  cases e
  exact h.unique h'
theorem Cl.rot {a : List (List Int)} {n : Nat} {x y : List Nat} {w : Int} (h : Cl a n (x ++ y) w) : Cl a n (y ++ x) w := by
  cases x with
  | nil => simpa using h
  | cons h' x =>
    cases y with
    | nil => simpa using h
    | cons g y =>
      obtain ⟨h0, r, e, hc⟩ := h
      simp only [List.cons_append, List.cons.injEq] at e
      obtain ⟨rfl, rfl⟩ := e
      have hc : Chn a n ((h' :: x) ++ g :: (y ++ [h'])) w := by simpa using hc
      obtain ⟨w1, w2, rfl, c1, c2⟩ := hc.split
      refine ⟨g, y ++ h' :: x, rfl, ?_⟩
      have c1' : Chn a n (h' :: (x ++ [g])) w1 := by simpa using c1
      have := Chn.append c1' (x := g :: y) (by simpa using c2)
      rw [Int.add_comm]
      simpa using this
/-- a node met twice: two closed chains -/
theorem Cl.cut {a : List (List Int)} {n : Nat} {x y z : List Nat} {v : Nat} {w : Int} (h : Cl a n (x ++ v :: y ++ v :: z) w) : ∃ w1 w2, w = w1 + w2 ∧ Cl a n (v :: y) w1 ∧ Cl a n (v :: z ++ x) w2 := by
  have h' : Cl a n (x ++ (v :: y ++ v :: z)) w := by simpa using h
  obtain ⟨h0, r, e, hc⟩ := h'.rot
  simp only [List.cons_append, List.append_assoc, List.cons.injEq] at e
  obtain ⟨rfl, rfl⟩ := e
  have hc : Chn a n ((v :: y) ++ v :: (z ++ x ++ [v])) w := by simpa using hc
  obtain ⟨w1, w2, rfl, c1, c2⟩ := hc.split
  exact ⟨w1, w2, rfl, ⟨v, y, rfl, c1⟩, ⟨v, z ++ x, rfl, by simpa using c2⟩⟩
theorem dup_of : ∀ {l : List Nat}, ¬ l.Nodup → ∃ (x : List Nat) (v : Nat) (y z : List Nat), l = x ++ v :: y ++ v :: z
  | [], h => absurd List.nodup_nil h
  | u :: l, h => by
    by_cases hm : u ∈ l
    · obtain ⟨y, z, rfl⟩ := List.append_of_mem hm
      exact ⟨[], u, y, z, rfl⟩
    · have : ¬ l.Nodup := fun hd => h (List.nodup_cons.2 ⟨hm, hd⟩)
      obtain ⟨x, v, y, z, rfl⟩ := dup_of this
      exact ⟨u :: x, v, y, z, rfl⟩
/-- a written cycle: each node once, the smallest one first -/
structure WC (a : List (List Int)) (n : Nat) (l : List Nat) (w : Int) : Prop where
  cl : Cl a n l w
  nd : l.Nodup
  fst : ∀ h r, l = h :: r → ∀ x ∈ r, h < x
theorem min_mem : ∀ {l : List Nat}, l ≠ [] → ∃ m ∈ l, ∀ x ∈ l, m ≤ x
  | [], h => absurd rfl h
  | [u], _ => ⟨u, by simp, by simp⟩
  | u :: u' :: l, _ => by
    obtain ⟨m, hm, h⟩ := min_mem (l := u' :: l) (by simp)
    by_cases e : u ≤ m
    · exact ⟨u, by simp, fun x hx => by
        rcases List.mem_cons.1 hx with rfl | hx
        · exact Nat.le_refl _
        · exact Nat.le_trans e (h x hx)⟩
    · exact ⟨m, List.mem_cons_of_mem _ hm, fun x hx => by
        rcases List.mem_cons.1 hx with rfl | hx
        · omega
        · exact h x hx⟩
/-- from a closed chain to a written cycle, with a property that sums hand on to one of their parts -/
theorem Cl.written {a : List (List Int)} {n : Nat} {P : Nat → Int → Prop} (hP : ∀ k1 k2 w1 w2, P (k1 + k2) (w1 + w2) → P k1 w1 ∨ P k2 w2) : ∀ (k : Nat) {l : List Nat} {w : Int}, l.length = k → Cl a n l w → P l.length w → ∃ l' w', WC a n l' w' ∧ P l'.length w' ∧ ∀ x ∈ l', x ∈ l := by
  intro k
  induction k using Nat.strongRecOn with
  | _ k ih =>
    intro l w hk hc hp
    by_cases hd : l.Nodup
    · obtain ⟨m, hm, hmin⟩ := min_mem hc.ne
      obtain ⟨x, z, rfl⟩ := List.append_of_mem hm
      have hr := hc.rot
      refine ⟨m :: z ++ x, w, ⟨hr, ?_, fun h r e y hy => ?_⟩, by simpa [Nat.add_comm, Nat.add_left_comm, Nat.add_assoc] using hp, fun y hy => by
        simp only [List.mem_append, List.mem_cons] at hy ⊢
        rcases hy with (hy | hy) | hy
        · exact .inr (.inl hy)
        · exact .inr (.inr hy)
        · exact .inl hy⟩
      · rw [List.nodup_append] at hd ⊢
        exact ⟨hd.2.1, hd.1, fun b hb c hc e => hd.2.2 c hc b hb e.symm⟩
      · simp only [List.cons_append, List.cons.injEq] at e
        obtain ⟨rfl, rfl⟩ := e
        have h1 := hmin y (by
          simp only [List.mem_append, List.mem_cons] at hy ⊢
          rcases hy with hy | hy
          · exact .inr (.inr hy)
          · exact .inl hy)
        have h2 : y ≠ m := by
          rintro rfl
          rw [List.nodup_append] at hd
          rcases List.mem_append.1 hy with hy | hy
          · exact (List.nodup_cons.1 hd.2.1).1 hy
          · exact hd.2.2 y hy y List.mem_cons_self rfl
        omega
    · obtain ⟨x, v, y, z, rfl⟩ := dup_of hd
      obtain ⟨w1, w2, rfl, c1, c2⟩ := hc.cut
      have e : (x ++ v :: y ++ v :: z).length = (v :: y).length + (v :: z ++ x).length := by simp; omega
      rw [e] at hp hk
      rcases hP _ _ _ _ hp with hp | hp
      · obtain ⟨l', w', a1, a2, a3⟩ := ih _ (by rw [← hk]; simp) rfl c1 hp
        exact ⟨l', w', a1, a2, fun u hu => by
          have := a3 u hu
          simp only [List.mem_append, List.mem_cons] at this ⊢
          rcases this with h | h
          · exact .inl (.inr (.inl h))
          · exact .inl (.inr (.inr h))⟩
      · obtain ⟨l', w', a1, a2, a3⟩ := ih _ (by rw [← hk]; simp) rfl c2 hp
        exact ⟨l', w', a1, a2, fun u hu => by
          have := a3 u hu
          simp only [List.mem_append, List.mem_cons] at this ⊢
          rcases this with (h | h) | h
          · exact .inl (.inr (.inl h))
          · exact .inr (.inr h)
          · exact .inl (.inl h)⟩
namespace M
end M

abbrev toI (l : List Nat) : List Int := l.map fun (x : Nat) => (x : Int)
/-- entries that are Bottom or not large -/
def Ent (a : List (List Int)) (n : Nat) (B : Int) : Prop := ∀ i j, i < n → j < n → entA a i j = -1000000000000000 ∨ (-B ≤ entA a i j ∧ entA a i j ≤ B)
theorem Chn.bd {a : List (List Int)} {n : Nat} {B : Int} (hB : Ent a n B) (h0 : 0 ≤ B) {l : List Nat} {w : Int} (h : Chn a n l w) : -(B * ((l.length - 1 : Nat) : Int)) ≤ w ∧ w ≤ B * ((l.length - 1 : Nat) : Int) := by
  induction h with
  | one v hv => simp
  | cons u v r w hu ha h ih =>
    have hv := h.lt v List.mem_cons_self
    have := (hB v u hv hu).resolve_left ha
    have e : (((u :: v :: r).length - 1 : Nat) : Int) = (((v :: r).length - 1 : Nat) : Int) + 1 := by simp
    rw [e, Int.mul_add, Int.mul_one]
    omega
theorem Chn.last_lt {a : List (List Int)} {n : Nat} {x : List Nat} {t : Nat} {w : Int} (h : Chn a n (x ++ [t]) w) : t < n := h.lt t (by simp)
theorem Chn.snoc {a : List (List Int)} {n : Nat} {x : List Nat} {t v : Nat} {w : Int} (h : Chn a n (x ++ [t]) w) (hv : v < n) (ha : entA a v t ≠ -1000000000000000) : Chn a n (x ++ [t] ++ [v]) (w + entA a v t) := by
  have h2 : Chn a n [t, v] (entA a v t) := by have := Chn.cons t v [] 0 h.last_lt ha (.one v hv); rwa [Int.add_zero] at this
  have := Chn.append h2 (x := x) h
  simpa using this
theorem Chn.snoc_inv {a : List (List Int)} {n : Nat} {x : List Nat} {t v : Nat} {w : Int} (h : Chn a n (x ++ [t] ++ [v]) w) : ∃ w', w = w' + entA a v t ∧ Chn a n (x ++ [t]) w' ∧ entA a v t ≠ -1000000000000000 := by
  have h : Chn a n (x ++ t :: [v]) w := by simpa using h
  obtain ⟨w1, w2, rfl, h1, h2⟩ := h.split
  cases h2 with
  | cons _ _ _ w3 _ ha h3 => cases h3; exact ⟨w1, by omega, h1, ha⟩
/-- a walk from j of k arcs -/
inductive Wlk (a : List (List Int)) (n j : Nat) : Nat → Nat → Int → Prop
  | nil : j < n → Wlk a n j 0 j 0
  | step (k i i' : Nat) (w : Int) : Wlk a n j k i w → i' < n → entA a i' i ≠ -1000000000000000 → Wlk a n j (k + 1) i' (w + entA a i' i)
theorem Wlk.lt {a : List (List Int)} {n j k i : Nat} {w : Int} (h : Wlk a n j k i w) : j < n ∧ i < n := by
  induction h with
  | nil hj => exact ⟨hj, hj⟩
  | step k i i' w _ hi _ ih => exact ⟨ih.1, hi⟩
theorem Wlk.trans {a : List (List Int)} {n j k i k' i' : Nat} {w w' : Int} (h : Wlk a n j k i w) (g : Wlk a n i k' i' w') : Wlk a n j (k + k') i' (w + w') := by
  induction g with
  | nil _ => simpa using h
  | step k' i1 i2 w' _ hi ha ih => rw [← Int.add_assoc]; exact .step _ _ _ _ ih hi ha
theorem Wlk.chn {a : List (List Int)} {n j k i : Nat} {w : Int} (h : Wlk a n j k i w) : ∃ x, Chn a n (x ++ [i]) w ∧ (x ++ [i]).head? = some j ∧ x.length = k := by
  induction h with
  | nil hj => exact ⟨[], .one j hj, rfl, rfl⟩
  | step k i i' w _ hi ha ih =>
    obtain ⟨x, h1, h2, h3⟩ := ih
    exact ⟨x ++ [i], h1.snoc hi ha, by rw [List.head?_append, h2]; rfl, by simp [h3]⟩
theorem Wlk.of_chn {a : List (List Int)} {n : Nat} : ∀ (k : Nat) {j i : Nat} {w : Int} {x : List Nat}, Chn a n (x ++ [i]) w → (x ++ [i]).head? = some j → x.length = k → Wlk a n j k i w
  | 0, j, i, w, x, h, hh, hl => by
    have := List.eq_nil_of_length_eq_zero hl
    subst this
    have e : i = j := by simpa using hh
    subst e
    cases h with
    | one _ hv => exact .nil hv
  | k + 1, j, i, w, x, h, hh, hl => by
    rcases List.eq_nil_or_concat x with rfl | ⟨y, t, e⟩
    · simp at hl
    · have e : x = y ++ [t] := by simpa using e
      subst e
      obtain ⟨w', rfl, h1, ha⟩ := h.snoc_inv
      rw [List.head?_append] at hh
      have hh2 : (y ++ [t]).head? = some j := by
        cases hy : (y ++ [t]).head? with
        | none => simp at hy
        | some v => rw [hy] at hh; simpa using hh
      exact .step k t i w' (Wlk.of_chn k h1 hh2 (by simpa using hl)) (h.lt i (by simp)) ha
theorem Cl.wlk {a : List (List Int)} {n : Nat} {l : List Nat} {w : Int} (h : Cl a n l w) : ∃ j r, l = j :: r ∧ Wlk a n j l.length j w := by
  obtain ⟨j, r, rfl, hc⟩ := h
  exact ⟨j, r, rfl, Wlk.of_chn _ hc rfl rfl⟩
theorem Wlk.cl {a : List (List Int)} {n j k : Nat} {w : Int} (h : Wlk a n j (k + 1) j w) : ∃ r, Cl a n (j :: r) w ∧ r.length = k := by
  obtain ⟨x, h1, h2, h3⟩ := h.chn
  cases x with
  | nil => simp at h3
  | cons v r =>
    have e : v = j := by simpa using h2
    subst e
    exact ⟨r, ⟨v, r, rfl, h1⟩, by simpa using h3⟩
def NoPos (a : List (List Int)) (n : Nat) : Prop := ∀ l w, Cl a n l w → w ≤ 0
/-- a walk of fewer than n arcs is as good as any -/
theorem Wlk.short {a : List (List Int)} {n : Nat} (hp : NoPos a n) : ∀ (k : Nat) {j i : Nat} {w : Int}, Wlk a n j k i w → ∃ k' w', Wlk a n j k' i w' ∧ k' < n ∧ k' ≤ k ∧ w ≤ w' := by
  intro k
  induction k using Nat.strongRecOn with
  | _ k ih =>
    intro j i w h
    by_cases hk : k < n
    · exact ⟨k, w, h, hk, Nat.le_refl _, Int.le_refl _⟩
    · obtain ⟨x, h1, h2, h3⟩ := h.chn
      have hnn : ¬ (x ++ [i]).Nodup := fun hd => by
        have := nodup_lt n _ hd h1.lt
        simp at this; omega
      obtain ⟨p, v, y, z, e⟩ := dup_of hnn
      have e' : x ++ [i] = p ++ v :: (y ++ v :: z) := by rw [e]; simp
      rw [e'] at h1
      obtain ⟨w1, w2, rfl, c1, c2⟩ := h1.split
      obtain ⟨w3, w4, rfl, c3, c4⟩ := Chn.split (x := v :: y) c2
      have hcyc := hp (v :: y) w3 ⟨v, y, rfl, c3⟩
      have hc := Chn.append c4 c1
      -- the last node is that of z
      have hlast : ∃ x', p ++ v :: z = x' ++ [i] ∧ x'.length < k := by
        have hl : (p ++ v :: (y ++ v :: z)).getLast? = some i := by rw [← e']; simp
        rcases List.eq_nil_or_concat (v :: z) with hz | ⟨z', t, hz⟩
        · simp at hz
        · have hz : v :: z = z' ++ [t] := by simpa using hz
          have ht : t = i := by
            have e3 : p ++ v :: (y ++ v :: z) = (p ++ v :: y ++ z') ++ [t] := by rw [hz]; simp
            rw [e3, List.getLast?_concat] at hl
            exact Option.some.inj hl
          subst ht
          refine ⟨p ++ z', by rw [hz]; simp, ?_⟩
          have e4 := congrArg List.length e'
          have e5 := congrArg List.length hz
          simp at e4 e5 ⊢
          omega
      obtain ⟨x', hx', hxl⟩ := hlast
      rw [hx'] at hc
      have hhd : (x' ++ [i]).head? = some j := by
        rw [← hx']
        rw [e'] at h2
        cases p with
        | nil => simpa using h2
        | cons q p => simpa using h2
      obtain ⟨k', w', g1, g2, g3, g4⟩ := ih _ hxl (Wlk.of_chn _ hc hhd rfl)
      exact ⟨k', w', g1, g2, by omega, by omega⟩
theorem Wlk.bd {a : List (List Int)} {n : Nat} {B : Int} (hB : Ent a n B) {j k i : Nat} {w : Int} (h : Wlk a n j k i w) : -(B * (k : Int)) ≤ w ∧ w ≤ B * (k : Int) := by
  induction h with
  | nil _ => simp
  | step k i i' w hw hi ha ih =>
    have := (hB i' i hi hw.lt.2).resolve_left ha
    rw [Int.natCast_add, Int.mul_add]
    simp only [Int.natCast_one, Int.mul_one]
    omega
/-- what the star of a matrix without positive cycles is -/
structure StarM (a : List (List Int)) (n : Nat) (S : List (List Int)) : Prop where
  shp : Shp S n
  len : S.length = n
  snd : ∀ i j, i < n → j < n → entA S i j = -1000000000000000 ∨ ∃ k, Wlk a n j k i (entA S i j)
  cpl : ∀ i j k w, Wlk a n j k i w → entA S i j ≠ -1000000000000000 ∧ w ≤ entA S i j
theorem StarM.bd {a S : List (List Int)} {n : Nat} {B : Int} (hp : NoPos a n) (hB : Ent a n B) (h0 : 0 ≤ B) (hn : n ≤ 10) (h : StarM a n S) {i j : Nat} (hi : i < n) (hj : j < n) : Bd (B * 10) (entA S i j) := by
  rcases h.snd i j hi hj with e | ⟨k, hk⟩
  · exact .inl e
  · right
    obtain ⟨k', w', g1, g2, _, g4⟩ := hk.short hp
    have b := g1.bd hB
    have c := (h.cpl i j k' w' g1).2
    have hkk : (k' : Int) ≤ 10 := by omega
    have := Int.mul_le_mul_of_nonneg_left hkk h0
    omega
theorem StarM.unique {a S T : List (List Int)} {n : Nat} (h : StarM a n S) (g : StarM a n T) : S = T := by
  rw [mat_eq h.shp, mat_eq g.shp, h.len, g.len]
  refine matF_congr fun i j hi hj => ?_
  by_cases e : entA S i j = -1000000000000000
  · rcases g.snd i j hi hj with e2 | ⟨k, hk⟩
    · rw [e, e2]
    · exact absurd e (h.cpl i j k _ hk).1
  · obtain ⟨k, hk⟩ := (h.snd i j hi hj).resolve_left e
    have c1 := g.cpl i j k _ hk
    obtain ⟨k2, hk2⟩ := (g.snd i j hi hj).resolve_left c1.1
    have c2 := h.cpl i j k2 _ hk2
    omega
theorem dotL_ok2 {x row : List Int} (hl : x.length = row.length) {B : Int} (hB : B ≤ 400000000000000) (hr : ∀ j, j < row.length → Bd B (nd row j)) (hx : ∀ j, j < row.length → Bd B (nd x j)) : DotP (nd row) (nd x) row.length (dotL x row) := by
  have key := foldI_at (g := fun j v s => mx s (timesI v ((x[j]?).getD 0))) (a := row) (fun k (s : Int) => k ≤ row.length ∧ -1000000000000000 ≤ s ∧ (∀ j, j < k → nd row j ≠ -1000000000000000 → nd x j ≠ -1000000000000000 → nd row j + nd x j ≤ s) ∧ (s = -1000000000000000 ∨ ∃ j, j < k ∧ nd row j ≠ -1000000000000000 ∧ nd x j ≠ -1000000000000000 ∧ s = nd row j + nd x j)) row 0 (-1000000000000000) (fun k => by simp) ⟨by omega, by omega, fun j hj => by omega, .inl rfl⟩ (fun k v s hv hI => by
    obtain ⟨_, i1, i2, i3⟩ := hI
    have hk := (List.getElem?_eq_some_iff.1 hv).1
    have ev := nd_of hv
    have b1 := hr k hk
    have b2 := hx k hk
    unfold Bd at b1 b2
    have et : timesI v ((x[k]?).getD 0) = bif (v == (-1000000000000000)) || (nd x k == (-1000000000000000)) then -1000000000000000 else v + nd x k := by
      change timesI v (nd x k) = _
      unfold timesI
      cases hz : ((v == (-1000000000000000)) || (nd x k == (-1000000000000000))) with
      | true => rfl
      | false =>
        simp only [Bool.or_eq_false_iff, beq_eq_false_iff_ne, ne_eq] at hz
        simp only [cond_false]
        exact w64_eq _ (by omega)
    refine ⟨by omega, by rw [mx_eq]; omega, fun j hj h1 h2 => ?_, ?_⟩
    · rw [mx_eq]
      by_cases e : j = k
      · subst e
        rw [et, show (v == (-1000000000000000)) = false by rw [← ev]; simpa using h1, show (nd x j == (-1000000000000000)) = false by simpa using h2]
        simp only [Bool.or_self, cond_false]; omega
      · have := i2 j (by omega) h1 h2
        omega
    · rw [mx_eq, et]
      have old : s = -1000000000000000 ∨ ∃ j, j < k + 1 ∧ nd row j ≠ -1000000000000000 ∧ nd x j ≠ -1000000000000000 ∧ s = nd row j + nd x j := i3.imp id fun ⟨j, hj, h⟩ => ⟨j, by omega, h⟩
      cases hz : ((v == (-1000000000000000)) || (nd x k == (-1000000000000000))) with
      | true =>
        simp only [cond_true]
        rw [show max s (-1000000000000000) = s by omega]
        exact old
      | false =>
        simp only [Bool.or_eq_false_iff, beq_eq_false_iff_ne, ne_eq] at hz
        simp only [cond_false]
        by_cases e : s ≤ v + nd x k
        · rw [show max s (v + nd x k) = v + nd x k by omega]
          exact .inr ⟨k, by omega, by rw [ev]; exact hz.1, hz.2, by rw [ev]⟩
        · rw [show max s (v + nd x k) = s by omega]
          exact old)
  obtain ⟨_, _, k2, k3⟩ := key
  rw [Nat.zero_add] at k2 k3
  exact ⟨k2, k3⟩
structure StK (a : List (List Int)) (n k : Nat) (S : List (List Int)) : Prop where
  shp : Shp S n
  len : S.length = n
  snd : ∀ i j, i < n → j < n → entA S i j = -1000000000000000 ∨ ∃ k', k' ≤ k ∧ Wlk a n j k' i (entA S i j)
  cpl : ∀ i j k' w, k' ≤ k → Wlk a n j k' i w → entA S i j ≠ -1000000000000000 ∧ w ≤ entA S i j
theorem StK.bd {a S : List (List Int)} {n k : Nat} {B : Int} (hB : Ent a n B) (h0 : 0 ≤ B) (h : StK a n k S) {m : Int} (hm : (k : Int) ≤ m) {i j : Nat} (hi : i < n) (hj : j < n) : Bd (B * m) (entA S i j) := by
  rcases h.snd i j hi hj with e | ⟨k', h1, hk⟩
  · exact .inl e
  · right
    have b := hk.bd hB
    have := Int.mul_le_mul_of_nonneg_left (show (k' : Int) ≤ m by omega) h0
    omega
theorem StK.star {a S : List (List Int)} {n : Nat} (hp : NoPos a n) (h : StK a n n S) : StarM a n S :=
  ⟨h.shp, h.len, fun i j hi hj => (h.snd i j hi hj).imp id fun ⟨k, _, hk⟩ => ⟨k, hk⟩, fun i j k w hw => by
    obtain ⟨k', w', g1, g2, _, g4⟩ := hw.short hp
    have := h.cpl i j k' w' (by omega) g1
    exact ⟨this.1, by omega⟩⟩
theorem NoPos.closed {a : List (List Int)} {n j m : Nat} {w : Int} (hp : NoPos a n) (h : Wlk a n j m j w) : w ≤ 0 := by
  cases m with
  | zero => cases h; exact Int.le_refl _
  | succ m =>
    obtain ⟨r, hc, _⟩ := h.cl
    exact hp _ _ hc
theorem gcd_loop2 : ∀ (m : Nat) (a b : Nat), b < m → ConvL gcdF ((a : Int), (b : Int)) ((Nat.gcd a b : Nat), 0)
  | 0, _, _, h => by omega
  | m + 1, a, b, h => by
    by_cases h0 : 0 < b
    · have hl : a % b < b := Nat.mod_lt _ h0
      have ih := gcd_loop2 m b (a % b) (by omega)
      have e : Nat.gcd b (a % b) = Nat.gcd a b := by
        rw [Nat.gcd_comm b, ← Nat.gcd_rec, Nat.gcd_comm]
      rw [e] at ih
      refine ConvL.step ?_ ih
      have e2 : ((a : Int)).tmod (b : Int) = ((a % b : Nat) : Int) := by rw [Int.tmod_eq_emod_of_nonneg (by omega)]; omega
      exact M.Conv_ite (fun _ => M.Conv_bind (M.Conv_guard (by simp; omega)) ((M.Conv_ret _).of (by rw [e2]))) (fun q => by have := of_decide_eq_false q; simp only at this; omega)
    · obtain rfl : b = 0 := by omega
      rw [Nat.gcd_zero_right]
      exact ConvL.stop (M.Conv_ite (fun q => by have := of_decide_eq_true q; simp only at this; omega) (fun _ => M.Conv_ret _))
theorem divisor_gcd {a b : Int} (ha : -9000000000000000000 ≤ a ∧ a ≤ 9000000000000000000) (hb : -9000000000000000000 ≤ b ∧ b ≤ 9000000000000000000) : M.Conv (spec_l01Divisor a b) ((Nat.gcd a.natAbs b.natAbs : Nat) : Int) := by
  have e1 : mx a (w64 (0 - a)) = (a.natAbs : Int) := by rw [w64_eq _ (by omega), mx_eq]; omega
  have e2 : mx b (w64 (0 - b)) = (b.natAbs : Int) := by rw [w64_eq _ (by omega), mx_eq]; omega
  unfold spec_l01Divisor
  rw [e1, e2]
  exact M.Conv_bind (gcd_loop2 _ _ _ (Nat.lt_succ_self _)).conv (M.Conv_ret _)
theorem divisorI_gcd {a b : Nat} : M.Conv (impl_divisorOf (a : Int) (b : Int)) ((Nat.gcd a b : Nat) : Int) := by
  unfold impl_divisorOf
  exact M.Conv_bind (gcd_loop2 _ _ _ (Nat.lt_succ_self _)).conv (M.Conv_ret _)
theorem absI_ok {a : Int} (ha : -9000000000000000000 ≤ a ∧ a ≤ 9000000000000000000) : M.Conv (impl_absOf a) (a.natAbs : Int) := M.Conv_ite (fun q => by have := of_decide_eq_true q; exact (M.Conv_ret _).of (by rw [w64_eq _ (by omega)]; omega)) (fun q => by have := of_decide_eq_false q; exact (M.Conv_ret _).of (by omega))
/-- r is x / d in lowest terms -/
structure RatP (x d : Int) (r : TRatio) : Prop where
  pos : 0 < r.Den
  mul : ∃ g : Int, 0 < g ∧ x = g * r.Num ∧ d = g * r.Den
  cop : Nat.gcd r.Num.natAbs r.Den.natAbs = 1
end Go.Proofs.Ytipdgiljgbjjkaa
