/-
  Plain proofs: the plain program of the law ends with true.
  Conditions: None beyond the given statement.
-/
import Derived.Test.YtjdcdcipilhmeaaP
namespace Go.Proofs.Ytjdcdcipilhmeaa
open Go
/-! ### plain programs: loops over a list -/
namespace M
variable {α β σ ρ : Type}
/-- rounds over the elements of a list, each with its place; a round may leave -/
def run (g : Nat → α → σ → σ ⊕ ρ) (fin : σ → ρ) : Nat → List α → σ → ρ
  | _, [], s => fin s
  | i, x :: xs, s => match g i x s with
    | .inl s' => run g fin (i + 1) xs s'
    | .inr r => r
theorem Conv_forN {l : List α} {f : Int → σ → M (σ ⊕ ρ)} (g : Nat → α → σ → σ ⊕ ρ) (fin : σ → ρ) (I : Nat → σ → Prop) (hi : Int) :
    ∀ (xs : List α) (i : Nat) (s : σ), hi = (i + xs.length : Nat) → I i s → (∀ (j : Nat) x s, xs[j]? = some x → I (i + j) s → Conv (f (i + j : Nat) s) (g (i + j) x s) ∧ ∀ s', g (i + j) x s = .inl s' → I (i + j + 1) s') →
      ∃ N, ∀ n, N ≤ n → forN hi fin f n xs.length i s = some (run g fin i xs s)
  | [], i, s, hh, _, _ => ⟨0, fun n _ => by
      have : ¬ (i : Int) < hi := by rw [hh]; simp
      simp [forN, run, this]⟩
  | x :: xs, i, s, hh, h0, H => by
    have hlt : (i : Int) < hi := by rw [hh]; simp; omega
    obtain ⟨⟨N, hN⟩, hI⟩ := H 0 x s rfl h0
    simp only [Nat.add_zero] at hN hI
    cases hg : g i x s with
    | inl s' =>
      have hi' := hI s' hg
      obtain ⟨N', hN'⟩ := Conv_forN (l := l) g fin I hi xs (i + 1) s' (by rw [hh, List.length_cons]; congr 1; omega) hi' (fun j y s hy hIs => by
        have := H (j + 1) y s (by simpa using hy) (by rw [← Nat.add_assoc, Nat.add_right_comm]; exact hIs)
        rw [show i + (j + 1) = i + 1 + j by omega] at this
        exact this)
      refine ⟨max N N', fun n hn => ?_⟩
      have h1 := hN n (by omega)
      rw [hg] at h1
      simp only [List.length_cons, forN, hlt, decide_true, cond_true, h1, run, hg]
      have := hN' n (by omega)
      simpa using this
    | inr r =>
      refine ⟨N, fun n hn => ?_⟩
      have h1 := hN n hn
      rw [hg] at h1
      simp only [List.length_cons, forN, hlt, decide_true, cond_true, h1, run, hg]
/-- a loop over a list, with an invariant -/
theorem Conv_forI {l : List α} {f : Int → σ → M (σ ⊕ ρ)} {fin : σ → ρ} {s : σ} (g : Nat → α → σ → σ ⊕ ρ) (I : Nat → σ → Prop) (hl : l.length ≤ 9223372036854775807) (h0 : I 0 s)
    (H : ∀ (i : Nat) x s, l[i]? = some x → I i s → Conv (f i s) (g i x s) ∧ ∀ s', g i x s = .inl s' → I (i + 1) s') : Conv (forI 0 (l.length : Int) fin f s) (run g fin 0 l s) := by
  obtain ⟨N, hN⟩ := Conv_forN (l := l) (f := f) g fin I (l.length : Int) l 0 s (by simp) h0 (fun j x s hx hI => by simpa using H j x s hx (by simpa using hI))
  refine ⟨N, fun n hn => ?_⟩
  have h1 : (l.length : Int) ≤ 9223372036854775807 := by omega
  simp only [forI, h1, decide_true, Bool.and_true, show (-9223372036854775808 : Int) ≤ 0 by decide, cond_true]
  have := hN n hn
  simpa using this
/-- .. without one -/
theorem Conv_forL {l : List α} {f : Int → σ → M (σ ⊕ ρ)} {fin : σ → ρ} {s : σ} (g : Nat → α → σ → σ ⊕ ρ) (hl : l.length ≤ 9223372036854775807)
    (H : ∀ (i : Nat) x s, l[i]? = some x → Conv (f i s) (g i x s)) : Conv (forI 0 (l.length : Int) fin f s) (run g fin 0 l s) :=
  Conv_forI g (fun _ _ => True) hl trivial fun i x s hx _ => ⟨H i x s hx, fun _ _ => trivial⟩
theorem Conv.of {m : M α} {r r' : α} (h : Conv m r) (e : r = r') : Conv m r' := e ▸ h
theorem Conv_ite {b : Bool} {x y : M α} {r : α} (h1 : b = true → Conv x r) (h2 : b = false → Conv y r) : Conv (ite b x y) r := by
  cases b
  · exact h2 rfl
  · exact h1 rfl
theorem Conv_ite2 {b : Bool} {x y : M α} {r s : α} (h1 : b = true → Conv x r) (h2 : b = false → Conv y s) : Conv (ite b x y) (bif b then r else s) := by
  cases b
  · exact h2 rfl
  · exact h1 rfl
theorem Conv_guard {b : Bool} (h : b = true) : Conv (guard b) () := ⟨0, fun _ _ => by simp [guard, h]⟩
theorem Conv_upd {l : List α} {i : Nat} {x : α} (h : i < l.length) : Conv (upd l i x) (l.set i x) := ⟨0, fun _ _ => by simp [upd, h]⟩
theorem Conv_get {l : List α} {i : Int} {x : α} (h0 : 0 ≤ i) (h : l[i.toNat]? = some x) : Conv (idx l i) x := ⟨0, fun _ _ => by simp [idx, h0, h]⟩
/-- a value told in both ways of a test, then the rest -/
theorem Conv_bite {b : Bool} {x y : M α} {f : α → M β} {u v : α} {r : β} (h1 : b = true → Conv x u) (h2 : b = false → Conv y v) (g : Conv (f (bif b then u else v)) r) : Conv (bind (ite b x y) f) r :=
  Conv_bind (Conv_ite2 h1 h2) g

/-! searches: a loop that leaves at the first element of a kind -/
theorem run_all (p : α → Bool) (u : Unit ⊕ ρ) : ∀ (i : Nat) (l : List α), run (ρ := Unit ⊕ ρ) (fun _ x _ => bif p x then .inl () else .inr u) (fun s => .inl s) i l () = bif l.all p then .inl () else u
  | _, [] => rfl
  | i, x :: xs => by
    simp only [run, List.all_cons]
    cases p x
    · rfl
    · simpa using run_all p u (i + 1) xs
/-- 'for .. if not p x, return v' -/
theorem Conv_all {l : List α} {f : Int → Unit → M (Unit ⊕ (Unit ⊕ ρ))} (p : α → Bool) (v : ρ) (hl : l.length ≤ 9223372036854775807) (H : ∀ (i : Nat) x, l[i]? = some x → Conv (f i ()) (bif p x then .inl () else .inr (.inr v))) :
    Conv (forI 0 (l.length : Int) (fun s => .inl s) f ()) (bif l.all p then .inl () else .inr v) :=
  (Conv_forL (fun _ x _ => bif p x then .inl () else .inr (.inr v)) hl fun i x _ hx => H i x hx).of (run_all p (.inr v) 0 l)
/-- the same, where the element's place matters to the test -/
theorem run_allI (p : Nat → α → Bool) (u : Unit ⊕ ρ) : ∀ (i : Nat) (l : List α), run (ρ := Unit ⊕ ρ) (fun j x _ => bif p j x then .inl () else .inr u) (fun s => .inl s) i l () = bif (l.zipIdx i).all (fun q => p q.2 q.1) then .inl () else u
  | _, [] => rfl
  | i, x :: xs => by
    simp only [run, List.zipIdx_cons, List.all_cons]
    cases p i x
    · rfl
    · simpa using run_allI p u (i + 1) xs
theorem Conv_allI {l : List α} {f : Int → Unit → M (Unit ⊕ (Unit ⊕ ρ))} (p : Nat → α → Bool) (v : ρ) (hl : l.length ≤ 9223372036854775807) (H : ∀ (i : Nat) x, l[i]? = some x → Conv (f i ()) (bif p i x then .inl () else .inr (.inr v))) :
    Conv (forI 0 (l.length : Int) (fun s => .inl s) f ()) (bif (l.zipIdx 0).all (fun q => p q.2 q.1) then .inl () else .inr v) :=
  (Conv_forL (fun j x _ => bif p j x then .inl () else .inr (.inr v)) hl fun i x _ hx => H i x hx).of (run_allI p (.inr v) 0 l)
/-- 'for i .. if p x, return i' -/
theorem run_find (p : α → Bool) : ∀ (i : Nat) (l : List α), run (σ := Unit) (ρ := Unit ⊕ Int) (fun j x _ => bif p x then .inr (.inr (j : Int)) else .inl ()) (fun s => .inl s) i l () = match l.findIdx? p with
    | some j => .inr ((i + j : Nat) : Int)
    | none => .inl ()
  | _, [] => rfl
  | i, x :: xs => by
    simp only [run, List.findIdx?_cons]
    cases hp : p x
    · simp only [cond_false, run_find p (i + 1) xs, Bool.false_eq_true, if_false]
      cases xs.findIdx? p with
      | none => rfl
      | some j => simp only [Option.map_some]; congr 2; omega
    · simp
theorem Conv_find {l : List α} {f : Int → Unit → M (Unit ⊕ (Unit ⊕ Int))} (p : α → Bool) (hl : l.length ≤ 9223372036854775807) (H : ∀ (i : Nat) x, l[i]? = some x → Conv (f i ()) (bif p x then .inr (.inr (i : Int)) else .inl ())) :
    Conv (forI 0 (l.length : Int) (fun s => .inl s) f ()) (match l.findIdx? p with | some j => .inr (j : Int) | none => .inl ()) :=
  (Conv_forL (fun j x _ => bif p x then .inr (.inr (j : Int)) else .inl ()) hl fun i x _ hx => H i x hx).of (by rw [run_find]; simp)
/-- sums: each round turns what has been gathered -/
theorem run_fold (g : σ → α → σ) : ∀ (i : Nat) (l : List α) (s : σ), run (fun _ x s => .inl (g s x)) (fun s => s) i l s = l.foldl g s
  | _, [], _ => rfl
  | i, x :: xs, s => by simpa [run] using run_fold g (i + 1) xs (g s x)
theorem Conv_fold {l : List α} {f : Int → σ → M (σ ⊕ σ)} {s : σ} (g : σ → α → σ) (hl : l.length ≤ 9223372036854775807) (H : ∀ (i : Nat) x s, l[i]? = some x → Conv (f i s) (.inl (g s x))) :
    Conv (forI 0 (l.length : Int) (fun s => s) f s) (l.foldl g s) :=
  (Conv_forL (fun _ x s => .inl (g s x)) hl fun i x s hx => H i x s hx).of (run_fold g 0 l s)
theorem get_set_append {l r : List α} {x y : α} : (l ++ y :: r).set l.length x = l ++ x :: r := by simp
/-- a loop that fills a list of the same length, element by element -/
theorem run_fill (g : Nat → α → β) (z : β) : ∀ (i : Nat) (l : List α) (d : List β), d.length = i →
    run (fun j x s => .inl (s.set j (g j x))) (fun s => s) i l (d ++ List.replicate l.length z) = d ++ (l.zipIdx i).map (fun q => g q.2 q.1)
  | _, [], d, _ => by simp [run]
  | i, x :: xs, d, hd => by
    subst hd
    simp only [run, List.length_cons, List.replicate_succ, get_set_append]
    have := run_fill g z (d.length + 1) xs (d ++ [g d.length x]) (by simp)
    simp only [List.append_assoc, List.singleton_append] at this
    rw [this]
    simp
theorem Conv_fill {l : List α} {f : Int → List β → M (List β ⊕ List β)} (g : Nat → α → β) (z : β) (hl : l.length ≤ 9223372036854775807)
    (H : ∀ (i : Nat) x s, l[i]? = some x → s.length = l.length → Conv (f i s) (.inl (s.set i (g i x)))) :
    Conv (forI 0 (l.length : Int) (fun s => s) f (List.replicate l.length z)) ((l.zipIdx 0).map (fun q => g q.2 q.1)) := by
  refine (Conv_forI (fun j x s => .inl (s.set j (g j x))) (fun _ s => s.length = l.length) hl (by simp) fun i x s hx hI => ⟨H i x s hx hI, fun s' e => ?_⟩).of ?_
  · cases e; simpa using hI
  · simpa using run_fill g z 0 l [] rfl
theorem zipIdx_map_fst {l : List α} {g : α → β} {i : Nat} : ((l.zipIdx i).map fun q => g q.1) = l.map g := by
  have h : List.map (g ∘ Prod.fst) (l.zipIdx i) = List.map g l := by rw [← List.map_map, List.zipIdx_map_fst]
  exact h
theorem findIdx_any {l : List α} {p : α → Bool} : (decide ((0:Int) ≤ match l.findIdx? p with | some j => (j : Int) | none => -1)) = l.any p := by
  cases h : l.findIdx? p with
  | none => rw [List.findIdx?_eq_none_iff] at h; simp; exact fun x hx => by simpa using h x hx
  | some j =>
    obtain ⟨hj, hp, _⟩ := List.findIdx?_eq_some_iff_getElem.1 h
    simp
    exact ⟨_, List.getElem_mem hj, hp⟩
end M
def finB (x : Int) : Bool := decide (-1000000 ≤ x) && decide (x ≤ 1000000)
def valB (x : Int) : Bool := x == (-1000000000000000) || finB x
theorem eqInt64S_ok {a b : List Int} (ha : a.length ≤ 9223372036854775807) : M.Conv (laws_eqInt64S a b) (decide (a = b)) := by
  unfold laws_eqInt64S
  refine M.Conv_ite (fun h => ?_) (fun h => ?_)
  · have : a ≠ b := by rintro rfl; simp at h
    rw [decide_eq_false this]; exact M.Conv_ret _
  · have hl : a.length = b.length := Int.ofNat.inj (by simpa using h)
    refine M.Conv_bind (M.Conv_allI (fun i x => b[i]? == some x) false ha fun i x hx => ?_) ?_
    · have hi := (List.getElem?_eq_some_iff.1 hx).1
      refine M.Conv_bind (M.Conv_get (by omega) (by simpa using hx)) ?_
      refine M.Conv_bind (M.Conv_get (x := b[i]) (by omega) (by simp [show i < b.length by omega])) ?_
      have hb : (b[i]? == some x) = !(x != b[i]) := by rw [List.getElem?_eq_getElem (by omega), bne, Bool.not_not, Option.some_beq_some, BEq.comm]
      rw [hb]
      cases (x != b[i]) <;> exact M.Conv_ret _
    · have key : ((a.zipIdx 0).all fun q => b[q.2]? == some q.1) = decide (a = b) := by
        by_cases e : a = b
        · subst e
          rw [decide_eq_true rfl, List.all_eq_true]
          rintro ⟨x, i⟩ hq
          have := List.mk_mem_zipIdx_iff_getElem?.1 hq
          simp [this]
        · rw [decide_eq_false e, Bool.eq_false_iff]
          intro h
          apply e
          rw [List.all_eq_true] at h
          refine List.ext_getElem hl fun i h1 h2 => ?_
          have := h (a[i], i) (List.mk_mem_zipIdx_iff_getElem?.2 (List.getElem?_eq_getElem h1))
          simp [h2] at this
          exact this.symm
      rw [key]
      cases decide (a = b) <;> exact M.Conv_ret _
theorem spec_l01In_ok (x lo hi : Int) : M.Conv (spec_l01In x lo hi) (decide (lo ≤ x) && decide (x ≤ hi)) := M.Conv_ret _
theorem spec_l01Finite_ok (x : Int) : M.Conv (spec_l01Finite x) (finB x) := M.Conv_bind (spec_l01In_ok _ _ _) (M.Conv_ret _)
theorem spec_IsValue_ok (x : Int) : M.Conv (spec_IsValue x) (valB x) := by
  unfold spec_IsValue
  refine M.Conv_bind (M.Conv_ite (r := valB x) (fun h => ?_) (fun h => ?_)) (M.Conv_ret _)
  · simp only [valB, h, Bool.true_or]; exact M.Conv_ret _
  · simp only [valB, h, Bool.false_or]; exact M.Conv_bind (spec_l01Finite_ok x) (M.Conv_ret _)
theorem spec_l01All_ok {l : List Int} (f : Bool) (hl : l.length ≤ 9223372036854775807) : M.Conv (spec_l01All l f) (l.all fun x => valB x && !(f && x == (-1000000000000000))) := by
  unfold spec_l01All
  refine M.Conv_bind (M.Conv_all (fun x => valB x && !(f && x == (-1000000000000000))) false hl fun i x hx => ?_) ?_
  · refine M.Conv_bind (M.Conv_get (by omega) (by simpa using hx)) (M.Conv_bind (spec_IsValue_ok x) ?_)
    refine M.Conv_bind (x := !(valB x && !(f && x == (-1000000000000000)))) (M.Conv_ite (fun h => ?_) (fun h => ?_)) ?_
    · simp at h; simp [h]; exact M.Conv_ret _
    · simp at h
      refine M.Conv_bind (x := (f && x == (-1000000000000000))) (M.Conv_ite (fun h => ?_) (fun h => ?_)) (by simp [h]; exact M.Conv_ret _)
      · simp [h]; exact M.Conv_bind (M.Conv_get (by omega) (by simpa using hx)) (M.Conv_ret _)
      · simp [h]; exact M.Conv_ret _
    · cases (valB x && !(f && x == (-1000000000000000))) <;> exact M.Conv_ret _
  · cases (l.all fun x => valB x && !(f && x == (-1000000000000000))) <;> exact M.Conv_ret _
theorem impl_within_ok (x lo hi : Int) : M.Conv (impl_within x lo hi) (decide (lo ≤ x) && decide (x ≤ hi)) := M.Conv_ret _
theorem impl_isFinite_ok (x : Int) : M.Conv (impl_isFinite x) (finB x) := M.Conv_bind (impl_within_ok _ _ _) (M.Conv_ret _)
theorem impl_IsValue_ok (x : Int) : M.Conv (impl_IsValue x) (valB x) := by
  unfold impl_IsValue
  refine M.Conv_bind (M.Conv_ite (r := valB x) (fun h => ?_) (fun h => ?_)) (M.Conv_ret _)
  · simp only [valB, h, Bool.true_or]; exact M.Conv_ret _
  · simp only [valB, h, Bool.false_or]; exact M.Conv_bind (impl_isFinite_ok x) (M.Conv_ret _)
/-- 'slices.ContainsFunc', behind 'slices.IndexFunc' -/
theorem contains_ok {α : Type} {l : List α} {f : Int → Unit → M (Unit ⊕ (Unit ⊕ Int))} (p : α → Bool) (hl : l.length ≤ 9223372036854775807) (H : ∀ (i : Nat) x, l[i]? = some x → M.Conv (f i ()) (bif p x then .inr (.inr (i : Int)) else .inl ())) :
    M.Conv (M.bind (M.bind (M.forI 0 (l.length : Int) (fun s => .inl s) f ()) (fun x1 => M.cont x1 (fun _ => M.ret (-1)) (fun r => M.ret r))) (fun x1 => M.ret (decide (0 ≤ x1)))) (l.any p) := by
  rw [← M.findIdx_any]
  refine M.Conv_bind (M.Conv_bind (M.Conv_find p hl H) ?_) (M.Conv_ret _)
  cases l.findIdx? p <;> exact M.Conv_ret _
theorem any_not {α : Type} {l : List α} {p : α → Bool} : (!l.any fun x => !p x) = l.all p := by
  induction l with
  | nil => rfl
  | cons x xs ih => simp only [List.any_cons, List.all_cons, Bool.not_or, Bool.not_not, ih]
theorem impl_areValues_ok {l : List Int} (hl : l.length ≤ 9223372036854775807) : M.Conv (impl_areValues l) (l.all valB) := by
  unfold impl_areValues slices_ContainsFunc_int_F_impl_areValues_1 slices_IndexFunc_int_F_impl_areValues_1
  refine M.Conv_bind (contains_ok (fun x => !valB x) hl fun i x hx => ?_) ((M.Conv_ret _).of any_not)
  refine M.Conv_bind (M.Conv_get (by omega) (by simpa using hx)) ?_
  refine M.Conv_bind (x := !valB x) (M.Conv_bind (impl_IsValue_ok x) (M.Conv_ret _)) ?_
  cases valB x <;> exact M.Conv_ret _
/-- the greatest of a list; Bottom if there is none -/
def maxL (l : List Int) : Int := l.foldl mx (-1000000000000000)
theorem impl_sumOf_ok {l : List Int} (hl : l.length ≤ 9223372036854775807) : M.Conv (impl_sumOf l) (maxL l) := by
  unfold impl_sumOf
  refine M.Conv_bind (M.Conv_fold mx hl fun i x s hx => ?_) (M.Conv_ret _)
  exact M.Conv_bind (M.Conv_get (by omega) (by simpa using hx)) (M.Conv_ret _)
theorem mx_eq (a b : Int) : mx a b = max a b := by unfold mx; split <;> omega
theorem foldl_mx_ge (l : List Int) (s : Int) : s ≤ l.foldl mx s := by
  induction l generalizing s with
  | nil => exact Int.le_refl _
  | cons x xs ih => exact Int.le_trans (by rw [mx_eq]; omega) (ih (mx s x))
theorem foldl_mx_mem {l : List Int} {s x : Int} (h : x ∈ l) : x ≤ l.foldl mx s := by
  induction l generalizing s with
  | nil => cases h
  | cons y ys ih =>
    rcases List.mem_cons.1 h with rfl | h
    · exact Int.le_trans (by rw [mx_eq]; omega) (foldl_mx_ge ys (mx s x))
    · exact ih h
theorem foldl_mx_in (l : List Int) (s : Int) : l.foldl mx s = s ∨ l.foldl mx s ∈ l := by
  induction l generalizing s with
  | nil => exact .inl rfl
  | cons y ys ih =>
    rcases ih (mx s y) with h | h
    · rw [List.foldl_cons, h, mx_eq]
      by_cases e : s ≤ y
      · right; rw [show max s y = y by omega]; exact List.mem_cons_self
      · left; omega
    · exact .inr (List.mem_cons_of_mem _ h)
theorem valB_ge {x : Int} (h : valB x = true) : -1000000000000000 ≤ x := by
  simp [valB, finB] at h; omega
theorem maxL_ne {l : List Int} (h : l.all valB = true) : (maxL l != (-1000000000000000)) = l.any (· != (-1000000000000000)) := by
  rw [List.all_eq_true] at h
  rw [Bool.eq_iff_iff, List.any_eq_true]
  constructor
  · intro hne
    rcases foldl_mx_in l (-1000000000000000) with e | e
    · simp [maxL, e] at hne
    · exact ⟨_, e, hne⟩
  · rintro ⟨x, hx, hne⟩
    have h1 := foldl_mx_mem (s := -1000000000000000) hx
    have h2 := valB_ge (h x hx)
    have hne : x ≠ -1000000000000000 := by simpa using hne
    have : maxL l ≠ -1000000000000000 := by unfold maxL; omega
    simpa using this
/-- a polynomial: up to twelve values, not all of them Bottom -/
def polyB (c : List Int) : Bool := decide (c.length ≤ 12) && c.all valB && c.any (· != (-1000000000000000))
theorem spec_IsPolynomial_ok {c : List Int} (hl : c.length ≤ 9223372036854775807) : M.Conv (spec_IsPolynomial c) (polyB c) := by
  unfold spec_IsPolynomial polyB
  refine M.Conv_bind (x := !(decide (c.length ≤ 12) && c.all valB)) (M.Conv_ite (fun h => ?_) (fun h => ?_)) ?_
  · have h := of_decide_eq_true h
    rw [decide_eq_false (by omega)]; exact M.Conv_ret _
  · have h := of_decide_eq_false h
    rw [decide_eq_true (by omega)]
    refine M.Conv_bind (spec_l01All_ok false hl) ((M.Conv_ret _).of ?_)
    simp
  · cases (decide (c.length ≤ 12) && c.all valB)
    · exact M.Conv_ret _
    · refine M.Conv_bind (M.Conv_all (fun x => x == (-1000000000000000)) true hl fun i x hx => ?_) ?_
      · refine M.Conv_bind (M.Conv_get (by omega) (by simpa using hx)) ?_
        simp only [bne]
        cases (x == (-1000000000000000)) <;> exact M.Conv_ret _
      · have : (c.all fun x => x == (-1000000000000000)) = !c.any (· != (-1000000000000000)) := by rw [← any_not]; rfl
        rw [this]
        cases c.any (· != (-1000000000000000)) <;> exact M.Conv_ret _
theorem impl_IsPolynomial_ok {c : List Int} (hl : c.length ≤ 9223372036854775807) : M.Conv (impl_IsPolynomial c) (polyB c) := by
  unfold impl_IsPolynomial polyB
  refine M.Conv_bind (impl_within_ok _ _ _) ?_
  by_cases h0 : c = []
  · subst h0; exact M.Conv_bind (x := false) (M.Conv_ret _) (M.Conv_bind (x := false) (M.Conv_ret _) (M.Conv_ret _))
  have hp : 0 < c.length := List.length_pos_iff.2 h0
  refine M.Conv_bind (x := decide (c.length ≤ 12) && c.all valB) (M.Conv_ite (fun h => ?_) (fun h => ?_)) ?_
  · simp at h
    rw [decide_eq_true (by omega)]; exact M.Conv_bind (impl_areValues_ok hl) ((M.Conv_ret _).of (by simp))
  · simp at h
    rw [decide_eq_false (by omega)]; exact M.Conv_ret _
  · refine M.Conv_bind (x := (decide (c.length ≤ 12) && c.all valB) && c.any (· != (-1000000000000000))) (M.Conv_ite (fun h => ?_) (fun h => ?_)) (M.Conv_ret _)
    · have h2 := (Bool.and_eq_true _ _ ▸ h).2
      rw [h]
      exact M.Conv_bind (impl_sumOf_ok hl) ((M.Conv_ret _).of (by rw [maxL_ne h2]; simp))
    · rw [h]; exact M.Conv_ret _
def smI (l : List Int) : Prop := l.length ≤ 1099511627776
theorem mul_bd {a b A B : Int} (ha : -A ≤ a ∧ a ≤ A) (hb : -B ≤ b ∧ b ≤ B) : -(A * B) ≤ a * b ∧ a * b ≤ A * B := by
  have h1 : a.natAbs ≤ A.natAbs := by omega
  have h2 : b.natAbs ≤ B.natAbs := by omega
  have h3 : (a * b).natAbs ≤ A.natAbs * B.natAbs := by rw [Int.natAbs_mul]; exact Nat.mul_le_mul h1 h2
  have hA : ((A.natAbs * B.natAbs : Nat) : Int) = A * B := by
    rw [Int.natCast_mul, Int.natAbs_of_nonneg (by omega), Int.natAbs_of_nonneg (by omega)]
  omega
theorem finB_bd {x : Int} (h : finB x = true) : -1000000 ≤ x ∧ x ≤ 1000000 := by simpa [finB] using h
theorem val_ne {x : Int} (h : valB x = true) (hn : (x == (-1000000000000000)) = false) : finB x = true := by simpa [valB, hn] using h
/-- a loop that takes elements off a list's end -/
theorem pop_loop {f : List Int → M (List Int ⊕ List Int)} (t : Int → Int → Bool) (G : List Int → Prop) (sub : ∀ x l, G (x :: l) → G l) (h1 : ∀ l, G l → l.length ≤ 1 → M.Conv (f l.reverse) (.inr l.reverse))
    (h2 : ∀ j i r, G (j :: i :: r) → M.Conv (f (j :: i :: r).reverse) (bif t j i then .inr (j :: i :: r).reverse else .inl (i :: r).reverse)) : ∀ rs, G rs → ∃ qs, G qs ∧ (∀ x ∈ qs, x ∈ rs) ∧ M.Conv (M.loop f rs.reverse) qs.reverse ∧ qs.length ≤ rs.length ∧
      (∀ (f' : List Int → M (List Int ⊕ List Int)), (∀ l, G l → l.length ≤ 1 → M.Conv (f' l.reverse) (.inr l.reverse)) → (∀ j i r, G (j :: i :: r) → M.Conv (f' (j :: i :: r).reverse) (bif t j i then .inr (j :: i :: r).reverse else .inl (i :: r).reverse)) → M.Conv (M.loop f' rs.reverse) qs.reverse) := by
  have stop : ∀ (f : List Int → M (List Int ⊕ List Int)) (s r : List Int), M.Conv (f s) (.inr r) → M.Conv (M.loop f s) r := by
    intro f s r ⟨N, h⟩
    refine ⟨max N 1, fun n hn => ?_⟩
    obtain ⟨m, rfl⟩ : ∃ m, n = m + 1 := ⟨n - 1, by omega⟩
    simp [M.loop, M.loopN, h (m + 1) (by omega)]
  have more : ∀ (f : List Int → M (List Int ⊕ List Int)) (s s' r : List Int), M.Conv (f s) (.inl s') → (∃ N m0, ∀ n, N ≤ n → ∀ m, m0 ≤ m → M.loopN f n m s' = some r) → (∃ N m0, ∀ n, N ≤ n → ∀ m, m0 ≤ m → M.loopN f n m s = some r) := by
    intro f s s' r ⟨N, h⟩ ⟨N', m0, h'⟩
    refine ⟨max N N', m0 + 1, fun n hn m hm => ?_⟩
    obtain ⟨m, rfl⟩ : ∃ q, m = q + 1 := ⟨m - 1, by omega⟩
    simp only [M.loopN, h n (by omega)]
    exact h' n (by omega) m (by omega)
  have one : ∀ (f : List Int → M (List Int ⊕ List Int)) (s r : List Int), M.Conv (f s) (.inr r) → (∃ N m0, ∀ n, N ≤ n → ∀ m, m0 ≤ m → M.loopN f n m s = some r) := by
    intro f s r ⟨N, h⟩
    refine ⟨N, 1, fun n hn m hm => ?_⟩
    obtain ⟨m, rfl⟩ : ∃ q, m = q + 1 := ⟨m - 1, by omega⟩
    simp [M.loopN, h n hn]
  have fin : ∀ (f : List Int → M (List Int ⊕ List Int)) (s r : List Int), (∃ N m0, ∀ n, N ≤ n → ∀ m, m0 ≤ m → M.loopN f n m s = some r) → M.Conv (M.loop f s) r := fun f s r ⟨N, m0, h⟩ => ⟨max N m0, fun n hn => h n (by omega) n (by omega)⟩
  suffices H : ∀ rs, G rs → ∃ qs, G qs ∧ (∀ x ∈ qs, x ∈ rs) ∧ qs.length ≤ rs.length ∧ (∀ (f' : List Int → M (List Int ⊕ List Int)), (∀ l, G l → l.length ≤ 1 → M.Conv (f' l.reverse) (.inr l.reverse)) → (∀ j i r, G (j :: i :: r) → M.Conv (f' (j :: i :: r).reverse) (bif t j i then .inr (j :: i :: r).reverse else .inl (i :: r).reverse)) →
      ∃ N m0, ∀ n, N ≤ n → ∀ m, m0 ≤ m → M.loopN f' n m rs.reverse = some qs.reverse) by
    intro rs hg
    obtain ⟨qs, a, b, c, d⟩ := H rs hg
    exact ⟨qs, a, b, fin _ _ _ (d f h1 h2), c, fun f' k1 k2 => fin _ _ _ (d f' k1 k2)⟩
  intro rs
  induction rs with
  | nil => exact fun hg => ⟨[], hg, fun _ h => h, Nat.le_refl _, fun f' k1 _ => one _ _ _ (k1 [] hg (by simp))⟩
  | cons j rs ih =>
    intro hg
    cases rs with
    | nil => exact ⟨[j], hg, fun _ h => h, Nat.le_refl _, fun f' k1 _ => one _ _ _ (k1 [j] hg (by simp))⟩
    | cons i r =>
      cases ht : t j i with
      | true => exact ⟨j :: i :: r, hg, fun _ h => h, Nat.le_refl _, fun f' _ k2 => one _ _ _ (by have := k2 j i r hg; rwa [ht] at this)⟩
      | false =>
        obtain ⟨qs, a, b, c, d⟩ := ih (sub _ _ hg)
        exact ⟨qs, a, fun x hx => List.mem_cons_of_mem _ (b x hx), Nat.le_succ_of_le c, fun f' k1 k2 => more _ _ _ _ (by have := k2 j i r hg; rwa [ht] at this) (d f' k1 k2)⟩
/-- an index below k, whose coefficient is finite -/
def termB (c : List Int) (k : Nat) (t : Int) : Prop := 0 ≤ t ∧ t < k ∧ ∃ x, c[t.toNat]? = some x ∧ finB x = true
theorem rev_last {j i : Int} {r : List Int} : (j :: i :: r).reverse[(j :: i :: r).reverse.length - 1]? = some j ∧ (j :: i :: r).reverse[(j :: i :: r).reverse.length - 2]? = some i := by
  constructor
  · simp
  · simp
theorem rev_init {j i : Int} {r : List Int} : ((j :: i :: r).reverse.drop 0).take ((j :: i :: r).reverse.length - 1) = (i :: r).reverse := by
  simp [List.take_append]
  exact List.take_of_length_le (by simp)
/-- what the loop's round reads -/
theorem reads2 {j i : Int} {r : List Int} (hlen : (j :: i :: r).length ≤ 12) : M.Conv (M.idx (j :: i :: r).reverse (w64 (((j :: i :: r).reverse.length : Int) - 2))) i ∧ M.Conv (M.idx (j :: i :: r).reverse (w64 (((j :: i :: r).reverse.length : Int) - 1))) j ∧
    M.Conv (M.sub (j :: i :: r).reverse 0 (w64 (((j :: i :: r).reverse.length : Int) - 1))) (i :: r).reverse := by
  have hl : (j :: i :: r).reverse.length = r.length + 2 := by simp
  simp only [List.length_cons] at hlen
  rw [w64_eq _ (by rw [hl]; omega), w64_eq _ (by rw [hl]; omega)]
  refine ⟨M.Conv_get (by rw [hl]; omega) ?_, M.Conv_get (by rw [hl]; omega) ?_, (M.Conv_sub (by omega) (by rw [hl]; omega) (by rw [hl]; omega)).of ?_⟩
  · have := (rev_last (j := j) (i := i) (r := r)).2
    rw [show (((j :: i :: r).reverse.length : Int) - 2).toNat = (j :: i :: r).reverse.length - 2 by omega]; exact this
  · have := (rev_last (j := j) (i := i) (r := r)).1
    rw [show (((j :: i :: r).reverse.length : Int) - 1).toNat = (j :: i :: r).reverse.length - 1 by omega]; exact this
  · rw [show (((j :: i :: r).reverse.length : Int) - 1).toNat - (0 : Int).toNat = (j :: i :: r).reverse.length - 1 by omega]; exact rev_init
/-- the rounds of the two programs, named -/
def popS (c : List Int) (i1 : Int) (s3 : List Int) : M (List Int ⊕ List Int) := M.ite (decide (1 < (s3.length : Int))) (M.bind (M.idx s3 (w64 ((s3.length : Int) - 2))) (fun x4 => M.bind (M.idx s3 (w64 ((s3.length : Int) - 1))) (fun x5 => M.bind (M.idx c x5) (fun x6 => M.bind (M.idx c x4) (fun x7 => M.bind (M.idx c i1) (fun x8 => M.bind (M.idx c x5) (fun x9 => M.ite (decide ((w64 ((w64 (x8 - x9)) * (w64 (x5 - x4)))) < (w64 ((w64 (x6 - x7)) * (w64 (i1 - x5)))))) (M.ret (.inr s3)) (M.bind (M.sub s3 0 (w64 ((s3.length : Int) - 1))) (fun x10 => M.ret (.inl x10)))))))))) (M.ret (.inr s3))
def popI (c : List Int) (i1 x2 : Int) (s3 : List Int) : M (List Int ⊕ List Int) := M.ite (decide (1 < (s3.length : Int))) (M.bind (M.idx s3 (w64 ((s3.length : Int) - 2))) (fun x4 => M.bind (M.idx s3 (w64 ((s3.length : Int) - 1))) (fun x5 => M.bind (M.idx c x5) (fun x6 => M.bind (M.idx c x4) (fun x7 => M.bind (M.idx c x4) (fun x8 => M.ite (decide ((w64 ((w64 (x2 - x8)) * (w64 (x5 - x4)))) < (w64 ((w64 (x6 - x7)) * (w64 (i1 - x4)))))) (M.ret (.inr s3)) (M.bind (M.sub s3 0 (w64 ((s3.length : Int) - 1))) (fun x9 => M.ret (.inl x9))))))))) (M.ret (.inr s3))
def hullS (c : List Int) (i1 : Int) (s1 : List Int) : M (List Int ⊕ List Int) := M.bind (M.bind (M.idx c i1) (fun x2 => M.ite (x2 == (-1000000000000000)) (M.ret s1) (M.bind (M.loop (popS c i1) s1) (fun x3 => M.bind (M.app x3 ([i1] : List Int)) (fun l1 => M.ret l1))))) (fun (s2 : (List Int)) => M.ret (.inl s2))
def hullI (c : List Int) (i1 : Int) (s1 : List Int) : M (List Int ⊕ List Int) := M.bind (M.bind (M.idx c i1) (fun x2 => M.ite (x2 == (-1000000000000000)) (M.ret s1) (M.bind (M.loop (popI c i1 x2) s1) (fun x3 => M.bind (M.app x3 ([i1] : List Int)) (fun l1 => M.ret l1))))) (fun (s2 : (List Int)) => M.ret (.inl s2))
theorem spec_l09Terms_eq (c : List Int) : spec_l09Terms c = M.bind (M.forI 0 (c.length : Int) (fun s => s) (hullS c) []) (fun x1 => M.ret x1) := rfl
theorem impl_essentialTerms_eq (c : List Int) : impl_essentialTerms c = M.bind (M.forI 0 (c.length : Int) (fun s => s) (hullI c) []) (fun x1 => M.ret x1) := rfl
def keepB (c : List Int) (k x j i : Int) : Bool := decide ((x - (c[j.toNat]?).getD 0) * (j - i) < ((c[j.toNat]?).getD 0 - (c[i.toNat]?).getD 0) * (k - j))
def GoodT (c : List Int) (k : Nat) (l : List Int) : Prop := l.length ≤ 12 ∧ (∀ t ∈ l, termB c k t) ∧ List.Pairwise (fun a b => b < a) l
theorem GoodT.reads {c : List Int} {k : Nat} {j i : Int} {r : List Int} (hk : k ≤ 12) (h : GoodT c k (j :: i :: r)) : ∃ cj ci, M.Conv (M.idx c j) cj ∧ M.Conv (M.idx c i) ci ∧ (-1000000 ≤ cj ∧ cj ≤ 1000000) ∧ (-1000000 ≤ ci ∧ ci ≤ 1000000) ∧ 0 ≤ i ∧ 0 ≤ j ∧ j < k ∧ i < k ∧ (c[j.toNat]?).getD 0 = cj ∧ (c[i.toNat]?).getD 0 = ci := by
  obtain ⟨_, hm, _⟩ := h
  obtain ⟨a1, a2, cj, a3, a4⟩ := hm j List.mem_cons_self
  obtain ⟨b1, b2, ci, b3, b4⟩ := hm i (List.mem_cons_of_mem _ List.mem_cons_self)
  exact ⟨cj, ci, M.Conv_get a1 a3, M.Conv_get b1 b3, finB_bd a4, finB_bd b4, b1, a1, a2, b2, by simp [a3], by simp [b3]⟩
theorem small_len {l : List Int} (hl : l.length ≤ 1) : decide (1 < (l.reverse.length : Int)) = false := decide_eq_false (by simp; omega)
theorem big_len (j i : Int) (r : List Int) : decide (1 < ((j :: i :: r).reverse.length : Int)) = true := decide_eq_true (by simp; omega)
theorem popS_ok {c : List Int} {k : Nat} {x j i : Int} {r : List Int} (hk : k ≤ 12) (hx : c[k]? = some x) (bx : -1000000 ≤ x ∧ x ≤ 1000000) (hg : GoodT c k (j :: i :: r)) :
    M.Conv (popS c k (j :: i :: r).reverse) (bif keepB c k x j i then .inr (j :: i :: r).reverse else .inl (i :: r).reverse) := by
  obtain ⟨cj, ci, r1, r2, b1, b2, i0, j0, j1, i1, e1, e2⟩ := hg.reads hk
  obtain ⟨q1, q2, q3⟩ := reads2 hg.1
  have hget : M.Conv (M.idx c (k : Int)) x := M.Conv_get (by omega) (by simpa using hx)
  refine M.Conv_ite (fun _ => ?_) (fun h => by rw [big_len] at h; cases h)
  refine M.Conv_bind q1 (M.Conv_bind q2 (M.Conv_bind r1 (M.Conv_bind r2 (M.Conv_bind hget (M.Conv_bind r1 ?_)))))
  have m1 := mul_bd (a := x - cj) (b := j - i) (A := 2000000) (B := 12) (by omega) (by omega)
  have m2 := mul_bd (a := cj - ci) (b := k - j) (A := 2000000) (B := 12) (by omega) (by omega)
  rw [w64_eq (x - cj) (by omega), w64_eq (j - i) (by omega), w64_eq (cj - ci) (by omega), w64_eq (k - j) (by omega), w64_eq _ (by omega), w64_eq _ (by omega)]
  have et : keepB c k x j i = decide ((x - cj) * (j - i) < (cj - ci) * (k - j)) := by simp only [keepB, e1, e2]
  rw [et]
  refine M.Conv_ite (fun h => ?_) (fun h => ?_)
  · rw [h]; exact M.Conv_ret _
  · rw [h]; exact M.Conv_bind q3 (M.Conv_ret _)
theorem popI_ok {c : List Int} {k : Nat} {x j i : Int} {r : List Int} (hk : k ≤ 12) (bx : -1000000 ≤ x ∧ x ≤ 1000000) (hg : GoodT c k (j :: i :: r)) :
    M.Conv (popI c k x (j :: i :: r).reverse) (bif keepB c k x j i then .inr (j :: i :: r).reverse else .inl (i :: r).reverse) := by
  obtain ⟨cj, ci, r1, r2, b1, b2, i0, j0, j1, i1, e1, e2⟩ := hg.reads hk
  obtain ⟨q1, q2, q3⟩ := reads2 hg.1
  refine M.Conv_ite (fun _ => ?_) (fun h => by rw [big_len] at h; cases h)
  refine M.Conv_bind q1 (M.Conv_bind q2 (M.Conv_bind r1 (M.Conv_bind r2 (M.Conv_bind r2 ?_))))
  have m1 := mul_bd (a := x - ci) (b := j - i) (A := 2000000) (B := 12) (by omega) (by omega)
  have m2 := mul_bd (a := cj - ci) (b := k - i) (A := 2000000) (B := 12) (by omega) (by omega)
  rw [w64_eq (x - ci) (by omega), w64_eq (j - i) (by omega), w64_eq (cj - ci) (by omega), w64_eq (k - i) (by omega), w64_eq _ (by omega), w64_eq _ (by omega)]
  have et : keepB c k x j i = decide ((x - ci) * (j - i) < (cj - ci) * (k - i)) := by
    simp only [keepB, e1, e2]
    congr 1
    rw [eq_iff_iff]
    have a1 : (x - ci) * (j - i) = (x - cj) * (j - i) + (cj - ci) * (j - i) := by rw [← Int.add_mul]; congr 1; omega
    have a2 : (cj - ci) * (k - i) = (cj - ci) * (k - j) + (cj - ci) * (j - i) := by rw [← Int.mul_add]; congr 1; omega
    omega
  rw [et]
  refine M.Conv_ite (fun h => ?_) (fun h => ?_)
  · rw [h]; exact M.Conv_ret _
  · rw [h]; exact M.Conv_bind q3 (M.Conv_ret _)
/-- the terms found among the first k coefficients, the last one first -/
def TermsT (c : List Int) (k : Nat) (rs : List Int) : Prop := rs.length ≤ k ∧ (∀ t ∈ rs, termB c k t) ∧ List.Pairwise (fun a b => b < a) rs ∧ ((c.take k).any (· != (-1000000000000000)) = true → rs ≠ [])
theorem hull_round {c : List Int} {k : Nat} {x : Int} {rs : List Int} (hc : c.length ≤ 12) (hv : ∀ x ∈ c, valB x = true) (hx : c[k]? = some x) (hG : TermsT c k rs) :
    ∃ rs', TermsT c (k + 1) rs' ∧ M.Conv (hullS c k rs.reverse) (.inl rs'.reverse) ∧ M.Conv (hullI c k rs.reverse) (.inl rs'.reverse) := by
  have hk := (List.getElem?_eq_some_iff.1 hx).1
  have hmem : x ∈ c := List.mem_of_getElem? hx
  have hget : M.Conv (M.idx c (k : Int)) x := M.Conv_get (by omega) (by simpa using hx)
  have htk : c.take (k + 1) = c.take k ++ [x] := by rw [List.take_add_one, hx]; rfl
  obtain ⟨g1, g2, g3, g4⟩ := hG
  have up : ∀ t, termB c k t → termB c (k + 1) t := fun t ⟨a, b, d⟩ => ⟨a, by omega, d⟩
  cases hb : (x == (-1000000000000000)) with
  | true =>
    refine ⟨rs, ⟨by omega, fun t ht => up t (g2 t ht), g3, fun h => g4 ?_⟩, ?_, ?_⟩
    · rw [htk, List.any_append] at h
      simpa [bne, hb] using h
    · exact M.Conv_bind (M.Conv_bind hget (M.Conv_ite (fun _ => M.Conv_ret _) (fun h => by rw [hb] at h; cases h))) (M.Conv_ret _)
    · exact M.Conv_bind (M.Conv_bind hget (M.Conv_ite (fun _ => M.Conv_ret _) (fun h => by rw [hb] at h; cases h))) (M.Conv_ret _)
  | false =>
    have hfx := val_ne (hv x hmem) hb
    have bx := finB_bd hfx
    have hG' : GoodT c k rs := ⟨by omega, g2, g3⟩
    have subG : ∀ x l, GoodT c k (x :: l) → GoodT c k l := fun x l ⟨a, b, d⟩ => ⟨by simp at a; omega, fun t ht => b t (List.mem_cons_of_mem _ ht), (List.pairwise_cons.1 d).2⟩
    obtain ⟨qs, q1, q2, q3, q4, q5⟩ := pop_loop (f := popS c k) (keepB c k x) (GoodT c k) subG (fun l _ hl => M.Conv_ite (fun h => by rw [small_len hl] at h; cases h) (fun _ => M.Conv_ret _)) (fun j i r hg => popS_ok (by omega) hx bx hg) rs hG'
    have q6 := q5 (popI c k x) (fun l _ hl => M.Conv_ite (fun h => by rw [small_len hl] at h; cases h) (fun _ => M.Conv_ret _)) (fun j i r hg => popI_ok (by omega) bx hg)
    have happ : M.Conv (M.app qs.reverse ([(k : Int)] : List Int)) ((k : Int) :: qs).reverse := (M.Conv_app (by simp; omega)).of (by simp)
    refine ⟨(k : Int) :: qs, ⟨by simp; omega, fun t ht => ?_, ?_, fun _ => by simp⟩, ?_, ?_⟩
    · rcases List.mem_cons.1 ht with rfl | ht
      · exact ⟨by omega, by omega, x, by simpa using hx, hfx⟩
      · exact up t (q1.2.1 t ht)
    · exact List.pairwise_cons.2 ⟨fun a ha => (q1.2.1 a ha).2.1, q1.2.2⟩
    · exact M.Conv_bind (M.Conv_bind hget (M.Conv_ite (fun h => by rw [hb] at h; cases h) (fun _ => M.Conv_bind q3 (M.Conv_bind happ (M.Conv_ret _))))) (M.Conv_ret _)
    · exact M.Conv_bind (M.Conv_bind hget (M.Conv_ite (fun h => by rw [hb] at h; cases h) (fun _ => M.Conv_bind q6 (M.Conv_bind happ (M.Conv_ret _))))) (M.Conv_ret _)
theorem hull_rounds {c : List Int} (hc : c.length ≤ 12) (hv : ∀ x ∈ c, valB x = true) : ∀ (d k : Nat) (rs : List Int), k + d = c.length → TermsT c k rs → ∃ rs', TermsT c c.length rs' ∧
    (∃ N, ∀ n, N ≤ n → M.forN (c.length : Int) (fun s => s) (hullS c) n d k rs.reverse = some rs'.reverse) ∧ (∃ N, ∀ n, N ≤ n → M.forN (c.length : Int) (fun s => s) (hullI c) n d k rs.reverse = some rs'.reverse)
  | 0, k, rs, hk, hG => by
    obtain rfl : k = c.length := by omega
    exact ⟨rs, hG, ⟨0, fun n _ => by simp [M.forN]⟩, ⟨0, fun n _ => by simp [M.forN]⟩⟩
  | d + 1, k, rs, hk, hG => by
    have hlt : k < c.length := by omega
    have hlt' : (k : Int) < (c.length : Int) := by omega
    obtain ⟨rs1, g1, ⟨N1, s1⟩, ⟨N2, s2⟩⟩ := hull_round hc hv (List.getElem?_eq_getElem hlt) hG
    obtain ⟨rs2, g2, ⟨N3, s3⟩, ⟨N4, s4⟩⟩ := hull_rounds hc hv d (k + 1) rs1 (by omega) g1
    refine ⟨rs2, g2, ⟨max N1 N3, fun n hn => ?_⟩, ⟨max N2 N4, fun n hn => ?_⟩⟩
    · simp only [M.forN, hlt', decide_true, cond_true, s1 n (by omega)]
      have := s3 n (by omega)
      simpa using this
    · simp only [M.forN, hlt', decide_true, cond_true, s2 n (by omega)]
      have := s4 n (by omega)
      simpa using this
/-- the essential terms: what both programs come to -/
theorem terms_ok {c : List Int} (hc : c.length ≤ 12) (hv : c.all valB = true) : ∃ h : List Int, M.Conv (spec_l09Terms c) h ∧ M.Conv (impl_essentialTerms c) h ∧ h.length ≤ c.length ∧ (∀ t ∈ h, termB c c.length t) ∧ (c.any (· != (-1000000000000000)) = true → h ≠ []) ∧ List.Pairwise (· < ·) h := by
  rw [List.all_eq_true] at hv
  obtain ⟨rs, ⟨g1, g2, g3, g4⟩, ⟨N1, s1⟩, ⟨N2, s2⟩⟩ := hull_rounds hc hv c.length 0 [] (by simp) ⟨by simp, by simp, List.Pairwise.nil, by simp⟩
  have hl : (c.length : Int) ≤ 9223372036854775807 := by omega
  refine ⟨rs.reverse, ?_, ?_, by simpa using g1, fun t ht => g2 t (by simpa using ht), fun h => by simpa using g4 (by simpa using h), ?_⟩
  · rw [spec_l09Terms_eq]
    refine M.Conv_bind ⟨N1, fun n hn => ?_⟩ (M.Conv_ret _)
    simp only [M.forI, hl, decide_true, Bool.and_true, show (-9223372036854775808 : Int) ≤ 0 by decide, cond_true]
    have := s1 n hn
    simpa using this
  · rw [impl_essentialTerms_eq]
    refine M.Conv_bind ⟨N2, fun n hn => ?_⟩ (M.Conv_ret _)
    simp only [M.forI, hl, decide_true, Bool.and_true, show (-9223372036854775808 : Int) ≤ 0 by decide, cond_true]
    have := s2 n hn
    simpa using this
  · rw [List.pairwise_reverse]; exact g3

/-- two programs, one answer -/
def Two {α : Type} (m m' : M α) (Post : α → Prop) : Prop := ∃ r, M.Conv m r ∧ M.Conv m' r ∧ Post r
theorem Two.mk {α : Type} {m m' : M α} {Post : α → Prop} {r : α} (h : M.Conv m r) (h' : M.Conv m' r) (p : Post r) : Two m m' Post := ⟨r, h, h', p⟩
theorem Two.ret {α : Type} {Post : α → Prop} (r : α) (p : Post r) : Two (M.ret r) (M.ret r) Post := ⟨r, M.Conv_ret _, M.Conv_ret _, p⟩
theorem Two.bind {α β : Type} {m m' : M α} {f f' : α → M β} {P : α → Prop} {Q : β → Prop} (h : Two m m' P) (g : ∀ x, P x → Two (f x) (f' x) Q) : Two (M.bind m f) (M.bind m' f') Q := by
  obtain ⟨x, h1, h2, p⟩ := h
  obtain ⟨r, g1, g2, q⟩ := g x p
  exact ⟨r, M.Conv_bind h1 g1, M.Conv_bind h2 g2, q⟩
theorem Two.bindC {α α' β : Type} {m : M α} {m' : M α'} {f : α → M β} {f' : α' → M β} {Q : β → Prop} {x : α} {x' : α'} (h : M.Conv m x) (h' : M.Conv m' x') (g : Two (f x) (f' x') Q) : Two (M.bind m f) (M.bind m' f') Q := by
  obtain ⟨r, g1, g2, q⟩ := g
  exact ⟨r, M.Conv_bind h g1, M.Conv_bind h' g2, q⟩
theorem Two.left {α β : Type} {m : M α} {m' : M β} {f : α → M β} {Q : β → Prop} {x : α} (h : M.Conv m x) (g : Two (f x) m' Q) : Two (M.bind m f) m' Q := by
  obtain ⟨r, g1, g2, q⟩ := g
  exact ⟨r, M.Conv_bind h g1, g2, q⟩
theorem Two.right {α β : Type} {m : M α} {m' : M β} {f : α → M β} {Q : β → Prop} {x : α} (h : M.Conv m x) (g : Two m' (f x) Q) : Two m' (M.bind m f) Q := by
  obtain ⟨r, g1, g2, q⟩ := g
  exact ⟨r, g1, M.Conv_bind h g2, q⟩
theorem Two.ite {α : Type} {b : Bool} {x y x' y' : M α} {Q : α → Prop} (h1 : b = true → Two x x' Q) (h2 : b = false → Two y y' Q) : Two (M.ite b x y) (M.ite b x' y') Q := by
  cases b
  · exact h2 rfl
  · exact h1 rfl
theorem Two.iteL {α : Type} {b : Bool} {x y m' : M α} {Q : α → Prop} (h1 : b = true → Two x m' Q) (h2 : b = false → Two y m' Q) : Two (M.ite b x y) m' Q := by
  cases b
  · exact h2 rfl
  · exact h1 rfl
theorem Two.iteR {α : Type} {b : Bool} {x y m' : M α} {Q : α → Prop} (h1 : b = true → Two m' x Q) (h2 : b = false → Two m' y Q) : Two m' (M.ite b x y) Q := by
  cases b
  · exact h2 rfl
  · exact h1 rfl
theorem two_forN {σ ρ : Type} {hi : Int} {fin : σ → ρ} {f f' : Int → σ → M (σ ⊕ ρ)} {Post : ρ → Prop} (I : Int → σ → Prop) (lo : Int)
    (round : ∀ i s, lo ≤ i → i < hi → I i s → Two (f i s) (f' i s) fun y => (∃ s', y = .inl s' ∧ I (i + 1) s') ∨ (∃ r, y = .inr r ∧ Post r)) :
    ∀ (d : Nat) (i : Int) (s : σ), (hi - i).toNat = d → lo ≤ i → (i ≤ hi ∨ i = lo) → I i s → (∀ i s, (i = hi ∨ i = lo ∧ hi ≤ lo) → I i s → Post (fin s)) → ∃ r, (∃ N, ∀ n, N ≤ n → M.forN hi fin f n d i s = some r) ∧ (∃ N, ∀ n, N ≤ n → M.forN hi fin f' n d i s = some r) ∧ Post r
  | 0, i, s, hd, h1, h2, hI, fi => by
    have hge : ¬ i < hi := by omega
    exact ⟨fin s, ⟨0, fun n _ => by simp [M.forN, hge]⟩, ⟨0, fun n _ => by simp [M.forN, hge]⟩, fi i s (by omega) hI⟩
  | d + 1, i, s, hd, h1, h2, hI, fi => by
    have hlt : i < hi := by omega
    obtain ⟨y, ⟨N, hy⟩, ⟨N', hy'⟩, hc⟩ := round i s h1 hlt hI
    rcases hc with ⟨s', rfl, hI'⟩ | ⟨r, rfl, hp⟩
    · obtain ⟨r, ⟨N1, h3⟩, ⟨N2, h4⟩, hp⟩ := two_forN (fin := fin) I lo round d (i + 1) s' (by omega) (by omega) (by omega) hI' fi
      exact ⟨r, ⟨max N N1, fun n hn => by simp [M.forN, hlt, hy n (by omega), h3 n (by omega)]⟩, ⟨max N' N2, fun n hn => by simp [M.forN, hlt, hy' n (by omega), h4 n (by omega)]⟩, hp⟩
    · exact ⟨r, ⟨N, fun n hn => by simp [M.forN, hlt, hy n hn]⟩, ⟨N', fun n hn => by simp [M.forN, hlt, hy' n hn]⟩, hp⟩
theorem Two.for {σ ρ : Type} {lo hi : Int} {fin : σ → ρ} {f f' : Int → σ → M (σ ⊕ ρ)} {s : σ} {Post : ρ → Prop} (I : Int → σ → Prop) (hlo : -9223372036854775808 ≤ lo) (hhi : hi ≤ 9223372036854775807) (h0 : I lo s)
    (round : ∀ i s, lo ≤ i → i < hi → I i s → Two (f i s) (f' i s) fun y => (∃ s', y = .inl s' ∧ I (i + 1) s') ∨ (∃ r, y = .inr r ∧ Post r)) (done : ∀ i s, (i = hi ∨ i = lo ∧ hi ≤ lo) → I i s → Post (fin s)) :
    Two (M.forI lo hi fin f s) (M.forI lo hi fin f' s) Post := by
  obtain ⟨r, ⟨N, h1⟩, ⟨N', h2⟩, hp⟩ := two_forN (fin := fin) I lo round _ lo s rfl (Int.le_refl _) (.inr rfl) h0 done
  exact ⟨r, ⟨N, fun n hn => by simp [M.forI, hlo, hhi, h1 n hn]⟩, ⟨N', fun n hn => by simp [M.forI, hlo, hhi, h2 n hn]⟩, hp⟩
theorem polyB_len {c : List Int} (h : polyB c = true) : c.length ≤ 12 ∧ c.all valB = true ∧ c.any (· != (-1000000000000000)) = true := by
  simp only [polyB, Bool.and_eq_true, decide_eq_true_eq] at h
  exact ⟨h.1.1, h.1.2, h.2⟩
theorem same_EssentialTerms (c : List Int) (g : fitL inI64 c) (_ : smI c) : Two (spec_EssentialTerms c) (impl_EssentialTerms c) (fun w => smI w.1) := by
  unfold spec_EssentialTerms impl_EssentialTerms
  refine Two.bindC (spec_IsPolynomial_ok g.1) (impl_IsPolynomial_ok g.1) (Two.ite (fun _ => Two.ret _ (by simp [smI])) (fun h => ?_))
  obtain ⟨h1, h2, _⟩ := polyB_len (by simpa using h)
  obtain ⟨t, k1, k2, k3, _⟩ := terms_ok h1 h2
  exact Two.bindC k1 k2 (Two.ret _ (by simp only [smI]; omega))
def timesI (a b : Int) : Int := bif (a == (-1000000000000000)) || (b == (-1000000000000000)) then (-1000000000000000) else w64 (a + b)
theorem eqLoop_ok {a b : List Int} (ha : a.length ≤ 9223372036854775807) (hl : a.length = b.length) : M.Conv (M.forI 0 (a.length : Int) (fun s => .inl s) (fun i1 => (fun (_ : Unit) => M.bind (M.idx a i1) (fun x2 => M.bind (M.idx b i1) (fun x3 => M.ite (x2 != x3) (M.ret (.inr (.inr false))) (M.ret (.inl ())))))) ()) (bif decide (a = b) then (.inl () : Unit ⊕ Bool) else .inr false) := by
  have h := eqInt64S_ok (b := b) ha
  refine (M.Conv_allI (fun i x => b[i]? == some x) false ha fun i x hx => ?_).of ?_
  · have hi := (List.getElem?_eq_some_iff.1 hx).1
    refine M.Conv_bind (M.Conv_get (by omega) (by simpa using hx)) ?_
    refine M.Conv_bind (M.Conv_get (x := b[i]) (by omega) (by simp [show i < b.length by omega])) ?_
    have hb : (b[i]? == some x) = !(x != b[i]) := by rw [List.getElem?_eq_getElem (by omega), bne, Bool.not_not, Option.some_beq_some, BEq.comm]
    rw [hb]
    cases (x != b[i]) <;> exact M.Conv_ret _
  · have key : ((a.zipIdx 0).all fun q => b[q.2]? == some q.1) = decide (a = b) := by
      by_cases e : a = b
      · subst e
        rw [decide_eq_true rfl, List.all_eq_true]
        rintro ⟨x, i⟩ hq
        have := List.mk_mem_zipIdx_iff_getElem?.1 hq
        simp [this]
      · rw [decide_eq_false e, Bool.eq_false_iff]
        intro h
        apply e
        rw [List.all_eq_true] at h
        refine List.ext_getElem hl fun i h1 h2 => ?_
        have := h (a[i], i) (List.mk_mem_zipIdx_iff_getElem?.2 (List.getElem?_eq_getElem h1))
        simp [h2] at this
        exact this.symm
    rw [key]
theorem spec_l01Same_ok {a b : List Int} (ha : a.length ≤ 9223372036854775807) : M.Conv (spec_l01Same a b) (decide (a = b)) := by
  unfold spec_l01Same
  refine M.Conv_ite (fun h => ?_) (fun h => ?_)
  · have : a ≠ b := by rintro rfl; simp at h
    rw [decide_eq_false this]; exact M.Conv_ret _
  · have hl : a.length = b.length := Int.ofNat.inj (by simpa using h)
    refine M.Conv_bind (eqLoop_ok ha hl) ?_
    cases decide (a = b) <;> exact M.Conv_ret _
theorem slices_Equal_int_ok {a b : List Int} (ha : a.length ≤ 9223372036854775807) : M.Conv (slices_Equal_int a b) (decide (a = b)) := by
  unfold slices_Equal_int
  refine M.Conv_ite (fun h => ?_) (fun h => ?_)
  · have : a ≠ b := by rintro rfl; simp at h
    rw [decide_eq_false this]; exact M.Conv_ret _
  · have hl : a.length = b.length := Int.ofNat.inj (by simpa using h)
    refine M.Conv_bind (eqLoop_ok ha hl) ?_
    cases decide (a = b) <;> exact M.Conv_ret _
theorem same_SameFunction (c : List Int) (gc : fitL inI64 c) (d : List Int) (gd : fitL inI64 d) (_ : smI c) (_ : smI d) : Two (spec_SameFunction c d) (impl_SameFunction c d) (fun _ => True) := by
  unfold spec_SameFunction impl_SameFunction
  refine Two.bindC (spec_IsPolynomial_ok gc.1) (impl_IsPolynomial_ok gc.1) ?_
  refine Two.bind (P := fun b => b = !(polyB c && polyB d)) (Two.ite (fun h => Two.ret _ ?_) (fun h => Two.bindC (spec_IsPolynomial_ok gd.1) (impl_IsPolynomial_ok gd.1) (Two.ret _ ?_))) ?_
  · simp at h; simp [h]
  · simp at h; simp [h]
  rintro _ rfl
  refine Two.ite (fun _ => Two.ret _ trivial) (fun h => ?_)
  simp only [Bool.not_eq_false', Bool.and_eq_true] at h
  obtain ⟨c1, c2, _⟩ := polyB_len h.1
  obtain ⟨d1, d2, _⟩ := polyB_len h.2
  obtain ⟨t, t1, t2, t3, t4, _⟩ := terms_ok c1 c2
  obtain ⟨u, u1, u2, u3, u4, _⟩ := terms_ok d1 d2
  refine Two.bindC t1 t2 (Two.bindC u1 u2 (Two.bindC (spec_l01Same_ok (by omega)) (slices_Equal_int_ok (by omega)) (Two.ite (fun _ => Two.ret _ trivial) (fun e => ?_))))
  have e : t = u := by simpa using e
  subst e
  have rd : ∀ (i : Nat) x, t[i]? = some x → ∃ a b, M.Conv (M.idx c x) a ∧ M.Conv (M.idx d x) b ∧ (c[x.toNat]? = d[x.toNat]?) = (a = b) := by
    intro i x hx
    obtain ⟨p1, p2, a, p3, _⟩ := t4 x (List.mem_of_getElem? hx)
    obtain ⟨q1, q2, b, q3, _⟩ := u4 x (List.mem_of_getElem? hx)
    exact ⟨a, b, M.Conv_get p1 p3, M.Conv_get q1 q3, by rw [p3, q3]; simp⟩
  unfold slices_ContainsFunc_int_F_impl_SameFunction_1 slices_IndexFunc_int_F_impl_SameFunction_1
  refine Two.mk (r := (t.all fun x => decide (c[x.toNat]? = d[x.toNat]?), 0)) ?_ ?_ trivial
  · refine M.Conv_bind (M.Conv_all (fun x => decide (c[x.toNat]? = d[x.toNat]?)) (false, 0) (by omega) fun i x hx => ?_) ?_
    · obtain ⟨a, b, ha, hb, he⟩ := rd i x hx
      have hx' : M.Conv (M.idx t i) x := M.Conv_get (by omega) (by simpa using hx)
      refine M.Conv_bind hx' (M.Conv_bind ha (M.Conv_bind hx' (M.Conv_bind hb ?_)))
      simp only [he]
      rw [show decide (a = b) = !(a != b) by simp [bne]; rfl]
      cases (a != b) <;> exact M.Conv_ret _
    · cases (t.all fun x => decide (c[x.toNat]? = d[x.toNat]?)) <;> exact M.Conv_ret _
  · refine M.Conv_bind (contains_ok (fun x => !decide (c[x.toNat]? = d[x.toNat]?)) (by omega) fun i x hx => ?_) ((M.Conv_ret _).of (by rw [any_not]))
    obtain ⟨a, b, ha, hb, he⟩ := rd i x hx
    have hx' : M.Conv (M.idx t i) x := M.Conv_get (by omega) (by simpa using hx)
    refine M.Conv_bind hx' (M.Conv_bind (x := (a != b)) (M.Conv_bind ha (M.Conv_bind hb (M.Conv_ret _))) ?_)
    simp only [he]
    rw [show (!decide (a = b)) = (a != b) by simp [bne]; rfl]
    cases (a != b) <;> exact M.Conv_ret _

theorem Conv_fillN {β : Type} {n : Nat} {f : Int → List β → M (List β ⊕ List β)} (g : Nat → β) (z : β) (hl : n ≤ 9223372036854775807)
    (H : ∀ (i : Nat) (s : List β), i < n → s.length = n → M.Conv (f i s) (.inl (s.set i (g i)))) : M.Conv (M.forI 0 (n : Int) (fun s => s) f (List.replicate n z)) ((List.range n).map g) := by
  have h := M.Conv_fill (l := List.replicate n z) (f := f) (fun i _ => g i) z (by simpa using hl) (fun i x s hx hs => H i s (by simpa using (List.getElem?_eq_some_iff.1 hx).1) (by simpa using hs))
  simp only [List.length_replicate] at h
  refine h.of (List.ext_getElem? fun i => ?_)
  by_cases hi : i < n
  · simp [hi]
  · rw [List.getElem?_eq_none (by simp; omega), List.getElem?_eq_none (by simp; omega)]
def inB (x lo hi : Int) : Bool := decide (lo ≤ x) && decide (x ≤ hi)
def smII (a : List (List Int)) : Prop := a.length ≤ 1048576 ∧ ∀ r ∈ a, r.length ≤ 1048576
def widthN (a : List (List Int)) : Nat := (a.headD []).length
def matB (a : List (List Int)) : Bool := (decide (1 ≤ a.length) && decide (a.length ≤ 10)) && ((decide (1 ≤ widthN a) && decide (widthN a ≤ 10)) && a.all fun r => decide (r.length = widthN a) && r.all valB)
/-- a matrix of w columns -/
structure Mat (a : List (List Int)) (w : Nat) : Prop where
  rows : 1 ≤ a.length ∧ a.length ≤ 10
  cols : 1 ≤ w ∧ w ≤ 10
  row : ∀ r ∈ a, r.length = w ∧ ∀ x ∈ r, valB x = true
theorem Mat.head {a : List (List Int)} {w : Nat} (h : Mat a w) : ∃ r, a[0]? = some r ∧ r.length = w := by
  have := h.rows
  exact ⟨a[0], List.getElem?_eq_getElem (by omega), (h.row _ (List.getElem_mem (by omega))).1⟩
def foldI {α σ : Type} (g : Nat → α → σ → σ) : Nat → List α → σ → σ
  | _, [], s => s
  | i, x :: xs, s => foldI g (i + 1) xs (g i x s)
theorem val_cases {x : Int} (h : valB x = true) : x = -1000000000000000 ∨ (-1000000 ≤ x ∧ x ≤ 1000000) := by
  cases hb : (x == (-1000000000000000)) with
  | true => left; simpa using hb
  | false => right; exact finB_bd (val_ne h hb)
theorem Mat.get {a : List (List Int)} {w i : Nat} {row : List Int} (hm : Mat a w) (h : a[i]? = some row) {j : Nat} (hj : j < w) : M.Conv (M.idx row (j : Int)) ((row[j]?).getD 0) ∧ valB ((row[j]?).getD 0) = true := by
  obtain ⟨e1, e2⟩ := hm.row row (List.mem_of_getElem? h)
  rw [List.getElem?_eq_getElem (by omega)]
  exact ⟨M.Conv_get (by omega) (by simp [show j < row.length by omega]), e2 _ (List.getElem_mem _)⟩
theorem get_row {a : List (List Int)} {i : Nat} {row : List Int} (h : a[i]? = some row) : M.Conv (M.idx a (i : Int)) row := M.Conv_get (by omega) (by simpa using h)
def dotL (x row : List Int) : Int := foldI (fun j v s => mx s (timesI v ((x[j]?).getD 0))) 0 row (-1000000000000000)
theorem Conv_forV {σ : Type} {n : Nat} {f : Int → σ → M (σ ⊕ σ)} (val : Nat → σ) (hn : n ≤ 9223372036854775807) (h : ∀ i, i < n → M.Conv (f i (val i)) (.inl (val (i + 1)))) : M.Conv (M.forI 0 (n : Int) (fun s => s) f (val 0)) (val n) := by
  have := M.Conv_forI (l := List.range n) (f := f) (fin := fun s => s) (s := val 0) (ρ := σ) (fun i _ _ => .inl (val (i + 1))) (fun i s => s = val i) (by simpa using hn) rfl (fun i x s hx hs => by
    subst hs
    have hi := (List.getElem?_eq_some_iff.1 hx).1
    exact ⟨h i (by simpa using hi), fun s' e => by cases e; rfl⟩)
  simp only [List.length_range] at this
  refine this.of ?_
  have run : ∀ (m i : Nat), M.run (σ := σ) (ρ := σ) (fun i (_ : Nat) _ => .inl (val (i + 1))) (fun s => s) i (List.range m) (val i) = val (i + m) := by
    have g : ∀ (l : List Nat) (i : Nat), M.run (σ := σ) (ρ := σ) (fun i (_ : Nat) _ => .inl (val (i + 1))) (fun s => s) i l (val i) = val (i + l.length) := by
      intro l
      induction l with
      | nil => intro i; rfl
      | cons x xs ih => intro i; simp only [M.run, List.length_cons]; rw [ih (i + 1)]; congr 1; omega
    intro m i
    rw [g, List.length_range]
  simpa using run n 0
theorem spec_l02Bottom1_ok {n : Nat} (h : n ≤ 1099511627) : M.Conv (spec_l02Bottom 1 (n : Int)) [List.replicate n (-1000000000000000)] := by
  unfold spec_l02Bottom
  have inner : M.Conv (M.forI 0 (n : Int) (fun s => s) (fun _ => (fun (s2 : (List Int)) => M.bind (M.app s2 ([(-1000000000000000)] : List Int)) (fun l1 => M.ret (.inl l1)))) ([] : List Int)) (List.replicate n (-1000000000000000)) :=
    Conv_forV (fun i => List.replicate i (-1000000000000000)) (by omega) fun i hi => M.Conv_bind (M.Conv_app (by simp; omega)) ((M.Conv_ret _).of (by rw [List.replicate_succ']))
  refine M.Conv_bind (x := [List.replicate n (-1000000000000000)]) ?_ (M.Conv_ret _)
  have := Conv_forV (n := 1) (f := (fun _ => (fun (s1 : (List (List Int))) => M.bind (M.forI 0 (n : Int) (fun s => s) (fun _ => (fun (s2 : (List Int)) => M.bind (M.app s2 ([(-1000000000000000)] : List Int)) (fun l1 => M.ret (.inl l1)))) ([] : List Int)) (fun x2 => M.bind (M.app s1 [x2]) (fun l2 => M.ret (.inl l2))))))
    (fun i => List.replicate i (List.replicate n (-1000000000000000))) (by omega) (fun i hi => M.Conv_bind inner (M.Conv_bind (M.Conv_app (by simp; omega)) ((M.Conv_ret _).of (by rw [List.replicate_succ']))))
  exact this
def ConvL {σ ρ : Type} (f : σ → M (σ ⊕ ρ)) (s : σ) (r : ρ) : Prop := ∃ N m0, ∀ n, N ≤ n → ∀ m, m0 ≤ m → M.loopN f n m s = some r
theorem ConvL.conv {σ ρ : Type} {f : σ → M (σ ⊕ ρ)} {s : σ} {r : ρ} (h : ConvL f s r) : M.Conv (M.loop f s) r := by
  obtain ⟨N, m0, h⟩ := h
  exact ⟨max N m0, fun n hn => h n (by omega) n (by omega)⟩
theorem ConvL.step {σ ρ : Type} {f : σ → M (σ ⊕ ρ)} {s s' : σ} {r : ρ} (h1 : M.Conv (f s) (.inl s')) (h : ConvL f s' r) : ConvL f s r := by
  obtain ⟨N, h1⟩ := h1
  obtain ⟨N', m0, h⟩ := h
  refine ⟨max N N', m0 + 1, fun n hn m hm => ?_⟩
  obtain ⟨m, rfl⟩ : ∃ q, m = q + 1 := ⟨m - 1, by omega⟩
  simp only [M.loopN, h1 n (by omega)]
  exact h n (by omega) m (by omega)
theorem ConvL.stop {σ ρ : Type} {f : σ → M (σ ⊕ ρ)} {s : σ} {r : ρ} (h1 : M.Conv (f s) (.inr r)) : ConvL f s r := by
  obtain ⟨N, h1⟩ := h1
  refine ⟨N, 1, fun n hn m hm => ?_⟩
  obtain ⟨m, rfl⟩ : ∃ q, m = q + 1 := ⟨m - 1, by omega⟩
  simp only [M.loopN, h1 n hn]
theorem two_loopL {σ ρ : Type} {f f' : σ → M (σ ⊕ ρ)} {Post : ρ → Prop} (I : σ → Prop) (μ : σ → Nat) (round : ∀ s, I s → Two (f s) (f' s) fun y => (∃ s', y = .inl s' ∧ I s' ∧ μ s' < μ s) ∨ (∃ r, y = .inr r ∧ Post r)) :
    ∀ (d : Nat) (s : σ), μ s < d → I s → ∃ r, ConvL f s r ∧ ConvL f' s r ∧ Post r
  | 0, _, h, _ => by omega
  | d + 1, s, h, hI => by
    obtain ⟨y, h1, h2, hc⟩ := round s hI
    rcases hc with ⟨s', rfl, hI', hlt⟩ | ⟨r, rfl, hp⟩
    · obtain ⟨r, k1, k2, hp⟩ := two_loopL I μ round d s' (by omega) hI'
      exact ⟨r, k1.step h1, k2.step h2, hp⟩
    · exact ⟨r, ConvL.stop h1, ConvL.stop h2, hp⟩
def floI (a b : Int) : Int := bif decide ((a.tmod b) < 0) then w64 (w64 (a.tdiv b) - 1) else w64 (a.tdiv b)
theorem spec_l01Floor_ok {a b : Int} (hb : (b != 0) = true) : M.Conv (spec_l01Floor a b) (floI a b) :=
  M.Conv_bind (M.Conv_guard hb) (M.Conv_bind (M.Conv_guard hb) (M.Conv_bind (M.Conv_ite2 (fun _ => M.Conv_ret _) (fun _ => M.Conv_ret _)) (M.Conv_ret _)))
theorem impl_floorDiv_ok {a b : Int} (hb : (b != 0) = true) : M.Conv (impl_floorDiv a b) (floI a b) :=
  M.Conv_bind (M.Conv_guard hb) (M.Conv_bind (M.Conv_guard hb) (M.Conv_bind (M.Conv_ite2 (fun _ => M.Conv_ret _) (fun _ => M.Conv_ret _)) (M.Conv_ret _)))
theorem floI_mul {c k : Int} (hk : 0 < k) (hc : -1000000 ≤ c ∧ c ≤ 1000000) : floI (c * k) k = c := by
  unfold floI
  rw [Int.mul_tmod_left, Int.mul_tdiv_cancel c (by omega)]
  exact w64_eq _ (by omega)
theorem floI_in (a b : Int) : inI64 (floI a b) := by
  unfold floI
  cases decide (a.tmod b < 0)
  · exact w64_bd _
  · exact w64_bd _
theorem full_Two (c : List Int) (g : fitL inI64 c) (_ : smI c) : Two (spec_FullPolynomial c) (impl_FullPolynomial c) (fun w => smI w.1 ∧ (polyB c = true → w.1.length = c.length ∧ ∀ y ∈ w.1, inI64 y)) := by
  unfold spec_FullPolynomial impl_FullPolynomial
  refine Two.bindC (spec_IsPolynomial_ok g.1) (impl_IsPolynomial_ok g.1) (Two.ite (fun h => Two.ret _ ⟨by simp [smI], fun e => by rw [e] at h; cases h⟩) (fun h => ?_))
  obtain ⟨h1, h2, h3⟩ := polyB_len (by simpa using h)
  obtain ⟨t, k1, k2, tl, tt, tne, tpw⟩ := terms_ok h1 h2
  have tne := tne h3
  obtain ⟨t0, ts, rfl⟩ := List.exists_cons_of_ne_nil tne
  obtain ⟨p0, p1, x0, p2, p3⟩ := tt t0 List.mem_cons_self
  let B : List Int := List.replicate c.length (-1000000000000000)
  have hB : B.length = c.length := by simp [B]
  refine Two.bindC k1 k2 ?_
  refine Two.left (spec_l02Bottom1_ok (by omega)) (Two.left (M.Conv_get (x := B) (by omega) rfl) ?_)
  refine Two.right (M.Conv_make (by omega) (by omega)) ?_
  rw [Int.toNat_natCast, List.length_replicate]
  refine Two.right (x := B) ((Conv_fillN (fun _ => (-1000000000000000)) 0 (by omega) fun i s hi hs => ?_).of (by simp [B, List.map_const'])) ?_
  · exact M.Conv_bind (M.Conv_get (x := s[i]) (by omega) (by simp [show i < s.length by omega])) (M.Conv_bind (M.Conv_upd (by omega)) (M.Conv_ret _))
  have gt0 : M.Conv (M.idx (t0 :: ts) 0) t0 := M.Conv_get (by omega) rfl
  have gB : M.Conv (M.idx B t0) (-1000000000000000) := M.Conv_get p0 (by rw [show B = List.replicate c.length (-1000000000000000) from rfl, List.getElem?_replicate, if_pos (by omega)])
  have uB : M.Conv (M.upd B t0 x0) (B.set t0.toNat x0) := by
    obtain ⟨q, rfl⟩ : ∃ q : Nat, t0 = q := ⟨t0.toNat, by omega⟩
    exact M.Conv_upd (by omega)
  refine Two.bindC gt0 gt0 (Two.bindC gt0 gt0 (Two.bindC (M.Conv_get p0 p2) (M.Conv_get p0 p2) (Two.bindC gB gB (Two.bindC uB uB (Two.bind (P := fun s : List Int => s.length = c.length ∧ ∀ y ∈ s, inI64 y) ?_ (fun s hs => Two.ret _ ⟨by have := hs.1; simp only [smI]; omega, fun _ => hs⟩))))))
  -- from term to term
  have inB : ∀ y ∈ B, inI64 y := fun y hy => by have := List.eq_of_mem_replicate hy; subst this; simp [inI64]
  have inS : ∀ (s : List Int) (i : Nat) (v : Int), (∀ y ∈ s, inI64 y) → inI64 v → ∀ y ∈ s.set i v, inI64 y := fun s i v h hv y hy => by
    rcases List.mem_or_eq_of_mem_set hy with hy | hy
    · exact h y hy
    · subst hy; exact hv
  refine Two.for (fun m s => s.length = c.length ∧ (∀ y ∈ s, inI64 y) ∧ ∃ i x, (t0 :: ts)[(m - 1).toNat]? = some i ∧ c[i.toNat]? = some x ∧ s[i.toNat]? = some x) (by omega) (by omega)
    ⟨by simpa using hB, inS _ _ _ inB (by have := finB_bd p3; unfold inI64; omega), t0, x0, rfl, p2, by rw [List.getElem?_set_self (show t0.toNat < B.length by omega)]⟩ (fun m s m0 m1 hs => ?_) (fun m s _ hs => ⟨hs.1, hs.2.1⟩)
  obtain ⟨hsl, hsin, i, x, hi, hx, hsi⟩ := hs
  obtain ⟨q, rfl⟩ : ∃ q : Nat, m = (q : Int) + 1 := ⟨(m - 1).toNat, by omega⟩
  have e1 : ((q : Int) + 1 - 1).toNat = q := by omega
  rw [e1] at hi
  have hq : q + 1 < (t0 :: ts).length := by omega
  have hk : (t0 :: ts)[q + 1]? = some (t0 :: ts)[q + 1] := List.getElem?_eq_getElem hq
  generalize (t0 :: ts)[q + 1] = k at hk
  have hil := (List.getElem?_eq_some_iff.1 hi).1
  have hik : i < k := by
    have h5 := List.pairwise_iff_getElem.1 tpw q (q + 1) hil hq (by omega)
    have h6 : (t0 :: ts)[q] = i := by rw [List.getElem?_eq_getElem hil] at hi; exact Option.some.inj hi
    have h7 : (t0 :: ts)[q + 1] = k := by rw [List.getElem?_eq_getElem hq] at hk; exact Option.some.inj hk
    rw [h6, h7] at h5; exact h5
  obtain ⟨i0, i1, xi, i2, i3⟩ := tt i (List.mem_of_getElem? hi)
  obtain ⟨k0, k1', xk, k2', k3⟩ := tt k (List.mem_of_getElem? hk)
  rw [hx] at i2; cases i2
  have bi := finB_bd i3
  have bk := finB_bd k3
  have ga : M.Conv (M.idx (t0 :: ts) (w64 ((q : Int) + 1 - 1))) i := by
    rw [w64_eq _ (by omega)]
    exact M.Conv_get (by omega) (by rw [e1]; exact hi)
  have gb : M.Conv (M.idx (t0 :: ts) ((q : Int) + 1)) k := M.Conv_get (by omega) (by rw [show ((q : Int) + 1).toNat = q + 1 by omega]; exact hk)
  have gi : M.Conv (M.idx c i) x := M.Conv_get i0 hx
  have gk : M.Conv (M.idx c k) xk := M.Conv_get k0 k2'
  have hbk : (w64 (k - i) != 0) = true := by rw [w64_eq _ (by omega)]; simp; omega
  refine Two.bindC ga ga (Two.bindC gb gb ?_)
  let I : List Int × Int → Prop := fun s => s.1.length = c.length ∧ (∀ y ∈ s.1, inI64 y) ∧ i < s.2 ∧ s.2 ≤ k + 1 ∧ (s.2 = k + 1 → s.1[k.toNat]? = some xk)
  have hcl : (k : Int) < c.length := by omega
  -- one round, in both
  have valk : floI (w64 (w64 (x * w64 (k - k)) + w64 (xk * w64 (k - i)))) (w64 (k - i)) = xk := by
    have m2 := mul_bd (a := xk) (b := k - i) (A := 1000000) (B := 12) (by omega) (by omega)
    rw [w64_eq (k - k) (by omega), w64_eq (k - i) (by omega), show x * (k - k) = 0 by rw [Int.sub_self, Int.mul_zero], w64_eq 0 (by omega), w64_eq (xk * (k - i)) (by omega), Int.zero_add, w64_eq _ (by omega)]
    exact floI_mul (by omega) bk
  have main := two_loopL (f := fun (s2 : (List Int) × Int) => M.ite (decide (s2.2 ≤ k)) (M.bind (M.idx c i) (fun x13 => M.bind (M.idx c k) (fun x14 => M.bind (spec_l01Floor (w64 ((w64 (x13 * (w64 (k - s2.2)))) + (w64 (x14 * (w64 (s2.2 - i)))))) (w64 (k - i))) (fun x15 => M.bind (M.idx s2.1 s2.2) (fun x16 => M.bind (M.upd s2.1 s2.2 x15) (fun l2 => M.ret (.inl (l2, (w64 (s2.2 + 1)))))))))) (M.ret (.inr (s2.1, s2.2))))
    (f' := fun (s3 : (List Int) × Int) => M.ite (decide (s3.2 ≤ k)) (M.bind (M.idx c i) (fun x13 => M.bind (M.idx c k) (fun x14 => M.bind (impl_floorDiv (w64 ((w64 (x13 * (w64 (k - s3.2)))) + (w64 (x14 * (w64 (s3.2 - i)))))) (w64 (k - i))) (fun x15 => M.bind (M.idx s3.1 s3.2) (fun x16 => M.bind (M.upd s3.1 s3.2 x15) (fun l4 => M.ret (.inl (l4, (w64 (s3.2 + 1)))))))))) (M.ret (.inr (s3.1, s3.2))))
    (Post := fun r => r.1.length = c.length ∧ (∀ y ∈ r.1, inI64 y) ∧ r.1[k.toNat]? = some xk) I (fun s => (k + 1 - s.2).toNat) (fun s hs => by
      obtain ⟨l, n⟩ := s
      obtain ⟨a1, a0, a2, a3, a4⟩ := hs
      simp only at a1 a0 a2 a3 a4
      refine Two.ite (fun b => ?_) (fun b => Two.ret _ (.inr ⟨_, rfl, a1, a0, a4 (by have := of_decide_eq_false b; simp only at this; omega)⟩))
      have b := of_decide_eq_true b
      simp only at b
      have hnl : n.toNat < l.length := by omega
      have gn : M.Conv (M.idx l n) l[n.toNat] := M.Conv_get (by omega) (List.getElem?_eq_getElem hnl)
      have un : ∀ v, M.Conv (M.upd l n v) (l.set n.toNat v) := fun v => by
        have := M.Conv_upd (l := l) (i := n.toNat) (x := v) hnl
        rwa [show ((n.toNat : Nat) : Int) = n by omega] at this
      refine Two.bindC gi gi (Two.bindC gk gk (Two.bindC (spec_l01Floor_ok hbk) (impl_floorDiv_ok hbk) (Two.bindC gn gn (Two.bindC (un _) (un _) (Two.ret _ (.inl ⟨_, rfl, ⟨by simpa using a1, inS _ _ _ a0 (floI_in _ _), ?_, ?_, fun e => ?_⟩, ?_⟩)))))) 
      · simp only; rw [w64_eq _ (by omega)]; omega
      · simp only; rw [w64_eq _ (by omega)]; omega
      · simp only at e ⊢
        rw [w64_eq _ (by omega)] at e
        obtain rfl : n = k := by omega
        rw [valk, List.getElem?_set_self hnl]
      · simp only; rw [w64_eq _ (by omega)]; omega)
  obtain ⟨r, c1, c2, r1, r0, r2⟩ := main _ (s, i + 1) (Nat.lt_succ_self _) ⟨hsl, hsin, by simp only; omega, by simp only; omega, fun e => by simp only at e; omega⟩
  refine Two.mk (r := .inl r.1) (M.Conv_bind ?_ (M.Conv_ret _)) (M.Conv_bind ?_ (M.Conv_ret _)) (.inl ⟨_, rfl, r1, r0, k, xk, by rw [show ((q : Int) + 1 + 1 - 1).toNat = q + 1 by omega]; exact hk, k2', r2⟩)
  · rw [w64_eq (i + 1) (by omega)]
    exact c1.conv
  · -- the one round more changes nothing
    refine (ConvL.step (s' := (s, i + 1)) ?_ c2).conv
    have hnl : i.toNat < s.length := by omega
    have gn : M.Conv (M.idx s i) x := M.Conv_get i0 hsi
    have vali : floI (w64 (w64 (x * w64 (k - i)) + w64 (xk * w64 (i - i)))) (w64 (k - i)) = x := by
      have m2 := mul_bd (a := x) (b := k - i) (A := 1000000) (B := 12) (by omega) (by omega)
      rw [w64_eq (i - i) (by omega), w64_eq (k - i) (by omega), show xk * (i - i) = 0 by rw [Int.sub_self, Int.mul_zero], w64_eq 0 (by omega), w64_eq (x * (k - i)) (by omega), Int.add_zero, w64_eq _ (by omega)]
      exact floI_mul (by omega) bi
    have un : M.Conv (M.upd s i x) s := by
      have := M.Conv_upd (l := s) (i := i.toNat) (x := x) hnl
      rw [show ((i.toNat : Nat) : Int) = i by omega] at this
      refine this.of ?_
      refine List.ext_getElem? fun j => ?_
      by_cases e : i.toNat = j
      · subst e; rw [List.getElem?_set_self hnl, hsi]
      · rw [List.getElem?_set_ne e]
    refine M.Conv_ite (fun _ => M.Conv_bind gi (M.Conv_bind gk (M.Conv_bind (impl_floorDiv_ok hbk) (M.Conv_bind gn ?_)))) (fun b => by have := of_decide_eq_false b; simp only at this; omega)
    rw [vali]
    exact M.Conv_bind un ((M.Conv_ret _).of (by rw [w64_eq _ (by omega)]))
def entA (a : List (List Int)) (i j : Nat) : Int := (((a[i]?).getD [])[j]?).getD 0
theorem ent_val {a : List (List Int)} {n i j : Nat} (hm : Mat a n) (hi : i < a.length) (hj : j < n) : M.Conv (M.idx a (i : Int)) a[i] ∧ M.Conv (M.idx a[i] (j : Int)) (entA a i j) ∧ valB (entA a i j) = true := by
  have hr : a[i]? = some a[i] := List.getElem?_eq_getElem hi
  obtain ⟨g1, g2⟩ := hm.get hr hj
  have e : entA a i j = (a[i][j]?).getD 0 := by simp only [entA, hr, Option.getD_some]
  rw [e]
  exact ⟨get_row hr, g1, g2⟩
def tab {α : Type} (n : Nat) (h : Nat → α) : List α := (List.range n).map h
theorem tab_len {α : Type} (n : Nat) (h : Nat → α) : (tab n h).length = n := by simp [tab]
theorem tab_get {α : Type} {n i : Nat} {h : Nat → α} (hi : i < n) : (tab n h)[i]? = some (h i) := by simp [tab, List.getElem?_range hi]
theorem tab_none {α : Type} {n i : Nat} {h : Nat → α} (hi : n ≤ i) : (tab n h)[i]? = none := List.getElem?_eq_none (by rw [tab_len]; exact hi)
theorem tab_ext {α : Type} {n : Nat} {h : Nat → α} {l : List α} (hl : l.length = n) (e : ∀ i, i < n → l[i]? = some (h i)) : l = tab n h := by
  apply List.ext_getElem?
  intro i
  by_cases hi : i < n
  · rw [e i hi, tab_get hi]
  · rw [tab_none (by omega), List.getElem?_eq_none (by omega)]
theorem tab_congr {α : Type} {n : Nat} {h g : Nat → α} (e : ∀ i, i < n → h i = g i) : tab n h = tab n g := by
  refine tab_ext (tab_len _ _) fun i hi => ?_
  rw [tab_get hi, e i hi]
def matF (m n : Nat) (f : Nat → Nat → Int) : List (List Int) := tab m fun i => tab n (f i)
theorem matF_len (m n : Nat) (f : Nat → Nat → Int) : (matF m n f).length = m := tab_len _ _
theorem matF_congr {m n : Nat} {f g : Nat → Nat → Int} (e : ∀ i j, i < m → j < n → f i j = g i j) : matF m n f = matF m n g := tab_congr fun i hi => tab_congr fun j hj => e i j hi hj
structure Shp (a : List (List Int)) (w : Nat) : Prop where
  rows : 1 ≤ a.length ∧ a.length ≤ 10
  cols : 1 ≤ w ∧ w ≤ 10
  row : ∀ r ∈ a, r.length = w
theorem Mat.shp {a : List (List Int)} {w : Nat} (hm : Mat a w) : Shp a w := ⟨hm.rows, hm.cols, fun r hr => (hm.row r hr).1⟩
theorem mat_eq {a : List (List Int)} {w : Nat} (hm : Shp a w) : a = matF a.length w (entA a) := by
  refine tab_ext rfl fun i hi => ?_
  have hr : a[i]? = some a[i] := List.getElem?_eq_getElem hi
  rw [hr]
  have hl := hm.row _ (List.mem_of_getElem? hr)
  congr 1
  refine tab_ext hl fun j hj => ?_
  have : a[i][j]? = some (a[i][j]'(by omega)) := List.getElem?_eq_getElem _
  rw [this]
  simp only [entA, hr, Option.getD_some, this]
theorem entA_matF {m n i j : Nat} {f : Nat → Nat → Int} (hi : i < m) (hj : j < n) : entA (matF m n f) i j = f i j := by
  simp only [entA, matF, tab_get hi, Option.getD_some, tab_get hj]
theorem shp_of {m n : Nat} {f : Nat → Nat → Int} (h1 : 1 ≤ m ∧ m ≤ 10) (h2 : 1 ≤ n ∧ n ≤ 10) : Shp (matF m n f) n := by
  refine ⟨by rw [matF_len]; exact h1, h2, fun r hr => ?_⟩
  simp only [matF, tab, List.mem_map, List.mem_range] at hr
  obtain ⟨i, hi, rfl⟩ := hr
  simp
theorem matB_shp {a : List (List Int)} {w : Nat} (h : Shp a w) : matB a = a.all fun r => r.all valB := by
  have h1 := h.rows
  have h2 := h.cols
  have hw : widthN a = w := by
    unfold widthN
    cases a with
    | nil => simp at h1
    | cons r rs => exact h.row r (by simp)
  unfold matB
  rw [hw, decide_eq_true h1.1, decide_eq_true h1.2, decide_eq_true h2.1, decide_eq_true h2.2]
  simp only [Bool.true_and]
  rw [Bool.eq_iff_iff, List.all_eq_true, List.all_eq_true]
  refine ⟨fun H r hr => ?_, fun H r hr => ?_⟩
  · have := H r hr; simp only [Bool.and_eq_true] at this; exact this.2
  · rw [decide_eq_true (h.row r hr), Bool.true_and]; exact H r hr
theorem Shp.sm {a : List (List Int)} {w : Nat} (h : Shp a w) : smII a := ⟨by have := h.rows; omega, fun r hr => by have := h.row r hr; have := h.cols; omega⟩
def colL (b : List (List Int)) (i : Nat) : List Int := tab b.length fun j => entA b j i
def Rel {α β : Type} (m : M α) (m' : M β) (Q : α → β → Prop) : Prop := ∃ r r', M.Conv m r ∧ M.Conv m' r' ∧ Q r r'
theorem Rel.of {α β : Type} {m : M α} {m' : M β} {Q : α → β → Prop} {r : α} {r' : β} (h : M.Conv m r) (h' : M.Conv m' r') (q : Q r r') : Rel m m' Q := ⟨r, r', h, h', q⟩
theorem Rel.bind {α β γ δ : Type} {m : M α} {m' : M β} {f : α → M γ} {f' : β → M δ} {P : α → β → Prop} {Q : γ → δ → Prop} (h : Rel m m' P) (g : ∀ x x', P x x' → Rel (f x) (f' x') Q) : Rel (M.bind m f) (M.bind m' f') Q := by
  obtain ⟨x, x', h1, h2, p⟩ := h
  obtain ⟨r, r', g1, g2, q⟩ := g x x' p
  exact ⟨r, r', M.Conv_bind h1 g1, M.Conv_bind h2 g2, q⟩
theorem Rel.left {α γ δ : Type} {m : M α} {f : α → M γ} {m' : M δ} {Q : γ → δ → Prop} {x : α} (h : M.Conv m x) (g : Rel (f x) m' Q) : Rel (M.bind m f) m' Q := by
  obtain ⟨r, r', g1, g2, q⟩ := g
  exact ⟨r, r', M.Conv_bind h g1, g2, q⟩
theorem Rel.right {α γ δ : Type} {m : M α} {f : α → M γ} {m' : M δ} {Q : δ → γ → Prop} {x : α} (h : M.Conv m x) (g : Rel m' (f x) Q) : Rel m' (M.bind m f) Q := by
  obtain ⟨r, r', g1, g2, q⟩ := g
  exact ⟨r, r', g1, M.Conv_bind h g2, q⟩
theorem Rel.two {α : Type} {m m' : M α} {P : α → Prop} (h : Rel m m' fun x y => x = y ∧ P x) : Two m m' P := by
  obtain ⟨r, r', h1, h2, rfl, p⟩ := h
  exact ⟨r, h1, h2, p⟩
theorem Rel.iteL {α β : Type} {b : Bool} {x y : M α} {m' : M β} {Q : α → β → Prop} (h1 : b = true → Rel x m' Q) (h2 : b = false → Rel y m' Q) : Rel (M.ite b x y) m' Q := by
  cases b
  · obtain ⟨r, r', g1, g2, q⟩ := h2 rfl
    exact ⟨r, r', M.Conv_ite (fun t => by simp at t) (fun _ => g1), g2, q⟩
  · obtain ⟨r, r', g1, g2, q⟩ := h1 rfl
    exact ⟨r, r', M.Conv_ite (fun _ => g1) (fun t => by simp at t), g2, q⟩
theorem Rel.iteR {α β : Type} {b : Bool} {x y : M β} {m' : M α} {Q : α → β → Prop} (h1 : b = true → Rel m' x Q) (h2 : b = false → Rel m' y Q) : Rel m' (M.ite b x y) Q := by
  cases b
  · obtain ⟨r, r', g1, g2, q⟩ := h2 rfl
    exact ⟨r, r', g1, M.Conv_ite (fun t => by simp at t) (fun _ => g2), q⟩
  · obtain ⟨r, r', g1, g2, q⟩ := h1 rfl
    exact ⟨r, r', g1, M.Conv_ite (fun _ => g2) (fun t => by simp at t), q⟩
theorem Rel.ite {α β : Type} {b b' : Bool} {x y : M α} {x' y' : M β} {Q : α → β → Prop} (e : b = b') (h1 : b = true → Rel x x' Q) (h2 : b = false → Rel y y' Q) : Rel (M.ite b x y) (M.ite b' x' y') Q := by
  subst e
  exact Rel.iteL (fun t => Rel.iteR (fun _ => h1 t) (fun t' => by rw [t] at t'; cases t')) (fun t => Rel.iteR (fun t' => by rw [t] at t'; cases t') (fun _ => h2 t))
theorem Rel.ret {α β : Type} {x : α} {y : β} {Q : α → β → Prop} (q : Q x y) : Rel (M.ret x) (M.ret y) Q := ⟨x, y, M.Conv_ret _, M.Conv_ret _, q⟩
/-- one round of two loops: both go on, or both stop -/
def Round {σ σ' ρ ρ' : Type} (R : σ → σ' → Prop) (Q : ρ → ρ' → Prop) (y : σ ⊕ ρ) (y' : σ' ⊕ ρ') : Prop := (∃ t t', y = .inl t ∧ y' = .inl t' ∧ R t t') ∨ (∃ r r', y = .inr r ∧ y' = .inr r' ∧ Q r r')
theorem Round.on {σ σ' ρ ρ' : Type} {R : σ → σ' → Prop} {Q : ρ → ρ' → Prop} {t : σ} {t' : σ'} (h : R t t') : Round R Q (.inl t) (.inl t') := .inl ⟨t, t', rfl, rfl, h⟩
theorem Round.off {σ σ' ρ ρ' : Type} {R : σ → σ' → Prop} {Q : ρ → ρ' → Prop} {r : ρ} {r' : ρ'} (h : Q r r') : Round R Q (.inr r : σ ⊕ ρ) (.inr r' : σ' ⊕ ρ') := .inr ⟨r, r', rfl, rfl, h⟩
theorem Rel.for {σ σ' ρ ρ' : Type} {n : Nat} {f : Int → σ → M (σ ⊕ ρ)} {f' : Int → σ' → M (σ' ⊕ ρ')} {fin : σ → ρ} {fin' : σ' → ρ'} {s : σ} {s' : σ'} {Q : ρ → ρ' → Prop} (R : Nat → σ → σ' → Prop) (hn : n ≤ 9223372036854775807) (h0 : R 0 s s')
    (step : ∀ (i : Nat) t t', i < n → R i t t' → Rel (f i t) (f' i t') (Round (R (i + 1)) Q)) (stop : ∀ t t', R n t t' → Q (fin t) (fin' t')) : Rel (M.forI 0 (n : Int) fin f s) (M.forI 0 (n : Int) fin' f' s') Q := by
  have H : ∀ (d i : Nat) t t', i + d = n → R i t t' → ∃ r r', (∃ N, ∀ m, N ≤ m → M.forN (n : Int) fin f m d (i : Int) t = some r) ∧ (∃ N, ∀ m, N ≤ m → M.forN (n : Int) fin' f' m d (i : Int) t' = some r') ∧ Q r r' := by
    intro d
    induction d with
    | zero =>
      intro i t t' e hR
      obtain rfl : i = n := by omega
      exact ⟨fin t, fin' t', ⟨0, fun m _ => by simp [M.forN]⟩, ⟨0, fun m _ => by simp [M.forN]⟩, stop t t' hR⟩
    | succ d ih =>
      intro i t t' e hR
      have hlt : (i : Int) < n := by omega
      obtain ⟨y, y', ⟨N, hy⟩, ⟨N', hy'⟩, hc⟩ := step i t t' (by omega) hR
      rcases hc with ⟨u, u', rfl, rfl, hR⟩ | ⟨r, r', rfl, rfl, hq⟩
      · obtain ⟨r, r', ⟨K, hr⟩, ⟨K', hr'⟩, hq⟩ := ih (i + 1) u u' (by omega) hR
        rw [Int.natCast_add] at hr hr'
        refine ⟨r, r', ⟨max N K, fun m hm => ?_⟩, ⟨max N' K', fun m hm => ?_⟩, hq⟩
        · simp [M.forN, hlt, hy m (by omega)]; exact hr m (by omega)
        · simp [M.forN, hlt, hy' m (by omega)]; exact hr' m (by omega)
      · exact ⟨r, r', ⟨N, fun m hm => by simp [M.forN, hlt, hy m hm]⟩, ⟨N', fun m hm => by simp [M.forN, hlt, hy' m hm]⟩, hq⟩
  obtain ⟨r, r', ⟨N, h1⟩, ⟨N', h2⟩, q⟩ := H n 0 s s' (by omega) h0
  refine ⟨r, r', ⟨N, fun m hm => ?_⟩, ⟨N', fun m hm => ?_⟩, q⟩
  · have := h1 m hm; have hn' : (n : Int) ≤ 9223372036854775807 := by omega
    simp [M.forI, hn']; exact this
  · have := h2 m hm; have hn' : (n : Int) ≤ 9223372036854775807 := by omega
    simp [M.forI, hn']; exact this
/-- a loop with a round count on the left, any loop on the right -/
theorem Rel.loop {σ σ' ρ ρ' : Type} {f : σ → M (σ ⊕ ρ)} {f' : σ' → M (σ' ⊕ ρ')} {s : σ} {s' : σ'} {Q : ρ → ρ' → Prop} (R : σ → σ' → Prop) (μ : σ → Nat) (h0 : R s s')
    (step : ∀ t t', R t t' → Rel (f t) (f' t') (Round (fun u u' => R u u' ∧ μ u < μ t) Q)) : Rel (M.loop f s) (M.loop f' s') Q := by
  have H : ∀ (d : Nat) t t', μ t < d → R t t' → ∃ r r', ConvL f t r ∧ ConvL f' t' r' ∧ Q r r' := by
    intro d
    induction d with
    | zero => intro t t' h; omega
    | succ d ih =>
      intro t t' h hR
      obtain ⟨y, y', hy, hy', hc⟩ := step t t' hR
      rcases hc with ⟨u, u', rfl, rfl, hR, hlt⟩ | ⟨r, r', rfl, rfl, hq⟩
      · obtain ⟨r, r', k1, k2, q⟩ := ih u u' (by omega) hR
        exact ⟨r, r', k1.step hy, k2.step hy', q⟩
      · exact ⟨r, r', ConvL.stop hy, ConvL.stop hy', hq⟩
  obtain ⟨r, r', h1, h2, q⟩ := H (μ s + 1) s s' (by omega) h0
  exact ⟨r, r', h1.conv, h2.conv, q⟩

theorem Conv_check {ρ : Type} {n lo : Nat} {f : Int → Unit → M (Unit ⊕ (Unit ⊕ ρ))} (P : Nat → Prop) (v : ρ) (hn : n ≤ 9223372036854775807)
    (h : ∀ i : Nat, lo ≤ i → i < n → (P i ∧ M.Conv (f i ()) (.inl ())) ∨ (¬ P i ∧ M.Conv (f i ()) (.inr (.inr v)))) :
    ((∀ i, lo ≤ i → i < n → P i) ∧ M.Conv (M.forI (lo : Int) (n : Int) (fun s => .inl s) f ()) (.inl ())) ∨ ((∃ i, lo ≤ i ∧ i < n ∧ ¬ P i) ∧ M.Conv (M.forI (lo : Int) (n : Int) (fun s => .inl s) f ()) (.inr v)) := by
  have H : M.TC (M.forI (lo : Int) (n : Int) (fun s => .inl s) f ()) (fun r => ((∀ i, lo ≤ i → i < n → P i) ∧ r = .inl ()) ∨ ((∃ i, lo ≤ i ∧ i < n ∧ ¬ P i) ∧ r = .inr v)) := by
    refine M.TC_for (fun i _ => ∀ k : Nat, lo ≤ k → (k : Int) < i → P k) () (by omega) (by omega) (fun k h1 h2 => by omega) (fun i s h1 h2 hI => ?_) (fun i s hi hI => ?_)
    · obtain ⟨k, rfl⟩ : ∃ k : Nat, i = (k : Int) := ⟨i.toNat, by omega⟩
      rcases h k (by omega) (by omega) with ⟨hp, hc⟩ | ⟨hp, hc⟩
      · refine hc.tc (.inl ⟨(), rfl, fun q h3 h4 => ?_⟩)
        by_cases e : q = k
        · subst e; exact hp
        · exact hI q h3 (by omega)
      · exact hc.tc (.inr ⟨.inr v, rfl, .inr ⟨⟨k, by omega, by omega, hp⟩, rfl⟩⟩)
    · rcases hi with rfl | ⟨rfl, hle⟩
      · exact .inl ⟨fun q h1 h2 => hI q h1 (by omega), rfl⟩
      · exact .inl ⟨fun q h1 h2 => by omega, rfl⟩
  obtain ⟨r, hr, ⟨h1, rfl⟩ | ⟨h1, rfl⟩⟩ := H
  · exact .inl ⟨h1, hr⟩
  · exact .inr ⟨h1, hr⟩
def nd (l : List Int) (i : Nat) : Int := (l[i]?).getD 0
theorem nd_read {l : List Int} {i : Nat} (h : i < l.length) : M.Conv (M.idx l (i : Int)) (nd l i) := by
  have : l[i]? = some (l[i]'h) := List.getElem?_eq_getElem _
  refine M.Conv_idx ?_
  unfold nd; rw [this]; rfl
def OkNodes (n : Nat) (l : List Int) : Prop := ∀ i, i < l.length → (0 ≤ nd l i ∧ nd l i ≤ (n : Int) - 1) ∧ (0 < i → nd l (i - 1) < nd l i)
theorem OkNodes.len {n : Nat} {l : List Int} (h : OkNodes n l) : l.length ≤ n := by
  have key : ∀ i, i < l.length → (i : Int) ≤ nd l i := by
    intro i
    induction i with
    | zero => intro hi; have := (h 0 hi).1; omega
    | succ i ih => intro hi; have := (h (i + 1) hi).2 (by omega); have := ih (by omega); simp only [Nat.add_sub_cancel] at *; omega
  by_cases e : l.length = 0
  · omega
  · have := key (l.length - 1) (by omega)
    have := (h (l.length - 1) (by omega)).1
    omega
structure ByC (code : List Int) : Prop where
  len : code.length ≤ 4096
  byte : ∀ x ∈ code, 0 ≤ x ∧ x ≤ 255
structure Src (code : List Int) (s : TL01source) : Prop where
  code_ : s.code = code
  lo : 0 ≤ s.at_
  hi : s.at_ ≤ code.length
  seed : 0 ≤ s.seed ∧ s.seed < 2147483647
theorem Src.mk' {code : List Int} {s : TL01source} {c : List Int} (h : Src code s) (hc : c = code) : Src code ⟨c, s.at_, s.seed⟩ := ⟨hc, h.lo, h.hi, h.seed⟩
theorem tmod_in {x n : Int} (hx : 0 ≤ x) (hn : 0 < n) : 0 ≤ x.tmod n ∧ x.tmod n < n := ⟨Int.tmod_nonneg n hx, Int.tmod_lt_of_pos x hn⟩
theorem tdiv_in {x : Int} (hx : 0 ≤ x) (h : x < 2147483647) : 0 ≤ x.tdiv 31 ∧ x.tdiv 31 < 2147483647 := by
  rw [Int.tdiv_eq_ediv_of_nonneg hx]; omega
theorem from_ok {code : List Int} (hc : ByC code) : M.TC (spec_l01From code) (Src code) := by
  have hl := hc.len
  unfold spec_l01From
  refine M.TC_bind (Mid := fun x => 0 ≤ x.1 ∧ x.1 < 2147483647) (M.TC_loop (fun (s : Int × Int) => (0 ≤ s.1 ∧ s.1 < 2147483647) ∧ 0 ≤ s.2 ∧ s.2 ≤ 4096) (fun s => (4096 - s.2).toNat) (61403, 0) (by simp) fun s hs => ?_) fun x hx => M.TC_ret ⟨rfl, by simp, by simp, hx⟩
  refine M.TC_ite (fun t => ?_) (fun _ => M.TC_ret (.inr ⟨_, rfl, hs.1⟩))
  simp only [Bool.and_eq_true, decide_eq_true_eq] at t
  refine M.TC_bind (Mid := fun x => 0 ≤ x ∧ x ≤ 255) (M.TC_idx hs.2.1 t.1 fun x hx => hc.byte x (List.mem_of_getElem? hx)) fun x hx => M.TC_ret (.inl ⟨_, rfl, ?_, ?_⟩)
  · have e1 : w64 (s.1 * 67) = s.1 * 67 := w64_eq _ (by omega)
    have e2 : w64 x = x := w64_eq _ (by omega)
    have e3 : w64 (s.1 * 67 + x) = s.1 * 67 + x := w64_eq _ (by omega)
    have e4 : w64 (s.2 + 1) = s.2 + 1 := w64_eq _ (by omega)
    simp only [e1, e2, e3, e4]
    exact ⟨tmod_in (by omega) (by omega), by omega, by omega⟩
  · simp only
    rw [w64_eq _ (by omega)]; omega
theorem next_ok {code : List Int} (hc : ByC code) {s : TL01source} (hs : Src code s) (n : Int) (hn : n ≤ 1000000) : M.TC (spec_l01Next s n) (fun r => Src code r.2 ∧ 0 ≤ r.1 ∧ (r.1 < n ∨ (n ≤ 1 ∧ r.1 = 0))) := by
  have hl := hc.len
  obtain ⟨h1, h2, h3, h4⟩ := hs
  unfold spec_l01Next
  refine M.TC_ite (fun t => M.TC_ret ⟨⟨h1, h2, h3, h4⟩, by simp, .inr ⟨by simpa using t, rfl⟩⟩) (fun t => ?_)
  have t : 1 < n := by simpa using t
  have e1 : w64 (s.seed * 48271) = s.seed * 48271 := w64_eq _ (by omega)
  have e2 : w64 (s.seed * 48271 + 59) = s.seed * 48271 + 59 := w64_eq _ (by omega)
  have hsd := tmod_in (x := s.seed * 48271 + 59) (n := 2147483647) (by omega) (by omega)
  simp only [e1, e2]
  generalize (s.seed * 48271 + 59).tmod 2147483647 = sd at hsd ⊢
  have hq := tdiv_in hsd.1 hsd.2
  generalize sd.tdiv 31 = q at hq ⊢
  have e3 : w64 q = q := w64_eq _ (by omega)
  have e4 : w64 (s.at_ + 1) = s.at_ + 1 := w64_eq _ (by omega)
  simp only [e3, e4, h1]
  refine M.TC_bind (Mid := fun (x : Int × Int) => 0 ≤ x.1 ∧ 0 ≤ x.2 ∧ x.2 ≤ code.length) ?_ (fun x hx => M.TC_bind (M.TC_guard (Post := fun _ => True) (by simp; omega) trivial) fun _ _ => M.TC_ret ⟨⟨rfl, hx.2.1, hx.2.2, hsd⟩, (tmod_in hx.1 (by omega)).1, .inl (tmod_in hx.1 (by omega)).2⟩)
  refine M.TC_ite (fun t => ?_) (fun _ => M.TC_ret ⟨hq.1, h2, h3⟩)
  have t : s.at_ < code.length := by simpa using t
  refine M.TC_bind (Mid := fun x => 0 ≤ x ∧ x ≤ 255) (M.TC_idx h2 t fun x hx => hc.byte x (List.mem_of_getElem? hx)) fun x hx => ?_
  refine M.TC_ite (fun _ => ?_) (fun _ => M.TC_ret ⟨?_, by simp only; omega, by simp only; omega⟩)
  · have e5 : w64 (s.at_ + 1 - 1) = s.at_ := by rw [w64_eq _ (by omega)]; omega
    rw [e5]
    refine M.TC_bind (Mid := fun x => 0 ≤ x ∧ x ≤ 255) (M.TC_idx h2 t fun x hx => hc.byte x (List.mem_of_getElem? hx)) fun x hx => M.TC_ret ⟨?_, by simp only; omega, by simp only; omega⟩
    simp only
    rw [w64_eq _ (by omega)]; exact hx.1
  · simp only
    rw [w64_eq x (by omega), w64_eq _ (by omega)]; omega
theorem pick_ok {code : List Int} (hc : ByC code) {s : TL01source} (hs : Src code s) (l : List Int) (h1 : 1 ≤ l.length) (h2 : l.length ≤ 1000) (P : Int → Prop) (hP : ∀ x ∈ l, P x) : M.TC (spec_l01Pick s l) (fun r => Src code r.2.1 ∧ P r.1) := by
  unfold spec_l01Pick
  refine M.TC_bind (next_ok hc hs l.length (by omega)) fun x hx => M.TC_bind (Mid := P) (M.TC_idx hx.2.1 (by omega) fun y hy => hP y (List.mem_of_getElem? hy)) fun y hy => M.TC_ret ⟨hx.1.mk' hs.code_, hy⟩
theorem value_ok {code : List Int} (hc : ByC code) {s : TL01source} (hs : Src code s) : M.TC (spec_l01DrawValue s) (fun r => Src code r.2 ∧ inI64 r.1) := by
  unfold spec_l01DrawValue
  refine M.TC_bind (next_ok hc hs 24 (by omega)) fun x hx => ?_
  refine M.TC_bind (Mid := fun _ => True) (M.TC_ite (fun _ => M.TC_ret trivial) (fun _ => M.TC_ite (fun _ => M.TC_ret trivial) (fun _ => M.TC_ret trivial))) fun b _ => ?_
  refine M.TC_ite (fun _ => M.TC_ret ⟨hx.1.mk' hs.code_, by simp [inI64]⟩) (fun _ => M.TC_ite (fun _ => ?_) (fun _ => M.TC_ite (fun _ => ?_) (fun _ => ?_)))
  · exact M.TC_bind (pick_ok hc (hx.1.mk' hs.code_) _ (by simp) (by simp) inI64 (by simp [inI64])) fun y hy => M.TC_ret ⟨hy.1.mk' hs.code_, hy.2⟩
  · exact M.TC_bind (next_ok hc (hx.1.mk' hs.code_) 2000 (by omega)) fun y hy => M.TC_ret ⟨hy.1.mk' hs.code_, w64_bd _⟩
  · exact M.TC_bind (next_ok hc (hx.1.mk' hs.code_) 41 (by omega)) fun y hy => M.TC_ret ⟨hy.1.mk' hs.code_, w64_bd _⟩
/-- what a drawn matrix is at least: not large, of numbers -/
structure MatS (a : List (List Int)) : Prop where
  rows : a.length ≤ 11
  row : ∀ r ∈ a, r.length ≤ 10 ∧ ∀ x ∈ r, inI64 x
theorem MatS.sm {a : List (List Int)} (h : MatS a) : smII a := ⟨by have := h.rows; omega, fun r hr => by have := (h.row r hr).1; omega⟩
theorem MatS.fit {a : List (List Int)} (h : MatS a) : fitL (fitL inI64) a := ⟨by have := h.rows; omega, fun r hr => ⟨by have := (h.row r hr).1; omega, (h.row r hr).2⟩⟩
theorem MatS.of {m n : Nat} {f : Nat → Nat → Int} (hm : m ≤ 10) (hn : n ≤ 10) (hf : ∀ i j, inI64 (f i j)) : MatS (matF m n f) := by
  refine ⟨by rw [matF_len]; omega, fun r hr => ?_⟩
  simp only [matF, tab, List.mem_map, List.mem_range] at hr
  obtain ⟨i, hi, rfl⟩ := hr
  refine ⟨by simp; omega, fun x hx => ?_⟩
  simp only [List.mem_map, List.mem_range] at hx
  obtain ⟨j, hj, rfl⟩ := hx
  exact hf i j
structure VecS (x : List Int) : Prop where
  len : x.length ≤ 20
  mem : ∀ v ∈ x, inI64 v
theorem VecS.sm {x : List Int} (h : VecS x) : smI x := by have := h.len; unfold smI; omega
theorem VecS.fit {x : List Int} (h : VecS x) : fitL inI64 x := ⟨by have := h.len; omega, h.mem⟩
theorem VecS.snoc {x : List Int} {v : Int} (h : VecS x) (hl : x.length ≤ 19) (hv : inI64 v) : VecS (x ++ [v]) := ⟨by simp; omega, fun y hy => by
  rcases List.mem_append.1 hy with hy | hy
  · exact h.mem y hy
  · simp at hy; subst hy; exact hv⟩
theorem VecS.set {x : List Int} {v : Int} (i : Nat) (h : VecS x) (hv : inI64 v) : VecS (x.set i v) := ⟨by rw [List.length_set]; exact h.len, fun y hy => by
  rcases List.mem_or_eq_of_mem_set hy with hy | hy
  · exact h.mem y hy
  · subst hy; exact hv⟩
theorem likeInts_refl {a : List Int} (h : a.length ≤ 1099511627776) : M.Conv (laws_likeInts a a) true := by
  unfold laws_likeInts
  refine M.Conv_ite (fun t => by simp at t) (fun _ => ?_)
  rcases Conv_check (ρ := Bool) (n := a.length) (lo := 0) (f := (fun i1 => (fun (_ : Unit) => M.bind (M.idx a i1) (fun x2 => M.bind (M.idx a i1) (fun x3 => M.ite (x2 != x3) (M.ret (.inr (.inr false))) (M.ret (.inl ()))))))) (fun _ => True) false (by omega) (fun i _ hi => .inl ⟨trivial, M.Conv_bind (nd_read hi) (M.Conv_bind (nd_read hi) (M.Conv_ite (fun t => by simp at t) (fun _ => M.Conv_ret _)))⟩) with ⟨_, h2⟩ | ⟨⟨i, _, _, h3⟩, _⟩
  · exact M.Conv_bind h2 (M.Conv_ret _)
  · exact absurd trivial h3
theorem foldI_at {σ α : Type} {g : Nat → α → σ → σ} {a : List α} (J : Nat → σ → Prop) : ∀ (l : List α) (i : Nat) (s : σ), (∀ k, l[k]? = a[i + k]?) → J i s → (∀ k x s, a[k]? = some x → J k s → J (k + 1) (g k x s)) → J (i + l.length) (foldI g i l s)
  | [], i, s, _, h, _ => h
  | x :: xs, i, s, hl, h, step => by
    have h0 : a[i]? = some x := by have := hl 0; simpa using this.symm
    have := foldI_at J xs (i + 1) (g i x s) (fun k => by have := hl (k + 1); simp only [List.getElem?_cons_succ] at this; rw [this]; congr 1; omega) (step i x s h0 h) step
    rw [show i + (x :: xs).length = i + 1 + xs.length by simp; omega]
    exact this
theorem ent_at {a : List (List Int)} {i j : Nat} {row : List Int} (h : a[i]? = some row) : entA a i j = (row[j]?).getD 0 := by simp only [entA, h, Option.getD_some]
theorem val_ent {a : List (List Int)} {w i j : Nat} (hm : Mat a w) (hi : i < a.length) (hj : j < w) : entA a i j = -1000000000000000 ∨ (-1000000 ≤ entA a i j ∧ entA a i j ≤ 1000000) := val_cases (ent_val hm hi hj).2.2
theorem big_ok (code : List Int) : M.Conv (laws_big code) (decide (4096 < (code.length : Int))) := M.Conv_ret _
theorem ByC.of {code : List Int} (h : fitL inU8 code) (hb : decide (4096 < (code.length : Int)) = false) : ByC code := ⟨by have := of_decide_eq_false hb; omega, fun x hx => h.2 x hx⟩
theorem cmp_list {l : List Int} {c : Int} (h : l.length ≤ 1099511627776) (q : Bool) (hq : q = false) : M.Conv (M.ite (q || (c != c)) (M.ret true) (M.bind (laws_likeInts l l) (fun x12 => M.ret (!x12)))) false := by
  subst hq
  exact M.Conv_ite (fun t => by simp at t) (fun _ => M.Conv_bind (likeInts_refl h) (M.Conv_ret _))
theorem cmp_list0 {l : List Int} {c : Int} (h : l.length ≤ 1099511627776) : M.Conv (M.ite (c != c) (M.ret true) (M.bind (laws_likeInts l l) (fun x12 => M.ret (!x12)))) false :=
  M.Conv_ite (fun t => by simp at t) (fun _ => M.Conv_bind (likeInts_refl h) (M.Conv_ret _))
def co (c : List Int) (i : Nat) : Int := (c[i]?).getD (-1000000000000000)
theorem co_get {c : List Int} {i : Nat} (h : i < c.length) : c[i]? = some (co c i) := by
  unfold co; rw [List.getElem?_eq_getElem h]; rfl
theorem co_out {c : List Int} {i : Nat} (h : c.length ≤ i) : co c i = -1000000000000000 := by
  unfold co; rw [List.getElem?_eq_none h]; rfl
theorem co_val {c : List Int} (hv : c.all valB = true) (i : Nat) : co c i = -1000000000000000 ∨ -1000000 ≤ co c i ∧ co c i ≤ 1000000 := by
  by_cases hi : i < c.length
  · rw [List.all_eq_true] at hv
    exact val_cases (hv _ (List.mem_of_getElem? (co_get hi)))
  · exact .inl (co_out (by omega))
theorem times_co {a p : Int} (h : a ≠ -1000000000000000) (ha : -1000000 ≤ a ∧ a ≤ 1000000) (hp : -1000000 ≤ p ∧ p ≤ 1000000) : timesI a p = a + p := by
  simp only [timesI]
  rw [show (a == (-1000000000000000)) = false by simpa using h, show (p == (-1000000000000000)) = false by simp; omega]
  exact w64_eq _ (by omega)
theorem times_bot (p : Int) : timesI (-1000000000000000) p = -1000000000000000 := by simp [timesI]
structure IsEv (c : List Int) (x v : Int) : Prop where
  up : ∀ i : Nat, co c i ≠ -1000000000000000 → co c i + i * x ≤ v
  on : ∃ i : Nat, co c i ≠ -1000000000000000 ∧ v = co c i + i * x
theorem IsEv.unique {c : List Int} {x v w : Int} (h : IsEv c x v) (g : IsEv c x w) : v = w := by
  obtain ⟨i, h1, h2⟩ := h.on
  obtain ⟨k, g1, g2⟩ := g.on
  have := h.up k g1
  have := g.up i h1
  omega
structure PartP (c d : List Int) (n i k : Nat) (s : List Int) : Prop where
  len : s.length = n
  up : ∀ p q : Nat, (p < i ∨ p = i ∧ q < k) → co c p ≠ -1000000000000000 → co d q ≠ -1000000000000000 → co c p + co d q ≤ co s (p + q)
  on : ∀ m : Nat, co s m = -1000000000000000 ∨ ∃ p q : Nat, p + q = m ∧ co c p ≠ -1000000000000000 ∧ co d q ≠ -1000000000000000 ∧ co s m = co c p + co d q
theorem co_set {s : List Int} {i m : Nat} {v : Int} (hi : i < s.length) : co (s.set i v) m = if m = i then v else co s m := by
  unfold co
  by_cases e : m = i
  · subst e; rw [if_pos rfl, List.getElem?_set_self hi]; rfl
  · rw [if_neg e, List.getElem?_set_ne (by omega)]
theorem PartP.step {c d s : List Int} {n i k : Nat} (hc : c.all valB = true) (hd : d.all valB = true) (h : PartP c d n i k s) (hn : i + k < n) : PartP c d n i (k + 1) (s.set (i + k) (mx (co s (i + k)) (timesI (co c i) (co d k)))) := by
  have hlt : i + k < s.length := by rw [h.len]; exact hn
  have vc := co_val hc i
  have vd := co_val hd k
  have vs : co s (i + k) = -1000000000000000 ∨ -2000000 ≤ co s (i + k) := by
    rcases h.on (i + k) with e | ⟨p, q, _, h1, h2, e⟩
    · exact .inl e
    · have := co_val hc p
      have := co_val hd q
      omega
  -- the new coefficient
  have hz : (mx (co s (i + k)) (timesI (co c i) (co d k)) = co s (i + k) ∧ (co c i = -1000000000000000 ∨ co d k = -1000000000000000 ∨ co c i + co d k ≤ co s (i + k))) ∨ (mx (co s (i + k)) (timesI (co c i) (co d k)) = co c i + co d k ∧ co c i ≠ -1000000000000000 ∧ co d k ≠ -1000000000000000 ∧ co s (i + k) ≤ co c i + co d k) := by
    rw [mx_eq]
    by_cases e1 : co c i = -1000000000000000
    · rw [e1, times_bot]; left; omega
    · by_cases e2 : co d k = -1000000000000000
      · rw [e2, show timesI (co c i) (-1000000000000000) = -1000000000000000 by simp [timesI]]; left; omega
      · rw [times_co e1 (by omega) (by omega)]
        by_cases e3 : co c i + co d k ≤ co s (i + k)
        · left; omega
        · right; omega
  refine ⟨by rw [List.length_set]; exact h.len, fun p q hpq h1 h2 => ?_, fun m => ?_⟩
  · rw [co_set hlt]
    by_cases e : p + q = i + k
    · rw [if_pos e]
      by_cases e2 : p = i ∧ q = k
      · obtain ⟨rfl, rfl⟩ := e2; omega
      · have := h.up p q (by omega) h1 h2
        rw [e] at this
        omega
    · rw [if_neg e]
      exact h.up p q (by omega) h1 h2
  · rw [co_set hlt]
    by_cases e : m = i + k
    · rw [if_pos e]
      rcases hz with ⟨hz, _⟩ | ⟨hz, h1, h2, _⟩
      · rw [hz]
        have := h.on m
        rw [e] at this ⊢
        exact this
      · exact .inr ⟨i, k, e.symm, h1, h2, hz⟩
    · rw [if_neg e]; exact h.on m
theorem draw9_ok {code : List Int} (hc : ByC code) {s : TL01source} (hs : Src code s) : M.TC (spec_l09Draw s) (fun r => VecS r.1 ∧ 1 ≤ r.1.length ∧ r.1.length ≤ 13 ∧ Src code r.2) := by
  unfold spec_l09Draw
  rw [hs.code_]
  refine M.TC_bind (next_ok hc hs 6 (by omega)) fun x hx => ?_
  refine M.TC_bind (Mid := fun (r : Int × Int × List Int × Int) => Src code ⟨code, r.1, r.2.1⟩ ∧ VecS r.2.2.1 ∧ 1 ≤ r.2.2.1.length ∧ r.2.2.1.length ≤ 6) (M.TC_loop (fun (r : Int × Int × List Int × Int) => Src code ⟨code, r.1, r.2.1⟩ ∧ VecS r.2.2.1 ∧ 0 ≤ r.2.2.2 ∧ (r.2.2.1.length : Int) + r.2.2.2 ≤ 6 ∧ 1 ≤ (r.2.2.1.length : Int) + r.2.2.2) (fun r => r.2.2.2.toNat) _ ⟨hx.1.mk' rfl, ⟨by simp, by simp⟩, ?_, ?_, ?_⟩ fun r hI => ?_) fun r hr => ?_
  · simp only; rw [w64_eq _ (by omega)]; omega
  · simp only [List.length_nil]; rw [w64_eq _ (by omega)]; omega
  · simp only [List.length_nil]; rw [w64_eq _ (by omega)]; omega
  · obtain ⟨h1, h2, h3, h4, h5⟩ := hI
    refine M.TC_ite (fun t => ?_) (fun t => M.TC_ret (.inr ⟨_, rfl, h1, h2, ?_, ?_⟩))
    · have t : 0 < r.2.2.2 := by simpa using t
      refine M.TC_bind (next_ok hc h1 21 (by omega)) fun x hx => M.TC_bindC (M.Conv_app (by simp; omega)) (M.TC_bind (next_ok hc (hx.1.mk' rfl) 5 (by omega)) fun y hy => ?_)
      have hv : VecS (r.2.2.1 ++ [w64 (x.1 - 10)]) := h2.snoc (by omega) (w64_bd _)
      have hl : (r.2.2.1 ++ [w64 (x.1 - 10)]).length = r.2.2.1.length + 1 := by simp
      generalize r.2.2.1 ++ [w64 (x.1 - 10)] = l1 at hv hl ⊢
      refine M.TC_bind (Mid := fun l => VecS l ∧ l.length = l1.length) (M.TC_ite (fun _ => ?_) (fun _ => M.TC_ret ⟨hv, rfl⟩)) fun l hl2 => M.TC_ret (.inl ⟨_, rfl, ⟨hy.1.mk' rfl, hl2.1, ?_, ?_, ?_⟩, ?_⟩)
      · have ew : w64 ((l1.length : Int) - 1) = ((l1.length - 1 : Nat) : Int) := by rw [w64_eq _ (by omega)]; omega
        rw [ew]
        exact M.TC_bind (Mid := fun _ => True) (M.TC_idx (by omega) (by omega) fun _ _ => trivial) fun _ _ => M.TC_bindC (M.Conv_upd (by omega)) (M.TC_ret ⟨hv.set _ (by simp [inI64]), by simp⟩)
      · simp only; rw [w64_eq _ (by omega)]; omega
      · simp only; rw [w64_eq _ (by omega)]; omega
      · simp only; rw [w64_eq _ (by omega)]; omega
      · simp only; rw [w64_eq _ (by omega)]; omega
    · have t : r.2.2.2 ≤ 0 := by simpa using t
      simp only; omega
    · have t : r.2.2.2 ≤ 0 := by simpa using t
      simp only; omega
  · obtain ⟨h1, h2, h3, h4⟩ := hr
    refine M.TC_bind (next_ok hc h1 60 (by omega)) fun x hx => ?_
    refine M.TC_ite (fun _ => M.TC_ret ⟨⟨by simp, by simp [inI64]⟩, by simp, by simp, hx.1.mk' rfl⟩) (fun _ => M.TC_ite (fun _ => ?_) (fun _ => ?_))
    · refine M.TC_bind (next_ok hc (hx.1.mk' rfl) 2 (by omega)) fun y hy => ?_
      have ew : w64 (12 + y.1) = 12 + y.1 := w64_eq _ (by omega)
      rw [ew]
      refine M.TC_bindC (M.Conv_make (by omega) (by omega)) (M.TC_ret ⟨⟨by simp; omega, fun v hv => ?_⟩, by simp; omega, by simp; omega, hy.1.mk' rfl⟩)
      have := List.eq_of_mem_replicate hv
      subst this; simp [inI64]
    · refine M.TC_bind (Mid := fun (r : List Int × Int × Int) => (VecS r.1 ∧ 1 ≤ r.1.length ∧ r.1.length ≤ 6) ∧ Src code ⟨code, r.2.1, r.2.2⟩) (M.TC_ite (fun _ => ?_) (fun _ => M.TC_ret ⟨⟨h2, h3, h4⟩, hx.1.mk' rfl⟩)) fun u hu => M.TC_ret ⟨hu.1.1, hu.1.2.1, by have := hu.1.2.2; simp only; omega, hu.2⟩
      refine M.TC_bind (value_ok hc (hx.1.mk' rfl)) fun y hy => M.TC_bind (Mid := fun _ => True) (M.TC_idx (by omega) (by omega) fun _ _ => trivial) fun _ _ => M.TC_bindC (M.Conv_upd (i := 0) (by omega)) (M.TC_ret ⟨⟨h2.set 0 hy.2, by simpa using h3, by simpa using h4⟩, hy.1.mk' rfl⟩)
structure PolS (c : List Int) : Prop where
  vec : VecS c
  pos : 1 ≤ c.length
  len : c.length ≤ 13
theorem drawTwo_ok {code : List Int} (hc : ByC code) {s : TL01source} (hs : Src code s) : M.TC (spec_l09DrawTwo s) (fun r => PolS r.1 ∧ PolS r.2.1 ∧ Src code r.2.2) := by
  unfold spec_l09DrawTwo
  rw [hs.code_]
  refine M.TC_bind (draw9_ok hc hs) fun x hx => M.TC_bind (next_ok hc (hx.2.2.2.mk' rfl) 3 (by omega)) fun y hy => ?_
  have hP : PolS x.1 := ⟨hx.1, hx.2.1, hx.2.2.1⟩
  have hlen := hP.len
  refine M.TC_bind (Mid := fun b => b = true → polyB x.1 = true) (M.TC_ite (fun _ => M.TC_bindC (spec_IsPolynomial_ok (by omega)) (M.TC_ret fun h => h)) (fun _ => M.TC_ret fun h => by cases h)) fun b hb => M.TC_ite (fun t => ?_) (fun _ => ?_)
  · have hpoly := hb t
    obtain ⟨w, w1, w2, _, w4⟩ := full_Two x.1 hP.vec.fit hP.vec.sm
    obtain ⟨w5, w6⟩ := w4 hpoly
    have hw : PolS w.1 := ⟨⟨by omega, w6⟩, by rw [w5]; exact hP.pos, by omega⟩
    refine M.TC_bindC w1 (M.TC_bind (next_ok hc (hy.1.mk' rfl) 4 (by omega)) fun z hz => ?_)
    refine M.TC_bind (Mid := fun (r : List Int × Int × Int) => PolS r.1 ∧ Src code ⟨code, r.2.1, r.2.2⟩) (M.TC_ite (fun _ => ?_) (fun _ => M.TC_ret ⟨hw, hz.1.mk' rfl⟩)) fun u hu => M.TC_ret ⟨hP, hu.1, hu.2⟩
    have hwl := hw.len
    have hwp := hw.pos
    refine M.TC_bind (next_ok hc (hz.1.mk' rfl) _ (by omega)) fun i hi => M.TC_bind (next_ok hc (hi.1.mk' rfl) 21 (by omega)) fun v hv => M.TC_bind (Mid := fun _ => True) (M.TC_idx hi.2.1 (by omega) fun _ _ => trivial) fun _ _ => ?_
    refine M.TC_bind (Mid := PolS) (M.TC_upd hi.2.1 (by omega) ⟨hw.vec.set _ (w64_bd _), by simpa using hwp, by simpa using hwl⟩) fun l hl => M.TC_ret ⟨hl, hv.1.mk' rfl⟩
  · exact M.TC_bind (draw9_ok hc (hy.1.mk' rfl)) fun z hz => M.TC_ret ⟨hP, ⟨hz.1, hz.2.1, hz.2.2.1⟩, hz.2.2.2.mk' rfl⟩
theorem shp_width {a : List (List Int)} {w : Nat} (h : Shp a w) : widthN a = w := by
  have h1 := h.rows
  unfold widthN
  cases a with
  | nil => simp at h1
  | cons r rs => exact h.row r (by simp)
theorem mat_matB {a : List (List Int)} {w : Nat} (h : Mat a w) : matB a = true := by
  rw [matB_shp h.shp, List.all_eq_true]
  intro r hr
  rw [List.all_eq_true]
  exact (h.row r hr).2
structure DotP (u v : Nat → Int) (n : Nat) (s : Int) : Prop where
  up : ∀ j, j < n → u j ≠ -1000000000000000 → v j ≠ -1000000000000000 → u j + v j ≤ s
  on : s = -1000000000000000 ∨ ∃ j, j < n ∧ u j ≠ -1000000000000000 ∧ v j ≠ -1000000000000000 ∧ s = u j + v j
def Bd (B : Int) (x : Int) : Prop := x = -1000000000000000 ∨ (-B ≤ x ∧ x ≤ B)
theorem DotP.comm {u v : Nat → Int} {n : Nat} {s : Int} (h : DotP u v n s) : DotP v u n s := by
  refine ⟨fun j hj h1 h2 => by have := h.up j hj h2 h1; omega, ?_⟩
  rcases h.on with e | ⟨j, hj, h1, h2, e⟩
  · exact .inl e
  · exact .inr ⟨j, hj, h2, h1, by omega⟩
theorem DotP.unique {u v : Nat → Int} {n : Nat} {s t : Int} (hu : ∀ j, j < n → Bd 2000000 (u j)) (hv : ∀ j, j < n → Bd 2000000 (v j)) (h : DotP u v n s) (g : DotP u v n t) : s = t := by
  have key : ∀ {s t : Int}, DotP u v n s → DotP u v n t → t ≤ s := fun {s t} h g => by
    rcases g.on with e | ⟨j, hj, h1, h2, e⟩
    · rcases h.on with e' | ⟨j, hj, h1, h2, e'⟩
      · omega
      · have b1 := hu j hj
        have b2 := hv j hj
        unfold Bd at b1 b2
        omega
    · have := h.up j hj h1 h2
      omega
  have := key h g
  have := key g h
  omega
theorem nd_of {l : List Int} {i : Nat} {x : Int} (h : l[i]? = some x) : nd l i = x := by unfold nd; rw [h]; rfl
theorem dotL_ok {x row : List Int} (hl : x.length = row.length) (hr : ∀ j, j < row.length → Bd 2000000 (nd row j)) (hx : ∀ j, j < row.length → Bd 2000000 (nd x j)) : DotP (nd row) (nd x) row.length (dotL x row) := by
  have key := foldI_at (g := fun j v s => mx s (timesI v ((x[j]?).getD 0))) (a := row) (fun k (s : Int) => k ≤ row.length ∧ -1000000000000000 ≤ s ∧ (∀ j, j < k → nd row j ≠ -1000000000000000 → nd x j ≠ -1000000000000000 → nd row j + nd x j ≤ s) ∧ (s = -1000000000000000 ∨ ∃ j, j < k ∧ nd row j ≠ -1000000000000000 ∧ nd x j ≠ -1000000000000000 ∧ s = nd row j + nd x j)) row 0 (-1000000000000000) (fun k => by simp) ⟨by omega, by omega, fun j hj => by omega, .inl rfl⟩ (fun k v s hv hI => by
    obtain ⟨_, i1, i2, i3⟩ := hI
    have hk := (List.getElem?_eq_some_iff.1 hv).1
    have ev := nd_of hv
    have b1 := hr k hk
    have b2 := hx k hk
    unfold Bd at b1 b2
    have et : timesI v ((x[k]?).getD 0) = bif (v == (-1000000000000000)) || (nd x k == (-1000000000000000)) then -1000000000000000 else v + nd x k := by
      change timesI v (nd x k) = _
      unfold timesI
      cases hz : ((v == (-1000000000000000)) || (nd x k == (-1000000000000000))) with
      | true => rfl
      | false =>
        simp only [Bool.or_eq_false_iff, beq_eq_false_iff_ne, ne_eq] at hz
        simp only [cond_false]
        exact w64_eq _ (by omega)
    refine ⟨by omega, by rw [mx_eq]; omega, fun j hj h1 h2 => ?_, ?_⟩
    · rw [mx_eq]
      by_cases e : j = k
      · subst e
        rw [et, show (v == (-1000000000000000)) = false by rw [← ev]; simpa using h1, show (nd x j == (-1000000000000000)) = false by simpa using h2]
        simp only [Bool.or_self, cond_false]; omega
      · have := i2 j (by omega) h1 h2
        omega
    · rw [mx_eq, et]
      have old : s = -1000000000000000 ∨ ∃ j, j < k + 1 ∧ nd row j ≠ -1000000000000000 ∧ nd x j ≠ -1000000000000000 ∧ s = nd row j + nd x j := i3.imp id fun ⟨j, hj, h⟩ => ⟨j, by omega, h⟩
      cases hz : ((v == (-1000000000000000)) || (nd x k == (-1000000000000000))) with
      | true =>
        simp only [cond_true]
        rw [show max s (-1000000000000000) = s by omega]
        exact old
      | false =>
        simp only [Bool.or_eq_false_iff, beq_eq_false_iff_ne, ne_eq] at hz
        simp only [cond_false]
        by_cases e : s ≤ v + nd x k
        · rw [show max s (v + nd x k) = v + nd x k by omega]
          exact .inr ⟨k, by omega, by rw [ev]; exact hz.1, hz.2, by rw [ev]⟩
        · rw [show max s (v + nd x k) = s by omega]
          exact old)
  obtain ⟨_, _, k2, k3⟩ := key
  rw [Nat.zero_add] at k2 k3
  exact ⟨k2, k3⟩
def rowN (a : List (List Int)) (i : Nat) : List Int := (a[i]?).getD []
theorem rowN_get {a : List (List Int)} {i : Nat} (h : i < a.length) : a[i]? = some (rowN a i) := by unfold rowN; rw [List.getElem?_eq_getElem h]; rfl
theorem nd_row {a : List (List Int)} {i j : Nat} (h : i < a.length) : nd (rowN a i) j = entA a i j := (ent_at (rowN_get h)).symm
theorem nd_col {b : List (List Int)} {j k : Nat} (h : j < b.length) : nd (colL b k) j = entA b j k := nd_of (tab_get h)
def mulM (a b : List (List Int)) : List (List Int) := matF a.length (widthN b) fun i k => dotL (colL b k) (rowN a i)
theorem mulM_shp {a b : List (List Int)} {n w : Nat} (ha : Shp a n) (hb : Shp b w) : Shp (mulM a b) w := by
  unfold mulM
  rw [shp_width hb]
  exact shp_of ha.rows hb.cols
theorem mat_bd {a : List (List Int)} {w i j : Nat} (h : Mat a w) (hi : i < a.length) (hj : j < w) : Bd 1000000 (entA a i j) := val_ent h hi hj
theorem DotP.congr {u v u' v' : Nat → Int} {n : Nat} {s : Int} (h : DotP u v n s) (hu : ∀ j, j < n → u j = u' j) (hv : ∀ j, j < n → v j = v' j) : DotP u' v' n s := by
  refine ⟨fun j hj h1 h2 => ?_, ?_⟩
  · rw [← hu j hj] at h1 ⊢
    rw [← hv j hj] at h2 ⊢
    exact h.up j hj h1 h2
  · rcases h.on with e | ⟨j, hj, h1, h2, e⟩
    · exact .inl e
    · rw [hu j hj] at h1 e
      rw [hv j hj] at h2 e
      exact .inr ⟨j, hj, h1, h2, e⟩
theorem bd_up {x : Int} (h : Bd 1000000 x) : Bd 2000000 x := by unfold Bd at *; omega
theorem mulM_eq (a b : List (List Int)) : mulM a b = matF a.length (widthN b) fun i k => dotL (colL b k) (rowN a i) := rfl
def pw (a f : List (List Int)) : Nat → List (List Int)
  | 0 => f
  | k + 1 => mulM a (pw a f k)
structure Ser (a f : List (List Int)) (w : Nat) : Prop where
  mat : Mat a a.length
  fst : Mat f w
  len : f.length = a.length
theorem Ser.shp {a f : List (List Int)} {w : Nat} (h : Ser a f w) : ∀ k, Shp (pw a f k) w ∧ (pw a f k).length = a.length
  | 0 => ⟨h.fst.shp, h.len⟩
  | k + 1 => ⟨mulM_shp h.mat.shp (h.shp k).1, matF_len _ _ _⟩
def okTo (a f : List (List Int)) (k : Nat) : Prop := ∀ i, i ≤ k → matB (pw a f i) = true
theorem Ser.zero {a f : List (List Int)} {w : Nat} (h : Ser a f w) : okTo a f 0 := fun i hi => by
  obtain rfl : i = 0 := by omega
  exact mat_matB h.fst
/-- what lies in a product of matrices of values -/
theorem mul_dot {A B : List (List Int)} {n w : Nat} (hA : Shp A n) (hB : Shp B w) (hn : B.length = n) (bA : ∀ i j, i < A.length → j < n → Bd 2000000 (entA A i j)) (bB : ∀ j k, j < n → k < w → Bd 2000000 (entA B j k)) {i k : Nat} (hi : i < A.length) (hk : k < w) :
    DotP (entA A i) (fun j => entA B j k) n (entA (mulM A B) i k) := by
  have hrl := hA.row _ (List.mem_of_getElem? (rowN_get hi))
  have hcl : (colL B k).length = B.length := tab_len _ _
  have he : entA (mulM A B) i k = dotL (colL B k) (rowN A i) := by
    rw [mulM_eq]
    exact entA_matF hi (by rw [shp_width hB]; exact hk)
  have := dotL_ok (x := colL B k) (row := rowN A i) (by omega) (fun j hj => by rw [nd_row hi]; exact bA i j hi (by omega)) (fun j hj => by rw [nd_col (by omega)]; exact bB j k (by omega) hk)
  rw [hrl, ← he] at this
  exact this.congr (fun j _ => nd_row hi) (fun j hj => nd_col (by omega))
theorem mul_bdd {A B : List (List Int)} {n w : Nat} (hA : Mat A n) (hB : Mat B w) (hn : B.length = n) {i k : Nat} (hi : i < A.length) (hk : k < w) : Bd 2000000 (entA (mulM A B) i k) := by
  have d := mul_dot hA.shp hB.shp hn (fun i j hi hj => bd_up (mat_bd hA hi hj)) (fun j k hj hk => bd_up (mat_bd hB (by omega) hk)) hi hk
  rcases d.on with e | ⟨j, hj, h1, h2, e⟩
  · exact .inl e
  · have b1 := mat_bd hA hi hj
    have b2 := mat_bd hB (i := j) (j := k) (by omega) hk
    unfold Bd at *
    omega
theorem dot_ne {u v : Nat → Int} {n : Nat} {s : Int} (hu : ∀ j, j < n → Bd 2000000 (u j)) (hv : ∀ j, j < n → Bd 2000000 (v j)) (h : DotP u v n s) {j : Nat} (hj : j < n) (h1 : u j ≠ -1000000000000000) (h2 : v j ≠ -1000000000000000) : s ≠ -1000000000000000 := by
  have := h.up j hj h1 h2
  have b1 := hu j hj
  have b2 := hv j hj
  unfold Bd at *
  omega
theorem mul_assoc {A B C : List (List Int)} {n m w : Nat} (hA : Mat A n) (hB : Mat B m) (hC : Mat C w) (h1 : B.length = n) (h2 : C.length = m) : mulM (mulM A B) C = mulM A (mulM B C) := by
  have sAB := mulM_shp hA.shp hB.shp
  have sBC := mulM_shp hB.shp hC.shp
  have lAB : (mulM A B).length = A.length := matF_len _ _ _
  have lBC : (mulM B C).length = B.length := matF_len _ _ _
  have b0 : ∀ i k, i < A.length → k < m → Bd 2000000 (entA (mulM A B) i k) := fun i k hi hk => mul_bdd hA hB h1 hi hk
  have b1 : ∀ i k, i < n → k < w → Bd 2000000 (entA (mulM B C) i k) := fun i k hi hk => mul_bdd hB hC h2 (by omega) hk
  have bA : ∀ i j, i < A.length → j < n → Bd 2000000 (entA A i j) := fun i j hi hj => bd_up (mat_bd hA hi hj)
  have bB : ∀ i j, i < n → j < m → Bd 2000000 (entA B i j) := fun i j hi hj => bd_up (mat_bd hB (by omega) hj)
  have bC : ∀ i j, i < m → j < w → Bd 2000000 (entA C i j) := fun i j hi hj => bd_up (mat_bd hC (by omega) hj)
  have sL := mulM_shp sAB hC.shp
  have sR := mulM_shp hA.shp sBC
  have lL : (mulM (mulM A B) C).length = A.length := (matF_len _ _ _).trans lAB
  have lR : (mulM A (mulM B C)).length = A.length := matF_len _ _ _
  rw [mat_eq sL, mat_eq sR, lL, lR]
  refine matF_congr fun i k hi hk => ?_
  have dL := mul_dot sAB hC.shp h2 (fun i j hi hj => b0 i j (by omega) hj) bC (i := i) (k := k) (by omega) hk
  have dR := mul_dot hA.shp sBC (by omega) bA b1 hi hk
  have dAB := fun l (hl : l < m) => mul_dot hA.shp hB.shp h1 bA bB (i := i) (k := l) hi hl
  have dBC := fun j (hj : j < n) => mul_dot hB.shp hC.shp h2 (fun i j hi hj => bB i j (by omega) hj) bC (i := j) (k := k) (by omega) hk
  have hle1 : entA (mulM (mulM A B) C) i k ≠ -1000000000000000 → entA (mulM A (mulM B C)) i k ≠ -1000000000000000 ∧ entA (mulM (mulM A B) C) i k ≤ entA (mulM A (mulM B C)) i k := fun hne => by
    obtain ⟨l, hl, n1, n2, e⟩ := dL.on.resolve_left hne
    obtain ⟨j, hj, n3, n4, e2⟩ := (dAB l hl).on.resolve_left n1
    have u1 := (dBC j hj).up l hl n4 n2
    have n5 := dot_ne (fun l hl => bB j l hj hl) (fun l hl => bC l k hl hk) (dBC j hj) hl n4 n2
    have u2 := dR.up j hj n3 n5
    have n6 := dot_ne (fun j hj => bA i j hi hj) (fun j hj => b1 j k hj hk) dR hj n3 n5
    exact ⟨n6, by omega⟩
  have hle2 : entA (mulM A (mulM B C)) i k ≠ -1000000000000000 → entA (mulM (mulM A B) C) i k ≠ -1000000000000000 ∧ entA (mulM A (mulM B C)) i k ≤ entA (mulM (mulM A B) C) i k := fun hne => by
    obtain ⟨j, hj, n1, n2, e⟩ := dR.on.resolve_left hne
    obtain ⟨l, hl, n3, n4, e2⟩ := (dBC j hj).on.resolve_left n2
    have u1 := (dAB l hl).up j hj n1 n3
    have n5 := dot_ne (fun j hj => bA i j hi hj) (fun j hj => bB j l hj hl) (dAB l hl) hj n1 n3
    have u2 := dL.up l hl n5 n4
    have n6 := dot_ne (fun l hl => b0 i l hi hl) (fun l hl => bC l k hl hk) dL hl n5 n4
    exact ⟨n6, by omega⟩
  by_cases e1 : entA (mulM (mulM A B) C) i k = -1000000000000000
  · by_cases e2 : entA (mulM A (mulM B C)) i k = -1000000000000000
    · rw [e1, e2]
    · exact absurd e1 (hle2 e2).1
  · have := hle1 e1
    have := hle2 this.1
    omega
structure Gr (g : TGraph) (n : Nat) : Prop where
  ev : g.Events = (n : Int)
  lo : 1 ≤ n
  hi : n ≤ 10
  len : g.Places.length ≤ 30
  pl : ∀ p ∈ g.Places, (0 ≤ p.From ∧ p.From < n) ∧ (0 ≤ p.To ∧ p.To < n) ∧ 0 ≤ p.Tokens ∧ p.Tokens ≤ 5
/-- a way from s of at most k places -/
inductive Wk (ps : List TPlace) (s : Int) : Nat → Int → Int → Prop
  | nil (k : Nat) : Wk ps s k s 0
  | step (k : Nat) (p : TPlace) (w : Int) : p ∈ ps → Wk ps s k p.From w → Wk ps s (k + 1) p.To (w + p.Tokens)
def muL : List Int → Nat
  | [] => 0
  | x :: xs => (if x < 0 then 1000 else x.toNat) + muL xs
def cntL : List Int → Nat
  | [] => 0
  | x :: xs => (if x < 0 then 0 else 1) + cntL xs
theorem cnt_le : ∀ d : List Int, cntL d ≤ d.length
  | [] => Nat.le_refl _
  | x :: xs => by
    have := cnt_le xs
    simp only [cntL, List.length_cons]
    split <;> omega
theorem nd_cons (x : Int) (xs : List Int) (i : Nat) : nd (x :: xs) (i + 1) = nd xs i := by simp [nd]
theorem mu_set : ∀ {d : List Int} {i : Nat} {x : Int}, i < d.length → 0 ≤ x → x ≤ 900 → (nd d i < 0 ∨ x < nd d i) → muL (d.set i x) < muL d ∧ cntL (d.set i x) = cntL d + (if nd d i < 0 then 1 else 0)
  | y :: ys, 0, x, _, h0, h1, h => by
    have e : nd (y :: ys) 0 = y := by simp [nd]
    rw [e] at h ⊢
    simp only [List.set_cons_zero, muL, cntL]
    rw [if_neg (show ¬ x < 0 by omega), if_neg (show ¬ x < 0 by omega)]
    by_cases hy : y < 0
    · simp only [if_pos hy]; omega
    · simp only [if_neg hy]; omega
  | y :: ys, i + 1, x, hi, h0, h1, h => by
    rw [nd_cons] at h ⊢
    have := mu_set (d := ys) (i := i) (by simpa using hi) h0 h1 h
    simp only [List.set_cons_succ, muL, cntL]
    omega
theorem nd_set {d : List Int} {i v : Nat} {x : Int} (hi : i < d.length) : nd (d.set i x) v = if v = i then x else nd d v := by
  unfold nd
  by_cases e : v = i
  · subst e; rw [if_pos rfl, List.getElem?_set_self hi]; rfl
  · rw [if_neg e, List.getElem?_set_ne (by omega)]
structure DInv (ps : List TPlace) (s : Int) (n : Nat) (d : List Int) : Prop where
  len : d.length = n
  src : nd d s.toNat = 0
  way : ∀ v : Int, 0 ≤ v → v < n → nd d v.toNat = -1 ∨ (0 ≤ nd d v.toNat ∧ ∃ k, Wk ps s k v (nd d v.toNat))
  bd : ∀ v : Nat, v < n → nd d v ≤ 5 * ((cntL d : Int) - 1)
  one : 1 ≤ cntL d
def Relax (ps : List TPlace) (d : List Int) : Prop := ∀ p ∈ ps, 0 ≤ nd d p.From.toNat → 0 ≤ nd d p.To.toNat ∧ nd d p.To.toNat ≤ nd d p.From.toNat + p.Tokens
theorem DInv.upd {g : TGraph} {s : Int} {n : Nat} {d : List Int} (hg : Gr g n) (hs : 0 ≤ s ∧ s < n) (h : DInv g.Places s n d) {p : TPlace} (hp : p ∈ g.Places) (hf : 0 ≤ nd d p.From.toNat) (ht : nd d p.To.toNat < 0 ∨ nd d p.From.toNat + p.Tokens < nd d p.To.toNat) :
    DInv g.Places s n (d.set p.To.toNat (nd d p.From.toNat + p.Tokens)) ∧ muL (d.set p.To.toNat (nd d p.From.toNat + p.Tokens)) < muL d := by
  obtain ⟨f1, t1, k0, k5⟩ := hg.pl p hp
  have hlt : p.To.toNat < d.length := by rw [h.len]; omega
  have hb := h.bd p.From.toNat (by omega)
  have hc := cnt_le d
  have hn := hg.hi
  have hl := h.len
  obtain ⟨m1, m2⟩ := mu_set (x := nd d p.From.toNat + p.Tokens) hlt (by omega) (by omega) ht
  refine ⟨⟨by rw [List.length_set]; exact h.len, ?_, fun v v0 v1 => ?_, fun v hv => ?_, by rw [m2]; have := h.one; omega⟩, m1⟩
  · rw [nd_set hlt]
    by_cases e : s.toNat = p.To.toNat
    · have := h.src
      rw [e] at this
      omega
    · rw [if_neg e]; exact h.src
  · rw [nd_set hlt]
    by_cases e : v.toNat = p.To.toNat
    · rw [if_pos e]
      right
      refine ⟨by omega, ?_⟩
      rcases h.way p.From f1.1 f1.2 with h1 | ⟨_, k, h1⟩
      · omega
      · obtain rfl : v = p.To := by omega
        exact ⟨k + 1, .step k p _ hp h1⟩
    · rw [if_neg e]; exact h.way v v0 v1
  · rw [nd_set hlt, m2]
    have := h.bd v hv
    by_cases e : v = p.To.toNat
    · rw [if_pos e]
      by_cases e2 : nd d p.To.toNat < 0
      · rw [if_pos e2]; omega
      · rw [if_neg e2]
        have := h.bd p.To.toNat (by omega)
        omega
    · rw [if_neg e]
      split <;> omega
theorem Relax.le {ps : List TPlace} {s : Int} {d : List Int} (hr : Relax ps d) (h0 : nd d s.toNat = 0) {k : Nat} {v w : Int} (h : Wk ps s k v w) : 0 ≤ nd d v.toNat ∧ nd d v.toNat ≤ w := by
  induction h with
  | nil k => omega
  | step k p w hp _ ih =>
    have := hr p hp ih.1
    omega
inductive RK (E : Nat → Nat → Prop) (n v : Nat) : Nat → Nat → Prop
  | nil (k : Nat) : RK E n v k v
  | step (k j i : Nat) : RK E n v k j → j < n → i < n → E j i → RK E n v (k + 1) i
def Rch (E : Nat → Nat → Prop) (n v i : Nat) : Prop := ∃ k, RK E n v k i
theorem Rch.step {E : Nat → Nat → Prop} {n v j i : Nat} (h : Rch E n v j) (hj : j < n) (hi : i < n) (he : E j i) : Rch E n v i := let ⟨k, h⟩ := h; ⟨k + 1, .step k j i h hj hi he⟩
theorem Rch.trans {E : Nat → Nat → Prop} {n v j i : Nat} (h : Rch E n v j) (g : Rch E n j i) : Rch E n v i := by
  obtain ⟨k, g⟩ := g
  induction g with
  | nil => exact h
  | step k j' i' _ hj hi he ih => exact ih.step hj hi he
/-- below the line through i and j -/
def Sup (F : Int → Prop) (y : Int → Int) (i j : Int) : Prop := ∀ p, F p → (y p - y i) * (j - i) ≤ (y j - y i) * (p - i)
/-- the line through i and j is steeper than the line through j and k -/
abbrev Stp (y : Int → Int) (i j k : Int) : Prop := (y k - y j) * (j - i) < (y j - y i) * (k - j)
/-- vertices, the last one first -/
def HullR (F : Int → Prop) (y : Int → Int) : List Int → Prop
  | [] => True
  | [t] => F t ∧ ∀ p, F p → t ≤ p
  | j :: i :: r => F j ∧ i < j ∧ Sup F y i j ∧ (∀ h r', r = h :: r' → Stp y h i j) ∧ HullR F y (i :: r)
theorem mul_le_cancel {a b c : Int} (hc : 0 < c) (h : a * c ≤ b * c) : a ≤ b := Int.le_of_mul_le_mul_right h hc
theorem sup_right {F : Int → Prop} {y : Int → Int} {i j : Int} (h : Sup F y i j) : ∀ p, F p → (y p - y j) * (j - i) ≤ (y j - y i) * (p - j) := fun p hp => by
  have := h p hp
  have e1 : (y p - y i) * (j - i) = (y p - y j) * (j - i) + (y j - y i) * (j - i) := by rw [← Int.add_mul]; congr 1; omega
  have e2 : (y j - y i) * (p - i) = (y j - y i) * (p - j) + (y j - y i) * (j - i) := by rw [← Int.mul_add]; congr 1; omega
  omega
/-- slopes go down: from (h, i) over (i, j) to a point p right of i that is below the line (i, j) -/
theorem below_next {y : Int → Int} {h i j p : Int} (h1 : h < i) (h2 : i < j) (hp : i ≤ p) (st : Stp y h i j) (hb : (y p - y i) * (j - i) ≤ (y j - y i) * (p - i)) : (y p - y i) * (i - h) ≤ (y i - y h) * (p - i) := by
  unfold Stp at st
  refine mul_le_cancel (c := j - i) (by omega) ?_
  have a1 : (y p - y i) * (i - h) * (j - i) = (y p - y i) * (j - i) * (i - h) := by rw [Int.mul_assoc, Int.mul_comm (i - h), ← Int.mul_assoc]
  have a2 := Int.mul_le_mul_of_nonneg_right hb (show 0 ≤ i - h by omega)
  have a3 := Int.mul_le_mul_of_nonneg_right (Int.le_of_lt st) (show 0 ≤ p - i by omega)
  have a4 : (y j - y i) * (p - i) * (i - h) = (y j - y i) * (i - h) * (p - i) := by rw [Int.mul_assoc, Int.mul_comm (p - i), ← Int.mul_assoc]
  have a5 : (y i - y h) * (j - i) * (p - i) = (y i - y h) * (p - i) * (j - i) := by rw [Int.mul_assoc, Int.mul_comm (j - i), ← Int.mul_assoc]
  omega
/-- one point more, right of all: the lines stay above -/
theorem HullR.more {F : Int → Prop} {y : Int → Int} {k : Int} : ∀ {j i : Int} {r : List Int}, HullR F y (j :: i :: r) → i < k → (y k - y i) * (j - i) ≤ (y j - y i) * (k - i) → HullR (fun p => F p ∨ p = k) y (j :: i :: r)
  | j, i, [], ⟨f, h1, h2, h3, g1, g2⟩, hk, hb => ⟨.inl f, h1, fun p hp => by
      rcases hp with hp | rfl
      · exact h2 p hp
      · exact hb, h3, .inl g1, fun p hp => by
      rcases hp with hp | rfl
      · exact g2 p hp
      · omega⟩
  | j, i, h :: r, ⟨f, h1, h2, h3, g⟩, hk, hb => ⟨.inl f, h1, fun p hp => by
      rcases hp with hp | rfl
      · exact h2 p hp
      · exact hb, h3, by
      have hi : h < i := by cases r <;> exact g.2.1
      have := below_next hi h1 (Int.le_of_lt hk) (h3 h r rfl) hb
      refine HullR.more g (by omega) ?_
      have e1 : (y k - y h) * (i - h) = (y k - y i) * (i - h) + (y i - y h) * (i - h) := by rw [← Int.add_mul]; congr 1; omega
      have e2 : (y i - y h) * (k - h) = (y i - y h) * (k - i) + (y i - y h) * (i - h) := by rw [← Int.mul_add]; congr 1; omega
      omega⟩
theorem HullR.tail {F : Int → Prop} {y : Int → Int} {j i : Int} {r : List Int} (h : HullR F y (j :: i :: r)) : HullR F y (i :: r) := h.2.2.2.2
theorem HullR.head {F : Int → Prop} {y : Int → Int} {j : Int} {r : List Int} (h : HullR F y (j :: r)) : F j := by
  cases r <;> exact h.1
def popL (t : Int → Int → Bool) : List Int → List Int
  | j :: i :: r => bif t j i then j :: i :: r else popL t (i :: r)
  | l => l
/-- points right of j, below the line to k -/
def Low (F : Int → Prop) (y : Int → Int) (j k : Int) : Prop := ∀ p, F p → j ≤ p → (y p - y j) * (k - j) ≤ (y k - y j) * (p - j)
theorem pop_hull {F : Int → Prop} {y : Int → Int} {k : Int} (hF : ∀ p, F p → p < k) (t : Int → Int → Bool) (ht : ∀ j i, t j i = decide (Stp y i j k)) : ∀ {r : List Int} {j : Int}, HullR F y (j :: r) → Low F y j k → HullR (fun p => F p ∨ p = k) y (k :: popL t (j :: r))
  | [], j, hh, hl => by
    obtain ⟨g1, g2⟩ := hh
    have hjk := hF j g1
    refine ⟨.inr rfl, hjk, fun p hp => ?_, fun h r' e => (by cases e), .inl g1, fun p hp => ?_⟩
    · rcases hp with hp | rfl
      · exact hl p hp (g2 p hp)
      · exact Int.le_refl _
    · rcases hp with hp | rfl
      · exact g2 p hp
      · omega
  | i :: r, j, hh, hl => by
    have hj := hh.head
    have hjk := hF j hj
    have hij : i < j := hh.2.1
    have hs : Sup F y i j := hh.2.2.1
    unfold popL
    rw [ht]
    by_cases hst : Stp y i j k
    · rw [decide_eq_true hst, cond_true]
      refine ⟨.inr rfl, hjk, ?_, fun h r' e => (by cases e; exact hst), hh.more (by omega) ?_⟩
      · intro p hp
        rcases hp with hp | rfl
        · by_cases hpj : j ≤ p
          · exact hl p hp hpj
          · have a := sup_right hs p hp
            refine mul_le_cancel (c := j - i) (by omega) ?_
            unfold Stp at hst
            have a1 : (y p - y j) * (k - j) * (j - i) = (y p - y j) * (j - i) * (k - j) := by rw [Int.mul_assoc, Int.mul_comm (k - j), ← Int.mul_assoc]
            have a2 := Int.mul_le_mul_of_nonneg_right a (show 0 ≤ k - j by omega)
            have a3 := Int.mul_le_mul_of_nonneg_right (Int.le_of_lt hst) (show 0 ≤ j - p by omega)
            have a4 : (y j - y i) * (p - j) * (k - j) = -((y j - y i) * (k - j) * (j - p)) := by
              rw [show p - j = -(j - p) by omega, Int.mul_neg, Int.neg_mul, Int.mul_assoc, Int.mul_comm (j - p), ← Int.mul_assoc]
            have a5 : (y k - y j) * (p - j) * (j - i) = -((y k - y j) * (j - i) * (j - p)) := by
              rw [show p - j = -(j - p) by omega, Int.mul_neg, Int.neg_mul, Int.mul_assoc, Int.mul_comm (j - p), ← Int.mul_assoc]
            omega
        · exact Int.le_refl _
      · unfold Stp at hst
        have e1 : (y k - y i) * (j - i) = (y k - y j) * (j - i) + (y j - y i) * (j - i) := by rw [← Int.add_mul]; congr 1; omega
        have e2 : (y j - y i) * (k - i) = (y j - y i) * (k - j) + (y j - y i) * (j - i) := by rw [← Int.mul_add]; congr 1; omega
        omega
    · rw [decide_eq_false hst, cond_false]
      refine pop_hull hF t ht hh.tail fun p hp hip => ?_
      have hst : (y j - y i) * (k - j) ≤ (y k - y j) * (j - i) := by unfold Stp at hst; omega
      have a := hs p hp
      refine mul_le_cancel (c := j - i) (by omega) ?_
      have e1 : (y k - y i) * (j - i) = (y k - y j) * (j - i) + (y j - y i) * (j - i) := by rw [← Int.add_mul]; congr 1; omega
      have e2 : (y j - y i) * (k - i) = (y j - y i) * (k - j) + (y j - y i) * (j - i) := by rw [← Int.mul_add]; congr 1; omega
      have e3 : (y j - y i) * (k - i) ≤ (y k - y i) * (j - i) := by omega
      have a1 := Int.mul_le_mul_of_nonneg_right a (show 0 ≤ k - i by omega)
      have a2 := Int.mul_le_mul_of_nonneg_right e3 (show 0 ≤ p - i by omega)
      have a3 : (y p - y i) * (k - i) * (j - i) = (y p - y i) * (j - i) * (k - i) := by rw [Int.mul_assoc, Int.mul_comm (k - i), ← Int.mul_assoc]
      have a4 : (y j - y i) * (p - i) * (k - i) = (y j - y i) * (k - i) * (p - i) := by rw [Int.mul_assoc, Int.mul_comm (p - i), ← Int.mul_assoc]
      have a5 : (y k - y i) * (p - i) * (j - i) = (y k - y i) * (j - i) * (p - i) := by rw [Int.mul_assoc, Int.mul_comm (p - i), ← Int.mul_assoc]
      omega
def yC (c : List Int) (p : Int) : Int := (c[p.toNat]?).getD 0
def finC (c : List Int) (p : Int) : Prop := 0 ≤ p ∧ ∃ x, c[p.toNat]? = some x ∧ x ≠ -1000000000000000
def finK (c : List Int) (k : Nat) (p : Int) : Prop := finC c p ∧ p < k
def hullL (c : List Int) : Nat → List Int
  | 0 => []
  | k + 1 => bif ((c[k]?).getD 0) == (-1000000000000000) then hullL c k else (k : Int) :: popL (keepB c k ((c[k]?).getD 0)) (hullL c k)
theorem hullL_succ (c : List Int) (k : Nat) : hullL c (k + 1) = bif ((c[k]?).getD 0) == (-1000000000000000) then hullL c k else (k : Int) :: popL (keepB c k ((c[k]?).getD 0)) (hullL c k) := rfl
theorem keep_stp (c : List Int) (k : Nat) (j i : Int) : keepB c k ((c[k]?).getD 0) j i = decide (Stp (yC c) i j (k : Int)) := by
  unfold keepB Stp yC
  rw [Int.toNat_natCast]
theorem popL_sub (t : Int → Int → Bool) : ∀ l, (∀ x ∈ popL t l, x ∈ l) ∧ (l ≠ [] → popL t l ≠ []) ∧ (popL t l).length ≤ l.length
  | [] => ⟨fun _ h => h, fun h => h, Nat.le_refl _⟩
  | [j] => ⟨fun _ h => h, fun h => h, Nat.le_refl _⟩
  | j :: i :: r => by
    unfold popL
    obtain ⟨a, b, d⟩ := popL_sub t (i :: r)
    cases t j i with
    | true => exact ⟨fun _ h => h, fun h => h, Nat.le_refl _⟩
    | false => exact ⟨fun x hx => List.mem_cons_of_mem _ (a x hx), fun _ => b (by simp), Nat.le_succ_of_le d⟩
theorem hullL_ok {c : List Int} : ∀ k : Nat, k ≤ c.length → HullR (finK c k) (yC c) (hullL c k) ∧ (∀ p, finK c k p → ∃ t r, hullL c k = t :: r ∧ p ≤ t)
  | 0, _ => ⟨trivial, fun p hp => by have := hp.1.1; have := hp.2; omega⟩
  | k + 1, hk => by
    obtain ⟨ih, top⟩ := hullL_ok (c := c) k (by omega)
    have hget : c[k]? = some (c[k]'(by omega)) := List.getElem?_eq_getElem _
    rw [hullL_succ]
    cases hb : (((c[k]?).getD 0) == (-1000000000000000)) with
    | true =>
      have e : finK c (k + 1) = finK c k := by
        funext p
        refine propext ⟨fun h => ⟨h.1, ?_⟩, fun h => ⟨h.1, by have := h.2; omega⟩⟩
        by_cases e : p = k
        · subst e
          obtain ⟨_, x, hx, hn⟩ := h.1
          rw [Int.toNat_natCast] at hx
          rw [hx] at hb
          exact absurd (by simpa using hb) hn
        · have := h.2; omega
      rw [e]
      exact ⟨ih, top⟩
    | false =>
      have hfk : finC c (k : Int) := ⟨by omega, _, by rw [Int.toNat_natCast]; exact hget, by rw [hget] at hb; simpa using hb⟩
      have e : finK c (k + 1) = fun p => finK c k p ∨ p = k := by
        funext p
        refine propext ⟨fun h => ?_, fun h => ?_⟩
        · by_cases e : p = k
          · exact .inr e
          · exact .inl ⟨h.1, by have := h.2; omega⟩
        · rcases h with h | rfl
          · exact ⟨h.1, by have := h.2; omega⟩
          · exact ⟨hfk, by omega⟩
      simp only [cond_false]
      refine ⟨?_, fun p hp => ⟨_, _, rfl, by have := hp.2; omega⟩⟩
      rw [e]
      cases hl : hullL c k with
      | nil =>
        refine ⟨.inr rfl, fun p hp => ?_⟩
        rcases hp with hp | rfl
        · obtain ⟨t, r, h, _⟩ := top p hp
          rw [hl] at h; cases h
        · exact Int.le_refl _
      | cons j r =>
        rw [hl] at ih
        refine pop_hull (fun p hp => hp.2) _ (keep_stp c k) ih fun p hp hjp => ?_
        obtain ⟨t, r', h, h2⟩ := top p hp
        rw [hl] at h
        cases h
        obtain rfl : p = j := by omega
        rw [Int.sub_self, Int.sub_self, Int.zero_mul, Int.mul_zero]
        exact Int.le_refl _
theorem pop_conv {c : List Int} {k : Nat} {x : Int} (hk : k ≤ 12) (hx : c[k]? = some x) (bx : -1000000 ≤ x ∧ x ≤ 1000000) : ∀ rs, GoodT c k rs → M.Conv (M.loop (popS c k) rs.reverse) (popL (keepB c k x) rs).reverse
  | [], _ => (ConvL.stop (M.Conv_ite (fun h => by rw [small_len (by simp)] at h; cases h) (fun _ => M.Conv_ret _))).conv
  | [j], _ => (ConvL.stop (M.Conv_ite (fun h => by rw [small_len (by simp)] at h; cases h) (fun _ => M.Conv_ret _))).conv
  | j :: i :: r, hg => by
    have key : ∀ rs, GoodT c k rs → ConvL (popS c k) rs.reverse (popL (keepB c k x) rs).reverse := by
      intro rs
      induction rs with
      | nil => exact fun _ => ConvL.stop (M.Conv_ite (fun h => by rw [small_len (by simp)] at h; cases h) (fun _ => M.Conv_ret _))
      | cons j rs ih =>
        intro hg
        cases rs with
        | nil => exact ConvL.stop (M.Conv_ite (fun h => by rw [small_len (by simp)] at h; cases h) (fun _ => M.Conv_ret _))
        | cons i r =>
          have h := popS_ok hk hx bx hg
          unfold popL
          cases hb : keepB c k x j i with
          | true => rw [hb] at h; exact ConvL.stop h
          | false =>
            rw [hb] at h
            obtain ⟨a, b, d⟩ := hg
            exact ConvL.step h (ih ⟨by simp at a ⊢; omega, fun t ht => b t (List.mem_cons_of_mem _ ht), (List.pairwise_cons.1 d).2⟩)
    exact (key _ hg).conv
theorem hullL_good {c : List Int} (hv : ∀ x ∈ c, valB x = true) : ∀ k : Nat, k ≤ c.length → (hullL c k).length ≤ k ∧ (∀ t ∈ hullL c k, termB c k t) ∧ List.Pairwise (fun a b => b < a) (hullL c k)
  | 0, _ => ⟨Nat.le_refl _, by simp [hullL], by simp [hullL]⟩
  | k + 1, hk => by
    obtain ⟨a, b, d⟩ := hullL_good hv k (by omega)
    have hget : c[k]? = some (c[k]'(by omega)) := List.getElem?_eq_getElem _
    have up : ∀ t, termB c k t → termB c (k + 1) t := fun t ⟨a, b, d⟩ => ⟨a, by omega, d⟩
    have sub : ∀ l : List Int, List.Pairwise (fun a b => b < a) l → List.Pairwise (fun a b => b < a) (popL (keepB c k ((c[k]?).getD 0)) l) := by
      intro l
      induction l with
      | nil => exact fun h => h
      | cons j l ih =>
        intro h
        cases l with
        | nil => exact h
        | cons i r =>
          unfold popL
          cases keepB c k ((c[k]?).getD 0) j i with
          | true => exact h
          | false => exact ih (List.pairwise_cons.1 h).2
    rw [hullL_succ]
    cases hb : (((c[k]?).getD 0) == (-1000000000000000)) with
    | true => exact ⟨by simp only [cond_true]; omega, fun t ht => up t (b t ht), d⟩
    | false =>
      simp only [cond_false]
      obtain ⟨s1, s2, s3⟩ := popL_sub (keepB c k ((c[k]?).getD 0)) (hullL c k)
      refine ⟨by simp only [List.length_cons]; omega, fun t ht => ?_, List.pairwise_cons.2 ⟨fun t ht => (b t (s1 t ht)).2.1, sub _ d⟩⟩
      rcases List.mem_cons.1 ht with rfl | ht
      · refine ⟨by omega, by omega, _, by rw [Int.toNat_natCast]; exact hget, ?_⟩
        rw [hget] at hb
        exact val_ne (hv _ (List.getElem_mem _)) hb
      · exact up t (b t (s1 t ht))
theorem terms_hull {c : List Int} (hc : c.length ≤ 12) (hv : c.all valB = true) : M.Conv (spec_l09Terms c) (hullL c c.length).reverse := by
  rw [List.all_eq_true] at hv
  rw [spec_l09Terms_eq]
  refine M.Conv_bind (Conv_forV (fun k => (hullL c k).reverse) (by omega) fun k hk => ?_) (M.Conv_ret _)
  have hget : c[k]? = some (c[k]'(by omega)) := List.getElem?_eq_getElem _
  have hmem := List.getElem_mem hk
  generalize c[k] = x at hget hmem
  have gx : M.Conv (M.idx c (k : Int)) x := M.Conv_get (by omega) (by simpa using hget)
  obtain ⟨a, b, d⟩ := hullL_good hv k (by omega)
  obtain ⟨s1, s2, s3⟩ := popL_sub (keepB c k ((c[k]?).getD 0)) (hullL c k)
  rw [hullL_succ]
  unfold hullS
  rw [hget] at s1 s2 s3 ⊢
  simp only [Option.getD_some] at s1 s2 s3 ⊢
  cases hb : (x == (-1000000000000000)) with
  | true => exact M.Conv_bind (M.Conv_bind gx (M.Conv_ite (fun _ => M.Conv_ret _) (fun h => by rw [hb] at h; cases h))) (M.Conv_ret _)
  | false =>
    have bx := finB_bd (val_ne (hv x hmem) hb)
    exact M.Conv_bind (M.Conv_bind gx (M.Conv_ite (fun h => by rw [hb] at h; cases h) (fun _ => M.Conv_bind (pop_conv (by omega) hget bx _ ⟨by omega, b, d⟩) (M.Conv_bind ((M.Conv_app (by simp; omega)).of (r' := ((k : Int) :: popL (keepB c k x) (hullL c k)).reverse) (by simp)) (M.Conv_ret _))))) (M.Conv_ret _)

theorem hull_transfer {F F' : Int → Prop} {y y' : Int → Int} (cov : ∀ p, F' p → (F p ∧ y' p ≤ y p) ∨ ∃ u v, F u ∧ F v ∧ u < v ∧ u ≤ p ∧ p ≤ v ∧ y' p * (v - u) ≤ y u * (v - p) + y v * (p - u)) : ∀ rs, HullR F y rs → (∀ t ∈ rs, F' t ∧ y' t = y t) → HullR F' y' rs
  | [], _, _ => trivial
  | [t], ⟨_, g⟩, ht => ⟨(ht t (by simp)).1, fun p hp => by
    rcases cov p hp with ⟨h, _⟩ | ⟨u, v, hu, _, _, h, _⟩
    · exact g p h
    · exact Int.le_trans (g u hu) h⟩
  | j :: i :: r, ⟨_, h1, h2, h3, h4⟩, ht => by
    obtain ⟨fj, ej⟩ := ht j (by simp)
    obtain ⟨_, ei⟩ := ht i (by simp)
    refine ⟨fj, h1, fun p hp => ?_, fun h r' e => ?_, hull_transfer cov (i :: r) h4 fun t h => ht t (List.mem_cons_of_mem _ h)⟩
    · rw [ej, ei]
      rcases cov p hp with ⟨h, hle⟩ | ⟨u, v, hu, hv, huv, h5, h6, h7⟩
      · have := Int.mul_le_mul_of_nonneg_right (show y' p - y i ≤ y p - y i by omega) (show 0 ≤ j - i by omega)
        exact Int.le_trans this (h2 p h)
      · have a := Int.mul_le_mul_of_nonneg_right (h2 u hu) (show 0 ≤ v - p by omega)
        have b := Int.mul_le_mul_of_nonneg_right (h2 v hv) (show 0 ≤ p - u by omega)
        have d := Int.mul_le_mul_of_nonneg_right h7 (show 0 ≤ j - i by omega)
        refine mul_le_cancel (c := v - u) (by omega) ?_
        grind
    · obtain ⟨_, eh⟩ := ht h (by rw [e]; simp)
      have := h3 h r' e
      unfold Stp at this ⊢
      rw [ej, ei, eh]; exact this
theorem hull_unique {F : Int → Prop} {y : Int → Int} : ∀ {r1 r2 : List Int} {j : Int}, HullR F y (j :: r1) → HullR F y (j :: r2) → r1 = r2
  | [], [], _, _, _ => rfl
  | [], i :: r, j, ⟨_, g⟩, h2 => by
    have := g i h2.tail.head
    have := h2.2.1
    omega
  | i :: r, [], j, h1, ⟨_, g⟩ => by
    have := g i h1.tail.head
    have := h1.2.1
    omega
  | i1 :: r1, i2 :: r2, j, h1, h2 => by
    have key : ∀ {i1 i2 : Int} {r1 r2 : List Int}, HullR F y (j :: i1 :: r1) → HullR F y (j :: i2 :: r2) → ¬ i1 < i2 := fun {i1 i2 r1 r2} h1 h2 hlt => by
      have f1 := h1.tail.head
      have f2 := h2.tail.head
      have a := h1.2.2.1 i2 f2
      have hj := h2.2.1
      cases r2 with
      | nil => have := h2.tail.2 i1 f1; omega
      | cons h r2 =>
        have st := h2.2.2.2.1 h r2 rfl
        have hs : Sup F y h i2 := by cases r2 <;> exact h2.tail.2.2.1
        have hh : h < i2 := by cases r2 <;> exact h2.tail.2.1
        have b := hs i1 f1
        unfold Stp at st
        have c1 := Int.mul_lt_mul_of_pos_right st (show 0 < i2 - i1 by omega)
        have b1 := Int.mul_le_mul_of_nonneg_right b (show 0 ≤ j - i2 by omega)
        have a1 := Int.mul_le_mul_of_nonneg_right a (show 0 ≤ i2 - h by omega)
        grind
    have e : i1 = i2 := by
      have := key h1 h2
      have := key h2 h1
      omega
    subst e
    rw [hull_unique h1.tail h2.tail]
theorem hull_uniq {F : Int → Prop} {y : Int → Int} {r1 r2 : List Int} (h1 : HullR F y r1) (h2 : HullR F y r2) (t1 : ∀ p, F p → ∃ t r, r1 = t :: r ∧ p ≤ t) (t2 : ∀ p, F p → ∃ t r, r2 = t :: r ∧ p ≤ t) : r1 = r2 := by
  cases r1 with
  | nil => cases r2 with
    | nil => rfl
    | cons j r => obtain ⟨t, r', h, _⟩ := t1 j h2.head; cases h
  | cons j r => cases r2 with
    | nil => obtain ⟨t, r', h, _⟩ := t2 j h1.head; cases h
    | cons j' r' =>
      obtain ⟨t, r3, h, h3⟩ := t1 j' h2.head
      cases h
      obtain ⟨t, r3, h, h4⟩ := t2 j h1.head
      cases h
      have e : j = j' := by omega
      subst e
      rw [hull_unique h1 h2]
theorem floI_div {a b : Int} (hb : 0 < b) (ha : -1000000000000000 ≤ a ∧ a ≤ 1000000000000000) : floI a b = a / b := by
  have h1 := Int.tdiv_mul_add_tmod a b
  have h2 := Int.tmod_lt_of_pos a hb
  have h3 : -b < a.tmod b := by
    have := Int.tmod_lt_of_pos (-a) hb
    rw [Int.neg_tmod] at this
    omega
  have h4 : -1000000000000000 ≤ a.tdiv b ∧ a.tdiv b ≤ 1000000000000000 := by
    have := Int.natAbs_tdiv_le_natAbs a b
    omega
  unfold floI
  by_cases h : a.tmod b < 0
  · rw [decide_eq_true h, cond_true, w64_eq (a.tdiv b) (by omega), w64_eq _ (by omega)]
    refine ((Int.ediv_emod_unique hb).2 ⟨(?_ : a.tmod b + b + b * (a.tdiv b - 1) = a), ?_, ?_⟩).1.symm
    · rw [Int.mul_sub, Int.mul_comm b]; omega
    · omega
    · omega
  · rw [decide_eq_false h, cond_false, w64_eq (a.tdiv b) (by omega)]
    refine ((Int.ediv_emod_unique hb).2 ⟨(?_ : a.tmod b + b * a.tdiv b = a), ?_, ?_⟩).1.symm
    · rw [Int.mul_comm b]; omega
    · omega
    · omega
def chord (y : Int → Int) (i k p : Int) : Int := (y i * (k - p) + y k * (p - i)) / (k - i)
theorem chord_le {y : Int → Int} {i k p : Int} (h : i < k) : chord y i k p * (k - i) ≤ y i * (k - p) + y k * (p - i) := Int.ediv_mul_le _ (by omega)
theorem le_chord {y : Int → Int} {i k p v : Int} (h : i < k) (hv : v * (k - i) ≤ y i * (k - p) + y k * (p - i)) : v ≤ chord y i k p := (Int.le_ediv_iff_mul_le (by omega)).2 hv
theorem chord_left {y : Int → Int} {i k : Int} (h : i < k) : chord y i k i = y i := by
  unfold chord
  rw [Int.sub_self, Int.mul_zero, Int.add_zero, Int.mul_ediv_cancel _ (by omega)]
theorem chord_right {y : Int → Int} {i k : Int} (h : i < k) : chord y i k k = y k := by
  unfold chord
  rw [Int.sub_self, Int.mul_zero, Int.zero_add, Int.mul_ediv_cancel _ (by omega)]
theorem chord_bd {y : Int → Int} {i k p : Int} (h : i < k) (h1 : i ≤ p) (h2 : p ≤ k) (bi : -1000000 ≤ y i ∧ y i ≤ 1000000) (bk : -1000000 ≤ y k ∧ y k ≤ 1000000) : -1000000 ≤ chord y i k p ∧ chord y i k p ≤ 1000000 := by
  have a1 := Int.mul_le_mul_of_nonneg_right bi.1 (show 0 ≤ k - p by omega)
  have a2 := Int.mul_le_mul_of_nonneg_right bi.2 (show 0 ≤ k - p by omega)
  have b1 := Int.mul_le_mul_of_nonneg_right bk.1 (show 0 ≤ p - i by omega)
  have b2 := Int.mul_le_mul_of_nonneg_right bk.2 (show 0 ≤ p - i by omega)
  refine ⟨le_chord h (by omega), ?_⟩
  refine mul_le_cancel (c := k - i) (by omega) (Int.le_trans (chord_le h) (by omega))
theorem yC_set {l : List Int} {n p v : Int} (h0 : 0 ≤ n) (h1 : n < l.length) (hp : 0 ≤ p) : yC (l.set n.toNat v) p = if p = n then v else yC l p := by
  unfold yC
  by_cases e : p = n
  · subst e; rw [if_pos rfl, List.getElem?_set_self (by omega)]; rfl
  · rw [if_neg e, List.getElem?_set_ne (by omega)]
theorem yC_conv {l : List Int} {p : Int} (h0 : 0 ≤ p) (h1 : p < l.length) : M.Conv (M.idx l p) (yC l p) := by
  refine M.Conv_get h0 ?_
  unfold yC
  rw [List.getElem?_eq_getElem (by omega)]; rfl
theorem yC_ext {l l' : List Int} (hl : l.length = l'.length) (h : ∀ p : Int, 0 ≤ p → p < l.length → yC l p = yC l' p) : l = l' := by
  refine List.ext_getElem hl fun i h1 h2 => ?_
  have := h (i : Int) (by omega) (by omega)
  unfold yC at this
  rw [Int.toNat_natCast, List.getElem?_eq_getElem h1, List.getElem?_eq_getElem h2] at this
  exact this
/-- f: on the vertices ts, up to number m, the full polynomial of c -/
structure FullV (n : Nat) (y : Int → Int) (ts : List Int) (m : Nat) (f : List Int) : Prop where
  len : f.length = n
  pt : ∀ t : Int, ts[0]? = some t → yC f t = y t
  seg : ∀ (q : Nat) (i k p : Int), q < m → ts[q]? = some i → ts[q + 1]? = some k → i ≤ p → p ≤ k → yC f p = chord y i k p
  out : ∀ p : Int, 0 ≤ p → p < n → (∀ t : Int, ts[0]? = some t → p < t) ∨ (∀ t : Int, ts[m]? = some t → t < p) → yC f p = -1000000000000000
structure TsOK (c ts : List Int) : Prop where
  bd : ∀ t ∈ ts, termB c c.length t
  inc : List.Pairwise (fun a b => a < b) ts
  ne : ts ≠ []
theorem TsOK.at {c ts : List Int} (h : TsOK c ts) {q : Nat} {t : Int} (ht : ts[q]? = some t) : 0 ≤ t ∧ t < c.length ∧ (-1000000 ≤ yC c t ∧ yC c t ≤ 1000000) := by
  obtain ⟨a, b, x, hx, hb⟩ := h.bd t (List.mem_of_getElem? ht)
  refine ⟨a, b, ?_⟩
  unfold yC
  rw [hx]
  exact finB_bd hb
theorem TsOK.lt {c ts : List Int} (h : TsOK c ts) {p q : Nat} {s t : Int} (hs : ts[p]? = some s) (ht : ts[q]? = some t) (hpq : p < q) : s < t := by
  obtain ⟨h1, e1⟩ := List.getElem?_eq_some_iff.1 hs
  obtain ⟨h2, e2⟩ := List.getElem?_eq_some_iff.1 ht
  have := List.pairwise_iff_getElem.1 h.inc p q h1 h2 hpq
  rw [e1, e2] at this; exact this
theorem ts_of {c : List Int} (h : polyB c = true) : TsOK c (hullL c c.length).reverse ∧ M.Conv (spec_l09Terms c) (hullL c c.length).reverse ∧ M.Conv (impl_essentialTerms c) (hullL c c.length).reverse := by
  obtain ⟨h1, h2, h3⟩ := polyB_len h
  have hv := List.all_eq_true.1 h2
  obtain ⟨a, b, d⟩ := hullL_good hv c.length (Nat.le_refl _)
  have ht := terms_hull h1 h2
  obtain ⟨t, k1, k2, _, _, tne, _⟩ := terms_ok h1 h2
  have e := k1.unique ht
  subst e
  refine ⟨⟨fun t ht => b t (by simpa using ht), by rw [List.pairwise_reverse]; exact d, tne h3⟩, ht, k2⟩
theorem full_spec {c : List Int} (h : polyB c = true) : ∃ f, M.Conv (spec_FullPolynomial c) (f, 0) ∧ FullV c.length (yC c) (hullL c c.length).reverse ((hullL c c.length).reverse.length - 1) f := by
  obtain ⟨h1, h2, h3⟩ := polyB_len h
  obtain ⟨hts, ht, _⟩ := ts_of h
  generalize (hullL c c.length).reverse = ts at hts ht ⊢
  have hne := List.length_pos_iff.2 hts.ne
  obtain ⟨t0, g0⟩ : ∃ t, ts[0]? = some t := ⟨_, List.getElem?_eq_getElem hne⟩
  have hlt := (List.getElem?_eq_some_iff.1 g0).1
  obtain ⟨p0, p1, p2⟩ := hts.at g0
  let B : List Int := List.replicate c.length (-1000000000000000)
  have hB : B.length = c.length := by simp [B]
  have yB : ∀ p : Int, 0 ≤ p → p < c.length → yC B p = -1000000000000000 := fun p a b => by
    unfold yC
    rw [show B = List.replicate c.length (-1000000000000000) from rfl, List.getElem?_replicate, if_pos (by omega)]; rfl
  have tslen : ts.length ≤ 12 := by
    have := hts.inc
    have hb := hts.bd
    have : ∀ (l : List Int) (lo : Int), List.Pairwise (fun a b => a < b) l → (∀ t ∈ l, lo ≤ t ∧ t < c.length) → (l.length : Int) ≤ max 0 (c.length - lo) := by
      intro l
      induction l with
      | nil => intro lo _ _; simp; omega
      | cons a l ih =>
        intro lo hp hm
        have := ih (a + 1) (List.pairwise_cons.1 hp).2 fun t ht => ⟨(List.pairwise_cons.1 hp).1 t ht, (hm t (List.mem_cons_of_mem _ ht)).2⟩
        have := hm a List.mem_cons_self
        simp only [List.length_cons]
        omega
    have := this ts 0 hts.inc fun t ht => ⟨(hb t ht).1, (hb t ht).2.1⟩
    omega
  refine (show M.TC (spec_FullPolynomial c) (fun w => w.2 = 0 ∧ FullV c.length (yC c) ts (ts.length - 1) w.1) from ?_) |> fun ⟨w, k1, k2, k3⟩ => ⟨w.1, by rw [← k2]; exact k1, k3⟩
  unfold spec_FullPolynomial
  have gt0 : M.Conv (M.idx ts 0) t0 := M.Conv_get (by omega) g0
  have uB : M.Conv (M.upd B t0 (yC c t0)) (B.set t0.toNat (yC c t0)) := by
    obtain ⟨q, rfl⟩ : ∃ q : Nat, t0 = q := ⟨t0.toNat, by omega⟩
    exact M.Conv_upd (by omega)
  refine M.TC_bindC (spec_IsPolynomial_ok (by omega)) (M.TC_ite (fun t => by rw [h] at t; cases t) (fun _ => M.TC_bindC ht (M.TC_bindC (spec_l02Bottom1_ok (by omega)) (M.TC_bindC (x := B) (M.Conv_get (by omega) rfl) (M.TC_bindC gt0 (M.TC_bindC gt0 (M.TC_bindC (yC_conv p0 p1) (M.TC_bindC (yC_conv (l := B) p0 (by omega)) (M.TC_bindC uB ?_))))))))) 
  refine M.TC_bind (M.TC_for (fun m f => FullV c.length (yC c) ts (m - 1).toNat f) _ (by omega) (by omega) ?_ (fun m f m0 m1 hI => ?_) (fun m f hm hI => ?_)) fun f hf => M.TC_ret ⟨rfl, hf⟩
  · refine ⟨by simpa using hB, fun t ht => ?_, fun q i k p hq => by simp at hq, fun p q0 q1 hp => ?_⟩
    · rw [g0] at ht; cases ht
      rw [yC_set p0 (by omega) p0, if_pos rfl]
    · have hne : p ≠ t0 := by
        rcases hp with hp | hp
        · have := hp t0 g0; omega
        · have := hp t0 g0; omega
      rw [yC_set p0 (by omega) q0, if_neg hne]
      exact yB p q0 q1
  · obtain ⟨q, rfl⟩ : ∃ q : Nat, m = (q : Int) + 1 := ⟨(m - 1).toNat, by omega⟩
    have e1 : ((q : Int) + 1 - 1).toNat = q := by omega
    have e2 : ((q : Int) + 1 + 1 - 1).toNat = q + 1 := by omega
    rw [e1] at hI
    obtain ⟨i, gi⟩ : ∃ t, ts[q]? = some t := ⟨_, List.getElem?_eq_getElem (by omega)⟩
    obtain ⟨k, gk⟩ : ∃ t, ts[q + 1]? = some t := ⟨_, List.getElem?_eq_getElem (by omega)⟩
    obtain ⟨i0, i1, bi⟩ := hts.at gi
    obtain ⟨k0, k1, bk⟩ := hts.at gk
    have hik := hts.lt gi gk (by omega)
    have ga : M.Conv (M.idx ts (w64 ((q : Int) + 1 - 1))) i := by
      rw [w64_eq _ (by omega)]
      exact M.Conv_get (by omega) (by rw [e1]; exact gi)
    have gb : M.Conv (M.idx ts ((q : Int) + 1)) k := M.Conv_get (by omega) (by rw [show ((q : Int) + 1).toNat = q + 1 by omega]; exact gk)
    refine M.TC_bindC ga (M.TC_bindC gb ?_)
    rw [w64_eq (i + 1) (by omega)]
    have hfl := hI.len
    have endp : yC f i = yC c i := by
      cases q with
      | zero => exact hI.pt i gi
      | succ q =>
        obtain ⟨h', gh⟩ : ∃ t, ts[q]? = some t := ⟨_, List.getElem?_eq_getElem (by omega)⟩
        have := hts.lt gh gi (by omega)
        rw [hI.seg q h' i i (by omega) gh gi (by omega) (by omega), chord_right this]
    refine M.TC_bind (Mid := fun (r : List Int × Int) => r.1.length = c.length ∧ ∀ p : Int, 0 ≤ p → p < c.length → yC r.1 p = if i < p ∧ p ≤ k then chord (yC c) i k p else yC f p) (M.TC_loop (fun (s : List Int × Int) => s.1.length = c.length ∧ i < s.2 ∧ s.2 ≤ k + 1 ∧ ∀ p : Int, 0 ≤ p → p < c.length → yC s.1 p = if i < p ∧ p < s.2 then chord (yC c) i k p else yC f p) (fun s => (k + 1 - s.2).toNat) _ ⟨hfl, by simp only; omega, by simp only; omega, fun p _ _ => by rw [if_neg (by simp only; omega)]⟩ (fun s hs => ?_)) fun r hr => M.TC_ret (.inl ⟨_, rfl, ?_⟩)
    · obtain ⟨l, n⟩ := s
      obtain ⟨s1, s2, s3, s4⟩ := hs
      simp only at s1 s2 s3 s4
      refine M.TC_ite (fun b => ?_) (fun b => M.TC_ret (.inr ⟨_, rfl, s1, fun p q0 q1 => ?_⟩))
      · have b : n ≤ k := of_decide_eq_true b
        have b1 := mul_bd (a := yC c i) (b := k - n) (A := 1000000) (B := 12) (by omega) (by omega)
        have b2 := mul_bd (a := yC c k) (b := n - i) (A := 1000000) (B := 12) (by omega) (by omega)
        have hb0 : (w64 (k - i) != 0) = true := by rw [w64_eq _ (by omega)]; simp; omega
        have hfl2 : floI (w64 (w64 (yC c i * w64 (k - n)) + w64 (yC c k * w64 (n - i)))) (w64 (k - i)) = chord (yC c) i k n := by
          rw [w64_eq (k - n) (by omega), w64_eq (n - i) (by omega), w64_eq (k - i) (by omega), w64_eq (yC c i * (k - n)) (by omega), w64_eq (yC c k * (n - i)) (by omega), w64_eq _ (by omega)]
          exact floI_div (by omega) (by omega)
        have un : ∀ v, M.Conv (M.upd l n v) (l.set n.toNat v) := fun v => by
          have := M.Conv_upd (l := l) (i := n.toNat) (x := v) (by omega)
          rwa [show ((n.toNat : Nat) : Int) = n by omega] at this
        refine M.TC_bindC (yC_conv i0 i1) (M.TC_bindC (yC_conv k0 k1) (M.TC_bindC (spec_l01Floor_ok hb0) (M.TC_bindC (yC_conv (l := l) (p := n) (by omega) (by omega)) (M.TC_bindC (un _) (M.TC_ret (.inl ⟨_, rfl, ⟨by simpa using s1, ?_, ?_, fun p q0 q1 => ?_⟩, ?_⟩))))))
        · simp only; rw [w64_eq _ (by omega)]; omega
        · simp only; rw [w64_eq _ (by omega)]; omega
        · simp only
          rw [w64_eq (n + 1) (by omega), hfl2, yC_set (by omega) (by omega) q0]
          by_cases e : p = n
          · subst e; rw [if_pos rfl, if_pos (by omega)]
          · rw [if_neg e, s4 p q0 q1]
            by_cases e3 : i < p ∧ p < n
            · rw [if_pos e3, if_pos (by omega)]
            · rw [if_neg e3, if_neg (by omega)]
        · simp only; rw [w64_eq _ (by omega)]; omega
      · have b : ¬ n ≤ k := of_decide_eq_false b
        simp only
        rw [s4 p q0 q1, show n = k + 1 by omega]
        by_cases e3 : i < p ∧ p ≤ k
        · rw [if_pos e3, if_pos (by omega)]
        · rw [if_neg e3, if_neg (by omega)]
    · rw [e2]
      obtain ⟨r1, r2⟩ := hr
      have hi0 : ∀ t, ts[0]? = some t → t ≤ i := fun t ht => by
        by_cases e : q = 0
        · subst e; rw [gi] at ht; cases ht; exact Int.le_refl _
        · exact Int.le_of_lt (hts.lt ht gi (by omega))
      refine ⟨r1, fun t ht => ?_, fun q' i' k' p hq' gi' gk' hp1 hp2 => ?_, fun p q0 q1 hp => ?_⟩
      · obtain ⟨t0', t1', _⟩ := hts.at ht
        rw [r2 t t0' t1', if_neg (by have := hi0 t ht; omega)]
        exact hI.pt t ht
      · obtain ⟨a0, a1, _⟩ := hts.at gi'
        obtain ⟨b0, b1, _⟩ := hts.at gk'
        by_cases e : q' = q
        · subst e
          rw [gi] at gi'; cases gi'
          rw [gk] at gk'; cases gk'
          rw [r2 p (by omega) (by omega)]
          by_cases e3 : i < p
          · rw [if_pos ⟨e3, hp2⟩]
          · rw [if_neg (by omega)]
            obtain rfl : p = i := by omega
            rw [endp, chord_left hik]
        · have hk'i : k' ≤ i := by
            by_cases e4 : q' + 1 = q
            · subst e4; rw [gi] at gk'; cases gk'; exact Int.le_refl _
            · exact Int.le_of_lt (hts.lt gk' gi (by omega))
          rw [r2 p (by omega) (by omega), if_neg (by omega)]
          exact hI.seg q' i' k' p (by omega) gi' gk' hp1 hp2
      · have hpi : p < i ∨ k < p := by
          rcases hp with hp | hp
          · have := hp t0 g0; have := hi0 t0 g0; omega
          · have := hp k gk; omega
        rw [r2 p q0 q1, if_neg (by omega)]
        refine hI.out p q0 q1 (hp.imp id fun hp t ht => ?_)
        rw [gi] at ht; cases ht
        have := hp k gk; omega
  · rcases hm with rfl | ⟨rfl, hm⟩
    · rw [show ((ts.length : Int) - 1).toNat = ts.length - 1 by omega] at hI; exact hI
    · have : ts.length = 1 := by omega
      rw [this]; exact hI

theorem locate {c ts : List Int} (h : TsOK c ts) {p t0 : Int} (g0 : ts[0]? = some t0) (hp : t0 ≤ p) : ∀ (m : Nat) (tm : Int), ts[m]? = some tm → p ≤ tm → (∃ (q : Nat) (i k : Int), q < m ∧ ts[q]? = some i ∧ ts[q + 1]? = some k ∧ i ≤ p ∧ p ≤ k) ∨ (m = 0 ∧ p = t0)
  | 0, tm, gm, hm => by
    rw [g0] at gm; cases gm
    exact .inr ⟨rfl, by omega⟩
  | m + 1, tm, gm, hm => by
    have hl := (List.getElem?_eq_some_iff.1 gm).1
    obtain ⟨s, gs⟩ : ∃ t, ts[m]? = some t := ⟨_, List.getElem?_eq_getElem (by omega)⟩
    left
    by_cases e : p ≤ s
    · rcases locate h g0 hp m s gs e with ⟨q, i, k, a, b⟩ | ⟨rfl, rfl⟩
      · exact ⟨q, i, k, by omega, b⟩
      · exact ⟨0, _, tm, by omega, g0, gm, Int.le_refl _, hm⟩
    · exact ⟨m, s, tm, by omega, gs, gm, by omega, hm⟩
theorem hull_pair {F : Int → Prop} {y : Int → Int} : ∀ {rs : List Int}, HullR F y rs → ∀ (p : Nat) (i k : Int), rs[p]? = some k → rs[p + 1]? = some i → i < k ∧ Sup F y i k ∧ ∀ h, rs[p + 2]? = some h → Stp y h i k
  | [], _, p, i, k, h, _ => by simp at h
  | [_], _, p, i, k, _, h => by simp at h
  | j :: i' :: r, hh, 0, i, k, h1, h2 => by
    simp at h1 h2
    subst h1; subst h2
    refine ⟨hh.2.1, hh.2.2.1, fun h e => ?_⟩
    cases r with
    | nil => simp at e
    | cons h' r' => simp at e; subst e; exact hh.2.2.2.1 _ r' rfl
  | j :: i' :: r, hh, p + 1, i, k, h1, h2 => hull_pair hh.tail p i k (by simpa using h1) (by simpa using h2)
theorem rev_pair {rs : List Int} {q : Nat} {i k : Int} (h1 : rs.reverse[q]? = some i) (h2 : rs.reverse[q + 1]? = some k) : rs[rs.length - 2 - q]? = some k ∧ rs[rs.length - 2 - q + 1]? = some i := by
  have l2 := (List.getElem?_eq_some_iff.1 h2).1
  rw [List.length_reverse] at l2
  rw [List.getElem?_reverse (by omega)] at h1 h2
  rw [show rs.length - 2 - q + 1 = rs.length - 1 - q by omega, show rs.length - 2 - q = rs.length - 1 - (q + 1) by omega]
  exact ⟨h2, h1⟩
structure FullH (c f : List Int) : Prop where
  poly : polyB f = true
  len : f.length = c.length
  hull : hullL f f.length = hullL c c.length
  le : ∀ p : Int, 0 ≤ p → p < c.length → yC c p ≤ yC f p
  vert : ∀ t ∈ (hullL c c.length).reverse, yC f t = yC c t
theorem full_vert {c ts f : List Int} {y : Int → Int} {n : Nat} (hts : TsOK c ts) (hf : FullV n y ts (ts.length - 1) f) : ∀ t ∈ ts, yC f t = y t := fun t ht => by
  obtain ⟨q, hq, rfl⟩ := List.mem_iff_getElem.1 ht
  have gq : ts[q]? = some ts[q] := List.getElem?_eq_getElem hq
  cases q with
  | zero => exact hf.pt _ gq
  | succ q =>
    obtain ⟨s, gs⟩ : ∃ t, ts[q]? = some t := ⟨_, List.getElem?_eq_getElem (by omega)⟩
    have := hts.lt gs gq (by omega)
    rw [hf.seg q s _ _ (by omega) gs gq (by omega) (Int.le_refl _), chord_right this]
theorem full_hull {c f : List Int} (h : polyB c = true) (hf : FullV c.length (yC c) (hullL c c.length).reverse ((hullL c c.length).reverse.length - 1) f) : FullH c f := by
  obtain ⟨h1, h2, h3⟩ := polyB_len h
  obtain ⟨hts, _, _⟩ := ts_of h
  have hv := full_vert hts hf
  obtain ⟨hh, htop⟩ := hullL_ok (c := c) c.length (Nat.le_refl _)
  have hmem : ∀ t, t ∈ hullL c c.length ↔ t ∈ (hullL c c.length).reverse := fun t => by simp
  have hhead : ∀ t r, hullL c c.length = t :: r → (hullL c c.length).reverse[(hullL c c.length).reverse.length - 1]? = some t := fun t r e => by rw [e]; simp
  have hpair : ∀ (q : Nat) (i k : Int), (hullL c c.length).reverse[q]? = some i → (hullL c c.length).reverse[q + 1]? = some k → Sup (finK c c.length) (yC c) i k := fun q i k h1 h2 => by
    obtain ⟨g1, g2⟩ := rev_pair h1 h2
    exact (hull_pair hh _ i k g1 g2).2.1
  generalize hrs : hullL c c.length = rs at hts hf hv hh htop hmem hhead hpair ⊢
  generalize hte : rs.reverse = ts at hts hf hv hmem hhead hpair ⊢
  have hne := List.length_pos_iff.2 hts.ne
  obtain ⟨t0, g0⟩ : ∃ t, ts[0]? = some t := ⟨_, List.getElem?_eq_getElem hne⟩
  obtain ⟨tm, gm⟩ : ∃ t, ts[ts.length - 1]? = some t := ⟨_, List.getElem?_eq_getElem (by omega)⟩
  obtain ⟨a0, a1, a2⟩ := hts.at g0
  have htm : ∀ t r, rs = t :: r → t = tm := fun t r e => by
    have := hhead t r e
    rw [gm] at this; exact (Option.some.inj this).symm
  -- finite coefficients of c lie between the first and the last vertex
  have finrs : ∀ t ∈ rs, finK c c.length t := fun t ht => by
    obtain ⟨b0, b1, x, hx, hb⟩ := hts.bd t ((hmem t).1 ht)
    exact ⟨⟨b0, x, hx, fun e => by rw [e] at hb; simp [finB] at hb⟩, b1⟩
  have least : ∀ (l : List Int), HullR (finK c c.length) (yC c) l → l ≠ [] → ∀ p, finK c c.length p → ∃ t ∈ l, t ≤ p := by
    intro l
    induction l with
    | nil => exact fun _ hn => absurd rfl hn
    | cons j l ih =>
      intro hl _ p hp
      cases l with
      | nil => exact ⟨j, by simp, hl.2 p hp⟩
      | cons i r =>
        obtain ⟨t, ht, hle⟩ := ih hl.tail (by simp) p hp
        exact ⟨t, List.mem_cons_of_mem _ ht, hle⟩
  have rne : rs ≠ [] := fun e => by subst e; simp at hte; exact hts.ne hte
  have first : ∀ t ∈ ts, t0 ≤ t := fun t ht => by
    obtain ⟨q, hq, rfl⟩ := List.mem_iff_getElem.1 ht
    by_cases e : q = 0
    · subst e; rw [List.getElem?_eq_getElem hq] at g0; cases g0; exact Int.le_refl _
    · exact Int.le_of_lt (hts.lt g0 (List.getElem?_eq_getElem hq) (by omega))
  have low : ∀ p, finK c c.length p → t0 ≤ p := fun p hp => by
    obtain ⟨t, ht, hle⟩ := least rs hh rne p hp
    have := first t ((hmem t).1 ht)
    omega
  have up : ∀ p, finK c c.length p → p ≤ tm := fun p hp => by
    obtain ⟨t, r, e, hle⟩ := htop p hp
    rw [← htm t r e]; exact hle
  -- where f is finite
  have seg : ∀ p, t0 ≤ p → p ≤ tm → (∃ (i k : Int), i ∈ ts ∧ k ∈ ts ∧ i < k ∧ i ≤ p ∧ p ≤ k ∧ yC f p = chord (yC c) i k p ∧ Sup (finK c c.length) (yC c) i k) ∨ (p = t0 ∧ yC f p = yC c p) := fun p hp1 hp2 => by
    rcases locate hts g0 hp1 _ tm gm hp2 with ⟨q, i, k, b0, b1, b2, b3, b4⟩ | ⟨_, rfl⟩
    · exact .inl ⟨i, k, List.mem_of_getElem? b1, List.mem_of_getElem? b2, hts.lt b1 b2 (by omega), b3, b4, hf.seg q i k p b0 b1 b2 b3 b4, hpair q i k b1 b2⟩
    · exact .inr ⟨rfl, hf.pt _ g0⟩
  have bnd : ∀ t ∈ ts, -1000000 ≤ yC c t ∧ yC c t ≤ 1000000 := fun t ht => by
    obtain ⟨q, hq, rfl⟩ := List.mem_iff_getElem.1 ht
    exact (hts.at (List.getElem?_eq_getElem hq)).2.2
  have fin : ∀ p, t0 ≤ p → p ≤ tm → -1000000 ≤ yC f p ∧ yC f p ≤ 1000000 := fun p hp1 hp2 => by
    rcases seg p hp1 hp2 with ⟨i, k, hi, hk, hik, hp3, hp4, e, _⟩ | ⟨rfl, e⟩
    · rw [e]; exact chord_bd hik hp3 hp4 (bnd i hi) (bnd k hk)
    · rw [e]; exact a2
  have outp : ∀ p : Int, 0 ≤ p → p < c.length → ¬ (t0 ≤ p ∧ p ≤ tm) → yC f p = -1000000000000000 := fun p q0 q1 hn => by
    refine hf.out p q0 q1 ?_
    by_cases e : p < t0
    · left; intro t ht; rw [g0] at ht; cases ht; exact e
    · right; intro t ht; rw [gm] at ht; cases ht; omega
  have getf : ∀ p : Int, 0 ≤ p → p < c.length → f[p.toNat]? = some (yC f p) := fun p q0 q1 => by
    unfold yC
    rw [List.getElem?_eq_getElem (by rw [hf.len]; omega)]; rfl
  have tmb : tm < c.length := by have := (hts.at gm).2.1; exact this
  have finf : ∀ p, finK f c.length p ↔ t0 ≤ p ∧ p ≤ tm := fun p => by
    constructor
    · rintro ⟨⟨q0, x, hx, hn⟩, q1⟩
      refine Classical.byContradiction fun hc => hn ?_
      rw [getf p q0 q1, outp p q0 q1 hc] at hx
      exact (Option.some.inj hx).symm
    · rintro ⟨hp1, hp2⟩
      have := fin p hp1 hp2
      exact ⟨⟨by omega, _, getf p (by omega) (by omega), by omega⟩, by omega⟩
  have hlen := hf.len
  have finc : ∀ t ∈ ts, finK c c.length t := fun t ht => finrs t ((hmem t).2 ht)
  refine ⟨?_, hlen, ?_, fun p q0 q1 => ?_, by rw [hrs, hte]; exact hv⟩
  · unfold polyB
    rw [decide_eq_true (by omega), Bool.true_and, Bool.and_eq_true, List.all_eq_true, List.any_eq_true]
    refine ⟨fun x hx => ?_, ⟨yC f t0, List.mem_of_getElem? (getf t0 a0 a1), ?_⟩⟩
    · obtain ⟨i, hi, rfl⟩ := List.mem_iff_getElem.1 hx
      have e : f[i] = yC f (i : Int) := by unfold yC; rw [Int.toNat_natCast, List.getElem?_eq_getElem hi]; rfl
      rw [e]
      by_cases hc : t0 ≤ (i : Int) ∧ (i : Int) ≤ tm
      · have := fin i hc.1 hc.2
        simp only [valB, finB, Bool.or_eq_true, Bool.and_eq_true, decide_eq_true_eq]
        exact .inr this
      · rw [outp i (by omega) (by omega) hc]; rfl
    · have := fin t0 (Int.le_refl _) (up t0 (finc t0 (List.mem_of_getElem? g0)))
      simp; omega
  · rw [hlen, hrs]
    obtain ⟨gh, gtop⟩ := hullL_ok (c := f) c.length (by omega)
    refine hull_uniq gh (hull_transfer (fun p hp => ?_) rs hh fun t ht => ⟨(finf t).2 ⟨low t (finrs t ht), up t (finrs t ht)⟩, hv t ((hmem t).1 ht)⟩) gtop fun p hp => ?_
    · obtain ⟨hp1, hp2⟩ := (finf p).1 hp
      rcases seg p hp1 hp2 with ⟨i, k, hi, hk, hik, hp3, hp4, e, _⟩ | ⟨rfl, e⟩
      · right
        refine ⟨i, k, finc i hi, finc k hk, hik, hp3, hp4, ?_⟩
        rw [e]; exact chord_le hik
      · left
        exact ⟨finc _ (List.mem_of_getElem? g0), by omega⟩
    · obtain ⟨hp1, hp2⟩ := (finf p).1 hp
      obtain ⟨t, r, e⟩ := List.exists_cons_of_ne_nil rne
      exact ⟨t, r, e, by rw [htm t r e]; exact hp2⟩
  · by_cases hc : finK c c.length p
    · rcases seg p (low p hc) (up p hc) with ⟨i, k, hi, hk, hik, hp3, hp4, e, hs⟩ | ⟨_, e⟩
      · rw [e]
        refine le_chord hik ?_
        have := hs p hc
        grind
      · omega
    · have e : yC c p = -1000000000000000 := by
        refine Classical.byContradiction fun hn => hc ⟨⟨q0, _, ?_, hn⟩, q1⟩
        unfold yC
        rw [List.getElem?_eq_getElem (by omega)]; rfl
      rw [e]
      by_cases hc2 : t0 ≤ p ∧ p ≤ tm
      · have := fin p hc2.1 hc2.2; omega
      · rw [outp p q0 q1 hc2]; exact Int.le_refl _
theorem same_list {l : List Int} (h : l.length ≤ 9223372036854775807) : M.Conv (spec_l01Same l l) true := (spec_l01Same_ok h).of (by simp)
theorem below9_ok {a b : List Int} (ha : a.length ≤ 9223372036854775807) (hl : a.length = b.length) (h : ∀ p : Int, 0 ≤ p → p < a.length → yC a p ≤ yC b p) : M.Conv (laws_below9 a b) true := by
  unfold laws_below9
  refine M.Conv_ite (fun t => by simp [hl] at t) (fun _ => M.Conv_bind (M.Conv_all (fun _ => true) false ha fun i x hx => ?_) ?_)
  · have hi := (List.getElem?_eq_some_iff.1 hx).1
    have e : x = yC a (i : Int) := by unfold yC; rw [Int.toNat_natCast, hx]; rfl
    refine M.Conv_bind (M.Conv_get (by omega) (by simpa using hx)) (M.Conv_bind (yC_conv (by omega) (by omega)) (M.Conv_ite (fun t => ?_) (fun _ => M.Conv_ret _)))
    have := of_decide_eq_true t
    have := h (i : Int) (by omega) (by omega)
    omega
  · rw [show (a.all fun _ => true) = true by simp]; exact M.Conv_ret _
theorem FnFullPolynomials_ok (code : List Int) (h : fitL inU8 code) : M.Conv (laws_FnFullPolynomials code) true := by
  apply M.TC.conv
  unfold laws_FnFullPolynomials
  refine M.TC_bindC (big_ok code) (M.TC_ite (fun _ => M.TC_ret rfl) (fun hb => ?_))
  have hbc := ByC.of h hb
  have hd : M.TC (spec_DrawFullPolynomial code) PolS := by
    unfold spec_DrawFullPolynomial
    exact M.TC_bind (from_ok hbc) fun s hs => M.TC_bind (draw9_ok hbc hs) fun x hx => M.TC_ret ⟨hx.1, hx.2.1, hx.2.2.1⟩
  have hd2 : M.TC (spec_DrawSameFunction code) (fun r => PolS r.1 ∧ PolS r.2) := by
    unfold spec_DrawSameFunction
    exact M.TC_bind (from_ok hbc) fun s hs => M.TC_bind (drawTwo_ok hbc hs) fun x hx => M.TC_ret ⟨hx.1, hx.2.1⟩
  refine M.TC_bind hd fun c hc => ?_
  obtain ⟨w1, p1, q1, s1, _⟩ := full_Two c hc.vec.fit hc.vec.sm
  refine M.TC_bindC q1 (M.TC_bindC p1 (M.TC_bind hd2 fun r hr => ?_))
  obtain ⟨a, b⟩ := r
  obtain ⟨ha, hb2⟩ := hr
  simp only at ha hb2 ⊢
  obtain ⟨w2, p2, q2, _⟩ := same_SameFunction a ha.vec.fit b hb2.vec.fit ha.vec.sm hb2.vec.sm
  obtain ⟨w3, p3, q3, s3⟩ := same_EssentialTerms c hc.vec.fit hc.vec.sm
  refine M.TC_bindC q2 (M.TC_bindC p2 (M.TC_bindC q3 (M.TC_bindC p3 ?_)))
  have c1 : M.Conv (M.ite (w1.2 != w1.2) (M.ret true) (M.bind (laws_likeInts w1.1 w1.1) (fun x11 => M.ret (!x11)))) false := cmp_list0 s1
  have c3 : M.Conv (M.ite (((false || (w2.2 != w2.2)) || (!(w2.1 == w2.1))) || (w3.2 != w3.2)) (M.ret true) (M.bind (laws_likeInts w3.1 w3.1) (fun x16 => M.ret (!x16)))) false := cmp_list s3 _ (by simp)
  refine M.TC_bindC c1 (M.TC_bindC c3 (M.TC_ite (fun t => by cases t) (fun _ => M.TC_ite (fun _ => M.TC_ret rfl) (fun t => ?_))))
  have t : w1.2 = 0 := by simpa using t
  have hcl := hc.len
  have hp : polyB c = true := by
    cases hp : polyB c with
    | true => rfl
    | false =>
      have : M.Conv (spec_FullPolynomial c) ([], 1) := by
        unfold spec_FullPolynomial
        exact M.Conv_bind (spec_IsPolynomial_ok (by omega)) (M.Conv_ite (fun _ => M.Conv_ret _) (fun t => by rw [hp] at t; cases t))
      have := p1.unique this
      rw [this] at t; cases t
  obtain ⟨f, f1, f2⟩ := full_spec hp
  have e1 := p1.unique f1
  have hf := full_hull hp f2
  obtain ⟨hts, k1, k2⟩ := ts_of hp
  have hfl := hf.len
  obtain ⟨htf, k3, k4⟩ := ts_of hf.poly
  rw [hf.hull] at htf k3 k4
  have e3 : w3 = ((hullL c c.length).reverse, 0) := by
    have : M.Conv (spec_EssentialTerms c) ((hullL c c.length).reverse, 0) := by
      unfold spec_EssentialTerms
      exact M.Conv_bind (spec_IsPolynomial_ok (by omega)) (M.Conv_ite (fun t => by rw [hp] at t; cases t) (fun _ => M.Conv_bind k1 (M.Conv_ret _)))
    exact p3.unique this
  rw [e1, e3]
  simp only
  -- the full polynomial is a polynomial of values
  have hfit : fitL inI64 f := ⟨by omega, fun x hx => by
    have := polyB_len hf.poly
    have := val_cases (List.all_eq_true.1 this.2.1 x hx)
    unfold inI64; omega⟩
  have hsm : smI f := by unfold smI; omega
  have hsame : M.Conv (impl_SameFunction c f) (true, 0) := by
    obtain ⟨w, r1, r2, _⟩ := same_SameFunction c hc.vec.fit f hfit hc.vec.sm hsm
    have : M.Conv (spec_SameFunction c f) (true, 0) := by
      unfold spec_SameFunction
      refine M.Conv_bind (spec_IsPolynomial_ok (by omega)) (M.Conv_bind (x := false) (M.Conv_ite (fun t => by rw [hp] at t; cases t) (fun _ => M.Conv_bind (spec_IsPolynomial_ok (by omega)) ((M.Conv_ret _).of (by rw [hf.poly]; rfl)))) (M.Conv_ite (fun t => by cases t) (fun _ => M.Conv_bind k1 (M.Conv_bind k3 ?_))))
      have hl : (hullL c c.length).reverse.length ≤ 9223372036854775807 := by
        obtain ⟨a, _⟩ := hullL_good (List.all_eq_true.1 (polyB_len hp).2.1) c.length (Nat.le_refl _)
        rw [List.length_reverse]; omega
      refine M.Conv_bind (same_list hl) (M.Conv_ite (fun t => by cases t) (fun _ => M.Conv_bind (M.Conv_all (fun _ => true) (false, (0 : Int)) hl fun i x hx => ?_) ?_))
      · have gx : M.Conv (M.idx (hullL c c.length).reverse (i : Int)) x := M.Conv_get (by omega) (by simpa using hx)
        obtain ⟨x0, x1, _⟩ := hts.at hx
        refine M.Conv_bind gx (M.Conv_bind (yC_conv x0 x1) (M.Conv_bind gx (M.Conv_bind (yC_conv (l := f) x0 (by omega)) (M.Conv_ite (fun t => ?_) (fun _ => M.Conv_ret _)))))
        rw [hf.vert x (List.mem_of_getElem? hx)] at t
        simp at t
      · rw [List.all_eq_true.2 fun _ _ => rfl]
        exact M.Conv_ret _
    exact r2.of (r1.unique this)
  have hagain : M.Conv (impl_FullPolynomial f) (f, 0) := by
    obtain ⟨w, r1, r2, _⟩ := full_Two f hfit hsm
    obtain ⟨f', g1, g2⟩ := full_spec hf.poly
    rw [hf.hull] at g2
    have ef : f' = f := by
      refine yC_ext (by rw [g2.len]) fun p q0 q1 => ?_
      rw [g2.len] at q1
      have hne := List.length_pos_iff.2 hts.ne
      obtain ⟨t0, g0⟩ : ∃ t, (hullL c c.length).reverse[0]? = some t := ⟨_, List.getElem?_eq_getElem hne⟩
      obtain ⟨tm, gm⟩ : ∃ t, (hullL c c.length).reverse[(hullL c c.length).reverse.length - 1]? = some t := ⟨_, List.getElem?_eq_getElem (by omega)⟩
      by_cases hc1 : p < t0
      · have ho : (∀ t, (hullL c c.length).reverse[0]? = some t → p < t) ∨ (∀ t, (hullL c c.length).reverse[(hullL c c.length).reverse.length - 1]? = some t → t < p) := .inl fun t ht => by rw [g0] at ht; cases ht; exact hc1
        rw [g2.out p q0 q1 ho, f2.out p q0 (by omega) ho]
      · by_cases hc2 : tm < p
        · have ho : (∀ t, (hullL c c.length).reverse[0]? = some t → p < t) ∨ (∀ t, (hullL c c.length).reverse[(hullL c c.length).reverse.length - 1]? = some t → t < p) := .inr fun t ht => by rw [gm] at ht; cases ht; exact hc2
          rw [g2.out p q0 q1 ho, f2.out p q0 (by omega) ho]
        · rcases locate (p := p) hts g0 (by omega) _ tm gm (by omega) with ⟨q, i, k, b0, b1, b2, b3, b4⟩ | ⟨_, rfl⟩
          · rw [g2.seg q i k p b0 b1 b2 b3 b4, f2.seg q i k p b0 b1 b2 b3 b4]
            unfold chord
            rw [hf.vert i (List.mem_of_getElem? b1), hf.vert k (List.mem_of_getElem? b2)]
          · rw [g2.pt _ g0]
    rw [ef] at g1
    exact r2.of (r1.unique g1)
  have hl : (hullL c c.length).reverse.length ≤ 9223372036854775807 := by
    obtain ⟨a, _⟩ := hullL_good (List.all_eq_true.1 (polyB_len hp).2.1) c.length (Nat.le_refl _)
    rw [List.length_reverse]; omega
  have d1 : M.Conv (M.ite ((((0 : Int) != 0) || (!true)) || ((0 : Int) != 0)) (M.ret true) (M.bind (laws_likeInts f f) (fun x22 => M.ret (!x22)))) false := M.Conv_ite (fun t => by simp at t) (fun _ => M.Conv_bind (likeInts_refl (by omega)) (M.Conv_ret _))
  refine M.TC_bindC hsame (M.TC_bindC hagain (M.TC_bindC d1 (M.TC_bindC (x := false) (M.Conv_ite (fun t => by cases t) (fun _ => M.Conv_bind (below9_ok (by omega) (by omega) hf.le) (M.Conv_ret _))) (M.TC_ite (fun t => by cases t) (fun _ => ?_)))))
  refine M.TC_bindC (x := (Sum.inl () : Unit ⊕ Bool)) ?_ (M.TC_ret rfl)
  refine (M.Conv_all (fun _ => true) false hl fun i x hx => ?_).of (by rw [List.all_eq_true.2 fun _ _ => rfl]; rfl)
  have gx : M.Conv (M.idx (hullL c c.length).reverse (i : Int)) x := M.Conv_get (by omega) (by simpa using hx)
  obtain ⟨x0, x1, _⟩ := hts.at hx
  refine M.Conv_bind gx (M.Conv_bind (yC_conv (l := f) x0 (by omega)) (M.Conv_bind gx (M.Conv_bind (yC_conv x0 x1) (M.Conv_ite (fun t => ?_) (fun _ => M.Conv_ret _)))))
  rw [hf.vert x (List.mem_of_getElem? hx)] at t
  simp at t

end Go.Proofs.Ytjdcdcipilhmeaa
